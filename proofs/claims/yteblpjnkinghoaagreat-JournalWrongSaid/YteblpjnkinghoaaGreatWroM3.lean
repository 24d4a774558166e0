/- Lemmas and contracts (part 3) on which the claim's last text leans: The law JournalWrong holds of every input: it returns true, and its arguments read behind the call as they read before. Conditions: none. -/
import Derived.Shelf.Spec.SlicesInsert
import Derived.Laws.CopyOwn
import Derived.StillTailTactics
import Derived.Deep.RegionLaw
import Derived.Lib.Bytealg
import Derived.Lib.SliceRun
import Derived.Test.YteblpjnkinghoaaGreatWroM1
import Derived.Test.YteblpjnkinghoaaGreatWroM2
set_option linter.unusedVariables false
set_option linter.unusedSimpArgs false
namespace Go.Proofs.YteblpjnkinghoaaGreat.J
open Go.RowKit Go.Proofs.YteblpjnkinghoaaGreatW.PrintWords Go.Proofs.YteblpjnkinghoaaGreatW.PrintLast Go.Proofs.YteblpjnkinghoaaGreatW.PrintMore
attribute [local go_sem] max2_int min2_int max_two min_two max_three min_three max_four min_four   -- for this text's walks alone
set_option linter.unusedVariables false
set_option linter.unusedSimpArgs false
/-! ### ringworkref25_Wrong: function 7 -/
def ringworkref25_Wrong.l0 : Nat → List (S43) → Int → Option (Int × Int)
  | 0, _, _ => none
  | k + 1, x0, x4 => if x4 < (x0.length : Int) then ((ringworkref25_wrong.f k x0 x4).bind fun t134 => (if t134 = 0 then (ringworkref25_Wrong.l0 k x0 (wrap64 (x4 + 1))) else (some (x4, t134)))) else (some ((-1), 0))
def ringworkref25_Wrong.f (k : Nat) (l0 : List (S43)) : Option (Int × Int) := (ringworkref25_notes.f k l0).bind fun t133 => (if t133 = true then (ringworkref25_Wrong.l0 k l0 0) else (some (0, 1)))
set_option maxHeartbeats 8000000 in
set_option maxRecDepth 100000 in
theorem ringworkref25_Wrong.calls (k : Nat) (A0 : Option Addr) (c0 : Nat) (l0 : List (S43)) (r1 : Int) (r2 : Int) (w : World) (hr0 : Kd.C k43 w A0 l0.length l0) (hc0 : l0.length ≤ c0) (h : ringworkref25_Wrong.f k l0 = some (r1, r2)) :
    Calls Tryz.prog 7 #[.slice A0 l0.length c0] w fun e w' => e = .returned (.tuple #[.int .i64 r1, .int .i64 r2]) ∧ Below w.heap.size w w' := by
  have HR0 := Aside0.mk hr0
  have HC0 := Aside0.mk hc0
  clear hr0 hc0
  have HB := Aside0.mk (Below.refl w.heap.size w)
  have H : ((ringworkref25_notes.f k l0).bind fun t133 => (if t133 = true then (ringworkref25_Wrong.l0 k l0 0) else (some (0, 1)))) = some (r1, r2) := h
  clear h
  replace H := Option.bind_eq_some_iff.mp H
  obtain ⟨t133, A20, H⟩ := H
  replace H : (if t133 = true then (ringworkref25_Wrong.l0 k l0 0) else (some (0, 1))) = some (r1, r2) := H
  have A2 := Aside0.mk A20
  clear A20
  by_cases c3 : t133 = true
  · subst c3
    have H1 : (ringworkref25_Wrong.l0 k l0 0) = some (r1, r2) := by rw [if_pos rfl] at H; exact H
    clear H
    have H := H1
    clear H1
    have H' := Aside0.mk H
    clear H
    go_enter Tryz.func7, Tryz.ntmps7
    go_wp2_with (first | ((with_reducible refine gate_callee (f := 25) rfl ?_); refine goesL_ (some 7) rfl rfl Tryz.func25 (by kernel_rfl) rfl #[.slice A0 l0.length c0] rfl (by (try simp only [List.map_toArray, List.map_cons, List.map_nil]); first | done | rfl | (simp only [List.length_drop, List.length_take]; rfl)) ?_; (with_reducible refine (ringworkref25_notes.calls k _ _ l0 true _ ?side1 ?side2 A2.out).mono ?_); (case side1 => repeat (first | exact HR0.out | (with_reducible refine Kd.C_alloc ?_ _) | (with_reducible refine Kd.C_drewN ?_ _) | (with_reducible refine Kd.C_drew ?_))); (case side2 => exact HC0.out); rintro e w4 ⟨rfl, hb⟩; refine ⟨_, rfl, ?_⟩; have n0_ := Aside0.mk (below_step (by repeat (first | (with_reducible first | exact HB.out | apply below_alloc | apply pw_below_drewN | apply below_drew1) | exact HB.out)) hb); clear HB; have HB := n0_; clear n0_; (try clear hb); (try clear hb2); (try clear hk); (try clear hi)))
    go_loopg [4] k (fun kq v4 w' => ∃ (x4_1 : Int), v4 = .int .i64 x4_1 ∧ Aside0 (ringworkref25_Wrong.l0 kq l0 x4_1 = some (r1, r2)) ∧ Aside0 (kq ≤ k) ∧ Aside0 (Below w.heap.size w w'))
    case atStart => exact ⟨(0), (by first | rfl | (simp; done) | (simp [*]; done)), H', ⟨Nat.le_refl _⟩, ⟨by repeat (first | (with_reducible first | exact HB.out | apply below_alloc | apply pw_below_drewN | apply below_drew1) | exact HB.out)⟩⟩
    case round =>
      clear H'
      try clear c2
      try clear p2
      try clear c3
      obtain ⟨x4_1, rfl, HA, HK1, HB⟩ := hrel
      cases gk with
      | zero => exact absurd HA.out (by simp [ringworkref25_Wrong.l0])
      | succ k1 =>
        have H := HA.out
        clear HA
        simp only [ringworkref25_Wrong.l0] at H
        by_cases c5 : x4_1 < (l0.length : Int)
        · rw [if_pos c5] at H
          have c5b0 : decide (x4_1 < (l0.length : Int)) = true := decide_eq_true c5
          clear c5
          replace H := Option.bind_eq_some_iff.mp H
          obtain ⟨t134, A60, H⟩ := H
          replace H : (if t134 = 0 then (ringworkref25_Wrong.l0 k1 l0 (wrap64 (x4_1 + 1))) else (some (x4_1, t134))) = some (r1, r2) := H
          have A6 := Aside0.mk A60
          clear A60
          by_cases c7 : t134 = 0
          · rw [if_pos c7] at H
            have c7b0 : (t134 == 0) = true := beq_iff_eq.mpr c7
            have c7b1 : (t134 != 0) = false := bne_eq_false_iff_eq.mpr c7
            clear c7
            have H' := Aside0.mk H
            clear H
            go_wp2_with (first | ((with_reducible refine gate_callee (f := 26) rfl ?_); refine goesL_ (some 17) rfl rfl Tryz.func26 (by kernel_rfl) rfl #[.slice A0 l0.length c0, .int .i64 x4_1] rfl (by (try simp only [List.map_toArray, List.map_cons, List.map_nil]); first | done | rfl | (simp only [List.length_drop, List.length_take]; rfl)) ?_; (with_reducible refine (ringworkref25_wrong.calls k1 _ _ l0 x4_1 t134 _ ?side1 ?side2 A6.out).mono ?_); (case side1 => repeat (first | exact (Kd.C_below HR0.out HB.out) | (with_reducible refine Kd.C_alloc ?_ _) | (with_reducible refine Kd.C_drewN ?_ _) | (with_reducible refine Kd.C_drew ?_))); (case side2 => exact HC0.out); rintro e w8 ⟨rfl, hb⟩; refine ⟨_, rfl, ?_⟩; have n0_ := Aside0.mk (below_step (by repeat (first | (with_reducible first | exact HB.out | apply below_alloc | apply pw_below_drewN | apply below_drew1) | exact HB.out)) hb); clear HB; have HB := n0_; clear n0_; (try clear hb); (try clear hb2); (try clear hk); (try clear hi)))
            go_roundg k1
            case measure => have := HK1.out; omega
            case rel => exact ⟨(wrap64 (x4_1 + 1)), (by first | rfl | (simp; done) | (simp [*]; done)), H', ⟨by have := HK1.out; omega⟩, ⟨by repeat (first | (with_reducible first | exact HB.out | apply below_alloc | apply pw_below_drewN | apply below_drew1) | exact HB.out)⟩⟩
          · rw [if_neg c7] at H
            have c7b0 : (t134 == 0) = false := beq_eq_false_iff_ne.mpr c7
            have c7b1 : (t134 != 0) = true := bne_iff_ne.mpr c7
            simp only [Option.some.injEq, Prod.mk.injEq] at H
            obtain ⟨rfl, rfl⟩ := H
            go_wp2_with (first | ((with_reducible refine gate_callee (f := 26) rfl ?_); refine goesL_ (some 17) rfl rfl Tryz.func26 (by kernel_rfl) rfl #[.slice A0 l0.length c0, .int .i64 x4_1] rfl (by (try simp only [List.map_toArray, List.map_cons, List.map_nil]); first | done | rfl | (simp only [List.length_drop, List.length_take]; rfl)) ?_; (with_reducible refine (ringworkref25_wrong.calls k1 _ _ l0 x4_1 t134 _ ?side1 ?side2 A6.out).mono ?_); (case side1 => repeat (first | exact (Kd.C_below HR0.out HB.out) | (with_reducible refine Kd.C_alloc ?_ _) | (with_reducible refine Kd.C_drewN ?_ _) | (with_reducible refine Kd.C_drew ?_))); (case side2 => exact HC0.out); rintro e w9 ⟨rfl, hb⟩; refine ⟨_, rfl, ?_⟩; have n0_ := Aside0.mk (below_step (by repeat (first | (with_reducible first | exact HB.out | apply below_alloc | apply pw_below_drewN | apply below_drew1) | exact HB.out)) hb); clear HB; have HB := n0_; clear n0_; (try clear hb); (try clear hb2); (try clear hk); (try clear hi)))
            go_ret2
            exact ⟨by first | rfl | (simp [errW_none, errW_some] <;> rfl) | (simp [*, errW_none, errW_some] <;> rfl), by repeat (first | (with_reducible first | exact HB.out | apply below_alloc | apply pw_below_drewN | apply below_drew1) | exact HB.out)⟩
        · rw [if_neg c5] at H
          have c5b0 : decide (x4_1 < (l0.length : Int)) = false := decide_eq_false c5
          clear c5
          simp only [Option.some.injEq, Prod.mk.injEq] at H
          obtain ⟨rfl, rfl⟩ := H
          go_wp2
          go_ret2
          exact ⟨by first | rfl | (simp [errW_none, errW_some] <;> rfl) | (simp [*, errW_none, errW_some] <;> rfl), by repeat (first | (with_reducible first | exact HB.out | apply below_alloc | apply pw_below_drewN | apply below_drew1) | exact HB.out)⟩
  · replace c3 := Bool.eq_false_iff.mpr c3
    subst c3
    have H1 : (some (0, 1)) = some (r1, r2) := by rw [if_neg (show ¬ (false = true) by decide)] at H; exact H
    clear H
    have H := H1
    clear H1
    simp only [Option.some.injEq, Prod.mk.injEq] at H
    obtain ⟨rfl, rfl⟩ := H
    go_enter Tryz.func7, Tryz.ntmps7
    go_wp2_with (first | ((with_reducible refine gate_callee (f := 25) rfl ?_); refine goesL_ (some 7) rfl rfl Tryz.func25 (by kernel_rfl) rfl #[.slice A0 l0.length c0] rfl (by (try simp only [List.map_toArray, List.map_cons, List.map_nil]); first | done | rfl | (simp only [List.length_drop, List.length_take]; rfl)) ?_; (with_reducible refine (ringworkref25_notes.calls k _ _ l0 false _ ?side1 ?side2 A2.out).mono ?_); (case side1 => repeat (first | exact HR0.out | (with_reducible refine Kd.C_alloc ?_ _) | (with_reducible refine Kd.C_drewN ?_ _) | (with_reducible refine Kd.C_drew ?_))); (case side2 => exact HC0.out); rintro e w10 ⟨rfl, hb⟩; refine ⟨_, rfl, ?_⟩; have n0_ := Aside0.mk (below_step (by repeat (first | (with_reducible first | exact HB.out | apply below_alloc | apply pw_below_drewN | apply below_drew1) | exact HB.out)) hb); clear HB; have HB := n0_; clear n0_; (try clear hb); (try clear hb2); (try clear hk); (try clear hi)))
    go_ret2
    exact ⟨by first | rfl | (simp [errW_none, errW_some] <;> rfl) | (simp [*, errW_none, errW_some] <;> rfl), by repeat (first | (with_reducible first | exact HB.out | apply below_alloc | apply pw_below_drewN | apply below_drew1) | exact HB.out)⟩

/-! ### ringworkref25_right: function 31 -/
def ringworkref25_right.f (k : Nat) (l0 : List (S43)) : Option (Int) := (ringworkref25_notes.f k l0).bind fun t135 => (if t135 = true then ((ringworkref25_Wrong.f k l0).bind fun bt136 => (if bt136.2 = 0 then (some 0) else (some 9))) else (some 1))
set_option maxHeartbeats 8000000 in
set_option maxRecDepth 100000 in
theorem ringworkref25_right.calls (k : Nat) (A0 : Option Addr) (c0 : Nat) (l0 : List (S43)) (r : Int) (w : World) (hr0 : Kd.C k43 w A0 l0.length l0) (hc0 : l0.length ≤ c0) (h : ringworkref25_right.f k l0 = some r) :
    Calls Tryz.prog 31 #[.slice A0 l0.length c0] w fun e w' => e = .returned (.int .i64 r) ∧ Below w.heap.size w w' := by
  have HR0 := Aside0.mk hr0
  have HC0 := Aside0.mk hc0
  clear hr0 hc0
  have HB := Aside0.mk (Below.refl w.heap.size w)
  have H : ((ringworkref25_notes.f k l0).bind fun t135 => (if t135 = true then ((ringworkref25_Wrong.f k l0).bind fun bt136 => (if bt136.2 = 0 then (some 0) else (some 9))) else (some 1))) = some r := h
  clear h
  replace H := Option.bind_eq_some_iff.mp H
  obtain ⟨t135, A20, H⟩ := H
  replace H : (if t135 = true then ((ringworkref25_Wrong.f k l0).bind fun bt136 => (if bt136.2 = 0 then (some 0) else (some 9))) else (some 1)) = some r := H
  have A2 := Aside0.mk A20
  clear A20
  by_cases c3 : t135 = true
  · subst c3
    have H1 : ((ringworkref25_Wrong.f k l0).bind fun bt136 => (if bt136.2 = 0 then (some 0) else (some 9))) = some r := by rw [if_pos rfl] at H; exact H
    clear H
    have H := H1
    clear H1
    replace H := Option.bind_eq_some_iff.mp H
    obtain ⟨⟨t136, t137⟩, A40, H⟩ := H
    replace H : (if t137 = 0 then (some 0) else (some 9)) = some r := H
    have A4 := Aside0.mk A40
    clear A40
    by_cases c5 : t137 = 0
    · rw [if_pos c5] at H
      have c5b0 : (t137 == 0) = true := beq_iff_eq.mpr c5
      have c5b1 : (t137 != 0) = false := bne_eq_false_iff_eq.mpr c5
      clear c5
      obtain rfl := Option.some.inj H
      go_enter Tryz.func31, Tryz.ntmps31
      go_wp2_with (first | ((with_reducible refine gate_callee (f := 25) rfl ?_); refine goesL_ (some 6) rfl rfl Tryz.func25 (by kernel_rfl) rfl #[.slice A0 l0.length c0] rfl (by (try simp only [List.map_toArray, List.map_cons, List.map_nil]); first | done | rfl | (simp only [List.length_drop, List.length_take]; rfl)) ?_; (with_reducible refine (ringworkref25_notes.calls k _ _ l0 true _ ?side1 ?side2 A2.out).mono ?_); (case side1 => repeat (first | exact HR0.out | (with_reducible refine Kd.C_alloc ?_ _) | (with_reducible refine Kd.C_drewN ?_ _) | (with_reducible refine Kd.C_drew ?_))); (case side2 => exact HC0.out); rintro e w6 ⟨rfl, hb⟩; refine ⟨_, rfl, ?_⟩; have n0_ := Aside0.mk (below_step (by repeat (first | (with_reducible first | exact HB.out | apply below_alloc | apply pw_below_drewN | apply below_drew1) | exact HB.out)) hb); clear HB; have HB := n0_; clear n0_; (try clear hb); (try clear hb2); (try clear hk); (try clear hi)) | ((with_reducible refine gate_callee (f := 7) rfl ?_); refine goesL_ (some 10) rfl rfl Tryz.func7 (by kernel_rfl) rfl #[.slice A0 l0.length c0] rfl (by (try simp only [List.map_toArray, List.map_cons, List.map_nil]); first | done | rfl | (simp only [List.length_drop, List.length_take]; rfl)) ?_; (with_reducible refine (ringworkref25_Wrong.calls k _ _ l0 t136 t137 _ ?side1 ?side2 A4.out).mono ?_); (case side1 => repeat (first | exact (Kd.C_below HR0.out HB.out) | (with_reducible refine Kd.C_alloc ?_ _) | (with_reducible refine Kd.C_drewN ?_ _) | (with_reducible refine Kd.C_drew ?_))); (case side2 => exact HC0.out); rintro e w7 ⟨rfl, hb⟩; refine ⟨_, rfl, ?_⟩; have n0_ := Aside0.mk (below_step (by repeat (first | (with_reducible first | exact HB.out | apply below_alloc | apply pw_below_drewN | apply below_drew1) | exact HB.out)) hb); clear HB; have HB := n0_; clear n0_; (try clear hb); (try clear hb2); (try clear hk); (try clear hi)))
      go_ret
      exact ⟨by first | rfl | (simp [errW_none, errW_some] <;> rfl) | (simp [*, errW_none, errW_some] <;> rfl), by repeat (first | (with_reducible first | exact HB.out | apply below_alloc | apply pw_below_drewN | apply below_drew1) | exact HB.out)⟩
    · rw [if_neg c5] at H
      have c5b0 : (t137 == 0) = false := beq_eq_false_iff_ne.mpr c5
      have c5b1 : (t137 != 0) = true := bne_iff_ne.mpr c5
      obtain rfl := Option.some.inj H
      go_enter Tryz.func31, Tryz.ntmps31
      go_wp2_with (first | ((with_reducible refine gate_callee (f := 25) rfl ?_); refine goesL_ (some 6) rfl rfl Tryz.func25 (by kernel_rfl) rfl #[.slice A0 l0.length c0] rfl (by (try simp only [List.map_toArray, List.map_cons, List.map_nil]); first | done | rfl | (simp only [List.length_drop, List.length_take]; rfl)) ?_; (with_reducible refine (ringworkref25_notes.calls k _ _ l0 true _ ?side1 ?side2 A2.out).mono ?_); (case side1 => repeat (first | exact HR0.out | (with_reducible refine Kd.C_alloc ?_ _) | (with_reducible refine Kd.C_drewN ?_ _) | (with_reducible refine Kd.C_drew ?_))); (case side2 => exact HC0.out); rintro e w8 ⟨rfl, hb⟩; refine ⟨_, rfl, ?_⟩; have n0_ := Aside0.mk (below_step (by repeat (first | (with_reducible first | exact HB.out | apply below_alloc | apply pw_below_drewN | apply below_drew1) | exact HB.out)) hb); clear HB; have HB := n0_; clear n0_; (try clear hb); (try clear hb2); (try clear hk); (try clear hi)) | ((with_reducible refine gate_callee (f := 7) rfl ?_); refine goesL_ (some 10) rfl rfl Tryz.func7 (by kernel_rfl) rfl #[.slice A0 l0.length c0] rfl (by (try simp only [List.map_toArray, List.map_cons, List.map_nil]); first | done | rfl | (simp only [List.length_drop, List.length_take]; rfl)) ?_; (with_reducible refine (ringworkref25_Wrong.calls k _ _ l0 t136 t137 _ ?side1 ?side2 A4.out).mono ?_); (case side1 => repeat (first | exact (Kd.C_below HR0.out HB.out) | (with_reducible refine Kd.C_alloc ?_ _) | (with_reducible refine Kd.C_drewN ?_ _) | (with_reducible refine Kd.C_drew ?_))); (case side2 => exact HC0.out); rintro e w9 ⟨rfl, hb⟩; refine ⟨_, rfl, ?_⟩; have n0_ := Aside0.mk (below_step (by repeat (first | (with_reducible first | exact HB.out | apply below_alloc | apply pw_below_drewN | apply below_drew1) | exact HB.out)) hb); clear HB; have HB := n0_; clear n0_; (try clear hb); (try clear hb2); (try clear hk); (try clear hi)))
      go_ret
      exact ⟨by first | rfl | (simp [errW_none, errW_some] <;> rfl) | (simp [*, errW_none, errW_some] <;> rfl), by repeat (first | (with_reducible first | exact HB.out | apply below_alloc | apply pw_below_drewN | apply below_drew1) | exact HB.out)⟩
  · replace c3 := Bool.eq_false_iff.mpr c3
    subst c3
    have H1 : (some 1) = some r := by rw [if_neg (show ¬ (false = true) by decide)] at H; exact H
    clear H
    have H := H1
    clear H1
    obtain rfl := Option.some.inj H
    go_enter Tryz.func31, Tryz.ntmps31
    go_wp2_with (first | ((with_reducible refine gate_callee (f := 25) rfl ?_); refine goesL_ (some 6) rfl rfl Tryz.func25 (by kernel_rfl) rfl #[.slice A0 l0.length c0] rfl (by (try simp only [List.map_toArray, List.map_cons, List.map_nil]); first | done | rfl | (simp only [List.length_drop, List.length_take]; rfl)) ?_; (with_reducible refine (ringworkref25_notes.calls k _ _ l0 false _ ?side1 ?side2 A2.out).mono ?_); (case side1 => repeat (first | exact HR0.out | (with_reducible refine Kd.C_alloc ?_ _) | (with_reducible refine Kd.C_drewN ?_ _) | (with_reducible refine Kd.C_drew ?_))); (case side2 => exact HC0.out); rintro e w10 ⟨rfl, hb⟩; refine ⟨_, rfl, ?_⟩; have n0_ := Aside0.mk (below_step (by repeat (first | (with_reducible first | exact HB.out | apply below_alloc | apply pw_below_drewN | apply below_drew1) | exact HB.out)) hb); clear HB; have HB := n0_; clear n0_; (try clear hb); (try clear hb2); (try clear hk); (try clear hi)))
    go_ret
    exact ⟨by first | rfl | (simp [errW_none, errW_some] <;> rfl) | (simp [*, errW_none, errW_some] <;> rfl), by repeat (first | (with_reducible first | exact HB.out | apply below_alloc | apply pw_below_drewN | apply below_drew1) | exact HB.out)⟩

/-! ### ringworkref25_Open: function 9 -/
def ringworkref25_Open.l0 : Nat → List (S43) → List Int → Int → Option (List Int × Int)
  | 0, _, _, _ => none
  | k + 1, x0, x5, x6 => if x6 ≤ 1000 then ((ringworkref25_since.f k x0 (x0.length : Int) x6).bind fun t139 => (if t139 ≥ 0 then (if x5.length < 17592186044416 then (ringworkref25_Open.l0 k x0 (x5 ++ [x6]) (wrap64 (x6 + 1))) else (none)) else (ringworkref25_Open.l0 k x0 x5 (wrap64 (x6 + 1))))) else (some (x5, 0))
def ringworkref25_Open.f (k : Nat) (l0 : List (S43)) : Option (List Int × Int) := (ringworkref25_right.f k l0).bind fun t138 => (if t138 = 0 then (ringworkref25_Open.l0 k l0 ([] : List Int) 1) else (some (([] : List Int), t138)))
set_option maxHeartbeats 8000000 in
set_option maxRecDepth 100000 in
theorem ringworkref25_Open.calls (k : Nat) (A0 : Option Addr) (c0 : Nat) (l0 : List (S43)) (r1 : List Int) (r2 : Int) (w : World) (hr0 : Kd.C k43 w A0 l0.length l0) (hc0 : l0.length ≤ c0) (h : ringworkref25_Open.f k l0 = some (r1, r2)) :
    Calls Tryz.prog 9 #[.slice A0 l0.length c0] w fun e w' => ∃ v0_ : Value, e = .returned (.tuple #[v0_, .int .i64 r2]) ∧ Kd.R (Kd.int .i64) 3 w' w.heap.size (fun _ => True) v0_ r1 ∧ Below w.heap.size w w' := by
  have HR0 := Aside0.mk hr0
  have HC0 := Aside0.mk hc0
  clear hr0 hc0
  have HB := Aside0.mk (Below.refl w.heap.size w)
  have H : ((ringworkref25_right.f k l0).bind fun t138 => (if t138 = 0 then (ringworkref25_Open.l0 k l0 ([] : List Int) 1) else (some (([] : List Int), t138)))) = some (r1, r2) := h
  clear h
  replace H := Option.bind_eq_some_iff.mp H
  obtain ⟨t138, A20, H⟩ := H
  replace H : (if t138 = 0 then (ringworkref25_Open.l0 k l0 ([] : List Int) 1) else (some (([] : List Int), t138))) = some (r1, r2) := H
  have A2 := Aside0.mk A20
  clear A20
  by_cases c3 : t138 = 0
  · rw [if_pos c3] at H
    have c3b0 : (t138 == 0) = true := beq_iff_eq.mpr c3
    have c3b1 : (t138 != 0) = false := bne_eq_false_iff_eq.mpr c3
    clear c3
    have H' := Aside0.mk H
    clear H
    go_enter Tryz.func9, Tryz.ntmps9
    go_wp2_with (first | ((with_reducible refine gate_callee (f := 31) rfl ?_); refine goesL_ (some 8) rfl rfl Tryz.func31 (by kernel_rfl) rfl #[.slice A0 l0.length c0] rfl (by (try simp only [List.map_toArray, List.map_cons, List.map_nil]); first | done | rfl | (simp only [List.length_drop, List.length_take]; rfl)) ?_; (with_reducible refine (ringworkref25_right.calls k _ _ l0 t138 _ ?side1 ?side2 A2.out).mono ?_); (case side1 => repeat (first | exact HR0.out | (with_reducible refine Kd.C_alloc ?_ _) | (with_reducible refine Kd.C_drewN ?_ _) | (with_reducible refine Kd.C_drew ?_))); (case side2 => exact HC0.out); rintro e w4 ⟨rfl, hb⟩; refine ⟨_, rfl, ?_⟩; have n0_ := Aside0.mk (below_step (by repeat (first | (with_reducible first | exact HB.out | apply below_alloc | apply pw_below_drewN | apply below_drew1) | exact HB.out)) hb); clear HB; have HB := n0_; clear n0_; (try clear hb); (try clear hb2); (try clear hk); (try clear hi)))
    go_loopg [5, 6] k (fun kq v5 v6 w' => ∃ (x5_1 : List Int) (x6_1 : Int), v6 = .int .i64 x6_1 ∧ Aside0 (ringworkref25_Open.l0 kq l0 x5_1 x6_1 = some (r1, r2)) ∧ Aside0 (kq ≤ k) ∧ Aside0 (Kd.R (Kd.int .i64) 3 w' w.heap.size (fun _ => True) v5 x5_1) ∧ Aside0 (Below w.heap.size w w'))
    case atStart => exact ⟨(([] : List Int)), (1), (by first | rfl | (simp; done) | (simp [*]; done)), H', ⟨Nat.le_refl _⟩, ⟨by first | exact Kd.R_nil _ _ _ _ _ | exact Kd.N_nil _ _ _ _ _ | exact Kd.V_nil _ _ _ _ _ | exact Kd.Q_nil _ _ _ _ _ | exact Kd.S_nil _ _ _ _ _⟩, ⟨by repeat (first | (with_reducible first | exact HB.out | apply below_alloc | apply pw_below_drewN | apply below_drew1) | exact HB.out)⟩⟩
    case round =>
      clear H'
      try clear p2
      try clear c3
      try clear c3b0
      try clear c3b1
      obtain ⟨x5_1, x6_1, rfl, HA, HK1, HO_5, HB⟩ := hrel
      cases gk with
      | zero => exact absurd HA.out (by simp [ringworkref25_Open.l0])
      | succ k1 =>
        have H := HA.out
        clear HA
        simp only [ringworkref25_Open.l0] at H
        by_cases c5 : x6_1 ≤ 1000
        · rw [if_pos c5] at H
          have c5b0 : decide (x6_1 ≤ 1000) = true := decide_eq_true c5
          clear c5
          replace H := Option.bind_eq_some_iff.mp H
          obtain ⟨t139, A60, H⟩ := H
          replace H : (if t139 ≥ 0 then (if x5_1.length < 17592186044416 then (ringworkref25_Open.l0 k1 l0 (x5_1 ++ [x6_1]) (wrap64 (x6_1 + 1))) else (none)) else (ringworkref25_Open.l0 k1 l0 x5_1 (wrap64 (x6_1 + 1)))) = some (r1, r2) := H
          have A6 := Aside0.mk A60
          clear A60
          by_cases c7 : t139 ≥ 0
          · rw [if_pos c7] at H
            have c7b0 : decide (0 ≤ t139) = true := decide_eq_true c7
            clear c7
            by_cases c8 : x5_1.length < 17592186044416
            · rw [if_pos c8] at H
              have LMc8 := Aside0.mk c8
              clear c8
              obtain ⟨y140, hy140⟩ : ∃ y_ : List Int, y_ = (x5_1 ++ [x6_1]) := ⟨_, rfl⟩
              replace H : (ringworkref25_Open.l0 k1 l0 y140 (wrap64 (x6_1 + 1))) = some (r1, r2) := by first | (rw [hy140]; with_reducible exact H) | (have H2_ := (Option.bind_some _ _).symm.trans H; rw [hy140]; with_reducible exact H2_) | (have H2_ := (Option.bind_some _ _).symm.trans H; with_reducible exact H2_) | with_reducible exact H | (rw [hy140]; exact H) | exact H
              have Ny140 := Aside0.mk hy140
              clear hy140
              have H' := Aside0.mk H
              clear H
              go_wp2_with (first | ((with_reducible refine gate_callee (f := 32) rfl ?_); refine goesL_ (some 20) rfl rfl Tryz.func32 (by kernel_rfl) rfl #[.slice A0 l0.length c0, .int .i64 (l0.length : Int), .int .i64 x6_1] rfl (by (try simp only [List.map_toArray, List.map_cons, List.map_nil]); first | done | rfl | (simp only [List.length_drop, List.length_take]; rfl)) ?_; (with_reducible refine (ringworkref25_since.calls k1 _ _ l0 (l0.length : Int) x6_1 t139 _ ?side1 ?side2 A6.out).mono ?_); (case side1 => repeat (first | exact (Kd.C_below HR0.out HB.out) | (with_reducible refine Kd.C_alloc ?_ _) | (with_reducible refine Kd.C_drewN ?_ _) | (with_reducible refine Kd.C_drew ?_))); (case side2 => exact HC0.out); rintro e w' ⟨rfl, ⟨nd, rfl⟩⟩; refine ⟨_, rfl, ?_⟩) | ((with_reducible refine gate_builtin (b := .append) (xs := #[.tmp 22, .tmp 24]) rfl ?_); at_builtin; refine Kd.R_append (Kd.int .i64) (w0 := w) w.heap.size rfl (.tmp 22) (.tmp 24) 28 3 (.int .i64 0) 8 rfl Tryz.underlying28 info3 rfl (by decide) (by omega) u5 x5_1 x6_1 [.int .i64 x6_1] (fun _ => True) (fun _ => False) rfl rfl ?aP (fun _ hk => hk.elim) ?aF ?aO ?aB ?aS ?aL ?_; (case aP => exact rfl); (case aB => exact (by repeat (first | (with_reducible first | exact HB.out | apply below_alloc | apply pw_below_drewN | apply below_drew1) | exact HB.out))); (case aF => exact (fun _ _ => trivial)); (case aO => exact (by (with_reducible repeat (first | apply Kd.R_alloc | apply Kd.R_drewN | apply Kd.R_drew)); exact HO_5.out)); (case aS => exact (below_size (by repeat (first | (with_reducible first | exact HB.out | apply below_alloc | apply pw_below_drewN | apply below_drew1) | exact HB.out)))); (case aL => have := LMc8.out; omega); intro v141 w9 ho hb hg hat; rw [← Ny140.out] at ho; have n0_ := Aside0.mk (hb); have n1_ := Aside0.mk (ho); clear HB; clear HO_5; have HB := n0_; have HO142 := n1_; clear n0_ n1_; clear ho hb hg hat))
              go_roundg k1
              case measure => have := HK1.out; omega
              case rel => exact ⟨(y140), (wrap64 (x6_1 + 1)), (by first | rfl | (simp; done) | (simp [*]; done)), H', ⟨by have := HK1.out; omega⟩, ⟨by (with_reducible repeat (first | apply Kd.R_alloc | apply Kd.R_drewN | apply Kd.R_drew)); exact HO142.out⟩, ⟨by repeat (first | (with_reducible first | exact HB.out | apply below_alloc | apply pw_below_drewN | apply below_drew1) | exact HB.out)⟩⟩
            · rw [if_neg c8] at H
              exact absurd H (by simp)
          · rw [if_neg c7] at H
            have c7b0 : decide (0 ≤ t139) = false := decide_eq_false c7
            clear c7
            have H' := Aside0.mk H
            clear H
            go_wp2_with (first | ((with_reducible refine gate_callee (f := 32) rfl ?_); refine goesL_ (some 20) rfl rfl Tryz.func32 (by kernel_rfl) rfl #[.slice A0 l0.length c0, .int .i64 (l0.length : Int), .int .i64 x6_1] rfl (by (try simp only [List.map_toArray, List.map_cons, List.map_nil]); first | done | rfl | (simp only [List.length_drop, List.length_take]; rfl)) ?_; (with_reducible refine (ringworkref25_since.calls k1 _ _ l0 (l0.length : Int) x6_1 t139 _ ?side1 ?side2 A6.out).mono ?_); (case side1 => repeat (first | exact (Kd.C_below HR0.out HB.out) | (with_reducible refine Kd.C_alloc ?_ _) | (with_reducible refine Kd.C_drewN ?_ _) | (with_reducible refine Kd.C_drew ?_))); (case side2 => exact HC0.out); rintro e w' ⟨rfl, ⟨nd, rfl⟩⟩; refine ⟨_, rfl, ?_⟩))
            go_roundg k1
            case measure => have := HK1.out; omega
            case rel => exact ⟨(x5_1), (wrap64 (x6_1 + 1)), (by first | rfl | (simp; done) | (simp [*]; done)), H', ⟨by have := HK1.out; omega⟩, ⟨by (with_reducible repeat (first | apply Kd.R_alloc | apply Kd.R_drewN | apply Kd.R_drew)); exact HO_5.out⟩, ⟨by repeat (first | (with_reducible first | exact HB.out | apply below_alloc | apply pw_below_drewN | apply below_drew1) | exact HB.out)⟩⟩
        · rw [if_neg c5] at H
          have c5b0 : decide (x6_1 ≤ 1000) = false := decide_eq_false c5
          clear c5
          simp only [Option.some.injEq, Prod.mk.injEq] at H
          obtain ⟨rfl, rfl⟩ := H
          go_wp2
          go_ret2
          exact ⟨_, by first | rfl | (simp [errW_none, errW_some] <;> rfl) | (simp [*, errW_none, errW_some] <;> rfl), by (with_reducible repeat (first | apply Kd.R_alloc | apply Kd.R_drewN | apply Kd.R_drew)); exact HO_5.out, by repeat (first | (with_reducible first | exact HB.out | apply below_alloc | apply pw_below_drewN | apply below_drew1) | exact HB.out)⟩
  · rw [if_neg c3] at H
    have c3b0 : (t138 == 0) = false := beq_eq_false_iff_ne.mpr c3
    have c3b1 : (t138 != 0) = true := bne_iff_ne.mpr c3
    simp only [Option.some.injEq, Prod.mk.injEq] at H
    obtain ⟨rfl, rfl⟩ := H
    go_enter Tryz.func9, Tryz.ntmps9
    go_wp2_with (first | ((with_reducible refine gate_callee (f := 31) rfl ?_); refine goesL_ (some 8) rfl rfl Tryz.func31 (by kernel_rfl) rfl #[.slice A0 l0.length c0] rfl (by (try simp only [List.map_toArray, List.map_cons, List.map_nil]); first | done | rfl | (simp only [List.length_drop, List.length_take]; rfl)) ?_; (with_reducible refine (ringworkref25_right.calls k _ _ l0 t138 _ ?side1 ?side2 A2.out).mono ?_); (case side1 => repeat (first | exact HR0.out | (with_reducible refine Kd.C_alloc ?_ _) | (with_reducible refine Kd.C_drewN ?_ _) | (with_reducible refine Kd.C_drew ?_))); (case side2 => exact HC0.out); rintro e w10 ⟨rfl, hb⟩; refine ⟨_, rfl, ?_⟩; have n0_ := Aside0.mk (below_step (by repeat (first | (with_reducible first | exact HB.out | apply below_alloc | apply pw_below_drewN | apply below_drew1) | exact HB.out)) hb); clear HB; have HB := n0_; clear n0_; (try clear hb); (try clear hb2); (try clear hk); (try clear hi)))
    go_ret2
    exact ⟨_, by first | rfl | (simp [errW_none, errW_some] <;> rfl) | (simp [*, errW_none, errW_some] <;> rfl), by first | exact Kd.R_nil _ _ _ _ _ | exact Kd.N_nil _ _ _ _ _ | exact Kd.V_nil _ _ _ _ _ | exact Kd.Q_nil _ _ _ _ _ | exact Kd.S_nil _ _ _ _ _, by repeat (first | (with_reducible first | exact HB.out | apply below_alloc | apply pw_below_drewN | apply below_drew1) | exact HB.out)⟩

/-! ### ringworkref10_SameInts: function 10 -/
def ringworkref10_SameInts.l0 : Nat → List Int → List Int → Int → Option (Bool)
  | 0, _, _, _ => none
  | k + 1, x0, x1, x5 => if x5 < (x0.length : Int) then (if 0 ≤ x5 then (if x5 < (x1.length : Int) then (if (rd x0 x5) = (rd x1 x5) then (ringworkref10_SameInts.l0 k x0 x1 (wrap64 (x5 + 1))) else (some false)) else (none)) else (none)) else (some true)
def ringworkref10_SameInts.f (k : Nat) (l0 : List Int) (l1 : List Int) : Option (Bool) := if (l0.length : Int) = (l1.length : Int) then (ringworkref10_SameInts.l0 k l0 l1 0) else (some false)
set_option maxHeartbeats 8000000 in
set_option maxRecDepth 100000 in
theorem ringworkref10_SameInts.calls (k : Nat) (A0 : Option Addr) (c0 : Nat) (l0 : List Int) (A1 : Option Addr) (c1 : Nat) (l1 : List Int) (r : Bool) (w : World) (hr0 : Kd.C (Kd.int .i64) w A0 l0.length l0) (hc0 : l0.length ≤ c0) (hr1 : Kd.C (Kd.int .i64) w A1 l1.length l1) (hc1 : l1.length ≤ c1) (h : ringworkref10_SameInts.f k l0 l1 = some r) :
    Calls Tryz.prog 10 #[.slice A0 l0.length c0, .slice A1 l1.length c1] w fun e w' => e = .returned (.bool r) ∧ Drawn0 w w' := by
  have HR0 := Aside0.mk hr0
  have HC0 := Aside0.mk hc0
  clear hr0 hc0
  have HR1 := Aside0.mk hr1
  have HC1 := Aside0.mk hc1
  clear hr1 hc1
  have H : (if (l0.length : Int) = (l1.length : Int) then (ringworkref10_SameInts.l0 k l0 l1 0) else (some false)) = some r := h
  clear h
  by_cases c3 : (l0.length : Int) = (l1.length : Int)
  · rw [if_pos c3] at H
    have c3b0 : ((l0.length : Int) == (l1.length : Int)) = true := beq_iff_eq.mpr c3
    have c3b1 : ((l0.length : Int) != (l1.length : Int)) = false := bne_eq_false_iff_eq.mpr c3
    have c3b2 : (l0.length == l1.length) = true := by first | simpa using c3 | (simp at c3 ⊢; omega)
    clear c3
    have H' := Aside0.mk H
    clear H
    go_enter Tryz.func10, Tryz.ntmps10
    go_wp2
    repeat (go_quiet (fail); try go_wp2)
    go_loopg [5] k (fun kq v5 w' => ∃ (x5_1 : Int), v5 = .int .i64 x5_1 ∧ Aside0 (ringworkref10_SameInts.l0 kq l0 l1 x5_1 = some r) ∧ Aside0 (kq ≤ k) ∧ Drawn0 w w')
    case atStart => exact ⟨(0), (by first | rfl | (simp; done) | (simp [*]; done)), H', ⟨Nat.le_refl _⟩, by repeat (first | exact Drawn0.refl _ | apply Drawn0.step)⟩
    case round =>
      clear H'
      try clear c1
      try clear p2
      try clear c3
      try clear c3b0
      try clear c3b1
      try clear c3b2
      obtain ⟨x5_1, rfl, HA, HK1, ⟨m1, rfl⟩⟩ := hrel
      cases gk with
      | zero => exact absurd HA.out (by simp [ringworkref10_SameInts.l0])
      | succ k1 =>
        have H := HA.out
        clear HA
        simp only [ringworkref10_SameInts.l0] at H
        by_cases c4 : x5_1 < (l0.length : Int)
        · rw [if_pos c4] at H
          have c4b0 : decide (x5_1 < (l0.length : Int)) = true := decide_eq_true c4
          clear c4
          by_cases c5 : 0 ≤ x5_1
          · rw [if_pos c5] at H
            have c5b0 : decide (0 ≤ x5_1) = true := decide_eq_true c5
            clear c5
            by_cases c6 : x5_1 < (l1.length : Int)
            · rw [if_pos c6] at H
              have c6b0 : decide (x5_1 < (l1.length : Int)) = true := decide_eq_true c6
              clear c6
              by_cases c7 : (rd l0 x5_1) = (rd l1 x5_1)
              · rw [if_pos c7] at H
                have c7b0 : ((rd l0 x5_1) == (rd l1 x5_1)) = true := beq_iff_eq.mpr c7
                have c7b1 : ((rd l0 x5_1) != (rd l1 x5_1)) = false := bne_eq_false_iff_eq.mpr c7
                clear c7
                have H' := Aside0.mk H
                clear H
                have p143 : 0 ≤ (x5_1 : Int) := of_decide_eq_true (by first | (with_reducible assumption) | assumption)
                have q143 : x5_1 < (l0.length : Int) := of_decide_eq_true (by first | (with_reducible assumption) | assumption)
                obtain ⟨ad143, e143, hx143_0⟩ := Kd.at_int HR0.out x5_1 p143 q143
                cases e143
                replace p143 := eq_true p143
                replace q143 := eq_true q143
                have p144 : 0 ≤ (x5_1 : Int) := of_decide_eq_true (by first | (with_reducible assumption) | assumption)
                have q144 : x5_1 < (l1.length : Int) := of_decide_eq_true (by first | (with_reducible assumption) | assumption)
                obtain ⟨ad144, e144, hx144_0⟩ := Kd.at_int HR1.out x5_1 p144 q144
                cases e144
                replace p144 := eq_true p144
                replace q144 := eq_true q144
                go_wp2
                repeat (go_quiet (fail); try go_wp2)
                go_roundg k1
                case measure => have := HK1.out; omega
                case rel => exact ⟨(wrap64 (x5_1 + 1)), (by first | rfl | (simp; done) | (simp [*]; done)), H', ⟨by have := HK1.out; omega⟩, by repeat (first | exact Drawn0.refl _ | apply Drawn0.step)⟩
              · rw [if_neg c7] at H
                have c7b0 : ((rd l0 x5_1) == (rd l1 x5_1)) = false := beq_eq_false_iff_ne.mpr c7
                have c7b1 : ((rd l0 x5_1) != (rd l1 x5_1)) = true := bne_iff_ne.mpr c7
                obtain rfl := Option.some.inj H
                have p143 : 0 ≤ (x5_1 : Int) := of_decide_eq_true (by first | (with_reducible assumption) | assumption)
                have q143 : x5_1 < (l0.length : Int) := of_decide_eq_true (by first | (with_reducible assumption) | assumption)
                obtain ⟨ad143, e143, hx143_0⟩ := Kd.at_int HR0.out x5_1 p143 q143
                cases e143
                replace p143 := eq_true p143
                replace q143 := eq_true q143
                have p144 : 0 ≤ (x5_1 : Int) := of_decide_eq_true (by first | (with_reducible assumption) | assumption)
                have q144 : x5_1 < (l1.length : Int) := of_decide_eq_true (by first | (with_reducible assumption) | assumption)
                obtain ⟨ad144, e144, hx144_0⟩ := Kd.at_int HR1.out x5_1 p144 q144
                cases e144
                replace p144 := eq_true p144
                replace q144 := eq_true q144
                go_wp2
                repeat (go_quiet (fail); try go_wp2)
                go_ret
                exact ⟨by first | rfl | (simp; done) | (simp [*]; done), by repeat (first | exact Drawn0.refl _ | apply Drawn0.step)⟩
            · rw [if_neg c6] at H
              exact absurd H (by simp)
          · rw [if_neg c5] at H
            exact absurd H (by simp)
        · rw [if_neg c4] at H
          have c4b0 : decide (x5_1 < (l0.length : Int)) = false := decide_eq_false c4
          clear c4
          obtain rfl := Option.some.inj H
          go_wp2
          repeat (go_quiet (fail); try go_wp2)
          go_ret
          exact ⟨by first | rfl | (simp; done) | (simp [*]; done), by repeat (first | exact Drawn0.refl _ | apply Drawn0.step)⟩
  · rw [if_neg c3] at H
    have c3b0 : ((l0.length : Int) == (l1.length : Int)) = false := beq_eq_false_iff_ne.mpr c3
    have c3b1 : ((l0.length : Int) != (l1.length : Int)) = true := bne_iff_ne.mpr c3
    have c3b2 : (l0.length == l1.length) = false := by first | simpa using c3 | (simp at c3 ⊢; omega)
    obtain rfl := Option.some.inj H
    go_enter Tryz.func10, Tryz.ntmps10
    go_wp2
    repeat (go_quiet (fail); try go_wp2)
    go_ret
    exact ⟨by first | rfl | (simp; done) | (simp [*]; done), by repeat (first | exact Drawn0.refl _ | apply Drawn0.step)⟩

/-! ### ringworkref25_Ended: function 12 -/
mutual
def ringworkref25_Ended.l0 : Nat → List (S43) → List Int → Int → Option (List Int × Int)
  | 0, _, _, _ => none
  | k + 1, x0, x5, x6 => if x6 ≤ 1000 then (ringworkref25_Ended.l1 k x0 x5 x6 false 0) else (some (x5, 0))
def ringworkref25_Ended.l1 : Nat → List (S43) → List Int → Int → Bool → Int → Option (List Int × Int)
  | 0, _, _, _, _, _ => none
  | k + 1, x0, x5, x6, x7, x8 => if x8 < (x0.length : Int) then (if x7 = true then (ringworkref25_Ended.l1 k x0 x5 x6 true (wrap64 (x8 + 1))) else (if 0 ≤ x8 then (if ((rd_T43 x0 x8).f0) = 5 then (ringworkref25_Ended.l1 k x0 x5 x6 (((rd_T43 x0 x8).f1) == x6) (wrap64 (x8 + 1))) else (ringworkref25_Ended.l1 k x0 x5 x6 false (wrap64 (x8 + 1)))) else (none))) else (if x7 = true then (if x5.length < 17592186044416 then (ringworkref25_Ended.l0 k x0 (x5 ++ [x6]) (wrap64 (x6 + 1))) else (none)) else (ringworkref25_Ended.l0 k x0 x5 (wrap64 (x6 + 1))))
end
def ringworkref25_Ended.f (k : Nat) (l0 : List (S43)) : Option (List Int × Int) := (ringworkref25_right.f k l0).bind fun t145 => (if t145 = 0 then (ringworkref25_Ended.l0 k l0 ([] : List Int) 1) else (some (([] : List Int), t145)))
set_option maxHeartbeats 8000000 in
set_option maxRecDepth 100000 in
theorem ringworkref25_Ended.calls (k : Nat) (A0 : Option Addr) (c0 : Nat) (l0 : List (S43)) (r1 : List Int) (r2 : Int) (w : World) (hr0 : Kd.C k43 w A0 l0.length l0) (hc0 : l0.length ≤ c0) (h : ringworkref25_Ended.f k l0 = some (r1, r2)) :
    Calls Tryz.prog 12 #[.slice A0 l0.length c0] w fun e w' => ∃ v0_ : Value, e = .returned (.tuple #[v0_, .int .i64 r2]) ∧ Kd.R (Kd.int .i64) 3 w' w.heap.size (fun _ => True) v0_ r1 ∧ Below w.heap.size w w' := by
  have HR0 := Aside0.mk hr0
  have HC0 := Aside0.mk hc0
  clear hr0 hc0
  have HB := Aside0.mk (Below.refl w.heap.size w)
  have H : ((ringworkref25_right.f k l0).bind fun t145 => (if t145 = 0 then (ringworkref25_Ended.l0 k l0 ([] : List Int) 1) else (some (([] : List Int), t145)))) = some (r1, r2) := h
  clear h
  replace H := Option.bind_eq_some_iff.mp H
  obtain ⟨t145, A20, H⟩ := H
  replace H : (if t145 = 0 then (ringworkref25_Ended.l0 k l0 ([] : List Int) 1) else (some (([] : List Int), t145))) = some (r1, r2) := H
  have A2 := Aside0.mk A20
  clear A20
  by_cases c3 : t145 = 0
  · rw [if_pos c3] at H
    have c3b0 : (t145 == 0) = true := beq_iff_eq.mpr c3
    have c3b1 : (t145 != 0) = false := bne_eq_false_iff_eq.mpr c3
    clear c3
    have H' := Aside0.mk H
    clear H
    go_enter Tryz.func12, Tryz.ntmps12
    go_wp2_with (first | ((with_reducible refine gate_callee (f := 31) rfl ?_); refine goesL_ (some 10) rfl rfl Tryz.func31 (by kernel_rfl) rfl #[.slice A0 l0.length c0] rfl (by (try simp only [List.map_toArray, List.map_cons, List.map_nil]); first | done | rfl | (simp only [List.length_drop, List.length_take]; rfl)) ?_; (with_reducible refine (ringworkref25_right.calls k _ _ l0 t145 _ ?side1 ?side2 A2.out).mono ?_); (case side1 => repeat (first | exact HR0.out | (with_reducible refine Kd.C_alloc ?_ _) | (with_reducible refine Kd.C_drewN ?_ _) | (with_reducible refine Kd.C_drew ?_))); (case side2 => exact HC0.out); rintro e w4 ⟨rfl, hb⟩; refine ⟨_, rfl, ?_⟩; have n0_ := Aside0.mk (below_step (by repeat (first | (with_reducible first | exact HB.out | apply below_alloc | apply pw_below_drewN | apply below_drew1) | exact HB.out)) hb); clear HB; have HB := n0_; clear n0_; (try clear hb); (try clear hb2); (try clear hk); (try clear hi)))
    go_loopg [5, 6] k (fun kq v5 v6 w' => ∃ (x5_1 : List Int) (x6_1 : Int), v6 = .int .i64 x6_1 ∧ Aside0 (ringworkref25_Ended.l0 kq l0 x5_1 x6_1 = some (r1, r2)) ∧ Aside0 (kq ≤ k) ∧ Aside0 (Kd.R (Kd.int .i64) 3 w' w.heap.size (fun _ => True) v5 x5_1) ∧ Aside0 (Below w.heap.size w w'))
    case atStart => exact ⟨(([] : List Int)), (1), (by first | rfl | (simp; done) | (simp [*]; done)), H', ⟨Nat.le_refl _⟩, ⟨by first | exact Kd.R_nil _ _ _ _ _ | exact Kd.N_nil _ _ _ _ _ | exact Kd.V_nil _ _ _ _ _ | exact Kd.Q_nil _ _ _ _ _ | exact Kd.S_nil _ _ _ _ _⟩, ⟨by repeat (first | (with_reducible first | exact HB.out | apply below_alloc | apply pw_below_drewN | apply below_drew1) | exact HB.out)⟩⟩
    case round =>
      clear H'
      try clear c1
      try clear p2
      try clear c3
      try clear c3b0
      try clear c3b1
      obtain ⟨x5_1, x6_1, rfl, HA, HK1, HO_5, HB⟩ := hrel
      cases gk with
      | zero => exact absurd HA.out (by simp [ringworkref25_Ended.l0])
      | succ k1 =>
        have H := HA.out
        clear HA
        simp only [ringworkref25_Ended.l0] at H
        by_cases c5 : x6_1 ≤ 1000
        · rw [if_pos c5] at H
          have c5b0 : decide (x6_1 ≤ 1000) = true := decide_eq_true c5
          clear c5
          have H' := Aside0.mk H
          clear H
          go_wp2
          go_loopg [7, 8] k1 (fun kq v7 v8 w' => ∃ (x7_2 : Bool) (x8_2 : Int), v7 = .bool x7_2 ∧ v8 = .int .i64 x8_2 ∧ Aside0 (ringworkref25_Ended.l1 kq l0 x5_1 x6_1 x7_2 x8_2 = some (r1, r2)) ∧ Aside0 (kq ≤ k1) ∧ Aside0 (Kd.R (Kd.int .i64) 3 w' w.heap.size (fun _ => True) u5 x5_1) ∧ Aside0 (Below w.heap.size w w'))
          case atStart => exact ⟨(false), (0), (by first | rfl | (simp; done) | (simp [*]; done)), (by first | rfl | (simp; done) | (simp [*]; done)), H', ⟨Nat.le_refl _⟩, ⟨by (with_reducible repeat (first | apply Kd.R_alloc | apply Kd.R_drewN | apply Kd.R_drew)); exact HO_5.out⟩, ⟨by repeat (first | (with_reducible first | exact HB.out | apply below_alloc | apply pw_below_drewN | apply below_drew1) | exact HB.out)⟩⟩
          case round =>
            clear H'
            try clear c1
            try clear p2
            try clear c3
            try clear c3b0
            try clear c3b1
            try clear c5
            try clear c5b0
            try clear p2
            obtain ⟨x7_2, x8_2, rfl, rfl, HA, HK2, HO_5, HB⟩ := hrel
            cases gk with
            | zero => exact absurd HA.out (by simp [ringworkref25_Ended.l1])
            | succ k2 =>
              have H := HA.out
              clear HA
              simp only [ringworkref25_Ended.l1] at H
              by_cases c6 : x8_2 < (l0.length : Int)
              · rw [if_pos c6] at H
                have c6b0 : decide (x8_2 < (l0.length : Int)) = true := decide_eq_true c6
                clear c6
                by_cases c7 : x7_2 = true
                · subst c7
                  have H1 : (ringworkref25_Ended.l1 k2 l0 x5_1 x6_1 true (wrap64 (x8_2 + 1))) = some (r1, r2) := by rw [if_pos rfl] at H; exact H
                  clear H
                  have H := H1
                  clear H1
                  have H' := Aside0.mk H
                  clear H
                  go_wp2
                  go_roundg k2
                  case measure => have := HK1.out; have := HK2.out; omega
                  case rel => exact ⟨(true), (wrap64 (x8_2 + 1)), (by first | rfl | (simp; done) | (simp [*]; done)), (by first | rfl | (simp; done) | (simp [*]; done)), H', ⟨by have := HK1.out; have := HK2.out; omega⟩, ⟨by (with_reducible repeat (first | apply Kd.R_alloc | apply Kd.R_drewN | apply Kd.R_drew)); exact HO_5.out⟩, ⟨by repeat (first | (with_reducible first | exact HB.out | apply below_alloc | apply pw_below_drewN | apply below_drew1) | exact HB.out)⟩⟩
                · replace c7 := Bool.eq_false_iff.mpr c7
                  subst c7
                  have H1 : (if 0 ≤ x8_2 then (if ((rd_T43 l0 x8_2).f0) = 5 then (ringworkref25_Ended.l1 k2 l0 x5_1 x6_1 (((rd_T43 l0 x8_2).f1) == x6_1) (wrap64 (x8_2 + 1))) else (ringworkref25_Ended.l1 k2 l0 x5_1 x6_1 false (wrap64 (x8_2 + 1)))) else (none)) = some (r1, r2) := by rw [if_neg (show ¬ (false = true) by decide)] at H; exact H
                  clear H
                  have H := H1
                  clear H1
                  by_cases c8 : 0 ≤ x8_2
                  · rw [if_pos c8] at H
                    have c8b0 : decide (0 ≤ x8_2) = true := decide_eq_true c8
                    clear c8
                    by_cases c9 : ((rd_T43 l0 x8_2).f0) = 5
                    · rw [if_pos c9] at H
                      have c9b0 : (((rd_T43 l0 x8_2).f0) == 5) = true := beq_iff_eq.mpr c9
                      have c9b1 : (((rd_T43 l0 x8_2).f0) != 5) = false := bne_eq_false_iff_eq.mpr c9
                      clear c9
                      have H' := Aside0.mk H
                      clear H
                      have p146 : 0 ≤ (x8_2 : Int) := of_decide_eq_true (by first | (with_reducible assumption) | assumption)
                      have q146 : x8_2 < (l0.length : Int) := of_decide_eq_true (by first | (with_reducible assumption) | assumption)
                      obtain ⟨ad146, e146, hx146_0, hx146_1, hx146_2, hx146_3, hx146_4⟩ := at_T43 HR0.out x8_2 p146 q146
                      cases e146
                      replace hx146_0 := (HB.out.cell (World.block_lt_of_cell? w _ hx146_0)).trans hx146_0
                      replace hx146_1 := (HB.out.cell (World.block_lt_of_cell? w _ hx146_1)).trans hx146_1
                      replace hx146_2 := (HB.out.cell (World.block_lt_of_cell? w _ hx146_2)).trans hx146_2
                      replace hx146_3 := (HB.out.cell (World.block_lt_of_cell? w _ hx146_3)).trans hx146_3
                      replace hx146_4 := (HB.out.cell (World.block_lt_of_cell? w _ hx146_4)).trans hx146_4
                      replace p146 := eq_true p146
                      replace q146 := eq_true q146
                      have p147 : 0 ≤ (x8_2 : Int) := of_decide_eq_true (by first | (with_reducible assumption) | assumption)
                      have q147 : x8_2 < (l0.length : Int) := of_decide_eq_true (by first | (with_reducible assumption) | assumption)
                      obtain ⟨ad147, e147, hx147_0, hx147_1, hx147_2, hx147_3, hx147_4⟩ := at_T43 HR0.out x8_2 p147 q147
                      obtain rfl : ad146 = ad147 := (by injection e147)
                      replace hx147_0 := (HB.out.cell (World.block_lt_of_cell? w _ hx147_0)).trans hx147_0
                      replace hx147_1 := (HB.out.cell (World.block_lt_of_cell? w _ hx147_1)).trans hx147_1
                      replace hx147_2 := (HB.out.cell (World.block_lt_of_cell? w _ hx147_2)).trans hx147_2
                      replace hx147_3 := (HB.out.cell (World.block_lt_of_cell? w _ hx147_3)).trans hx147_3
                      replace hx147_4 := (HB.out.cell (World.block_lt_of_cell? w _ hx147_4)).trans hx147_4
                      replace p147 := eq_true p147
                      replace q147 := eq_true q147
                      go_wp2
                      go_roundg k2
                      case measure => have := HK1.out; have := HK2.out; omega
                      case rel => exact ⟨((((rd_T43 l0 x8_2).f1) == x6_1)), (wrap64 (x8_2 + 1)), (by first | rfl | (simp; done) | (simp [*]; done)), (by first | rfl | (simp; done) | (simp [*]; done)), H', ⟨by have := HK1.out; have := HK2.out; omega⟩, ⟨by (with_reducible repeat (first | apply Kd.R_alloc | apply Kd.R_drewN | apply Kd.R_drew)); exact HO_5.out⟩, ⟨by repeat (first | (with_reducible first | exact HB.out | apply below_alloc | apply pw_below_drewN | apply below_drew1) | exact HB.out)⟩⟩
                    · rw [if_neg c9] at H
                      have c9b0 : (((rd_T43 l0 x8_2).f0) == 5) = false := beq_eq_false_iff_ne.mpr c9
                      have c9b1 : (((rd_T43 l0 x8_2).f0) != 5) = true := bne_iff_ne.mpr c9
                      have H' := Aside0.mk H
                      clear H
                      have p146 : 0 ≤ (x8_2 : Int) := of_decide_eq_true (by first | (with_reducible assumption) | assumption)
                      have q146 : x8_2 < (l0.length : Int) := of_decide_eq_true (by first | (with_reducible assumption) | assumption)
                      obtain ⟨ad146, e146, hx146_0, hx146_1, hx146_2, hx146_3, hx146_4⟩ := at_T43 HR0.out x8_2 p146 q146
                      cases e146
                      replace hx146_0 := (HB.out.cell (World.block_lt_of_cell? w _ hx146_0)).trans hx146_0
                      replace hx146_1 := (HB.out.cell (World.block_lt_of_cell? w _ hx146_1)).trans hx146_1
                      replace hx146_2 := (HB.out.cell (World.block_lt_of_cell? w _ hx146_2)).trans hx146_2
                      replace hx146_3 := (HB.out.cell (World.block_lt_of_cell? w _ hx146_3)).trans hx146_3
                      replace hx146_4 := (HB.out.cell (World.block_lt_of_cell? w _ hx146_4)).trans hx146_4
                      replace p146 := eq_true p146
                      replace q146 := eq_true q146
                      go_wp2
                      go_roundg k2
                      case measure => have := HK1.out; have := HK2.out; omega
                      case rel => exact ⟨(false), (wrap64 (x8_2 + 1)), (by first | rfl | (simp; done) | (simp [*]; done)), (by first | rfl | (simp; done) | (simp [*]; done)), H', ⟨by have := HK1.out; have := HK2.out; omega⟩, ⟨by (with_reducible repeat (first | apply Kd.R_alloc | apply Kd.R_drewN | apply Kd.R_drew)); exact HO_5.out⟩, ⟨by repeat (first | (with_reducible first | exact HB.out | apply below_alloc | apply pw_below_drewN | apply below_drew1) | exact HB.out)⟩⟩
                  · rw [if_neg c8] at H
                    exact absurd H (by simp)
              · rw [if_neg c6] at H
                have c6b0 : decide (x8_2 < (l0.length : Int)) = false := decide_eq_false c6
                clear c6
                by_cases c10 : x7_2 = true
                · subst c10
                  have H1 : (if x5_1.length < 17592186044416 then (ringworkref25_Ended.l0 k2 l0 (x5_1 ++ [x6_1]) (wrap64 (x6_1 + 1))) else (none)) = some (r1, r2) := by rw [if_pos rfl] at H; exact H
                  clear H
                  have H := H1
                  clear H1
                  by_cases c11 : x5_1.length < 17592186044416
                  · rw [if_pos c11] at H
                    have LMc11 := Aside0.mk c11
                    clear c11
                    obtain ⟨y148, hy148⟩ : ∃ y_ : List Int, y_ = (x5_1 ++ [x6_1]) := ⟨_, rfl⟩
                    replace H : (ringworkref25_Ended.l0 k2 l0 y148 (wrap64 (x6_1 + 1))) = some (r1, r2) := by first | (rw [hy148]; with_reducible exact H) | (have H2_ := (Option.bind_some _ _).symm.trans H; rw [hy148]; with_reducible exact H2_) | (have H2_ := (Option.bind_some _ _).symm.trans H; with_reducible exact H2_) | with_reducible exact H | (rw [hy148]; exact H) | exact H
                    have Ny148 := Aside0.mk hy148
                    clear hy148
                    have H' := Aside0.mk H
                    clear H
                    go_wp2_with (first | ((with_reducible refine gate_builtin (b := .append) (xs := #[.tmp 43, .tmp 45]) rfl ?_); at_builtin; refine Kd.R_append (Kd.int .i64) (w0 := w) w.heap.size rfl (.tmp 43) (.tmp 45) 28 3 (.int .i64 0) 8 rfl Tryz.underlying28 info3 rfl (by decide) (by omega) u5 x5_1 x6_1 [.int .i64 x6_1] (fun _ => True) (fun _ => False) rfl rfl ?aP (fun _ hk => hk.elim) ?aF ?aO ?aB ?aS ?aL ?_; (case aP => exact rfl); (case aB => exact (by repeat (first | (with_reducible first | exact HB.out | apply below_alloc | apply pw_below_drewN | apply below_drew1) | exact HB.out))); (case aF => exact (fun _ _ => trivial)); (case aO => exact (by (with_reducible repeat (first | apply Kd.R_alloc | apply Kd.R_drewN | apply Kd.R_drew)); exact HO_5.out)); (case aS => exact (below_size (by repeat (first | (with_reducible first | exact HB.out | apply below_alloc | apply pw_below_drewN | apply below_drew1) | exact HB.out)))); (case aL => have := LMc11.out; omega); intro v149 w12 ho hb hg hat; rw [← Ny148.out] at ho; have n0_ := Aside0.mk (hb); have n1_ := Aside0.mk (ho); clear HB; clear HO_5; have HB := n0_; have HO150 := n1_; clear n0_ n1_; clear ho hb hg hat))
                    go_roundg k2
                    case measure => have := HK1.out; have := HK2.out; omega
                    case rel => exact ⟨(y148), (wrap64 (x6_1 + 1)), (by first | rfl | (simp; done) | (simp [*]; done)), H', ⟨by have := HK1.out; have := HK2.out; omega⟩, ⟨by (with_reducible repeat (first | apply Kd.R_alloc | apply Kd.R_drewN | apply Kd.R_drew)); exact HO150.out⟩, ⟨by repeat (first | (with_reducible first | exact HB.out | apply below_alloc | apply pw_below_drewN | apply below_drew1) | exact HB.out)⟩⟩
                  · rw [if_neg c11] at H
                    exact absurd H (by simp)
                · replace c10 := Bool.eq_false_iff.mpr c10
                  subst c10
                  have H1 : (ringworkref25_Ended.l0 k2 l0 x5_1 (wrap64 (x6_1 + 1))) = some (r1, r2) := by rw [if_neg (show ¬ (false = true) by decide)] at H; exact H
                  clear H
                  have H := H1
                  clear H1
                  have H' := Aside0.mk H
                  clear H
                  go_wp2
                  go_roundg k2
                  case measure => have := HK1.out; have := HK2.out; omega
                  case rel => exact ⟨(x5_1), (wrap64 (x6_1 + 1)), (by first | rfl | (simp; done) | (simp [*]; done)), H', ⟨by have := HK1.out; have := HK2.out; omega⟩, ⟨by (with_reducible repeat (first | apply Kd.R_alloc | apply Kd.R_drewN | apply Kd.R_drew)); exact HO_5.out⟩, ⟨by repeat (first | (with_reducible first | exact HB.out | apply below_alloc | apply pw_below_drewN | apply below_drew1) | exact HB.out)⟩⟩
        · rw [if_neg c5] at H
          have c5b0 : decide (x6_1 ≤ 1000) = false := decide_eq_false c5
          clear c5
          simp only [Option.some.injEq, Prod.mk.injEq] at H
          obtain ⟨rfl, rfl⟩ := H
          go_wp2
          go_ret2
          exact ⟨_, by first | rfl | (simp [errW_none, errW_some] <;> rfl) | (simp [*, errW_none, errW_some] <;> rfl), by (with_reducible repeat (first | apply Kd.R_alloc | apply Kd.R_drewN | apply Kd.R_drew)); exact HO_5.out, by repeat (first | (with_reducible first | exact HB.out | apply below_alloc | apply pw_below_drewN | apply below_drew1) | exact HB.out)⟩
  · rw [if_neg c3] at H
    have c3b0 : (t145 == 0) = false := beq_eq_false_iff_ne.mpr c3
    have c3b1 : (t145 != 0) = true := bne_iff_ne.mpr c3
    simp only [Option.some.injEq, Prod.mk.injEq] at H
    obtain ⟨rfl, rfl⟩ := H
    go_enter Tryz.func12, Tryz.ntmps12
    go_wp2_with (first | ((with_reducible refine gate_callee (f := 31) rfl ?_); refine goesL_ (some 10) rfl rfl Tryz.func31 (by kernel_rfl) rfl #[.slice A0 l0.length c0] rfl (by (try simp only [List.map_toArray, List.map_cons, List.map_nil]); first | done | rfl | (simp only [List.length_drop, List.length_take]; rfl)) ?_; (with_reducible refine (ringworkref25_right.calls k _ _ l0 t145 _ ?side1 ?side2 A2.out).mono ?_); (case side1 => repeat (first | exact HR0.out | (with_reducible refine Kd.C_alloc ?_ _) | (with_reducible refine Kd.C_drewN ?_ _) | (with_reducible refine Kd.C_drew ?_))); (case side2 => exact HC0.out); rintro e w13 ⟨rfl, hb⟩; refine ⟨_, rfl, ?_⟩; have n0_ := Aside0.mk (below_step (by repeat (first | (with_reducible first | exact HB.out | apply below_alloc | apply pw_below_drewN | apply below_drew1) | exact HB.out)) hb); clear HB; have HB := n0_; clear n0_; (try clear hb); (try clear hb2); (try clear hk); (try clear hi)))
    go_ret2
    exact ⟨_, by first | rfl | (simp [errW_none, errW_some] <;> rfl) | (simp [*, errW_none, errW_some] <;> rfl), by first | exact Kd.R_nil _ _ _ _ _ | exact Kd.N_nil _ _ _ _ _ | exact Kd.V_nil _ _ _ _ _ | exact Kd.Q_nil _ _ _ _ _ | exact Kd.S_nil _ _ _ _ _, by repeat (first | (with_reducible first | exact HB.out | apply below_alloc | apply pw_below_drewN | apply below_drew1) | exact HB.out)⟩

end Go.Proofs.YteblpjnkinghoaaGreat.J
/- The reference's Valid, notes and Wrong are the program's. -/
namespace Go.Proofs.YteblpjnkinghoaaGreat.J
open Go.RowKit Go.Proofs.YteblpjnkinghoaaGreatW.PrintWords
theorem ref_Valid (n : S43) : Ev (fun k => ringworkref25_Valid.f k n.f0 n.f1 n.f2 n.f3 n.f4) (vld n) := by
  have hs : ∀ s : ByteArray, (¬ (s.size : Int) ≥ 1) ↔ s.toList = [] := fun s => by
    rw [toList_nil_iff]; omega
  have hnil : ∀ s : ByteArray, (s.toList = []) = (s.size = 0) := fun s => propext (toList_nil_iff s)
  have hnb : ∀ s : ByteArray, (s.toList == ([] : List UInt8)) = decide (s.size = 0) := fun s => by
    rw [Bool.eq_iff_iff]; simp [hnil]
  obtain ⟨f0, f1, f2, f3, f4⟩ := n
  unfold vld journal_Valid.f
  simp only
  unfold ringworkref25_Valid.f
  have plain : ∀ b : Bool, b = false → (f0 = 1 ∨ f0 = 4 ∨ f0 = 5 ∨ f0 = 7) → Ev (fun k => ringworkref25_Valid.j0 k f0 b f0 f1 f2 f3 f4) ((journal_plain.f f0 f1 f2 f3 f4).getD false) := fun b hb hf => by
    subst hb
    refine Ev.step (body := fun _ => some ((journal_plain.f f0 f1 f2 f3 f4).getD false)) (fun k => ?_) (Ev.val _)
    rw [ringworkref25_Valid.j0, if_neg (by decide)]
    unfold journal_plain.f journal_unit.f
    rcases hf with rfl | rfl | rfl | rfl <;> by_cases a1 : 1 ≤ f1 <;> by_cases a2 : f1 ≤ 1000 <;> by_cases a3 : f2.toList = [] <;> cases f3 <;> simp [a1, a2, a3]
  have imaged : Ev (fun k => ringworkref25_Valid.j0 k f0 true f0 f1 f2 f3 f4) ((journal_imaged.f f0 f1 f2 f3 f4).getD false) := by
    refine Ev.step (body := fun _ => some ((journal_imaged.f f0 f1 f2 f3 f4).getD false)) (fun k => ?_) (Ev.val _)
    rw [ringworkref25_Valid.j0, if_pos rfl, show ringworkref25_image.f f2 f3 f4 = some (img ⟨f2, f3, f4⟩) from rimg ⟨f2, f3, f4⟩]
    unfold img journal_image.f journal_imaged.f journal_unit.f
    simp only
    by_cases a1 : 1 ≤ f1 <;> by_cases a2 : f1 ≤ 1000 <;> by_cases a3 : f2.toList = [] <;> by_cases a4 : (f2.size : Int) ≤ 40 <;> by_cases a5 : (f4.size : Int) ≤ 4000 <;> cases f3 <;> simp [a1, a2, a3, a4, a5]
  by_cases h6 : f0 = 6
  · subst h6
    refine Ev.of fun k => ?_
    rw [if_pos rfl, if_neg (show ¬ (6 : Int) < 1 by omega), if_neg (show ¬ (7 : Int) < 6 by omega), if_neg (show ¬ ((6 : Int) = 2 ∨ (6 : Int) = 3) by omega), if_pos rfl]
    unfold journal_named.f
    by_cases a1 : f1 = 0
    · rw [if_pos a1, if_pos a1]
      by_cases a2 : f2.toList = []
      · rw [if_pos a2, if_pos a2]
        cases f3
        · rw [if_neg (show ¬ (false = true) by decide), if_neg (show ¬ (false = true) by decide)]
          by_cases a3 : f4.toList = []
          · rw [if_neg ((hs f4).2 a3), if_pos a3]; rfl
          · rw [if_pos (Classical.not_not.1 (fun h => a3 ((hs f4).1 h))), if_neg a3]; rfl
        · rfl
      · rw [if_neg a2, if_neg a2]; rfl
    · rw [if_neg a1, if_neg a1]; rfl
  · simp only [if_neg h6]
    by_cases h2 : f0 = 2
    · subst h2
      simpa using imaged
    · simp only [if_neg h2]
      by_cases h3 : f0 = 3
      · subst h3
        simpa using imaged
      · by_cases hr : f0 = 1 ∨ f0 = 4 ∨ f0 = 5 ∨ f0 = 7
        · rw [if_neg (by omega), if_neg (by omega), if_neg (by omega)]
          exact plain _ (beq_eq_false_iff_ne.2 h3) hr
        · rw [show (if f0 < 1 then some false else if 7 < f0 then some false else if f0 = 2 ∨ f0 = 3 then journal_imaged.f f0 f1 f2 f3 f4 else journal_plain.f f0 f1 f2 f3 f4).getD false = false by
            by_cases hz : f0 < 1
            · rw [if_pos hz]; rfl
            · rw [if_neg hz, if_pos (by omega)]; rfl]
          refine Ev.step (body := fun _ => some false) (fun k => ?_) (Ev.val _)
          rw [ringworkref25_Valid.j0, if_neg (by simpa using h3), if_neg (by omega), if_neg (by omega), if_neg (by omega), if_neg (by omega)]
theorem ref_notes_from (l : List S43) (hl : l.length ≤ 9223372036854775807) : ∀ (d i : Nat), d = l.length - i → i ≤ l.length → Ev (fun k => ringworkref25_notes.l0 k l (i : Int)) ((l.drop i).all vld && decide (l.length ≤ 1000))
  | 0, i, hd, hi => by
    have : i = l.length := by omega
    subst this
    rw [List.drop_length]
    exact Ev.step (fun k => by rw [ringworkref25_notes.l0, if_neg (by omega)]) (Ev.of fun k => by simp; omega)
  | d + 1, i, hd, hi => by
    have hlt : i < l.length := by omega
    refine Ev.step (fun k => by rw [ringworkref25_notes.l0, if_pos (by omega), if_pos (by omega)]) ?_
    rw [drop_rd hlt, List.all_cons]
    refine Ev.bind (ref_Valid _) ?_
    cases vld (rd_T43 l (i : Int))
    · exact Ev.val _
    · simp only [if_true, Bool.true_and]
      rw [wrap_next' hlt hl]
      exact ref_notes_from l hl d (i + 1) (by omega) (by omega)
theorem ref_notes (l : List S43) (hl : l.length ≤ 9223372036854775807) : Ev (fun k => ringworkref25_notes.f k l) (decide (l.length ≤ 1000) && l.all vld) := by
  have := ref_notes_from l hl l.length 0 (by omega) (by omega)
  rw [List.drop_zero, Bool.and_comm] at this
  exact this
/-- Whether another unit has a key. -/
def dupV (p : List S43) (n : S43) : Bool := p.any fun m => decide (m.f1 ≠ n.f1 ∧ m.f0 ≠ 6) && touchedV p m.f1 n.f2 0
/-- What is wrong with a note behind others. -/
def wrongR (p : List S43) (n : S43) : Int :=
  if n.f0 = 6 then 0 else if (sinceV p n.f1).2 = decide (n.f0 = 1) then 9
  else if ¬ (n.f0 = 2 ∨ n.f0 = 3) then 0
  else if n.f0 = 3 ∧ touchedV p n.f1 n.f2 2 = false then 8
  else if dupV p n = true then 6 else 0
theorem ref_dup_from (l : List S43) (n : Nat) (a0 a1 : Int) (a2 : ByteArray) (a3 : Bool) (a4 : ByteArray) (hn : n ≤ l.length) (hl : l.length ≤ 9223372036854775807) : ∀ (d i : Nat), d = n - i → i ≤ n →
    Ev (fun k => ringworkref25_wrong.l0 k l (n : Int) (i : Int) a0 a1 a2 a3 a4) (if ((l.take n).drop i).any (fun m => decide (m.f1 ≠ a1 ∧ m.f0 ≠ 6) && touchedV (l.take n) m.f1 a2 0) = true then 6 else 0)
  | 0, i, hd, hi => by
    have : i = n := by omega
    subst this
    rw [List.drop_eq_nil_of_le (by rw [List.length_take]; omega)]
    exact Ev.step (fun k => by rw [ringworkref25_wrong.l0, if_neg (by omega)]; rfl) (Ev.val _)
  | d + 1, i, hd, hi => by
    have hlt : i < n := by omega
    have next := ref_dup_from l n a0 a1 a2 a3 a4 hn hl d (i + 1) (by omega) (by omega)
    rw [← wrap_next' (show i < l.length by omega) hl] at next
    rw [rd_take hlt hn, List.any_cons]
    refine Ev.step (fun k => by rw [ringworkref25_wrong.l0, if_pos (by omega), if_pos (by omega), if_pos (by omega)]) ?_
    generalize rd_T43 l (i : Int) = x
    by_cases h1 : x.f1 = a1
    · simp only [if_pos h1]
      rw [show decide (x.f1 ≠ a1 ∧ x.f0 ≠ 6) = false from decide_eq_false (fun h => h.1 h1), Bool.false_and, Bool.false_or]
      exact next
    · simp only [if_neg h1]
      by_cases h6 : x.f0 = 6
      · simp only [if_pos h6]
        rw [show decide (x.f1 ≠ a1 ∧ x.f0 ≠ 6) = false from decide_eq_false (fun h => h.2 h6), Bool.false_and, Bool.false_or]
        exact next
      · simp only [if_neg h6]
        rw [show decide (x.f1 ≠ a1 ∧ x.f0 ≠ 6) = true from decide_eq_true ⟨h1, h6⟩, Bool.true_and]
        refine Ev.bind (ref_touched l n x.f1 a2 0 hn hl) ?_
        cases touchedV (l.take n) x.f1 a2 0
        · rw [Bool.false_or]; exact next
        · exact Ev.val _
theorem ref_wrong (l : List S43) (i : Nat) (hi : i < l.length) (hl : l.length ≤ 9223372036854775807) : Ev (fun k => ringworkref25_wrong.f k l (i : Int)) (wrongR (l.take i) (rd_T43 l (i : Int))) := by
  unfold ringworkref25_wrong.f
  simp only [if_pos (show (0 : Int) ≤ (i : Int) by omega), if_pos (show (i : Int) < (l.length : Int) by omega)]
  generalize rd_T43 l (i : Int) = n
  refine Ev.bind (ref_since l i n.f1 (by omega) hl) ?_
  have hon : decide (atI (sinceV (l.take i) n.f1) ≥ 0) = (sinceV (l.take i) n.f1).2 := by
    unfold atI
    cases hs : (sinceV (l.take i) n.f1).2
    · rfl
    · have := since_in hs
      simp; exact this.1
  rw [hon]
  unfold wrongR
  by_cases h6 : n.f0 = 6
  · simp only [if_pos h6]; exact Ev.val _
  simp only [if_neg h6]
  have hb : (((sinceV (l.take i) n.f1).2 == (n.f0 == 1)) = true) = ((sinceV (l.take i) n.f1).2 = decide (n.f0 = 1)) := by
    rw [beq_iff_eq]
    have : (n.f0 == 1) = decide (n.f0 = 1) := by rw [Bool.eq_iff_iff]; simp
    rw [this]
  simp only [hb]
  by_cases h9 : (sinceV (l.take i) n.f1).2 = decide (n.f0 = 1)
  · simp only [if_pos h9]; exact Ev.val _
  simp only [if_neg h9]
  have hdup := ref_dup_from l i n.f0 n.f1 n.f2 n.f3 n.f4 (by omega) hl i 0 (by omega) (by omega)
  rw [List.drop_zero] at hdup
  have hd : Ev (fun k => ringworkref25_wrong.j1 k l (i : Int) n.f0 n.f1 n.f2 n.f3 n.f4) (if dupV (l.take i) n = true then 6 else 0) := Ev.step (fun k => by rw [ringworkref25_wrong.j1]; rfl) hdup
  by_cases h2 : n.f0 = 2
  · simp only [if_pos h2]
    rw [if_neg (show ¬ ¬ (n.f0 = 2 ∨ n.f0 = 3) from fun h => h (.inl h2)), if_neg (show ¬ (n.f0 = 3 ∧ _) from fun h => by have := h.1; omega)]
    exact Ev.step (fun k => by rw [ringworkref25_wrong.j0, if_neg (by decide), if_neg (by omega)]) hd
  · simp only [if_neg h2]
    by_cases h3 : n.f0 = 3
    · rw [if_neg (show ¬ ¬ (n.f0 = 2 ∨ n.f0 = 3) from fun h => h (.inr h3))]
      refine Ev.step (fun k => by rw [ringworkref25_wrong.j0, if_neg (by rw [h3]; decide), if_pos h3]) ?_
      refine Ev.bind (ref_touched l i n.f1 n.f2 2 (by omega) hl) ?_
      cases ht : touchedV (l.take i) n.f1 n.f2 2
      · rw [if_pos ⟨h3, rfl⟩]; exact Ev.val _
      · rw [if_neg (fun h => by cases h.2)]
        exact hd
    · rw [if_pos (show ¬ (n.f0 = 2 ∨ n.f0 = 3) from fun h => by omega)]
      exact Ev.step (fun k => by rw [ringworkref25_wrong.j0, if_pos (by simpa using h3)]) (Ev.val _)
/-- What Wrong keeps tells of the notes so far. -/
structure WInv (p : List S43) (st : WSt) : Prop where
  on : ∀ u, (st.on u).isSome = (sinceV p u).2
  keys : ∀ u K, st.on u = some K → ∀ key, K key = touchedV p u key 2 ∧ K key = touchedV p u key 0
  tk : ∀ key o, st.tk key = some o ↔ touchedV p o key 0 = true
theorem touched_on {p : List S43} {u : Int} {key : ByteArray} {kind : Int} (h : touchedV p u key kind = true) : (sinceV p u).2 = true := by
  unfold touchedV at h; rw [Bool.and_eq_true] at h; exact h.1
theorem winv_nil : WInv [] ⟨fun _ => none, fun _ => none⟩ where
  on _ := rfl
  keys _ _ h := by cases h
  tk _ _ := ⟨fun h => (by cases h), fun h => (by have := touched_on h; cases this)⟩
theorem dup_tk {p : List S43} {st : WSt} (h : WInv p st) (n : S43) : dupV p n = (st.tk n.f2).any (· ≠ n.f1) := by
  rw [Bool.eq_iff_iff]
  unfold dupV
  constructor
  · intro hd
    obtain ⟨m, hm, hc⟩ := List.any_eq_true.1 hd
    rw [Bool.and_eq_true, decide_eq_true_eq] at hc
    rw [(h.tk n.f2 m.f1).2 hc.2]
    simpa using hc.1.1
  · intro ha
    cases ht : st.tk n.f2 with
    | none => rw [ht] at ha; cases ha
    | some o =>
      rw [ht] at ha
      have ho : o ≠ n.f1 := by simpa using ha
      have htt := (h.tk n.f2 o).1 ht
      have htt' := htt
      unfold touchedV at htt'
      rw [Bool.and_eq_true] at htt'
      obtain ⟨m, hm, hc⟩ := List.any_eq_true.1 htt'.2
      have hc' := of_decide_eq_true hc
      exact List.any_eq_true.2 ⟨m, List.mem_of_mem_drop hm, by rw [hc'.1, htt, decide_eq_true ⟨ho, by omega⟩]; rfl⟩
theorem since_snoc_other {p : List S43} {n : S43} {u : Int} (h : n.f1 ≠ u) : sinceV (p ++ [n]) u = sinceV p u := by
  rw [since_snoc]; unfold sinceStep; rw [if_neg h]
theorem touched_snoc_other {p : List S43} {n : S43} {u : Int} (h : n.f1 ≠ u) (key : ByteArray) (kind : Int) : touchedV (p ++ [n]) u key kind = touchedV p u key kind := by
  rw [touched_snoc, if_neg (fun hh => h hh.1), show tcond u key kind n = false from decide_eq_false (fun hh => h hh.1), Bool.and_false, Bool.or_false]
theorem wrong_step {p : List S43} {st : WSt} (h : WInv p st) (n : S43) : (wrongR p n ≠ 0 ∧ wrongStep st n = .inl (wrongR p n)) ∨ (wrongR p n = 0 ∧ ∃ st', wrongStep st n = .inr st' ∧ WInv (p ++ [n]) st') := by
  unfold wrongR
  by_cases h6 : n.f0 = 6
  · right
    rw [if_pos h6, wrongStep_6 h6]
    have e1 : ∀ u, sinceV (p ++ [n]) u = sinceV p u := fun u => by rw [since_snoc]; unfold sinceStep; split <;> simp [h6]
    have e2 : ∀ u key kind, touchedV (p ++ [n]) u key kind = touchedV p u key kind := fun u key kind => by
      rw [touched_snoc, if_neg (fun hh => hh.2.1 h6), show tcond u key kind n = false from decide_eq_false (fun hh => by have := hh.2.2.1; omega), Bool.and_false, Bool.or_false]
    exact ⟨rfl, st, rfl, ⟨fun u => by rw [e1]; exact h.on u, fun u K hu key => by rw [e2, e2]; exact h.keys u K hu key, fun key o => by rw [e2]; exact h.tk key o⟩⟩
  rw [if_neg h6]
  by_cases h9 : (sinceV p n.f1).2 = decide (n.f0 = 1)
  · left
    rw [if_pos h9, wrongStep_9 h6 ((h.on n.f1).trans h9)]
    exact ⟨by decide, rfl⟩
  rw [if_neg h9]
  by_cases h1 : n.f0 = 1
  · right
    have hoff : (sinceV p n.f1).2 = false := by cases hs : (sinceV p n.f1).2 <;> simp_all
    have hnone : st.on n.f1 = none := by
      cases hs : st.on n.f1 with
      | none => rfl
      | some K => have := h.on n.f1; rw [hs, hoff] at this; cases this
    rw [if_pos (show ¬ (n.f0 = 2 ∨ n.f0 = 3) by omega), wrongStep_1 h1 hnone]
    refine ⟨rfl, _, rfl, ⟨fun u => ?_, fun u K hu key => ?_, fun key o => ?_⟩⟩
    · unfold WSt.set
      by_cases hu : u = n.f1
      · subst hu; simp only [if_true]; rw [since_snoc]; unfold sinceStep; rw [if_pos rfl, if_neg h6, if_pos (.inl h1)]; rfl
      · simp only [if_neg hu]; rw [since_snoc_other (Ne.symm hu)]; exact h.on u
    · unfold WSt.set at hu
      by_cases hx : u = n.f1
      · subst hx
        simp only [if_true] at hu
        cases hu
        have htn : ∀ kind, touchedV (p ++ [n]) n.f1 key kind = false := fun kind => by rw [touched_snoc, if_pos ⟨rfl, h6, .inl h1⟩]
        rw [htn, htn]
        exact ⟨rfl, rfl⟩
      · simp only [if_neg hx] at hu
        rw [touched_snoc_other (Ne.symm hx), touched_snoc_other (Ne.symm hx)]
        exact h.keys u K hu key
    · by_cases hx : o = n.f1
      · subst hx
        rw [touched_snoc, if_pos ⟨rfl, h6, .inl h1⟩]
        constructor
        · intro ht
          have := touched_on ((h.tk key n.f1).1 ht)
          rw [hoff] at this; cases this
        · intro ht; cases ht
      · rw [touched_snoc_other (Ne.symm hx)]; exact h.tk key o
  have hon : (sinceV p n.f1).2 = true := by
    cases hs : (sinceV p n.f1).2
    · rw [hs] at h9; exact absurd (decide_eq_false h1).symm h9
    · rfl
  obtain ⟨K, hK⟩ : ∃ K, st.on n.f1 = some K := Option.isSome_iff_exists.1 ((h.on n.f1).trans hon)
  by_cases h23 : n.f0 = 2 ∨ n.f0 = 3
  · rw [if_neg (show ¬ ¬ (n.f0 = 2 ∨ n.f0 = 3) from fun hh => hh h23)]
    have hk2 := (h.keys n.f1 K hK n.f2).1
    by_cases h8 : n.f0 = 3 ∧ touchedV p n.f1 n.f2 2 = false
    · left
      rw [if_pos h8, wrongStep_8 h8.1 hK (hk2.trans h8.2)]
      exact ⟨by decide, rfl⟩
    have hkk0 : n.f0 = 3 ∧ K n.f2 = true ∨ n.f0 = 2 := by
      rcases h23 with h2 | h3
      · exact .inr h2
      · refine .inl ⟨h3, ?_⟩
        cases hz : K n.f2
        · exact absurd ⟨h3, hk2.symm.trans hz⟩ h8
        · rfl
    rw [if_neg h8, dup_tk h n]
    by_cases hd : (st.tk n.f2).any (· ≠ n.f1) = true
    · left
      cases ht : st.tk n.f2 with
      | none => rw [ht] at hd; cases hd
      | some o =>
        rw [ht] at hd
        rw [if_pos hd, wrongStep_d hkk0 hK ht (by simpa using hd)]
        exact ⟨by decide, rfl⟩
    right
    have ht : st.tk n.f2 = none ∨ st.tk n.f2 = some n.f1 := by
      cases ht : st.tk n.f2 with
      | none => exact .inl rfl
      | some o =>
        rw [ht] at hd
        by_cases ho : o = n.f1
        · exact .inr (by rw [ho])
        · exact absurd (by simpa using ho) hd
    rw [if_neg hd, wrongStep_k hkk0 hK ht]
    have hsn : sinceV (p ++ [n]) n.f1 = sinceV p n.f1 := by rw [since_snoc]; unfold sinceStep; rw [if_pos rfl, if_neg h6, if_neg (by omega), if_neg (by omega)]
    have htn : ∀ key kind, touchedV (p ++ [n]) n.f1 key kind = (touchedV p n.f1 key kind || tcond n.f1 key kind n) := fun key kind => by
      rw [touched_snoc, if_neg (fun hh => by omega), hon, Bool.true_and]
    refine ⟨rfl, _, rfl, ⟨fun u => ?_, fun u L hu key => ?_, fun key o => ?_⟩⟩
    · by_cases hu : u = n.f1
      · subst hu; simp only [if_true]; rw [hsn, hon]; rfl
      · simp only [if_neg hu]; rw [since_snoc_other (Ne.symm hu)]; exact h.on u
    · by_cases hx : u = n.f1
      · subst hx
        simp only [if_true] at hu
        cases hu
        rw [htn, htn]
        have hkk := h.keys n.f1 K hK key
        by_cases he : key = n.f2
        · subst he
          simp only [if_true]
          rw [show tcond n.f1 n.f2 0 n = true from decide_eq_true ⟨rfl, rfl, h23, .inl rfl⟩, Bool.or_true]
          refine ⟨?_, rfl⟩
          rcases h23 with h2 | h3
          · rw [show tcond n.f1 n.f2 2 n = true from decide_eq_true ⟨rfl, rfl, .inl h2, .inr h2⟩, Bool.or_true]
          · cases htt : touchedV p n.f1 n.f2 2
            · exact absurd ⟨h3, htt⟩ h8
            · rfl
        · simp only [if_neg he]
          rw [show tcond n.f1 key 2 n = false from decide_eq_false (fun hh => he hh.2.1.symm), show tcond n.f1 key 0 n = false from decide_eq_false (fun hh => he hh.2.1.symm), Bool.or_false, Bool.or_false]
          exact hkk
      · simp only [if_neg hx] at hu
        rw [touched_snoc_other (Ne.symm hx), touched_snoc_other (Ne.symm hx)]
        exact h.keys u L hu key
    · by_cases he : key = n.f2
      · subst he
        simp only [if_true]
        by_cases hx : o = n.f1
        · subst hx
          rw [htn, show tcond n.f1 n.f2 0 n = true from decide_eq_true ⟨rfl, rfl, h23, .inl rfl⟩, Bool.or_true]
          simp
        · rw [touched_snoc_other (Ne.symm hx)]
          constructor
          · intro ht; exact absurd (Option.some.inj ht).symm hx
          · intro ht
            have := (h.tk n.f2 o).2 ht
            rw [this] at hd
            exact absurd (by simpa using hx) hd
      · simp only [if_neg he]
        by_cases hx : o = n.f1
        · subst hx
          rw [htn, show tcond n.f1 key 0 n = false from decide_eq_false (fun hh => he hh.2.1.symm), Bool.or_false]
          exact h.tk key n.f1
        · rw [touched_snoc_other (Ne.symm hx)]; exact h.tk key o
  · rw [if_pos h23]
    right
    refine ⟨rfl, ?_⟩
    by_cases hq : n.f0 = 4 ∨ n.f0 = 5 ∨ n.f0 = 7
    · rw [wrongStep_q hq hK]
      have htn : ∀ key kind, touchedV (p ++ [n]) n.f1 key kind = false := fun key kind => by
        rw [touched_snoc, if_pos ⟨rfl, h6, by omega⟩]
      refine ⟨_, rfl, ⟨fun u => ?_, fun u L hu key => ?_, fun key o => ?_⟩⟩
      · by_cases hu : u = n.f1
        · subst hu
          simp only [if_true]
          rw [since_snoc]
          unfold sinceStep
          rw [if_pos rfl, if_neg h6]
          by_cases h4 : n.f0 = 4
          · rw [if_pos h4, if_pos (.inr h4)]; rfl
          · rw [if_neg h4, if_neg (by omega), if_pos (by omega)]; rfl
        · simp only [if_neg hu]; rw [since_snoc_other (Ne.symm hu)]; exact h.on u
      · by_cases hx : u = n.f1
        · subst hx
          simp only [if_true] at hu
          rw [htn, htn]
          by_cases h4 : n.f0 = 4
          · rw [if_pos h4] at hu; cases hu; exact ⟨rfl, rfl⟩
          · rw [if_neg h4] at hu; cases hu
        · simp only [if_neg hx] at hu
          rw [touched_snoc_other (Ne.symm hx), touched_snoc_other (Ne.symm hx)]
          exact h.keys u L hu key
      · have hkk := (h.keys n.f1 K hK key).2
        by_cases hx : o = n.f1
        · subst hx
          rw [htn]
          constructor
          · intro ht
            by_cases hKk : K key = true
            · simp only [if_pos hKk] at ht; cases ht
            · simp only [if_neg hKk] at ht
              rw [hkk] at hKk
              exact absurd ((h.tk key n.f1).1 ht) hKk
          · intro ht; cases ht
        · rw [touched_snoc_other (Ne.symm hx)]
          by_cases hKk : K key = true
          · simp only [if_pos hKk]
            constructor
            · intro ht; cases ht
            · intro ht
              have h1 := (h.tk key o).2 ht
              have h2 := (h.tk key n.f1).2 (hkk.symm.trans hKk)
              rw [h1] at h2
              exact absurd (Option.some.inj h2) hx
          · simp only [if_neg hKk]; exact h.tk key o
    · rw [wrongStep_x h1 (by omega) (by omega) (by omega) (by omega) (by omega) hK]
      have e1 : ∀ u, sinceV (p ++ [n]) u = sinceV p u := fun u => by
        rw [since_snoc]; unfold sinceStep
        split
        · rw [if_neg (by omega), if_neg (by omega)]
        · rfl
      have e2 : ∀ u key kind, touchedV (p ++ [n]) u key kind = touchedV p u key kind := fun u key kind => by
        rw [touched_snoc, if_neg (fun hh => by omega), show tcond u key kind n = false from decide_eq_false (fun hh => h23 hh.2.2.1), Bool.and_false, Bool.or_false]
      exact ⟨st, rfl, ⟨fun u => by rw [e1]; exact h.on u, fun u K hu key => by rw [e2, e2]; exact h.keys u K hu key, fun key o => by rw [e2]; exact h.tk key o⟩⟩
theorem ref_Wrong_from (l : List S43) (hl : l.length ≤ 9223372036854775807) : ∀ (d i : Nat), d = l.length - i → i ≤ l.length → ∀ st, WInv (l.take i) st →
    Ev (fun k => ringworkref25_Wrong.l0 k l (i : Int)) (wrongFrom (l.drop i) i st)
  | 0, i, hd, hi, st, _ => by
    have : i = l.length := by omega
    subst this
    rw [List.drop_length]
    exact Ev.step (fun k => by rw [ringworkref25_Wrong.l0, if_neg (by omega)]; rfl) (Ev.val _)
  | d + 1, i, hd, hi, st, hI => by
    have hlt : i < l.length := by omega
    rw [drop_rd hlt, wrongFrom]
    refine Ev.step (fun k => by rw [ringworkref25_Wrong.l0, if_pos (by omega)]) ?_
    refine Ev.bind (ref_wrong l i hlt hl) ?_
    have hsn : l.take (i + 1) = l.take i ++ [rd_T43 l (i : Int)] := by
      have e : rd_T43 l (i : Int) = l[i] := by unfold rd_T43; rw [Int.toNat_natCast, List.getD_eq_getElem?_getD, List.getElem?_eq_getElem hlt]; rfl
      rw [e, List.take_succ_eq_append_getElem hlt]
    rcases wrong_step hI (rd_T43 l (i : Int)) with ⟨h0, hs⟩ | ⟨h0, st', hs, hI'⟩
    · rw [hs]
      simp only [if_neg h0]
      exact Ev.val _
    · rw [hs]
      simp only [if_pos h0]
      rw [wrap_next' hlt hl]
      exact ref_Wrong_from l hl d (i + 1) (by omega) (by omega) st' (by rw [hsn]; exact hI')
/-- The reference's Wrong is the program's. -/
theorem ref_Wrong (l : List S43) (hl : l.length ≤ 9223372036854775807) : ∃ r, journal_Wrong.f l = some r ∧ Ev (fun k => ringworkref25_Wrong.f k l) r := by
  unfold journal_Wrong.f ringworkref25_Wrong.f
  by_cases hv : l.length ≤ 1000 ∧ l.all vld = true
  · rw [if_pos hv]
    refine ⟨_, rfl, Ev.bind (ref_notes l hl) ?_⟩
    rw [decide_eq_true hv.1, hv.2]
    exact ref_Wrong_from l hl l.length 0 (by omega) (by omega) _ winv_nil
  · rw [if_neg hv]
    refine ⟨_, rfl, Ev.bind (ref_notes l hl) ?_⟩
    have : (decide (l.length ≤ 1000) && l.all vld) = false := by
      rw [Bool.eq_false_iff]; intro h; rw [Bool.and_eq_true, decide_eq_true_eq] at h; exact hv h
    rw [this]
    exact Ev.val _
end Go.Proofs.YteblpjnkinghoaaGreat.J
/- slices.Reverse of images: the printed function and its contract, one step of the printed proof mended (two images of one row: their cells are apart). -/
namespace Go.Proofs.YteblpjnkinghoaaGreat.J
open Go.RowKit Go.Proofs.YteblpjnkinghoaaGreatW.PrintWords Go.Proofs.YteblpjnkinghoaaGreatW.PrintLast Go.Proofs.YteblpjnkinghoaaGreatW.PrintMore
attribute [local go_sem] max2_int min2_int max_two min_two max_three min_three max_four min_four
/-! ### api_Image: function 38 -/
def api_Image.l0 : Nat → List (S48) → Int → Int → Option ((List (S48)))
  | 0, _, _, _ => none
  | k + 1, x0, x2, x3 => if x2 < x3 then (if 0 ≤ x3 then (if x3 < (x0.length : Int) then (if 0 ≤ x2 then (if x2 < (x0.length : Int) then (api_Image.l0 k ((x0.set (x2 : Int).toNat (⟨(rd_T48 x0 x3).f0, (rd_T48 x0 x3).f1, (rd_T48 x0 x3).f2⟩ : S48)).set (x3 : Int).toNat (⟨(rd_T48 x0 x2).f0, (rd_T48 x0 x2).f1, (rd_T48 x0 x2).f2⟩ : S48)) (wrap64 (x2 + 1)) (wrap64 (x3 - 1))) else (none)) else (none)) else (none)) else (none)) else (some x0)
def api_Image.f (k : Nat) (l0 : List (S48)) : Option ((List (S48))) := api_Image.l0 k l0 0 (wrap64 ((l0.length : Int) - 1))
def api_Image.T3 : Bool × List (List Nat × List Nat) := (true, [([], []), ([], []), ([], []), ([], []), ([], []), ([], []), ([4, 5], [4, 5]), ([6], [6]), ([], []), ([], []), ([8, 9], [8, 9]), ([10], [10]), ([0, 1, 0, 1, 4, 5, 6, 7, 11], [0, 1]), ([12, 7, 0, 1, 4, 5, 6, 7, 11], [7, 12]), ([2, 3, 0, 1, 2, 3, 4, 5, 6, 7, 8, 9, 10, 11, 12, 13], [2, 3]), ([14, 11, 13, 0, 1, 2, 3, 4, 5, 6, 7, 8, 9, 10, 11, 12, 13], [11, 14])])
def api_Image.B3 : List Nat := [0, 0, 0, 0, 0, 0, 48, 112, 0, 0, 768, 1792, 4083, 8179, 16383, 32767]
theorem api_Image.tab3 : rtab .any (opsOf Tryz.f50 3) = api_Image.T3 := by kernel_rfl
theorem api_Image.bits3 : waitsOk api_Image.T3.2 api_Image.B3 = true := by kernel_rfl
set_option maxHeartbeats 8000000 in
set_option maxRecDepth 100000 in
theorem api_Image.calls (k : Nat) (P0_ : Nat → Prop) (u9000_ : Value) (l0 : List (S48)) (r : List (S48)) (w0 w : World) (hB : Below w0.heap.size w0 w) (ho0 : Kd.R k48 48 w w0.heap.size P0_ u9000_ l0) (h : api_Image.f k l0 = some r) :
    Calls Tryz.prog 50 #[u9000_] w fun e w' => e = .returned (.tuple #[]) ∧ Kd.R k48 48 w' w0.heap.size (fun k_ => (P0_ k_ ∨ w.heap.size ≤ k_)) u9000_ r ∧ Below w0.heap.size w0 w' ∧ Kept w w' (fun k_ => P0_ k_) := by
  have hu41 := Tryz.underlying48
  have HO0 := Aside0.mk (show Kd.R k48 48 w w0.heap.size (fun k_ => (P0_ k_ ∨ w.heap.size ≤ k_)) u9000_ l0 from Kd.R_mono ho0 (fun k_ hk => (.inl hk)))
  have HK := Aside0.mk (Kept.refl w (fun k_ => P0_ k_))
  have HW0 := Aside0.mk hB.size
  have HB := Aside0.mk hB
  clear hB
  have H : (api_Image.l0 k l0 0 (wrap64 ((l0.length : Int) - 1))) = some r := h
  clear h
  have H' := Aside0.mk H
  clear H
  obtain ⟨Ao2, co2, eo2⟩ := Kd.R_slice HO0.out
  subst eo2
  go_enter Tryz.func50, Tryz.ntmps50
  go_wp2
  go_loopg [2, 3] k (fun kq v2 v3 w' => ∃ (x0_1 : List (S48)) (x2_1 : Int) (x3_1 : Int), v2 = .int .i64 x2_1 ∧ v3 = .int .i64 x3_1 ∧ Aside0 (api_Image.l0 kq x0_1 x2_1 x3_1 = some r) ∧ Aside0 (kq ≤ k) ∧ Aside0 (Kd.R k48 48 w' w0.heap.size (fun k_ => (P0_ k_ ∨ w.heap.size ≤ k_)) (.slice Ao2 l0.length co2) x0_1) ∧ Aside0 (Kept w w' (fun k_ => P0_ k_)) ∧ Aside0 (Below w0.heap.size w0 w'))
  case atStart => exact ⟨(l0), (0), (wrap64 ((l0.length : Int) - 1)), (by first | rfl | (simp; done) | (simp [*]; done)), (by first | rfl | (simp; done) | (simp [*]; done)), H', ⟨Nat.le_refl _⟩, ⟨by (with_reducible repeat (first | apply Kd.R_alloc | apply Kd.R_drewN | apply Kd.R_drew)); exact HO0.out⟩, ⟨by repeat (first | (with_reducible first | exact HK.out | apply Kept.alloc | apply Kept.drewN | apply Kept.drew) | exact HK.out)⟩, ⟨by repeat (first | (with_reducible first | exact HB.out | apply below_alloc | apply pw_below_drewN | apply below_drew1) | exact HB.out)⟩⟩
  case round =>
    clear H'
    try clear p2
    obtain ⟨x0_1, x2_1, x3_1, rfl, rfl, HA, HK1, HO_0, HK, HB⟩ := hrel
    have hl0_1 := (Kd.R_reads' HO_0.out).1
    rw [hl0_1] at HO_0
    (try simp only [hl0_1])
    cases gk with
    | zero => exact absurd HA.out (by simp [api_Image.l0])
    | succ k1 =>
      have H := HA.out
      clear HA
      simp only [api_Image.l0] at H
      by_cases c3 : x2_1 < x3_1
      · rw [if_pos c3] at H
        have c3b0 : decide (x2_1 < x3_1) = true := decide_eq_true c3
        clear c3
        by_cases c4 : 0 ≤ x3_1
        · rw [if_pos c4] at H
          have c4b0 : decide (0 ≤ x3_1) = true := decide_eq_true c4
          clear c4
          by_cases c5 : x3_1 < (x0_1.length : Int)
          · rw [if_pos c5] at H
            have c5b0 : decide (x3_1 < (x0_1.length : Int)) = true := decide_eq_true c5
            clear c5
            by_cases c6 : 0 ≤ x2_1
            · rw [if_pos c6] at H
              have c6b0 : decide (0 ≤ x2_1) = true := decide_eq_true c6
              clear c6
              by_cases c7 : x2_1 < (x0_1.length : Int)
              · rw [if_pos c7] at H
                have c7b0 : decide (x2_1 < (x0_1.length : Int)) = true := decide_eq_true c7
                clear c7
                obtain ⟨y111, hy111⟩ : ∃ y_ : List (S48), y_ = (x0_1.set (x2_1 : Int).toNat (⟨(rd_T48 x0_1 x3_1).f0, (rd_T48 x0_1 x3_1).f1, (rd_T48 x0_1 x3_1).f2⟩ : S48)) := ⟨_, rfl⟩
                replace H : (api_Image.l0 k1 (y111.set (x3_1 : Int).toNat (⟨(rd_T48 x0_1 x2_1).f0, (rd_T48 x0_1 x2_1).f1, (rd_T48 x0_1 x2_1).f2⟩ : S48)) (wrap64 (x2_1 + 1)) (wrap64 (x3_1 - 1))) = some r := by first | (rw [hy111]; with_reducible exact H) | (have H2_ := (Option.bind_some _ _).symm.trans H; rw [hy111]; with_reducible exact H2_) | (have H2_ := (Option.bind_some _ _).symm.trans H; with_reducible exact H2_) | with_reducible exact H | (rw [hy111]; exact H) | exact H
                have Ny111 := Aside0.mk hy111
                clear hy111
                obtain ⟨y112, hy112⟩ : ∃ y_ : List (S48), y_ = (y111.set (x3_1 : Int).toNat (⟨(rd_T48 x0_1 x2_1).f0, (rd_T48 x0_1 x2_1).f1, (rd_T48 x0_1 x2_1).f2⟩ : S48)) := ⟨_, rfl⟩
                replace H : (api_Image.l0 k1 y112 (wrap64 (x2_1 + 1)) (wrap64 (x3_1 - 1))) = some r := by first | (rw [hy112]; with_reducible exact H) | (have H2_ := (Option.bind_some _ _).symm.trans H; rw [hy112]; with_reducible exact H2_) | (have H2_ := (Option.bind_some _ _).symm.trans H; with_reducible exact H2_) | with_reducible exact H | (rw [hy112]; exact H) | exact H
                have Ny112 := Aside0.mk hy112
                clear hy112
                have H' := Aside0.mk H
                clear H
                try go_wp2
                have n0_ := Aside0.mk (Kd.R_drew HO_0.out)
                have n1_ := Aside0.mk (Kept.drew HK.out)
                have n2_ := Aside0.mk (below_drew1 HB.out)
                clear HO_0
                clear HK
                clear HB
                have HO_0 := n0_
                have HK := n1_
                have HB := n2_
                clear n0_ n1_ n2_
                have p109 : 0 ≤ (x3_1 : Int) := of_decide_eq_true (by first | (with_reducible assumption) | assumption)
                have q109 : x3_1 < (x0_1.length : Int) := of_decide_eq_true (by first | (with_reducible assumption) | assumption)
                obtain ⟨ad109, e109, hx109_0, hx109_1, hx109_2⟩ := at_T48 (Kd.R_reads' HO_0.out).2.2 x3_1 p109 q109
                cases e109
                replace p109 := eq_true p109
                replace q109 := eq_true q109
                have p110 : 0 ≤ (x2_1 : Int) := of_decide_eq_true (by first | (with_reducible assumption) | assumption)
                have q110 : x2_1 < (x0_1.length : Int) := of_decide_eq_true (by first | (with_reducible assumption) | assumption)
                obtain ⟨ad110, e110, hx110_0, hx110_1, hx110_2⟩ := at_T48 (Kd.R_reads' HO_0.out).2.2 x2_1 p110 q110
                obtain rfl : ad109 = ad110 := (by injection e110)
                replace p110 := eq_true p110
                replace q110 := eq_true q110
                have p8 : 0 ≤ (x2_1 : Int) := of_decide_eq_true (by first | (with_reducible assumption) | assumption)
                have q8 : (x2_1 : Int) < ((x0_1.length : Int) : Int) := of_decide_eq_true (by first | (with_reducible assumption) | assumption)
                obtain ⟨go8, co8, eo8, gb8, gl8, cl8, HG8⟩ := Kd.R_form HO_0.out (by omega)
                (first | cases eo8 | (injection eo8 with ea_ en_ ec_; (first | subst ea_ | (injection ea_ with ea_; subst ea_)); subst ec_; clear en_))
                have GB8 := Aside0.mk gb8
                have GG8 := Aside0.mk HG8
                clear gb8 gl8 HG8
                have HMgo8 := Aside0.mk (show (P0_ go8 ∨ w.heap.size ≤ go8) from (HO_0.out.1 _ rfl))
                (first | simp only [add_plain] at hx109_0 | skip)
                (first | simp only [add_plain] at hx109_1 | skip)
                (first | simp only [add_plain] at hx109_2 | skip)
                (first | simp only [add_plain] at hx110_0 | skip)
                (first | simp only [add_plain] at hx110_1 | skip)
                (first | simp only [add_plain] at hx110_2 | skip)
                obtain ⟨ce8, hcl8, hM8, hcc8, hfr8⟩ := Kd.R_elem HO_0.out z48 (x2_1 : Int) p8 q8
                obtain rfl := k48_openM hM8
                have hx8_0 : World.cell? _ ⟨go8, (x2_1 : Int).toNat * 3, none⟩ = some (.string ((rd_T48 x0_1 x2_1).f0)) := hcc8 0 _ rfl
                have hx8_1 : World.cell? _ ⟨go8, (x2_1 : Int).toNat * 3 + 1, none⟩ = some (.bool ((rd_T48 x0_1 x2_1).f1)) := hcc8 1 _ rfl
                have hx8_2 : World.cell? _ ⟨go8, (x2_1 : Int).toNat * 3 + 2, none⟩ = some (.string ((rd_T48 x0_1 x2_1).f2)) := hcc8 2 _ rfl
                have hf8_0 : World.frozen? _ ⟨go8, (x2_1 : Int).toNat * 3, none⟩ = false := hfr8 0
                have hf8_1 : World.frozen? _ ⟨go8, (x2_1 : Int).toNat * 3 + 1, none⟩ = false := hfr8 1
                have hf8_2 : World.frozen? _ ⟨go8, (x2_1 : Int).toNat * 3 + 2, none⟩ = false := hfr8 2
                clear hcl8 hcc8 hfr8 hM8
                replace p8 := eq_true p8
                replace q8 := eq_true q8
                obtain ⟨ce11, hcl11, hM11, hcc11, hfr11⟩ := Kd.R_elem HO_0.out z48 (x2_1 : Int) (of_decide_eq_true (by first | (with_reducible assumption) | assumption)) (by have h_ : (x2_1 : Int) < ((x0_1.length : Int) : Int) := of_decide_eq_true (by first | (with_reducible assumption) | assumption); first | exact h_ | (have e_ := (Kd.R_reads' HO_0.out).1; omega) | simpa using h_)
                obtain rfl := k48_openM hM11
                have HP11 := (Kd.R_seg HO_0.out (x2_1 : Int) (of_decide_eq_true (by first | (with_reducible assumption) | assumption)) (by have h_ : (x2_1 : Int) < ((x0_1.length : Int) : Int) := of_decide_eq_true (by first | (with_reducible assumption) | assumption); first | exact h_ | (have e_ := (Kd.R_reads' HO_0.out).1; omega) | simpa using h_) (seg := [.string ((rd_T48 x0_1 x3_1).f0), .bool ((rd_T48 x0_1 x3_1).f1), .string ((rd_T48 x0_1 x3_1).f2)]) (j := 0) hcl11 hcc11 (show 3 ≤ 3 from by decide) (x' := (⟨(rd_T48 x0_1 x3_1).f0, (rd_T48 x0_1 x3_1).f1, (rd_T48 x0_1 x3_1).f2⟩ : S48)) (k48_mkM _ _ _ (⟨(rd_T48 x0_1 x3_1).f0, (rd_T48 x0_1 x3_1).f1, (rd_T48 x0_1 x3_1).f2⟩ : S48) ) (fun _ hk => hk)).1
                rw [← Ny111.out] at HP11
                have HQ11 := Aside0.mk HP11
                clear hcl11 hcc11 hfr11 hM11 HP11
                have p9 : 0 ≤ (x3_1 : Int) := of_decide_eq_true (by first | (with_reducible assumption) | assumption)
                have q9 : (x3_1 : Int) < ((x0_1.length : Int) : Int) := of_decide_eq_true (by first | (with_reducible assumption) | assumption)
                obtain ⟨ce9, hcl9, hM9, hcc9, hfr9⟩ := Kd.R_elem HQ11.out z48 (x3_1 : Int) p9 q9
                obtain rfl := k48_openM hM9
                have hx9_0 : World.cell? _ ⟨go8, (x3_1 : Int).toNat * 3, none⟩ = some (.string ((rd_T48 y111 x3_1).f0)) := hcc9 0 _ rfl
                have hx9_1 : World.cell? _ ⟨go8, (x3_1 : Int).toNat * 3 + 1, none⟩ = some (.bool ((rd_T48 y111 x3_1).f1)) := hcc9 1 _ rfl
                have hx9_2 : World.cell? _ ⟨go8, (x3_1 : Int).toNat * 3 + 2, none⟩ = some (.string ((rd_T48 y111 x3_1).f2)) := hcc9 2 _ rfl
                have hf9_0 : World.frozen? _ ⟨go8, (x3_1 : Int).toNat * 3, none⟩ = false := hfr9 0
                have hf9_1 : World.frozen? _ ⟨go8, (x3_1 : Int).toNat * 3 + 1, none⟩ = false := hfr9 1
                have hf9_2 : World.frozen? _ ⟨go8, (x3_1 : Int).toNat * 3 + 2, none⟩ = false := hfr9 2
                clear hcl9 hcc9 hfr9 hM9
                replace p9 := eq_true p9
                replace q9 := eq_true q9
                obtain ⟨ce12, hcl12, hM12, hcc12, hfr12⟩ := Kd.R_elem HQ11.out z48 (x3_1 : Int) (of_decide_eq_true (by first | (with_reducible assumption) | assumption)) (by have h_ : (x3_1 : Int) < ((x0_1.length : Int) : Int) := of_decide_eq_true (by first | (with_reducible assumption) | assumption); first | exact h_ | (have e_ := (Kd.R_reads' HO_0.out).1; omega) | simpa using h_)
                obtain rfl := k48_openM hM12
                have HP12 := (Kd.R_seg HQ11.out (x3_1 : Int) (of_decide_eq_true (by first | (with_reducible assumption) | assumption)) (by have h_ : (x3_1 : Int) < ((x0_1.length : Int) : Int) := of_decide_eq_true (by first | (with_reducible assumption) | assumption); first | exact h_ | (have e_ := (Kd.R_reads' HO_0.out).1; omega) | simpa using h_) (seg := [.string ((rd_T48 x0_1 x2_1).f0), .bool ((rd_T48 x0_1 x2_1).f1), .string ((rd_T48 x0_1 x2_1).f2)]) (j := 0) hcl12 hcc12 (show 3 ≤ 3 from by decide) (x' := (⟨(rd_T48 x0_1 x2_1).f0, (rd_T48 x0_1 x2_1).f1, (rd_T48 x0_1 x2_1).f2⟩ : S48)) (k48_mkM _ _ _ (⟨(rd_T48 x0_1 x2_1).f0, (rd_T48 x0_1 x2_1).f1, (rd_T48 x0_1 x2_1).f2⟩ : S48) ) (fun _ hk => hk)).1
                rw [← Ny112.out] at HP12
                have HQ12 := Aside0.mk HP12
                clear hcl12 hcc12 hfr12 hM12 HP12
                refine start_ (n := 16) (S := fun w' => w'.cell? ⟨go8, ((x3_1).toNat * 3), none⟩ = some (.string ((rd_T48 x0_1 x3_1).f0)) ∧ w'.cell? ⟨go8, ((x3_1).toNat * 3) + 1, none⟩ = some (.bool ((rd_T48 x0_1 x3_1).f1)) ∧ w'.cell? ⟨go8, ((x3_1).toNat * 3) + 2, none⟩ = some (.string ((rd_T48 x0_1 x3_1).f2)) ∧ w'.cell? ⟨go8, ((x2_1).toNat * 3), none⟩ = some (.string ((rd_T48 x0_1 x2_1).f0)) ∧ w'.cell? ⟨go8, ((x2_1).toNat * 3) + 1, none⟩ = some (.bool ((rd_T48 x0_1 x2_1).f1)) ∧ w'.cell? ⟨go8, ((x2_1).toNat * 3) + 2, none⟩ = some (.string ((rd_T48 x0_1 x2_1).f2))) (ds := [13, 15]) #[false, false, false, false, false, false, false, false, false, false, false, false, false, false, false, false] (by kernel_rfl) rfl rfl ⟨hx109_0, hx109_1, hx109_2, hx110_0, hx110_1, hx110_2⟩ (fun hHeld => ?_); refine with_tabW api_Image.tab3 api_Image.bits3 (fun HT_ HW_ => ?_)
                generalize wr.drew = w10 at HO_0 HK HB GG8 HQ11 HQ12 hf8_0 hf8_1 hf8_2 hf9_0 hf9_1 hf9_2 hx109_0 hx109_1 hx109_2 hx110_0 hx110_1 hx110_2 hx8_0 hx8_1 hx8_2 hx9_0 hx9_1 hx9_2 hHeld ⊢
                refine pure_ (i := 0) (N := some 14) (v := ?_) (a' := ?_) #[true, false, false, false, false, false, false, false, false, false, false, false, false, false, false, false] rfl rfl (any_of HT_.out (by kernel_rfl)) (fun _ _ _ h => h) (Or.inl ⟨by rfl, ?_⟩) ?_ ?_
                rotate_left
                · intro w'
                  go_simp
                  with_reducible rfl
                rotate_left
                · simp only [Act.put, List.setIfInBounds_toArray, List.set_cons_zero, List.set_cons_succ, i64_w, i32_w]
                  rfl
                refine pure_ (i := 1) (N := some 15) (v := ?_) (a' := ?_) #[true, true, false, false, false, false, false, false, false, false, false, false, false, false, false, false] rfl rfl (any_of HT_.out (by kernel_rfl)) (fun _ _ _ h => h) (Or.inl ⟨by rfl, ?_⟩) ?_ ?_
                rotate_left
                · intro w'
                  go_simp
                  with_reducible rfl
                rotate_left
                · simp only [Act.put, List.setIfInBounds_toArray, List.set_cons_zero, List.set_cons_succ, i64_w, i32_w]
                  rfl
                refine pure_ (i := 2) (N := some 16) (v := ?_) (a' := ?_) #[true, true, true, false, false, false, false, false, false, false, false, false, false, false, false, false] rfl rfl (any_of HT_.out (by kernel_rfl)) (fun _ _ _ h => h) (Or.inl ⟨by rfl, ?_⟩) ?_ ?_
                rotate_left
                · intro w'
                  go_simp
                  with_reducible rfl
                rotate_left
                · simp only [Act.put, List.setIfInBounds_toArray, List.set_cons_zero, List.set_cons_succ, i64_w, i32_w]
                  rfl
                refine pure_ (i := 3) (N := some 17) (v := ?_) (a' := ?_) #[true, true, true, true, false, false, false, false, false, false, false, false, false, false, false, false] rfl rfl (any_of HT_.out (by kernel_rfl)) (fun _ _ _ h => h) (Or.inl ⟨by rfl, ?_⟩) ?_ ?_
                rotate_left
                · intro w'
                  go_simp
                  with_reducible rfl
                rotate_left
                · simp only [Act.put, List.setIfInBounds_toArray, List.set_cons_zero, List.set_cons_succ, i64_w, i32_w]
                  rfl
                refine pure_ (i := 4) (N := some 18) (v := ?_) (a' := ?_) #[true, true, true, true, true, false, false, false, false, false, false, false, false, false, false, false] rfl rfl (any_of HT_.out (by kernel_rfl)) (fun _ _ _ h => h) (Or.inl ⟨by rfl, ?_⟩) ?_ ?_
                rotate_left
                · intro w'
                  go_simp
                  with_reducible rfl
                rotate_left
                · simp only [Act.put, List.setIfInBounds_toArray, List.set_cons_zero, List.set_cons_succ, i64_w, i32_w]
                  rfl
                refine pure_ (i := 5) (N := some 19) (v := ?_) (a' := ?_) #[true, true, true, true, true, true, false, false, false, false, false, false, false, false, false, false] rfl rfl (any_of HT_.out (by kernel_rfl)) (fun _ _ _ h => h) (Or.inl ⟨by rfl, ?_⟩) ?_ ?_
                rotate_left
                · intro w'
                  go_simp
                  with_reducible rfl
                rotate_left
                · simp only [Act.put, List.setIfInBounds_toArray, List.set_cons_zero, List.set_cons_succ, i64_w, i32_w]
                  rfl
                refine pure_ (i := 6) (N := some 20) (v := ?_) (a' := ?_) #[true, true, true, true, true, true, true, false, false, false, false, false, false, false, false, false] rfl rfl (any_of HT_.out (by kernel_rfl)) (fun _ _ _ h => h) (Or.inl ⟨by rfl, ?_⟩) ?_ ?_
                rotate_left
                · intro w'
                  go_simp
                  with_reducible rfl
                rotate_left
                · simp only [Act.put, List.setIfInBounds_toArray, List.set_cons_zero, List.set_cons_succ, i64_w, i32_w]
                  rfl
                refine pure_ (i := 8) (N := some 22) (v := ?_) (a' := ?_) #[true, true, true, true, true, true, true, false, true, false, false, false, false, false, false, false] rfl rfl (any_of HT_.out (by kernel_rfl)) (fun _ _ _ h => h) (Or.inl ⟨by rfl, ?_⟩) ?_ ?_
                rotate_left
                · intro w'
                  go_simp
                  with_reducible rfl
                rotate_left
                · simp only [Act.put, List.setIfInBounds_toArray, List.set_cons_zero, List.set_cons_succ, i64_w, i32_w]
                  rfl
                refine pure_ (i := 9) (N := some 23) (v := ?_) (a' := ?_) #[true, true, true, true, true, true, true, false, true, true, false, false, false, false, false, false] rfl rfl (any_of HT_.out (by kernel_rfl)) (fun _ _ _ h => h) (Or.inl ⟨by rfl, ?_⟩) ?_ ?_
                rotate_left
                · intro w'
                  go_simp
                  with_reducible rfl
                rotate_left
                · simp only [Act.put, List.setIfInBounds_toArray, List.set_cons_zero, List.set_cons_succ, i64_w, i32_w]
                  rfl
                refine pure_ (i := 10) (N := some 24) (v := ?_) (a' := ?_) #[true, true, true, true, true, true, true, false, true, true, true, false, false, false, false, false] rfl rfl (any_of HT_.out (by kernel_rfl)) (fun _ _ _ h => h) (Or.inl ⟨by rfl, ?_⟩) ?_ ?_
                rotate_left
                · intro w'
                  go_simp
                  with_reducible rfl
                rotate_left
                · simp only [Act.put, List.setIfInBounds_toArray, List.set_cons_zero, List.set_cons_succ, i64_w, i32_w]
                  rfl
                refine take_ (i := 7) (N := some 21) (v := ?_) (a' := ?_) #[true, true, true, true, true, true, true, true, true, true, true, false, false, false, false, false] rfl rfl (take_ofW HT_.out HW_.out (by kernel_rfl)) (fun _ _ _ h => h) (Or.inl ⟨by rfl, ?_⟩) hHeld ?_ ?_
                rotate_left
                · rintro w' ⟨s0, s1, s2, s3, s4, s5⟩
                  go_simp
                  with_reducible rfl
                rotate_left
                · simp only [Act.put, List.setIfInBounds_toArray, List.set_cons_zero, List.set_cons_succ, i64_w, i32_w]
                  rfl
                refine take_ (i := 11) (N := some 25) (v := ?_) (a' := ?_) #[true, true, true, true, true, true, true, true, true, true, true, true, false, false, false, false] rfl rfl (take_ofW HT_.out HW_.out (by kernel_rfl)) (fun _ _ _ h => h) (Or.inl ⟨by rfl, ?_⟩) hHeld ?_ ?_
                rotate_left
                · rintro w' ⟨s0, s1, s2, s3, s4, s5⟩
                  go_simp
                  with_reducible rfl
                rotate_left
                · simp only [Act.put, List.setIfInBounds_toArray, List.set_cons_zero, List.set_cons_succ, i64_w, i32_w]
                  rfl
                refine pure_ (i := 12) (N := some 26) (v := ?_) (a' := ?_) #[true, true, true, true, true, true, true, true, true, true, true, true, true, false, false, false] rfl rfl (any_of HT_.out (by kernel_rfl)) (fun _ _ _ h => h) (Or.inl ⟨by rfl, ?_⟩) ?_ ?_
                rotate_left
                · intro w'
                  go_simp
                  with_reducible rfl
                rotate_left
                · simp only [Act.put, List.setIfInBounds_toArray, List.set_cons_zero, List.set_cons_succ, i64_w, i32_w]
                  rfl
                have hne_ : x2_1.toNat ≠ x3_1.toNat := by
                  have h1 := of_decide_eq_true c3b0
                  have h2 := of_decide_eq_true c6b0
                  omega
                have hfr0 : w10.frozen? ⟨go8, x3_1.toNat * 3, none⟩ = false := by rw [← hf9_0, World.frozen?_setCells]
                have hfr1 : w10.frozen? ⟨go8, x3_1.toNat * 3 + 1, none⟩ = false := by rw [← hf9_1, World.frozen?_setCells]
                have hfr2 : w10.frozen? ⟨go8, x3_1.toNat * 3 + 2, none⟩ = false := by rw [← hf9_2, World.frozen?_setCells]
                have hz00 : ∀ (W : World) u, (W.setCell ⟨go8, x2_1.toNat * 3, none⟩ u).cell? ⟨go8, x3_1.toNat * 3, none⟩ = W.cell? ⟨go8, x3_1.toNat * 3, none⟩ := fun W u => World.cell?_setCell_other _ _ _ _ (by rw [ne_eq, Addr.mk.injEq]; omega)
                have hz01 : ∀ (W : World) u, (W.setCell ⟨go8, x2_1.toNat * 3, none⟩ u).cell? ⟨go8, x3_1.toNat * 3 + 1, none⟩ = W.cell? ⟨go8, x3_1.toNat * 3 + 1, none⟩ := fun W u => World.cell?_setCell_other _ _ _ _ (by rw [ne_eq, Addr.mk.injEq]; omega)
                have hz02 : ∀ (W : World) u, (W.setCell ⟨go8, x2_1.toNat * 3, none⟩ u).cell? ⟨go8, x3_1.toNat * 3 + 2, none⟩ = W.cell? ⟨go8, x3_1.toNat * 3 + 2, none⟩ := fun W u => World.cell?_setCell_other _ _ _ _ (by rw [ne_eq, Addr.mk.injEq]; omega)
                have hz10 : ∀ (W : World) u, (W.setCell ⟨go8, x2_1.toNat * 3 + 1, none⟩ u).cell? ⟨go8, x3_1.toNat * 3, none⟩ = W.cell? ⟨go8, x3_1.toNat * 3, none⟩ := fun W u => World.cell?_setCell_other _ _ _ _ (by rw [ne_eq, Addr.mk.injEq]; omega)
                have hz11 : ∀ (W : World) u, (W.setCell ⟨go8, x2_1.toNat * 3 + 1, none⟩ u).cell? ⟨go8, x3_1.toNat * 3 + 1, none⟩ = W.cell? ⟨go8, x3_1.toNat * 3 + 1, none⟩ := fun W u => World.cell?_setCell_other _ _ _ _ (by rw [ne_eq, Addr.mk.injEq]; omega)
                have hz12 : ∀ (W : World) u, (W.setCell ⟨go8, x2_1.toNat * 3 + 1, none⟩ u).cell? ⟨go8, x3_1.toNat * 3 + 2, none⟩ = W.cell? ⟨go8, x3_1.toNat * 3 + 2, none⟩ := fun W u => World.cell?_setCell_other _ _ _ _ (by rw [ne_eq, Addr.mk.injEq]; omega)
                have hz20 : ∀ (W : World) u, (W.setCell ⟨go8, x2_1.toNat * 3 + 2, none⟩ u).cell? ⟨go8, x3_1.toNat * 3, none⟩ = W.cell? ⟨go8, x3_1.toNat * 3, none⟩ := fun W u => World.cell?_setCell_other _ _ _ _ (by rw [ne_eq, Addr.mk.injEq]; omega)
                have hz21 : ∀ (W : World) u, (W.setCell ⟨go8, x2_1.toNat * 3 + 2, none⟩ u).cell? ⟨go8, x3_1.toNat * 3 + 1, none⟩ = W.cell? ⟨go8, x3_1.toNat * 3 + 1, none⟩ := fun W u => World.cell?_setCell_other _ _ _ _ (by rw [ne_eq, Addr.mk.injEq]; omega)
                have hz22 : ∀ (W : World) u, (W.setCell ⟨go8, x2_1.toNat * 3 + 2, none⟩ u).cell? ⟨go8, x3_1.toNat * 3 + 2, none⟩ = W.cell? ⟨go8, x3_1.toNat * 3 + 2, none⟩ := fun W u => World.cell?_setCell_other _ _ _ _ (by rw [ne_eq, Addr.mk.injEq]; omega)
                clear hne_
                refine last_ (i := 13) (N := none) #[true, true, true, true, true, true, true, true, true, true, true, true, true, true, false, false] rfl rfl (one_of HT_.out (by kernel_rfl)) (by decide) (fun K hK => ?_)
                refine skip_ (w1 := ?_) (by rfl) rfl ?_ ?_
                rotate_left
                · go_simp
                  rfl
                refine hK.out _ _ ?_
                clear hK K
                refine pure_ (i := 14) (N := some 27) (v := ?_) (a' := ?_) #[true, true, true, true, true, true, true, true, true, true, true, true, true, true, true, false] rfl rfl (any_of HT_.out (by kernel_rfl)) (fun _ _ _ h => h) (Or.inl ⟨by rfl, ?_⟩) ?_ ?_
                rotate_left
                · intro w'
                  go_simp
                  with_reducible rfl
                rotate_left
                · simp only [Act.put, List.setIfInBounds_toArray, List.set_cons_zero, List.set_cons_succ, i64_w, i32_w]
                  rfl
                refine last_ (i := 15) (N := none) #[true, true, true, true, true, true, true, true, true, true, true, true, true, true, true, true] rfl rfl (one_of HT_.out (by kernel_rfl)) (by decide) (fun K hK => ?_)
                refine skip_ (w1 := ?_) (by rfl) rfl ?_ ?_
                rotate_left
                · go_simp
                  rfl
                refine hK.out _ _ ?_
                clear hK K
                refine done_ (done_of HT_.out (by kernel_rfl)) ?_
                try go_wp2
                (try simp only [← hl0_1])
                go_roundg k1
                case measure => have := HK1.out; omega
                case rel => exact ⟨(y112), (wrap64 (x2_1 + 1)), (wrap64 (x3_1 - 1)), (by first | rfl | (simp; done) | (simp [*]; done)), (by first | rfl | (simp; done) | (simp [*]; done)), H', ⟨by have := HK1.out; omega⟩, ⟨by (try simp only [hl0_1]); (with_reducible repeat (first | apply Kd.R_alloc | apply Kd.R_drewN | apply Kd.R_drew)); exact HQ12.out⟩, ⟨by repeat (first | (with_reducible first | exact HK.out | apply Kept.alloc | apply Kept.drewN | apply Kept.drew | refine Kept.setCell ?_ HMgo8.out _ | refine Kept.setCell ?_ HMgo8.out _ | refine Kept.setCell ?_ HMgo8.out _ | refine Kept.setCell ?_ HMgo8.out _ | refine Kept.setCell ?_ HMgo8.out _ | refine Kept.setCell ?_ HMgo8.out _) | exact HK.out)⟩, ⟨by repeat (first | (with_reducible first | exact HB.out | apply below_alloc | apply pw_below_drewN | apply below_drew1 | refine below_set ?_ GB8.out | refine below_set ?_ GB8.out | refine below_set ?_ GB8.out | refine below_set ?_ GB8.out | refine below_set ?_ GB8.out | refine below_set ?_ GB8.out) | exact HB.out)⟩⟩
              · rw [if_neg c7] at H
                exact absurd H (by simp)
            · rw [if_neg c6] at H
              exact absurd H (by simp)
          · rw [if_neg c5] at H
            exact absurd H (by simp)
        · rw [if_neg c4] at H
          exact absurd H (by simp)
      · rw [if_neg c3] at H
        have c3b0 : decide (x2_1 < x3_1) = false := decide_eq_false c3
        clear c3
        obtain rfl := Option.some.inj H
        go_wp2
        first | go_end0 | ((try simp only [Exit.inBlock, Exit.then]); refine bodyPost_ret (results_none rfl _ _ _) rfl ?_)
        exact ⟨by first | rfl | (simp [errW_none, errW_some] <;> rfl) | (simp [*, errW_none, errW_some] <;> rfl), (by first | exact (by (with_reducible repeat (first | apply Kd.R_alloc | apply Kd.R_drewN | apply Kd.R_drew)); exact HO_0.out) | (simp only [hl0_1]; exact (by (with_reducible repeat (first | apply Kd.R_alloc | apply Kd.R_drewN | apply Kd.R_drew)); exact HO_0.out))), by repeat (first | (with_reducible first | exact HB.out | apply below_alloc | apply pw_below_drewN | apply below_drew1) | exact HB.out), by repeat (first | (with_reducible first | exact HK.out | apply Kept.alloc | apply Kept.drewN | apply Kept.drew) | exact HK.out)⟩

end Go.Proofs.YteblpjnkinghoaaGreat.J
/- slices.Reverse of images, as the printed function has it, is the list turned round. -/
namespace Go.Proofs.YteblpjnkinghoaaGreat.J
open Go.BigFrame Go.RowKit Go.Proofs.YteblpjnkinghoaaGreatW.PrintWords Go.Proofs.YteblpjnkinghoaaGreatW.PrintLast Go.Proofs.YteblpjnkinghoaaGreatW.PrintMore
theorem rd41_at {x : List S48} {k : Nat} (h : k < x.length) : x[k]? = some (rd_T48 x (k : Int)) := by
  unfold rd_T48
  rw [Int.toNat_natCast, List.getD_eq_getElem?_getD, List.getElem?_eq_getElem h]; rfl
theorem rev_from : ∀ (k : Nat) (x : List S48) (i j : Nat), x.length ≤ 9223372036854775807 → i + j + 1 = x.length → i ≤ j + 1 → x.length + 1 ≤ 2 * (i + k) →
    ∃ y, api_Image.l0 k x (i : Int) (j : Int) = some y ∧ y.length = x.length ∧ ∀ m, y[m]? = if i ≤ m ∧ m ≤ j then x[x.length - 1 - m]? else x[m]?
  | 0, x, i, j, hl, hn, h1, hk => by omega
  | k + 1, x, i, j, hl, hn, h1, hk => by
    rw [api_Image.l0]
    by_cases hij : i < j
    · rw [if_pos (by omega), if_pos (by omega), if_pos (by omega), if_pos (by omega), if_pos (by omega)]
      have w1 : wrap64 ((i : Int) + 1) = ((i + 1 : Nat) : Int) := by unfold wrap64; omega
      have w2 : wrap64 ((j : Int) - 1) = ((j - 1 : Nat) : Int) := by unfold wrap64; omega
      rw [w1, w2, Int.toNat_natCast, Int.toNat_natCast]
      have hi := rd41_at (x := x) (k := i) (by omega)
      have hj := rd41_at (x := x) (k := j) (by omega)
      generalize rd_T48 x (i : Int) = a at hi ⊢
      generalize rd_T48 x (j : Int) = b at hj ⊢
      have ea : (⟨a.f0, a.f1, a.f2⟩ : S48) = a := rfl
      have eb : (⟨b.f0, b.f1, b.f2⟩ : S48) = b := rfl
      rw [ea, eb]
      obtain ⟨y, hy, hyl, hym⟩ := rev_from k ((x.set i b).set j a) (i + 1) (j - 1) (by simpa using hl) (by simp; omega) (by omega) (by simp; omega)
      refine ⟨y, hy, by rw [hyl]; simp, fun m => ?_⟩
      rw [hym m]
      simp only [List.length_set]
      by_cases hm : i + 1 ≤ m ∧ m ≤ j - 1
      · rw [if_pos hm, if_pos (by omega), List.getElem?_set_ne (by omega), List.getElem?_set_ne (by omega)]
      · rw [if_neg hm]
        by_cases h1 : m = i
        · subst h1
          rw [if_pos (by omega), List.getElem?_set_ne (by omega), List.getElem?_set_self (by omega), show x.length - 1 - m = j by omega, hj]
        · by_cases h2 : m = j
          · subst h2
            rw [if_pos (by omega), List.getElem?_set_self (by simp; omega), show x.length - 1 - m = i by omega, hi]
          · rw [if_neg (by omega), List.getElem?_set_ne (by omega), List.getElem?_set_ne (by omega)]
    · rw [if_neg (by omega)]
      refine ⟨x, rfl, rfl, fun m => ?_⟩
      by_cases h : i ≤ m ∧ m ≤ j
      · rw [if_pos h, show x.length - 1 - m = m by omega]
      · rw [if_neg h]
theorem rev_all (x : List S48) (hl : x.length ≤ 9223372036854775807) : api_Image.f (x.length + 1) x = some x.reverse := by
  unfold api_Image.f
  by_cases h0 : x.length = 0
  · obtain rfl := List.eq_nil_of_length_eq_zero h0
    rw [show wrap64 ((([] : List S48).length : Int) - 1) = -1 by unfold wrap64; simp]
    rfl
  · have w : wrap64 ((x.length : Int) - 1) = ((x.length - 1 : Nat) : Int) := by unfold wrap64; omega
    rw [w]
    obtain ⟨y, hy, hyl, hym⟩ := rev_from (x.length + 1) x 0 (x.length - 1) hl (by omega) (by omega) (by omega)
    rw [show ((0 : Nat) : Int) = 0 from rfl] at hy
    rw [hy]
    congr 1
    apply List.ext_getElem?
    intro m
    rw [hym m]
    by_cases hm : m < x.length
    · rw [if_pos (by omega), List.getElem?_reverse hm]
    · rw [if_neg (by omega), List.getElem?_eq_none (by omega), List.getElem?_eq_none (by simp; omega)]
end Go.Proofs.YteblpjnkinghoaaGreat.J
/- The contract of journal.Redo, for every slice of notes and every index. -/
namespace Go.Proofs.YteblpjnkinghoaaGreat.J
open Go.BigFrame Go.RowKit Go.Proofs.YteblpjnkinghoaaGreatW.PrintWords Go.Proofs.YteblpjnkinghoaaGreatW.PrintLast Go.Proofs.YteblpjnkinghoaaGreatW.PrintMore Go.Proofs.YteblpjnkinghoaaGreatW.Mw
def imgOf (n : S43) : S48 := ⟨n.f2, n.f3, n.f4⟩
/-- One note of Redo, from the last to the first. -/
def redoStep (st : (Int → Bool) × List S48) (n : S43) : (Int → Bool) × List S48 :=
  if n.f0 = 4 ∨ n.f0 = 5 then (fun u => if u = n.f1 then true else st.1 u, st.2)
  else if n.f0 = 7 ∨ n.f0 = 1 then (fun u => if u = n.f1 then false else st.1 u, st.2)
  else if n.f0 = 3 then (if st.1 n.f1 = true then (st.1, st.2 ++ [imgOf n]) else st)
  else st
def redoAll (l : List S43) : (Int → Bool) × List S48 := l.reverse.foldl redoStep (fun _ => false, [])
theorem redoAll_cons (n : S43) (l : List S43) : redoAll (n :: l) = redoStep (redoAll l) n := by
  unfold redoAll; rw [List.reverse_cons, List.foldl_append]; rfl
def journal_Redo.f (l0 : List (S43)) (a1 : Int) : Option ((List (S48)) × Int) :=
  (journal_right.f l0).bind fun e => if e = 0 then (if a1 < 0 ∨ (l0.length : Int) < a1 then some ([], 7) else some ((redoAll (l0.drop a1.toNat)).2.reverse, 0)) else some ([], e)
/-- What right answers. -/
def rightN (l : List S43) : Int := (journal_right.f l).getD 0
theorem zero4 (w : World) : (zeroValue 4).run Tryz.prog w = .ok (.bool false) w := by kernel_rfl
noncomputable def K3 : Keys Tryz.prog 3 Int := intKeys Tryz.prog 3 Tryz.underlying3
theorem redo_no (e : Int) (A0 : Option Addr) (c0 : Nat) (l0 : List (S43)) (a1 : Int) (w : World) (hr0 : Kd.C k43 w A0 l0.length l0) (hc0 : l0.length ≤ c0) (he : journal_right.f l0 = some e) (h : e ≠ 0) :
    Calls Tryz.prog 41 #[.slice A0 l0.length c0, .int .i64 a1] w fun r w' => r = .returned (.tuple #[.slice none 0 0, .int .i64 e]) ∧ Below w.heap.size w w' := by
  have HR0 := Aside0.mk hr0
  have HC0 := Aside0.mk hc0
  have HE := Aside0.mk he
  clear hr0 hc0 he
  have h1 : (e != 0) = true := bne_iff_ne.2 h
  clear h
  go_enter Tryz.func41, Tryz.ntmps41
  go_wp2_with (go_at_call 27; refine (journal_right.calls _ _ _ _ _ HR0.out HC0.out HE.out).mono ?_; rintro r w1 ⟨rfl, hb⟩)
  go_ret2
  exact ⟨rfl, hb⟩
theorem redo_range (A0 : Option Addr) (c0 : Nat) (l0 : List (S43)) (a1 : Int) (w : World) (hr0 : Kd.C k43 w A0 l0.length l0) (hc0 : l0.length ≤ c0) (he : journal_right.f l0 = some 0) (h : a1 < 0 ∨ (l0.length : Int) < a1) :
    Calls Tryz.prog 41 #[.slice A0 l0.length c0, .int .i64 a1] w fun r w' => r = .returned (.tuple #[.slice none 0 0, .int .i64 7]) ∧ Below w.heap.size w w' := by
  have HR0 := Aside0.mk hr0
  have HC0 := Aside0.mk hc0
  have HE := Aside0.mk he
  clear hr0 hc0 he
  by_cases h1 : a1 < 0
  · clear h
    go_enter Tryz.func41, Tryz.ntmps41
    go_wp2_with (go_at_call 27; refine (journal_right.calls _ _ _ _ _ HR0.out HC0.out HE.out).mono ?_; rintro r w1 ⟨rfl, hb⟩)
    go_ret2
    exact ⟨rfl, hb⟩
  · have h2 : (l0.length : Int) < a1 := by omega
    clear h
    go_enter Tryz.func41, Tryz.ntmps41
    go_wp2_with (go_at_call 27; refine (journal_right.calls _ _ _ _ _ HR0.out HC0.out HE.out).mono ?_; rintro r w1 ⟨rfl, hb⟩)
    go_ret2
    exact ⟨rfl, hb⟩
set_option maxHeartbeats 2000000 in
set_option maxRecDepth 100000 in
theorem redo_yes (A0 : Option Addr) (c0 : Nat) (l0 : List (S43)) (a1 : Int) (w : World) (hr0 : Kd.C k43 w A0 l0.length l0) (hc0 : l0.length ≤ c0) (he : journal_right.f l0 = some 0) (hl0 : 0 ≤ a1) (hl1 : a1 ≤ (l0.length : Int)) (hle : l0.length ≤ 1000) :
    Calls Tryz.prog 41 #[.slice A0 l0.length c0, .int .i64 a1] w fun r w' => ∃ v, r = .returned (.tuple #[v, .int .i64 0]) ∧ Kd.R k48 48 w' w.heap.size (fun _ => True) v (redoAll (l0.drop a1.toNat)).2.reverse ∧ Below w.heap.size w w' := by
  have HR0 := Aside0.mk hr0
  have HC0 := Aside0.mk hc0
  have HE := Aside0.mk he
  clear hr0 hc0 he
  have hmm := @run_makeMap Tryz.prog
  go_enter Tryz.func41, Tryz.ntmps41
  go_wp2_with (go_at_call 27; refine (journal_right.calls _ _ _ _ _ HR0.out HC0.out HE.out).mono ?_; rintro r w1 ⟨rfl, hb⟩)
  obtain ⟨b, hbe⟩ : ∃ b, b = w1.heap.size := ⟨_, rfl⟩
  have hB2 := hb.alloc hb.size (.map #[] 0)
  have hH2 := Holds.made K3 w1
  have hbb : w.heap.size ≤ b := by rw [hbe]; exact hb.size
  rw [← hbe] at hH2 ⊢
  have HBB := Aside0.mk hbb
  clear hbb hb hbe
  generalize w1.alloc (.map #[] 0) = w2 at hB2 hH2 ⊢
  have HB := Aside0.mk hB2
  have HH := Aside0.mk hH2
  clear hB2 hH2 hmm
  go_loopg [7, 9] (l0.length + 1 - a1.toNat) (fun kq v7 v9 w' => ∃ (i : Int) (c : Int → Bool) (out : List S48) (F : Int → Option Value), v9 = .int .i64 i ∧ a1 - 1 ≤ i ∧ i < l0.length ∧ Aside0 ((kq : Int) = i + 2 - a1) ∧ Aside0 ((c, out) = redoAll (l0.drop (i + 1).toNat)) ∧ Aside0 (out.length + (i + 1).toNat ≤ l0.length) ∧ Aside0 (Holds K3 w' b F) ∧ Aside0 (∀ u, (F u).getD (.bool false) = .bool (c u)) ∧ Aside0 (Kd.R k48 48 w' w.heap.size (fun k => k ≠ b) v7 out) ∧ Aside0 (Below w.heap.size w w'))
  case atStart => exact ⟨(l0.length : Int) - 1, fun _ => false, [], fun _ => none, rfl, by omega, by omega, ⟨by omega⟩, ⟨by rw [show ((l0.length : Int) - 1 + 1).toNat = l0.length by omega, List.drop_length]; rfl⟩, ⟨by simp⟩, HH, ⟨fun _ => rfl⟩, ⟨Kd.R_nil _ _ _ _ _⟩, HB⟩
  case round =>
    clear HB HH
    obtain ⟨i, c, out, F, rfl, hlo, hhi, HQ, HS, HL, HH, HF, HO, HB⟩ := hrel
    by_cases hlt : a1 ≤ i
    · obtain ⟨m, rfl⟩ : ∃ m : Nat, i = m := ⟨i.toNat, by omega⟩
      obtain ⟨ad, rfl, h0, h1, h2, h3, h4⟩ := at_T43 (Kd.C_below HR0.out HB.out) (m : Int) (by omega) (by omega)
      rw [Int.toNat_natCast] at h0 h1 h2 h3 h4
      have HS2 := Aside0.mk (show redoAll (l0.drop m) = redoStep (c, out) (rd_T43 l0 (m : Int)) by rw [drop_rd (by omega), redoAll_cons, show m + 1 = ((m : Int) + 1).toNat by omega, ← HS.out])
      generalize rd_T43 l0 (m : Int) = n at h0 h1 h2 h3 h4 HS2
      clear HS
      by_cases k4 : n.f0 = 4
      · have HS3 := Aside0.mk (HS2.out.trans (show redoStep (c, out) n = (fun u => if u = n.f1 then true else c u, out) by unfold redoStep; rw [if_pos (.inl k4)]))
        have q4 : (n.f0 == 4) = true := beq_iff_eq.2 k4
        clear k4 HS2
        go_wp2_with (first | (at_mapUpdate; refine wl_put (K := K3) rfl (.tmp 42) (.tmp 44) (.const (.bool true)) 71 rfl Tryz.underlying71 (HH.out.alloc _) n.f1 (.bool true) rfl rfl rfl ?_; intro w3 hH3 hg3))
        have HH3 := Aside0.mk hH3
        have HO3 := Aside0.mk (Kd.R_grown (Kd.R_alloc HO.out _) hg3 (fun k hk e => hk (Option.some.inj e)))
        have HB3 := Aside0.mk ((HB.out.alloc (below_size HB.out) _).grown hg3 (by have := below_size HB.out; simp; omega) (fun k e => by cases e; exact HBB.out))
        clear hH3 hg3
        go_wp2
        go_roundg (gk - 1)
        case measure => have := HQ.out; omega
        case rel => exact ⟨(m : Int) - 1, _, _, _, rfl, by omega, by omega, ⟨by have := HQ.out; omega⟩, ⟨by rw [show ((m : Int) - 1 + 1).toNat = m by omega, HS3.out]⟩, ⟨by have := HL.out; omega⟩, HH3, ⟨fun u => by show (if u = n.f1 then some (Value.bool true) else F u).getD _ = _; by_cases hu : u = n.f1 <;> simp [hu, HF.out]⟩, HO3, HB3⟩
      have q4 : (n.f0 == 4) = false := beq_eq_false_iff_ne.2 k4
      by_cases k5 : n.f0 = 5
      · have HS3 := Aside0.mk (HS2.out.trans (show redoStep (c, out) n = (fun u => if u = n.f1 then true else c u, out) by unfold redoStep; rw [if_pos (.inr k5)]))
        have q5 : (n.f0 == 5) = true := beq_iff_eq.2 k5
        clear k4 k5 HS2
        go_wp2_with (first | (at_mapUpdate; refine wl_put (K := K3) rfl (.tmp 42) (.tmp 44) (.const (.bool true)) 71 rfl Tryz.underlying71 (HH.out.alloc _) n.f1 (.bool true) rfl rfl rfl ?_; intro w3 hH3 hg3))
        have HH3 := Aside0.mk hH3
        have HO3 := Aside0.mk (Kd.R_grown (Kd.R_alloc HO.out _) hg3 (fun k hk e => hk (Option.some.inj e)))
        have HB3 := Aside0.mk ((HB.out.alloc (below_size HB.out) _).grown hg3 (by have := below_size HB.out; simp; omega) (fun k e => by cases e; exact HBB.out))
        clear hH3 hg3
        go_wp2
        go_roundg (gk - 1)
        case measure => have := HQ.out; omega
        case rel => exact ⟨(m : Int) - 1, _, _, _, rfl, by omega, by omega, ⟨by have := HQ.out; omega⟩, ⟨by rw [show ((m : Int) - 1 + 1).toNat = m by omega, HS3.out]⟩, ⟨by have := HL.out; omega⟩, HH3, ⟨fun u => by show (if u = n.f1 then some (Value.bool true) else F u).getD _ = _; by_cases hu : u = n.f1 <;> simp [hu, HF.out]⟩, HO3, HB3⟩
      have q5 : (n.f0 == 5) = false := beq_eq_false_iff_ne.2 k5
      by_cases k7 : n.f0 = 7
      · have HS3 := Aside0.mk (HS2.out.trans (show redoStep (c, out) n = (fun u => if u = n.f1 then false else c u, out) by unfold redoStep; rw [if_neg (by omega), if_pos (.inl k7)]))
        have q7 : (n.f0 == 7) = true := beq_iff_eq.2 k7
        clear k4 k5 k7 HS2
        go_wp2_with (first | (at_mapUpdate; refine wl_put (K := K3) rfl (.tmp 48) (.tmp 50) (.const (.bool false)) 71 rfl Tryz.underlying71 (HH.out.alloc _) n.f1 (.bool false) rfl rfl rfl ?_; intro w3 hH3 hg3))
        have HH3 := Aside0.mk hH3
        have HO3 := Aside0.mk (Kd.R_grown (Kd.R_alloc HO.out _) hg3 (fun k hk e => hk (Option.some.inj e)))
        have HB3 := Aside0.mk ((HB.out.alloc (below_size HB.out) _).grown hg3 (by have := below_size HB.out; simp; omega) (fun k e => by cases e; exact HBB.out))
        clear hH3 hg3
        go_wp2
        go_roundg (gk - 1)
        case measure => have := HQ.out; omega
        case rel => exact ⟨(m : Int) - 1, _, _, _, rfl, by omega, by omega, ⟨by have := HQ.out; omega⟩, ⟨by rw [show ((m : Int) - 1 + 1).toNat = m by omega, HS3.out]⟩, ⟨by have := HL.out; omega⟩, HH3, ⟨fun u => by show (if u = n.f1 then some (Value.bool false) else F u).getD _ = _; by_cases hu : u = n.f1 <;> simp [hu, HF.out]⟩, HO3, HB3⟩
      have q7 : (n.f0 == 7) = false := beq_eq_false_iff_ne.2 k7
      by_cases k1 : n.f0 = 1
      · have HS3 := Aside0.mk (HS2.out.trans (show redoStep (c, out) n = (fun u => if u = n.f1 then false else c u, out) by unfold redoStep; rw [if_neg (by omega), if_pos (.inr k1)]))
        have q1 : (n.f0 == 1) = true := beq_iff_eq.2 k1
        clear k4 k5 k7 k1 HS2
        go_wp2_with (first | (at_mapUpdate; refine wl_put (K := K3) rfl (.tmp 48) (.tmp 50) (.const (.bool false)) 71 rfl Tryz.underlying71 (HH.out.alloc _) n.f1 (.bool false) rfl rfl rfl ?_; intro w3 hH3 hg3))
        have HH3 := Aside0.mk hH3
        have HO3 := Aside0.mk (Kd.R_grown (Kd.R_alloc HO.out _) hg3 (fun k hk e => hk (Option.some.inj e)))
        have HB3 := Aside0.mk ((HB.out.alloc (below_size HB.out) _).grown hg3 (by have := below_size HB.out; simp; omega) (fun k e => by cases e; exact HBB.out))
        clear hH3 hg3
        go_wp2
        go_roundg (gk - 1)
        case measure => have := HQ.out; omega
        case rel => exact ⟨(m : Int) - 1, _, _, _, rfl, by omega, by omega, ⟨by have := HQ.out; omega⟩, ⟨by rw [show ((m : Int) - 1 + 1).toNat = m by omega, HS3.out]⟩, ⟨by have := HL.out; omega⟩, HH3, ⟨fun u => by show (if u = n.f1 then some (Value.bool false) else F u).getD _ = _; by_cases hu : u = n.f1 <;> simp [hu, HF.out]⟩, HO3, HB3⟩
      have q1 : (n.f0 == 1) = false := beq_eq_false_iff_ne.2 k1
      by_cases k3 : n.f0 = 3
      · have q3 : (n.f0 == 3) = true := beq_iff_eq.2 k3
        have HF1 := HF.out n.f1
        cases hc : c n.f1
        · have HS3 := Aside0.mk (HS2.out.trans (show redoStep (c, out) n = (c, out) by unfold redoStep; rw [if_neg (by omega), if_neg (by omega), if_pos k3, if_neg (show ¬ c n.f1 = true by rw [hc]; decide)]))
          rw [hc] at HF1
          have HF2 := Aside0.mk HF1
          clear k4 k5 k7 k1 k3 HS2 HF1 hc
          go_wp2_with (first | (at_lookup; refine wl_look (K := K3) rfl (.tmp 53) (.tmp 55) 71 rfl Tryz.underlying71 zero4 (HH.out.alloc _) n.f1 rfl rfl ?_; rw [HF2.out]))
          go_roundg (gk - 1)
          case measure => have := HQ.out; omega
          case rel => exact ⟨(m : Int) - 1, _, _, _, rfl, by omega, by omega, ⟨by have := HQ.out; omega⟩, ⟨by rw [show ((m : Int) - 1 + 1).toNat = m by omega, HS3.out]⟩, ⟨by have := HL.out; omega⟩, ⟨HH.out.alloc _⟩, HF, ⟨Kd.R_alloc HO.out _⟩, ⟨HB.out.alloc (below_size HB.out) _⟩⟩
        · have HS3 := Aside0.mk (HS2.out.trans (show redoStep (c, out) n = (c, out ++ [imgOf n]) by unfold redoStep; rw [if_neg (by omega), if_neg (by omega), if_pos k3, if_pos (show c n.f1 = true from hc)]))
          rw [hc] at HF1
          have HF2 := Aside0.mk HF1
          clear k4 k5 k7 k1 k3 HS2 HF1 hc
          have HV7 := Aside0.mk (show ∀ k, u7.ownBlock = some k → k ≠ b from HO.out.1)
          have hk := heap_alloc_new wr (.cells #[.int .i64 n.f0, .int .i64 n.f1, .string n.f2, .bool n.f3, .string n.f4] 43)
          have HO5 := Aside0.mk (Kd.R_alloc HO.out (.cells #[.int .i64 n.f0, .int .i64 n.f1, .string n.f2, .bool n.f3, .string n.f4] 43))
          have HB5 := Aside0.mk (HB.out.alloc (below_size HB.out) (.cells #[.int .i64 n.f0, .int .i64 n.f1, .string n.f2, .bool n.f3, .string n.f4] 43))
          have HH5 := Aside0.mk (HH.out.alloc (.cells #[.int .i64 n.f0, .int .i64 n.f1, .string n.f2, .bool n.f3, .string n.f4] 43))
          have hq2 := (blk_cell hk 2).trans rfl
          have hq3 := (blk_cell hk 3).trans rfl
          have hq4 := (blk_cell hk 4).trans rfl
          clear hk
          go_wp2_with (first | (at_lookup; refine wl_look (K := K3) rfl (.tmp 53) (.tmp 55) 71 rfl Tryz.underlying71 zero4 HH5.out n.f1 rfl rfl ?_; rw [HF2.out]; generalize wr.alloc (.cells #[.int .i64 n.f0, .int .i64 n.f1, .string n.f2, .bool n.f3, .string n.f4] 43) = w5 at HO5 HB5 HH5 hq2 hq3 hq4 ⊢) | (at_builtin; refine Kd.R_append k48 (w0 := w) w.heap.size rfl (.tmp 57) (.tmp 65) 44 48 (.agg #[(.string ⟨#[]⟩), (.bool false), (.string ⟨#[]⟩)]) 40 rfl Tryz.underlying44 info48 rfl (by decide) (by decide) u7 out (imgOf n) [.string n.f2, .bool n.f3, .string n.f4] (fun k => k ≠ b) (fun _ => False) rfl rfl ?aP (fun _ hk => hk.elim) ?aF ?aO ?aB ?aS ?aL ?_; (case aP => exact k48_mkM _ _ _ (imgOf n)); (case aF => exact (fun k hk => by have := HH5.out.lt; omega)); (case aO => exact HO5.out); (case aB => exact HB5.out); (case aS => exact below_size HB5.out); (case aL => have := HL.out; omega); intro v1 w3 ho hb3 hg3 _; have HO3 := Aside0.mk ho; have HB3 := Aside0.mk hb3; have HH3 := Aside0.mk (HH5.out.grown hg3 (fun e => HV7.out b e.symm rfl)); clear ho hb3 hg3))
          go_roundg (gk - 1)
          case measure => have := HQ.out; omega
          case rel => exact ⟨(m : Int) - 1, _, _, _, rfl, by omega, by omega, ⟨by have := HQ.out; omega⟩, ⟨by rw [show ((m : Int) - 1 + 1).toNat = m by omega, HS3.out]⟩, ⟨by have := HL.out; simp; omega⟩, HH3, HF, HO3, HB3⟩
      · have q3 : (n.f0 == 3) = false := beq_eq_false_iff_ne.2 k3
        have HS3 := Aside0.mk (HS2.out.trans (show redoStep (c, out) n = (c, out) by unfold redoStep; rw [if_neg (by omega), if_neg (by omega), if_neg k3]))
        clear k4 k5 k7 k1 k3 HS2
        go_wp2
        go_roundg (gk - 1)
        case measure => have := HQ.out; omega
        case rel => exact ⟨(m : Int) - 1, _, _, _, rfl, by omega, by omega, ⟨by have := HQ.out; omega⟩, ⟨by rw [show ((m : Int) - 1 + 1).toNat = m by omega, HS3.out]⟩, ⟨by have := HL.out; omega⟩, ⟨HH.out.alloc _⟩, HF, ⟨Kd.R_alloc HO.out _⟩, ⟨HB.out.alloc (below_size HB.out) _⟩⟩
    · have hi : i = a1 - 1 := by omega
      subst hi
      have HS' := Aside0.mk (show out = (redoAll (l0.drop a1.toNat)).2 by rw [show a1.toNat = (a1 - 1 + 1).toNat by omega, ← HS.out])
      clear HS
      have HV := Aside0.mk (rev_all out (by have := HL.out; omega))
      go_wp2_with (go_at_call 50; refine (api_Image.calls _ _ _ _ _ w _ HB.out HO.out HV.out).mono ?_; rintro r w3 ⟨rfl, ho, hb3, _⟩)
      go_ret2
      exact ⟨_, rfl, by rw [← HS'.out]; exact Kd.R_mono ho (fun _ _ => trivial), hb3⟩
theorem right_cases (l : List S43) : journal_right.f l = some (rightN l) ∧ (rightN l ≠ 1 → l.length ≤ 1000 ∧ l.all vld = true) := by
  unfold rightN journal_right.f journal_Wrong.f
  by_cases hv : l.length ≤ 1000 ∧ l.all vld = true
  · rw [if_pos hv]
    refine ⟨?_, fun _ => hv⟩
    simp only [Option.bind_some]
    split <;> first | rfl | (split <;> rfl)
  · rw [if_neg hv]
    refine ⟨rfl, fun h => ?_⟩
    simp at h
theorem journal_Redo.calls (A0 : Option Addr) (c0 : Nat) (l0 : List (S43)) (a1 : Int) (r1 : List (S48)) (r2 : Int) (w : World) (hr0 : Kd.C k43 w A0 l0.length l0) (hc0 : l0.length ≤ c0) (h : journal_Redo.f l0 a1 = some (r1, r2)) :
    Calls Tryz.prog 41 #[.slice A0 l0.length c0, .int .i64 a1] w fun e w' => ∃ v0_ : Value, e = .returned (.tuple #[v0_, .int .i64 r2]) ∧ Kd.R k48 48 w' w.heap.size (fun _ => True) v0_ r1 ∧ Below w.heap.size w w' := by
  obtain ⟨he, hle⟩ := right_cases l0
  unfold journal_Redo.f at h
  rw [he, Option.bind_some] at h
  by_cases h0 : rightN l0 = 0
  · rw [if_pos h0] at h
    rw [h0] at he
    by_cases hr : a1 < 0 ∨ (l0.length : Int) < a1
    · rw [if_pos hr] at h
      obtain ⟨rfl, rfl⟩ := Prod.mk.inj (Option.some.inj h)
      exact (redo_range A0 c0 l0 a1 w hr0 hc0 he hr).mono fun e w' ⟨h1, h2⟩ => ⟨_, h1, Kd.R_nil _ _ _ _ _, h2⟩
    · rw [if_neg hr] at h
      obtain ⟨rfl, rfl⟩ := Prod.mk.inj (Option.some.inj h)
      exact redo_yes A0 c0 l0 a1 w hr0 hc0 he (by omega) (by omega) (hle (by omega)).1
  · rw [if_neg h0] at h
    obtain ⟨rfl, rfl⟩ := Prod.mk.inj (Option.some.inj h)
    exact (redo_no _ A0 c0 l0 a1 w hr0 hc0 he h0).mono fun e w' ⟨h1, h2⟩ => ⟨_, h1, Kd.R_nil _ _ _ _ _, h2⟩
end Go.Proofs.YteblpjnkinghoaaGreat.J
/- The contract of journal.Undo, for every slice of notes and every unit. -/
namespace Go.Proofs.YteblpjnkinghoaaGreat.J
open Go.BigFrame Go.RowKit Go.Proofs.YteblpjnkinghoaaGreatW.PrintWords Go.Proofs.YteblpjnkinghoaaGreatW.PrintLast Go.Proofs.YteblpjnkinghoaaGreatW.PrintMore Go.Proofs.YteblpjnkinghoaaGreatW.Mw
/-- One note of Undo. -/
def undoStep (u : Int) (st : (ByteArray → Bool) × List S48) (n : S43) : (ByteArray → Bool) × List S48 :=
  if n.f1 = u ∧ n.f0 = 2 ∧ st.1 n.f2 = false then (fun k => if k = n.f2 then true else st.1 k, st.2 ++ [imgOf n]) else st
def undoAll (u : Int) (l : List S43) : (ByteArray → Bool) × List S48 := l.foldl (undoStep u) (fun _ => false, [])
def journal_Undo.f (l0 : List (S43)) (a1 : Int) : Option ((List (S48)) × Int) :=
  (journal_right.f l0).bind fun _ => if (askedV l0 a1).2 = 0 then some ((undoAll a1 (l0.drop (askedV l0 a1).1.toNat)).2.reverse, 0) else some ([], (askedV l0 a1).2)
noncomputable def K9 : Keys Tryz.prog 9 ByteArray := strKeys Tryz.prog 9 Tryz.underlying9
theorem undo_no (e : Int) (A0 : Option Addr) (c0 : Nat) (l0 : List (S43)) (a1 : Int) (w : World) (hr0 : Kd.C k43 w A0 l0.length l0) (hc0 : l0.length ≤ c0) (k : Nat) (he : journal_asked.f k l0 a1 = some (0, e)) (h : e ≠ 0) :
    Calls Tryz.prog 37 #[.slice A0 l0.length c0, .int .i64 a1] w fun r w' => r = .returned (.tuple #[.slice none 0 0, .int .i64 e]) ∧ Below w.heap.size w w' := by
  have HR0 := Aside0.mk hr0
  have HC0 := Aside0.mk hc0
  have HE := Aside0.mk he
  clear hr0 hc0 he
  have h1 : (e != 0) = true := bne_iff_ne.2 h
  clear h
  go_enter Tryz.func37, Tryz.ntmps37
  go_wp2_with (go_at_call 36; refine (journal_asked.calls _ _ _ _ _ _ _ _ HR0.out HC0.out HE.out).mono ?_; rintro r w1 ⟨rfl, hb⟩)
  go_ret2
  exact ⟨rfl, hb⟩
set_option maxHeartbeats 2000000 in
set_option maxRecDepth 100000 in
theorem undo_yes (A0 : Option Addr) (c0 : Nat) (l0 : List (S43)) (a1 : Int) (from_ : Nat) (w : World) (hr0 : Kd.C k43 w A0 l0.length l0) (hc0 : l0.length ≤ c0) (k : Nat) (he : journal_asked.f k l0 a1 = some ((from_ : Int), 0)) (hfr : from_ ≤ l0.length) (hle : l0.length ≤ 1000) :
    Calls Tryz.prog 37 #[.slice A0 l0.length c0, .int .i64 a1] w fun r w' => ∃ v, r = .returned (.tuple #[v, .int .i64 0]) ∧ Kd.R k48 48 w' w.heap.size (fun _ => True) v (undoAll a1 (l0.drop from_)).2.reverse ∧ Below w.heap.size w w' := by
  have HR0 := Aside0.mk hr0
  have HC0 := Aside0.mk hc0
  have HE := Aside0.mk he
  clear hr0 hc0 he
  have hmm := @run_makeMap Tryz.prog
  have hnot : ∀ x : Bool, (x == false) = !x := by decide
  obtain ⟨i0, hi0, _, hsz, _⟩ := info_parts info43
  have hcut := cut_from (P := Tryz.prog) 22 43 .i64 Tryz.underlying22 hi0 5 hsz A0 l0.length c0 (from_ : Int) (by omega) (by omega)
  have hC := Kd.C_drop (m := from_) HR0.out hfr HC0.out
  have hln : l0.length - from_ = (l0.drop from_).length := by simp
  rw [Int.toNat_natCast, hln] at hcut
  have hl : (l0.drop from_).length ≤ 1000 := by simp; omega
  clear hln hi0 hsz
  change Kd.C k43 w (if c0 = from_ then A0 else A0.map (·.add (from_ * 5))) _ _ at hC
  generalize (if c0 = from_ then A0 else A0.map (·.add (from_ * 5))) = A at hcut hC
  generalize l0.drop from_ = l at *
  have HL := Aside0.mk hC
  clear hC
  go_enter Tryz.func37, Tryz.ntmps37
  go_wp2_with (go_at_call 36; refine (journal_asked.calls _ _ _ _ _ _ _ _ HR0.out HC0.out HE.out).mono ?_; rintro r w1 ⟨rfl, hb⟩)
  clear hcut
  obtain ⟨b, hbe⟩ : ∃ b, b = w1.heap.size := ⟨_, rfl⟩
  have hB2 := hb.alloc hb.size (.map #[] 0)
  have hH2 := Holds.made K9 w1
  have hbb : w.heap.size ≤ b := by rw [hbe]; exact hb.size
  rw [← hbe] at hH2 ⊢
  have HBB := Aside0.mk hbb
  clear hbb hb hbe
  generalize w1.alloc (.map #[] 0) = w2 at hB2 hH2 ⊢
  have HB := Aside0.mk hB2
  have HH := Aside0.mk hH2
  clear hB2 hH2 hmm
  go_loopg [8, 26] l.length (fun kq v8 v26 w' => ∃ (i : Nat) (c : ByteArray → Bool) (out : List S48) (F : ByteArray → Option Value), v26 = .int .i64 i ∧ i ≤ l.length ∧ Aside0 (kq + i = l.length) ∧ Aside0 ((l.drop i).foldl (undoStep a1) (c, out) = undoAll a1 l) ∧ Aside0 (out.length ≤ i) ∧ Aside0 (Holds K9 w' b F) ∧ Aside0 (∀ u, (F u).getD (.bool false) = .bool (c u)) ∧ Aside0 (Kd.R k48 48 w' w.heap.size (fun k => k ≠ b) v8 out) ∧ Aside0 (Below w.heap.size w w'))
  case atStart => exact ⟨0, fun _ => false, [], fun _ => none, rfl, by omega, ⟨by omega⟩, ⟨rfl⟩, ⟨by simp⟩, HH, ⟨fun _ => rfl⟩, ⟨Kd.R_nil _ _ _ _ _⟩, HB⟩
  case round =>
    clear HB HH
    obtain ⟨i, c, out, F, rfl, hi, HQ, HS, HL2, HH, HF, HO, HB⟩ := hrel
    by_cases hlt : i < l.length
    · obtain ⟨ad, rfl, h0, h1, h2, h3, h4⟩ := at_T43 (Kd.C_below HL.out HB.out) (i : Int) (by omega) (by omega)
      rw [Int.toNat_natCast] at h0 h1 h2 h3 h4
      have HS2 := Aside0.mk (show (l.drop (i + 1)).foldl (undoStep a1) (undoStep a1 (c, out) (rd_T43 l (i : Int))) = undoAll a1 l by rw [← HS.out, drop_rd (show i < l.length from hlt)]; rfl)
      generalize rd_T43 l (i : Int) = n at h0 h1 h2 h3 h4 HS2
      clear HS
      by_cases k1 : n.f1 = a1
      · have q1 : (n.f1 == a1) = true := beq_iff_eq.2 k1
        by_cases k2 : n.f0 = 2
        · have q2 : (n.f0 == 2) = true := beq_iff_eq.2 k2
          have HF1 := HF.out n.f2
          cases hc : c n.f2
          · rw [show undoStep a1 (c, out) n = (fun k => if k = n.f2 then true else c k, out ++ [imgOf n]) by unfold undoStep; rw [if_pos ⟨k1, k2, hc⟩]] at HS2
            rw [hc] at HF1
            have HF2 := Aside0.mk HF1
            clear k1 k2 HF1 hc
            have HV7 := Aside0.mk (show ∀ k, u8.ownBlock = some k → k ≠ b from HO.out.1)
            have hk := heap_alloc_new wr (.cells #[.int .i64 n.f0, .int .i64 n.f1, .string n.f2, .bool n.f3, .string n.f4] 43)
            have HO5 := Aside0.mk (Kd.R_alloc HO.out (.cells #[.int .i64 n.f0, .int .i64 n.f1, .string n.f2, .bool n.f3, .string n.f4] 43))
            have HB5 := Aside0.mk (HB.out.alloc (below_size HB.out) (.cells #[.int .i64 n.f0, .int .i64 n.f1, .string n.f2, .bool n.f3, .string n.f4] 43))
            have HH5 := Aside0.mk (HH.out.alloc (.cells #[.int .i64 n.f0, .int .i64 n.f1, .string n.f2, .bool n.f3, .string n.f4] 43))
            have hlt0 := HH.out.lt
            go_wp2_with (first | (at_lookup; refine wl_look (K := K9) rfl (.tmp 40) (.tmp 42) 53 rfl Tryz.underlying53 zero4 (HH.out.alloc _) n.f2 rfl rfl ?_; rw [HF2.out]) | (at_mapUpdate; refine wl_put (K := K9) rfl (.tmp 46) (.tmp 48) (.const (.bool true)) 53 rfl Tryz.underlying53 HH5.out n.f2 (.bool true) rfl rfl rfl ?_; intro w6 hH6 hg6; have HH6 := Aside0.mk hH6; have HO6 := Aside0.mk (Kd.R_grown HO5.out hg6 (fun k hk e => hk (Option.some.inj e))); have HB6 := Aside0.mk (HB5.out.grown hg6 (below_size HB5.out) (fun k e => by cases e; exact HBB.out)); have hk6 := (hg6.block wr.heap.size (by simp) (fun e => by have := Option.some.inj e; omega)).trans hk; have hq2 := (blk_cell hk6 2).trans rfl; have hq3 := (blk_cell hk6 3).trans rfl; have hq4 := (blk_cell hk6 4).trans rfl; clear hH6 hg6 hk6 hk) | (at_builtin; refine Kd.R_append k48 (w0 := w) w.heap.size rfl (.tmp 49) (.tmp 57) 44 48 (.agg #[(.string ⟨#[]⟩), (.bool false), (.string ⟨#[]⟩)]) 40 rfl Tryz.underlying44 info48 rfl (by decide) (by decide) u8 out (imgOf n) [.string n.f2, .bool n.f3, .string n.f4] (fun k => k ≠ b) (fun _ => False) rfl rfl ?aP (fun _ hk => hk.elim) ?aF ?aO ?aB ?aS ?aL ?_; (case aP => exact k48_mkM _ _ _ (imgOf n)); (case aF => exact (fun k hk => by have := HH6.out.lt; omega)); (case aO => exact HO6.out); (case aB => exact HB6.out); (case aS => exact below_size HB6.out); (case aL => have := HL2.out; omega); intro v1 w3 ho hb3 hg3 _; have HO3 := Aside0.mk ho; have HB3 := Aside0.mk hb3; have HH3 := Aside0.mk (HH6.out.grown hg3 (fun e => HV7.out b e.symm rfl)); clear ho hb3 hg3))
            go_roundg (gk - 1)
            case measure => have := HQ.out; omega
            case rel => exact ⟨i + 1, _, _, _, rfl, by omega, ⟨by have := HQ.out; omega⟩, HS2, ⟨by have := HL2.out; simp; omega⟩, HH3, ⟨fun u => by show (if u = n.f2 then some (Value.bool true) else F u).getD _ = _; by_cases hu : u = n.f2 <;> simp [hu, HF.out]⟩, HO3, HB3⟩
          · rw [show undoStep a1 (c, out) n = (c, out) by unfold undoStep; rw [if_neg (fun h => by have h2 : c n.f2 = false := h.2.2; rw [hc] at h2; exact absurd h2 (by decide))]] at HS2
            rw [hc] at HF1
            have HF2 := Aside0.mk HF1
            clear k1 k2 HF1 hc
            go_wp2_with (first | (at_lookup; refine wl_look (K := K9) rfl (.tmp 40) (.tmp 42) 53 rfl Tryz.underlying53 zero4 (HH.out.alloc _) n.f2 rfl rfl ?_; rw [HF2.out]))
            go_roundg (gk - 1)
            case measure => have := HQ.out; omega
            case rel => exact ⟨i + 1, _, _, _, rfl, by omega, ⟨by have := HQ.out; omega⟩, HS2, ⟨by have := HL2.out; omega⟩, ⟨HH.out.alloc _⟩, HF, ⟨Kd.R_alloc HO.out _⟩, ⟨HB.out.alloc (below_size HB.out) _⟩⟩
        · have q2 : (n.f0 == 2) = false := beq_eq_false_iff_ne.2 k2
          rw [show undoStep a1 (c, out) n = (c, out) by unfold undoStep; rw [if_neg (fun h => k2 h.2.1)]] at HS2
          clear k1 k2
          go_wp2
          go_roundg (gk - 1)
          case measure => have := HQ.out; omega
          case rel => exact ⟨i + 1, _, _, _, rfl, by omega, ⟨by have := HQ.out; omega⟩, HS2, ⟨by have := HL2.out; omega⟩, ⟨HH.out.alloc _⟩, HF, ⟨Kd.R_alloc HO.out _⟩, ⟨HB.out.alloc (below_size HB.out) _⟩⟩
      · have q1 : (n.f1 == a1) = false := beq_eq_false_iff_ne.2 k1
        rw [show undoStep a1 (c, out) n = (c, out) by unfold undoStep; rw [if_neg (fun h => k1 h.1)]] at HS2
        clear k1
        go_wp2
        go_roundg (gk - 1)
        case measure => have := HQ.out; omega
        case rel => exact ⟨i + 1, _, _, _, rfl, by omega, ⟨by have := HQ.out; omega⟩, HS2, ⟨by have := HL2.out; omega⟩, ⟨HH.out.alloc _⟩, HF, ⟨Kd.R_alloc HO.out _⟩, ⟨HB.out.alloc (below_size HB.out) _⟩⟩
    · have hi : i = l.length := by omega
      subst hi
      have HS' := Aside0.mk (show out = (undoAll a1 l).2 by rw [← HS.out, List.drop_length]; rfl)
      clear HS
      have HV := Aside0.mk (rev_all out (by have := HL2.out; omega))
      go_wp2_with (go_at_call 50; refine (api_Image.calls _ _ _ _ _ w _ HB.out HO.out HV.out).mono ?_; rintro r w3 ⟨rfl, ho, hb3, _⟩)
      go_ret2
      exact ⟨_, rfl, by rw [← HS'.out]; exact Kd.R_mono ho (fun _ _ => trivial), hb3⟩
theorem journal_Undo.calls (A0 : Option Addr) (c0 : Nat) (l0 : List (S43)) (a1 : Int) (r1 : List (S48)) (r2 : Int) (w : World) (hr0 : Kd.C k43 w A0 l0.length l0) (hc0 : l0.length ≤ c0) (h : journal_Undo.f l0 a1 = some (r1, r2)) :
    Calls Tryz.prog 37 #[.slice A0 l0.length c0, .int .i64 a1] w fun e w' => ∃ v0_ : Value, e = .returned (.tuple #[v0_, .int .i64 r2]) ∧ Kd.R k48 48 w' w.heap.size (fun _ => True) v0_ r1 ∧ Below w.heap.size w w' := by
  obtain ⟨he, hle⟩ := right_cases l0
  have hV : rightN l0 = rightV l0 := rfl
  rw [hV] at he hle
  have ha := asked_all l0 a1 (fun h0 => by have := (hle (by omega)).1; omega) he
  unfold journal_Undo.f at h
  rw [he, Option.bind_some] at h
  by_cases h0 : (askedV l0 a1).2 = 0
  · rw [if_pos h0] at h
    obtain ⟨rfl, rfl⟩ := Prod.mk.inj (Option.some.inj h)
    have hr0' : rightV l0 = 0 := by
      by_cases hz : rightV l0 = 0
      · exact hz
      · unfold askedV at h0; rw [if_neg hz] at h0; exact absurd h0 hz
    have hle' := (hle (by omega)).1
    have hsn : 0 ≤ (askedV l0 a1).1 ∧ (askedV l0 a1).1 < l0.length := by
      unfold askedV at h0 ⊢
      rw [if_pos hr0'] at h0 ⊢
      by_cases hu : 1 ≤ a1 ∧ a1 ≤ 1000
      · rw [if_pos hu] at h0 ⊢
        by_cases hs : (sinceV l0 a1).2 = true
        · rw [if_pos hs]
          have := since_range a1 l0 0 (0, false) hs (fun h => by cases h)
          simpa [sinceV] using this
        · rw [if_neg hs] at h0; cases h0
      · rw [if_neg hu] at h0; cases h0
    have e1 : askedV l0 a1 = (((askedV l0 a1).1.toNat : Int), 0) := by
      rw [← h0]; exact Prod.ext (by show _ = ((askedV l0 a1).1.toNat : Int); omega) rfl
    exact undo_yes A0 c0 l0 a1 (askedV l0 a1).1.toNat w hr0 hc0 _ (ha.trans (congrArg some e1)) (by omega) hle'
  · rw [if_neg h0] at h
    obtain ⟨rfl, rfl⟩ := Prod.mk.inj (Option.some.inj h)
    have e1 : (askedV l0 a1).1 = 0 := by
      unfold askedV at h0 ⊢
      split
      · rename_i hz
        rw [if_pos hz] at h0
        split
        · rename_i hu
          rw [if_pos hu] at h0
          split
          · rename_i hs; rw [if_pos hs] at h0; exact absurd rfl h0
          · rfl
        · rfl
      · rfl
    exact (undo_no _ A0 c0 l0 a1 w hr0 hc0 _ (ha.trans (congrArg some (Prod.ext e1 rfl))) h0).mono fun e w' ⟨h1, h2⟩ => ⟨_, h1, Kd.R_nil _ _ _ _ _, h2⟩
end Go.Proofs.YteblpjnkinghoaaGreat.J
namespace Go.Proofs.YteblpjnkinghoaaGreat.J
open Go.RowKit Go.Proofs.YteblpjnkinghoaaGreatW.PrintWords Go.Proofs.YteblpjnkinghoaaGreatW.PrintLast Go.Proofs.YteblpjnkinghoaaGreatW.PrintMore
attribute [local go_sem] max2_int min2_int max_two min_two max_three min_three max_four min_four   -- for this text's walks alone
set_option linter.unusedVariables false
set_option linter.unusedSimpArgs false
theorem eqA43 (d : Nat) (w : World) (x0 y0 : Int) (x1 y1 : Int) (x2 y2 : ByteArray) (x3 y3 : Bool) (x4 y4 : ByteArray) :
    (Op.equalIn (d + 2) 43 (.agg #[.int .i64 x0, .int .i64 x1, .string x2, .bool x3, .string x4]) (.agg #[.int .i64 y0, .int .i64 y1, .string y2, .bool y3, .string y4])).run Tryz.prog w = .ok (x0 == y0 && (x1 == y1 && (x2.toList == y2.toList && (x3 == y3 && (x4.toList == y4.toList))))) w := by
  refine eqA_of Tryz.underlying43 (by kernel_rfl) ?_
  refine eqf_cons (by rfl) (by go_simp; rfl) (by go_simp; rfl) (by go_simp) ?_
  refine eqf_cons (by rfl) (by go_simp; rfl) (by go_simp; rfl) (by go_simp) ?_
  refine eqf_cons (by rfl) (by go_simp; rfl) (by go_simp; rfl) (by go_simp) ?_
  refine eqf_cons (by rfl) (by go_simp; rfl) (by go_simp; rfl) (by go_simp) ?_
  exact eqf_last (by rfl) (by go_simp; rfl) (by go_simp; rfl) (by go_simp)
end Go.Proofs.YteblpjnkinghoaaGreat.J
namespace Go.Proofs.YteblpjnkinghoaaGreat.J
open Go.RowKit Go.Proofs.YteblpjnkinghoaaGreatW.PrintWords Go.Proofs.YteblpjnkinghoaaGreatW.PrintLast Go.Proofs.YteblpjnkinghoaaGreatW.PrintMore
attribute [local go_sem] max2_int min2_int max_two min_two max_three min_three max_four min_four   -- for this text's walks alone
set_option linter.unusedVariables false
set_option linter.unusedSimpArgs false
attribute [local go_sem high] eqA43
/-! ### ringworkref25_QuietAt: function 14 -/
def ringworkref25_QuietAt.j0 : Nat → List (S43) → Int → Bool → Option (Int × Int)
  | 0, _, _, _ => none
  | k + 1, x0, x1, x18 => if x18 = true then (some (0, 7)) else ((ringworkref25_since.f k x0 (x0.length : Int) x1).bind fun t152 => (if t152 < 0 then (some (0, 8)) else (some (t152, 0))))
def ringworkref25_QuietAt.f (k : Nat) (l0 : List (S43)) (a1 : Int) : Option (Int × Int) := (ringworkref25_right.f k l0).bind fun t151 => (if t151 = 0 then (if a1 < 1 then (ringworkref25_QuietAt.j0 k l0 a1 true) else (ringworkref25_QuietAt.j0 k l0 a1 (decide (a1 > 1000)))) else (some (0, t151)))
set_option maxHeartbeats 8000000 in
set_option maxRecDepth 100000 in
theorem ringworkref25_QuietAt.calls (k : Nat) (A0 : Option Addr) (c0 : Nat) (l0 : List (S43)) (a1 : Int) (r1 : Int) (r2 : Int) (w : World) (hr0 : Kd.C k43 w A0 l0.length l0) (hc0 : l0.length ≤ c0) (h : ringworkref25_QuietAt.f k l0 a1 = some (r1, r2)) :
    Calls Tryz.prog 14 #[.slice A0 l0.length c0, .int .i64 a1] w fun e w' => e = .returned (.tuple #[.int .i64 r1, .int .i64 r2]) ∧ Below w.heap.size w w' := by
  have HR0 := Aside0.mk hr0
  have HC0 := Aside0.mk hc0
  clear hr0 hc0
  have HB := Aside0.mk (Below.refl w.heap.size w)
  have H : ((ringworkref25_right.f k l0).bind fun t151 => (if t151 = 0 then (if a1 < 1 then (ringworkref25_QuietAt.j0 k l0 a1 true) else (ringworkref25_QuietAt.j0 k l0 a1 (decide (a1 > 1000)))) else (some (0, t151)))) = some (r1, r2) := h
  clear h
  replace H := Option.bind_eq_some_iff.mp H
  obtain ⟨t151, A30, H⟩ := H
  replace H : (if t151 = 0 then (if a1 < 1 then (ringworkref25_QuietAt.j0 k l0 a1 true) else (ringworkref25_QuietAt.j0 k l0 a1 (decide (a1 > 1000)))) else (some (0, t151))) = some (r1, r2) := H
  have A3 := Aside0.mk A30
  clear A30
  by_cases c4 : t151 = 0
  · rw [if_pos c4] at H
    have c4b0 : (t151 == 0) = true := beq_iff_eq.mpr c4
    have c4b1 : (t151 != 0) = false := bne_eq_false_iff_eq.mpr c4
    clear c4
    have HC5 := Aside0.mk H
    clear H
    go_enter Tryz.func14, Tryz.ntmps14
    go_upto_region 4 with (first | ((with_reducible refine gate_callee (f := 31) rfl ?_); refine goesL_ (some 9) rfl rfl Tryz.func31 (by kernel_rfl) rfl #[.slice A0 l0.length c0] rfl (by (try simp only [List.map_toArray, List.map_cons, List.map_nil]); first | done | rfl | (simp only [List.length_drop, List.length_take]; rfl)) ?_; (with_reducible refine (ringworkref25_right.calls k _ _ l0 t151 _ ?side1 ?side2 A3.out).mono ?_); (case side1 => repeat (first | exact HR0.out | (with_reducible refine Kd.C_alloc ?_ _) | (with_reducible refine Kd.C_drewN ?_ _) | (with_reducible refine Kd.C_drew ?_))); (case side2 => exact HC0.out); rintro e w6 ⟨rfl, hb⟩; refine ⟨_, rfl, ?_⟩; have n0_ := Aside0.mk (below_step (by repeat (first | (with_reducible first | exact HB.out | apply below_alloc | apply pw_below_drewN | apply below_drew1) | exact HB.out)) hb); clear HB; have HB := n0_; clear n0_; (try clear hb); (try clear hb2); (try clear hk); (try clear hi)))
    (try simp only [Act.put, List.setIfInBounds_toArray, List.set_cons_zero, List.set_cons_succ])
    go_cut [18] (fun v18 wc => ∃ (kq : Nat) (x18_4 : Bool), v18 = .bool x18_4 ∧ Aside0 (ringworkref25_QuietAt.j0 kq l0 a1 x18_4 = some (r1, r2)) ∧ Aside0 (kq ≤ k) ∧ Aside0 (Below w.heap.size w wc))
    case first =>
      have H := HC5.out
      clear HC5
      by_cases c7 : a1 < 1
      · rw [if_pos c7] at H
        have c7b0 : decide (a1 < 1) = true := decide_eq_true c7
        clear c7
        (first | rw [c7b0] | (simp only [i64_w, i32_w]; rw [c7b0]) | skip)
        have H' := Aside0.mk H
        clear H
        go_wp2
        go_meet
        case rel => exact ⟨_, (true), (by first | rfl | (simp; done) | (simp [*]; done)), H', ⟨by first | omega | exact Nat.le_refl _⟩, ⟨by repeat (first | (with_reducible first | exact HB.out | apply below_alloc | apply pw_below_drewN | apply below_drew1) | exact HB.out)⟩⟩
      · rw [if_neg c7] at H
        have c7b0 : decide (a1 < 1) = false := decide_eq_false c7
        clear c7
        (first | rw [c7b0] | (simp only [i64_w, i32_w]; rw [c7b0]) | skip)
        have H' := Aside0.mk H
        clear H
        go_wp2
        go_meet
        case rel => exact ⟨_, (decide (a1 > 1000)), (by first | rfl | (simp; done) | (simp [*]; done)), H', ⟨by first | omega | exact Nat.le_refl _⟩, ⟨by repeat (first | (with_reducible first | exact HB.out | apply below_alloc | apply pw_below_drewN | apply below_drew1) | exact HB.out)⟩⟩
    case rest =>
      clear HC5
      try clear c1
      try clear p2
      try clear c3
      try clear c4
      try clear c4b0
      try clear c4b1
      try clear c7
      try clear c7b0
      obtain ⟨kq, x18_4, rfl, HA, HJ4, HB⟩ := hcut
      cases kq with
      | zero => exact absurd HA.out (by simp [ringworkref25_QuietAt.j0])
      | succ kj4 =>
        have H := HA.out
        clear HA
        simp only [ringworkref25_QuietAt.j0] at H
        by_cases c8 : x18_4 = true
        · subst c8
          have H1 : (some (0, 7)) = some (r1, r2) := by rw [if_pos rfl] at H; exact H
          clear H
          have H := H1
          clear H1
          simp only [Option.some.injEq, Prod.mk.injEq] at H
          obtain ⟨rfl, rfl⟩ := H
          go_wp2
          go_ret2
          exact ⟨by first | rfl | (simp [errW_none, errW_some] <;> rfl) | (simp [*, errW_none, errW_some] <;> rfl), by repeat (first | (with_reducible first | exact HB.out | apply below_alloc | apply pw_below_drewN | apply below_drew1) | exact HB.out)⟩
        · replace c8 := Bool.eq_false_iff.mpr c8
          subst c8
          have H1 : ((ringworkref25_since.f kj4 l0 (l0.length : Int) a1).bind fun t152 => (if t152 < 0 then (some (0, 8)) else (some (t152, 0)))) = some (r1, r2) := by rw [if_neg (show ¬ (false = true) by decide)] at H; exact H
          clear H
          have H := H1
          clear H1
          replace H := Option.bind_eq_some_iff.mp H
          obtain ⟨t152, A90, H⟩ := H
          replace H : (if t152 < 0 then (some (0, 8)) else (some (t152, 0))) = some (r1, r2) := H
          have A9 := Aside0.mk A90
          clear A90
          by_cases c10 : t152 < 0
          · rw [if_pos c10] at H
            have c10b0 : decide (t152 < 0) = true := decide_eq_true c10
            clear c10
            simp only [Option.some.injEq, Prod.mk.injEq] at H
            obtain ⟨rfl, rfl⟩ := H
            go_wp2_with (first | ((with_reducible refine gate_callee (f := 32) rfl ?_); refine goesL_ (some 23) rfl rfl Tryz.func32 (by kernel_rfl) rfl #[.slice A0 l0.length c0, .int .i64 (l0.length : Int), .int .i64 a1] rfl (by (try simp only [List.map_toArray, List.map_cons, List.map_nil]); first | done | rfl | (simp only [List.length_drop, List.length_take]; rfl)) ?_; (with_reducible refine (ringworkref25_since.calls kj4 _ _ l0 (l0.length : Int) a1 t152 _ ?side1 ?side2 A9.out).mono ?_); (case side1 => repeat (first | exact (Kd.C_below HR0.out HB.out) | (with_reducible refine Kd.C_alloc ?_ _) | (with_reducible refine Kd.C_drewN ?_ _) | (with_reducible refine Kd.C_drew ?_))); (case side2 => exact HC0.out); rintro e w' ⟨rfl, ⟨nd, rfl⟩⟩; refine ⟨_, rfl, ?_⟩))
            go_ret2
            exact ⟨by first | rfl | (simp [errW_none, errW_some] <;> rfl) | (simp [*, errW_none, errW_some] <;> rfl), by repeat (first | (with_reducible first | exact HB.out | apply below_alloc | apply pw_below_drewN | apply below_drew1) | exact HB.out)⟩
          · rw [if_neg c10] at H
            have c10b0 : decide (t152 < 0) = false := decide_eq_false c10
            clear c10
            simp only [Option.some.injEq, Prod.mk.injEq] at H
            obtain ⟨rfl, rfl⟩ := H
            go_wp2_with (first | ((with_reducible refine gate_callee (f := 32) rfl ?_); refine goesL_ (some 23) rfl rfl Tryz.func32 (by kernel_rfl) rfl #[.slice A0 l0.length c0, .int .i64 (l0.length : Int), .int .i64 a1] rfl (by (try simp only [List.map_toArray, List.map_cons, List.map_nil]); first | done | rfl | (simp only [List.length_drop, List.length_take]; rfl)) ?_; (with_reducible refine (ringworkref25_since.calls kj4 _ _ l0 (l0.length : Int) a1 t152 _ ?side1 ?side2 A9.out).mono ?_); (case side1 => repeat (first | exact (Kd.C_below HR0.out HB.out) | (with_reducible refine Kd.C_alloc ?_ _) | (with_reducible refine Kd.C_drewN ?_ _) | (with_reducible refine Kd.C_drew ?_))); (case side2 => exact HC0.out); rintro e w' ⟨rfl, ⟨nd, rfl⟩⟩; refine ⟨_, rfl, ?_⟩))
            go_ret2
            exact ⟨by first | rfl | (simp [errW_none, errW_some] <;> rfl) | (simp [*, errW_none, errW_some] <;> rfl), by repeat (first | (with_reducible first | exact HB.out | apply below_alloc | apply pw_below_drewN | apply below_drew1) | exact HB.out)⟩
  · rw [if_neg c4] at H
    have c4b0 : (t151 == 0) = false := beq_eq_false_iff_ne.mpr c4
    have c4b1 : (t151 != 0) = true := bne_iff_ne.mpr c4
    simp only [Option.some.injEq, Prod.mk.injEq] at H
    obtain ⟨rfl, rfl⟩ := H
    go_enter Tryz.func14, Tryz.ntmps14
    go_wp2_with (first | ((with_reducible refine gate_callee (f := 31) rfl ?_); refine goesL_ (some 9) rfl rfl Tryz.func31 (by kernel_rfl) rfl #[.slice A0 l0.length c0] rfl (by (try simp only [List.map_toArray, List.map_cons, List.map_nil]); first | done | rfl | (simp only [List.length_drop, List.length_take]; rfl)) ?_; (with_reducible refine (ringworkref25_right.calls k _ _ l0 t151 _ ?side1 ?side2 A3.out).mono ?_); (case side1 => repeat (first | exact HR0.out | (with_reducible refine Kd.C_alloc ?_ _) | (with_reducible refine Kd.C_drewN ?_ _) | (with_reducible refine Kd.C_drew ?_))); (case side2 => exact HC0.out); rintro e w11 ⟨rfl, hb⟩; refine ⟨_, rfl, ?_⟩; have n0_ := Aside0.mk (below_step (by repeat (first | (with_reducible first | exact HB.out | apply below_alloc | apply pw_below_drewN | apply below_drew1) | exact HB.out)) hb); clear HB; have HB := n0_; clear n0_; (try clear hb); (try clear hb2); (try clear hk); (try clear hi)))
    go_ret2
    exact ⟨by first | rfl | (simp [errW_none, errW_some] <;> rfl) | (simp [*, errW_none, errW_some] <;> rfl), by repeat (first | (with_reducible first | exact HB.out | apply below_alloc | apply pw_below_drewN | apply below_drew1) | exact HB.out)⟩

/-! ### ringworkref03_SameNames: function 17 -/
def ringworkref03_SameNames.l0 : Nat → List ByteArray → List ByteArray → Int → Option (Bool)
  | 0, _, _, _ => none
  | k + 1, x0, x1, x5 => if x5 < (x0.length : Int) then (if 0 ≤ x5 then (if x5 < (x1.length : Int) then (if (rdOf ByteArray.empty x0 x5).toList = (rdOf ByteArray.empty x1 x5).toList then (ringworkref03_SameNames.l0 k x0 x1 (wrap64 (x5 + 1))) else (some false)) else (none)) else (none)) else (some true)
def ringworkref03_SameNames.f (k : Nat) (l0 : List ByteArray) (l1 : List ByteArray) : Option (Bool) := if (l0.length : Int) = (l1.length : Int) then (ringworkref03_SameNames.l0 k l0 l1 0) else (some false)
set_option maxHeartbeats 8000000 in
set_option maxRecDepth 100000 in
theorem ringworkref03_SameNames.calls (k : Nat) (A0 : Option Addr) (c0 : Nat) (l0 : List ByteArray) (A1 : Option Addr) (c1 : Nat) (l1 : List ByteArray) (r : Bool) (w : World) (hr0 : Kd.C Kd.string w A0 l0.length l0) (hc0 : l0.length ≤ c0) (hr1 : Kd.C Kd.string w A1 l1.length l1) (hc1 : l1.length ≤ c1) (h : ringworkref03_SameNames.f k l0 l1 = some r) :
    Calls Tryz.prog 17 #[.slice A0 l0.length c0, .slice A1 l1.length c1] w fun e w' => e = .returned (.bool r) ∧ Drawn0 w w' := by
  have HR0 := Aside0.mk hr0
  have HC0 := Aside0.mk hc0
  clear hr0 hc0
  have HR1 := Aside0.mk hr1
  have HC1 := Aside0.mk hc1
  clear hr1 hc1
  have H : (if (l0.length : Int) = (l1.length : Int) then (ringworkref03_SameNames.l0 k l0 l1 0) else (some false)) = some r := h
  clear h
  by_cases c3 : (l0.length : Int) = (l1.length : Int)
  · rw [if_pos c3] at H
    have c3b0 : ((l0.length : Int) == (l1.length : Int)) = true := beq_iff_eq.mpr c3
    have c3b1 : ((l0.length : Int) != (l1.length : Int)) = false := bne_eq_false_iff_eq.mpr c3
    have c3b2 : (l0.length == l1.length) = true := by first | simpa using c3 | (simp at c3 ⊢; omega)
    clear c3
    have H' := Aside0.mk H
    clear H
    go_enter Tryz.func17, Tryz.ntmps17
    go_wp2
    repeat (go_quiet (fail); try go_wp2)
    go_loopg [5] k (fun kq v5 w' => ∃ (x5_1 : Int), v5 = .int .i64 x5_1 ∧ Aside0 (ringworkref03_SameNames.l0 kq l0 l1 x5_1 = some r) ∧ Aside0 (kq ≤ k) ∧ Drawn0 w w')
    case atStart => exact ⟨(0), (by first | rfl | (simp; done) | (simp [*]; done)), H', ⟨Nat.le_refl _⟩, by repeat (first | exact Drawn0.refl _ | apply Drawn0.step)⟩
    case round =>
      clear H'
      try clear c1
      try clear p2
      try clear c3
      try clear c3b0
      try clear c3b1
      try clear c3b2
      obtain ⟨x5_1, rfl, HA, HK1, ⟨m1, rfl⟩⟩ := hrel
      cases gk with
      | zero => exact absurd HA.out (by simp [ringworkref03_SameNames.l0])
      | succ k1 =>
        have H := HA.out
        clear HA
        simp only [ringworkref03_SameNames.l0] at H
        by_cases c4 : x5_1 < (l0.length : Int)
        · rw [if_pos c4] at H
          have c4b0 : decide (x5_1 < (l0.length : Int)) = true := decide_eq_true c4
          clear c4
          by_cases c5 : 0 ≤ x5_1
          · rw [if_pos c5] at H
            have c5b0 : decide (0 ≤ x5_1) = true := decide_eq_true c5
            clear c5
            by_cases c6 : x5_1 < (l1.length : Int)
            · rw [if_pos c6] at H
              have c6b0 : decide (x5_1 < (l1.length : Int)) = true := decide_eq_true c6
              clear c6
              by_cases c7 : (rdOf ByteArray.empty l0 x5_1).toList = (rdOf ByteArray.empty l1 x5_1).toList
              · rw [if_pos c7] at H
                have c7b0 : ((rdOf ByteArray.empty l0 x5_1).toList == (rdOf ByteArray.empty l1 x5_1).toList) = true := beq_iff_eq.mpr c7
                have c7b1 : ((rdOf ByteArray.empty l0 x5_1).toList != (rdOf ByteArray.empty l1 x5_1).toList) = false := bne_eq_false_iff_eq.mpr c7
                clear c7
                have H' := Aside0.mk H
                clear H
                have p153 : 0 ≤ (x5_1 : Int) := of_decide_eq_true (by first | (with_reducible assumption) | assumption)
                have q153 : x5_1 < (l0.length : Int) := of_decide_eq_true (by first | (with_reducible assumption) | assumption)
                obtain ⟨ad153, e153, hx153_0⟩ := Kd.at_string HR0.out x5_1 p153 q153
                cases e153
                replace p153 := eq_true p153
                replace q153 := eq_true q153
                have p154 : 0 ≤ (x5_1 : Int) := of_decide_eq_true (by first | (with_reducible assumption) | assumption)
                have q154 : x5_1 < (l1.length : Int) := of_decide_eq_true (by first | (with_reducible assumption) | assumption)
                obtain ⟨ad154, e154, hx154_0⟩ := Kd.at_string HR1.out x5_1 p154 q154
                cases e154
                replace p154 := eq_true p154
                replace q154 := eq_true q154
                go_wp2
                repeat (go_quiet (fail); try go_wp2)
                go_roundg k1
                case measure => have := HK1.out; omega
                case rel => exact ⟨(wrap64 (x5_1 + 1)), (by first | rfl | (simp; done) | (simp [*]; done)), H', ⟨by have := HK1.out; omega⟩, by repeat (first | exact Drawn0.refl _ | apply Drawn0.step)⟩
              · rw [if_neg c7] at H
                have c7b0 : ((rdOf ByteArray.empty l0 x5_1).toList == (rdOf ByteArray.empty l1 x5_1).toList) = false := beq_eq_false_iff_ne.mpr c7
                have c7b1 : ((rdOf ByteArray.empty l0 x5_1).toList != (rdOf ByteArray.empty l1 x5_1).toList) = true := bne_iff_ne.mpr c7
                obtain rfl := Option.some.inj H
                have p153 : 0 ≤ (x5_1 : Int) := of_decide_eq_true (by first | (with_reducible assumption) | assumption)
                have q153 : x5_1 < (l0.length : Int) := of_decide_eq_true (by first | (with_reducible assumption) | assumption)
                obtain ⟨ad153, e153, hx153_0⟩ := Kd.at_string HR0.out x5_1 p153 q153
                cases e153
                replace p153 := eq_true p153
                replace q153 := eq_true q153
                have p154 : 0 ≤ (x5_1 : Int) := of_decide_eq_true (by first | (with_reducible assumption) | assumption)
                have q154 : x5_1 < (l1.length : Int) := of_decide_eq_true (by first | (with_reducible assumption) | assumption)
                obtain ⟨ad154, e154, hx154_0⟩ := Kd.at_string HR1.out x5_1 p154 q154
                cases e154
                replace p154 := eq_true p154
                replace q154 := eq_true q154
                go_wp2
                repeat (go_quiet (fail); try go_wp2)
                go_ret
                exact ⟨by first | rfl | (simp; done) | (simp [*]; done), by repeat (first | exact Drawn0.refl _ | apply Drawn0.step)⟩
            · rw [if_neg c6] at H
              exact absurd H (by simp)
          · rw [if_neg c5] at H
            exact absurd H (by simp)
        · rw [if_neg c4] at H
          have c4b0 : decide (x5_1 < (l0.length : Int)) = false := decide_eq_false c4
          clear c4
          obtain rfl := Option.some.inj H
          go_wp2
          repeat (go_quiet (fail); try go_wp2)
          go_ret
          exact ⟨by first | rfl | (simp; done) | (simp [*]; done), by repeat (first | exact Drawn0.refl _ | apply Drawn0.step)⟩
  · rw [if_neg c3] at H
    have c3b0 : ((l0.length : Int) == (l1.length : Int)) = false := beq_eq_false_iff_ne.mpr c3
    have c3b1 : ((l0.length : Int) != (l1.length : Int)) = true := bne_iff_ne.mpr c3
    have c3b2 : (l0.length == l1.length) = false := by first | simpa using c3 | (simp at c3 ⊢; omega)
    obtain rfl := Option.some.inj H
    go_enter Tryz.func17, Tryz.ntmps17
    go_wp2
    repeat (go_quiet (fail); try go_wp2)
    go_ret
    exact ⟨by first | rfl | (simp; done) | (simp [*]; done), by repeat (first | exact Drawn0.refl _ | apply Drawn0.step)⟩

/-! ### ringworkref25_DumpAt: function 19 -/
def ringworkref25_DumpAt.l0 : Nat → List (S43) → ByteArray → Int → Option (Int × Int)
  | 0, _, _, _ => none
  | k + 1, x0, x1, x6 => if x6 ≥ 0 then (if 0 ≤ x6 then (if x6 < (x0.length : Int) then (if ((rd_T43 x0 x6).f0) = 6 then (if ((rd_T43 x0 x6).f4).toList = x1.toList then (some (wrap64 (x6 + 1), 0)) else (ringworkref25_DumpAt.l0 k x0 x1 (wrap64 (x6 - 1)))) else (ringworkref25_DumpAt.l0 k x0 x1 (wrap64 (x6 - 1)))) else (none)) else (none)) else (some (0, 8))
def ringworkref25_DumpAt.f (k : Nat) (l0 : List (S43)) (a1 : ByteArray) : Option (Int × Int) := (ringworkref25_notes.f k l0).bind fun t155 => (if t155 = true then (ringworkref25_DumpAt.l0 k l0 a1 (wrap64 ((l0.length : Int) - 1))) else (some (0, 1)))
set_option maxHeartbeats 8000000 in
set_option maxRecDepth 100000 in
theorem ringworkref25_DumpAt.calls (k : Nat) (A0 : Option Addr) (c0 : Nat) (l0 : List (S43)) (a1 : ByteArray) (r1 : Int) (r2 : Int) (w : World) (hr0 : Kd.C k43 w A0 l0.length l0) (hc0 : l0.length ≤ c0) (h : ringworkref25_DumpAt.f k l0 a1 = some (r1, r2)) :
    Calls Tryz.prog 19 #[.slice A0 l0.length c0, .string a1] w fun e w' => e = .returned (.tuple #[.int .i64 r1, .int .i64 r2]) ∧ Below w.heap.size w w' := by
  have HR0 := Aside0.mk hr0
  have HC0 := Aside0.mk hc0
  clear hr0 hc0
  have HB := Aside0.mk (Below.refl w.heap.size w)
  have H : ((ringworkref25_notes.f k l0).bind fun t155 => (if t155 = true then (ringworkref25_DumpAt.l0 k l0 a1 (wrap64 ((l0.length : Int) - 1))) else (some (0, 1)))) = some (r1, r2) := h
  clear h
  replace H := Option.bind_eq_some_iff.mp H
  obtain ⟨t155, A30, H⟩ := H
  replace H : (if t155 = true then (ringworkref25_DumpAt.l0 k l0 a1 (wrap64 ((l0.length : Int) - 1))) else (some (0, 1))) = some (r1, r2) := H
  have A3 := Aside0.mk A30
  clear A30
  by_cases c4 : t155 = true
  · subst c4
    have H1 : (ringworkref25_DumpAt.l0 k l0 a1 (wrap64 ((l0.length : Int) - 1))) = some (r1, r2) := by rw [if_pos rfl] at H; exact H
    clear H
    have H := H1
    clear H1
    have H' := Aside0.mk H
    clear H
    go_enter Tryz.func19, Tryz.ntmps19
    go_wp2_with (first | ((with_reducible refine gate_callee (f := 25) rfl ?_); refine goesL_ (some 8) rfl rfl Tryz.func25 (by kernel_rfl) rfl #[.slice A0 l0.length c0] rfl (by (try simp only [List.map_toArray, List.map_cons, List.map_nil]); first | done | rfl | (simp only [List.length_drop, List.length_take]; rfl)) ?_; (with_reducible refine (ringworkref25_notes.calls k _ _ l0 true _ ?side1 ?side2 A3.out).mono ?_); (case side1 => repeat (first | exact HR0.out | (with_reducible refine Kd.C_alloc ?_ _) | (with_reducible refine Kd.C_drewN ?_ _) | (with_reducible refine Kd.C_drew ?_))); (case side2 => exact HC0.out); rintro e w5 ⟨rfl, hb⟩; refine ⟨_, rfl, ?_⟩; have n0_ := Aside0.mk (below_step (by repeat (first | (with_reducible first | exact HB.out | apply below_alloc | apply pw_below_drewN | apply below_drew1) | exact HB.out)) hb); clear HB; have HB := n0_; clear n0_; (try clear hb); (try clear hb2); (try clear hk); (try clear hi)))
    go_loopg [6] k (fun kq v6 w' => ∃ (x6_1 : Int), v6 = .int .i64 x6_1 ∧ Aside0 (ringworkref25_DumpAt.l0 kq l0 a1 x6_1 = some (r1, r2)) ∧ Aside0 (kq ≤ k) ∧ Aside0 (Below w.heap.size w w'))
    case atStart => exact ⟨(wrap64 ((l0.length : Int) - 1)), (by first | rfl | (simp; done) | (simp [*]; done)), H', ⟨Nat.le_refl _⟩, ⟨by repeat (first | (with_reducible first | exact HB.out | apply below_alloc | apply pw_below_drewN | apply below_drew1) | exact HB.out)⟩⟩
    case round =>
      clear H'
      try clear c1
      try clear c2
      try clear p2
      try clear c4
      obtain ⟨x6_1, rfl, HA, HK1, HB⟩ := hrel
      cases gk with
      | zero => exact absurd HA.out (by simp [ringworkref25_DumpAt.l0])
      | succ k1 =>
        have H := HA.out
        clear HA
        simp only [ringworkref25_DumpAt.l0] at H
        by_cases c6 : x6_1 ≥ 0
        · rw [if_pos c6] at H
          have c6b0 : decide (0 ≤ x6_1) = true := decide_eq_true c6
          clear c6
          by_cases c7 : 0 ≤ x6_1
          · rw [if_pos c7] at H
            have c7b0 : decide (0 ≤ x6_1) = true := decide_eq_true c7
            clear c7
            by_cases c8 : x6_1 < (l0.length : Int)
            · rw [if_pos c8] at H
              have c8b0 : decide (x6_1 < (l0.length : Int)) = true := decide_eq_true c8
              clear c8
              by_cases c9 : ((rd_T43 l0 x6_1).f0) = 6
              · rw [if_pos c9] at H
                have c9b0 : (((rd_T43 l0 x6_1).f0) == 6) = true := beq_iff_eq.mpr c9
                have c9b1 : (((rd_T43 l0 x6_1).f0) != 6) = false := bne_eq_false_iff_eq.mpr c9
                clear c9
                by_cases c10 : ((rd_T43 l0 x6_1).f4).toList = a1.toList
                · rw [if_pos c10] at H
                  have c10b0 : (((rd_T43 l0 x6_1).f4).toList == a1.toList) = true := beq_iff_eq.mpr c10
                  have c10b1 : (((rd_T43 l0 x6_1).f4).toList != a1.toList) = false := bne_eq_false_iff_eq.mpr c10
                  clear c10
                  simp only [Option.some.injEq, Prod.mk.injEq] at H
                  obtain ⟨rfl, rfl⟩ := H
                  have p156 : 0 ≤ (x6_1 : Int) := of_decide_eq_true (by first | (with_reducible assumption) | assumption)
                  have q156 : x6_1 < (l0.length : Int) := of_decide_eq_true (by first | (with_reducible assumption) | assumption)
                  obtain ⟨ad156, e156, hx156_0, hx156_1, hx156_2, hx156_3, hx156_4⟩ := at_T43 HR0.out x6_1 p156 q156
                  cases e156
                  replace hx156_0 := (HB.out.cell (World.block_lt_of_cell? w _ hx156_0)).trans hx156_0
                  replace hx156_1 := (HB.out.cell (World.block_lt_of_cell? w _ hx156_1)).trans hx156_1
                  replace hx156_2 := (HB.out.cell (World.block_lt_of_cell? w _ hx156_2)).trans hx156_2
                  replace hx156_3 := (HB.out.cell (World.block_lt_of_cell? w _ hx156_3)).trans hx156_3
                  replace hx156_4 := (HB.out.cell (World.block_lt_of_cell? w _ hx156_4)).trans hx156_4
                  replace p156 := eq_true p156
                  replace q156 := eq_true q156
                  have p157 : 0 ≤ (x6_1 : Int) := of_decide_eq_true (by first | (with_reducible assumption) | assumption)
                  have q157 : x6_1 < (l0.length : Int) := of_decide_eq_true (by first | (with_reducible assumption) | assumption)
                  obtain ⟨ad157, e157, hx157_0, hx157_1, hx157_2, hx157_3, hx157_4⟩ := at_T43 HR0.out x6_1 p157 q157
                  obtain rfl : ad156 = ad157 := (by injection e157)
                  replace hx157_0 := (HB.out.cell (World.block_lt_of_cell? w _ hx157_0)).trans hx157_0
                  replace hx157_1 := (HB.out.cell (World.block_lt_of_cell? w _ hx157_1)).trans hx157_1
                  replace hx157_2 := (HB.out.cell (World.block_lt_of_cell? w _ hx157_2)).trans hx157_2
                  replace hx157_3 := (HB.out.cell (World.block_lt_of_cell? w _ hx157_3)).trans hx157_3
                  replace hx157_4 := (HB.out.cell (World.block_lt_of_cell? w _ hx157_4)).trans hx157_4
                  replace p157 := eq_true p157
                  replace q157 := eq_true q157
                  go_wp2
                  go_ret2
                  exact ⟨by first | rfl | (simp [errW_none, errW_some] <;> rfl) | (simp [*, errW_none, errW_some] <;> rfl), by repeat (first | (with_reducible first | exact HB.out | apply below_alloc | apply pw_below_drewN | apply below_drew1) | exact HB.out)⟩
                · rw [if_neg c10] at H
                  have c10b0 : (((rd_T43 l0 x6_1).f4).toList == a1.toList) = false := beq_eq_false_iff_ne.mpr c10
                  have c10b1 : (((rd_T43 l0 x6_1).f4).toList != a1.toList) = true := bne_iff_ne.mpr c10
                  have H' := Aside0.mk H
                  clear H
                  have p156 : 0 ≤ (x6_1 : Int) := of_decide_eq_true (by first | (with_reducible assumption) | assumption)
                  have q156 : x6_1 < (l0.length : Int) := of_decide_eq_true (by first | (with_reducible assumption) | assumption)
                  obtain ⟨ad156, e156, hx156_0, hx156_1, hx156_2, hx156_3, hx156_4⟩ := at_T43 HR0.out x6_1 p156 q156
                  cases e156
                  replace hx156_0 := (HB.out.cell (World.block_lt_of_cell? w _ hx156_0)).trans hx156_0
                  replace hx156_1 := (HB.out.cell (World.block_lt_of_cell? w _ hx156_1)).trans hx156_1
                  replace hx156_2 := (HB.out.cell (World.block_lt_of_cell? w _ hx156_2)).trans hx156_2
                  replace hx156_3 := (HB.out.cell (World.block_lt_of_cell? w _ hx156_3)).trans hx156_3
                  replace hx156_4 := (HB.out.cell (World.block_lt_of_cell? w _ hx156_4)).trans hx156_4
                  replace p156 := eq_true p156
                  replace q156 := eq_true q156
                  have p157 : 0 ≤ (x6_1 : Int) := of_decide_eq_true (by first | (with_reducible assumption) | assumption)
                  have q157 : x6_1 < (l0.length : Int) := of_decide_eq_true (by first | (with_reducible assumption) | assumption)
                  obtain ⟨ad157, e157, hx157_0, hx157_1, hx157_2, hx157_3, hx157_4⟩ := at_T43 HR0.out x6_1 p157 q157
                  obtain rfl : ad156 = ad157 := (by injection e157)
                  replace hx157_0 := (HB.out.cell (World.block_lt_of_cell? w _ hx157_0)).trans hx157_0
                  replace hx157_1 := (HB.out.cell (World.block_lt_of_cell? w _ hx157_1)).trans hx157_1
                  replace hx157_2 := (HB.out.cell (World.block_lt_of_cell? w _ hx157_2)).trans hx157_2
                  replace hx157_3 := (HB.out.cell (World.block_lt_of_cell? w _ hx157_3)).trans hx157_3
                  replace hx157_4 := (HB.out.cell (World.block_lt_of_cell? w _ hx157_4)).trans hx157_4
                  replace p157 := eq_true p157
                  replace q157 := eq_true q157
                  go_wp2
                  go_roundg k1
                  case measure => have := HK1.out; omega
                  case rel => exact ⟨(wrap64 (x6_1 - 1)), (by first | rfl | (simp; done) | (simp [*]; done)), H', ⟨by have := HK1.out; omega⟩, ⟨by repeat (first | (with_reducible first | exact HB.out | apply below_alloc | apply pw_below_drewN | apply below_drew1) | exact HB.out)⟩⟩
              · rw [if_neg c9] at H
                have c9b0 : (((rd_T43 l0 x6_1).f0) == 6) = false := beq_eq_false_iff_ne.mpr c9
                have c9b1 : (((rd_T43 l0 x6_1).f0) != 6) = true := bne_iff_ne.mpr c9
                have H' := Aside0.mk H
                clear H
                have p156 : 0 ≤ (x6_1 : Int) := of_decide_eq_true (by first | (with_reducible assumption) | assumption)
                have q156 : x6_1 < (l0.length : Int) := of_decide_eq_true (by first | (with_reducible assumption) | assumption)
                obtain ⟨ad156, e156, hx156_0, hx156_1, hx156_2, hx156_3, hx156_4⟩ := at_T43 HR0.out x6_1 p156 q156
                cases e156
                replace hx156_0 := (HB.out.cell (World.block_lt_of_cell? w _ hx156_0)).trans hx156_0
                replace hx156_1 := (HB.out.cell (World.block_lt_of_cell? w _ hx156_1)).trans hx156_1
                replace hx156_2 := (HB.out.cell (World.block_lt_of_cell? w _ hx156_2)).trans hx156_2
                replace hx156_3 := (HB.out.cell (World.block_lt_of_cell? w _ hx156_3)).trans hx156_3
                replace hx156_4 := (HB.out.cell (World.block_lt_of_cell? w _ hx156_4)).trans hx156_4
                replace p156 := eq_true p156
                replace q156 := eq_true q156
                go_wp2
                go_roundg k1
                case measure => have := HK1.out; omega
                case rel => exact ⟨(wrap64 (x6_1 - 1)), (by first | rfl | (simp; done) | (simp [*]; done)), H', ⟨by have := HK1.out; omega⟩, ⟨by repeat (first | (with_reducible first | exact HB.out | apply below_alloc | apply pw_below_drewN | apply below_drew1) | exact HB.out)⟩⟩
            · rw [if_neg c8] at H
              exact absurd H (by simp)
          · rw [if_neg c7] at H
            exact absurd H (by simp)
        · rw [if_neg c6] at H
          have c6b0 : decide (0 ≤ x6_1) = false := decide_eq_false c6
          clear c6
          simp only [Option.some.injEq, Prod.mk.injEq] at H
          obtain ⟨rfl, rfl⟩ := H
          go_wp2
          go_ret2
          exact ⟨by first | rfl | (simp [errW_none, errW_some] <;> rfl) | (simp [*, errW_none, errW_some] <;> rfl), by repeat (first | (with_reducible first | exact HB.out | apply below_alloc | apply pw_below_drewN | apply below_drew1) | exact HB.out)⟩
  · replace c4 := Bool.eq_false_iff.mpr c4
    subst c4
    have H1 : (some (0, 1)) = some (r1, r2) := by rw [if_neg (show ¬ (false = true) by decide)] at H; exact H
    clear H
    have H := H1
    clear H1
    simp only [Option.some.injEq, Prod.mk.injEq] at H
    obtain ⟨rfl, rfl⟩ := H
    go_enter Tryz.func19, Tryz.ntmps19
    go_wp2_with (first | ((with_reducible refine gate_callee (f := 25) rfl ?_); refine goesL_ (some 8) rfl rfl Tryz.func25 (by kernel_rfl) rfl #[.slice A0 l0.length c0] rfl (by (try simp only [List.map_toArray, List.map_cons, List.map_nil]); first | done | rfl | (simp only [List.length_drop, List.length_take]; rfl)) ?_; (with_reducible refine (ringworkref25_notes.calls k _ _ l0 false _ ?side1 ?side2 A3.out).mono ?_); (case side1 => repeat (first | exact HR0.out | (with_reducible refine Kd.C_alloc ?_ _) | (with_reducible refine Kd.C_drewN ?_ _) | (with_reducible refine Kd.C_drew ?_))); (case side2 => exact HC0.out); rintro e w11 ⟨rfl, hb⟩; refine ⟨_, rfl, ?_⟩; have n0_ := Aside0.mk (below_step (by repeat (first | (with_reducible first | exact HB.out | apply below_alloc | apply pw_below_drewN | apply below_drew1) | exact HB.out)) hb); clear HB; have HB := n0_; clear n0_; (try clear hb); (try clear hb2); (try clear hk); (try clear hi)))
    go_ret2
    exact ⟨by first | rfl | (simp [errW_none, errW_some] <;> rfl) | (simp [*, errW_none, errW_some] <;> rfl), by repeat (first | (with_reducible first | exact HB.out | apply below_alloc | apply pw_below_drewN | apply below_drew1) | exact HB.out)⟩

/-! ### ringworkref25_Cut: function 21 -/
def ringworkref25_Cut.f (k : Nat) (l0 : List (S43)) (a1 : Int) : Option ((List (S43)) × Int) := (ringworkref25_notes.f k l0).bind fun t158 => (if t158 = true then (if a1 < 0 then (some (([] : List (S43)), 7)) else (if a1 > (l0.length : Int) then (some (([] : List (S43)), 7)) else ((some (([] : List (S43)) : List (S43))).bind fun y159 => (if 0 ≤ a1 then (if a1 ≤ (l0.length : Int) then ((some (l0.take (a1 : Int).toNat : List (S43))).bind fun y162 => (if y159.length + y162.length < 2513169434916 then (some ((y159 ++ y162), 0)) else (none))) else (none)) else (none))))) else (some (([] : List (S43)), 1)))
set_option maxHeartbeats 8000000 in
set_option maxRecDepth 100000 in
theorem ringworkref25_Cut.calls (k : Nat) (A0 : Option Addr) (c0 : Nat) (l0 : List (S43)) (a1 : Int) (r1 : List (S43)) (r2 : Int) (w : World) (hr0 : Kd.C k43 w A0 l0.length l0) (hc0 : l0.length ≤ c0) (h : ringworkref25_Cut.f k l0 a1 = some (r1, r2)) :
    Calls Tryz.prog 21 #[.slice A0 l0.length c0, .int .i64 a1] w fun e w' => ∃ v0_ : Value, e = .returned (.tuple #[v0_, .int .i64 r2]) ∧ Kd.R k43 43 w' w.heap.size (fun _ => True) v0_ r1 ∧ Below w.heap.size w w' := by
  have HR0 := Aside0.mk hr0
  have HC0 := Aside0.mk hc0
  clear hr0 hc0
  have HB := Aside0.mk (Below.refl w.heap.size w)
  have H : ((ringworkref25_notes.f k l0).bind fun t158 => (if t158 = true then (if a1 < 0 then (some (([] : List (S43)), 7)) else (if a1 > (l0.length : Int) then (some (([] : List (S43)), 7)) else ((some (([] : List (S43)) : List (S43))).bind fun y159 => (if 0 ≤ a1 then (if a1 ≤ (l0.length : Int) then ((some (l0.take (a1 : Int).toNat : List (S43))).bind fun y162 => (if y159.length + y162.length < 2513169434916 then (some ((y159 ++ y162), 0)) else (none))) else (none)) else (none))))) else (some (([] : List (S43)), 1)))) = some (r1, r2) := h
  clear h
  replace H := Option.bind_eq_some_iff.mp H
  obtain ⟨t158, A30, H⟩ := H
  replace H : (if t158 = true then (if a1 < 0 then (some (([] : List (S43)), 7)) else (if a1 > (l0.length : Int) then (some (([] : List (S43)), 7)) else ((some (([] : List (S43)) : List (S43))).bind fun y159 => (if 0 ≤ a1 then (if a1 ≤ (l0.length : Int) then ((some (l0.take (a1 : Int).toNat : List (S43))).bind fun y162 => (if y159.length + y162.length < 2513169434916 then (some ((y159 ++ y162), 0)) else (none))) else (none)) else (none))))) else (some (([] : List (S43)), 1))) = some (r1, r2) := H
  have A3 := Aside0.mk A30
  clear A30
  by_cases c4 : t158 = true
  · subst c4
    have H1 : (if a1 < 0 then (some (([] : List (S43)), 7)) else (if a1 > (l0.length : Int) then (some (([] : List (S43)), 7)) else ((some (([] : List (S43)) : List (S43))).bind fun y159 => (if 0 ≤ a1 then (if a1 ≤ (l0.length : Int) then ((some (l0.take (a1 : Int).toNat : List (S43))).bind fun y162 => (if y159.length + y162.length < 2513169434916 then (some ((y159 ++ y162), 0)) else (none))) else (none)) else (none))))) = some (r1, r2) := by rw [if_pos rfl] at H; exact H
    clear H
    have H := H1
    clear H1
    by_cases c5 : a1 < 0
    · rw [if_pos c5] at H
      have c5b0 : decide (a1 < 0) = true := decide_eq_true c5
      clear c5
      simp only [Option.some.injEq, Prod.mk.injEq] at H
      obtain ⟨rfl, rfl⟩ := H
      go_enter Tryz.func21, Tryz.ntmps21
      go_wp2_with (first | ((with_reducible refine gate_callee (f := 25) rfl ?_); refine goesL_ (some 8) rfl rfl Tryz.func25 (by kernel_rfl) rfl #[.slice A0 l0.length c0] rfl (by (try simp only [List.map_toArray, List.map_cons, List.map_nil]); first | done | rfl | (simp only [List.length_drop, List.length_take]; rfl)) ?_; (with_reducible refine (ringworkref25_notes.calls k _ _ l0 true _ ?side1 ?side2 A3.out).mono ?_); (case side1 => repeat (first | exact HR0.out | (with_reducible refine Kd.C_alloc ?_ _) | (with_reducible refine Kd.C_drewN ?_ _) | (with_reducible refine Kd.C_drew ?_))); (case side2 => exact HC0.out); rintro e w6 ⟨rfl, hb⟩; refine ⟨_, rfl, ?_⟩; have n0_ := Aside0.mk (below_step (by repeat (first | (with_reducible first | exact HB.out | apply below_alloc | apply pw_below_drewN | apply below_drew1) | exact HB.out)) hb); clear HB; have HB := n0_; clear n0_; (try clear hb); (try clear hb2); (try clear hk); (try clear hi)))
      go_ret2
      exact ⟨_, by first | rfl | (simp [errW_none, errW_some] <;> rfl) | (simp [*, errW_none, errW_some] <;> rfl), by first | exact Kd.R_nil _ _ _ _ _ | exact Kd.N_nil _ _ _ _ _ | exact Kd.V_nil _ _ _ _ _ | exact Kd.Q_nil _ _ _ _ _ | exact Kd.S_nil _ _ _ _ _, by repeat (first | (with_reducible first | exact HB.out | apply below_alloc | apply pw_below_drewN | apply below_drew1) | exact HB.out)⟩
    · rw [if_neg c5] at H
      have c5b0 : decide (a1 < 0) = false := decide_eq_false c5
      clear c5
      by_cases c7 : a1 > (l0.length : Int)
      · rw [if_pos c7] at H
        have c7b0 : decide ((l0.length : Int) < a1) = true := decide_eq_true c7
        clear c7
        simp only [Option.some.injEq, Prod.mk.injEq] at H
        obtain ⟨rfl, rfl⟩ := H
        go_enter Tryz.func21, Tryz.ntmps21
        go_wp2_with (first | ((with_reducible refine gate_callee (f := 25) rfl ?_); refine goesL_ (some 8) rfl rfl Tryz.func25 (by kernel_rfl) rfl #[.slice A0 l0.length c0] rfl (by (try simp only [List.map_toArray, List.map_cons, List.map_nil]); first | done | rfl | (simp only [List.length_drop, List.length_take]; rfl)) ?_; (with_reducible refine (ringworkref25_notes.calls k _ _ l0 true _ ?side1 ?side2 A3.out).mono ?_); (case side1 => repeat (first | exact HR0.out | (with_reducible refine Kd.C_alloc ?_ _) | (with_reducible refine Kd.C_drewN ?_ _) | (with_reducible refine Kd.C_drew ?_))); (case side2 => exact HC0.out); rintro e w8 ⟨rfl, hb⟩; refine ⟨_, rfl, ?_⟩; have n0_ := Aside0.mk (below_step (by repeat (first | (with_reducible first | exact HB.out | apply below_alloc | apply pw_below_drewN | apply below_drew1) | exact HB.out)) hb); clear HB; have HB := n0_; clear n0_; (try clear hb); (try clear hb2); (try clear hk); (try clear hi)))
        go_ret2
        exact ⟨_, by first | rfl | (simp [errW_none, errW_some] <;> rfl) | (simp [*, errW_none, errW_some] <;> rfl), by first | exact Kd.R_nil _ _ _ _ _ | exact Kd.N_nil _ _ _ _ _ | exact Kd.V_nil _ _ _ _ _ | exact Kd.Q_nil _ _ _ _ _ | exact Kd.S_nil _ _ _ _ _, by repeat (first | (with_reducible first | exact HB.out | apply below_alloc | apply pw_below_drewN | apply below_drew1) | exact HB.out)⟩
      · rw [if_neg c7] at H
        have c7b0 : decide ((l0.length : Int) < a1) = false := decide_eq_false c7
        clear c7
        obtain ⟨y159, hy159⟩ : ∃ y_ : List (S43), y_ = (([] : List (S43))) := ⟨_, rfl⟩
        replace H : (if 0 ≤ a1 then (if a1 ≤ (l0.length : Int) then ((some (l0.take (a1 : Int).toNat : List (S43))).bind fun y162 => (if y159.length + y162.length < 2513169434916 then (some ((y159 ++ y162), 0)) else (none))) else (none)) else (none)) = some (r1, r2) := by first | (rw [hy159]; with_reducible exact H) | (have H2_ := (Option.bind_some _ _).symm.trans H; rw [hy159]; with_reducible exact H2_) | (have H2_ := (Option.bind_some _ _).symm.trans H; with_reducible exact H2_) | with_reducible exact H | (rw [hy159]; exact H) | exact H
        have Ny159 := Aside0.mk hy159
        clear hy159
        by_cases c9 : 0 ≤ a1
        · rw [if_pos c9] at H
          have c9b0 := eq_true c9
          have c9b1 : decide (0 ≤ a1) = true := decide_eq_true c9
          clear c9
          by_cases c10 : a1 ≤ (l0.length : Int)
          · rw [if_pos c10] at H
            have c10b0 := eq_true c10
            have c10b1 : decide (a1 ≤ (l0.length : Int)) = true := decide_eq_true c10
            clear c10
            obtain ⟨y162, hy162⟩ : ∃ y_ : List (S43), y_ = (l0.take (a1 : Int).toNat) := ⟨_, rfl⟩
            replace H : (if y159.length + y162.length < 2513169434916 then (some ((y159 ++ y162), 0)) else (none)) = some (r1, r2) := by first | (rw [hy162]; with_reducible exact H) | (have H2_ := (Option.bind_some _ _).symm.trans H; rw [hy162]; with_reducible exact H2_) | (have H2_ := (Option.bind_some _ _).symm.trans H; with_reducible exact H2_) | with_reducible exact H | (rw [hy162]; exact H) | exact H
            have Ny162 := Aside0.mk hy162
            clear hy162
            by_cases c11 : y159.length + y162.length < 2513169434916
            · rw [if_pos c11] at H
              have LMc11 := Aside0.mk c11
              clear c11
              obtain ⟨y166, hy166⟩ : ∃ y_ : List (S43), y_ = (y159 ++ y162) := ⟨_, rfl⟩
              replace H : (some (y166, 0)) = some (r1, r2) := by first | (rw [hy166]; with_reducible exact H) | (have H2_ := (Option.bind_some _ _).symm.trans H; rw [hy166]; with_reducible exact H2_) | (have H2_ := (Option.bind_some _ _).symm.trans H; with_reducible exact H2_) | with_reducible exact H | (rw [hy166]; exact H) | exact H
              have Ny166 := Aside0.mk hy166
              clear hy166
              simp only [Option.some.injEq, Prod.mk.injEq] at H
              obtain ⟨rfl, rfl⟩ := H
              go_enter Tryz.func21, Tryz.ntmps21
              go_wp2_with (first | ((with_reducible refine gate_callee (f := 25) rfl ?_); refine goesL_ (some 8) rfl rfl Tryz.func25 (by kernel_rfl) rfl #[.slice A0 l0.length c0] rfl (by (try simp only [List.map_toArray, List.map_cons, List.map_nil]); first | done | rfl | (simp only [List.length_drop, List.length_take]; rfl)) ?_; (with_reducible refine (ringworkref25_notes.calls k _ _ l0 true _ ?side1 ?side2 A3.out).mono ?_); (case side1 => repeat (first | exact HR0.out | (with_reducible refine Kd.C_alloc ?_ _) | (with_reducible refine Kd.C_drewN ?_ _) | (with_reducible refine Kd.C_drew ?_))); (case side2 => exact HC0.out); rintro e w12 ⟨rfl, hb⟩; refine ⟨_, rfl, ?_⟩; have n0_ := Aside0.mk (below_step (by repeat (first | (with_reducible first | exact HB.out | apply below_alloc | apply pw_below_drewN | apply below_drew1) | exact HB.out)) hb); clear HB; have HB := n0_; clear n0_; (try clear hb); (try clear hb2); (try clear hk); (try clear hi)) | ((with_reducible refine gate_dst (N := 19) rfl ?_); (try (refine gate_guard (by rfl) ?_; dsimp only)); refine Kd.R_lit k43 _ 43 ?hg (N := 19) ?hd (xs := ([] : List (S43))) (inner := []) (ok := fun _ => True) (okp := fun _ => True) ?hr ?hp (fun _ hk => hk) trivial (Below.refl _ _) (Nat.le_refl _) (by simp) ?_; (case hd => rfl); (case hg => rfl); (case hr => first | (go_simp; done) | (go_simp; rfl)); (case hp => exact (Reps.none _ _)); intro v160 w13 ho14 hb hg_ hnew_; clear hg_ hnew_; (first | rw [← Ny159.out] at ho14 | (simp only [Int.reduceToNat] at ho14; rw [← Ny159.out] at ho14)); have n0_ := Aside0.mk (Kd.R_lower ho14 (below_size (by repeat (first | (with_reducible first | exact HB.out | apply below_alloc | apply pw_below_drewN | apply below_drew1) | exact HB.out)))); have n1_ := Aside0.mk (below_step (by repeat (first | (with_reducible first | exact HB.out | apply below_alloc | apply pw_below_drewN | apply below_drew1) | exact HB.out)) hb); clear HB; have HO161 := n0_; have HB := n1_; clear n0_ n1_; clear hb ho14; have q15 : (a1 : Int) ≤ ((l0.length : Int) : Int) := of_decide_eq_true (by first | (with_reducible assumption) | assumption); obtain ⟨i015, hi015, _, hsz15, _⟩ := info_parts info43; have hroom15 : l0.length ≤ c0 := HC0.out; have hC15 : Kd.C k43 _ A0 l0.length l0 := HR0.out; have hcut15 := cut_to (P := Tryz.prog) 22 43 .i64 Tryz.underlying22 hi015 A0 l0.length c0 a1 (of_decide_eq_true (by first | (with_reducible assumption) | assumption)) q15 hroom15; have hr15 := Kd.C_take (m := (a1 : Int).toNat) hC15 (by omega); have hy15 : y162.length = (a1 : Int).toNat := (by rw [Ny162.out, List.length_take]; omega); rw [← Ny162.out] at hr15; rw [← hy15] at hcut15; have HR165 := Aside0.mk hr15; have HC165 := Aside0.mk (show y162.length ≤ c0 from by omega); clear hr15 hC15 hroom15 hi015 hsz15; have KY15 := Aside0.mk hy15; clear hy15; replace q15 := eq_true q15) | ((with_reducible refine gate_builtin (b := .append) (xs := #[.tmp 19, .tmp 22]) rfl ?_); (try (refine gate_guard (by rfl) ?_; dsimp only)); at_builtin; refine Kd.R_append_rows k43 (w0 := w) w.heap.size rfl (.tmp 19) (.tmp 22) 22 43 (.agg #[(.int .i64 0), (.int .i64 0), (.string ⟨#[]⟩), (.bool false), (.string ⟨#[]⟩)]) 56 rfl Tryz.underlying22 info43 rfl (by decide) (by omega) v160 y159 y162 _ _ _ (fun _ => True) (fun _ => False) rfl rfl ?aO ?aR (fun _ _ h => h) (fun _ h => h.elim) ?aF ?aB ?aS ?aL ?_; (case aR => repeat (first | exact (Kd.C_below HR165.out HB.out) | (with_reducible refine Kd.C_alloc ?_ _) | (with_reducible refine Kd.C_drewN ?_ _) | (with_reducible refine Kd.C_drew ?_))); (case aB => exact (by repeat (first | (with_reducible first | exact HB.out | apply below_alloc | apply pw_below_drewN | apply below_drew1) | exact HB.out))); (case aF => exact (fun _ _ => trivial)); (case aO => exact (by (with_reducible repeat (first | apply Kd.R_alloc | apply Kd.R_drewN | apply Kd.R_drew)); exact HO161.out)); (case aS => exact (below_size (by repeat (first | (with_reducible first | exact HB.out | apply below_alloc | apply pw_below_drewN | apply below_drew1) | exact HB.out)))); (case aL => have := LMc11.out; omega); intro v167 w16 ho hb hg hat; rw [← Ny166.out] at ho; have n0_ := Aside0.mk (hb); have n1_ := Aside0.mk (ho); clear HB; clear HO161; have HB := n0_; have HO168 := n1_; clear n0_ n1_; clear ho hb hg hat))
              go_ret2
              exact ⟨_, by first | rfl | (simp [errW_none, errW_some] <;> rfl) | (simp [*, errW_none, errW_some] <;> rfl), by (with_reducible repeat (first | apply Kd.R_alloc | apply Kd.R_drewN | apply Kd.R_drew)); exact HO168.out, by repeat (first | (with_reducible first | exact HB.out | apply below_alloc | apply pw_below_drewN | apply below_drew1) | exact HB.out)⟩
            · rw [if_neg c11] at H
              exact absurd H (by simp)
          · rw [if_neg c10] at H
            exact absurd H (by simp)
        · rw [if_neg c9] at H
          exact absurd H (by simp)
  · replace c4 := Bool.eq_false_iff.mpr c4
    subst c4
    have H1 : (some (([] : List (S43)), 1)) = some (r1, r2) := by rw [if_neg (show ¬ (false = true) by decide)] at H; exact H
    clear H
    have H := H1
    clear H1
    simp only [Option.some.injEq, Prod.mk.injEq] at H
    obtain ⟨rfl, rfl⟩ := H
    go_enter Tryz.func21, Tryz.ntmps21
    go_wp2_with (first | ((with_reducible refine gate_callee (f := 25) rfl ?_); refine goesL_ (some 8) rfl rfl Tryz.func25 (by kernel_rfl) rfl #[.slice A0 l0.length c0] rfl (by (try simp only [List.map_toArray, List.map_cons, List.map_nil]); first | done | rfl | (simp only [List.length_drop, List.length_take]; rfl)) ?_; (with_reducible refine (ringworkref25_notes.calls k _ _ l0 false _ ?side1 ?side2 A3.out).mono ?_); (case side1 => repeat (first | exact HR0.out | (with_reducible refine Kd.C_alloc ?_ _) | (with_reducible refine Kd.C_drewN ?_ _) | (with_reducible refine Kd.C_drew ?_))); (case side2 => exact HC0.out); rintro e w17 ⟨rfl, hb⟩; refine ⟨_, rfl, ?_⟩; have n0_ := Aside0.mk (below_step (by repeat (first | (with_reducible first | exact HB.out | apply below_alloc | apply pw_below_drewN | apply below_drew1) | exact HB.out)) hb); clear HB; have HB := n0_; clear n0_; (try clear hb); (try clear hb2); (try clear hk); (try clear hi)))
    go_ret2
    exact ⟨_, by first | rfl | (simp [errW_none, errW_some] <;> rfl) | (simp [*, errW_none, errW_some] <;> rfl), by first | exact Kd.R_nil _ _ _ _ _ | exact Kd.N_nil _ _ _ _ _ | exact Kd.V_nil _ _ _ _ _ | exact Kd.Q_nil _ _ _ _ _ | exact Kd.S_nil _ _ _ _ _, by repeat (first | (with_reducible first | exact HB.out | apply below_alloc | apply pw_below_drewN | apply below_drew1) | exact HB.out)⟩

/-! ### ringworkref25_SameNotes: function 22 -/
def ringworkref25_SameNotes.l0 : Nat → List (S43) → List (S43) → Int → Option (Bool)
  | 0, _, _, _ => none
  | k + 1, x0, x1, x5 => if x5 < (x0.length : Int) then (if 0 ≤ x5 then (if x5 < (x1.length : Int) then (if (!(((rd_T43 x0 x5).f0) == ((rd_T43 x1 x5).f0)) || (!(((rd_T43 x0 x5).f1) == ((rd_T43 x1 x5).f1)) || (!((((rd_T43 x0 x5).f2).toList) == (((rd_T43 x1 x5).f2).toList)) || (!(((rd_T43 x0 x5).f3) == ((rd_T43 x1 x5).f3)) || (!((((rd_T43 x0 x5).f4).toList) == (((rd_T43 x1 x5).f4).toList))))))) = true then (some false) else (ringworkref25_SameNotes.l0 k x0 x1 (wrap64 (x5 + 1)))) else (none)) else (none)) else (some true)
def ringworkref25_SameNotes.f (k : Nat) (l0 : List (S43)) (l1 : List (S43)) : Option (Bool) := if (l0.length : Int) = (l1.length : Int) then (ringworkref25_SameNotes.l0 k l0 l1 0) else (some false)
set_option maxHeartbeats 8000000 in
set_option maxRecDepth 100000 in
theorem ringworkref25_SameNotes.calls (k : Nat) (A0 : Option Addr) (c0 : Nat) (l0 : List (S43)) (A1 : Option Addr) (c1 : Nat) (l1 : List (S43)) (r : Bool) (w : World) (hr0 : Kd.C k43 w A0 l0.length l0) (hc0 : l0.length ≤ c0) (hr1 : Kd.C k43 w A1 l1.length l1) (hc1 : l1.length ≤ c1) (h : ringworkref25_SameNotes.f k l0 l1 = some r) :
    Calls Tryz.prog 22 #[.slice A0 l0.length c0, .slice A1 l1.length c1] w fun e w' => e = .returned (.bool r) ∧ Drawn0 w w' := by
  have hu43 := Tryz.underlying43
  have HR0 := Aside0.mk hr0
  have HC0 := Aside0.mk hc0
  clear hr0 hc0
  have HR1 := Aside0.mk hr1
  have HC1 := Aside0.mk hc1
  clear hr1 hc1
  have H : (if (l0.length : Int) = (l1.length : Int) then (ringworkref25_SameNotes.l0 k l0 l1 0) else (some false)) = some r := h
  clear h
  by_cases c3 : (l0.length : Int) = (l1.length : Int)
  · rw [if_pos c3] at H
    have c3b0 : ((l0.length : Int) == (l1.length : Int)) = true := beq_iff_eq.mpr c3
    have c3b1 : ((l0.length : Int) != (l1.length : Int)) = false := bne_eq_false_iff_eq.mpr c3
    have c3b2 : (l0.length == l1.length) = true := by first | simpa using c3 | (simp at c3 ⊢; omega)
    clear c3
    have H' := Aside0.mk H
    clear H
    go_enter Tryz.func22, Tryz.ntmps22
    go_wp2
    repeat (go_quiet (fail); try go_wp2)
    go_loopg [5] k (fun kq v5 w' => ∃ (x5_1 : Int), v5 = .int .i64 x5_1 ∧ Aside0 (ringworkref25_SameNotes.l0 kq l0 l1 x5_1 = some r) ∧ Aside0 (kq ≤ k) ∧ Drawn0 w w')
    case atStart => exact ⟨(0), (by first | rfl | (simp; done) | (simp [*]; done)), H', ⟨Nat.le_refl _⟩, by repeat (first | exact Drawn0.refl _ | apply Drawn0.step)⟩
    case round =>
      clear H'
      try clear c1
      try clear c2
      try clear p2
      try clear c3
      try clear c3b0
      try clear c3b1
      try clear c3b2
      obtain ⟨x5_1, rfl, HA, HK1, ⟨m1, rfl⟩⟩ := hrel
      cases gk with
      | zero => exact absurd HA.out (by simp [ringworkref25_SameNotes.l0])
      | succ k1 =>
        have H := HA.out
        clear HA
        simp only [ringworkref25_SameNotes.l0] at H
        by_cases c4 : x5_1 < (l0.length : Int)
        · rw [if_pos c4] at H
          have c4b0 : decide (x5_1 < (l0.length : Int)) = true := decide_eq_true c4
          clear c4
          by_cases c5 : 0 ≤ x5_1
          · rw [if_pos c5] at H
            have c5b0 : decide (0 ≤ x5_1) = true := decide_eq_true c5
            clear c5
            by_cases c6 : x5_1 < (l1.length : Int)
            · rw [if_pos c6] at H
              have c6b0 : decide (x5_1 < (l1.length : Int)) = true := decide_eq_true c6
              clear c6
              by_cases c7 : (!(((rd_T43 l0 x5_1).f0) == ((rd_T43 l1 x5_1).f0)) || (!(((rd_T43 l0 x5_1).f1) == ((rd_T43 l1 x5_1).f1)) || (!((((rd_T43 l0 x5_1).f2).toList) == (((rd_T43 l1 x5_1).f2).toList)) || (!(((rd_T43 l0 x5_1).f3) == ((rd_T43 l1 x5_1).f3)) || (!((((rd_T43 l0 x5_1).f4).toList) == (((rd_T43 l1 x5_1).f4).toList))))))) = true
              · rw [if_pos c7] at H
                have c7b0 : (!(((rd_T43 l0 x5_1).f0) == ((rd_T43 l1 x5_1).f0)) || (!(((rd_T43 l0 x5_1).f1) == ((rd_T43 l1 x5_1).f1)) || (!((((rd_T43 l0 x5_1).f2).toList) == (((rd_T43 l1 x5_1).f2).toList)) || (!(((rd_T43 l0 x5_1).f3) == ((rd_T43 l1 x5_1).f3)) || (!((((rd_T43 l0 x5_1).f4).toList) == (((rd_T43 l1 x5_1).f4).toList))))))) = true := c7
                clear c7
                obtain rfl := Option.some.inj H
                have p169 : 0 ≤ (x5_1 : Int) := of_decide_eq_true (by first | (with_reducible assumption) | assumption)
                have q169 : x5_1 < (l0.length : Int) := of_decide_eq_true (by first | (with_reducible assumption) | assumption)
                obtain ⟨ad169, e169, hx169_0, hx169_1, hx169_2, hx169_3, hx169_4⟩ := at_T43 HR0.out x5_1 p169 q169
                cases e169
                replace p169 := eq_true p169
                replace q169 := eq_true q169
                have p170 : 0 ≤ (x5_1 : Int) := of_decide_eq_true (by first | (with_reducible assumption) | assumption)
                have q170 : x5_1 < (l1.length : Int) := of_decide_eq_true (by first | (with_reducible assumption) | assumption)
                obtain ⟨ad170, e170, hx170_0, hx170_1, hx170_2, hx170_3, hx170_4⟩ := at_T43 HR1.out x5_1 p170 q170
                cases e170
                replace p170 := eq_true p170
                replace q170 := eq_true q170
                go_wp2
                repeat (go_quiet (fail); try go_wp2)
                go_ret
                exact ⟨by first | rfl | (simp; done) | (simp [*]; done), by repeat (first | exact Drawn0.refl _ | apply Drawn0.step)⟩
              · rw [if_neg c7] at H
                have c7b0 : (!(((rd_T43 l0 x5_1).f0) == ((rd_T43 l1 x5_1).f0)) || (!(((rd_T43 l0 x5_1).f1) == ((rd_T43 l1 x5_1).f1)) || (!((((rd_T43 l0 x5_1).f2).toList) == (((rd_T43 l1 x5_1).f2).toList)) || (!(((rd_T43 l0 x5_1).f3) == ((rd_T43 l1 x5_1).f3)) || (!((((rd_T43 l0 x5_1).f4).toList) == (((rd_T43 l1 x5_1).f4).toList))))))) = false := by simpa using c7
                clear c7
                have H' := Aside0.mk H
                clear H
                have p169 : 0 ≤ (x5_1 : Int) := of_decide_eq_true (by first | (with_reducible assumption) | assumption)
                have q169 : x5_1 < (l0.length : Int) := of_decide_eq_true (by first | (with_reducible assumption) | assumption)
                obtain ⟨ad169, e169, hx169_0, hx169_1, hx169_2, hx169_3, hx169_4⟩ := at_T43 HR0.out x5_1 p169 q169
                cases e169
                replace p169 := eq_true p169
                replace q169 := eq_true q169
                have p170 : 0 ≤ (x5_1 : Int) := of_decide_eq_true (by first | (with_reducible assumption) | assumption)
                have q170 : x5_1 < (l1.length : Int) := of_decide_eq_true (by first | (with_reducible assumption) | assumption)
                obtain ⟨ad170, e170, hx170_0, hx170_1, hx170_2, hx170_3, hx170_4⟩ := at_T43 HR1.out x5_1 p170 q170
                cases e170
                replace p170 := eq_true p170
                replace q170 := eq_true q170
                go_wp2
                repeat (go_quiet (fail); try go_wp2)
                go_roundg k1
                case measure => have := HK1.out; omega
                case rel => exact ⟨(wrap64 (x5_1 + 1)), (by first | rfl | (simp; done) | (simp [*]; done)), H', ⟨by have := HK1.out; omega⟩, by repeat (first | exact Drawn0.refl _ | apply Drawn0.step)⟩
            · rw [if_neg c6] at H
              exact absurd H (by simp)
          · rw [if_neg c5] at H
            exact absurd H (by simp)
        · rw [if_neg c4] at H
          have c4b0 : decide (x5_1 < (l0.length : Int)) = false := decide_eq_false c4
          clear c4
          obtain rfl := Option.some.inj H
          go_wp2
          repeat (go_quiet (fail); try go_wp2)
          go_ret
          exact ⟨by first | rfl | (simp; done) | (simp [*]; done), by repeat (first | exact Drawn0.refl _ | apply Drawn0.step)⟩
  · rw [if_neg c3] at H
    have c3b0 : ((l0.length : Int) == (l1.length : Int)) = false := beq_eq_false_iff_ne.mpr c3
    have c3b1 : ((l0.length : Int) != (l1.length : Int)) = true := bne_iff_ne.mpr c3
    have c3b2 : (l0.length == l1.length) = false := by first | simpa using c3 | (simp at c3 ⊢; omega)
    obtain rfl := Option.some.inj H
    go_enter Tryz.func22, Tryz.ntmps22
    go_wp2
    repeat (go_quiet (fail); try go_wp2)
    go_ret
    exact ⟨by first | rfl | (simp; done) | (simp [*]; done), by repeat (first | exact Drawn0.refl _ | apply Drawn0.step)⟩

end Go.Proofs.YteblpjnkinghoaaGreat.J
/- The contract of the reference's applied, for every two slices of images. -/
namespace Go.Proofs.YteblpjnkinghoaaGreat.J
open Go.BigFrame Go.RowKit Go.Proofs.YteblpjnkinghoaaGreatW.PrintWords Go.Proofs.YteblpjnkinghoaaGreatW.PrintLast Go.Proofs.YteblpjnkinghoaaGreatW.PrintMore
/-- Whether a key stands before another. -/
def kless (a b : ByteArray) : Bool := Op.bytesLess a.toList b.toList
/-- What stands behind an image's place, without one of its key. -/
def apRest (x : S48) : List S48 → List S48
  | [] => []
  | y :: r => if y.f0 = x.f0 then r else y :: r
/-- One image done to a state. -/
def apStep (cur : List S48) (x : S48) : List S48 :=
  cur.takeWhile (fun y => kless y.f0 x.f0) ++ (if x.f1 = true then [x] else []) ++ apRest x (cur.dropWhile (fun y => kless y.f0 x.f0))
theorem R_lit0 (W : World) (base : Nat) (ok : Nat → Prop) (hb : base ≤ W.heap.size) (hk : ok W.heap.size) : Kd.R k48 48 (W.alloc (.cells #[] 48)) base ok (.slice (some ⟨W.heap.size, 0, none⟩) 0 0) [] :=
  ⟨fun k h => by cases h; exact hk, [], World.ownsRow_lit (base := base) (e := 48) (size := 3) W #[] 0 hb (by decide) rfl, Reps.none _ _⟩
theorem R_C48 {e w base} {ok : Nat → Prop} {A : Option Addr} {n c : Nat} {xs : List S48} (h : Kd.R k48 e w base ok (.slice A n c) xs) : Kd.C k48 w A xs.length xs ∧ n = xs.length ∧ xs.length ≤ c := by
  obtain ⟨A', c', he, hl, hc⟩ := Kd.R_reads h
  injection he with h1 h2 h3
  subst h1; subst h2; subst h3
  exact ⟨hc, rfl, hl⟩
theorem k48_KM {w : World} (w' : World) (base : Nat) (ok : Nat → Prop) (x : S48) (cs : List Value) (h : k48.K w x cs) : k48.M w' base ok x cs := by
  rw [k48_open h]; exact k48_mkM _ _ _ x
theorem tw_take (p : S48 → Bool) (l : List S48) : l.take (l.takeWhile p).length = l.takeWhile p := by
  induction l with
  | nil => rfl
  | cons a l ih =>
    rw [List.takeWhile_cons]
    split
    · simp [ih]
    · rfl
theorem tw_drop (p : S48 → Bool) (l : List S48) : l.drop (l.takeWhile p).length = l.dropWhile p := by
  induction l with
  | nil => rfl
  | cons a l ih =>
    rw [List.takeWhile_cons, List.dropWhile_cons]
    split
    · simp [ih]
    · rfl
theorem tw_at (p : S48 → Bool) : ∀ (l : List S48) (k : Nat), k < (l.takeWhile p).length → p (rd_T48 l (k : Int)) = true
  | [], k, h => by simp at h
  | a :: l, k, h => by
    rw [List.takeWhile_cons] at h
    by_cases hp : p a = true
    · rw [if_pos hp] at h
      cases k with
      | zero => exact hp
      | succ k =>
        have := tw_at p l k (by simpa using h)
        have e : rd_T48 (a :: l) ((k + 1 : Nat) : Int) = rd_T48 l (k : Int) := by unfold rd_T48; rw [Int.toNat_natCast, Int.toNat_natCast]; rfl
        rw [e]; exact this
    · rw [if_neg hp] at h; simp at h
theorem tw_end (p : S48 → Bool) : ∀ (l : List S48), (l.takeWhile p).length < l.length → p (rd_T48 l ((l.takeWhile p).length : Int)) = false
  | [], h => by simp at h
  | a :: l, h => by
    rw [List.takeWhile_cons] at h ⊢
    by_cases hp : p a = true
    · rw [if_pos hp] at h ⊢
      have := tw_end p l (by simpa using h)
      have e : rd_T48 (a :: l) (((a :: l.takeWhile p).length : Nat) : Int) = rd_T48 l ((l.takeWhile p).length : Int) := by unfold rd_T48; rw [Int.toNat_natCast, Int.toNat_natCast]; rfl
      rw [e]; exact this
    · rw [if_neg hp]
      exact Bool.eq_false_iff.2 hp
theorem tw_le (p : S48 → Bool) (l : List S48) : (l.takeWhile p).length ≤ l.length := by
  induction l with
  | nil => simp
  | cons a l ih => rw [List.takeWhile_cons]; split <;> simp; exact ih
theorem apStep_le (cur : List S48) (x : S48) : (apStep cur x).length ≤ cur.length + 1 := by
  unfold apStep
  have h1 := congrArg List.length (List.takeWhile_append_dropWhile (p := fun y => kless y.f0 x.f0) (l := cur))
  rw [List.length_append] at h1
  rw [List.length_append, List.length_append]
  have h2 : (if x.f1 = true then [x] else []).length ≤ 1 := by split <;> simp
  have h3 : (apRest x (cur.dropWhile (fun y => kless y.f0 x.f0))).length ≤ (cur.dropWhile (fun y => kless y.f0 x.f0)).length := by
    cases cur.dropWhile (fun y => kless y.f0 x.f0) with
    | nil => exact Nat.le_refl _
    | cons y r => show (if y.f0 = x.f0 then r else y :: r).length ≤ (y :: r).length; split <;> simp
  omega
end Go.Proofs.YteblpjnkinghoaaGreat.J
/- Rows of images as the cells of one block: what stores, copies, appends and clears do to them. -/
namespace Go.Proofs.YteblpjnkinghoaaGreat.J
open Go.BigFrame Go.RowKit Go.Proofs.YteblpjnkinghoaaGreatW.PrintWords Go.Proofs.YteblpjnkinghoaaGreatW.PrintLast Go.Proofs.YteblpjnkinghoaaGreatW.PrintMore
/-- An image's three cells. -/
def cells3 (x : S48) : List Value := [.string x.f0, .bool x.f1, .string x.f2]
def flat (l : List S48) : List Value := l.flatMap cells3
theorem flat_cons (x : S48) (l : List S48) : flat (x :: l) = cells3 x ++ flat l := rfl
theorem flat_append (a b : List S48) : flat (a ++ b) = flat a ++ flat b := by simp [flat]
theorem flat_length (l : List S48) : (flat l).length = l.length * 3 := by
  induction l with
  | nil => rfl
  | cons x l ih => rw [flat_cons, List.length_append, ih]; simp [cells3]; omega
theorem flat_one (l : List S48) : ∀ u ∈ flat l, u.oneCell' = true := by
  intro u hu
  obtain ⟨x, _, hx⟩ := List.mem_flatMap.1 hu
  simp [cells3] at hx
  rcases hx with rfl | rfl | rfl <;> rfl
theorem flat_take (l : List S48) (k : Nat) : (flat l).take (k * 3) = flat (l.take k) := by
  induction l generalizing k with
  | nil => simp [flat]
  | cons x l ih =>
    cases k with
    | zero => simp [flat]
    | succ k =>
      rw [flat_cons, List.take_succ_cons, flat_cons, ← ih k, show (k + 1) * 3 = k * 3 + 1 + 1 + 1 by omega]
      simp [cells3]
theorem flat_drop (l : List S48) (k : Nat) : (flat l).drop (k * 3) = flat (l.drop k) := by
  induction l generalizing k with
  | nil => simp [flat]
  | cons x l ih =>
    cases k with
    | zero => simp
    | succ k =>
      rw [flat_cons, List.drop_succ_cons, ← ih k, show (k + 1) * 3 = k * 3 + 1 + 1 + 1 by omega]
      simp [cells3]
/-- An own row's cells: its images, then what is spare. -/
def Im (w : World) (g cap : Nat) (cs : List Value) : Prop := w.heap[g]? = some (.cells cs.toArray 48) ∧ cs.length = cap * 3 ∧ cap ≤ maxLen
theorem reps_flat {w : World} {base : Nat} {ok : Nat → Prop} : ∀ (xs : List S48) (inner : List Value), Reps (k48.M w base ok) 3 xs inner → inner = flat xs
  | [], inner, h => List.eq_nil_of_length_eq_zero (by simpa using h.1)
  | x :: xs, inner, h => by
    have h0 := h.2 0 x rfl
    have hd := Kd.reps_drop (m := 1) h
    have e := reps_flat xs _ (by simpa using hd)
    rw [flat_cons, ← e]
    have e0 := k48_openM h0
    simp at e0
    unfold cells3
    rw [← e0, List.take_append_drop]
theorem flat_reps {w : World} {base : Nat} {ok : Nat → Prop} : ∀ (xs : List S48), Reps (k48.M w base ok) 3 xs (flat xs) := fun xs =>
  ⟨flat_length xs, fun j p hj => by
    rw [flat_drop, show (3 : Nat) = 1 * 3 from rfl, flat_take]
    have : (xs.drop j).take 1 = [p] := by
      obtain ⟨hlt, rfl⟩ := List.getElem?_eq_some_iff.1 hj
      rw [List.drop_eq_getElem_cons hlt]; rfl
    rw [this]
    exact k48_mkM _ _ _ p⟩
theorem R_im {w : World} {base : Nat} {ok : Nat → Prop} {v : Value} {xs : List S48} (h : Kd.R k48 48 w base ok v xs) :
    (xs = [] ∧ v = .slice none 0 0) ∨ ∃ g cap rest, v = .slice (some ⟨g, 0, none⟩) xs.length cap ∧ ok g ∧ base ≤ g ∧ xs.length ≤ cap ∧ Im w g cap (flat xs ++ rest) := by
  obtain ⟨h0, inner, ho, hr⟩ := h
  have hin := reps_flat xs inner hr
  subst hin
  rcases ho.2 with ⟨rfl, hn⟩ | ⟨g, cap, cur, rfl, hb, hh, hnc, hcm, hcs, ht⟩
  · exact .inl ⟨List.eq_nil_of_length_eq_zero hn, rfl⟩
  · refine .inr ⟨g, cap, cur.toList.drop (xs.length * 3), rfl, h0 g rfl, hb, hnc, ?_, ?_, hcm⟩
    · have ht' : cur.toList.take (xs.length * 3) = flat xs := ht
      rw [← ht', List.take_append_drop]; exact hh
    · have ht' : cur.toList.take (xs.length * 3) = flat xs := ht
      rw [← ht', List.take_append_drop, Array.length_toList]; exact hcs
theorem im_R {w : World} {base : Nat} {ok : Nat → Prop} {xs : List S48} {g cap : Nat} {rest : List Value} (h : Im w g cap (flat xs ++ rest)) (hl : xs.length ≤ cap) (hb : base ≤ g) (hg : ok g) :
    Kd.R k48 48 w base ok (.slice (some ⟨g, 0, none⟩) xs.length cap) xs := by
  refine ⟨fun k hk => by cases hk; exact hg, flat xs, ⟨flat_length xs, .inr ⟨g, cap, (flat xs ++ rest).toArray, rfl, hb, h.1, hl, h.2.2, ?_, ?_⟩⟩, flat_reps xs⟩
  · rw [List.size_toArray]; exact h.2.1
  · show (flat xs ++ rest).take (xs.length * 3) = flat xs
    rw [← flat_length, List.take_left]
namespace Im
variable {w w' : World} {g cap : Nat} {cs : List Value}
theorem lt (h : Im w g cap cs) : g < w.heap.size := (Array.getElem?_eq_some_iff.1 h.1).1
theorem cell (h : Im w g cap cs) (j : Nat) (v : Value) (hj : cs[j]? = some v) : w.cell? ⟨g, j, none⟩ = some v := by
  unfold World.cell?
  simp [h.1, hj]
theorem below (h : Im w g cap cs) (hb : Below w.heap.size w w') : Im w' g cap cs := ⟨(hb.block g h.lt).trans h.1, h.2⟩
theorem move (h : Im w g cap cs) (hb : w'.heap[g]? = w.heap[g]?) : Im w' g cap cs := ⟨hb.trans h.1, h.2⟩
theorem frozen (h : Im w g cap cs) (o : Nat) : w.frozen? ⟨g, o, none⟩ = false := by
  unfold World.frozen?
  simp [h.1]
theorem shape (h : Im w g cap cs) : w.shape? g = some (48, cap * 3) := by
  unfold World.shape?
  simp [h.1, h.2.1]
end Im
/-- What a row holds after a stretch of its cells was written. -/
def spliced (cs : List Value) (o : Nat) (vs : List Value) : List Value := cs.take o ++ vs ++ cs.drop (o + vs.length)
theorem spliced_length (cs : List Value) (o : Nat) (vs : List Value) (h : o + vs.length ≤ cs.length) : (spliced cs o vs).length = cs.length := by
  unfold spliced; simp; omega
theorem Im.put {w : World} {g cap : Nat} {cs : List Value} (h : Im w g cap cs) (o : Nat) (vs : List Value) (hf : o + vs.length ≤ cs.length) : Im (w.setRow g (spliced cs o vs).toArray) g cap (spliced cs o vs) :=
  ⟨setRow_heap w g _ _ 48 (0, 0) h.1, by rw [spliced_length _ _ _ hf]; exact h.2.1, h.2.2⟩
theorem below_row {B g : Nat} {w0 w : World} (hb : Below B w0 w) (hBg : B ≤ g) (cs : Array Value) : Below B w0 (w.setRow g cs) := below_setRow hb hBg cs
theorem info48z : (Tryz.prog.info? 48).map (·.size) = some 3 := by
  obtain ⟨i0, hi, _, hz, _⟩ := info_parts info48
  rw [hi]; simp; exact hz
/-- copy(d, s). -/
theorem run_copy41 {w : World} {g cap : Nat} {cs : List Value} (h : Im w g cap cs) (ty : TypeId) (o dLen dCap : Nat) (a : Addr) (sLen sCap : Nat) (vs : List Value) (hn : vs.length = Nat.min sLen dLen * 3)
    (hsrc : ∀ j v, vs[j]? = some v → w.cell? (a.add j) = some v) (hfit : o + vs.length ≤ cs.length) (h1 : ∀ v ∈ vs, v.oneCell' = true) :
    (Builtin.copy_ #[44, 44] ty #[.slice (some ⟨g, o, none⟩) dLen dCap, .slice (some a) sLen sCap]).run Tryz.prog w = .ok (goInt (Nat.min sLen dLen)) (w.setRow g (spliced cs o vs).toArray) := by
  have hl := run_loadCells_list (P := Tryz.prog) w a vs hsrc
  have hst := run_storeCells_at Tryz.prog g o 48 vs 0 cs.toArray w h.1 (by simpa using hfit) h1
  have hi := info48z
  cases hq : Tryz.prog.info? 48 with
  | none => simp [hq] at hi
  | some i =>
    have hz : i.size = 3 := by simpa [hq] using hi
    rw [hn] at hl
    simp only [Builtin.copy_]
    simp [run_underlying Tryz.underlying44, Builtin.lenOf, Builtin.firstCells, sizeOf, typeInfo, hq, hz, hl, hst, spliced]
theorem info48p : ∃ i, Tryz.prog.info? 48 = some i ∧ i.size = 3 ∧ i.zero = some (.agg #[(.string ⟨#[]⟩), (.bool false), (.string ⟨#[]⟩)]) ∧ i.bytes = 40 := by
  obtain ⟨i0, hi, h0, hz, hb⟩ := info_parts info48
  exact ⟨i0, hi, hz, h0, hb⟩
theorem zeroCells3_length (n : Nat) : (Builtin.zeroCells (Value.agg #[(.string ⟨#[]⟩), (.bool false), (.string ⟨#[]⟩)]).cells n).size = n * 3 := by
  rw [size_zeroCells]; rfl
/-- append(s, make([]T, n)...) where there is no room. -/
theorem run_append41_zeros {w : World} {g cap : Nat} {cs : List Value} (h : Im w g cap cs) (ty : TypeId) (sLen n : Nat) (hs : sLen ≤ cap) (hg : cap < sLen + n) (h63 : sLen + n ≤ 2000000) :
    (Builtin.append_ #[44, 3] ty #[.slice (some ⟨g, 0, none⟩) sLen cap, .int .i64 n]).run Tryz.prog w =
      .ok (.slice (some ⟨w.heap.size, 0, none⟩) (sLen + n) (grownCap w (sLen + n) cap 48))
        (w.drew.alloc (.cells ((cs.take (sLen * 3)).toArray ++ Builtin.zeroCells (Value.agg #[(.string ⟨#[]⟩), (.bool false), (.string ⟨#[]⟩)]).cells n ++ Builtin.zeroCells (Value.agg #[(.string ⟨#[]⟩), (.bool false), (.string ⟨#[]⟩)]).cells (grownCap w (sLen + n) cap 48 - (sLen + n))) 48)) := by
  obtain ⟨i, hi, hz, h0, hb⟩ := info48p
  have hn : ¬ (sLen + n ≤ cap) := by omega
  have hn0 : n ≠ 0 := by omega
  have hw : IntKind.i64.wrap (n : Int) = n := by rw [IntKind.wrap_i64]; omega
  have h63' : ¬ (9223372036854775807 < ((sLen : Int) + (n : Int))) := by omega
  have hneg : ¬ ((n : Int) < 0) := by omega
  have h48i : ¬ (281474976710656 < (n : Int) * 40) := by omega
  have hfit : Builtin.nextslicecap (sLen + n) cap * 40 ≤ 281474976710656 := growslice_fits hg (by omega)
  have h48' : ¬ (281474976710656 < Builtin.nextslicecap (sLen + n) cap * 40) := by omega
  have hlo : (cs.take (sLen * 3)).length = sLen * i.size := by rw [List.length_take, h.2.1, hz]; exact Nat.min_eq_left (Nat.mul_le_mul_right _ hs)
  have hfo := run_firstCells_some (P := Tryz.prog) w.drew i.size sLen ⟨g, 0, none⟩ sLen cap (cs.take (sLen * 3)) hlo (fun j v hj => by
    rw [List.getElem?_take] at hj
    split at hj
    · have := h.cell j v hj
      simpa [Addr.add_lit] using this
    · cases hj)
  rw [hz] at hfo
  have hn3 : ¬ n * 3 = 0 := by omega
  simp [Builtin.append_, run_underlying Tryz.underlying44, run_underlying Tryz.underlying3, sizeOf, typeInfo, zeroValue, hi, hz, h0, hb, asInt, asIntOf, hw, hn0, hneg, hn, h63', h48', h48i, Question.forced, hfo, hn3, newRow, grownCap]
/-- clear(s). -/
theorem run_clear41 {w : World} {g cap : Nat} {cs : List Value} (h : Im w g cap cs) (ty : TypeId) (o n c : Nat) (hn : 0 < n) (hf : o + n * 3 ≤ cs.length) :
    (Builtin.clear_ #[44] ty #[.slice (some ⟨g, o, none⟩) n c]).run Tryz.prog w = .ok (.tuple #[]) (w.setRow g (spliced cs o (Builtin.zeroCells (Value.agg #[(.string ⟨#[]⟩), (.bool false), (.string ⟨#[]⟩)]).cells n).toList).toArray) := by
  obtain ⟨i, hi, hz, h0, hb⟩ := info48p
  have hst := run_storeCells_at Tryz.prog g o 48 (Builtin.zeroCells (Value.agg #[(.string ⟨#[]⟩), (.bool false), (.string ⟨#[]⟩)]).cells n).toList 0 cs.toArray w h.1 (by rw [Array.length_toList, zeroCells3_length]; simpa using hf) (fun v hv => by
    simp [Builtin.zeroCells, Value.cells] at hv
    obtain ⟨j, hj, rfl⟩ := hv
    have : j % 3 = 0 ∨ j % 3 = 1 ∨ j % 3 = 2 := by omega
    rcases this with e | e | e <;> simp [e] <;> rfl)
  obtain ⟨m, rfl⟩ : ∃ m, n = m + 1 := ⟨n - 1, by omega⟩
  simp [Builtin.clear_, run_underlying Tryz.underlying44, zeroValue, typeInfo, hi, h0, hst, spliced]
end Go.Proofs.YteblpjnkinghoaaGreat.J
/- The contract of slices.Insert at images, one element, into a row of the call's own. -/
namespace Go.Proofs.YteblpjnkinghoaaGreat.J
open Go.BigFrame Go.RowKit Go.Proofs.YteblpjnkinghoaaGreatW.PrintWords Go.Proofs.YteblpjnkinghoaaGreatW.PrintLast Go.Proofs.YteblpjnkinghoaaGreatW.PrintMore
/-- At the end. -/
theorem insert_end (xs : List S48) (x : S48) (s base : Nat) (v : Value) (w : World) (hR : Kd.R k48 48 w base (fun _ => True) v xs) (hs : w.heap[s]? = some (.cells #[.string x.f0, .bool x.f1, .string x.f2] 48)) (hb : base ≤ w.heap.size) (hl : xs.length ≤ 1000000) :
    Calls Tryz.prog 60 #[v, .int .i64 xs.length, .slice (some ⟨s, 0, none⟩) 1 1] w fun e w' => ∃ v' : Value, e = .returned v' ∧ Kd.R k48 48 w' base (fun _ => True) v' (xs ++ [x]) ∧ Below base w w' := by
  obtain ⟨A, c, rfl, hlc, hC⟩ := Kd.R_reads hR
  have HR := Aside0.mk hR
  have hrow : ReadsRow (k48.K w) 3 w (some ⟨s, 0, none⟩) 1 [x] := ⟨rfl, by decide, fun _ => ⟨_, rfl, fun j p hj => by
    cases j with
    | zero =>
      cases hj
      refine ⟨cells3 x, rfl, k48_mk w x, fun i u hu => ?_⟩
      have : i = 0 ∨ i = 1 ∨ i = 2 := by have := (List.getElem?_eq_some_iff.1 hu).1; simp [cells3] at this; omega
      rcases this with rfl | rfl | rfl <;> cases hu
      · exact (blk_cell hs 0).trans rfl
      · exact (blk_cell hs 1).trans rfl
      · exact (blk_cell hs 2).trans rfl
    | succ j => simp at hj⟩⟩
  have HW := Aside0.mk hrow
  clear hR hC hrow hs
  obtain ⟨i0, hi0, _, hsz0, _⟩ := info_parts info48
  have hsz0 : i0.size = 3 := hsz0
  have hcut := cut_from (P := Tryz.prog) 44 48 .i64 Tryz.underlying44 hi0 3 hsz0 A xs.length c (xs.length : Int) (by omega) (by omega)
  rw [Int.toNat_natCast, Nat.sub_self] at hcut
  obtain ⟨B, hcut⟩ : ∃ B, ∀ W : World, (Instr.slice 44 (.slice A xs.length c) (some (.int .i64 (xs.length : Int))) none none).run Tryz.prog W = .ok (.slice B 0 (c - xs.length)) W := ⟨_, hcut⟩
  clear hi0 hsz0
  go_enter Tryz.func60, Tryz.ntmps60
  go_wp2_with (first | (at_builtin; refine Kd.R_append_rows k48 (Rr := k48.K w) (w0 := w) base rfl (.tmp 23) (.tmp 24) 44 48 (.agg #[(.string ⟨#[]⟩), (.bool false), (.string ⟨#[]⟩)]) 40 rfl Tryz.underlying44 info48 rfl (by decide) (by decide) (.slice A xs.length c) xs [x] (some ⟨s, 0, none⟩) 1 1 (fun _ => True) (fun _ => False) rfl rfl ?aO ?aR ?aK (fun _ hk => hk.elim) (fun _ _ => trivial) ?aB ?aS ?aL ?_; (case aO => exact HR.out); (case aR => exact HW.out); (case aK => exact fun x cs hx => k48_KM _ _ _ x cs hx); (case aB => exact Below.refl _ _); (case aS => exact hb); (case aL => omega); intro v1 w1 ho hb1 _ _))
  all_goals (go_ret; exact ⟨_, rfl, ho, hb1⟩)
theorem Im.get {w : World} {g cap : Nat} {cs : List Value} (h : Im w g cap cs) (o k : Nat) : ∀ j v, ((cs.drop o).take k)[j]? = some v → w.cell? ((⟨g, o, none⟩ : Addr).add j) = some v := fun j v hj => by
  rw [List.getElem?_take] at hj
  split at hj
  · rw [List.getElem?_drop] at hj
    rw [Addr.add_lit]
    exact h.cell (o + j) v hj
  · cases hj
theorem spliced_at (A Z V : List Value) : spliced (A ++ Z) A.length V = A ++ V ++ Z.drop V.length := by
  unfold spliced
  rw [List.take_left, List.drop_append]
  have : A.drop (A.length + V.length) = [] := List.drop_eq_nil_of_le (by omega)
  rw [this, List.nil_append, show A.length + V.length - A.length = V.length by omega]
theorem spliced_flat (A : List S48) (Z V : List Value) : spliced (flat A ++ Z) (A.length * 3) V = flat A ++ V ++ Z.drop V.length := by
  rw [← flat_length]; exact spliced_at _ _ _
theorem grownCap_ge (w : World) (need old : Nat) (e : TypeId) : need ≤ grownCap w need old e := by
  simp only [grownCap, Question.cut]; omega
theorem cells3_get {w : World} {s : Nat} {x : S48} (hs : w.heap[s]? = some (.cells #[.string x.f0, .bool x.f1, .string x.f2] 48)) : ∀ j v, (cells3 x)[j]? = some v → w.cell? ((⟨s, 0, none⟩ : Addr).add j) = some v := fun j v hj => by
  have : j = 0 ∨ j = 1 ∨ j = 2 := by have := (List.getElem?_eq_some_iff.1 hj).1; simp [cells3] at this; omega
  rcases this with rfl | rfl | rfl <;> cases hj
  · exact (blk_cell hs 0).trans rfl
  · exact (blk_cell hs 1).trans rfl
  · exact (blk_cell hs 2).trans rfl
theorem cells3_one (x : S48) : ∀ v ∈ cells3 x, v.oneCell' = true := by
  intro u hx
  simp [cells3] at hx
  rcases hx with rfl | rfl | rfl <;> rfl
/-- append(s[:i], make([]T, n + 1 - i)...) where the row is full. -/
theorem grown41 {w : World} {g : Nat} {xs : List S48} (hI : Im w g xs.length (flat xs)) (i : Nat) (hi : i < xs.length) (hl : xs.length ≤ 1000000) :
    ∃ w1 cp Z, (∀ ty, (Builtin.append_ #[44, 3] ty #[.slice (some ⟨g, 0, none⟩) i xs.length, .int .i64 ((xs.length + 1 - i : Nat) : Int)]).run Tryz.prog w = .ok (.slice (some ⟨w.heap.size, 0, none⟩) (xs.length + 1) cp) w1) ∧
      xs.length + 1 ≤ cp ∧ Im w1 w.heap.size cp (flat (xs.take i) ++ Z) ∧ Z.length = (cp - i) * 3 ∧ ∀ base, base ≤ w.heap.size → Below base w w1 := by
  have hn : i + (xs.length + 1 - i) = xs.length + 1 := by omega
  have hr := fun ty => run_append41_zeros hI ty i (xs.length + 1 - i) (by omega) (by omega) (by omega)
  rw [hn] at hr
  have hge := grownCap_ge w (xs.length + 1) xs.length 48
  have hmx := grownCap_le_maxLen w (xs.length + 1) xs.length 48 (by simp only [maxLen]; omega)
  generalize grownCap w (xs.length + 1) xs.length 48 = cp at hr hge hmx
  have z : ∀ n, (Builtin.zeroCells (Value.agg #[(.string ⟨#[]⟩), (.bool false), (.string ⟨#[]⟩)]).cells n).toList.length = n * 3 := fun n => by rw [Array.length_toList, zeroCells3_length]
  refine ⟨_, cp, (Builtin.zeroCells (Value.agg #[(.string ⟨#[]⟩), (.bool false), (.string ⟨#[]⟩)]).cells (xs.length + 1 - i)).toList ++ (Builtin.zeroCells (Value.agg #[(.string ⟨#[]⟩), (.bool false), (.string ⟨#[]⟩)]).cells (cp - (xs.length + 1))).toList, hr, hge, ⟨?_, ?_, hmx⟩, ?_, fun base hb => (Below.refl _ _).drew.alloc hb _⟩
  · have := heap_alloc_new w.drew (.cells (((flat xs).take (i * 3)).toArray ++ Builtin.zeroCells (Value.agg #[(.string ⟨#[]⟩), (.bool false), (.string ⟨#[]⟩)]).cells (xs.length + 1 - i) ++ Builtin.zeroCells (Value.agg #[(.string ⟨#[]⟩), (.bool false), (.string ⟨#[]⟩)]).cells (cp - (xs.length + 1))) 48)
    refine Eq.trans this ?_
    rw [flat_take]
    congr 2
    apply Array.ext'
    simp
  · rw [List.length_append, List.length_append, flat_length, z, z, List.length_take]
    omega
  · rw [List.length_append, z, z]
    omega
set_option maxHeartbeats 4000000 in
set_option maxRecDepth 100000 in
/-- Not at the end, there is no room: the walk. -/
theorem insert_grow_walk (n i cp h g s : Nat) (w w1 w2 w3 : World) (hn : n ≤ 1000000) (hi : i < n) (hcp : n + 1 ≤ cp)
    (hcut : ∀ W : World, (Instr.slice 44 (.slice (some ⟨g, 0, none⟩) n n) (some (.int .i64 (i : Int))) none none).run Tryz.prog W = .ok (.slice (some ⟨g, i * 3, none⟩) (n - i) (n - i)) W)
    (hct : ∀ W : World, (Instr.slice 44 (.slice (some ⟨g, 0, none⟩) n n) none (some (.int .i64 (i : Int))) none).run Tryz.prog W = .ok (.slice (some ⟨g, 0, none⟩) i n) W)
    (hz : ∀ ty, (Builtin.append_ #[44, 3] ty #[.slice (some ⟨g, 0, none⟩) i n, .int .i64 ((n + 1 - i : Nat) : Int)]).run Tryz.prog w = .ok (.slice (some ⟨h, 0, none⟩) (n + 1) cp) w1)
    (hc1 : ∀ W : World, (Instr.slice 44 (.slice (some ⟨h, 0, none⟩) (n + 1) cp) (some (.int .i64 (i : Int))) none none).run Tryz.prog W = .ok (.slice (some ⟨h, i * 3, none⟩) (n + 1 - i) (cp - i)) W)
    (hcpy1 : ∀ ty, (Builtin.copy_ #[44, 44] ty #[.slice (some ⟨h, i * 3, none⟩) (n + 1 - i) (cp - i), .slice (some ⟨s, 0, none⟩) 1 1]).run Tryz.prog w1 = .ok (goInt 1) w2)
    (hc2 : ∀ W : World, (Instr.slice 44 (.slice (some ⟨h, 0, none⟩) (n + 1) cp) (some (.int .i64 ((i : Int) + 1))) none none).run Tryz.prog W = .ok (.slice (some ⟨h, (i + 1) * 3, none⟩) (n + 1 - (i + 1)) (cp - (i + 1))) W)
    (hcpy2 : ∀ ty, (Builtin.copy_ #[44, 44] ty #[.slice (some ⟨h, (i + 1) * 3, none⟩) (n + 1 - (i + 1)) (cp - (i + 1)), .slice (some ⟨g, i * 3, none⟩) (n - i) (n - i)]).run Tryz.prog w2.drew = .ok (goInt ((n - i : Nat) : Int)) w3) :
    Calls Tryz.prog 60 #[.slice (some ⟨g, 0, none⟩) n n, .int .i64 i, .slice (some ⟨s, 0, none⟩) 1 1] w fun e w' => e = .returned (.slice (some ⟨h, 0, none⟩) (n + 1) cp) ∧ w' = w3 := by
  have HZ := Aside0.mk hz
  have HC1 := Aside0.mk hcpy1
  have HC2 := Aside0.mk hcpy2
  clear hz hcpy1 hcpy2
  go_enter Tryz.func60, Tryz.ntmps60
  go_upto_region 9 with (fail)
  go_upto_region 10 with (first | (at_builtin; refine Lib.wpList_append_run _ rfl (.tmp 34) (.tmp 39) 44 3 rfl _ (.int .i64 ((n + 1 - i : Nat) : Int)) rfl ?hx _ _ (HZ.out _) ?_; (case hx => show Value.int .i64 _ = _; congr 1; omega)))
  go_upto_region 11 with (first | (refine wpList_copy_runI _ rfl (.tmp 43) (.tmp 44) 44 44 rfl (.slice (some ⟨h, i * 3, none⟩) (n + 1 - i) (cp - i)) (.slice (some ⟨s, 0, none⟩) 1 1) rfl rfl (HC1.out _) ?_))
  go_frame
  have hw1 : IntKind.i64.wrap ((i : Int) + 1) = (i : Int) + 1 := by rw [IntKind.wrap_i64]; omega
  have hb1 : (0 : Int) ≤ (i : Int) + 1 := by omega
  have hb0 : (i : Int) ≤ (n : Int) := by omega
  have hb3 : (i : Int) + 1 ≤ (n : Int) + 1 := by omega
  have htn : ((i : Int) + 1).toNat = i + 1 := by omega
  have hb2 : ¬ (cp = i + 1) := by omega
  have hb4 : ¬ (n = i) := by omega
  have hin : i ≤ n := by omega
  go_region_law (refine step_copy_runI rfl (.tmp 50) (.tmp 53) 44 44 rfl (.slice (some ⟨h, (i + 1) * 3, none⟩) (n + 1 - (i + 1)) (cp - (i + 1))) (.slice (some ⟨g, i * 3, none⟩) (n - i) (n - i)) (by simp [Act.eval, Act.put]) (by simp [Act.eval, Act.put]) (HC2.out _) ?_)
  go_wp2
  go_ret
  exact ⟨rfl, rfl⟩
set_option maxHeartbeats 2000000 in
set_option maxRecDepth 100000 in
/-- Not at the end, there is no room. -/
theorem insert_grow (xs : List S48) (x : S48) (s base g i : Nat) (w : World) (hI : Im w g xs.length (flat xs)) (hs : w.heap[s]? = some (.cells #[.string x.f0, .bool x.f1, .string x.f2] 48)) (hb : base ≤ w.heap.size) (hl : xs.length ≤ 1000000) (hi : i < xs.length) :
    Calls Tryz.prog 60 #[.slice (some ⟨g, 0, none⟩) xs.length xs.length, .int .i64 i, .slice (some ⟨s, 0, none⟩) 1 1] w fun e w' => ∃ v' : Value, e = .returned v' ∧ Kd.R k48 48 w' base (fun _ => True) v' (xs.take i ++ x :: xs.drop i) ∧ Below base w w' := by
  obtain ⟨i0, hi0, _, hsz0, _⟩ := info_parts info48
  have hsz0 : i0.size = 3 := hsz0
  have hcut := cut_from (P := Tryz.prog) 44 48 .i64 Tryz.underlying44 hi0 3 hsz0 (some ⟨g, 0, none⟩) xs.length xs.length (i : Int) (by omega) (by omega)
  rw [Int.toNat_natCast, if_neg (by omega)] at hcut
  have hII := Aside0.mk hI
  have hsl : s ≠ g → (w.heap[s]? = some (.cells #[.string x.f0, .bool x.f1, .string x.f2] 48)) := fun _ => hs
  have hlt := hI.lt
  have hslt := (Array.getElem?_eq_some_iff.1 hs).1
  have hct := cut_to (P := Tryz.prog) 44 48 .i64 Tryz.underlying44 hi0 (some ⟨g, 0, none⟩) xs.length xs.length (i : Int) (by omega) (by omega) (Nat.le_refl _)
  rw [Int.toNat_natCast] at hct
  have d1 : decide ((i : Int) = (xs.length : Int)) = false := decide_eq_false (by omega)
  have d1' : ((i : Int) == (xs.length : Int)) = false := by rw [Bool.eq_false_iff]; simp; omega
  obtain ⟨w1, cp, Z, hz, hcp, hI1, hZ, hB1⟩ := grown41 hI i hi hl
  have hb1 := hB1 w.heap.size (Nat.le_refl _)
  have hne : g ≠ w.heap.size := by omega
  -- the first copy
  have hcpy1 : ∀ ty, (Builtin.copy_ #[44, 44] ty #[.slice (some ⟨w.heap.size, i * 3, none⟩) (xs.length + 1 - i) (cp - i), .slice (some ⟨s, 0, none⟩) 1 1]).run Tryz.prog w1 = .ok (goInt 1) (w1.setRow w.heap.size (spliced (flat (xs.take i) ++ Z) (i * 3) (cells3 x)).toArray) := fun ty => by
    have := run_copy41 hI1 ty (i * 3) (xs.length + 1 - i) (cp - i) ⟨s, 0, none⟩ 1 1 (cells3 x) (show 3 = Nat.min 1 (xs.length + 1 - i) * 3 by rw [show Nat.min 1 (xs.length + 1 - i) = 1 from Nat.min_eq_left (by omega)]) (cells3_get ((hb1.block _ hslt).trans hs)) (by simp [cells3, flat_length, hZ]; omega) (cells3_one x)
    rwa [show Nat.min 1 (xs.length + 1 - i) = 1 from Nat.min_eq_left (by omega)] at this
  have hlt2 : (xs.take i).length = i := by rw [List.length_take]; omega
  have e1 : spliced (flat (xs.take i) ++ Z) (i * 3) (cells3 x) = flat (xs.take i ++ [x]) ++ Z.drop 3 := by
    have := spliced_flat (xs.take i) Z (cells3 x)
    rw [hlt2] at this
    rw [this, flat_append]
    simp [flat, cells3]
  have hI2 := hI1.put (i * 3) (cells3 x) (by simp [cells3, flat_length, hZ]; omega)
  rw [e1] at hcpy1 hI2
  obtain ⟨w2, hw2⟩ : ∃ w2, w2 = w1.setRow w.heap.size (flat (xs.take i ++ [x]) ++ Z.drop 3).toArray := ⟨_, rfl⟩
  rw [← hw2] at hcpy1 hI2
  have hB2 : Below base w w2 := by rw [hw2]; exact below_row (hB1 base hb) hb _
  have hIg : Im w2 g xs.length (flat xs) := (hI.below hb1).move (by rw [hw2]; exact setRow_other _ _ _ _ hne)
  -- the second
  have hlt3 : (xs.take i ++ [x]).length = i + 1 := by rw [List.length_append, hlt2]; rfl
  have hdr : (flat (xs.drop i)).length = (xs.length - i) * 3 := by rw [flat_length, List.length_drop]
  have hcpy2 : ∀ ty, (Builtin.copy_ #[44, 44] ty #[.slice (some ⟨w.heap.size, (i + 1) * 3, none⟩) (xs.length + 1 - (i + 1)) (cp - (i + 1)), .slice (some ⟨g, i * 3, none⟩) (xs.length - i) (xs.length - i)]).run Tryz.prog w2.drew = .ok (goInt ((xs.length - i : Nat) : Int)) (w2.drew.setRow w.heap.size (spliced (flat (xs.take i ++ [x]) ++ Z.drop 3) ((i + 1) * 3) (flat (xs.drop i))).toArray) := fun ty => by
    have := run_copy41 (hI2.below ((Below.refl _ w2).drew)) ty ((i + 1) * 3) (xs.length + 1 - (i + 1)) (cp - (i + 1)) ⟨g, i * 3, none⟩ (xs.length - i) (xs.length - i) (flat (xs.drop i)) (by rw [hdr, show Nat.min (xs.length - i) (xs.length + 1 - (i + 1)) = xs.length - i from Nat.min_eq_left (by omega)]) (fun j v hj => by
      have h2 := (hIg.below ((Below.refl _ w2).drew)).get (i * 3) ((xs.length - i) * 3) j v
      rw [flat_drop] at h2
      exact h2 (by rw [List.take_of_length_le (by rw [hdr]; exact Nat.le_refl _)]; exact hj)) (by rw [hdr, List.length_append, flat_length, hlt3, List.length_drop, hZ]; omega) (flat_one _)
    rwa [show Nat.min (xs.length - i) (xs.length + 1 - (i + 1)) = xs.length - i from Nat.min_eq_left (by omega)] at this
  have e2 : spliced (flat (xs.take i ++ [x]) ++ Z.drop 3) ((i + 1) * 3) (flat (xs.drop i)) = flat (xs.take i ++ x :: xs.drop i) ++ (Z.drop 3).drop (flat (xs.drop i)).length := by
    have := spliced_flat (xs.take i ++ [x]) (Z.drop 3) (flat (xs.drop i))
    rw [hlt3] at this
    rw [this, ← flat_append]
    simp
  have hI3 := (hI2.below ((Below.refl _ w2).drew)).put ((i + 1) * 3) (flat (xs.drop i)) (by rw [hdr, List.length_append, flat_length, hlt3, List.length_drop, hZ]; omega)
  rw [e2] at hcpy2 hI3
  obtain ⟨w3, hw3⟩ : ∃ w3, w3 = w2.drew.setRow w.heap.size (flat (xs.take i ++ x :: xs.drop i) ++ (Z.drop 3).drop (flat (xs.drop i)).length).toArray := ⟨_, rfl⟩
  rw [← hw3] at hcpy2 hI3
  have hB3 : Below base w w3 := by rw [hw3]; exact below_row hB2.drew hb _
  have hln : (xs.take i ++ x :: xs.drop i).length = xs.length + 1 := by simp; omega
  have HF := Aside0.mk (show Kd.R k48 48 w3 base (fun _ => True) (.slice (some ⟨w.heap.size, 0, none⟩) (xs.length + 1) cp) (xs.take i ++ x :: xs.drop i) by
    have := im_R (base := base) (ok := fun _ => True) hI3 (by rw [hln]; exact hcp) hb trivial
    rwa [hln] at this)
  -- the cuts
  have hc1 : ∀ W : World, (Instr.slice 44 (.slice (some ⟨w.heap.size, 0, none⟩) (xs.length + 1) cp) (some (.int .i64 (i : Int))) none none).run Tryz.prog W = .ok (.slice (some ⟨w.heap.size, i * 3, none⟩) (xs.length + 1 - i) (cp - i)) W := fun W => by
    have := cut_from (P := Tryz.prog) 44 48 .i64 Tryz.underlying44 hi0 3 hsz0 (some ⟨w.heap.size, 0, none⟩) (xs.length + 1) cp (i : Int) (by omega) (by omega) W
    rw [Int.toNat_natCast, if_neg (by omega)] at this
    simpa [Addr.add_lit] using this
  have hc2 : ∀ W : World, (Instr.slice 44 (.slice (some ⟨w.heap.size, 0, none⟩) (xs.length + 1) cp) (some (.int .i64 ((i : Int) + 1))) none none).run Tryz.prog W = .ok (.slice (some ⟨w.heap.size, (i + 1) * 3, none⟩) (xs.length + 1 - (i + 1)) (cp - (i + 1))) W := fun W => by
    have := cut_from (P := Tryz.prog) 44 48 .i64 Tryz.underlying44 hi0 3 hsz0 (some ⟨w.heap.size, 0, none⟩) (xs.length + 1) cp ((i : Int) + 1) (by omega) (by omega) W
    rw [show ((i : Int) + 1).toNat = i + 1 by omega, if_neg (by omega)] at this
    simpa [Addr.add_lit] using this
  have hcut' : ∀ W : World, (Instr.slice 44 (.slice (some ⟨g, 0, none⟩) xs.length xs.length) (some (.int .i64 (i : Int))) none none).run Tryz.prog W = .ok (.slice (some ⟨g, i * 3, none⟩) (xs.length - i) (xs.length - i)) W := fun W => by
    simpa [Addr.add_lit] using hcut W
  refine (insert_grow_walk xs.length i cp w.heap.size g s w w1 w2 w3 hl hi hcp hcut' hct hz hc1 hcpy1 hc2 hcpy2).mono ?_
  rintro e w' ⟨rfl, rfl⟩
  exact ⟨_, rfl, HF.out, hB3⟩
theorem size41 (w : World) : (Go.sizeOf 48).run Tryz.prog w = .ok 3 w := by kernel_rfl
set_option maxHeartbeats 4000000 in
set_option maxRecDepth 100000 in
/-- Not at the end, there is room: the walk. -/
theorem insert_room_walk (n i cp g s : Nat) (w w1 w2 : World) (hn : n ≤ 1000000) (hi : i < n) (hcp : n + 1 ≤ cp) (hcm : cp ≤ maxLen)
    (hov : ∀ lb cb, (callFunc 78 #[.slice (some ⟨s, 0, none⟩) 1 1, .slice (some ⟨g, (i + 1) * 3, none⟩) lb cb]).run Tryz.prog w = .ok (.value (.bool false)) w)
    (hcpy1 : ∀ ty, (Builtin.copy_ #[44, 44] ty #[.slice (some ⟨g, (i + 1) * 3, none⟩) (n + 1 - (i + 1)) (cp - (i + 1)), .slice (some ⟨g, i * 3, none⟩) (n + 1 - i) (cp - i)]).run Tryz.prog w.drew = .ok (goInt ((n - i : Nat) : Int)) w1)
    (hcpy2 : ∀ ty, (Builtin.copy_ #[44, 44] ty #[.slice (some ⟨g, i * 3, none⟩) (n + 1 - i) (cp - i), .slice (some ⟨s, 0, none⟩) 1 1]).run Tryz.prog w1 = .ok (goInt 1) w2) :
    Calls Tryz.prog 60 #[.slice (some ⟨g, 0, none⟩) n cp, .int .i64 i, .slice (some ⟨s, 0, none⟩) 1 1] w fun e w' => e = .returned (.slice (some ⟨g, 0, none⟩) (n + 1) cp) ∧ w' = w2 := by
  have HC1 := Aside0.mk hcpy1
  have HC2 := Aside0.mk hcpy2
  have hcm' : cp ≤ 9223372036854775807 := hcm
  clear hcpy1 hcpy2 hcm
  have hw1 : IntKind.i64.wrap ((i : Int) + 1) = (i : Int) + 1 := by rw [IntKind.wrap_i64]; omega
  have hw2 : IntKind.i64.wrap ((n : Int) + 1) = (n : Int) + 1 := by rw [IntKind.wrap_i64]; omega
  have hb1 : (0 : Int) ≤ (i : Int) + 1 := by omega
  have hb0 : (i : Int) ≤ (n : Int) := by omega
  have hb5 : (i : Int) ≤ (n : Int) + 1 := by omega
  have hb3 : (i : Int) + 1 ≤ (n : Int) + 1 := by omega
  have htn : ((i : Int) + 1).toNat = i + 1 := by omega
  have htn2 : ((n : Int) + 1).toNat = n + 1 := by omega
  have hb2 : ¬ (cp = i + 1) := by omega
  have hb4 : ¬ (cp = i) := by omega
  have hin : i ≤ n := by omega
  go_enter Tryz.func60, Tryz.ntmps60
  go_upto_region 15 with (simp only [hov])
  (try go_frame)
  go_region_law (refine step_copy_runI rfl (.tmp 73) (.tmp 76) 44 44 rfl (.slice (some ⟨g, (i + 1) * 3, none⟩) (n + 1 - (i + 1)) (cp - (i + 1))) (.slice (some ⟨g, i * 3, none⟩) (n + 1 - i) (cp - i)) (by simp [Act.eval, Act.put]) (by simp [Act.eval, Act.put]) (HC1.out _) ?_)
  go_wp2_with (first | (refine wpList_copy_runI _ rfl (.tmp 80) (.tmp 81) 44 44 rfl (.slice (some ⟨g, i * 3, none⟩) (n + 1 - i) (cp - i)) (.slice (some ⟨s, 0, none⟩) 1 1) rfl rfl (HC2.out _) ?_))
  go_ret
  exact ⟨rfl, rfl⟩
/-- Not at the end, there is room. -/
theorem insert_room (xs : List S48) (x : S48) (s base g i cap : Nat) (rest : List Value) (w : World) (hI : Im w g cap (flat xs ++ rest)) (hs : w.heap[s]? = some (.cells #[.string x.f0, .bool x.f1, .string x.f2] 48)) (hne : s ≠ g) (hg : base ≤ g) (hl : xs.length ≤ 1000000) (hi : i < xs.length) (hcp : xs.length + 1 ≤ cap) :
    Calls Tryz.prog 60 #[.slice (some ⟨g, 0, none⟩) xs.length cap, .int .i64 i, .slice (some ⟨s, 0, none⟩) 1 1] w fun e w' => ∃ v' : Value, e = .returned v' ∧ Kd.R k48 48 w' base (fun _ => True) v' (xs.take i ++ x :: xs.drop i) ∧ Below base w w' := by
  have hslt := (Array.getElem?_eq_some_iff.1 hs).1
  have hlen : rest.length = (cap - xs.length) * 3 := by have := hI.2.1; rw [List.length_append, flat_length] at this; omega
  have hlt2 : (xs.take i).length = i := by rw [List.length_take]; omega
  have hdr : (flat (xs.drop i)).length = (xs.length - i) * 3 := by rw [flat_length, List.length_drop]
  have hov : ∀ lb cb, (callFunc 78 #[.slice (some ⟨s, 0, none⟩) 1 1, .slice (some ⟨g, (i + 1) * 3, none⟩) lb cb]).run Tryz.prog w = .ok (.value (.bool false)) w := fun lb cb => by
    rw [run_callFunc_extern Tryz.func78 (by kernel_rfl) (by kernel_rfl) (by kernel_rfl) (e := Extern.SlicesOverlaps.overlaps #[44, 44] #[4]) (by kernel_rfl),
      Lib.run_overlaps_apart w 44 4 48 Tryz.underlying44 3 size41 ⟨s, 0, none⟩ ⟨g, (i + 1) * 3, none⟩ 1 1 lb cb hne 48 48 3 (cap * 3) (by unfold World.shape?; rw [hs]; rfl) hI.shape (by omega) (by unfold World.frozen?; rw [hs]; rfl) (by unfold World.frozen?; rw [hs]; rfl)]
    rfl
  obtain ⟨y, hy⟩ : ∃ y, xs.drop i = y :: xs.drop (i + 1) := ⟨xs[i], List.drop_eq_getElem_cons hi⟩
  have e0 : flat xs ++ rest = flat (xs.take i ++ [y]) ++ (flat (xs.drop (i + 1)) ++ rest) := by
    rw [← List.append_assoc, ← flat_append, List.append_assoc, List.singleton_append, ← hy, List.take_append_drop]
  have hlt3 : (xs.take i ++ [y]).length = i + 1 := by rw [List.length_append, hlt2]; rfl
  have hd : ∀ base' W, Below base' W W.drew := fun _ W => (Below.refl _ W).drew
  have hID := hI.below (hd w.heap.size w)
  have hcpy1 : ∀ ty, (Builtin.copy_ #[44, 44] ty #[.slice (some ⟨g, (i + 1) * 3, none⟩) (xs.length + 1 - (i + 1)) (cap - (i + 1)), .slice (some ⟨g, i * 3, none⟩) (xs.length + 1 - i) (cap - i)]).run Tryz.prog w.drew = .ok (goInt ((xs.length - i : Nat) : Int)) (w.drew.setRow g (spliced (flat xs ++ rest) ((i + 1) * 3) (flat (xs.drop i))).toArray) := fun ty => by
    have hm : Nat.min (xs.length + 1 - i) (xs.length + 1 - (i + 1)) = xs.length - i := by rw [show xs.length + 1 - (i + 1) = xs.length - i by omega]; exact Nat.min_eq_right (by omega)
    have := run_copy41 hID ty ((i + 1) * 3) (xs.length + 1 - (i + 1)) (cap - (i + 1)) ⟨g, i * 3, none⟩ (xs.length + 1 - i) (cap - i) (flat (xs.drop i)) (by rw [hdr, hm]) (fun j v hj => by
      have h2 := hID.get (i * 3) ((xs.length - i) * 3) j v
      rw [List.drop_append_of_le_length (by rw [flat_length]; omega), flat_drop, List.take_append_of_le_length (by rw [hdr]; exact Nat.le_refl _), List.take_of_length_le (by rw [hdr]; exact Nat.le_refl _)] at h2
      exact h2 hj) (by rw [hdr, List.length_append, flat_length, hlen]; omega) (flat_one _)
    rwa [hm] at this
  have e1 : spliced (flat xs ++ rest) ((i + 1) * 3) (flat (xs.drop i)) = flat (xs.take i) ++ (cells3 y ++ (flat (xs.drop i) ++ rest.drop 3)) := by
    have := spliced_flat (xs.take i ++ [y]) (flat (xs.drop (i + 1)) ++ rest) (flat (xs.drop i))
    rw [hlt3] at this
    rw [e0, this, flat_append]
    have hd2 : (flat (xs.drop (i + 1)) ++ rest).drop (flat (xs.drop i)).length = rest.drop 3 := by
      rw [List.drop_append, List.drop_eq_nil_of_le (by rw [hdr, flat_length, List.length_drop]; omega), List.nil_append]
      congr 1
      rw [hdr, flat_length, List.length_drop]; omega
    rw [hd2]
    simp [flat, List.append_assoc]
  have hI1 := hID.put ((i + 1) * 3) (flat (xs.drop i)) (by rw [hdr, List.length_append, flat_length, hlen]; omega)
  rw [e1] at hcpy1 hI1
  obtain ⟨w1, hw1⟩ : ∃ w1, w1 = w.drew.setRow g (flat (xs.take i) ++ (cells3 y ++ (flat (xs.drop i) ++ rest.drop 3))).toArray := ⟨_, rfl⟩
  rw [← hw1] at hcpy1 hI1
  have hB1 : Below base w w1 := by rw [hw1]; exact below_row (Below.refl _ _).drew hg _
  have hs1 : w1.heap[s]? = some (.cells #[.string x.f0, .bool x.f1, .string x.f2] 48) := by rw [hw1, setRow_other _ _ _ _ hne]; exact hs
  have hcl : (cells3 y).length = 3 := rfl
  have hcpy2 : ∀ ty, (Builtin.copy_ #[44, 44] ty #[.slice (some ⟨g, i * 3, none⟩) (xs.length + 1 - i) (cap - i), .slice (some ⟨s, 0, none⟩) 1 1]).run Tryz.prog w1 = .ok (goInt 1) (w1.setRow g (spliced (flat (xs.take i) ++ (cells3 y ++ (flat (xs.drop i) ++ rest.drop 3))) (i * 3) (cells3 x)).toArray) := fun ty => by
    have hm : Nat.min 1 (xs.length + 1 - i) = 1 := Nat.min_eq_left (by omega)
    have := run_copy41 hI1 ty (i * 3) (xs.length + 1 - i) (cap - i) ⟨s, 0, none⟩ 1 1 (cells3 x) (by rw [hm]; rfl) (cells3_get hs1) (by rw [List.length_append, flat_length, hlt2, List.length_append, hcl]; show i * 3 + 3 ≤ _; omega) (cells3_one x)
    rwa [hm] at this
  have e2 : spliced (flat (xs.take i) ++ (cells3 y ++ (flat (xs.drop i) ++ rest.drop 3))) (i * 3) (cells3 x) = flat (xs.take i ++ x :: xs.drop i) ++ rest.drop 3 := by
    have := spliced_flat (xs.take i) (cells3 y ++ (flat (xs.drop i) ++ rest.drop 3)) (cells3 x)
    rw [hlt2] at this
    rw [this, show (cells3 x).length = (cells3 y).length from rfl, List.drop_left, flat_append, flat_cons]
    simp [List.append_assoc]
  have hI2 := hI1.put (i * 3) (cells3 x) (by rw [List.length_append, flat_length, hlt2, List.length_append, hcl]; show i * 3 + 3 ≤ _; omega)
  rw [e2] at hcpy2 hI2
  have hln : (xs.take i ++ x :: xs.drop i).length = xs.length + 1 := by simp; omega
  refine (insert_room_walk xs.length i cap g s w w1 _ hl hi hcp hI.2.2 hov hcpy1 hcpy2).mono ?_
  rintro e w' ⟨rfl, rfl⟩
  have := im_R (base := base) (ok := fun _ => True) hI2 (by rw [hln]; exact hcp) hg trivial
  rw [hln] at this
  exact ⟨_, rfl, this, below_row hB1 hg _⟩
/-- slices.Insert(row, i, x). -/
theorem insert_calls (xs : List S48) (x : S48) (s base i : Nat) (v : Value) (w : World) (hR : Kd.R k48 48 w base (fun k => k ≠ s) v xs) (hs : w.heap[s]? = some (.cells #[.string x.f0, .bool x.f1, .string x.f2] 48)) (hb : base ≤ w.heap.size) (hl : xs.length ≤ 1000000) (hi : i ≤ xs.length) :
    Calls Tryz.prog 60 #[v, .int .i64 i, .slice (some ⟨s, 0, none⟩) 1 1] w fun e w' => ∃ v' : Value, e = .returned v' ∧ Kd.R k48 48 w' base (fun _ => True) v' (xs.take i ++ x :: xs.drop i) ∧ Below base w w' := by
  by_cases he : i = xs.length
  · subst he
    rw [List.take_length, List.drop_length]
    exact insert_end xs x s base v w (Kd.R_mono hR (fun _ _ => trivial)) hs hb hl
  · have hi' : i < xs.length := by omega
    rcases R_im hR with ⟨rfl, _⟩ | ⟨g, cap, rest, rfl, hgs, hg, hlc, hI⟩
    · simp at hi'
    · by_cases hcp : xs.length + 1 ≤ cap
      · exact insert_room xs x s base g i cap rest w hI hs (Ne.symm hgs) hg hl hi' hcp
      · have hce : cap = xs.length := by omega
        subst hce
        have hr : rest = [] := by
          have := hI.2.1
          rw [List.length_append, flat_length] at this
          exact List.eq_nil_of_length_eq_zero (by omega)
        subst hr
        rw [List.append_nil] at hI
        exact insert_grow xs x s base g i w hI hs hb hl hi'
end Go.Proofs.YteblpjnkinghoaaGreat.J
/- The contract of slices.Delete at images, one element, of a row of the call's own. -/
namespace Go.Proofs.YteblpjnkinghoaaGreat.J
open Go.BigFrame Go.RowKit Go.Proofs.YteblpjnkinghoaaGreatW.PrintWords Go.Proofs.YteblpjnkinghoaaGreatW.PrintLast Go.Proofs.YteblpjnkinghoaaGreatW.PrintMore
/-- An append whose run is known, as one step of a region that draws. -/
theorem step_append_runI {P : Program} {ops : Array Oper} {o : Oper} {a : Act} {w : World} {K : Act → World → Prop} {Q : Exit → Act → World → Prop} {E : Prop}
    (hg : o.guard = none) (d x : Operand) (dT sT : TypeId) (hop : o.op = Op.call { callee := Callee.builtin Builtin.append, args := #[d, x], argTypes := #[dT, sT] })
    (v u : Value) (hd : a.eval d = v) (hx : a.eval x = u) {v' : Value} {w' : World} (hr : (Builtin.append_ #[dT, sT] o.type #[v, u]).run P w = .ok v' w') (hK : K (a.put o.dst v') w') :
    if Region.wanted o (yielded ops a.tmps) = true then Oper.wp P o a w K Q else E := by
  have hw : Region.wanted o (yielded ops a.tmps) = true := by simp [Region.wanted, hg]
  rw [if_pos hw]
  unfold Oper.wp
  simp [execOp, hop, resolve, invoke, builtin, hd, hx, hr, Result.andThen]
  exact hK
/-- A clear whose run is known. -/
theorem wpList_clear_runI {P : Program} (w : World) {ops : Array Oper} {rest : List Oper} {o : Oper} {a : Act} {Q : Exit → Act → World → Prop} (hgd : o.guard = none) (d : Operand) (t : TypeId)
    (ho : o.op = .call { callee := .builtin .clear, args := #[d], argTypes := #[t] }) (v : Value) (hd : a.eval d = v) {v' : Value} {w' : World}
    (hr : (Builtin.clear_ #[t] o.type #[v]).run P w = .ok v' w') (h : wpList P ops Q rest (a.put o.dst v') w') : wpList P ops Q (o :: rest) a w :=
  wpList_plain hgd fun _ hK => by
    unfold Oper.wp execOp
    simp only [ho, resolve, invoke, builtin, Sem.run_bind, Sem.run_pure, Result.andThen_ok, List.map_toArray, List.map_cons, List.map_nil, hd, hr]
    exact hK _ _ h
set_option maxHeartbeats 4000000 in
set_option maxRecDepth 100000 in
/-- The walk; there is something behind the row's one. -/
theorem delete_walk (n i cp g : Nat) (w w1 w2 : World) (hn : n ≤ 1000000) (hi : i < n) (hcp : n ≤ cp) (hcm : cp ≤ maxLen) (hb2 : ¬ (cp = i + 1))
    (happ : ∀ ty, (Builtin.append_ #[44, 44] ty #[.slice (some ⟨g, 0, none⟩) i cp, .slice (some ⟨g, (i + 1) * 3, none⟩) (n - (i + 1)) (cp - (i + 1))]).run Tryz.prog w.drew = .ok (.slice (some ⟨g, 0, none⟩) (n - 1) cp) w1)
    (hclr : ∀ ty, (Builtin.clear_ #[44] ty #[.slice (some ⟨g, (n - 1) * 3, none⟩) 1 (cp - (n - 1))]).run Tryz.prog w1 = .ok (.tuple #[]) w2) :
    Calls Tryz.prog 61 #[.slice (some ⟨g, 0, none⟩) n cp, .int .i64 i, .int .i64 ((i : Int) + 1)] w fun e w' => e = .returned (.slice (some ⟨g, 0, none⟩) (n - 1) cp) ∧ w' = w2 := by
  have HC1 := Aside0.mk happ
  have HC2 := Aside0.mk hclr
  have hcm' : cp ≤ 9223372036854775807 := hcm
  clear happ hclr hcm
  have hb1 : (0 : Int) ≤ (i : Int) + 1 := by omega
  have hb0 : (i : Int) ≤ (n : Int) := by omega
  have hb3 : (i : Int) + 1 ≤ (n : Int) := by omega
  have htn : ((i : Int) + 1).toNat = i + 1 := by omega
  have hb4 : ¬ (cp = i) := by omega
  have hb6 : ((i : Int) == (i : Int) + 1) = false := by rw [Bool.eq_false_iff]; simp; omega
  have hb7 : ¬ ((i : Int) = (i : Int) + 1) := by omega
  have hin : i ≤ n := by omega
  have hb8 : (i : Int) ≤ (cp : Int) := by omega
  have hb9 : i ≤ cp := by omega
  go_enter Tryz.func61, Tryz.ntmps61
  go_upto_region 5 with (fail)
  go_region_law (refine step_append_runI rfl (.tmp 22) (.tmp 25) 44 44 rfl (.slice (some ⟨g, 0, none⟩) i cp) (.slice (some ⟨g, (i + 1) * 3, none⟩) (n - (i + 1)) (cp - (i + 1))) (by simp [Act.eval, Act.put]) (by simp [Act.eval, Act.put]) (HC1.out _) ?_)
  obtain ⟨m, rfl⟩ : ∃ m, n = m + 1 := ⟨n - 1, by omega⟩
  simp only [Nat.add_sub_cancel] at HC2 ⊢
  have hm1 : (0 : Int) ≤ (m : Int) := by omega
  have hm2 : (m : Int) ≤ (m : Int) + 1 := by omega
  have hm3 : (m : Int) + 1 ≤ (cp : Int) := by omega
  have hm4 : ¬ (cp = m) := by omega
  have hm5 : m + 1 - m = 1 := by omega
  go_wp2_with (first | (refine wpList_clear_runI _ rfl (.tmp 31) 44 rfl (.slice (some ⟨g, m * 3, none⟩) 1 (cp - m)) ?hd (HC2.out _) ?_; (case hd => simp [Act.eval, Act.put])))
  go_ret
  exact ⟨rfl, rfl⟩
set_option maxHeartbeats 4000000 in
set_option maxRecDepth 100000 in
/-- The walk; the row is full, its last goes. -/
theorem delete_walk_last (i g : Nat) (w w1 w2 : World) (hn : i ≤ 1000000)
    (happ : ∀ ty, (Builtin.append_ #[44, 44] ty #[.slice (some ⟨g, 0, none⟩) i (i + 1), .slice (some ⟨g, 0, none⟩) 0 0]).run Tryz.prog w.drew = .ok (.slice (some ⟨g, 0, none⟩) i (i + 1)) w1)
    (hclr : ∀ ty, (Builtin.clear_ #[44] ty #[.slice (some ⟨g, i * 3, none⟩) 1 1]).run Tryz.prog w1 = .ok (.tuple #[]) w2) :
    Calls Tryz.prog 61 #[.slice (some ⟨g, 0, none⟩) (i + 1) (i + 1), .int .i64 i, .int .i64 ((i : Int) + 1)] w fun e w' => e = .returned (.slice (some ⟨g, 0, none⟩) i (i + 1)) ∧ w' = w2 := by
  have HC1 := Aside0.mk happ
  have HC2 := Aside0.mk hclr
  clear happ hclr
  have hb1 : (0 : Int) ≤ (i : Int) + 1 := by omega
  have hb0 : (i : Int) ≤ (i : Int) + 1 := by omega
  have htn : ((i : Int) + 1).toNat = i + 1 := by omega
  have hb4 : ¬ (i + 1 = i) := by omega
  have hb6 : ((i : Int) == (i : Int) + 1) = false := by rw [Bool.eq_false_iff]; simp; omega
  have hb7 : ¬ ((i : Int) = (i : Int) + 1) := by omega
  have hb9 : i ≤ i + 1 := by omega
  have hm5 : i + 1 - i = 1 := by omega
  go_enter Tryz.func61, Tryz.ntmps61
  go_upto_region 5 with (fail)
  go_region_law (refine step_append_runI rfl (.tmp 22) (.tmp 25) 44 44 rfl (.slice (some ⟨g, 0, none⟩) i (i + 1)) (.slice (some ⟨g, 0, none⟩) 0 0) (by simp [Act.eval, Act.put]) (by simp [Act.eval, Act.put]) (HC1.out _) ?_)
  go_wp2_with (first | (refine wpList_clear_runI _ rfl (.tmp 31) 44 rfl (.slice (some ⟨g, i * 3, none⟩) 1 1) ?hd (HC2.out _) ?_; (case hd => simp [Act.eval, Act.put])))
  go_ret
  exact ⟨rfl, rfl⟩
/-- append(s[:i], s[i + 1:]...): in place. -/
theorem run_append41_room {w : World} {g cap : Nat} {cs : List Value} (h : Im w g cap cs) (ty : TypeId) (sLen m c : Nat) (a : Addr) (vs : List Value) (hl : vs.length = m * 3) (hn : ∀ j u, vs[j]? = some u → w.cell? (a.add j) = some u) (h1 : ∀ u ∈ vs, u.oneCell' = true)
    (hroom : sLen + m ≤ cap) : (Builtin.append_ #[44, 44] ty #[.slice (some ⟨g, 0, none⟩) sLen cap, .slice (some a) m c]).run Tryz.prog w = .ok (.slice (some ⟨g, 0, none⟩) (sLen + m) cap) (w.setRow g (spliced cs (sLen * 3) vs).toArray) := by
  obtain ⟨i, hi, hz, _, _⟩ := info48p
  have := run_append_room (P := Tryz.prog) w 44 ty 48 i Tryz.underlying44 hi g sLen cap cs.toArray h.1 a m c vs (by rw [hl, hz]) hn h1 hroom (by rw [hl, hz, List.size_toArray, h.2.1]; omega)
  rw [hz] at this
  exact this
/-- slices.Delete(row, i, i + 1). -/
theorem delete_calls (xs : List S48) (base i : Nat) (v : Value) (w : World) (hR : Kd.R k48 48 w base (fun _ => True) v xs) (hl : xs.length ≤ 1000000) (hi : i < xs.length) :
    Calls Tryz.prog 61 #[v, .int .i64 i, .int .i64 ((i : Int) + 1)] w fun e w' => ∃ v' : Value, e = .returned v' ∧ Kd.R k48 48 w' base (fun _ => True) v' (xs.take i ++ xs.drop (i + 1)) ∧ Below base w w' := by
  rcases R_im hR with ⟨rfl, _⟩ | ⟨g, cap, rest, rfl, _, hg, hlc, hI⟩
  · simp at hi
  have hlen : rest.length = (cap - xs.length) * 3 := by have := hI.2.1; rw [List.length_append, flat_length] at this; omega
  have hlt2 : (xs.take i).length = i := by rw [List.length_take]; omega
  have hdr : (flat (xs.drop (i + 1))).length = (xs.length - (i + 1)) * 3 := by rw [flat_length, List.length_drop]
  have hID := hI.below ((Below.refl w.heap.size w).drew)
  obtain ⟨y, hy⟩ : ∃ y, xs.drop i = y :: xs.drop (i + 1) := ⟨xs[i], List.drop_eq_getElem_cons hi⟩
  have e0 : flat xs ++ rest = flat (xs.take i) ++ (flat (xs.drop i) ++ rest) := by rw [← List.append_assoc, ← flat_append, List.take_append_drop]
  have hln : (xs.take i ++ xs.drop (i + 1)).length = xs.length - 1 := by rw [List.length_append, hlt2, List.length_drop]; omega
  -- what is left behind the row's new end: the cells of one image, then what was spare
  obtain ⟨L, hL3, e1⟩ : ∃ L : List Value, L.length = 3 ∧ spliced (flat xs ++ rest) (i * 3) (flat (xs.drop (i + 1))) = flat (xs.take i ++ xs.drop (i + 1)) ++ (L ++ rest) := by
    have h1 := spliced_flat (xs.take i) (flat (xs.drop i) ++ rest) (flat (xs.drop (i + 1)))
    rw [hlt2] at h1
    have hld : (flat (xs.drop i)).length = (xs.length - i) * 3 := by rw [flat_length, List.length_drop]
    refine ⟨(flat (xs.drop i)).drop (flat (xs.drop (i + 1))).length, ?_, ?_⟩
    · rw [List.length_drop, hdr, hld]; omega
    · rw [e0, h1, flat_append, List.drop_append_of_le_length (by rw [hdr, hld]; omega)]
  have hI1 := hID.put (i * 3) (flat (xs.drop (i + 1))) (by rw [hdr, List.length_append, flat_length, hlen]; omega)
  rw [e1] at hI1
  obtain ⟨w1, hw1⟩ : ∃ w1, w1 = w.drew.setRow g (flat (xs.take i ++ xs.drop (i + 1)) ++ (L ++ rest)).toArray := ⟨_, rfl⟩
  rw [← hw1] at hI1
  have hB1 : Below base w w1 := by rw [hw1]; exact below_row (Below.refl _ _).drew hg _
  have hz : (Builtin.zeroCells (Value.agg #[(.string ⟨#[]⟩), (.bool false), (.string ⟨#[]⟩)]).cells 1).toList.length = 3 := by rw [Array.length_toList, zeroCells3_length]
  have hlf : (xs.length - 1) * 3 + 1 * 3 ≤ (flat (xs.take i ++ xs.drop (i + 1)) ++ (L ++ rest)).length := by rw [List.length_append, flat_length, hln, List.length_append, hL3]; omega
  have hclr : ∀ ty c, (Builtin.clear_ #[44] ty #[.slice (some ⟨g, (xs.length - 1) * 3, none⟩) 1 c]).run Tryz.prog w1 = _ := fun ty c => run_clear41 hI1 ty ((xs.length - 1) * 3) 1 c (by decide) hlf
  have hI2 := hI1.put ((xs.length - 1) * 3) (Builtin.zeroCells (Value.agg #[(.string ⟨#[]⟩), (.bool false), (.string ⟨#[]⟩)]).cells 1).toList (by rw [hz]; exact hlf)
  have e2 := spliced_flat (xs.take i ++ xs.drop (i + 1)) (L ++ rest) (Builtin.zeroCells (Value.agg #[(.string ⟨#[]⟩), (.bool false), (.string ⟨#[]⟩)]).cells 1).toList
  rw [hln] at e2
  rw [e2, List.append_assoc] at hI2
  rw [e2] at hclr
  have hfin : ∀ w', w' = w1.setRow g (flat (xs.take i ++ xs.drop (i + 1)) ++ (Builtin.zeroCells (Value.agg #[(.string ⟨#[]⟩), (.bool false), (.string ⟨#[]⟩)]).cells 1).toList ++ (L ++ rest).drop (Builtin.zeroCells (Value.agg #[(.string ⟨#[]⟩), (.bool false), (.string ⟨#[]⟩)]).cells 1).toList.length).toArray →
      Kd.R k48 48 w' base (fun _ => True) (.slice (some ⟨g, 0, none⟩) (xs.length - 1) cap) (xs.take i ++ xs.drop (i + 1)) ∧ Below base w w' := fun w' hw' => by
    subst hw'
    have := im_R (base := base) (ok := fun _ => True) (w := w1.setRow g (flat (xs.take i ++ xs.drop (i + 1)) ++ (Builtin.zeroCells (Value.agg #[(.string ⟨#[]⟩), (.bool false), (.string ⟨#[]⟩)]).cells 1).toList ++ (L ++ rest).drop (Builtin.zeroCells (Value.agg #[(.string ⟨#[]⟩), (.bool false), (.string ⟨#[]⟩)]).cells 1).toList.length).toArray) (by rw [List.append_assoc]; exact hI2) (by rw [hln]; omega) hg trivial
    rw [hln] at this
    exact ⟨this, below_row hB1 hg _⟩
  by_cases hc : cap = i + 1
  · have hxl : xs.length = i + 1 := by omega
    have happ : ∀ ty, (Builtin.append_ #[44, 44] ty #[.slice (some ⟨g, 0, none⟩) i (i + 1), .slice (some ⟨g, 0, none⟩) 0 0]).run Tryz.prog w.drew = .ok (.slice (some ⟨g, 0, none⟩) i (i + 1)) w1 := fun ty => by
      have hnil : xs.drop (i + 1) = [] := List.drop_eq_nil_of_le (by omega)
      have := run_append41_room hID ty i 0 0 ⟨g, 0, none⟩ [] rfl (by simp) (by simp) (by omega)
      rw [hnil] at e1
      rw [show flat ([] : List S48) = [] from rfl] at e1
      rw [e1, Nat.add_zero, hc] at this
      rw [hw1, hnil]
      exact this
    rw [hxl, hc]
    refine (delete_walk_last i g w w1 _ (by omega) happ (fun ty => by have := hclr ty 1; rw [hxl, Nat.add_sub_cancel] at this; exact this)).mono ?_
    rintro e w' ⟨rfl, hw'⟩
    have := hfin w' hw'
    rw [hxl, Nat.add_sub_cancel, hc] at this
    exact ⟨_, rfl, this⟩
  · have happ : ∀ ty, (Builtin.append_ #[44, 44] ty #[.slice (some ⟨g, 0, none⟩) i cap, .slice (some ⟨g, (i + 1) * 3, none⟩) (xs.length - (i + 1)) (cap - (i + 1))]).run Tryz.prog w.drew = .ok (.slice (some ⟨g, 0, none⟩) (xs.length - 1) cap) w1 := fun ty => by
      have := run_append41_room hID ty i (xs.length - (i + 1)) (cap - (i + 1)) ⟨g, (i + 1) * 3, none⟩ (flat (xs.drop (i + 1))) hdr (fun j u hj => by
        have h2 := hID.get ((i + 1) * 3) ((xs.length - (i + 1)) * 3) j u
        rw [List.drop_append_of_le_length (by rw [flat_length]; omega), flat_drop, List.take_append_of_le_length (by rw [hdr]; exact Nat.le_refl _), List.take_of_length_le (by rw [hdr]; exact Nat.le_refl _)] at h2
        exact h2 hj) (flat_one _) (by omega)
      rw [e1, show i + (xs.length - (i + 1)) = xs.length - 1 by omega, ← hw1] at this
      exact this
    refine (delete_walk xs.length i cap g w w1 _ hl hi hlc hI.2.2 hc happ (fun ty => hclr ty _)).mono ?_
    rintro e w' ⟨rfl, hw'⟩
    exact ⟨_, rfl, hfin w' hw'⟩
end Go.Proofs.YteblpjnkinghoaaGreat.J
/- The contracts of slices.ContainsFunc, slices.Clone and slices.BinarySearchFunc at images, as journal.Apply calls them. -/
namespace Go.Proofs.YteblpjnkinghoaaGreat.J
open Go.BigFrame Go.RowKit Go.Proofs.YteblpjnkinghoaaGreatW.PrintWords Go.Proofs.YteblpjnkinghoaaGreatW.PrintLast Go.Proofs.YteblpjnkinghoaaGreatW.PrintMore
theorem not_img_calls (x : S48) (w : World) : Calls Tryz.prog 55 #[.agg #[.string x.f0, .bool x.f1, .string x.f2]] w fun e w' => e = .returned (.bool (!img x)) ∧ Below w.heap.size w w' := by
  have hnot : ∀ (x : Bool) (w : World), (Op.unary .not (.bool x)).run Tryz.prog w = .ok (.bool (!x)) w := fun _ _ => rfl
  go_enter Tryz.func55, Tryz.ntmps55
  go_wp2_with fail
  refine (img_calls x _).mono ?_
  rintro e w1 ⟨rfl, hb⟩
  go_wp2
  go_ret
  exact ⟨rfl, below_step ((Below.refl _ _).alloc (Nat.le_refl _) _) hb⟩
/-- The first image of which p holds, from k on. -/
def idx41 (p : S48 → Bool) : List S48 → Int → Int
  | [], _ => -1
  | n :: l, k => if p n then k else idx41 p l (k + 1)
theorem idx41_any (p : S48 → Bool) : ∀ (l : List S48) (k : Int), 0 ≤ k → decide (0 ≤ idx41 p l k) = l.any p
  | [], _, _ => rfl
  | n :: l, k, h => by
    unfold idx41
    rw [List.any_cons]
    cases hp : p n
    · simpa using idx41_any p l (k + 1) (by omega)
    · simp [h]
theorem index41_calls (A0 : Option Addr) (c0 : Nat) (l0 : List S48) (w : World) (hr0 : Kd.C k48 w A0 l0.length l0) :
    Calls Tryz.prog 76 #[.slice A0 l0.length c0, .func (.func 55) #[] #[]] w fun e w' => e = .returned (.int .i64 (idx41 (fun n => !img n) l0 0)) ∧ Below w.heap.size w w' := by
  have HR0 := Aside0.mk hr0
  have hlm : l0.length ≤ 9223372036854775807 := Kd.C_max hr0
  clear hr0
  go_enter Tryz.func76, Tryz.ntmps76
  go_wp2
  go_loopg [8] (l0.length + 1) (fun kq v8 w' => ∃ k : Nat, k ≤ l0.length ∧ v8 = .int .i64 k ∧ Aside0 (kq + k = l0.length + 1) ∧ Aside0 (idx41 (fun n => !img n) l0 0 = idx41 (fun n => !img n) (l0.drop k) k) ∧ Aside0 (Below w.heap.size w w'))
  case atStart => exact ⟨0, Nat.zero_le _, rfl, ⟨by omega⟩, ⟨by simp⟩, ⟨Below.refl _ _⟩⟩
  case round =>
    obtain ⟨k, hk, rfl, HQ, HX, HB⟩ := hrel
    by_cases hlt : k < l0.length
    · obtain ⟨ad, rfl, h0, h1, h2⟩ := at_T48 (Kd.C_below HR0.out HB.out) (k : Int) (by omega) (by omega)
      rw [Int.toNat_natCast] at h0 h1 h2
      have hd := drop_rd48 hlt
      generalize rd_T48 l0 (k : Int) = n at h0 h1 h2 hd
      have HX' := Aside0.mk (HX.out.trans (congrArg (fun l => idx41 (fun n => !img n) l k) hd))
      clear hd HX
      have HC := Aside0.mk (fun w => not_img_calls n w)
      cases hv : img n
      · rw [hv] at HC
        have HY := Aside0.mk (HX'.out.trans (show idx41 (fun n => !img n) (n :: l0.drop (k + 1)) k = k by unfold idx41; rw [hv]; rfl))
        clear hv HX'
        go_wp2_with (go_at_call 55; refine (HC.out _).mono ?_; rintro e w1 ⟨rfl, hb⟩)
        go_ret
        exact ⟨by rw [HY.out]; rfl, below_step HB.out hb⟩
      · rw [hv] at HC
        have HY := Aside0.mk (HX'.out.trans (show idx41 (fun n => !img n) (n :: l0.drop (k + 1)) k = idx41 (fun n => !img n) (l0.drop (k + 1)) (k + 1) by rw [idx41]; rw [hv]; rfl))
        clear hv HX'
        go_wp2_with (go_at_call 55; refine (HC.out _).mono ?_; rintro e w1 ⟨rfl, hb⟩)
        go_roundg (gk - 1)
        case measure => have := HQ.out; omega
        case rel => exact ⟨k + 1, by omega, by go_num, ⟨by have := HQ.out; omega⟩, ⟨by rw [HY.out]; rfl⟩, ⟨below_step HB.out hb⟩⟩
    · have hke : k = l0.length := by omega
      subst hke
      have HY := Aside0.mk (HX.out.trans (show idx41 (fun n => !img n) (l0.drop l0.length) l0.length = -1 by rw [List.drop_length]; rfl))
      clear HX
      go_wp2
      go_ret
      exact ⟨by rw [HY.out]; rfl, HB.out⟩
theorem contains41_calls (A0 : Option Addr) (c0 : Nat) (l0 : List S48) (w : World) (hr0 : Kd.C k48 w A0 l0.length l0) :
    Calls Tryz.prog 54 #[.slice A0 l0.length c0, .func (.func 55) #[] #[]] w fun e w' => e = .returned (.bool (!l0.all img)) ∧ Below w.heap.size w w' := by
  have HR0 := Aside0.mk hr0
  clear hr0
  have HI := Aside0.mk ((idx41_any (fun n => !img n) l0 0 (by omega)).trans (show l0.any (fun n => !img n) = !l0.all img by rw [List.all_eq_not_any_not, Bool.not_not]))
  go_enter Tryz.func54, Tryz.ntmps54
  go_wp2_with (go_at_call 76; refine (index41_calls _ _ _ _ HR0.out).mono ?_; rintro e w1 ⟨rfl, hb⟩)
  go_ret
  exact ⟨by rw [← HI.out]; rfl, hb⟩
set_option maxRecDepth 100000 in
/-- slices.Clone. -/
theorem clone_calls (A0 : Option Addr) (c0 : Nat) (l0 : List S48) (w : World) (hr0 : Kd.C k48 w A0 l0.length l0) (hl : l0.length ≤ 1000000) :
    Calls Tryz.prog 56 #[.slice A0 l0.length c0] w fun e w' => ∃ v : Value, e = .returned v ∧ Kd.R k48 48 w' w.heap.size (fun _ => True) v l0 ∧ Below w.heap.size w w' := by
  have q22 : ∀ (w : World) (a : Option Addr) (n c n' c' : Nat), (binOp .eql 44 (.slice a n c) (.slice none n' c')).run Tryz.prog w = .ok (.bool a.isNone) w := fun w a n c n' c' => Lib.run_eql_slice_nil w _ _ a n c n' c' Tryz.underlying44
  cases A0 with
  | none =>
    have h0 : l0 = [] := by
      cases l0 with
      | nil => rfl
      | cons x l => obtain ⟨ad, h, _⟩ := hr0.2.2 (by simp); cases h
    subst h0
    clear hr0
    go_enter Tryz.func56, Tryz.ntmps56
    go_wp2
    go_ret
    exact ⟨_, rfl, Kd.R_nil _ _ _ _ _, Below.refl _ _⟩
  | some ad =>
    have HR0 := Aside0.mk hr0
    clear hr0
    go_enter Tryz.func56, Tryz.ntmps56
    go_wp2_with (first | (at_builtin; refine Kd.R_append_rows k48 (Rr := k48.K w) (w0 := w) w.heap.size rfl (.tmp 5) (.tmp 6) 44 48 (.agg #[(.string ⟨#[]⟩), (.bool false), (.string ⟨#[]⟩)]) 40 rfl Tryz.underlying44 info48 rfl (by decide) (by decide) _ [] l0 (some ad) l0.length c0 (fun _ => True) (fun _ => False) rfl rfl ?aO ?aR ?aK (fun _ hk => hk.elim) (fun _ _ => trivial) ?aB ?aS ?aL ?_; (case aO => exact R_lit0 w w.heap.size _ (Nat.le_refl _) trivial); (case aR => exact ReadsRow.imp_ HR0.out ((Below.refl _ _).alloc (Nat.le_refl _) _) (fun _ _ hp => hp)); (case aK => exact fun x cs hx => k48_KM _ _ _ x cs hx); (case aB => exact (Below.refl _ _).alloc (Nat.le_refl _) _); (case aS => simp); (case aL => simp; omega); intro v1 w1 ho hb _ _; rw [List.nil_append] at ho))
    go_ret
    exact ⟨_, rfl, ho, hb⟩
/-- strings.Compare's number. -/
def cmpV (a b : ByteArray) : Int := Lib.compareBytes a.data.toList b.data.toList
theorem compare0_calls (a b : ByteArray) (w : World) : Calls Tryz.prog 77 #[.string a, .string b] w fun e w' => e = .returned (.int .i64 (cmpV a b)) ∧ Below w.heap.size w w' := by
  have hc : (callFunc 98 #[.string a, .string b]).run Tryz.prog w = .ok (.value (.int .i64 (cmpV a b))) w := by
    rw [run_callFunc_extern Tryz.func98 (by kernel_rfl) (by kernel_rfl) (by kernel_rfl) (e := Extern.BytealgCompare.compare) (by kernel_rfl), Lib.run_compareString]
    rfl
  go_enter Tryz.func77, Tryz.ntmps77
  go_wp2_with (simp only [hc])
  go_ret
  exact ⟨rfl, Below.refl _ _⟩
theorem compare_calls (a b : ByteArray) (w : World) : Calls Tryz.prog 59 #[.string a, .string b] w fun e w' => e = .returned (.int .i64 (cmpV a b)) ∧ Below w.heap.size w w' := by
  go_enter Tryz.func59, Tryz.ntmps59
  go_wp2_with fail
  refine (compare0_calls a b _).mono ?_
  rintro e w1 ⟨rfl, hb⟩
  go_wp2
  go_ret
  exact ⟨rfl, hb⟩
theorem cmp_calls (x : S48) (k : ByteArray) (w : World) : Calls Tryz.prog 58 #[.agg #[.string x.f0, .bool x.f1, .string x.f2], .string k] w fun e w' => e = .returned (.int .i64 (cmpV x.f0 k)) ∧ Below w.heap.size w w' := by
  go_enter Tryz.func58, Tryz.ntmps58
  go_wp2_with fail
  refine (compare_calls x.f0 k _).mono ?_
  rintro e w1 ⟨rfl, hb⟩
  go_wp2
  go_ret
  exact ⟨rfl, below_step ((Below.refl _ _).alloc (Nat.le_refl _) _) hb⟩
theorem cmpB_less : ∀ (a b : List UInt8), decide (Lib.compareBytes a b < 0) = Op.bytesLess a b
  | [], [] => rfl
  | [], _ :: _ => rfl
  | _ :: _, [] => rfl
  | x :: a, y :: b => by
    unfold Lib.compareBytes Op.bytesLess
    by_cases h1 : x < y
    · simp [h1]
    · by_cases h2 : y < x
      · have hne : ¬ (x = y) := fun e => by subst e; exact h1 h2
        simp [h1, h2, hne]
      · have he : x = y := UInt8.le_antisymm (UInt8.not_lt.1 h2) (UInt8.not_lt.1 h1)
        subst he
        simp [h1, cmpB_less a b]
theorem cmpB_eq : ∀ (a b : List UInt8), Lib.compareBytes a b = 0 ↔ a = b
  | [], [] => by simp [Lib.compareBytes]
  | [], _ :: _ => by simp [Lib.compareBytes]
  | _ :: _, [] => by simp [Lib.compareBytes]
  | x :: a, y :: b => by
    unfold Lib.compareBytes
    by_cases h1 : x < y
    · have hne : ¬ (x = y) := fun e => by subst e; exact UInt8.lt_irrefl _ h1
      simp [h1, hne]
    · by_cases h2 : y < x
      · have hne : ¬ (x = y) := fun e => by subst e; exact h1 h2
        simp [h1, h2, hne]
      · have he : x = y := UInt8.le_antisymm (UInt8.not_lt.1 h2) (UInt8.not_lt.1 h1)
        subst he
        simp [h1, cmpB_eq a b]
theorem cmpV_less (a b : ByteArray) : decide (cmpV a b < 0) = kless a b := by
  unfold cmpV kless
  rw [cmpB_less, ByteArray.toList_eq, ByteArray.toList_eq]
theorem cmpV_eq (a b : ByteArray) : cmpV a b = 0 ↔ a = b := by
  unfold cmpV
  rw [cmpB_eq]
  cases a; cases b
  simp
/-- Where a key's place is. -/
def kpos (xs : List S48) (k : ByteArray) : Nat := (xs.takeWhile fun y => kless y.f0 k).length
def kthere (xs : List S48) (k : ByteArray) : Bool := decide (kpos xs k < xs.length) && decide ((rd_T48 xs (kpos xs k)).f0 = k)
set_option maxHeartbeats 1000000 in
set_option maxRecDepth 100000 in
/-- slices.BinarySearchFunc, where what stands before the key's place stands at the beginning. -/
theorem search_calls (xs : List S48) (key : ByteArray) (A : Option Addr) (c : Nat) (w : World) (hC : Kd.C k48 w A xs.length xs) (hl : xs.length ≤ 1000000)
    (hs : ∀ t, kpos xs key ≤ t → t < xs.length → kless (rd_T48 xs (t : Int)).f0 key = false) :
    Calls Tryz.prog 57 #[.slice A xs.length c, .string key, .func (.func 58) #[] #[]] w fun e w' => e = .returned (.tuple #[.int .i64 (kpos xs key), .bool (kthere xs key)]) ∧ Below w.heap.size w w' := by
  have HC := Aside0.mk hC
  have HS := Aside0.mk hs
  have HT := Aside0.mk (show kthere xs key = (decide (kpos xs key < xs.length) && decide ((rd_T48 xs (kpos xs key)).f0 = key)) from rfl)
  have HW := Aside0.mk (show ∀ t, t < kpos xs key → kless (rd_T48 xs (t : Int)).f0 key = true from fun t ht => tw_at (fun y => kless y.f0 key) xs t ht)
  have hk : kpos xs key ≤ xs.length := tw_le _ _
  clear hC hs
  generalize kpos xs key = kp at *
  generalize kthere xs key = th at *
  go_enter Tryz.func57, Tryz.ntmps57
  go_wp2
  go_loopg [9, 10] (xs.length + 1) (fun kq v9 v10 w' => ∃ i j : Nat, v9 = .int .i64 i ∧ v10 = .int .i64 j ∧ i ≤ kp ∧ kp ≤ j ∧ j ≤ xs.length ∧ Aside0 (kq + i = j + 1) ∧ Aside0 (Below w.heap.size w w'))
  case atStart => exact ⟨0, xs.length, rfl, rfl, by omega, hk, by omega, ⟨by omega⟩, ⟨Below.refl _ _⟩⟩
  case round =>
    obtain ⟨i, j, rfl, rfl, hi, hj, hjn, HQ, HB⟩ := hrel
    by_cases hlt : i < j
    · go_upto_region 5 with (fail)
      obtain ⟨h, hh⟩ : ∃ h : Nat, ((i : Int) + (j : Int)) / 2 = h := ⟨(i + j) / 2, by omega⟩
      have hih : i ≤ h := by omega
      have hhj : h < j := by omega
      simp only [hh]
      clear hh
      obtain ⟨ad, rfl, h0, h1, h2⟩ := at_T48 (Kd.C_below HC.out HB.out) (h : Int) (by omega) (by omega)
      rw [Int.toNat_natCast] at h0 h1 h2
      by_cases hkk : h < kp
      · have hv : kless (rd_T48 xs (h : Int)).f0 key = true := HW.out h hkk
        generalize rd_T48 xs (h : Int) = x at h0 h1 h2 hv
        have hcv : decide (cmpV x.f0 key < 0) = true := by rw [cmpV_less]; exact hv
        have HCL := Aside0.mk (fun w => cmp_calls x key w)
        clear hv
        generalize cmpV x.f0 key = cv at HCL hcv
        go_wp2_with (go_at_call 58; refine (HCL.out _).mono ?_; rintro e w1 ⟨rfl, hb⟩)
        go_roundg (j - h)
        case measure => have := HQ.out; omega
        case rel => exact ⟨h + 1, j, by go_num, rfl, by omega, by omega, by omega, ⟨by omega⟩, ⟨below_step HB.out hb⟩⟩
      · have hv : kless (rd_T48 xs (h : Int)).f0 key = false := HS.out h (by omega) (by omega)
        generalize rd_T48 xs (h : Int) = x at h0 h1 h2 hv
        have hcv : decide (cmpV x.f0 key < 0) = false := by rw [cmpV_less]; exact hv
        have HCL := Aside0.mk (fun w => cmp_calls x key w)
        clear hv
        generalize cmpV x.f0 key = cv at HCL hcv
        go_wp2_with (go_at_call 58; refine (HCL.out _).mono ?_; rintro e w1 ⟨rfl, hb⟩)
        go_roundg (h - i + 1)
        case measure => have := HQ.out; omega
        case rel => exact ⟨i, h, rfl, rfl, by omega, by omega, by omega, ⟨by omega⟩, ⟨below_step HB.out hb⟩⟩
    · have : i = kp := by omega
      subst this
      by_cases hlt2 : i < xs.length
      · obtain ⟨ad, rfl, h0, h1, h2⟩ := at_T48 (Kd.C_below HC.out HB.out) (i : Int) (by omega) (by omega)
        rw [Int.toNat_natCast] at h0 h1 h2
        have HT2 := Aside0.mk (show th = decide ((rd_T48 xs (i : Int)).f0 = key) by rw [HT.out, decide_eq_true hlt2, Bool.true_and])
        generalize rd_T48 xs (i : Int) = x at h0 h1 h2 HT2
        have hcv : (cmpV x.f0 key == 0) = th := by rw [HT2.out, Bool.eq_iff_iff]; simp [cmpV_eq]
        have HCL := Aside0.mk (fun w => cmp_calls x key w)
        clear HT HT2
        have d1 : decide ((i : Int) < (xs.length : Int)) = true := decide_eq_true (by omega)
        generalize cmpV x.f0 key = cv at HCL hcv
        go_wp2_with (go_at_call 58; refine (HCL.out _).mono ?_; rintro e w1 ⟨rfl, hb⟩)
        go_ret2
        exact ⟨rfl, below_step HB.out hb⟩
      · have ht : th = false := by rw [HT.out, decide_eq_false hlt2, Bool.false_and]
        subst ht
        clear HT
        have d1 : decide ((i : Int) < (xs.length : Int)) = false := decide_eq_false (by omega)
        go_wp2
        go_ret2
        exact ⟨rfl, HB.out⟩
end Go.Proofs.YteblpjnkinghoaaGreat.J
