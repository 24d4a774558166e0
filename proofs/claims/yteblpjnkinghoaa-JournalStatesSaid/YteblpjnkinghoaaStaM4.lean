/- Lemmas and contracts (part 4) on which the claim's last text leans: The law JournalStates holds of every input: it returns true, and its arguments read behind the call as they read before. Conditions: none. -/
import Derived.Test.YteblpjnkinghoaaStaM3
import Derived.Test.YteblpjnkinghoaaStaM1
import Derived.Test.YteblpjnkinghoaaStaM2
set_option linter.unusedVariables false
set_option linter.unusedSimpArgs false
/- The contract of journal.Apply. -/
namespace Go.Proofs.Yteblpjnkinghoaa.J
open Go.BigFrame Go.RowKit Go.Proofs.YteblpjnkinghoaaW.PrintWords Go.Proofs.YteblpjnkinghoaaW.PrintLast Go.Proofs.YteblpjnkinghoaaW.PrintMore
/-- Whether images are a state, as journal.ordered has it. -/
def ordV (l : List S41) : Bool := (List.range l.length).all (goodAt l) && decide (l.length ≤ 500)
def journal_Apply.f (l0 : List (S41)) (l1 : List (S41)) : Option ((List (S41)) × Int) :=
  if l1.length ≤ 900000 then
    (if ordV l0 = true ∧ l1.all img = true then (if 500 < (l1.foldl apStep l0).length then some ([], 4) else some (l1.foldl apStep l0, 0)) else some ([], 1))
  else none
theorem Im.set3 {w : World} {g cap : Nat} {cs : List Value} (h : Im w g cap cs) (o : Nat) (x : S41) (hf : o + 3 ≤ cs.length) :
    Im (((w.setCell ⟨g, o, none⟩ (.string x.f0)).setCell ⟨g, o + 1, none⟩ (.bool x.f1)).setCell ⟨g, o + 2, none⟩ (.string x.f2)) g cap (spliced cs o (cells3 x)) := by
  obtain ⟨cur', h1, h2, h3⟩ := setCells_row (cells3 x) o w cs.toArray h.1 (by simpa [cells3] using hf)
  refine ⟨?_, by rw [spliced_length _ _ _ (by simpa [cells3] using hf)]; exact h.2.1, h.2.2⟩
  have e : cur' = (spliced cs o (cells3 x)).toArray := Array.ext' (by rw [h3]; rfl)
  rw [e] at h1
  exact h1
theorem apply_no (A0 : Option Addr) (c0 : Nat) (l0 : List (S41)) (A1 : Option Addr) (c1 : Nat) (l1 : List (S41)) (w : World) (hr0 : Kd.C k41 w A0 l0.length l0) (hc0 : l0.length ≤ c0) (hr1 : Kd.C k41 w A1 l1.length l1) (hc1 : l1.length ≤ c1) (h : ¬ (ordV l0 = true ∧ l1.all img = true)) :
    Calls Try.prog 20 #[.slice A0 l0.length c0, .slice A1 l1.length c1] w fun e w' => e = .returned (.tuple #[.slice none 0 0, .int .i64 1]) ∧ Below w.heap.size w w' := by
  have HR0 := Aside0.mk hr0
  have HC0 := Aside0.mk hc0
  have HR1 := Aside0.mk hr1
  have HC1 := Aside0.mk hc1
  have HO := Aside0.mk (show journal_ordered.f l0 = some (ordV l0) from rfl)
  clear hr0 hc0 hr1 hc1
  cases ho : ordV l0 with
  | false =>
    rw [ho] at HO
    clear h ho
    go_enter Try.func20, Try.ntmps20
    go_wp2_with (go_at_call 36; refine (journal_ordered.calls _ _ _ _ _ HR0.out HC0.out HO.out).mono ?_; rintro r w1 ⟨rfl, hb⟩)
    go_ret2
    exact ⟨rfl, hb⟩
  | true =>
    have hi : l1.all img = false := Bool.eq_false_iff.2 (fun hi => h ⟨ho, hi⟩)
    rw [ho] at HO
    have HI := Aside0.mk hi
    clear h ho hi
    go_enter Try.func20, Try.ntmps20
    go_wp2_with (first | (go_at_call 36; refine (journal_ordered.calls _ _ _ _ _ HR0.out HC0.out HO.out).mono ?_; rintro r w1 ⟨rfl, hb⟩) | (go_at_call 42; refine (contains41_calls _ _ _ _ (Kd.C_below HR1.out hb)).mono ?_; rintro r w2 ⟨rfl, hb2⟩; rw [HI.out]))
    go_ret2
    exact ⟨rfl, below_step hb hb2⟩
set_option maxHeartbeats 4000000 in
set_option maxRecDepth 100000 in
theorem apply_yes (A0 : Option Addr) (c0 : Nat) (l0 : List (S41)) (A1 : Option Addr) (c1 : Nat) (l1 : List (S41)) (w : World) (hr0 : Kd.C k41 w A0 l0.length l0) (hc0 : l0.length ≤ c0) (hr1 : Kd.C k41 w A1 l1.length l1) (hc1 : l1.length ≤ c1) (ho : ordV l0 = true) (hi : l1.all img = true) (hl : l1.length ≤ 900000)
    (r1 : List S41) (r2 : Int) (hr : (if 500 < (l1.foldl apStep l0).length then (([] : List S41), (4 : Int)) else (l1.foldl apStep l0, 0)) = (r1, r2)) :
    Calls Try.prog 20 #[.slice A0 l0.length c0, .slice A1 l1.length c1] w fun e w' => ∃ v0_ : Value, e = .returned (.tuple #[v0_, .int .i64 r2]) ∧ Kd.R k41 41 w' w.heap.size (fun _ => True) v0_ r1 ∧ Below w.heap.size w w' := by
  have hl0 : l0.length ≤ 500 := by unfold ordV at ho; simp at ho; exact ho.2
  have hso : Sorted l0 := good_sorted (by unfold ordV at ho; rw [Bool.and_eq_true] at ho; exact ho.1)
  have HSO := Aside0.mk hso
  have HR0 := Aside0.mk hr0
  have HC0 := Aside0.mk hc0
  have HR1 := Aside0.mk hr1
  have HC1 := Aside0.mk hc1
  have HI := Aside0.mk hi
  have HRR := Aside0.mk hr
  have HO := Aside0.mk (show journal_ordered.f l0 = some true by rw [← ho]; rfl)
  clear hr0 hc0 hr1 hc1 hi ho hso hr
  go_enter Try.func20, Try.ntmps20
  go_wp2_with (first | (go_at_call 36; refine (journal_ordered.calls _ _ _ _ _ HR0.out HC0.out HO.out).mono ?_; rintro r w1 ⟨rfl, hb⟩) | (go_at_call 42; refine (contains41_calls _ _ _ _ (Kd.C_below HR1.out hb)).mono ?_; rintro r w2 ⟨rfl, hb2⟩; rw [HI.out]) | (go_at_call 45; refine (clone_calls _ _ _ _ (Kd.C_below (Kd.C_below HR0.out hb) hb2) (by omega)).mono ?_; rintro r w3 ⟨v3, rfl, ho3, hb3⟩))
  have hB3 := below_step (below_step hb hb2) hb3
  have HO3 := Aside0.mk (Kd.R_lower ho3 (below_size (below_step hb hb2)))
  have HB3 := Aside0.mk hB3
  clear hb hb2 hb3 ho3 hB3 HR0 HC0 HO HI
  go_loopg [6, 22] (l1.length + 1) (fun kq v6 v22 w' => ∃ (i : Nat) (cur : List S41), v22 = .int .i64 i ∧ i ≤ l1.length ∧ Aside0 (kq + i = l1.length + 1) ∧ Aside0 ((l1.drop i).foldl apStep cur = l1.foldl apStep l0) ∧ Aside0 (cur.length ≤ 500 + i) ∧ Aside0 (Sorted cur) ∧ Aside0 (Kd.R k41 41 w' w.heap.size (fun _ => True) v6 cur) ∧ Aside0 (Below w.heap.size w w'))
  case atStart => exact ⟨0, l0, rfl, by omega, ⟨by omega⟩, ⟨rfl⟩, ⟨by omega⟩, HSO, HO3, HB3⟩
  case round =>
    clear HO3 HB3 HSO
    obtain ⟨i, cur, rfl, hi, HQ, HS, HL, HSO, HO, HB⟩ := hrel
    by_cases hlt : i < l1.length
    · obtain ⟨a1, rfl, h0, h1, h2⟩ := at_T41 (Kd.C_below HR1.out HB.out) (i : Int) (by omega) (by omega)
      rw [Int.toNat_natCast] at h0 h1 h2
      have HS2 := Aside0.mk (show (l1.drop (i + 1)).foldl apStep (apStep cur (rd_T41 l1 (i : Int))) = l1.foldl apStep l0 by rw [← HS.out, drop_rd41 hlt]; rfl)
      generalize rd_T41 l1 (i : Int) = x at h0 h1 h2 HS2
      clear HS
      obtain ⟨A, c, hv6, hlc, hC⟩ := Kd.R_reads HO.out
      subst hv6
      have HSE := Aside0.mk (fun (w' : World) (hC : Kd.C k41 w' A cur.length cur) => search_calls cur x.f0 A c w' hC (by have := HL.out; omega) (fun t h1 h2 => sorted_behind HSO.out x.f0 t h1 h2))
      have hkl : kpos cur x.f0 ≤ cur.length := tw_le _ _
      clear hC
      have hkk := heap_alloc_new wr (.cells #[.string x.f0, .bool x.f1, .string x.f2] 41)
      have HB5 := Aside0.mk (HB.out.alloc (below_size HB.out) (.cells #[.string x.f0, .bool x.f1, .string x.f2] 41))
      have HO5 := Aside0.mk (show Kd.R k41 41 (wr.alloc (.cells #[.string x.f0, .bool x.f1, .string x.f2] 41)) w.heap.size (fun k => k ≠ wr.heap.size) (.slice A cur.length c) cur from Kd.R_alloc (Kd.R_mono (Kd.R_bound HO.out) (fun k hk => by have := hk.2.2.1; omega)) _)
      obtain ⟨tb, htb⟩ : ∃ tb, tb = wr.heap.size := ⟨_, rfl⟩
      go_upto_region 8 with (first | (go_at_call 46; generalize wr.alloc (.cells #[.string x.f0, .bool x.f1, .string x.f2] 41) = w5 at hkk HB5 HO5 ⊢; refine (HSE.out _ (R_C41 HO5.out).1).mono ?_; rintro r w6 ⟨rfl, hb6⟩))
      have HB6 := Aside0.mk (below_step HB5.out hb6)
      have HO6 := Aside0.mk (Kd.R_below HO5.out hb6)
      have hk6 := (hb6.block _ (Array.getElem?_eq_some_iff.1 hkk).1).trans hkk
      have hlt6 := (Array.getElem?_eq_some_iff.1 hk6).1
      clear HSE HB5 HO5 hkk hb6 HO HB h0 h1 h2 htb
      have hkt : kthere cur x.f0 = true → kpos cur x.f0 < cur.length := fun h => by unfold kthere at h; simp at h; exact h.1
      obtain ⟨x0, x1, x2⟩ := x
      have hc0 := (blk_cell hk6 0).trans (show _ = some (Value.string x0) from rfl)
      have hc1 := (blk_cell hk6 1).trans (show _ = some (Value.bool x1) from rfl)
      have hc2 := (blk_cell hk6 2).trans (show _ = some (Value.string x2) from rfl)
      have HAL := Aside0.mk (apStep_le cur ⟨x0, x1, x2⟩)
      have HAS := Aside0.mk (apStep_sorted HSO.out ⟨x0, x1, x2⟩)
      clear hk6 HSO
      simp only at hkt hkl ⊢
      cases x1
      · cases ht : kthere cur x0
        · have HAP := Aside0.mk (apStep_no (cur := cur) (x := ⟨x0, false, x2⟩) rfl ht)
          clear ht hkt
          generalize kpos cur x0 = kp at hkl ⊢
          go_wp2
          go_roundg (gk - 1)
          case measure => have := HQ.out; omega
          case rel => exact ⟨i + 1, _, rfl, by omega, ⟨by have := HQ.out; omega⟩, HS2, ⟨by have := HL.out; have := HAL.out; omega⟩, HAS, ⟨by rw [HAP.out]; exact Kd.R_mono HO6.out (fun _ _ => trivial)⟩, HB6⟩
        · have HAP := Aside0.mk (apStep_del (cur := cur) (x := ⟨x0, false, x2⟩) rfl ht)
          have hkl2 := hkt ht
          clear ht hkt
          change Aside0 (apStep cur ⟨x0, false, x2⟩ = cur.take (kpos cur x0) ++ cur.drop (kpos cur x0 + 1)) at HAP
          generalize kpos cur x0 = kp at hkl hkl2 HAP ⊢
          have hkb : kp ≤ 2000000 := by have := HL.out; omega
          have HDE := Aside0.mk (delete_calls cur w.heap.size kp _ w6 (Kd.R_mono HO6.out (fun _ _ => trivial)) (by have := HL.out; omega) hkl2)
          go_wp2_with (go_at_call 50; refine HDE.out.mono ?_; rintro r w7 ⟨v7, rfl, ho7, hb7⟩)
          go_roundg (gk - 1)
          case measure => have := HQ.out; omega
          case rel => exact ⟨i + 1, _, rfl, by omega, ⟨by have := HQ.out; omega⟩, HS2, ⟨by have := HL.out; have := HAL.out; omega⟩, HAS, ⟨by rw [HAP.out]; exact ho7⟩, ⟨HB6.out.trans hb7⟩⟩
      · cases ht : kthere cur x0
        · have HAP := Aside0.mk (apStep_ins (cur := cur) (x := ⟨x0, true, x2⟩) rfl ht)
          clear ht hkt
          change Aside0 (apStep cur ⟨x0, true, x2⟩ = cur.take (kpos cur x0) ++ ⟨x0, true, x2⟩ :: cur.drop (kpos cur x0)) at HAP
          generalize kpos cur x0 = kp at hkl HAP ⊢
          have HIN := Aside0.mk (insert_calls cur ⟨x0, true, x2⟩ w6.heap.size w.heap.size kp (.slice A cur.length c) (w6.alloc (.cells #[.string x0, .bool true, .string x2] 41)) (Kd.R_alloc (Kd.R_mono (Kd.R_bound HO6.out) (fun k hk => by have := hk.2.2.1; omega)) _) (heap_alloc_new _ _) (by have := below_size HB6.out; simp; omega) (by have := HL.out; omega) hkl)
          have HB6' := Aside0.mk (HB6.out.alloc (below_size HB6.out) (.cells #[.string x0, .bool true, .string x2] 41))
          go_wp2_with (go_at_call 49; refine HIN.out.mono ?_; rintro r w7 ⟨v7, rfl, ho7, hb7⟩)
          go_roundg (gk - 1)
          case measure => have := HQ.out; omega
          case rel => exact ⟨i + 1, _, rfl, by omega, ⟨by have := HQ.out; omega⟩, HS2, ⟨by have := HL.out; have := HAL.out; omega⟩, HAS, ⟨by rw [HAP.out]; exact ho7⟩, ⟨HB6'.out.trans hb7⟩⟩
        · have HAP := Aside0.mk (apStep_put (cur := cur) (x := ⟨x0, true, x2⟩) rfl ht)
          have hkl2 := hkt ht
          clear ht hkt
          change Aside0 (apStep cur ⟨x0, true, x2⟩ = cur.take (kpos cur x0) ++ ⟨x0, true, x2⟩ :: cur.drop (kpos cur x0 + 1)) at HAP
          generalize kpos cur x0 = kp at hkl hkl2 HAP ⊢
          rcases R_im HO6.out with ⟨hnil, _⟩ | ⟨g, cap, rest, hv, _, hg, hcl, hI⟩
          · subst hnil; simp at hkl2
          injection hv with e1 e2 e3
          subst e1; subst e3
          have hkb : kp ≤ 2000000 := by have := HL.out; omega
          have hcb : cur.length ≤ 2000000 := by have := HL.out; omega
          obtain ⟨y, hy⟩ : ∃ y, cur.drop kp = y :: cur.drop (kp + 1) := ⟨cur[kp], List.drop_eq_getElem_cons hkl2⟩
          have hlt3 : (cur.take kp).length = kp := by rw [List.length_take]; omega
          have e0 : flat cur ++ rest = flat (cur.take kp) ++ (cells3 y ++ (flat (cur.drop (kp + 1)) ++ rest)) := by
            have e : flat cur = flat (cur.take kp) ++ (cells3 y ++ flat (cur.drop (kp + 1))) := by rw [← flat_cons, ← hy, ← flat_append, List.take_append_drop]
            rw [e, List.append_assoc, List.append_assoc]
          have hcell : ∀ j u, (cells3 y)[j]? = some u → w6.cell? ⟨g, kp * 3 + j, none⟩ = some u := fun j u hj => hI.cell _ _ (by
            rw [e0, List.getElem?_append_right (by rw [flat_length, hlt3]; omega), flat_length, hlt3, Nat.add_sub_cancel_left, List.getElem?_append_left (List.getElem?_eq_some_iff.1 hj).1]; exact hj)
          have z0 : w6.cell? ⟨g, kp * 3, none⟩ = some (.string y.f0) := hcell 0 _ rfl
          have z1 := hcell 1 _ rfl
          have z2 := hcell 2 _ rfl
          have f0 := hI.frozen (kp * 3)
          have f1 := hI.frozen (kp * 3 + 1)
          have f2 := hI.frozen (kp * 3 + 2)
          have hI9 := hI.set3 (kp * 3) ⟨x0, true, x2⟩ (by rw [List.length_append, flat_length]; omega)
          have e9 : spliced (flat cur ++ rest) (kp * 3) (cells3 ⟨x0, true, x2⟩) = flat (cur.take kp ++ ⟨x0, true, x2⟩ :: cur.drop (kp + 1)) ++ rest := by
            have h1 := spliced_flat (cur.take kp) (cells3 y ++ (flat (cur.drop (kp + 1)) ++ rest)) (cells3 ⟨x0, true, x2⟩)
            rw [hlt3] at h1
            rw [e0, h1, show (cells3 (⟨x0, true, x2⟩ : S41)).length = (cells3 y).length from rfl, List.drop_left, flat_append, flat_cons]
            simp [List.append_assoc]
          rw [e9] at hI9
          have hln : (cur.take kp ++ ⟨x0, true, x2⟩ :: cur.drop (kp + 1)).length = cur.length := by simp; omega
          have HO9 := Aside0.mk (show Kd.R k41 41 (((w6.setCell ⟨g, kp * 3, none⟩ (.string x0)).setCell ⟨g, kp * 3 + 1, none⟩ (.bool true)).setCell ⟨g, kp * 3 + 2, none⟩ (.string x2)) w.heap.size (fun _ => True) (.slice (some ⟨g, 0, none⟩) cur.length c) (cur.take kp ++ ⟨x0, true, x2⟩ :: cur.drop (kp + 1)) by
            have := im_R (base := w.heap.size) (ok := fun _ => True) hI9 (by rw [hln]; exact hlc) hg trivial
            rwa [hln] at this)
          have HB9 := Aside0.mk (((HB6.out.setCell (p := ⟨g, kp * 3, none⟩) hg (.string x0)).setCell (p := ⟨g, kp * 3 + 1, none⟩) hg (.bool true)).setCell (p := ⟨g, kp * 3 + 2, none⟩) hg (.string x2))
          clear hcell hI e0 hy hI9 e9
          go_wp2
          go_roundg (gk - 1)
          case measure => have := HQ.out; omega
          case rel => exact ⟨i + 1, _, rfl, by omega, ⟨by have := HQ.out; omega⟩, HS2, ⟨by have := HL.out; have := HAL.out; omega⟩, HAS, ⟨by rw [HAP.out]; exact HO9.out⟩, HB9⟩
    · have hi : i = l1.length := by omega
      subst hi
      have HS' := Aside0.mk (show cur = l1.foldl apStep l0 by rw [← HS.out, List.drop_length]; rfl)
      clear HS
      obtain ⟨A, c, hv6, hlc, hC⟩ := Kd.R_reads HO.out
      subst hv6
      clear hC
      rw [← HS'.out] at HRR
      by_cases h5 : 500 < cur.length
      · obtain ⟨rfl, rfl⟩ := Prod.mk.inj (show (([] : List S41), (4 : Int)) = (r1, r2) by rw [← HRR.out, if_pos h5])
        clear HRR
        go_wp2
        go_ret2
        exact ⟨_, rfl, Kd.R_nil _ _ _ _ _, HB.out⟩
      · obtain ⟨rfl, rfl⟩ := Prod.mk.inj (show (cur, (0 : Int)) = (r1, r2) by rw [← HRR.out, if_neg h5])
        clear HRR
        go_wp2
        go_ret2
        exact ⟨_, rfl, HO.out, HB.out⟩
theorem journal_Apply.calls (A0 : Option Addr) (c0 : Nat) (l0 : List (S41)) (A1 : Option Addr) (c1 : Nat) (l1 : List (S41)) (r1 : List (S41)) (r2 : Int) (w : World) (hr0 : Kd.C k41 w A0 l0.length l0) (hc0 : l0.length ≤ c0) (hr1 : Kd.C k41 w A1 l1.length l1) (hc1 : l1.length ≤ c1) (h : journal_Apply.f l0 l1 = some (r1, r2)) :
    Calls Try.prog 20 #[.slice A0 l0.length c0, .slice A1 l1.length c1] w fun e w' => ∃ v0_ : Value, e = .returned (.tuple #[v0_, .int .i64 r2]) ∧ Kd.R k41 41 w' w.heap.size (fun _ => True) v0_ r1 ∧ Below w.heap.size w w' := by
  unfold journal_Apply.f at h
  by_cases hl : l1.length ≤ 900000
  · rw [if_pos hl] at h
    by_cases hv : ordV l0 = true ∧ l1.all img = true
    · rw [if_pos hv] at h
      refine apply_yes A0 c0 l0 A1 c1 l1 w hr0 hc0 hr1 hc1 hv.1 hv.2 hl r1 r2 (Option.some.inj ?_)
      rw [← h]
      split <;> rfl
    · rw [if_neg hv] at h
      obtain ⟨rfl, rfl⟩ := Prod.mk.inj (Option.some.inj h)
      exact (apply_no A0 c0 l0 A1 c1 l1 w hr0 hc0 hr1 hc1 hv).mono fun e w' ⟨h1, h2⟩ => ⟨_, h1, Kd.R_nil _ _ _ _ _, h2⟩
  · rw [if_neg hl] at h; cases h
end Go.Proofs.Yteblpjnkinghoaa.J
namespace Go.Proofs.Yteblpjnkinghoaa.J
open Go.RowKit Go.Proofs.YteblpjnkinghoaaW.PrintWords Go.Proofs.YteblpjnkinghoaaW.PrintLast Go.Proofs.YteblpjnkinghoaaW.PrintMore
attribute [local go_sem] max2_int min2_int max_two min_two max_three min_three max_four min_four   -- for this text's walks alone
set_option linter.unusedVariables false
set_option linter.unusedSimpArgs false
/-! ### ringworkref25_Apply: function 21 -/
def ringworkref25_Apply.j0 : Nat → List (S41) → List (S41) → Bool → Option ((List (S41)) × Int)
  | 0, _, _, _ => none
  | k + 1, x0, x1, x14 => if x14 = true then (some (([] : List (S41)), 1)) else ((ringworkref25_applied.f x0 x1).bind fun t249 => (if (t249.length : Int) > 500 then (some (([] : List (S41)), 4)) else (some (t249, 0))))
def ringworkref25_Apply.f (k : Nat) (l0 : List (S41)) (l1 : List (S41)) : Option ((List (S41)) × Int) := (ringworkref25_state.f l0).bind fun t247 => (if t247 = true then ((ringworkref25_images.f k l1).bind fun t248 => (ringworkref25_Apply.j0 k l0 l1 (!t248))) else (ringworkref25_Apply.j0 k l0 l1 true))
set_option maxHeartbeats 8000000 in
set_option maxRecDepth 100000 in
theorem ringworkref25_Apply.calls (k : Nat) (A0 : Option Addr) (c0 : Nat) (l0 : List (S41)) (A1 : Option Addr) (c1 : Nat) (l1 : List (S41)) (r1 : List (S41)) (r2 : Int) (w : World) (hr0 : Kd.C k41 w A0 l0.length l0) (hc0 : l0.length ≤ c0) (hr1 : Kd.C k41 w A1 l1.length l1) (hc1 : l1.length ≤ c1) (h : ringworkref25_Apply.f k l0 l1 = some (r1, r2)) :
    Calls Try.prog 21 #[.slice A0 l0.length c0, .slice A1 l1.length c1] w fun e w' => ∃ v0_ : Value, e = .returned (.tuple #[v0_, .int .i64 r2]) ∧ Kd.R k41 41 w' w.heap.size (fun _ => True) v0_ r1 ∧ Below w.heap.size w w' := by
  have HR0 := Aside0.mk hr0
  have HC0 := Aside0.mk hc0
  clear hr0 hc0
  have HR1 := Aside0.mk hr1
  have HC1 := Aside0.mk hc1
  clear hr1 hc1
  have HB := Aside0.mk (Below.refl w.heap.size w)
  have H : ((ringworkref25_state.f l0).bind fun t247 => (if t247 = true then ((ringworkref25_images.f k l1).bind fun t248 => (ringworkref25_Apply.j0 k l0 l1 (!t248))) else (ringworkref25_Apply.j0 k l0 l1 true))) = some (r1, r2) := h
  clear h
  have HC3 := Aside0.mk H
  clear H
  go_enter Try.func21, Try.ntmps21
  go_upto_region 1 with (fail)
  go_cut [14] (fun v14 wc => ∃ (kq : Nat) (x14_2 : Bool), v14 = .bool x14_2 ∧ Aside0 (ringworkref25_Apply.j0 kq l0 l1 x14_2 = some (r1, r2)) ∧ Aside0 (kq ≤ k) ∧ Aside0 (Below w.heap.size w wc))
  case first =>
    have H := HC3.out
    clear HC3
    replace H := Option.bind_eq_some_iff.mp H
    obtain ⟨t247, A40, H⟩ := H
    replace H : (if t247 = true then ((ringworkref25_images.f k l1).bind fun t248 => (ringworkref25_Apply.j0 k l0 l1 (!t248))) else (ringworkref25_Apply.j0 k l0 l1 true)) = some (r1, r2) := H
    have A4 := Aside0.mk A40
    clear A40
    by_cases c5 : t247 = true
    · subst c5
      have H1 : ((ringworkref25_images.f k l1).bind fun t248 => (ringworkref25_Apply.j0 k l0 l1 (!t248))) = some (r1, r2) := by rw [if_pos rfl] at H; exact H
      clear H
      have H := H1
      clear H1
      replace H := Option.bind_eq_some_iff.mp H
      obtain ⟨t248, A60, H⟩ := H
      replace H : (ringworkref25_Apply.j0 k l0 l1 (!t248)) = some (r1, r2) := H
      have A6 := Aside0.mk A60
      clear A60
      have H' := Aside0.mk H
      clear H
      go_wp2_with (first | ((with_reducible refine gate_callee (f := 51) rfl ?_); refine goesL_ (some 8) rfl rfl Try.func51 (by kernel_rfl) rfl #[.slice A0 l0.length c0] rfl (by (try simp only [List.map_toArray, List.map_cons, List.map_nil]); first | done | rfl | (simp only [List.length_drop, List.length_take]; rfl)) ?_; (with_reducible refine (ringworkref25_state.calls _ _ l0 true _ ?side1 ?side2 A4.out).mono ?_); (case side1 => repeat (first | exact (Kd.C_below HR0.out HB.out) | (with_reducible refine Kd.C_alloc ?_ _) | (with_reducible refine Kd.C_drewN ?_ _) | (with_reducible refine Kd.C_drew ?_))); (case side2 => exact HC0.out); rintro e w7 ⟨rfl, hb⟩; refine ⟨_, rfl, ?_⟩; have n0_ := Aside0.mk (below_step (by repeat (first | (with_reducible first | exact HB.out | apply below_alloc | apply pw_below_drewN | apply below_drew1) | exact HB.out)) hb); clear HB; have HB := n0_; clear n0_; (try clear hb); (try clear hb2); (try clear hk); (try clear hi)) | (go_at_call 52; (with_reducible refine (ringworkref25_images.calls k _ _ l1 t248 _ ?side1 ?side2 A6.out).mono ?_); (case side1 => repeat (first | exact (Kd.C_below HR1.out HB.out) | (with_reducible refine Kd.C_alloc ?_ _) | (with_reducible refine Kd.C_drewN ?_ _) | (with_reducible refine Kd.C_drew ?_))); (case side2 => exact HC1.out); rintro e w8 ⟨rfl, hb⟩; have n0_ := Aside0.mk (below_step (by repeat (first | (with_reducible first | exact HB.out | apply below_alloc | apply pw_below_drewN | apply below_drew1) | exact HB.out)) hb); clear HB; have HB := n0_; clear n0_; (try clear hb); (try clear hb2); (try clear hk); (try clear hi)))
      go_meet
      case rel => exact ⟨_, (!t248), (by first | rfl | (simp; done) | (simp [*]; done)), H', ⟨by first | omega | exact Nat.le_refl _⟩, ⟨by repeat (first | (with_reducible first | exact HB.out | apply below_alloc | apply pw_below_drewN | apply below_drew1) | exact HB.out)⟩⟩
    · replace c5 := Bool.eq_false_iff.mpr c5
      subst c5
      have H1 : (ringworkref25_Apply.j0 k l0 l1 true) = some (r1, r2) := by rw [if_neg (show ¬ (false = true) by decide)] at H; exact H
      clear H
      have H := H1
      clear H1
      have H' := Aside0.mk H
      clear H
      go_wp2_with (first | ((with_reducible refine gate_callee (f := 51) rfl ?_); refine goesL_ (some 8) rfl rfl Try.func51 (by kernel_rfl) rfl #[.slice A0 l0.length c0] rfl (by (try simp only [List.map_toArray, List.map_cons, List.map_nil]); first | done | rfl | (simp only [List.length_drop, List.length_take]; rfl)) ?_; (with_reducible refine (ringworkref25_state.calls _ _ l0 false _ ?side1 ?side2 A4.out).mono ?_); (case side1 => repeat (first | exact (Kd.C_below HR0.out HB.out) | (with_reducible refine Kd.C_alloc ?_ _) | (with_reducible refine Kd.C_drewN ?_ _) | (with_reducible refine Kd.C_drew ?_))); (case side2 => exact HC0.out); rintro e w9 ⟨rfl, hb⟩; refine ⟨_, rfl, ?_⟩; have n0_ := Aside0.mk (below_step (by repeat (first | (with_reducible first | exact HB.out | apply below_alloc | apply pw_below_drewN | apply below_drew1) | exact HB.out)) hb); clear HB; have HB := n0_; clear n0_; (try clear hb); (try clear hb2); (try clear hk); (try clear hi)))
      go_meet
      case rel => exact ⟨_, (true), (by first | rfl | (simp; done) | (simp [*]; done)), H', ⟨by first | omega | exact Nat.le_refl _⟩, ⟨by repeat (first | (with_reducible first | exact HB.out | apply below_alloc | apply pw_below_drewN | apply below_drew1) | exact HB.out)⟩⟩
  case rest =>
    clear HC3
    try clear c1
    try clear c2
    try clear p2
    try clear c5
    obtain ⟨kq, x14_2, rfl, HA, HJ2, HB⟩ := hcut
    cases kq with
    | zero => exact absurd HA.out (by simp [ringworkref25_Apply.j0])
    | succ kj2 =>
      have H := HA.out
      clear HA
      simp only [ringworkref25_Apply.j0] at H
      by_cases c10 : x14_2 = true
      · subst c10
        have H1 : (some (([] : List (S41)), 1)) = some (r1, r2) := by rw [if_pos rfl] at H; exact H
        clear H
        have H := H1
        clear H1
        simp only [Option.some.injEq, Prod.mk.injEq] at H
        obtain ⟨rfl, rfl⟩ := H
        go_wp2
        go_ret2
        exact ⟨_, by first | rfl | (simp [errW_none, errW_some] <;> rfl) | (simp [*, errW_none, errW_some] <;> rfl), by first | exact Kd.R_nil _ _ _ _ _ | exact Kd.N_nil _ _ _ _ _ | exact Kd.V_nil _ _ _ _ _ | exact Kd.Q_nil _ _ _ _ _ | exact Kd.S_nil _ _ _ _ _, by repeat (first | (with_reducible first | exact HB.out | apply below_alloc | apply pw_below_drewN | apply below_drew1) | exact HB.out)⟩
      · replace c10 := Bool.eq_false_iff.mpr c10
        subst c10
        have H1 : ((ringworkref25_applied.f l0 l1).bind fun t249 => (if (t249.length : Int) > 500 then (some (([] : List (S41)), 4)) else (some (t249, 0)))) = some (r1, r2) := by rw [if_neg (show ¬ (false = true) by decide)] at H; exact H
        clear H
        have H := H1
        clear H1
        replace H := Option.bind_eq_some_iff.mp H
        obtain ⟨t249, A110, H⟩ := H
        replace H : (if (t249.length : Int) > 500 then (some (([] : List (S41)), 4)) else (some (t249, 0))) = some (r1, r2) := H
        have A11 := Aside0.mk A110
        clear A110
        by_cases c12 : (t249.length : Int) > 500
        · rw [if_pos c12] at H
          have c12b0 : decide (500 < (t249.length : Int)) = true := decide_eq_true c12
          have c12b1 : decide (500 < t249.length) = true := decide_eq_true (by omega)
          clear c12
          simp only [Option.some.injEq, Prod.mk.injEq] at H
          obtain ⟨rfl, rfl⟩ := H
          go_wp2_with (first | ((with_reducible refine gate_callee (f := 53) rfl ?_); refine goesL_ (some 17) rfl rfl Try.func53 (by kernel_rfl) rfl #[.slice A0 l0.length c0, .slice A1 l1.length c1] rfl (by (try simp only [List.map_toArray, List.map_cons, List.map_nil]); first | done | rfl | (simp only [List.length_drop, List.length_take]; rfl)) ?_; (with_reducible refine (ringworkref25_applied.calls _ _ l0 _ _ l1 t249 _ ?side1 ?side2 ?side3 ?side4 A11.out).mono ?_); (case side1 => repeat (first | exact (Kd.C_below HR0.out HB.out) | (with_reducible refine Kd.C_alloc ?_ _) | (with_reducible refine Kd.C_drewN ?_ _) | (with_reducible refine Kd.C_drew ?_))); (case side2 => exact HC0.out); (case side3 => repeat (first | exact (Kd.C_below HR1.out HB.out) | (with_reducible refine Kd.C_alloc ?_ _) | (with_reducible refine Kd.C_drewN ?_ _) | (with_reducible refine Kd.C_drew ?_))); (case side4 => exact HC1.out); rintro e w13 ⟨v250, rfl, ho0, hb⟩; refine ⟨_, rfl, ?_⟩; have n0_ := Aside0.mk (Kd.R_lower ho0 (below_size (by repeat (first | (with_reducible first | exact HB.out | apply below_alloc | apply pw_below_drewN | apply below_drew1) | exact HB.out)))); have n1_ := Aside0.mk (below_step (by repeat (first | (with_reducible first | exact HB.out | apply below_alloc | apply pw_below_drewN | apply below_drew1) | exact HB.out)) hb); clear HB; have HO251 := n0_; have HB := n1_; clear n0_ n1_; (try clear hb); (try clear hb2); (try clear hk); (try clear hi); (try clear ho0); obtain ⟨Ao14, co14, eo14⟩ := Kd.R_slice HO251.out; subst eo14))
          go_ret2
          exact ⟨_, by first | rfl | (simp [errW_none, errW_some] <;> rfl) | (simp [*, errW_none, errW_some] <;> rfl), by first | exact Kd.R_nil _ _ _ _ _ | exact Kd.N_nil _ _ _ _ _ | exact Kd.V_nil _ _ _ _ _ | exact Kd.Q_nil _ _ _ _ _ | exact Kd.S_nil _ _ _ _ _, by repeat (first | (with_reducible first | exact HB.out | apply below_alloc | apply pw_below_drewN | apply below_drew1) | exact HB.out)⟩
        · rw [if_neg c12] at H
          have c12b0 : decide (500 < (t249.length : Int)) = false := decide_eq_false c12
          have c12b1 : decide (500 < t249.length) = false := decide_eq_false (by omega)
          clear c12
          simp only [Option.some.injEq, Prod.mk.injEq] at H
          obtain ⟨rfl, rfl⟩ := H
          go_wp2_with (first | ((with_reducible refine gate_callee (f := 53) rfl ?_); refine goesL_ (some 17) rfl rfl Try.func53 (by kernel_rfl) rfl #[.slice A0 l0.length c0, .slice A1 l1.length c1] rfl (by (try simp only [List.map_toArray, List.map_cons, List.map_nil]); first | done | rfl | (simp only [List.length_drop, List.length_take]; rfl)) ?_; (with_reducible refine (ringworkref25_applied.calls _ _ l0 _ _ l1 t249 _ ?side1 ?side2 ?side3 ?side4 A11.out).mono ?_); (case side1 => repeat (first | exact (Kd.C_below HR0.out HB.out) | (with_reducible refine Kd.C_alloc ?_ _) | (with_reducible refine Kd.C_drewN ?_ _) | (with_reducible refine Kd.C_drew ?_))); (case side2 => exact HC0.out); (case side3 => repeat (first | exact (Kd.C_below HR1.out HB.out) | (with_reducible refine Kd.C_alloc ?_ _) | (with_reducible refine Kd.C_drewN ?_ _) | (with_reducible refine Kd.C_drew ?_))); (case side4 => exact HC1.out); rintro e w15 ⟨v250, rfl, ho0, hb⟩; refine ⟨_, rfl, ?_⟩; have n0_ := Aside0.mk (Kd.R_lower ho0 (below_size (by repeat (first | (with_reducible first | exact HB.out | apply below_alloc | apply pw_below_drewN | apply below_drew1) | exact HB.out)))); have n1_ := Aside0.mk (below_step (by repeat (first | (with_reducible first | exact HB.out | apply below_alloc | apply pw_below_drewN | apply below_drew1) | exact HB.out)) hb); clear HB; have HO251 := n0_; have HB := n1_; clear n0_ n1_; (try clear hb); (try clear hb2); (try clear hk); (try clear hi); (try clear ho0); obtain ⟨Ao16, co16, eo16⟩ := Kd.R_slice HO251.out; subst eo16))
          go_ret2
          exact ⟨_, by first | rfl | (simp [errW_none, errW_some] <;> rfl) | (simp [*, errW_none, errW_some] <;> rfl), by (with_reducible repeat (first | apply Kd.R_alloc | apply Kd.R_drewN | apply Kd.R_drew)); exact HO251.out, by repeat (first | (with_reducible first | exact HB.out | apply below_alloc | apply pw_below_drewN | apply below_drew1) | exact HB.out)⟩

/-! ### ringworkref25_State: function 22 -/
def ringworkref25_State.f (k : Nat) (l0 : List (S41)) (l1 : List (S39)) : Option ((List (S41)) × Int) := (ringworkref25_state.f l0).bind fun t252 => (if t252 = true then ((ringworkref25_Redo.f k l1 0).bind fun bt253 => (if bt253.2 = 0 then ((ringworkref25_Apply.f k l0 bt253.1).bind fun bt257 => (some (bt257.1, bt257.2))) else (some (([] : List (S41)), bt253.2)))) else (some (([] : List (S41)), 1)))
set_option maxHeartbeats 8000000 in
set_option maxRecDepth 100000 in
theorem ringworkref25_State.calls (k : Nat) (A0 : Option Addr) (c0 : Nat) (l0 : List (S41)) (A1 : Option Addr) (c1 : Nat) (l1 : List (S39)) (r1 : List (S41)) (r2 : Int) (w : World) (hr0 : Kd.C k41 w A0 l0.length l0) (hc0 : l0.length ≤ c0) (hr1 : Kd.C k39 w A1 l1.length l1) (hc1 : l1.length ≤ c1) (h : ringworkref25_State.f k l0 l1 = some (r1, r2)) :
    Calls Try.prog 22 #[.slice A0 l0.length c0, .slice A1 l1.length c1] w fun e w' => ∃ v0_ : Value, e = .returned (.tuple #[v0_, .int .i64 r2]) ∧ Kd.R k41 41 w' w.heap.size (fun _ => True) v0_ r1 ∧ Below w.heap.size w w' := by
  have HR0 := Aside0.mk hr0
  have HC0 := Aside0.mk hc0
  clear hr0 hc0
  have HR1 := Aside0.mk hr1
  have HC1 := Aside0.mk hc1
  clear hr1 hc1
  have HB := Aside0.mk (Below.refl w.heap.size w)
  have H : ((ringworkref25_state.f l0).bind fun t252 => (if t252 = true then ((ringworkref25_Redo.f k l1 0).bind fun bt253 => (if bt253.2 = 0 then ((ringworkref25_Apply.f k l0 bt253.1).bind fun bt257 => (some (bt257.1, bt257.2))) else (some (([] : List (S41)), bt253.2)))) else (some (([] : List (S41)), 1)))) = some (r1, r2) := h
  clear h
  replace H := Option.bind_eq_some_iff.mp H
  obtain ⟨t252, A30, H⟩ := H
  replace H : (if t252 = true then ((ringworkref25_Redo.f k l1 0).bind fun bt253 => (if bt253.2 = 0 then ((ringworkref25_Apply.f k l0 bt253.1).bind fun bt257 => (some (bt257.1, bt257.2))) else (some (([] : List (S41)), bt253.2)))) else (some (([] : List (S41)), 1))) = some (r1, r2) := H
  have A3 := Aside0.mk A30
  clear A30
  by_cases c4 : t252 = true
  · subst c4
    have H1 : ((ringworkref25_Redo.f k l1 0).bind fun bt253 => (if bt253.2 = 0 then ((ringworkref25_Apply.f k l0 bt253.1).bind fun bt257 => (some (bt257.1, bt257.2))) else (some (([] : List (S41)), bt253.2)))) = some (r1, r2) := by rw [if_pos rfl] at H; exact H
    clear H
    have H := H1
    clear H1
    replace H := Option.bind_eq_some_iff.mp H
    obtain ⟨⟨t253, t254⟩, A50, H⟩ := H
    replace H : (if t254 = 0 then ((ringworkref25_Apply.f k l0 t253).bind fun bt257 => (some (bt257.1, bt257.2))) else (some (([] : List (S41)), t254))) = some (r1, r2) := H
    have A5 := Aside0.mk A50
    clear A50
    by_cases c6 : t254 = 0
    · rw [if_pos c6] at H
      have c6b0 : (t254 == 0) = true := beq_iff_eq.mpr c6
      have c6b1 : (t254 != 0) = false := bne_eq_false_iff_eq.mpr c6
      clear c6
      replace H := Option.bind_eq_some_iff.mp H
      obtain ⟨⟨t257, t258⟩, A70, H⟩ := H
      replace H : (some (t257, t258)) = some (r1, r2) := H
      have A7 := Aside0.mk A70
      clear A70
      simp only [Option.some.injEq, Prod.mk.injEq] at H
      obtain ⟨rfl, rfl⟩ := H
      go_enter Try.func22, Try.ntmps22
      go_wp2_with (first | ((with_reducible refine gate_callee (f := 51) rfl ?_); refine goesL_ (some 9) rfl rfl Try.func51 (by kernel_rfl) rfl #[.slice A0 l0.length c0] rfl (by (try simp only [List.map_toArray, List.map_cons, List.map_nil]); first | done | rfl | (simp only [List.length_drop, List.length_take]; rfl)) ?_; (with_reducible refine (ringworkref25_state.calls _ _ l0 true _ ?side1 ?side2 A3.out).mono ?_); (case side1 => repeat (first | exact HR0.out | (with_reducible refine Kd.C_alloc ?_ _) | (with_reducible refine Kd.C_drewN ?_ _) | (with_reducible refine Kd.C_drew ?_))); (case side2 => exact HC0.out); rintro e w8 ⟨rfl, hb⟩; refine ⟨_, rfl, ?_⟩; have n0_ := Aside0.mk (below_step (by repeat (first | (with_reducible first | exact HB.out | apply below_alloc | apply pw_below_drewN | apply below_drew1) | exact HB.out)) hb); clear HB; have HB := n0_; clear n0_; (try clear hb); (try clear hb2); (try clear hk); (try clear hi)) | ((with_reducible refine gate_callee (f := 19) rfl ?_); refine goesL_ (some 13) rfl rfl Try.func19 (by kernel_rfl) rfl #[.slice A1 l1.length c1, .int .i64 0] rfl (by (try simp only [List.map_toArray, List.map_cons, List.map_nil]); first | done | rfl | (simp only [List.length_drop, List.length_take]; rfl)) ?_; (with_reducible refine (ringworkref25_Redo.calls k _ _ l1 0 t253 t254 _ ?side1 ?side2 A5.out).mono ?_); (case side1 => repeat (first | exact (Kd.C_below HR1.out HB.out) | (with_reducible refine Kd.C_alloc ?_ _) | (with_reducible refine Kd.C_drewN ?_ _) | (with_reducible refine Kd.C_drew ?_))); (case side2 => exact HC1.out); rintro e w9 ⟨v255, rfl, ho0, hb⟩; refine ⟨_, rfl, ?_⟩; have n0_ := Aside0.mk (Kd.R_lower ho0 (below_size (by repeat (first | (with_reducible first | exact HB.out | apply below_alloc | apply pw_below_drewN | apply below_drew1) | exact HB.out)))); have n1_ := Aside0.mk (below_step (by repeat (first | (with_reducible first | exact HB.out | apply below_alloc | apply pw_below_drewN | apply below_drew1) | exact HB.out)) hb); clear HB; have HO256 := n0_; have HB := n1_; clear n0_ n1_; (try clear hb); (try clear hb2); (try clear hk); (try clear hi); (try clear ho0); obtain ⟨Ao10, co10, eo10⟩ := Kd.R_slice HO256.out; subst eo10) | ((with_reducible refine gate_callee (f := 21) rfl ?_); refine goesL_ (some 21) rfl rfl Try.func21 (by kernel_rfl) rfl #[.slice A0 l0.length c0, .slice Ao10 t253.length co10] rfl (by (try simp only [List.map_toArray, List.map_cons, List.map_nil]); first | done | rfl | (simp only [List.length_drop, List.length_take]; rfl)) ?_; (with_reducible refine (ringworkref25_Apply.calls k _ _ l0 _ _ t253 t257 t258 _ ?side1 ?side2 ?side3 ?side4 A7.out).mono ?_); (case side1 => repeat (first | exact (Kd.C_below HR0.out HB.out) | (with_reducible refine Kd.C_alloc ?_ _) | (with_reducible refine Kd.C_drewN ?_ _) | (with_reducible refine Kd.C_drew ?_))); (case side2 => exact HC0.out); (case side3 => repeat (first | exact (Kd.R_reads' HO256.out).2.2 | (with_reducible refine Kd.C_alloc ?_ _) | (with_reducible refine Kd.C_drewN ?_ _) | (with_reducible refine Kd.C_drew ?_))); (case side4 => exact (Kd.R_reads' HO256.out).2.1); rintro e w11 ⟨v259, rfl, ho0, hb⟩; refine ⟨_, rfl, ?_⟩; have n0_ := Aside0.mk (Kd.R_elder' (by (with_reducible repeat (first | apply Kd.R_alloc | apply Kd.R_drewN | apply Kd.R_drew)); exact HO256.out) (Kd.R_base ho0) hb); have n1_ := Aside0.mk (Kd.R_lower (Kd.R_new' ho0 (Kd.R_lt (by (with_reducible repeat (first | apply Kd.R_alloc | apply Kd.R_drewN | apply Kd.R_drew)); exact HO256.out))) (below_size (by repeat (first | (with_reducible first | exact HB.out | apply below_alloc | apply pw_below_drewN | apply below_drew1) | exact HB.out)))); have n2_ := Aside0.mk (below_step (by repeat (first | (with_reducible first | exact HB.out | apply below_alloc | apply pw_below_drewN | apply below_drew1) | exact HB.out)) hb); clear HO256; clear HB; have HO256 := n0_; have HO260 := n1_; have HB := n2_; clear n0_ n1_ n2_; (try clear hb); (try clear hb2); (try clear hk); (try clear hi); (try clear ho0)))
      go_ret2
      exact ⟨_, by first | rfl | (simp [errW_none, errW_some] <;> rfl) | (simp [*, errW_none, errW_some] <;> rfl), by (with_reducible repeat (first | apply Kd.R_alloc | apply Kd.R_drewN | apply Kd.R_drew)); exact Kd.R_mono HO260.out (fun _ hk => trivial), by repeat (first | (with_reducible first | exact HB.out | apply below_alloc | apply pw_below_drewN | apply below_drew1) | exact HB.out)⟩
    · rw [if_neg c6] at H
      have c6b0 : (t254 == 0) = false := beq_eq_false_iff_ne.mpr c6
      have c6b1 : (t254 != 0) = true := bne_iff_ne.mpr c6
      simp only [Option.some.injEq, Prod.mk.injEq] at H
      obtain ⟨rfl, rfl⟩ := H
      go_enter Try.func22, Try.ntmps22
      go_wp2_with (first | ((with_reducible refine gate_callee (f := 51) rfl ?_); refine goesL_ (some 9) rfl rfl Try.func51 (by kernel_rfl) rfl #[.slice A0 l0.length c0] rfl (by (try simp only [List.map_toArray, List.map_cons, List.map_nil]); first | done | rfl | (simp only [List.length_drop, List.length_take]; rfl)) ?_; (with_reducible refine (ringworkref25_state.calls _ _ l0 true _ ?side1 ?side2 A3.out).mono ?_); (case side1 => repeat (first | exact HR0.out | (with_reducible refine Kd.C_alloc ?_ _) | (with_reducible refine Kd.C_drewN ?_ _) | (with_reducible refine Kd.C_drew ?_))); (case side2 => exact HC0.out); rintro e w12 ⟨rfl, hb⟩; refine ⟨_, rfl, ?_⟩; have n0_ := Aside0.mk (below_step (by repeat (first | (with_reducible first | exact HB.out | apply below_alloc | apply pw_below_drewN | apply below_drew1) | exact HB.out)) hb); clear HB; have HB := n0_; clear n0_; (try clear hb); (try clear hb2); (try clear hk); (try clear hi)) | ((with_reducible refine gate_callee (f := 19) rfl ?_); refine goesL_ (some 13) rfl rfl Try.func19 (by kernel_rfl) rfl #[.slice A1 l1.length c1, .int .i64 0] rfl (by (try simp only [List.map_toArray, List.map_cons, List.map_nil]); first | done | rfl | (simp only [List.length_drop, List.length_take]; rfl)) ?_; (with_reducible refine (ringworkref25_Redo.calls k _ _ l1 0 t253 t254 _ ?side1 ?side2 A5.out).mono ?_); (case side1 => repeat (first | exact (Kd.C_below HR1.out HB.out) | (with_reducible refine Kd.C_alloc ?_ _) | (with_reducible refine Kd.C_drewN ?_ _) | (with_reducible refine Kd.C_drew ?_))); (case side2 => exact HC1.out); rintro e w13 ⟨v255, rfl, ho0, hb⟩; refine ⟨_, rfl, ?_⟩; have n0_ := Aside0.mk (Kd.R_lower ho0 (below_size (by repeat (first | (with_reducible first | exact HB.out | apply below_alloc | apply pw_below_drewN | apply below_drew1) | exact HB.out)))); have n1_ := Aside0.mk (below_step (by repeat (first | (with_reducible first | exact HB.out | apply below_alloc | apply pw_below_drewN | apply below_drew1) | exact HB.out)) hb); clear HB; have HO256 := n0_; have HB := n1_; clear n0_ n1_; (try clear hb); (try clear hb2); (try clear hk); (try clear hi); (try clear ho0)))
      go_ret2
      exact ⟨_, by first | rfl | (simp [errW_none, errW_some] <;> rfl) | (simp [*, errW_none, errW_some] <;> rfl), by first | exact Kd.R_nil _ _ _ _ _ | exact Kd.N_nil _ _ _ _ _ | exact Kd.V_nil _ _ _ _ _ | exact Kd.Q_nil _ _ _ _ _ | exact Kd.S_nil _ _ _ _ _, by repeat (first | (with_reducible first | exact HB.out | apply below_alloc | apply pw_below_drewN | apply below_drew1) | exact HB.out)⟩
  · replace c4 := Bool.eq_false_iff.mpr c4
    subst c4
    have H1 : (some (([] : List (S41)), 1)) = some (r1, r2) := by rw [if_neg (show ¬ (false = true) by decide)] at H; exact H
    clear H
    have H := H1
    clear H1
    simp only [Option.some.injEq, Prod.mk.injEq] at H
    obtain ⟨rfl, rfl⟩ := H
    go_enter Try.func22, Try.ntmps22
    go_wp2_with (first | ((with_reducible refine gate_callee (f := 51) rfl ?_); refine goesL_ (some 9) rfl rfl Try.func51 (by kernel_rfl) rfl #[.slice A0 l0.length c0] rfl (by (try simp only [List.map_toArray, List.map_cons, List.map_nil]); first | done | rfl | (simp only [List.length_drop, List.length_take]; rfl)) ?_; (with_reducible refine (ringworkref25_state.calls _ _ l0 false _ ?side1 ?side2 A3.out).mono ?_); (case side1 => repeat (first | exact HR0.out | (with_reducible refine Kd.C_alloc ?_ _) | (with_reducible refine Kd.C_drewN ?_ _) | (with_reducible refine Kd.C_drew ?_))); (case side2 => exact HC0.out); rintro e w14 ⟨rfl, hb⟩; refine ⟨_, rfl, ?_⟩; have n0_ := Aside0.mk (below_step (by repeat (first | (with_reducible first | exact HB.out | apply below_alloc | apply pw_below_drewN | apply below_drew1) | exact HB.out)) hb); clear HB; have HB := n0_; clear n0_; (try clear hb); (try clear hb2); (try clear hk); (try clear hi)))
    go_ret2
    exact ⟨_, by first | rfl | (simp [errW_none, errW_some] <;> rfl) | (simp [*, errW_none, errW_some] <;> rfl), by first | exact Kd.R_nil _ _ _ _ _ | exact Kd.N_nil _ _ _ _ _ | exact Kd.V_nil _ _ _ _ _ | exact Kd.Q_nil _ _ _ _ _ | exact Kd.S_nil _ _ _ _ _, by repeat (first | (with_reducible first | exact HB.out | apply below_alloc | apply pw_below_drewN | apply below_drew1) | exact HB.out)⟩

end Go.Proofs.Yteblpjnkinghoaa.J
/- The reference's right, SameImages, images and Apply are the program's. -/
namespace Go.Proofs.Yteblpjnkinghoaa.J
open Go.RowKit Go.Proofs.YteblpjnkinghoaaW.PrintWords
theorem Ev.mono {α : Type} {g : Nat → Option α} {v : α} (h : ∀ k, LeO (g k) (g (k + 1))) {K : Nat} (hv : g K = some v) : Ev g v := ⟨K, fun _ hk => at_rounds h hk hv⟩
theorem wrongStep_err {st : WSt} {n : S39} {e : Int} (h : wrongStep st n = .inl e) : e ≠ 0 ∧ e ≠ 1 := by
  unfold wrongStep at h
  split at h
  · cases h; decide
  split at h
  · cases h
  split at h
  · simp only at h
    split at h
    · cases h; decide
    · split at h
      · cases h; decide
      · cases h
  split at h
  · cases h
  · cases h
theorem wrongFrom_err : ∀ (l : List S39) (i : Nat) (st : WSt), (wrongFrom l i st).2 ≠ 1
  | [], _, _ => by show (0 : Int) ≠ 1; decide
  | n :: l, i, st => by
    rw [wrongFrom]
    cases hs : wrongStep st n with
    | inl e => exact (wrongStep_err hs).2
    | inr st' => exact wrongFrom_err l (i + 1) st'
/-- The reference's right. -/
theorem ref_right (l : List S39) (hl : l.length ≤ 9223372036854775807) : Ev (fun k => ringworkref25_right.f k l) (rightN l) := by
  obtain ⟨r, hr, hw⟩ := ref_Wrong l hl
  unfold ringworkref25_right.f
  refine Ev.bind (ref_notes l hl) ?_
  unfold rightN journal_right.f
  unfold journal_Wrong.f at hr ⊢
  by_cases hv : l.length ≤ 1000 ∧ l.all vld = true
  · rw [if_pos hv] at hr ⊢
    have e := Option.some.inj hr
    rw [decide_eq_true hv.1, hv.2]
    simp only [Bool.and_self, if_true, Option.bind_some]
    refine Ev.bind hw ?_
    rw [e]
    have h1 : r.2 ≠ 1 := by rw [← e]; exact wrongFrom_err _ _ _
    by_cases h0 : r.2 = 0
    · simp only [if_pos h0, h0]; exact Ev.val _
    · simp only [if_neg h0, if_neg h1]; exact Ev.val _
  · rw [if_neg hv]
    have : (decide (l.length ≤ 1000) && l.all vld) = false := by
      rw [Bool.eq_false_iff]; intro h; rw [Bool.and_eq_true, decide_eq_true_eq] at h; exact hv h
    rw [this]
    exact Ev.val _
theorem ref_same_from (a : List S41) (hl : a.length ≤ 9223372036854775807) : ∀ (d i : Nat), d = a.length - i → i ≤ a.length → Ev (fun k => ringworkref25_SameImages.l0 k a a (i : Int)) true
  | 0, i, hd, hi => by
    have : i = a.length := by omega
    subst this
    exact Ev.step (fun k => by rw [ringworkref25_SameImages.l0, if_neg (by omega)]) (Ev.val _)
  | d + 1, i, hd, hi => by
    have hlt : i < a.length := by omega
    refine Ev.step (fun k => by rw [ringworkref25_SameImages.l0, if_pos (by omega), if_pos (by omega), if_pos (by omega), if_neg (by simp)]) ?_
    rw [wrap_next hlt hl]
    exact ref_same_from a hl d (i + 1) (by omega) (by omega)
/-- SameImages of a list and itself. -/
theorem ref_same (a : List S41) (hl : a.length ≤ 9223372036854775807) : Ev (fun k => ringworkref25_SameImages.f k a a) true := by
  unfold ringworkref25_SameImages.f
  simp only [if_true]
  exact ref_same_from a hl a.length 0 (by omega) (by omega)
theorem ref_images (l : List S41) (hl : l.length ≤ 9223372036854775807) : Ev (fun k => ringworkref25_images.f k l) (l.all img) := Ev.mono (ringworkref25_images.mono l) (images_all l hl)
theorem at_same (l : List S41) (k : Nat) : goodAt l k = (hereAt l k && img (rd_T41 l (k : Int))) := by
  unfold goodAt hereAt
  have hk : ∀ a b : ByteArray, (!(Op.bytesLess a.toList b.toList || a.toList == b.toList)) = Op.bytesLess b.toList a.toList := fun a b => by
    change (!(kless a b || a.toList == b.toList)) = kless b a
    cases h1 : kless a b with
    | true =>
      cases h2 : kless b a with
      | false => rfl
      | true => have := kless_trans h1 h2; rw [kless_irr] at this; cases this
    | false =>
      by_cases he : a = b
      · subst he
        rw [kless_irr, show (a.toList == a.toList) = true from by simp]; rfl
      · rw [kless_tri h1 he, show (a.toList == b.toList) = false from by rw [beq_eq_false_iff_ne]; exact fun e => he (toList_inj e)]; rfl
  rw [hk]
  generalize img (rd_T41 l (k : Int)) = a
  generalize (rd_T41 l (k : Int)).f1 = b
  generalize (decide (k = 0) || _) = c
  cases a <;> cases b <;> cases c <;> rfl
theorem all_range_img (l : List S41) : ((List.range l.length).all fun k => img (rd_T41 l (k : Int))) = l.all img := by
  rw [Bool.eq_iff_iff]
  simp only [List.all_eq_true, List.mem_range]
  constructor
  · intro h x hx
    obtain ⟨k, hk, rfl⟩ := List.getElem_of_mem hx
    have := h k hk
    rwa [rd_mem hk] at this
  · intro h k hk
    rw [rd_mem hk]
    exact h _ (List.getElem_mem hk)
/-- The two programs' states are one. -/
theorem ref_state (l : List S41) : ringworkref25_state.f l = some (ordV l) := by
  unfold ringworkref25_state.f ordV
  congr 1
  have : (List.range l.length).all (goodAt l) = ((List.range l.length).all (hereAt l) && l.all img) := by
    rw [← all_range_img, Bool.eq_iff_iff, Bool.and_eq_true, List.all_eq_true, List.all_eq_true, List.all_eq_true]
    constructor
    · intro h
      exact ⟨fun k hk => by have := h k hk; rw [at_same, Bool.and_eq_true] at this; exact this.1, fun k hk => by have := h k hk; rw [at_same, Bool.and_eq_true] at this; exact this.2⟩
    · rintro ⟨h1, h2⟩ k hk
      rw [at_same, h1 k hk, h2 k hk]; rfl
  rw [this, Bool.and_assoc]
theorem ordV_len {l : List S41} (h : ordV l = true) : l.length ≤ 500 := by unfold ordV at h; rw [Bool.and_eq_true, decide_eq_true_eq] at h; exact h.2
/-- The two programs' Apply are one. -/
theorem ref_Apply (a b : List S41) (hb : b.length ≤ 900000) : ∃ r, journal_Apply.f a b = some r ∧ Ev (fun k => ringworkref25_Apply.f k a b) r := by
  unfold journal_Apply.f ringworkref25_Apply.f
  rw [if_pos hb, ref_state]
  simp only [Option.bind_some]
  cases ho : ordV a with
  | false =>
    rw [if_neg (fun h => by cases h.1)]
    refine ⟨_, rfl, ?_⟩
    simp only [if_neg (show ¬ (false = true) by decide)]
    exact Ev.step (fun k => by rw [ringworkref25_Apply.j0, if_pos rfl]) (Ev.val _)
  | true =>
    simp only [if_true, true_and]
    have hl := ordV_len ho
    cases hi : b.all img with
    | false =>
      rw [if_neg (by decide)]
      refine ⟨_, rfl, Ev.bind (ref_images b (by omega)) ?_⟩
      rw [hi]
      exact Ev.step (fun k => by rw [ringworkref25_Apply.j0]; rfl) (Ev.val _)
    | true =>
      rw [if_pos rfl]
      have hj : Ev (fun k => ringworkref25_Apply.j0 k a b false) (if 500 < (b.foldl apStep a).length then (([] : List S41), (4 : Int)) else (b.foldl apStep a, 0)) := by
        refine Ev.step (fun k => by rw [ringworkref25_Apply.j0, if_neg (by decide)]) ?_
        unfold ringworkref25_applied.f
        rw [if_pos (by omega), Option.bind_some]
        by_cases h5 : 500 < (b.foldl apStep a).length
        · rw [if_pos h5, if_pos (by omega)]; exact Ev.val _
        · rw [if_neg h5, if_neg (by omega)]; exact Ev.val _
      refine ⟨if 500 < (b.foldl apStep a).length then (([] : List S41), (4 : Int)) else (b.foldl apStep a, 0), by split <;> rfl, Ev.bind (ref_images b (by omega)) ?_⟩
      rw [hi]
      exact hj
end Go.Proofs.Yteblpjnkinghoaa.J
/- The reference's Redo is the program's. -/
namespace Go.Proofs.Yteblpjnkinghoaa.J
open Go.RowKit Go.Proofs.YteblpjnkinghoaaW.PrintWords
/-- Whether an after ahead of these notes counts: as the reference looks (a begin is passed over). -/
def cR (u : Int) : List S39 → Bool
  | [] => false
  | n :: s => if n.f1 = u then (if n.f0 = 4 ∨ n.f0 = 5 then true else if n.f0 = 7 then false else cR u s) else cR u s
/-- .. as the program keeps it. -/
def cJ (u : Int) : List S39 → Bool
  | [] => false
  | n :: s => if n.f1 = u then (if n.f0 = 4 ∨ n.f0 = 5 then true else if n.f0 = 7 ∨ n.f0 = 1 then false else cJ u s) else cJ u s
/-- The notes from an index on are right behind those ahead of them. -/
def RightFrom : List S39 → List S39 → Prop
  | _, [] => True
  | p, n :: s => wrongR p n = 0 ∧ RightFrom (p ++ [n]) s
theorem c_same (u : Int) : ∀ (s p : List S39), RightFrom p s → (sinceV p u).2 = true → cJ u s = cR u s
  | [], _, _, _ => rfl
  | n :: s, p, h, hon => by
    unfold cJ cR
    by_cases h1 : n.f1 = u
    · rw [if_pos h1, if_pos h1]
      by_cases h4 : n.f0 = 4 ∨ n.f0 = 5
      · rw [if_pos h4, if_pos h4]
      · rw [if_neg h4, if_neg h4]
        by_cases h7 : n.f0 = 7
        · rw [if_pos (.inl h7), if_pos h7]
        · have hb : n.f0 ≠ 1 := fun hb => by
            have := h.1
            unfold wrongR at this
            rw [if_neg (by omega), h1, hon, if_pos (decide_eq_true hb).symm] at this
            cases this
          rw [if_neg (by omega), if_neg h7]
          refine c_same u s (p ++ [n]) h.2 ?_
          rw [since_snoc]
          unfold sinceStep
          rw [if_pos h1]
          split
          · exact hon
          · rw [if_neg (by omega), if_neg (by omega)]; exact hon
    · rw [if_neg h1, if_neg h1]
      exact c_same u s (p ++ [n]) h.2 (by rw [since_snoc_other h1]; exact hon)
theorem redo_c (u : Int) : ∀ s : List S39, (redoAll s).1 u = cJ u s
  | [] => rfl
  | n :: s => by
    rw [redoAll_cons]
    unfold cJ redoStep
    by_cases h4 : n.f0 = 4 ∨ n.f0 = 5
    · rw [if_pos h4]
      by_cases hu : n.f1 = u
      · simp only [hu, if_true, if_pos h4]
      · simp only [if_neg (Ne.symm hu), if_neg hu]; exact redo_c u s
    · rw [if_neg h4]
      by_cases h7 : n.f0 = 7 ∨ n.f0 = 1
      · rw [if_pos h7]
        by_cases hu : n.f1 = u
        · simp only [hu, if_true, if_neg h4, if_pos h7]
        · simp only [if_neg (Ne.symm hu), if_neg hu]; exact redo_c u s
      · rw [if_neg h7]
        have e : (if n.f0 = 3 then (if (redoAll s).1 n.f1 = true then ((redoAll s).1, (redoAll s).2 ++ [imgOf n]) else redoAll s) else redoAll s).1 u = (redoAll s).1 u := by
          split
          · split <;> rfl
          · rfl
        rw [e]
        by_cases hu : n.f1 = u
        · rw [if_pos hu, if_neg h4, if_neg h7]; exact redo_c u s
        · rw [if_neg hu]; exact redo_c u s
/-- The afters that count. -/
def redoR : List S39 → List S41
  | [] => []
  | n :: s => if n.f0 = 3 ∧ cR n.f1 s = true then imgOf n :: redoR s else redoR s
theorem redo_same : ∀ (s p : List S39), RightFrom p s → (redoAll s).2.reverse = redoR s
  | [], _, _ => rfl
  | n :: s, p, h => by
    have ih := redo_same s (p ++ [n]) h.2
    rw [redoAll_cons]
    unfold redoR redoStep
    by_cases h4 : n.f0 = 4 ∨ n.f0 = 5
    · rw [if_pos h4, if_neg (fun hh => by have := hh.1; omega)]; exact ih
    · rw [if_neg h4]
      by_cases h7 : n.f0 = 7 ∨ n.f0 = 1
      · rw [if_pos h7, if_neg (fun hh => by have := hh.1; omega)]; exact ih
      · rw [if_neg h7]
        by_cases h3 : n.f0 = 3
        · rw [if_pos h3, redo_c]
          have hon : (sinceV p n.f1).2 = true := by
            have := h.1
            unfold wrongR at this
            rw [if_neg (by omega)] at this
            cases hs : (sinceV p n.f1).2
            · rw [hs, if_pos (decide_eq_false (by omega)).symm] at this; cases this
            · rfl
          have hon2 : (sinceV (p ++ [n]) n.f1).2 = true := by
            rw [since_snoc]; unfold sinceStep
            rw [if_pos rfl, if_neg (by omega), if_neg (by omega), if_neg (by omega)]; exact hon
          rw [c_same n.f1 s (p ++ [n]) h.2 hon2]
          by_cases hc : cR n.f1 s = true
          · rw [if_pos hc, if_pos ⟨h3, hc⟩]
            simp only [List.reverse_append, List.reverse_cons, List.reverse_nil, List.nil_append, List.singleton_append]
            rw [ih]
          · rw [if_neg hc, if_neg (fun hh => hc hh.2)]; exact ih
        · rw [if_neg h3, if_neg (fun hh => h3 hh.1)]; exact ih
theorem right_from (l : List S39) : ∀ (s p : List S39) (i : Nat) (st : WSt), WInv p st → (wrongFrom s i st).2 = 0 → RightFrom p s
  | [], _, _, _, _, _ => trivial
  | n :: s, p, i, st, hI, h => by
    rw [wrongFrom] at h
    rcases wrong_step hI n with ⟨h0, hs⟩ | ⟨h0, st', hs, hI'⟩
    · rw [hs] at h; exact absurd h h0
    · rw [hs] at h
      exact ⟨h0, right_from l s (p ++ [n]) (i + 1) st' hI' h⟩
theorem right_right {l : List S39} (h : rightN l = 0) : l.length ≤ 1000 ∧ RightFrom [] l := by
  obtain ⟨_, hv⟩ := right_cases l
  have hv := hv (by omega)
  refine ⟨hv.1, right_from l l [] 0 _ winv_nil ?_⟩
  unfold rightN journal_right.f journal_Wrong.f at h
  rw [if_pos hv] at h
  simp only [Option.bind_some] at h
  by_cases h0 : (wrongFrom l 0 ⟨fun _ => none, fun _ => none⟩).2 = 0
  · exact h0
  · rw [if_neg h0, if_neg (wrongFrom_err _ _ _)] at h; cases h
theorem right_drop : ∀ (s p : List S39) (k : Nat), RightFrom p s → RightFrom (p ++ s.take k) (s.drop k)
  | s, p, 0, h => by simpa using h
  | [], p, k + 1, h => by simpa using h
  | n :: s, p, k + 1, h => by
    have := right_drop s (p ++ [n]) k h.2
    simpa using this
theorem ref_counts_from (l : List S39) (a : Nat) (ha : a < l.length) (hl : l.length ≤ 9223372036854775807) : ∀ (d i : Nat), d = l.length - i → i ≤ l.length →
    Ev (fun k => ringworkref25_counts.l0 k l (a : Int) (i : Int)) (cR (rd_T39 l (a : Int)).f1 (l.drop i))
  | 0, i, hd, hi => by
    have : i = l.length := by omega
    subst this
    rw [List.drop_length]
    exact Ev.step (fun k => by rw [ringworkref25_counts.l0, if_neg (by omega)]; rfl) (Ev.val _)
  | d + 1, i, hd, hi => by
    have hlt : i < l.length := by omega
    have next := ref_counts_from l a ha hl d (i + 1) (by omega) (by omega)
    rw [← wrap_next' hlt hl] at next
    rw [drop_rd hlt, cR]
    refine Ev.step (fun k => by rw [ringworkref25_counts.l0, if_pos (by omega), if_pos (by omega), if_pos (by omega), if_pos (by omega)]) ?_
    have hj : ∀ b, Ev (fun k => ringworkref25_counts.j1 k l (a : Int) (i : Int) b) (if b = true then true else if (rd_T39 l (i : Int)).f1 = (rd_T39 l (a : Int)).f1 then (if (rd_T39 l (i : Int)).f0 = 7 then false else cR (rd_T39 l (a : Int)).f1 (l.drop (i + 1))) else cR (rd_T39 l (a : Int)).f1 (l.drop (i + 1))) := fun b => by
      cases b with
      | true => rw [if_pos rfl]; exact Ev.step (fun k => by rw [ringworkref25_counts.j1, if_pos rfl]) (Ev.val _)
      | false =>
        refine Ev.step (fun k => by rw [ringworkref25_counts.j1, if_neg (by decide), if_pos (by omega), if_pos (by omega), if_pos (by omega), if_pos (by omega)]) ?_
        rw [if_neg (by decide)]
        by_cases h1 : (rd_T39 l (i : Int)).f1 = (rd_T39 l (a : Int)).f1
        · simp only [if_pos h1]
          by_cases h7 : (rd_T39 l (i : Int)).f0 = 7
          · simp only [if_pos h7]; exact Ev.val _
          · simp only [if_neg h7]; exact next
        · simp only [if_neg h1]; exact next
    by_cases h1 : (rd_T39 l (i : Int)).f1 = (rd_T39 l (a : Int)).f1
    · simp only [if_pos h1]
      by_cases h4 : (rd_T39 l (i : Int)).f0 = 4
      · simp only [if_pos h4]
        have := hj true
        rw [if_pos rfl] at this
        rw [if_pos (.inl h4)]; exact this
      · simp only [if_neg h4]
        by_cases h5 : (rd_T39 l (i : Int)).f0 = 5
        · have := hj ((rd_T39 l (i : Int)).f0 == 5)
          rw [if_pos (beq_iff_eq.2 h5)] at this
          rw [if_pos (.inr h5)]; exact this
        · have := hj ((rd_T39 l (i : Int)).f0 == 5)
          rw [if_neg (by simpa using h5), if_pos h1] at this
          rw [if_neg (by omega)]; exact this
    · simp only [if_neg h1]
      have := hj false
      rw [if_neg (by decide), if_neg h1] at this
      exact this
theorem ref_counts (l : List S39) (a : Nat) (ha : a < l.length) (hl : l.length ≤ 9223372036854775807) : Ev (fun k => ringworkref25_counts.f k l (a : Int)) (cR (rd_T39 l (a : Int)).f1 (l.drop (a + 1))) := by
  unfold ringworkref25_counts.f
  rw [wrap_next' ha hl]
  exact ref_counts_from l a ha hl (l.length - (a + 1)) (a + 1) rfl (by omega)
theorem ref_Redo_from (l : List S39) (hl : l.length ≤ 1000) : ∀ (d i : Nat), d = l.length - i → i ≤ l.length → ∀ out : List S41, out.length ≤ i →
    Ev (fun k => ringworkref25_Redo.l0 k l out (i : Int)) (out ++ redoR (l.drop i), (0 : Int))
  | 0, i, hd, hi, out, ho => by
    have : i = l.length := by omega
    subst this
    rw [List.drop_length]
    exact Ev.step (fun k => by rw [ringworkref25_Redo.l0, if_neg (by omega)]) (Ev.of fun k => by rw [show redoR ([] : List S39) = [] from rfl, List.append_nil])
  | d + 1, i, hd, hi, out, ho => by
    have hlt : i < l.length := by omega
    have next := fun (out : List S41) (ho : out.length ≤ i + 1) => ref_Redo_from l hl d (i + 1) (by omega) (by omega) out ho
    rw [← wrap_next' hlt (by omega)] at next
    rw [drop_rd hlt, redoR]
    refine Ev.step (fun k => by rw [ringworkref25_Redo.l0, if_pos (by omega), if_pos (by omega)]) ?_
    by_cases h3 : (rd_T39 l (i : Int)).f0 = 3
    · simp only [if_pos h3]
      refine Ev.bind (ref_counts l i hlt (by omega)) ?_
      by_cases hc : cR (rd_T39 l (i : Int)).f1 (l.drop (i + 1)) = true
      · simp only [if_pos hc, if_pos (show out.length < 3518437208883 by omega)]
        rw [if_pos ⟨h3, hc⟩]
        have := next (out ++ [imgOf (rd_T39 l (i : Int))]) (by simp; omega)
        rw [List.append_assoc, List.singleton_append] at this
        exact this
      · simp only [if_neg hc]
        rw [if_neg (fun hh => hc hh.2)]
        exact next out (by omega)
    · simp only [if_neg h3]
      rw [if_neg (fun hh => h3 hh.1)]
      exact next out (by omega)
/-- The two programs' Redo are one. -/
theorem ref_Redo (l : List S39) (a : Int) (hl : l.length ≤ 9223372036854775807) : ∃ r, journal_Redo.f l a = some r ∧ Ev (fun k => ringworkref25_Redo.f k l a) r := by
  obtain ⟨he, _⟩ := right_cases l
  unfold journal_Redo.f ringworkref25_Redo.f
  rw [he]
  simp only [Option.bind_some]
  by_cases h0 : rightN l = 0
  · rw [if_pos h0]
    obtain ⟨hle, hrf⟩ := right_right h0
    by_cases hr : a < 0 ∨ (l.length : Int) < a
    · rw [if_pos hr]
      refine ⟨_, rfl, Ev.bind (ref_right l hl) ?_⟩
      simp only [if_pos h0]
      have hj : Ev (fun k => ringworkref25_Redo.j0 k l a true) (([] : List S41), (7 : Int)) := Ev.step (fun k => by rw [ringworkref25_Redo.j0, if_pos rfl]) (Ev.val _)
      by_cases hz : a < 0
      · simp only [if_pos hz]; exact hj
      · simp only [if_neg hz]
        rw [decide_eq_true (show a > (l.length : Int) by omega)]; exact hj
    · rw [if_neg hr]
      refine ⟨_, rfl, Ev.bind (ref_right l hl) ?_⟩
      simp only [if_pos h0, if_neg (show ¬ a < 0 by omega)]
      rw [decide_eq_false (show ¬ a > (l.length : Int) by omega)]
      refine Ev.step (fun k => by rw [ringworkref25_Redo.j0, if_neg (by decide)]) ?_
      obtain ⟨i, rfl⟩ : ∃ i : Nat, a = i := ⟨a.toNat, by omega⟩
      rw [Int.toNat_natCast]
      have h1 := right_drop l [] i hrf
      rw [List.nil_append] at h1
      have := ref_Redo_from l hle (l.length - i) i rfl (by omega) [] (by simp)
      rw [List.nil_append, ← redo_same _ _ h1] at this
      exact this
  · rw [if_neg h0]
    refine ⟨_, rfl, Ev.bind (ref_right l hl) ?_⟩
    simp only [if_neg h0]
    exact Ev.val _
end Go.Proofs.Yteblpjnkinghoaa.J
/- The contract of journal.Undo, for every slice of notes and every unit. -/
namespace Go.Proofs.Yteblpjnkinghoaa.J
open Go.BigFrame Go.RowKit Go.Proofs.YteblpjnkinghoaaW.PrintWords Go.Proofs.YteblpjnkinghoaaW.PrintLast Go.Proofs.YteblpjnkinghoaaW.PrintMore Go.Proofs.YteblpjnkinghoaaW.Mw
/-- One note of Undo. -/
def undoStep (u : Int) (st : (ByteArray → Bool) × List S41) (n : S39) : (ByteArray → Bool) × List S41 :=
  if n.f1 = u ∧ n.f0 = 2 ∧ st.1 n.f2 = false then (fun k => if k = n.f2 then true else st.1 k, st.2 ++ [imgOf n]) else st
def undoAll (u : Int) (l : List S39) : (ByteArray → Bool) × List S41 := l.foldl (undoStep u) (fun _ => false, [])
def journal_Undo.f (l0 : List (S39)) (a1 : Int) : Option ((List (S41)) × Int) :=
  (journal_right.f l0).bind fun _ => if (askedV l0 a1).2 = 0 then some ((undoAll a1 (l0.drop (askedV l0 a1).1.toNat)).2.reverse, 0) else some ([], (askedV l0 a1).2)
noncomputable def K9 : Keys Try.prog 9 ByteArray := strKeys Try.prog 9 Try.underlying9
theorem undo_no (e : Int) (A0 : Option Addr) (c0 : Nat) (l0 : List (S39)) (a1 : Int) (w : World) (hr0 : Kd.C k39 w A0 l0.length l0) (hc0 : l0.length ≤ c0) (k : Nat) (he : journal_asked.f k l0 a1 = some (0, e)) (h : e ≠ 0) :
    Calls Try.prog 16 #[.slice A0 l0.length c0, .int .i64 a1] w fun r w' => r = .returned (.tuple #[.slice none 0 0, .int .i64 e]) ∧ Below w.heap.size w w' := by
  have HR0 := Aside0.mk hr0
  have HC0 := Aside0.mk hc0
  have HE := Aside0.mk he
  clear hr0 hc0 he
  have h1 : (e != 0) = true := bne_iff_ne.2 h
  clear h
  go_enter Try.func16, Try.ntmps16
  go_wp2_with (go_at_call 37; refine (journal_asked.calls _ _ _ _ _ _ _ _ HR0.out HC0.out HE.out).mono ?_; rintro r w1 ⟨rfl, hb⟩)
  go_ret2
  exact ⟨rfl, hb⟩
set_option maxHeartbeats 2000000 in
set_option maxRecDepth 100000 in
theorem undo_yes (A0 : Option Addr) (c0 : Nat) (l0 : List (S39)) (a1 : Int) (from_ : Nat) (w : World) (hr0 : Kd.C k39 w A0 l0.length l0) (hc0 : l0.length ≤ c0) (k : Nat) (he : journal_asked.f k l0 a1 = some ((from_ : Int), 0)) (hfr : from_ ≤ l0.length) (hle : l0.length ≤ 1000) :
    Calls Try.prog 16 #[.slice A0 l0.length c0, .int .i64 a1] w fun r w' => ∃ v, r = .returned (.tuple #[v, .int .i64 0]) ∧ Kd.R k41 41 w' w.heap.size (fun _ => True) v (undoAll a1 (l0.drop from_)).2.reverse ∧ Below w.heap.size w w' := by
  have HR0 := Aside0.mk hr0
  have HC0 := Aside0.mk hc0
  have HE := Aside0.mk he
  clear hr0 hc0 he
  have hmm := @run_makeMap Try.prog
  have hnot : ∀ x : Bool, (x == false) = !x := by decide
  obtain ⟨i0, hi0, _, hsz, _⟩ := info_parts info39
  have hcut := cut_from (P := Try.prog) 23 39 .i64 Try.underlying23 hi0 5 hsz A0 l0.length c0 (from_ : Int) (by omega) (by omega)
  have hC := Kd.C_drop (m := from_) HR0.out hfr HC0.out
  have hln : l0.length - from_ = (l0.drop from_).length := by simp
  rw [Int.toNat_natCast, hln] at hcut
  have hl : (l0.drop from_).length ≤ 1000 := by simp; omega
  clear hln hi0 hsz
  change Kd.C k39 w (if c0 = from_ then A0 else A0.map (·.add (from_ * 5))) _ _ at hC
  generalize (if c0 = from_ then A0 else A0.map (·.add (from_ * 5))) = A at hcut hC
  generalize l0.drop from_ = l at *
  have HL := Aside0.mk hC
  clear hC
  go_enter Try.func16, Try.ntmps16
  go_wp2_with (go_at_call 37; refine (journal_asked.calls _ _ _ _ _ _ _ _ HR0.out HC0.out HE.out).mono ?_; rintro r w1 ⟨rfl, hb⟩)
  clear hcut
  obtain ⟨b, hbe⟩ : ∃ b, b = w1.heap.size := ⟨_, rfl⟩
  have hB2 := hb.alloc hb.size (.map #[] 0)
  have hH2 := Holds.made K9 w1
  have hbb : w.heap.size ≤ b := by rw [hbe]; exact hb.size
  rw [← hbe] at hH2 ⊢
  have HBB := Aside0.mk hbb
  clear hbb hb hbe
  generalize w1.alloc (.map #[] 0) = w2 at hB2 hH2 ⊢
  have HB := Aside0.mk hB2
  have HH := Aside0.mk hH2
  clear hB2 hH2 hmm
  go_loopg [8, 26] l.length (fun kq v8 v26 w' => ∃ (i : Nat) (c : ByteArray → Bool) (out : List S41) (F : ByteArray → Option Value), v26 = .int .i64 i ∧ i ≤ l.length ∧ Aside0 (kq + i = l.length) ∧ Aside0 ((l.drop i).foldl (undoStep a1) (c, out) = undoAll a1 l) ∧ Aside0 (out.length ≤ i) ∧ Aside0 (Holds K9 w' b F) ∧ Aside0 (∀ u, (F u).getD (.bool false) = .bool (c u)) ∧ Aside0 (Kd.R k41 41 w' w.heap.size (fun k => k ≠ b) v8 out) ∧ Aside0 (Below w.heap.size w w'))
  case atStart => exact ⟨0, fun _ => false, [], fun _ => none, rfl, by omega, ⟨by omega⟩, ⟨rfl⟩, ⟨by simp⟩, HH, ⟨fun _ => rfl⟩, ⟨Kd.R_nil _ _ _ _ _⟩, HB⟩
  case round =>
    clear HB HH
    obtain ⟨i, c, out, F, rfl, hi, HQ, HS, HL2, HH, HF, HO, HB⟩ := hrel
    by_cases hlt : i < l.length
    · obtain ⟨ad, rfl, h0, h1, h2, h3, h4⟩ := at_T39 (Kd.C_below HL.out HB.out) (i : Int) (by omega) (by omega)
      rw [Int.toNat_natCast] at h0 h1 h2 h3 h4
      have HS2 := Aside0.mk (show (l.drop (i + 1)).foldl (undoStep a1) (undoStep a1 (c, out) (rd_T39 l (i : Int))) = undoAll a1 l by rw [← HS.out, drop_rd (show i < l.length from hlt)]; rfl)
      generalize rd_T39 l (i : Int) = n at h0 h1 h2 h3 h4 HS2
      clear HS
      by_cases k1 : n.f1 = a1
      · have q1 : (n.f1 == a1) = true := beq_iff_eq.2 k1
        by_cases k2 : n.f0 = 2
        · have q2 : (n.f0 == 2) = true := beq_iff_eq.2 k2
          have HF1 := HF.out n.f2
          cases hc : c n.f2
          · rw [show undoStep a1 (c, out) n = (fun k => if k = n.f2 then true else c k, out ++ [imgOf n]) by unfold undoStep; rw [if_pos ⟨k1, k2, hc⟩]] at HS2
            rw [hc] at HF1
            have HF2 := Aside0.mk HF1
            clear k1 k2 HF1 hc
            have HV7 := Aside0.mk (show ∀ k, u8.ownBlock = some k → k ≠ b from HO.out.1)
            have hk := heap_alloc_new wr (.cells #[.int .i64 n.f0, .int .i64 n.f1, .string n.f2, .bool n.f3, .string n.f4] 39)
            have HO5 := Aside0.mk (Kd.R_alloc HO.out (.cells #[.int .i64 n.f0, .int .i64 n.f1, .string n.f2, .bool n.f3, .string n.f4] 39))
            have HB5 := Aside0.mk (HB.out.alloc (below_size HB.out) (.cells #[.int .i64 n.f0, .int .i64 n.f1, .string n.f2, .bool n.f3, .string n.f4] 39))
            have HH5 := Aside0.mk (HH.out.alloc (.cells #[.int .i64 n.f0, .int .i64 n.f1, .string n.f2, .bool n.f3, .string n.f4] 39))
            have hlt0 := HH.out.lt
            go_wp2_with (first | (at_lookup; refine wl_look (K := K9) rfl (.tmp 40) (.tmp 42) 64 rfl Try.underlying64 zero4 (HH.out.alloc _) n.f2 rfl rfl ?_; rw [HF2.out]) | (at_mapUpdate; refine wl_put (K := K9) rfl (.tmp 46) (.tmp 48) (.const (.bool true)) 64 rfl Try.underlying64 HH5.out n.f2 (.bool true) rfl rfl rfl ?_; intro w6 hH6 hg6; have HH6 := Aside0.mk hH6; have HO6 := Aside0.mk (Kd.R_grown HO5.out hg6 (fun k hk e => hk (Option.some.inj e))); have HB6 := Aside0.mk (HB5.out.grown hg6 (below_size HB5.out) (fun k e => by cases e; exact HBB.out)); have hk6 := (hg6.block wr.heap.size (by simp) (fun e => by have := Option.some.inj e; omega)).trans hk; have hq2 := (blk_cell hk6 2).trans rfl; have hq3 := (blk_cell hk6 3).trans rfl; have hq4 := (blk_cell hk6 4).trans rfl; clear hH6 hg6 hk6 hk) | (at_builtin; refine Kd.R_append k41 (w0 := w) w.heap.size rfl (.tmp 49) (.tmp 57) 22 41 (.agg #[(.string ⟨#[]⟩), (.bool false), (.string ⟨#[]⟩)]) 40 rfl Try.underlying22 info41 rfl (by decide) (by decide) u8 out (imgOf n) [.string n.f2, .bool n.f3, .string n.f4] (fun k => k ≠ b) (fun _ => False) rfl rfl ?aP (fun _ hk => hk.elim) ?aF ?aO ?aB ?aS ?aL ?_; (case aP => exact k41_mkM _ _ _ (imgOf n)); (case aF => exact (fun k hk => by have := HH6.out.lt; omega)); (case aO => exact HO6.out); (case aB => exact HB6.out); (case aS => exact below_size HB6.out); (case aL => have := HL2.out; omega); intro v1 w3 ho hb3 hg3 _; have HO3 := Aside0.mk ho; have HB3 := Aside0.mk hb3; have HH3 := Aside0.mk (HH6.out.grown hg3 (fun e => HV7.out b e.symm rfl)); clear ho hb3 hg3))
            go_roundg (gk - 1)
            case measure => have := HQ.out; omega
            case rel => exact ⟨i + 1, _, _, _, rfl, by omega, ⟨by have := HQ.out; omega⟩, HS2, ⟨by have := HL2.out; simp; omega⟩, HH3, ⟨fun u => by show (if u = n.f2 then some (Value.bool true) else F u).getD _ = _; by_cases hu : u = n.f2 <;> simp [hu, HF.out]⟩, HO3, HB3⟩
          · rw [show undoStep a1 (c, out) n = (c, out) by unfold undoStep; rw [if_neg (fun h => by have h2 : c n.f2 = false := h.2.2; rw [hc] at h2; exact absurd h2 (by decide))]] at HS2
            rw [hc] at HF1
            have HF2 := Aside0.mk HF1
            clear k1 k2 HF1 hc
            go_wp2_with (first | (at_lookup; refine wl_look (K := K9) rfl (.tmp 40) (.tmp 42) 64 rfl Try.underlying64 zero4 (HH.out.alloc _) n.f2 rfl rfl ?_; rw [HF2.out]))
            go_roundg (gk - 1)
            case measure => have := HQ.out; omega
            case rel => exact ⟨i + 1, _, _, _, rfl, by omega, ⟨by have := HQ.out; omega⟩, HS2, ⟨by have := HL2.out; omega⟩, ⟨HH.out.alloc _⟩, HF, ⟨Kd.R_alloc HO.out _⟩, ⟨HB.out.alloc (below_size HB.out) _⟩⟩
        · have q2 : (n.f0 == 2) = false := beq_eq_false_iff_ne.2 k2
          rw [show undoStep a1 (c, out) n = (c, out) by unfold undoStep; rw [if_neg (fun h => k2 h.2.1)]] at HS2
          clear k1 k2
          go_wp2
          go_roundg (gk - 1)
          case measure => have := HQ.out; omega
          case rel => exact ⟨i + 1, _, _, _, rfl, by omega, ⟨by have := HQ.out; omega⟩, HS2, ⟨by have := HL2.out; omega⟩, ⟨HH.out.alloc _⟩, HF, ⟨Kd.R_alloc HO.out _⟩, ⟨HB.out.alloc (below_size HB.out) _⟩⟩
      · have q1 : (n.f1 == a1) = false := beq_eq_false_iff_ne.2 k1
        rw [show undoStep a1 (c, out) n = (c, out) by unfold undoStep; rw [if_neg (fun h => k1 h.1)]] at HS2
        clear k1
        go_wp2
        go_roundg (gk - 1)
        case measure => have := HQ.out; omega
        case rel => exact ⟨i + 1, _, _, _, rfl, by omega, ⟨by have := HQ.out; omega⟩, HS2, ⟨by have := HL2.out; omega⟩, ⟨HH.out.alloc _⟩, HF, ⟨Kd.R_alloc HO.out _⟩, ⟨HB.out.alloc (below_size HB.out) _⟩⟩
    · have hi : i = l.length := by omega
      subst hi
      have HS' := Aside0.mk (show out = (undoAll a1 l).2 by rw [← HS.out, List.drop_length]; rfl)
      clear HS
      have HV := Aside0.mk (rev_all out (by have := HL2.out; omega))
      go_wp2_with (go_at_call 38; refine (api_Image.calls _ _ _ _ _ w _ HB.out HO.out HV.out).mono ?_; rintro r w3 ⟨rfl, ho, hb3, _⟩)
      go_ret2
      exact ⟨_, rfl, by rw [← HS'.out]; exact Kd.R_mono ho (fun _ _ => trivial), hb3⟩
theorem journal_Undo.calls (A0 : Option Addr) (c0 : Nat) (l0 : List (S39)) (a1 : Int) (r1 : List (S41)) (r2 : Int) (w : World) (hr0 : Kd.C k39 w A0 l0.length l0) (hc0 : l0.length ≤ c0) (h : journal_Undo.f l0 a1 = some (r1, r2)) :
    Calls Try.prog 16 #[.slice A0 l0.length c0, .int .i64 a1] w fun e w' => ∃ v0_ : Value, e = .returned (.tuple #[v0_, .int .i64 r2]) ∧ Kd.R k41 41 w' w.heap.size (fun _ => True) v0_ r1 ∧ Below w.heap.size w w' := by
  obtain ⟨he, hle⟩ := right_cases l0
  have hV : rightN l0 = rightV l0 := rfl
  rw [hV] at he hle
  have ha := asked_all l0 a1 (fun h0 => by have := (hle (by omega)).1; omega) he
  unfold journal_Undo.f at h
  rw [he, Option.bind_some] at h
  by_cases h0 : (askedV l0 a1).2 = 0
  · rw [if_pos h0] at h
    obtain ⟨rfl, rfl⟩ := Prod.mk.inj (Option.some.inj h)
    have hr0' : rightV l0 = 0 := by
      by_cases hz : rightV l0 = 0
      · exact hz
      · unfold askedV at h0; rw [if_neg hz] at h0; exact absurd h0 hz
    have hle' := (hle (by omega)).1
    have hsn : 0 ≤ (askedV l0 a1).1 ∧ (askedV l0 a1).1 < l0.length := by
      unfold askedV at h0 ⊢
      rw [if_pos hr0'] at h0 ⊢
      by_cases hu : 1 ≤ a1 ∧ a1 ≤ 1000
      · rw [if_pos hu] at h0 ⊢
        by_cases hs : (sinceV l0 a1).2 = true
        · rw [if_pos hs]
          have := since_range a1 l0 0 (0, false) hs (fun h => by cases h)
          simpa [sinceV] using this
        · rw [if_neg hs] at h0; cases h0
      · rw [if_neg hu] at h0; cases h0
    have e1 : askedV l0 a1 = (((askedV l0 a1).1.toNat : Int), 0) := by
      rw [← h0]; exact Prod.ext (by show _ = ((askedV l0 a1).1.toNat : Int); omega) rfl
    exact undo_yes A0 c0 l0 a1 (askedV l0 a1).1.toNat w hr0 hc0 _ (ha.trans (congrArg some e1)) (by omega) hle'
  · rw [if_neg h0] at h
    obtain ⟨rfl, rfl⟩ := Prod.mk.inj (Option.some.inj h)
    have e1 : (askedV l0 a1).1 = 0 := by
      unfold askedV at h0 ⊢
      split
      · rename_i hz
        rw [if_pos hz] at h0
        split
        · rename_i hu
          rw [if_pos hu] at h0
          split
          · rename_i hs; rw [if_pos hs] at h0; exact absurd rfl h0
          · rfl
        · rfl
      · rfl
    exact (undo_no _ A0 c0 l0 a1 w hr0 hc0 _ (ha.trans (congrArg some (Prod.ext e1 rfl))) h0).mono fun e w' ⟨h1, h2⟩ => ⟨_, h1, Kd.R_nil _ _ _ _ _, h2⟩
end Go.Proofs.Yteblpjnkinghoaa.J
namespace Go.Proofs.Yteblpjnkinghoaa.J
open Go.RowKit Go.Proofs.YteblpjnkinghoaaW.PrintWords Go.Proofs.YteblpjnkinghoaaW.PrintLast Go.Proofs.YteblpjnkinghoaaW.PrintMore
attribute [local go_sem] max2_int min2_int max_two min_two max_three min_three max_four min_four   -- for this text's walks alone
set_option linter.unusedVariables false
set_option linter.unusedSimpArgs false
/-! ### ringworkref25_Undo: function 17 -/
mutual
def ringworkref25_Undo.l0 : Nat → List (S39) → Int → List (S41) → Int → Option ((List (S41)) × Int)
  | 0, _, _, _, _ => none
  | k + 1, x0, x1, x8, x9 => if x9 < (x0.length : Int) then (if 0 ≤ x9 then (if ((rd_T39 x0 x9).f1) = x1 then (ringworkref25_Undo.j1 k x0 x1 x8 x9 (((rd_T39 x0 x9).f0) != 2)) else (ringworkref25_Undo.j1 k x0 x1 x8 x9 true)) else (none)) else (some (x8, 0))
def ringworkref25_Undo.j1 : Nat → List (S39) → Int → List (S41) → Int → Bool → Option ((List (S41)) × Int)
  | 0, _, _, _, _, _ => none
  | k + 1, x0, x1, x8, x9, x43 => if x43 = true then (ringworkref25_Undo.l0 k x0 x1 x8 (wrap64 (x9 + 1))) else (ringworkref25_Undo.l1 k x0 x1 x8 x9 false 0)
def ringworkref25_Undo.l1 : Nat → List (S39) → Int → List (S41) → Int → Bool → Int → Option ((List (S41)) × Int)
  | 0, _, _, _, _, _, _ => none
  | k + 1, x0, x1, x8, x9, x10, x11 => if x11 < (x8.length : Int) then (if x10 = true then (ringworkref25_Undo.l1 k x0 x1 x8 x9 true (wrap64 (x11 + 1))) else (if 0 ≤ x11 then (if 0 ≤ x9 then (if x9 < (x0.length : Int) then (ringworkref25_Undo.l1 k x0 x1 x8 x9 (((rd_T41 x8 x11).f0).toList == ((rd_T39 x0 x9).f2).toList) (wrap64 (x11 + 1))) else (none)) else (none)) else (none))) else (if x10 = true then (ringworkref25_Undo.l0 k x0 x1 x8 (wrap64 (x9 + 1))) else (if 0 ≤ x9 then (if x9 < (x0.length : Int) then ((some (([(⟨(rd_T39 x0 x9).f2, (rd_T39 x0 x9).f3, (rd_T39 x0 x9).f4⟩ : S41)] : List (S41)) : List (S41))).bind fun y158 => (if y158.length + x8.length < 3518437208883 then (ringworkref25_Undo.l0 k x0 x1 (y158 ++ x8) (wrap64 (x9 + 1))) else (none))) else (none)) else (none)))
end
def ringworkref25_Undo.f (k : Nat) (l0 : List (S39)) (a1 : Int) : Option ((List (S41)) × Int) := (ringworkref25_QuietAt.f k l0 a1).bind fun bt149 => (if bt149.2 = 0 then (ringworkref25_Undo.l0 k l0 a1 ([] : List (S41)) (wrap64 (bt149.1 + 1))) else (some (([] : List (S41)), bt149.2)))
def ringworkref25_Undo.T13 : Bool × List (List Nat × List Nat) := (true, [([], []), ([0], [0]), ([1], [1]), ([1], [1]), ([2, 3, 1], [1, 2, 3]), ([4, 1], [1, 4]), ([5, 1], [1, 5]), ([1], [1]), ([1], [1]), ([7, 8, 1], [1, 7, 8]), ([9, 1], [1, 9]), ([10, 1], [1, 10]), ([6, 11, 1], [1, 6, 11]), ([1, 12], [1, 12]), ([13, 1, 0, 1, 2, 3, 4, 5, 6, 7, 8, 9, 10, 11, 12, 13], [0, 13])])
def ringworkref25_Undo.B13 : List Nat := [0, 1, 3, 3, 15, 31, 63, 3, 3, 387, 899, 1923, 4095, 8191, 16383]
theorem ringworkref25_Undo.tab13 : rtab .any (opsOf Try.f17 13) = ringworkref25_Undo.T13 := by kernel_rfl
theorem ringworkref25_Undo.bits13 : waitsOk ringworkref25_Undo.T13.2 ringworkref25_Undo.B13 = true := by kernel_rfl
def ringworkref25_Undo.T15 : Bool × List (List Nat × List Nat) := (true, [([], []), ([], []), ([0, 1], [0, 1]), ([2], [2]), ([3], [3]), ([], []), ([], []), ([5, 6], [5, 6]), ([7], [7]), ([8], [8]), ([], []), ([], []), ([10, 11], [10, 11]), ([12], [12]), ([13], [13]), ([4, 9, 14], [4, 9, 14]), ([15], [15]), ([], []), ([16, 17], [16, 17]), ([18, 18, 0, 1, 2, 3, 4, 5, 6, 7, 8, 9, 10, 11, 12, 13, 14, 15, 16, 17, 18], [17, 18])])
def ringworkref25_Undo.B15 : List Nat := [0, 0, 3, 7, 15, 0, 0, 96, 224, 480, 0, 0, 3072, 7168, 15360, 32767, 65535, 0, 262143, 524287]
theorem ringworkref25_Undo.tab15 : rtab .any (opsOf Try.f17 15) = ringworkref25_Undo.T15 := by kernel_rfl
theorem ringworkref25_Undo.bits15 : waitsOk ringworkref25_Undo.T15.2 ringworkref25_Undo.B15 = true := by kernel_rfl
set_option maxHeartbeats 8000000 in
set_option maxRecDepth 100000 in
theorem ringworkref25_Undo.calls (k : Nat) (A0 : Option Addr) (c0 : Nat) (l0 : List (S39)) (a1 : Int) (r1 : List (S41)) (r2 : Int) (w : World) (hr0 : Kd.C k39 w A0 l0.length l0) (hc0 : l0.length ≤ c0) (h : ringworkref25_Undo.f k l0 a1 = some (r1, r2)) :
    Calls Try.prog 17 #[.slice A0 l0.length c0, .int .i64 a1] w fun e w' => ∃ v0_ : Value, e = .returned (.tuple #[v0_, .int .i64 r2]) ∧ Kd.R k41 41 w' w.heap.size (fun _ => True) v0_ r1 ∧ Below w.heap.size w w' := by
  have hu41 := Try.underlying41
  have HR0 := Aside0.mk hr0
  have HC0 := Aside0.mk hc0
  clear hr0 hc0
  have HB := Aside0.mk (Below.refl w.heap.size w)
  have H : ((ringworkref25_QuietAt.f k l0 a1).bind fun bt149 => (if bt149.2 = 0 then (ringworkref25_Undo.l0 k l0 a1 ([] : List (S41)) (wrap64 (bt149.1 + 1))) else (some (([] : List (S41)), bt149.2)))) = some (r1, r2) := h
  clear h
  replace H := Option.bind_eq_some_iff.mp H
  obtain ⟨⟨t149, t150⟩, A30, H⟩ := H
  replace H : (if t150 = 0 then (ringworkref25_Undo.l0 k l0 a1 ([] : List (S41)) (wrap64 (t149 + 1))) else (some (([] : List (S41)), t150))) = some (r1, r2) := H
  have A3 := Aside0.mk A30
  clear A30
  by_cases c4 : t150 = 0
  · rw [if_pos c4] at H
    have c4b0 : (t150 == 0) = true := beq_iff_eq.mpr c4
    have c4b1 : (t150 != 0) = false := bne_eq_false_iff_eq.mpr c4
    clear c4
    have H' := Aside0.mk H
    clear H
    go_enter Try.func17, Try.ntmps17
    go_wp2_with (first | ((with_reducible refine gate_callee (f := 39) rfl ?_); refine goesL_ (some 15) rfl rfl Try.func39 (by kernel_rfl) rfl #[.slice A0 l0.length c0, .int .i64 a1] rfl (by (try simp only [List.map_toArray, List.map_cons, List.map_nil]); first | done | rfl | (simp only [List.length_drop, List.length_take]; rfl)) ?_; (with_reducible refine (ringworkref25_QuietAt.calls k _ _ l0 a1 t149 t150 _ ?side1 ?side2 A3.out).mono ?_); (case side1 => repeat (first | exact HR0.out | (with_reducible refine Kd.C_alloc ?_ _) | (with_reducible refine Kd.C_drewN ?_ _) | (with_reducible refine Kd.C_drew ?_))); (case side2 => exact HC0.out); rintro e w5 ⟨rfl, hb⟩; refine ⟨_, rfl, ?_⟩; have n0_ := Aside0.mk (below_step (by repeat (first | (with_reducible first | exact HB.out | apply below_alloc | apply pw_below_drewN | apply below_drew1) | exact HB.out)) hb); clear HB; have HB := n0_; clear n0_; (try clear hb); (try clear hb2); (try clear hk); (try clear hi)))
    go_loopg [8, 9] k (fun kq v8 v9 w' => ∃ (x8_1 : List (S41)) (x9_1 : Int), v9 = .int .i64 x9_1 ∧ Aside0 (ringworkref25_Undo.l0 kq l0 a1 x8_1 x9_1 = some (r1, r2)) ∧ Aside0 (kq ≤ k) ∧ Aside0 (Kd.R k41 41 w' w.heap.size (fun _ => True) v8 x8_1) ∧ Aside0 (Below w.heap.size w w'))
    case atStart => exact ⟨(([] : List (S41))), (wrap64 (t149 + 1)), (by first | rfl | (simp; done) | (simp [*]; done)), H', ⟨Nat.le_refl _⟩, ⟨by first | exact Kd.R_nil _ _ _ _ _ | exact Kd.N_nil _ _ _ _ _ | exact Kd.V_nil _ _ _ _ _ | exact Kd.Q_nil _ _ _ _ _ | exact Kd.S_nil _ _ _ _ _⟩, ⟨by repeat (first | (with_reducible first | exact HB.out | apply below_alloc | apply pw_below_drewN | apply below_drew1) | exact HB.out)⟩⟩
    case round =>
      clear H'
      try clear c1
      try clear p2
      try clear c3
      try clear c4
      try clear c4b0
      try clear c4b1
      obtain ⟨x8_1, x9_1, rfl, HA, HK1, HO_8, HB⟩ := hrel
      cases gk with
      | zero => exact absurd HA.out (by simp [ringworkref25_Undo.l0])
      | succ k1 =>
        have H := HA.out
        clear HA
        simp only [ringworkref25_Undo.l0] at H
        by_cases c6 : x9_1 < (l0.length : Int)
        · rw [if_pos c6] at H
          have c6b0 : decide (x9_1 < (l0.length : Int)) = true := decide_eq_true c6
          clear c6
          have HC7 := Aside0.mk H
          clear H
          go_upto_region 8 with (fail)
          go_cut [43] (fun v43 wc => ∃ (kq : Nat) (x43_6 : Bool), v43 = .bool x43_6 ∧ Aside0 (ringworkref25_Undo.j1 kq l0 a1 x8_1 x9_1 x43_6 = some (r1, r2)) ∧ Aside0 (kq ≤ k1) ∧ Aside0 (Kd.R k41 41 wc w.heap.size (fun _ => True) u8 x8_1) ∧ Aside0 (Below w.heap.size w wc))
          case first =>
            have H := HC7.out
            clear HC7
            by_cases c8 : 0 ≤ x9_1
            · rw [if_pos c8] at H
              have c8b0 : decide (0 ≤ x9_1) = true := decide_eq_true c8
              clear c8
              (first | rw [c8b0] | (simp only [i64_w, i32_w]; rw [c8b0]) | skip)
              by_cases c9 : ((rd_T39 l0 x9_1).f1) = a1
              · rw [if_pos c9] at H
                have c9b0 : (((rd_T39 l0 x9_1).f1) == a1) = true := beq_iff_eq.mpr c9
                have c9b1 : (((rd_T39 l0 x9_1).f1) != a1) = false := bne_eq_false_iff_eq.mpr c9
                clear c9
                have H' := Aside0.mk H
                clear H
                have p151 : 0 ≤ (x9_1 : Int) := of_decide_eq_true (by first | (with_reducible assumption) | assumption)
                have q151 : x9_1 < (l0.length : Int) := of_decide_eq_true (by first | (with_reducible assumption) | assumption)
                obtain ⟨ad151, e151, hx151_0, hx151_1, hx151_2, hx151_3, hx151_4⟩ := at_T39 HR0.out x9_1 p151 q151
                cases e151
                replace hx151_0 := (HB.out.cell (World.block_lt_of_cell? w _ hx151_0)).trans hx151_0
                replace hx151_1 := (HB.out.cell (World.block_lt_of_cell? w _ hx151_1)).trans hx151_1
                replace hx151_2 := (HB.out.cell (World.block_lt_of_cell? w _ hx151_2)).trans hx151_2
                replace hx151_3 := (HB.out.cell (World.block_lt_of_cell? w _ hx151_3)).trans hx151_3
                replace hx151_4 := (HB.out.cell (World.block_lt_of_cell? w _ hx151_4)).trans hx151_4
                replace p151 := eq_true p151
                replace q151 := eq_true q151
                have p152 : 0 ≤ (x9_1 : Int) := of_decide_eq_true (by first | (with_reducible assumption) | assumption)
                have q152 : x9_1 < (l0.length : Int) := of_decide_eq_true (by first | (with_reducible assumption) | assumption)
                obtain ⟨ad152, e152, hx152_0, hx152_1, hx152_2, hx152_3, hx152_4⟩ := at_T39 HR0.out x9_1 p152 q152
                obtain rfl : ad151 = ad152 := (by injection e152)
                replace hx152_0 := (HB.out.cell (World.block_lt_of_cell? w _ hx152_0)).trans hx152_0
                replace hx152_1 := (HB.out.cell (World.block_lt_of_cell? w _ hx152_1)).trans hx152_1
                replace hx152_2 := (HB.out.cell (World.block_lt_of_cell? w _ hx152_2)).trans hx152_2
                replace hx152_3 := (HB.out.cell (World.block_lt_of_cell? w _ hx152_3)).trans hx152_3
                replace hx152_4 := (HB.out.cell (World.block_lt_of_cell? w _ hx152_4)).trans hx152_4
                replace p152 := eq_true p152
                replace q152 := eq_true q152
                go_wp2
                go_meet
                case rel => exact ⟨_, ((((rd_T39 l0 x9_1).f0) != 2)), (by first | rfl | (simp; done) | (simp [*]; done)), H', ⟨by have := HK1.out; first | omega | exact Nat.le_refl _⟩, ⟨by (with_reducible repeat (first | apply Kd.R_alloc | apply Kd.R_drewN | apply Kd.R_drew)); exact HO_8.out⟩, ⟨by repeat (first | (with_reducible first | exact HB.out | apply below_alloc | apply pw_below_drewN | apply below_drew1) | exact HB.out)⟩⟩
              · rw [if_neg c9] at H
                have c9b0 : (((rd_T39 l0 x9_1).f1) == a1) = false := beq_eq_false_iff_ne.mpr c9
                have c9b1 : (((rd_T39 l0 x9_1).f1) != a1) = true := bne_iff_ne.mpr c9
                have H' := Aside0.mk H
                clear H
                have p151 : 0 ≤ (x9_1 : Int) := of_decide_eq_true (by first | (with_reducible assumption) | assumption)
                have q151 : x9_1 < (l0.length : Int) := of_decide_eq_true (by first | (with_reducible assumption) | assumption)
                obtain ⟨ad151, e151, hx151_0, hx151_1, hx151_2, hx151_3, hx151_4⟩ := at_T39 HR0.out x9_1 p151 q151
                cases e151
                replace hx151_0 := (HB.out.cell (World.block_lt_of_cell? w _ hx151_0)).trans hx151_0
                replace hx151_1 := (HB.out.cell (World.block_lt_of_cell? w _ hx151_1)).trans hx151_1
                replace hx151_2 := (HB.out.cell (World.block_lt_of_cell? w _ hx151_2)).trans hx151_2
                replace hx151_3 := (HB.out.cell (World.block_lt_of_cell? w _ hx151_3)).trans hx151_3
                replace hx151_4 := (HB.out.cell (World.block_lt_of_cell? w _ hx151_4)).trans hx151_4
                replace p151 := eq_true p151
                replace q151 := eq_true q151
                go_wp2
                go_meet
                case rel => exact ⟨_, (true), (by first | rfl | (simp; done) | (simp [*]; done)), H', ⟨by have := HK1.out; first | omega | exact Nat.le_refl _⟩, ⟨by (with_reducible repeat (first | apply Kd.R_alloc | apply Kd.R_drewN | apply Kd.R_drew)); exact HO_8.out⟩, ⟨by repeat (first | (with_reducible first | exact HB.out | apply below_alloc | apply pw_below_drewN | apply below_drew1) | exact HB.out)⟩⟩
            · rw [if_neg c8] at H
              exact absurd H (by simp)
          case rest =>
            clear HC7
            try clear c1
            try clear p1
            try clear q1
            try clear hx1
            try clear p2
            try clear c3
            try clear c4
            try clear c4b0
            try clear c4b1
            try clear c6
            try clear c6b0
            try clear p6
            try clear c8
            try clear c8b0
            try clear c9
            try clear c9b0
            try clear c9b1
            try clear hx151_0
            try clear hx151_1
            try clear hx151_2
            try clear hx151_3
            try clear hx151_4
            try clear hx152_0
            try clear hx152_1
            try clear hx152_2
            try clear hx152_3
            try clear hx152_4
            try clear p151
            try clear p152
            try clear p2
            try clear q151
            try clear q152
            obtain ⟨kq, x43_6, rfl, HA, HJ6, HO_8, HB⟩ := hcut
            cases kq with
            | zero => exact absurd HA.out (by simp [ringworkref25_Undo.j1])
            | succ kj6 =>
              have H := HA.out
              clear HA
              simp only [ringworkref25_Undo.j1] at H
              by_cases c10 : x43_6 = true
              · subst c10
                have H1 : (ringworkref25_Undo.l0 kj6 l0 a1 x8_1 (wrap64 (x9_1 + 1))) = some (r1, r2) := by rw [if_pos rfl] at H; exact H
                clear H
                have H := H1
                clear H1
                have H' := Aside0.mk H
                clear H
                go_wp2
                go_roundg kj6
                case measure => have := HK1.out; have := HJ6.out; omega
                case rel => exact ⟨(x8_1), (wrap64 (x9_1 + 1)), (by first | rfl | (simp; done) | (simp [*]; done)), H', ⟨by have := HK1.out; have := HJ6.out; omega⟩, ⟨by (with_reducible repeat (first | apply Kd.R_alloc | apply Kd.R_drewN | apply Kd.R_drew)); exact HO_8.out⟩, ⟨by repeat (first | (with_reducible first | exact HB.out | apply below_alloc | apply pw_below_drewN | apply below_drew1) | exact HB.out)⟩⟩
              · replace c10 := Bool.eq_false_iff.mpr c10
                subst c10
                have H1 : (ringworkref25_Undo.l1 kj6 l0 a1 x8_1 x9_1 false 0) = some (r1, r2) := by rw [if_neg (show ¬ (false = true) by decide)] at H; exact H
                clear H
                have H := H1
                clear H1
                have H' := Aside0.mk H
                clear H
                go_wp2
                go_loopg [10, 11] kj6 (fun kq v10 v11 w' => ∃ (x10_3 : Bool) (x11_3 : Int), v10 = .bool x10_3 ∧ v11 = .int .i64 x11_3 ∧ Aside0 (ringworkref25_Undo.l1 kq l0 a1 x8_1 x9_1 x10_3 x11_3 = some (r1, r2)) ∧ Aside0 (kq ≤ kj6) ∧ Aside0 (Kd.R k41 41 w' w.heap.size (fun _ => True) u8 x8_1) ∧ Aside0 (Below w.heap.size w w'))
                case atStart => exact ⟨(false), (0), (by first | rfl | (simp; done) | (simp [*]; done)), (by first | rfl | (simp; done) | (simp [*]; done)), H', ⟨Nat.le_refl _⟩, ⟨by (with_reducible repeat (first | apply Kd.R_alloc | apply Kd.R_drewN | apply Kd.R_drew)); exact HO_8.out⟩, ⟨by repeat (first | (with_reducible first | exact HB.out | apply below_alloc | apply pw_below_drewN | apply below_drew1) | exact HB.out)⟩⟩
                case round =>
                  clear H'
                  try clear c1
                  try clear p1
                  try clear q1
                  try clear hx1
                  try clear p2
                  try clear c3
                  try clear c4
                  try clear c4b0
                  try clear c4b1
                  try clear c6
                  try clear c6b0
                  try clear p6
                  try clear c8
                  try clear c8b0
                  try clear c9
                  try clear c9b0
                  try clear c9b1
                  try clear c10
                  try clear hx151_0
                  try clear hx151_1
                  try clear hx151_2
                  try clear hx151_3
                  try clear hx151_4
                  try clear hx152_0
                  try clear hx152_1
                  try clear hx152_2
                  try clear hx152_3
                  try clear hx152_4
                  try clear p1
                  try clear p151
                  try clear p152
                  try clear p2
                  try clear p6
                  try clear q1
                  try clear q151
                  try clear q152
                  obtain ⟨x10_3, x11_3, rfl, rfl, HA, HK3, HO_8, HB⟩ := hrel
                  cases gk with
                  | zero => exact absurd HA.out (by simp [ringworkref25_Undo.l1])
                  | succ k3 =>
                    have H := HA.out
                    clear HA
                    simp only [ringworkref25_Undo.l1] at H
                    by_cases c11 : x11_3 < (x8_1.length : Int)
                    · rw [if_pos c11] at H
                      have c11b0 : decide (x11_3 < (x8_1.length : Int)) = true := decide_eq_true c11
                      clear c11
                      by_cases c12 : x10_3 = true
                      · subst c12
                        have H1 : (ringworkref25_Undo.l1 k3 l0 a1 x8_1 x9_1 true (wrap64 (x11_3 + 1))) = some (r1, r2) := by rw [if_pos rfl] at H; exact H
                        clear H
                        have H := H1
                        clear H1
                        have H' := Aside0.mk H
                        clear H
                        obtain ⟨Ao13, co13, eo13⟩ := Kd.R_slice HO_8.out
                        subst eo13
                        try go_wp2
                        have n0_ := Aside0.mk (Kd.R_drew HO_8.out)
                        have n1_ := Aside0.mk (below_drew1 HB.out)
                        clear HO_8
                        clear HB
                        have HO_8 := n0_
                        have HB := n1_
                        clear n0_ n1_
                        refine start_ (n := 15) (S := fun w' => True) (ds := []) #[false, false, false, false, false, false, false, false, false, false, false, false, false, false, false] (by kernel_rfl) rfl rfl trivial (fun hHeld => ?_); refine with_tabW ringworkref25_Undo.tab13 ringworkref25_Undo.bits13 (fun HT_ HW_ => ?_)
                        generalize wr.drew = w14 at HO_8 HB hHeld ⊢
                        refine pure_ (i := 0) (N := some 50) (v := ?_) (a' := ?_) #[true, false, false, false, false, false, false, false, false, false, false, false, false, false, false] rfl rfl (any_of HT_.out (by kernel_rfl)) (fun _ _ _ h => h) (Or.inl ⟨by rfl, ?_⟩) ?_ ?_
                        rotate_left
                        · intro w'
                          go_simp
                          with_reducible rfl
                        rotate_left
                        · simp only [Act.put, List.setIfInBounds_toArray, List.set_cons_zero, List.set_cons_succ, i64_w, i32_w]
                          rfl
                        refine pure_ (i := 1) (N := some 51) (v := ?_) (a' := ?_) #[true, true, false, false, false, false, false, false, false, false, false, false, false, false, false] rfl rfl (any_of HT_.out (by kernel_rfl)) (fun _ _ _ h => h) (Or.inl ⟨by rfl, ?_⟩) ?_ ?_
                        rotate_left
                        · intro w'
                          go_simp
                          with_reducible rfl
                        rotate_left
                        · simp only [Act.put, List.setIfInBounds_toArray, List.set_cons_zero, List.set_cons_succ, i64_w, i32_w]
                          rfl
                        refine pure_ (i := 2) (N := some 52) (v := undef) (a' := ?_) #[true, true, true, false, false, false, false, false, false, false, false, false, false, false, false] rfl rfl (any_of HT_.out (by kernel_rfl)) (fun _ _ _ h => h) (Or.inr ⟨by rfl, rfl⟩) ?_ ?_
                        rotate_left
                        · simp only [Act.put, List.setIfInBounds_toArray, List.set_cons_zero, List.set_cons_succ, i64_w, i32_w]
                          rfl
                        refine pure_ (i := 3) (N := some 53) (v := undef) (a' := ?_) #[true, true, true, true, false, false, false, false, false, false, false, false, false, false, false] rfl rfl (any_of HT_.out (by kernel_rfl)) (fun _ _ _ h => h) (Or.inr ⟨by rfl, rfl⟩) ?_ ?_
                        rotate_left
                        · simp only [Act.put, List.setIfInBounds_toArray, List.set_cons_zero, List.set_cons_succ, i64_w, i32_w]
                          rfl
                        refine pure_ (i := 4) (N := some 54) (v := undef) (a' := ?_) #[true, true, true, true, true, false, false, false, false, false, false, false, false, false, false] rfl rfl (any_of HT_.out (by kernel_rfl)) (fun _ _ _ h => h) (Or.inr ⟨by rfl, rfl⟩) ?_ ?_
                        rotate_left
                        · simp only [Act.put, List.setIfInBounds_toArray, List.set_cons_zero, List.set_cons_succ, i64_w, i32_w]
                          rfl
                        refine pure_ (i := 5) (N := some 55) (v := undef) (a' := ?_) #[true, true, true, true, true, true, false, false, false, false, false, false, false, false, false] rfl rfl (any_of HT_.out (by kernel_rfl)) (fun _ _ _ h => h) (Or.inr ⟨by rfl, rfl⟩) ?_ ?_
                        rotate_left
                        · simp only [Act.put, List.setIfInBounds_toArray, List.set_cons_zero, List.set_cons_succ, i64_w, i32_w]
                          rfl
                        refine pure_ (i := 6) (N := some 56) (v := undef) (a' := ?_) #[true, true, true, true, true, true, true, false, false, false, false, false, false, false, false] rfl rfl (any_of HT_.out (by kernel_rfl)) (fun _ _ _ h => h) (Or.inr ⟨by rfl, rfl⟩) ?_ ?_
                        rotate_left
                        · simp only [Act.put, List.setIfInBounds_toArray, List.set_cons_zero, List.set_cons_succ, i64_w, i32_w]
                          rfl
                        refine pure_ (i := 7) (N := some 57) (v := undef) (a' := ?_) #[true, true, true, true, true, true, true, true, false, false, false, false, false, false, false] rfl rfl (any_of HT_.out (by kernel_rfl)) (fun _ _ _ h => h) (Or.inr ⟨by rfl, rfl⟩) ?_ ?_
                        rotate_left
                        · simp only [Act.put, List.setIfInBounds_toArray, List.set_cons_zero, List.set_cons_succ, i64_w, i32_w]
                          rfl
                        refine pure_ (i := 8) (N := some 58) (v := undef) (a' := ?_) #[true, true, true, true, true, true, true, true, true, false, false, false, false, false, false] rfl rfl (any_of HT_.out (by kernel_rfl)) (fun _ _ _ h => h) (Or.inr ⟨by rfl, rfl⟩) ?_ ?_
                        rotate_left
                        · simp only [Act.put, List.setIfInBounds_toArray, List.set_cons_zero, List.set_cons_succ, i64_w, i32_w]
                          rfl
                        refine pure_ (i := 9) (N := some 59) (v := undef) (a' := ?_) #[true, true, true, true, true, true, true, true, true, true, false, false, false, false, false] rfl rfl (any_of HT_.out (by kernel_rfl)) (fun _ _ _ h => h) (Or.inr ⟨by rfl, rfl⟩) ?_ ?_
                        rotate_left
                        · simp only [Act.put, List.setIfInBounds_toArray, List.set_cons_zero, List.set_cons_succ, i64_w, i32_w]
                          rfl
                        refine pure_ (i := 10) (N := some 60) (v := undef) (a' := ?_) #[true, true, true, true, true, true, true, true, true, true, true, false, false, false, false] rfl rfl (any_of HT_.out (by kernel_rfl)) (fun _ _ _ h => h) (Or.inr ⟨by rfl, rfl⟩) ?_ ?_
                        rotate_left
                        · simp only [Act.put, List.setIfInBounds_toArray, List.set_cons_zero, List.set_cons_succ, i64_w, i32_w]
                          rfl
                        refine pure_ (i := 11) (N := some 61) (v := undef) (a' := ?_) #[true, true, true, true, true, true, true, true, true, true, true, true, false, false, false] rfl rfl (any_of HT_.out (by kernel_rfl)) (fun _ _ _ h => h) (Or.inr ⟨by rfl, rfl⟩) ?_ ?_
                        rotate_left
                        · simp only [Act.put, List.setIfInBounds_toArray, List.set_cons_zero, List.set_cons_succ, i64_w, i32_w]
                          rfl
                        refine pure_ (i := 12) (N := some 62) (v := undef) (a' := ?_) #[true, true, true, true, true, true, true, true, true, true, true, true, true, false, false] rfl rfl (any_of HT_.out (by kernel_rfl)) (fun _ _ _ h => h) (Or.inr ⟨by rfl, rfl⟩) ?_ ?_
                        rotate_left
                        · simp only [Act.put, List.setIfInBounds_toArray, List.set_cons_zero, List.set_cons_succ, i64_w, i32_w]
                          rfl
                        refine pure_ (i := 13) (N := some 63) (v := ?_) (a' := ?_) #[true, true, true, true, true, true, true, true, true, true, true, true, true, true, false] rfl rfl (any_of HT_.out (by kernel_rfl)) (fun _ _ _ h => h) (Or.inl ⟨by rfl, ?_⟩) ?_ ?_
                        rotate_left
                        · intro w'
                          go_simp
                          with_reducible rfl
                        rotate_left
                        · simp only [Act.put, List.setIfInBounds_toArray, List.set_cons_zero, List.set_cons_succ, i64_w, i32_w]
                          rfl
                        refine pure_ (i := 14) (N := some 10) (v := ?_) (a' := ?_) #[true, true, true, true, true, true, true, true, true, true, true, true, true, true, true] rfl rfl (any_of HT_.out (by kernel_rfl)) (fun _ _ _ h => h) (Or.inl ⟨by rfl, ?_⟩) ?_ ?_
                        rotate_left
                        · intro w'
                          go_simp
                          with_reducible rfl
                        rotate_left
                        · simp only [Act.put, List.setIfInBounds_toArray, List.set_cons_zero, List.set_cons_succ, i64_w, i32_w]
                          rfl
                        refine done_ (done_of HT_.out (by kernel_rfl)) ?_
                        try go_wp2
                        go_roundg k3
                        case measure => have := HK1.out; have := HJ6.out; have := HK3.out; omega
                        case rel => exact ⟨(true), (wrap64 (x11_3 + 1)), (by first | rfl | (simp; done) | (simp [*]; done)), (by first | rfl | (simp; done) | (simp [*]; done)), H', ⟨by have := HK1.out; have := HJ6.out; have := HK3.out; omega⟩, ⟨by (with_reducible repeat (first | apply Kd.R_alloc | apply Kd.R_drewN | apply Kd.R_drew)); exact HO_8.out⟩, ⟨by repeat (first | (with_reducible first | exact HB.out | apply below_alloc | apply pw_below_drewN | apply below_drew1) | exact HB.out)⟩⟩
                      · replace c12 := Bool.eq_false_iff.mpr c12
                        subst c12
                        have H1 : (if 0 ≤ x11_3 then (if 0 ≤ x9_1 then (if x9_1 < (l0.length : Int) then (ringworkref25_Undo.l1 k3 l0 a1 x8_1 x9_1 (((rd_T41 x8_1 x11_3).f0).toList == ((rd_T39 l0 x9_1).f2).toList) (wrap64 (x11_3 + 1))) else (none)) else (none)) else (none)) = some (r1, r2) := by rw [if_neg (show ¬ (false = true) by decide)] at H; exact H
                        clear H
                        have H := H1
                        clear H1
                        by_cases c15 : 0 ≤ x11_3
                        · rw [if_pos c15] at H
                          have c15b0 : decide (0 ≤ x11_3) = true := decide_eq_true c15
                          clear c15
                          by_cases c16 : 0 ≤ x9_1
                          · rw [if_pos c16] at H
                            have c16b0 : decide (0 ≤ x9_1) = true := decide_eq_true c16
                            clear c16
                            by_cases c17 : x9_1 < (l0.length : Int)
                            · rw [if_pos c17] at H
                              have c17b0 : decide (x9_1 < (l0.length : Int)) = true := decide_eq_true c17
                              clear c17
                              have H' := Aside0.mk H
                              clear H
                              obtain ⟨Ao18, co18, eo18⟩ := Kd.R_slice HO_8.out
                              subst eo18
                              try go_wp2
                              have n0_ := Aside0.mk (Kd.R_drew HO_8.out)
                              have n1_ := Aside0.mk (below_drew1 HB.out)
                              clear HO_8
                              clear HB
                              have HO_8 := n0_
                              have HB := n1_
                              clear n0_ n1_
                              have p153 : 0 ≤ (x11_3 : Int) := of_decide_eq_true (by first | (with_reducible assumption) | assumption)
                              have q153 : x11_3 < (x8_1.length : Int) := of_decide_eq_true (by first | (with_reducible assumption) | assumption)
                              obtain ⟨ad153, e153, hx153_0, hx153_1, hx153_2⟩ := at_T41 (Kd.R_reads' HO_8.out).2.2 x11_3 p153 q153
                              cases e153
                              replace p153 := eq_true p153
                              replace q153 := eq_true q153
                              have p154 : 0 ≤ (x9_1 : Int) := of_decide_eq_true (by first | (with_reducible assumption) | assumption)
                              have q154 : x9_1 < (l0.length : Int) := of_decide_eq_true (by first | (with_reducible assumption) | assumption)
                              obtain ⟨ad154, e154, hx154_0, hx154_1, hx154_2, hx154_3, hx154_4⟩ := at_T39 HR0.out x9_1 p154 q154
                              have hw154_4 := hx154_4
                              have hw154_3 := hx154_3
                              have hw154_2 := hx154_2
                              have hw154_1 := hx154_1
                              have hw154_0 := hx154_0
                              cases e154
                              replace hx154_0 := (HB.out.cell (World.block_lt_of_cell? w _ hx154_0)).trans hx154_0
                              replace hx154_1 := (HB.out.cell (World.block_lt_of_cell? w _ hx154_1)).trans hx154_1
                              replace hx154_2 := (HB.out.cell (World.block_lt_of_cell? w _ hx154_2)).trans hx154_2
                              replace hx154_3 := (HB.out.cell (World.block_lt_of_cell? w _ hx154_3)).trans hx154_3
                              replace hx154_4 := (HB.out.cell (World.block_lt_of_cell? w _ hx154_4)).trans hx154_4
                              replace p154 := eq_true p154
                              replace q154 := eq_true q154
                              refine start_ (n := 15) (S := fun w' => w'.cell? (ad153.add ((x11_3).toNat * 3)) = some (.string ((rd_T41 x8_1 x11_3).f0)) ∧ w'.cell? ⟨(ad153.add ((x11_3).toNat * 3)).block, (ad153.add ((x11_3).toNat * 3)).off + 1, none⟩ = some (.bool ((rd_T41 x8_1 x11_3).f1)) ∧ w'.cell? ⟨(ad153.add ((x11_3).toNat * 3)).block, (ad153.add ((x11_3).toNat * 3)).off + 2, none⟩ = some (.string ((rd_T41 x8_1 x11_3).f2)) ∧ w'.cell? (ad154.add ((x9_1).toNat * 5)) = some (.int .i64 ((rd_T39 l0 x9_1).f0)) ∧ w'.cell? ⟨(ad154.add ((x9_1).toNat * 5)).block, (ad154.add ((x9_1).toNat * 5)).off + 1, none⟩ = some (.int .i64 ((rd_T39 l0 x9_1).f1)) ∧ w'.cell? ⟨(ad154.add ((x9_1).toNat * 5)).block, (ad154.add ((x9_1).toNat * 5)).off + 2, none⟩ = some (.string ((rd_T39 l0 x9_1).f2)) ∧ w'.cell? ⟨(ad154.add ((x9_1).toNat * 5)).block, (ad154.add ((x9_1).toNat * 5)).off + 3, none⟩ = some (.bool ((rd_T39 l0 x9_1).f3)) ∧ w'.cell? ⟨(ad154.add ((x9_1).toNat * 5)).block, (ad154.add ((x9_1).toNat * 5)).off + 4, none⟩ = some (.string ((rd_T39 l0 x9_1).f4))) (ds := []) #[false, false, false, false, false, false, false, false, false, false, false, false, false, false, false] (by kernel_rfl) rfl rfl ⟨hx153_0, hx153_1, hx153_2, ((HB.out.cell (World.block_lt_of_cell? w _ hw154_0)).trans hw154_0), ((HB.out.cell (World.block_lt_of_cell? w _ hw154_1)).trans hw154_1), ((HB.out.cell (World.block_lt_of_cell? w _ hw154_2)).trans hw154_2), ((HB.out.cell (World.block_lt_of_cell? w _ hw154_3)).trans hw154_3), ((HB.out.cell (World.block_lt_of_cell? w _ hw154_4)).trans hw154_4)⟩ (fun hHeld => ?_); refine with_tabW ringworkref25_Undo.tab13 ringworkref25_Undo.bits13 (fun HT_ HW_ => ?_)
                              generalize wr.drew = w19 at HO_8 HB hx153_0 hx153_1 hx153_2 hx154_0 hx154_1 hx154_2 hx154_3 hx154_4 hHeld ⊢
                              refine pure_ (i := 0) (N := some 50) (v := ?_) (a' := ?_) #[true, false, false, false, false, false, false, false, false, false, false, false, false, false, false] rfl rfl (any_of HT_.out (by kernel_rfl)) (fun _ _ _ h => h) (Or.inl ⟨by rfl, ?_⟩) ?_ ?_
                              rotate_left
                              · intro w'
                                go_simp
                                with_reducible rfl
                              rotate_left
                              · simp only [Act.put, List.setIfInBounds_toArray, List.set_cons_zero, List.set_cons_succ, i64_w, i32_w]
                                rfl
                              refine pure_ (i := 1) (N := some 51) (v := ?_) (a' := ?_) #[true, true, false, false, false, false, false, false, false, false, false, false, false, false, false] rfl rfl (any_of HT_.out (by kernel_rfl)) (fun _ _ _ h => h) (Or.inl ⟨by rfl, ?_⟩) ?_ ?_
                              rotate_left
                              · intro w'
                                go_simp
                                with_reducible rfl
                              rotate_left
                              · simp only [Act.put, List.setIfInBounds_toArray, List.set_cons_zero, List.set_cons_succ, i64_w, i32_w]
                                rfl
                              refine pure_ (i := 2) (N := some 52) (v := ?_) (a' := ?_) #[true, true, true, false, false, false, false, false, false, false, false, false, false, false, false] rfl rfl (any_of HT_.out (by kernel_rfl)) (fun _ _ _ h => h) (Or.inl ⟨by rfl, ?_⟩) ?_ ?_
                              rotate_left
                              · intro w'
                                go_simp
                                with_reducible rfl
                              rotate_left
                              · simp only [Act.put, List.setIfInBounds_toArray, List.set_cons_zero, List.set_cons_succ, i64_w, i32_w]
                                rfl
                              refine pure_ (i := 3) (N := some 53) (v := ?_) (a' := ?_) #[true, true, true, true, false, false, false, false, false, false, false, false, false, false, false] rfl rfl (any_of HT_.out (by kernel_rfl)) (fun _ _ _ h => h) (Or.inl ⟨by rfl, ?_⟩) ?_ ?_
                              rotate_left
                              · intro w'
                                go_simp
                                with_reducible rfl
                              rotate_left
                              · simp only [Act.put, List.setIfInBounds_toArray, List.set_cons_zero, List.set_cons_succ, i64_w, i32_w]
                                rfl
                              refine pure_ (i := 4) (N := some 54) (v := ?_) (a' := ?_) #[true, true, true, true, true, false, false, false, false, false, false, false, false, false, false] rfl rfl (any_of HT_.out (by kernel_rfl)) (fun _ _ _ h => h) (Or.inl ⟨by rfl, ?_⟩) ?_ ?_
                              rotate_left
                              · intro w'
                                go_simp
                                with_reducible rfl
                              rotate_left
                              · simp only [Act.put, List.setIfInBounds_toArray, List.set_cons_zero, List.set_cons_succ, i64_w, i32_w]
                                rfl
                              refine pure_ (i := 5) (N := some 55) (v := ?_) (a' := ?_) #[true, true, true, true, true, true, false, false, false, false, false, false, false, false, false] rfl rfl (any_of HT_.out (by kernel_rfl)) (fun _ _ _ h => h) (Or.inl ⟨by rfl, ?_⟩) ?_ ?_
                              rotate_left
                              · intro w'
                                go_simp
                                with_reducible rfl
                              rotate_left
                              · simp only [Act.put, List.setIfInBounds_toArray, List.set_cons_zero, List.set_cons_succ, i64_w, i32_w]
                                rfl
                              refine pure_ (i := 7) (N := some 57) (v := ?_) (a' := ?_) #[true, true, true, true, true, true, false, true, false, false, false, false, false, false, false] rfl rfl (any_of HT_.out (by kernel_rfl)) (fun _ _ _ h => h) (Or.inl ⟨by rfl, ?_⟩) ?_ ?_
                              rotate_left
                              · intro w'
                                go_simp
                                with_reducible rfl
                              rotate_left
                              · simp only [Act.put, List.setIfInBounds_toArray, List.set_cons_zero, List.set_cons_succ, i64_w, i32_w]
                                rfl
                              refine pure_ (i := 8) (N := some 58) (v := ?_) (a' := ?_) #[true, true, true, true, true, true, false, true, true, false, false, false, false, false, false] rfl rfl (any_of HT_.out (by kernel_rfl)) (fun _ _ _ h => h) (Or.inl ⟨by rfl, ?_⟩) ?_ ?_
                              rotate_left
                              · intro w'
                                go_simp
                                with_reducible rfl
                              rotate_left
                              · simp only [Act.put, List.setIfInBounds_toArray, List.set_cons_zero, List.set_cons_succ, i64_w, i32_w]
                                rfl
                              refine pure_ (i := 9) (N := some 59) (v := ?_) (a' := ?_) #[true, true, true, true, true, true, false, true, true, true, false, false, false, false, false] rfl rfl (any_of HT_.out (by kernel_rfl)) (fun _ _ _ h => h) (Or.inl ⟨by rfl, ?_⟩) ?_ ?_
                              rotate_left
                              · intro w'
                                go_simp
                                with_reducible rfl
                              rotate_left
                              · simp only [Act.put, List.setIfInBounds_toArray, List.set_cons_zero, List.set_cons_succ, i64_w, i32_w]
                                rfl
                              refine pure_ (i := 10) (N := some 60) (v := ?_) (a' := ?_) #[true, true, true, true, true, true, false, true, true, true, true, false, false, false, false] rfl rfl (any_of HT_.out (by kernel_rfl)) (fun _ _ _ h => h) (Or.inl ⟨by rfl, ?_⟩) ?_ ?_
                              rotate_left
                              · intro w'
                                go_simp
                                with_reducible rfl
                              rotate_left
                              · simp only [Act.put, List.setIfInBounds_toArray, List.set_cons_zero, List.set_cons_succ, i64_w, i32_w]
                                rfl
                              refine take_ (i := 6) (N := some 56) (v := ?_) (a' := ?_) #[true, true, true, true, true, true, true, true, true, true, true, false, false, false, false] rfl rfl (take_ofW HT_.out HW_.out (by kernel_rfl)) (fun _ _ _ h => h) (Or.inl ⟨by rfl, ?_⟩) hHeld ?_ ?_
                              rotate_left
                              · rintro w' ⟨s0, s1, s2, s3, s4, s5, s6, s7⟩
                                go_simp
                                with_reducible rfl
                              rotate_left
                              · simp only [Act.put, List.setIfInBounds_toArray, List.set_cons_zero, List.set_cons_succ, i64_w, i32_w]
                                rfl
                              refine take_ (i := 11) (N := some 61) (v := ?_) (a' := ?_) #[true, true, true, true, true, true, true, true, true, true, true, true, false, false, false] rfl rfl (take_ofW HT_.out HW_.out (by kernel_rfl)) (fun _ _ _ h => h) (Or.inl ⟨by rfl, ?_⟩) hHeld ?_ ?_
                              rotate_left
                              · rintro w' ⟨s0, s1, s2, s3, s4, s5, s6, s7⟩
                                go_simp
                                with_reducible rfl
                              rotate_left
                              · simp only [Act.put, List.setIfInBounds_toArray, List.set_cons_zero, List.set_cons_succ, i64_w, i32_w]
                                rfl
                              refine pure_ (i := 12) (N := some 62) (v := ?_) (a' := ?_) #[true, true, true, true, true, true, true, true, true, true, true, true, true, false, false] rfl rfl (any_of HT_.out (by kernel_rfl)) (fun _ _ _ h => h) (Or.inl ⟨by rfl, ?_⟩) ?_ ?_
                              rotate_left
                              · intro w'
                                go_simp
                                with_reducible rfl
                              rotate_left
                              · simp only [Act.put, List.setIfInBounds_toArray, List.set_cons_zero, List.set_cons_succ, i64_w, i32_w]
                                rfl
                              refine pure_ (i := 13) (N := some 63) (v := ?_) (a' := ?_) #[true, true, true, true, true, true, true, true, true, true, true, true, true, true, false] rfl rfl (any_of HT_.out (by kernel_rfl)) (fun _ _ _ h => h) (Or.inl ⟨by rfl, ?_⟩) ?_ ?_
                              rotate_left
                              · intro w'
                                go_simp
                                with_reducible rfl
                              rotate_left
                              · simp only [Act.put, List.setIfInBounds_toArray, List.set_cons_zero, List.set_cons_succ, i64_w, i32_w]
                                rfl
                              refine pure_ (i := 14) (N := some 10) (v := ?_) (a' := ?_) #[true, true, true, true, true, true, true, true, true, true, true, true, true, true, true] rfl rfl (any_of HT_.out (by kernel_rfl)) (fun _ _ _ h => h) (Or.inl ⟨by rfl, ?_⟩) ?_ ?_
                              rotate_left
                              · intro w'
                                go_simp
                                with_reducible rfl
                              rotate_left
                              · simp only [Act.put, List.setIfInBounds_toArray, List.set_cons_zero, List.set_cons_succ, i64_w, i32_w]
                                rfl
                              refine done_ (done_of HT_.out (by kernel_rfl)) ?_
                              try go_wp2
                              go_roundg k3
                              case measure => have := HK1.out; have := HJ6.out; have := HK3.out; omega
                              case rel => exact ⟨((((rd_T41 x8_1 x11_3).f0).toList == ((rd_T39 l0 x9_1).f2).toList)), (wrap64 (x11_3 + 1)), (by first | rfl | (simp; done) | (simp [*]; done)), (by first | rfl | (simp; done) | (simp [*]; done)), H', ⟨by have := HK1.out; have := HJ6.out; have := HK3.out; omega⟩, ⟨by (with_reducible repeat (first | apply Kd.R_alloc | apply Kd.R_drewN | apply Kd.R_drew)); exact HO_8.out⟩, ⟨by repeat (first | (with_reducible first | exact HB.out | apply below_alloc | apply pw_below_drewN | apply below_drew1) | exact HB.out)⟩⟩
                            · rw [if_neg c17] at H
                              exact absurd H (by simp)
                          · rw [if_neg c16] at H
                            exact absurd H (by simp)
                        · rw [if_neg c15] at H
                          exact absurd H (by simp)
                    · rw [if_neg c11] at H
                      have c11b0 : decide (x11_3 < (x8_1.length : Int)) = false := decide_eq_false c11
                      clear c11
                      by_cases c20 : x10_3 = true
                      · subst c20
                        have H1 : (ringworkref25_Undo.l0 k3 l0 a1 x8_1 (wrap64 (x9_1 + 1))) = some (r1, r2) := by rw [if_pos rfl] at H; exact H
                        clear H
                        have H := H1
                        clear H1
                        have H' := Aside0.mk H
                        clear H
                        obtain ⟨Ao21, co21, eo21⟩ := Kd.R_slice HO_8.out
                        subst eo21
                        go_wp2
                        go_roundg k3
                        case measure => have := HK1.out; have := HJ6.out; have := HK3.out; omega
                        case rel => exact ⟨(x8_1), (wrap64 (x9_1 + 1)), (by first | rfl | (simp; done) | (simp [*]; done)), H', ⟨by have := HK1.out; have := HJ6.out; have := HK3.out; omega⟩, ⟨by (with_reducible repeat (first | apply Kd.R_alloc | apply Kd.R_drewN | apply Kd.R_drew)); exact HO_8.out⟩, ⟨by repeat (first | (with_reducible first | exact HB.out | apply below_alloc | apply pw_below_drewN | apply below_drew1) | exact HB.out)⟩⟩
                      · replace c20 := Bool.eq_false_iff.mpr c20
                        subst c20
                        have H1 : (if 0 ≤ x9_1 then (if x9_1 < (l0.length : Int) then ((some (([(⟨(rd_T39 l0 x9_1).f2, (rd_T39 l0 x9_1).f3, (rd_T39 l0 x9_1).f4⟩ : S41)] : List (S41)) : List (S41))).bind fun y158 => (if y158.length + x8_1.length < 3518437208883 then (ringworkref25_Undo.l0 k3 l0 a1 (y158 ++ x8_1) (wrap64 (x9_1 + 1))) else (none))) else (none)) else (none)) = some (r1, r2) := by rw [if_neg (show ¬ (false = true) by decide)] at H; exact H
                        clear H
                        have H := H1
                        clear H1
                        by_cases c22 : 0 ≤ x9_1
                        · rw [if_pos c22] at H
                          have c22b0 : decide (0 ≤ x9_1) = true := decide_eq_true c22
                          clear c22
                          by_cases c23 : x9_1 < (l0.length : Int)
                          · rw [if_pos c23] at H
                            have c23b0 : decide (x9_1 < (l0.length : Int)) = true := decide_eq_true c23
                            clear c23
                            obtain ⟨y158, hy158⟩ : ∃ y_ : List (S41), y_ = (([(⟨(rd_T39 l0 x9_1).f2, (rd_T39 l0 x9_1).f3, (rd_T39 l0 x9_1).f4⟩ : S41)] : List (S41))) := ⟨_, rfl⟩
                            replace H : (if y158.length + x8_1.length < 3518437208883 then (ringworkref25_Undo.l0 k3 l0 a1 (y158 ++ x8_1) (wrap64 (x9_1 + 1))) else (none)) = some (r1, r2) := by first | (rw [hy158]; with_reducible exact H) | (have H2_ := (Option.bind_some _ _).symm.trans H; rw [hy158]; with_reducible exact H2_) | (have H2_ := (Option.bind_some _ _).symm.trans H; with_reducible exact H2_) | with_reducible exact H | (rw [hy158]; exact H) | exact H
                            have Ny158 := Aside0.mk hy158
                            clear hy158
                            by_cases c24 : y158.length + x8_1.length < 3518437208883
                            · rw [if_pos c24] at H
                              have LMc24 := Aside0.mk c24
                              clear c24
                              obtain ⟨y161, hy161⟩ : ∃ y_ : List (S41), y_ = (y158 ++ x8_1) := ⟨_, rfl⟩
                              replace H : (ringworkref25_Undo.l0 k3 l0 a1 y161 (wrap64 (x9_1 + 1))) = some (r1, r2) := by first | (rw [hy161]; with_reducible exact H) | (have H2_ := (Option.bind_some _ _).symm.trans H; rw [hy161]; with_reducible exact H2_) | (have H2_ := (Option.bind_some _ _).symm.trans H; with_reducible exact H2_) | with_reducible exact H | (rw [hy161]; exact H) | exact H
                              have Ny161 := Aside0.mk hy161
                              clear hy161
                              have H' := Aside0.mk H
                              clear H
                              obtain ⟨Ao25, co25, eo25⟩ := Kd.R_slice HO_8.out
                              subst eo25
                              try go_wp2
                              have n0_ := Aside0.mk (Kd.R_drew HO_8.out)
                              have n1_ := Aside0.mk (below_drew1 HB.out)
                              clear HO_8
                              clear HB
                              have HO_8 := n0_
                              have HB := n1_
                              clear n0_ n1_
                              have p155 : 0 ≤ (x9_1 : Int) := of_decide_eq_true (by first | (with_reducible assumption) | assumption)
                              have q155 : x9_1 < (l0.length : Int) := of_decide_eq_true (by first | (with_reducible assumption) | assumption)
                              obtain ⟨ad155, e155, hx155_0, hx155_1, hx155_2, hx155_3, hx155_4⟩ := at_T39 HR0.out x9_1 p155 q155
                              have hw155_4 := hx155_4
                              have hw155_3 := hx155_3
                              have hw155_2 := hx155_2
                              have hw155_1 := hx155_1
                              have hw155_0 := hx155_0
                              cases e155
                              replace hx155_0 := (HB.out.cell (World.block_lt_of_cell? w _ hx155_0)).trans hx155_0
                              replace hx155_1 := (HB.out.cell (World.block_lt_of_cell? w _ hx155_1)).trans hx155_1
                              replace hx155_2 := (HB.out.cell (World.block_lt_of_cell? w _ hx155_2)).trans hx155_2
                              replace hx155_3 := (HB.out.cell (World.block_lt_of_cell? w _ hx155_3)).trans hx155_3
                              replace hx155_4 := (HB.out.cell (World.block_lt_of_cell? w _ hx155_4)).trans hx155_4
                              replace p155 := eq_true p155
                              replace q155 := eq_true q155
                              have p156 : 0 ≤ (x9_1 : Int) := of_decide_eq_true (by first | (with_reducible assumption) | assumption)
                              have q156 : x9_1 < (l0.length : Int) := of_decide_eq_true (by first | (with_reducible assumption) | assumption)
                              obtain ⟨ad156, e156, hx156_0, hx156_1, hx156_2, hx156_3, hx156_4⟩ := at_T39 HR0.out x9_1 p156 q156
                              have hw156_4 := hx156_4
                              have hw156_3 := hx156_3
                              have hw156_2 := hx156_2
                              have hw156_1 := hx156_1
                              have hw156_0 := hx156_0
                              obtain rfl : ad155 = ad156 := (by injection e156)
                              replace hx156_0 := (HB.out.cell (World.block_lt_of_cell? w _ hx156_0)).trans hx156_0
                              replace hx156_1 := (HB.out.cell (World.block_lt_of_cell? w _ hx156_1)).trans hx156_1
                              replace hx156_2 := (HB.out.cell (World.block_lt_of_cell? w _ hx156_2)).trans hx156_2
                              replace hx156_3 := (HB.out.cell (World.block_lt_of_cell? w _ hx156_3)).trans hx156_3
                              replace hx156_4 := (HB.out.cell (World.block_lt_of_cell? w _ hx156_4)).trans hx156_4
                              replace p156 := eq_true p156
                              replace q156 := eq_true q156
                              have p157 : 0 ≤ (x9_1 : Int) := of_decide_eq_true (by first | (with_reducible assumption) | assumption)
                              have q157 : x9_1 < (l0.length : Int) := of_decide_eq_true (by first | (with_reducible assumption) | assumption)
                              obtain ⟨ad157, e157, hx157_0, hx157_1, hx157_2, hx157_3, hx157_4⟩ := at_T39 HR0.out x9_1 p157 q157
                              have hw157_4 := hx157_4
                              have hw157_3 := hx157_3
                              have hw157_2 := hx157_2
                              have hw157_1 := hx157_1
                              have hw157_0 := hx157_0
                              obtain rfl : ad155 = ad157 := (by injection e157)
                              replace hx157_0 := (HB.out.cell (World.block_lt_of_cell? w _ hx157_0)).trans hx157_0
                              replace hx157_1 := (HB.out.cell (World.block_lt_of_cell? w _ hx157_1)).trans hx157_1
                              replace hx157_2 := (HB.out.cell (World.block_lt_of_cell? w _ hx157_2)).trans hx157_2
                              replace hx157_3 := (HB.out.cell (World.block_lt_of_cell? w _ hx157_3)).trans hx157_3
                              replace hx157_4 := (HB.out.cell (World.block_lt_of_cell? w _ hx157_4)).trans hx157_4
                              replace p157 := eq_true p157
                              replace q157 := eq_true q157
                              refine start_ (n := 20) (S := fun w' => w'.cell? (ad155.add ((x9_1).toNat * 5)) = some (.int .i64 ((rd_T39 l0 x9_1).f0)) ∧ w'.cell? ⟨(ad155.add ((x9_1).toNat * 5)).block, (ad155.add ((x9_1).toNat * 5)).off + 1, none⟩ = some (.int .i64 ((rd_T39 l0 x9_1).f1)) ∧ w'.cell? ⟨(ad155.add ((x9_1).toNat * 5)).block, (ad155.add ((x9_1).toNat * 5)).off + 2, none⟩ = some (.string ((rd_T39 l0 x9_1).f2)) ∧ w'.cell? ⟨(ad155.add ((x9_1).toNat * 5)).block, (ad155.add ((x9_1).toNat * 5)).off + 3, none⟩ = some (.bool ((rd_T39 l0 x9_1).f3)) ∧ w'.cell? ⟨(ad155.add ((x9_1).toNat * 5)).block, (ad155.add ((x9_1).toNat * 5)).off + 4, none⟩ = some (.string ((rd_T39 l0 x9_1).f4)) ∧ w'.cell? (ad155.add ((x9_1).toNat * 5)) = some (.int .i64 ((rd_T39 l0 x9_1).f0)) ∧ w'.cell? ⟨(ad155.add ((x9_1).toNat * 5)).block, (ad155.add ((x9_1).toNat * 5)).off + 1, none⟩ = some (.int .i64 ((rd_T39 l0 x9_1).f1)) ∧ w'.cell? ⟨(ad155.add ((x9_1).toNat * 5)).block, (ad155.add ((x9_1).toNat * 5)).off + 2, none⟩ = some (.string ((rd_T39 l0 x9_1).f2)) ∧ w'.cell? ⟨(ad155.add ((x9_1).toNat * 5)).block, (ad155.add ((x9_1).toNat * 5)).off + 3, none⟩ = some (.bool ((rd_T39 l0 x9_1).f3)) ∧ w'.cell? ⟨(ad155.add ((x9_1).toNat * 5)).block, (ad155.add ((x9_1).toNat * 5)).off + 4, none⟩ = some (.string ((rd_T39 l0 x9_1).f4)) ∧ w'.cell? (ad155.add ((x9_1).toNat * 5)) = some (.int .i64 ((rd_T39 l0 x9_1).f0)) ∧ w'.cell? ⟨(ad155.add ((x9_1).toNat * 5)).block, (ad155.add ((x9_1).toNat * 5)).off + 1, none⟩ = some (.int .i64 ((rd_T39 l0 x9_1).f1)) ∧ w'.cell? ⟨(ad155.add ((x9_1).toNat * 5)).block, (ad155.add ((x9_1).toNat * 5)).off + 2, none⟩ = some (.string ((rd_T39 l0 x9_1).f2)) ∧ w'.cell? ⟨(ad155.add ((x9_1).toNat * 5)).block, (ad155.add ((x9_1).toNat * 5)).off + 3, none⟩ = some (.bool ((rd_T39 l0 x9_1).f3)) ∧ w'.cell? ⟨(ad155.add ((x9_1).toNat * 5)).block, (ad155.add ((x9_1).toNat * 5)).off + 4, none⟩ = some (.string ((rd_T39 l0 x9_1).f4))) (ds := []) #[false, false, false, false, false, false, false, false, false, false, false, false, false, false, false, false, false, false, false, false] (by kernel_rfl) rfl rfl ⟨((HB.out.cell (World.block_lt_of_cell? w _ hw155_0)).trans hw155_0), ((HB.out.cell (World.block_lt_of_cell? w _ hw155_1)).trans hw155_1), ((HB.out.cell (World.block_lt_of_cell? w _ hw155_2)).trans hw155_2), ((HB.out.cell (World.block_lt_of_cell? w _ hw155_3)).trans hw155_3), ((HB.out.cell (World.block_lt_of_cell? w _ hw155_4)).trans hw155_4), ((HB.out.cell (World.block_lt_of_cell? w _ hw156_0)).trans hw156_0), ((HB.out.cell (World.block_lt_of_cell? w _ hw156_1)).trans hw156_1), ((HB.out.cell (World.block_lt_of_cell? w _ hw156_2)).trans hw156_2), ((HB.out.cell (World.block_lt_of_cell? w _ hw156_3)).trans hw156_3), ((HB.out.cell (World.block_lt_of_cell? w _ hw156_4)).trans hw156_4), ((HB.out.cell (World.block_lt_of_cell? w _ hw157_0)).trans hw157_0), ((HB.out.cell (World.block_lt_of_cell? w _ hw157_1)).trans hw157_1), ((HB.out.cell (World.block_lt_of_cell? w _ hw157_2)).trans hw157_2), ((HB.out.cell (World.block_lt_of_cell? w _ hw157_3)).trans hw157_3), ((HB.out.cell (World.block_lt_of_cell? w _ hw157_4)).trans hw157_4)⟩ (fun hHeld => ?_); refine with_tabW ringworkref25_Undo.tab15 ringworkref25_Undo.bits15 (fun HT_ HW_ => ?_)
                              generalize wr.drew = w26 at HO_8 HB hx155_0 hx155_1 hx155_2 hx155_3 hx155_4 hx156_0 hx156_1 hx156_2 hx156_3 hx156_4 hx157_0 hx157_1 hx157_2 hx157_3 hx157_4 hHeld ⊢
                              refine pure_ (i := 0) (N := some 66) (v := ?_) (a' := ?_) #[true, false, false, false, false, false, false, false, false, false, false, false, false, false, false, false, false, false, false, false] rfl rfl (any_of HT_.out (by kernel_rfl)) (fun _ _ _ h => h) (Or.inl ⟨by rfl, ?_⟩) ?_ ?_
                              rotate_left
                              · intro w'
                                go_simp
                                with_reducible rfl
                              rotate_left
                              · simp only [Act.put, List.setIfInBounds_toArray, List.set_cons_zero, List.set_cons_succ, i64_w, i32_w]
                                rfl
                              refine pure_ (i := 1) (N := some 67) (v := ?_) (a' := ?_) #[true, true, false, false, false, false, false, false, false, false, false, false, false, false, false, false, false, false, false, false] rfl rfl (any_of HT_.out (by kernel_rfl)) (fun _ _ _ h => h) (Or.inl ⟨by rfl, ?_⟩) ?_ ?_
                              rotate_left
                              · intro w'
                                go_simp
                                with_reducible rfl
                              rotate_left
                              · simp only [Act.put, List.setIfInBounds_toArray, List.set_cons_zero, List.set_cons_succ, i64_w, i32_w]
                                rfl
                              refine pure_ (i := 2) (N := some 68) (v := ?_) (a' := ?_) #[true, true, true, false, false, false, false, false, false, false, false, false, false, false, false, false, false, false, false, false] rfl rfl (any_of HT_.out (by kernel_rfl)) (fun _ _ _ h => h) (Or.inl ⟨by rfl, ?_⟩) ?_ ?_
                              rotate_left
                              · intro w'
                                go_simp
                                with_reducible rfl
                              rotate_left
                              · simp only [Act.put, List.setIfInBounds_toArray, List.set_cons_zero, List.set_cons_succ, i64_w, i32_w]
                                rfl
                              refine pure_ (i := 3) (N := some 69) (v := ?_) (a' := ?_) #[true, true, true, true, false, false, false, false, false, false, false, false, false, false, false, false, false, false, false, false] rfl rfl (any_of HT_.out (by kernel_rfl)) (fun _ _ _ h => h) (Or.inl ⟨by rfl, ?_⟩) ?_ ?_
                              rotate_left
                              · intro w'
                                go_simp
                                with_reducible rfl
                              rotate_left
                              · simp only [Act.put, List.setIfInBounds_toArray, List.set_cons_zero, List.set_cons_succ, i64_w, i32_w]
                                rfl
                              refine pure_ (i := 5) (N := some 71) (v := ?_) (a' := ?_) #[true, true, true, true, false, true, false, false, false, false, false, false, false, false, false, false, false, false, false, false] rfl rfl (any_of HT_.out (by kernel_rfl)) (fun _ _ _ h => h) (Or.inl ⟨by rfl, ?_⟩) ?_ ?_
                              rotate_left
                              · intro w'
                                go_simp
                                with_reducible rfl
                              rotate_left
                              · simp only [Act.put, List.setIfInBounds_toArray, List.set_cons_zero, List.set_cons_succ, i64_w, i32_w]
                                rfl
                              refine pure_ (i := 6) (N := some 72) (v := ?_) (a' := ?_) #[true, true, true, true, false, true, true, false, false, false, false, false, false, false, false, false, false, false, false, false] rfl rfl (any_of HT_.out (by kernel_rfl)) (fun _ _ _ h => h) (Or.inl ⟨by rfl, ?_⟩) ?_ ?_
                              rotate_left
                              · intro w'
                                go_simp
                                with_reducible rfl
                              rotate_left
                              · simp only [Act.put, List.setIfInBounds_toArray, List.set_cons_zero, List.set_cons_succ, i64_w, i32_w]
                                rfl
                              refine pure_ (i := 7) (N := some 73) (v := ?_) (a' := ?_) #[true, true, true, true, false, true, true, true, false, false, false, false, false, false, false, false, false, false, false, false] rfl rfl (any_of HT_.out (by kernel_rfl)) (fun _ _ _ h => h) (Or.inl ⟨by rfl, ?_⟩) ?_ ?_
                              rotate_left
                              · intro w'
                                go_simp
                                with_reducible rfl
                              rotate_left
                              · simp only [Act.put, List.setIfInBounds_toArray, List.set_cons_zero, List.set_cons_succ, i64_w, i32_w]
                                rfl
                              refine pure_ (i := 8) (N := some 74) (v := ?_) (a' := ?_) #[true, true, true, true, false, true, true, true, true, false, false, false, false, false, false, false, false, false, false, false] rfl rfl (any_of HT_.out (by kernel_rfl)) (fun _ _ _ h => h) (Or.inl ⟨by rfl, ?_⟩) ?_ ?_
                              rotate_left
                              · intro w'
                                go_simp
                                with_reducible rfl
                              rotate_left
                              · simp only [Act.put, List.setIfInBounds_toArray, List.set_cons_zero, List.set_cons_succ, i64_w, i32_w]
                                rfl
                              refine pure_ (i := 10) (N := some 76) (v := ?_) (a' := ?_) #[true, true, true, true, false, true, true, true, true, false, true, false, false, false, false, false, false, false, false, false] rfl rfl (any_of HT_.out (by kernel_rfl)) (fun _ _ _ h => h) (Or.inl ⟨by rfl, ?_⟩) ?_ ?_
                              rotate_left
                              · intro w'
                                go_simp
                                with_reducible rfl
                              rotate_left
                              · simp only [Act.put, List.setIfInBounds_toArray, List.set_cons_zero, List.set_cons_succ, i64_w, i32_w]
                                rfl
                              refine pure_ (i := 11) (N := some 77) (v := ?_) (a' := ?_) #[true, true, true, true, false, true, true, true, true, false, true, true, false, false, false, false, false, false, false, false] rfl rfl (any_of HT_.out (by kernel_rfl)) (fun _ _ _ h => h) (Or.inl ⟨by rfl, ?_⟩) ?_ ?_
                              rotate_left
                              · intro w'
                                go_simp
                                with_reducible rfl
                              rotate_left
                              · simp only [Act.put, List.setIfInBounds_toArray, List.set_cons_zero, List.set_cons_succ, i64_w, i32_w]
                                rfl
                              refine pure_ (i := 12) (N := some 78) (v := ?_) (a' := ?_) #[true, true, true, true, false, true, true, true, true, false, true, true, true, false, false, false, false, false, false, false] rfl rfl (any_of HT_.out (by kernel_rfl)) (fun _ _ _ h => h) (Or.inl ⟨by rfl, ?_⟩) ?_ ?_
                              rotate_left
                              · intro w'
                                go_simp
                                with_reducible rfl
                              rotate_left
                              · simp only [Act.put, List.setIfInBounds_toArray, List.set_cons_zero, List.set_cons_succ, i64_w, i32_w]
                                rfl
                              refine pure_ (i := 13) (N := some 79) (v := ?_) (a' := ?_) #[true, true, true, true, false, true, true, true, true, false, true, true, true, true, false, false, false, false, false, false] rfl rfl (any_of HT_.out (by kernel_rfl)) (fun _ _ _ h => h) (Or.inl ⟨by rfl, ?_⟩) ?_ ?_
                              rotate_left
                              · intro w'
                                go_simp
                                with_reducible rfl
                              rotate_left
                              · simp only [Act.put, List.setIfInBounds_toArray, List.set_cons_zero, List.set_cons_succ, i64_w, i32_w]
                                rfl
                              refine pure_ (i := 17) (N := some 83) (v := ?_) (a' := ?_) #[true, true, true, true, false, true, true, true, true, false, true, true, true, true, false, false, false, true, false, false] rfl rfl (any_of HT_.out (by kernel_rfl)) (fun _ _ _ h => h) (Or.inl ⟨by rfl, ?_⟩) ?_ ?_
                              rotate_left
                              · intro w'
                                go_simp
                                with_reducible rfl
                              rotate_left
                              · simp only [Act.put, List.setIfInBounds_toArray, List.set_cons_zero, List.set_cons_succ, i64_w, i32_w]
                                rfl
                              refine take_ (i := 4) (N := some 70) (v := ?_) (a' := ?_) #[true, true, true, true, true, true, true, true, true, false, true, true, true, true, false, false, false, true, false, false] rfl rfl (take_ofW HT_.out HW_.out (by kernel_rfl)) (fun _ _ _ h => h) (Or.inl ⟨by rfl, ?_⟩) hHeld ?_ ?_
                              rotate_left
                              · rintro w' ⟨s0, s1, s2, s3, s4, s5, s6, s7, s8, s9, s10, s11, s12, s13, s14⟩
                                go_simp
                                with_reducible rfl
                              rotate_left
                              · simp only [Act.put, List.setIfInBounds_toArray, List.set_cons_zero, List.set_cons_succ, i64_w, i32_w]
                                rfl
                              refine take_ (i := 9) (N := some 75) (v := ?_) (a' := ?_) #[true, true, true, true, true, true, true, true, true, true, true, true, true, true, false, false, false, true, false, false] rfl rfl (take_ofW HT_.out HW_.out (by kernel_rfl)) (fun _ _ _ h => h) (Or.inl ⟨by rfl, ?_⟩) hHeld ?_ ?_
                              rotate_left
                              · rintro w' ⟨s0, s1, s2, s3, s4, s5, s6, s7, s8, s9, s10, s11, s12, s13, s14⟩
                                go_simp
                                with_reducible rfl
                              rotate_left
                              · simp only [Act.put, List.setIfInBounds_toArray, List.set_cons_zero, List.set_cons_succ, i64_w, i32_w]
                                rfl
                              refine take_ (i := 14) (N := some 80) (v := ?_) (a' := ?_) #[true, true, true, true, true, true, true, true, true, true, true, true, true, true, true, false, false, true, false, false] rfl rfl (take_ofW HT_.out HW_.out (by kernel_rfl)) (fun _ _ _ h => h) (Or.inl ⟨by rfl, ?_⟩) hHeld ?_ ?_
                              rotate_left
                              · rintro w' ⟨s0, s1, s2, s3, s4, s5, s6, s7, s8, s9, s10, s11, s12, s13, s14⟩
                                go_simp
                                with_reducible rfl
                              rotate_left
                              · simp only [Act.put, List.setIfInBounds_toArray, List.set_cons_zero, List.set_cons_succ, i64_w, i32_w]
                                rfl
                              refine pure_ (i := 15) (N := some 81) (v := ?_) (a' := ?_) #[true, true, true, true, true, true, true, true, true, true, true, true, true, true, true, true, false, true, false, false] rfl rfl (any_of HT_.out (by kernel_rfl)) (fun _ _ _ h => h) (Or.inl ⟨by rfl, ?_⟩) ?_ ?_
                              rotate_left
                              · intro w'
                                go_simp
                                with_reducible rfl
                              rotate_left
                              · simp only [Act.put, List.setIfInBounds_toArray, List.set_cons_zero, List.set_cons_succ, i64_w, i32_w]
                                rfl
                              refine one_ (i := 16) (N := some 82) #[true, true, true, true, true, true, true, true, true, true, true, true, true, true, true, true, true, true, false, false] rfl rfl (one_of HT_.out (by kernel_rfl)) (by decide) (fun K hK => ?_)
                              refine Kd.R_lit_step k41 _ 41 ?hg (N := 82) ?hd (xs := ([(⟨(rd_T39 l0 x9_1).f2, (rd_T39 l0 x9_1).f3, (rd_T39 l0 x9_1).f4⟩ : S41)] : List (S41))) (inner := [.string ((rd_T39 l0 x9_1).f2), .bool ((rd_T39 l0 x9_1).f3), .string ((rd_T39 l0 x9_1).f4)]) (ok := fun _ => True) (okp := fun _ => True) ?hr ?hp (fun _ hk => hk) trivial (Below.refl _ _) (Nat.le_refl _) (by simp) ?_; (case hd => rfl); (case hg => rfl); (case hr => first | (go_simp; done) | (go_simp; rfl)); (case hp => exact (Reps.c3 (show Kd.M k41 _ _ _ (⟨(rd_T39 l0 x9_1).f2, (rd_T39 l0 x9_1).f3, (rd_T39 l0 x9_1).f4⟩ : S41) [.string ((rd_T39 l0 x9_1).f2), .bool ((rd_T39 l0 x9_1).f3), .string ((rd_T39 l0 x9_1).f4)] from (k41_mkM _ _ _ (⟨(rd_T39 l0 x9_1).f2, (rd_T39 l0 x9_1).f3, (rd_T39 l0 x9_1).f4⟩ : S41) )) (Reps.none _ _)))
                              intro v159 w27 ho28 hb hg_ hnew_
                              clear hg_ hnew_
                              (first | rw [← Ny158.out] at ho28 | (simp only [Int.reduceToNat] at ho28; rw [← Ny158.out] at ho28))
                              have n0_ := Aside0.mk (Kd.R_elder' (by (with_reducible repeat (first | apply Kd.R_alloc | apply Kd.R_drewN | apply Kd.R_drew)); exact HO_8.out) (Kd.R_base ho28) hb)
                              have n1_ := Aside0.mk (Kd.R_lower (Kd.R_new' ho28 (Kd.R_lt (by (with_reducible repeat (first | apply Kd.R_alloc | apply Kd.R_drewN | apply Kd.R_drew)); exact HO_8.out))) (below_size (by repeat (first | (with_reducible first | exact HB.out | apply below_alloc | apply pw_below_drewN | apply below_drew1) | exact HB.out))))
                              have n2_ := Aside0.mk (below_step (by repeat (first | (with_reducible first | exact HB.out | apply below_alloc | apply pw_below_drewN | apply below_drew1) | exact HB.out)) hb)
                              clear HO_8
                              clear HB
                              have HO_8 := n0_
                              have HO160 := n1_
                              have HB := n2_
                              clear n0_ n1_ n2_
                              clear hb ho28
                              refine hK.out _ _ ⟨((HB.out.cell (World.block_lt_of_cell? w _ hw155_0)).trans hw155_0), ((HB.out.cell (World.block_lt_of_cell? w _ hw155_1)).trans hw155_1), ((HB.out.cell (World.block_lt_of_cell? w _ hw155_2)).trans hw155_2), ((HB.out.cell (World.block_lt_of_cell? w _ hw155_3)).trans hw155_3), ((HB.out.cell (World.block_lt_of_cell? w _ hw155_4)).trans hw155_4), ((HB.out.cell (World.block_lt_of_cell? w _ hw156_0)).trans hw156_0), ((HB.out.cell (World.block_lt_of_cell? w _ hw156_1)).trans hw156_1), ((HB.out.cell (World.block_lt_of_cell? w _ hw156_2)).trans hw156_2), ((HB.out.cell (World.block_lt_of_cell? w _ hw156_3)).trans hw156_3), ((HB.out.cell (World.block_lt_of_cell? w _ hw156_4)).trans hw156_4), ((HB.out.cell (World.block_lt_of_cell? w _ hw157_0)).trans hw157_0), ((HB.out.cell (World.block_lt_of_cell? w _ hw157_1)).trans hw157_1), ((HB.out.cell (World.block_lt_of_cell? w _ hw157_2)).trans hw157_2), ((HB.out.cell (World.block_lt_of_cell? w _ hw157_3)).trans hw157_3), ((HB.out.cell (World.block_lt_of_cell? w _ hw157_4)).trans hw157_4)⟩ (fun hHeld => ?_)
                              clear hK K
                              refine norm_ (a' := ?_) ?_ ?_
                              rotate_left
                              · show Act.put _ (some 82) _ = _
                                simp only [Act.put, List.setIfInBounds_toArray, List.set_cons_zero, List.set_cons_succ, i64_w, i32_w]
                                rfl
                              refine one_ (i := 18) (N := some 84) #[true, true, true, true, true, true, true, true, true, true, true, true, true, true, true, true, true, true, true, false] rfl rfl (one_of HT_.out (by kernel_rfl)) (by decide) (fun K hK => ?_)
                              refine Kd.R_append_rows_step k41 (w0 := w) w.heap.size (by rfl) (.tmp 82) (.tmp 83) 22 41 (.agg #[(.string ⟨#[]⟩), (.bool false), (.string ⟨#[]⟩)]) 40 rfl Try.underlying22 info41 rfl (by decide) (by omega) v159 y158 x8_1 _ _ _ (fun k_ => some k_ ≠ (.slice Ao25 x8_1.length co25 : Value).ownBlock) (fun _ => False) rfl rfl ?aO ?aR (fun _ _ h => h) (fun _ h => h.elim) ?aF ?aB ?aS ?aL ?_
                              (case aR => repeat (first | exact (Kd.R_reads' HO_8.out).2.2 | (with_reducible refine Kd.C_alloc ?_ _) | (with_reducible refine Kd.C_drewN ?_ _) | (with_reducible refine Kd.C_drew ?_)))
                              (case aB => exact (by repeat (first | (with_reducible first | exact HB.out | apply below_alloc | apply pw_below_drewN | apply below_drew1) | exact HB.out)))
                              (case aF => exact (fun k_ hk => Kd.fresh' (Kd.R_lt (by (with_reducible repeat (first | apply Kd.R_alloc | apply Kd.R_drewN | apply Kd.R_drew)); exact HO_8.out)) k_ hk))
                              (case aO => exact (by (with_reducible repeat (first | apply Kd.R_alloc | apply Kd.R_drewN | apply Kd.R_drew)); exact Kd.R_mono HO160.out (fun _ hk => hk.2)))
                              (case aS => exact (below_size (by repeat (first | (with_reducible first | exact HB.out | apply below_alloc | apply pw_below_drewN | apply below_drew1) | exact HB.out))))
                              (case aL => have := LMc24.out; omega)
                              intro v162 w29 ho hb hg hat
                              rw [← Ny161.out] at ho
                              have n0_ := Aside0.mk (Kd.R_after (ok := (fun _ => True)) (by (with_reducible repeat (first | apply Kd.R_alloc | apply Kd.R_drewN | apply Kd.R_drew)); exact HO_8.out) hg hat)
                              have n1_ := Aside0.mk (hb)
                              have n2_ := Aside0.mk (ho)
                              clear HO_8
                              clear HB
                              clear HO160
                              have HO_8 := n0_
                              have HB := n1_
                              have HO163 := n2_
                              clear n0_ n1_ n2_
                              clear ho hb hg hat
                              refine hK.out _ _ ⟨((HB.out.cell (World.block_lt_of_cell? w _ hw155_0)).trans hw155_0), ((HB.out.cell (World.block_lt_of_cell? w _ hw155_1)).trans hw155_1), ((HB.out.cell (World.block_lt_of_cell? w _ hw155_2)).trans hw155_2), ((HB.out.cell (World.block_lt_of_cell? w _ hw155_3)).trans hw155_3), ((HB.out.cell (World.block_lt_of_cell? w _ hw155_4)).trans hw155_4), ((HB.out.cell (World.block_lt_of_cell? w _ hw156_0)).trans hw156_0), ((HB.out.cell (World.block_lt_of_cell? w _ hw156_1)).trans hw156_1), ((HB.out.cell (World.block_lt_of_cell? w _ hw156_2)).trans hw156_2), ((HB.out.cell (World.block_lt_of_cell? w _ hw156_3)).trans hw156_3), ((HB.out.cell (World.block_lt_of_cell? w _ hw156_4)).trans hw156_4), ((HB.out.cell (World.block_lt_of_cell? w _ hw157_0)).trans hw157_0), ((HB.out.cell (World.block_lt_of_cell? w _ hw157_1)).trans hw157_1), ((HB.out.cell (World.block_lt_of_cell? w _ hw157_2)).trans hw157_2), ((HB.out.cell (World.block_lt_of_cell? w _ hw157_3)).trans hw157_3), ((HB.out.cell (World.block_lt_of_cell? w _ hw157_4)).trans hw157_4)⟩ (fun hHeld => ?_)
                              clear hK K
                              refine norm_ (a' := ?_) ?_ ?_
                              rotate_left
                              · show Act.put _ (some 84) _ = _
                                simp only [Act.put, List.setIfInBounds_toArray, List.set_cons_zero, List.set_cons_succ, i64_w, i32_w]
                                rfl
                              refine pure_ (i := 19) (N := some 8) (v := ?_) (a' := ?_) #[true, true, true, true, true, true, true, true, true, true, true, true, true, true, true, true, true, true, true, true] rfl rfl (any_of HT_.out (by kernel_rfl)) (fun _ _ _ h => h) (Or.inl ⟨by rfl, ?_⟩) ?_ ?_
                              rotate_left
                              · intro w'
                                go_simp
                                with_reducible rfl
                              rotate_left
                              · simp only [Act.put, List.setIfInBounds_toArray, List.set_cons_zero, List.set_cons_succ, i64_w, i32_w]
                                rfl
                              refine done_ (done_of HT_.out (by kernel_rfl)) ?_
                              try go_wp2
                              go_roundg k3
                              case measure => have := HK1.out; have := HJ6.out; have := HK3.out; omega
                              case rel => exact ⟨(y161), (wrap64 (x9_1 + 1)), (by first | rfl | (simp; done) | (simp [*]; done)), H', ⟨by have := HK1.out; have := HJ6.out; have := HK3.out; omega⟩, ⟨by (with_reducible repeat (first | apply Kd.R_alloc | apply Kd.R_drewN | apply Kd.R_drew)); exact Kd.R_mono HO163.out (fun _ hk => trivial)⟩, ⟨by repeat (first | (with_reducible first | exact HB.out | apply below_alloc | apply pw_below_drewN | apply below_drew1) | exact HB.out)⟩⟩
                            · rw [if_neg c24] at H
                              exact absurd H (by simp)
                          · rw [if_neg c23] at H
                            exact absurd H (by simp)
                        · rw [if_neg c22] at H
                          exact absurd H (by simp)
        · rw [if_neg c6] at H
          have c6b0 : decide (x9_1 < (l0.length : Int)) = false := decide_eq_false c6
          clear c6
          simp only [Option.some.injEq, Prod.mk.injEq] at H
          obtain ⟨rfl, rfl⟩ := H
          go_wp2
          go_ret2
          exact ⟨_, by first | rfl | (simp [errW_none, errW_some] <;> rfl) | (simp [*, errW_none, errW_some] <;> rfl), by (with_reducible repeat (first | apply Kd.R_alloc | apply Kd.R_drewN | apply Kd.R_drew)); exact HO_8.out, by repeat (first | (with_reducible first | exact HB.out | apply below_alloc | apply pw_below_drewN | apply below_drew1) | exact HB.out)⟩
  · rw [if_neg c4] at H
    have c4b0 : (t150 == 0) = false := beq_eq_false_iff_ne.mpr c4
    have c4b1 : (t150 != 0) = true := bne_iff_ne.mpr c4
    simp only [Option.some.injEq, Prod.mk.injEq] at H
    obtain ⟨rfl, rfl⟩ := H
    go_enter Try.func17, Try.ntmps17
    go_wp2_with (first | ((with_reducible refine gate_callee (f := 39) rfl ?_); refine goesL_ (some 15) rfl rfl Try.func39 (by kernel_rfl) rfl #[.slice A0 l0.length c0, .int .i64 a1] rfl (by (try simp only [List.map_toArray, List.map_cons, List.map_nil]); first | done | rfl | (simp only [List.length_drop, List.length_take]; rfl)) ?_; (with_reducible refine (ringworkref25_QuietAt.calls k _ _ l0 a1 t149 t150 _ ?side1 ?side2 A3.out).mono ?_); (case side1 => repeat (first | exact HR0.out | (with_reducible refine Kd.C_alloc ?_ _) | (with_reducible refine Kd.C_drewN ?_ _) | (with_reducible refine Kd.C_drew ?_))); (case side2 => exact HC0.out); rintro e w30 ⟨rfl, hb⟩; refine ⟨_, rfl, ?_⟩; have n0_ := Aside0.mk (below_step (by repeat (first | (with_reducible first | exact HB.out | apply below_alloc | apply pw_below_drewN | apply below_drew1) | exact HB.out)) hb); clear HB; have HB := n0_; clear n0_; (try clear hb); (try clear hb2); (try clear hk); (try clear hi)))
    go_ret2
    exact ⟨_, by first | rfl | (simp [errW_none, errW_some] <;> rfl) | (simp [*, errW_none, errW_some] <;> rfl), by first | exact Kd.R_nil _ _ _ _ _ | exact Kd.N_nil _ _ _ _ _ | exact Kd.V_nil _ _ _ _ _ | exact Kd.Q_nil _ _ _ _ _ | exact Kd.S_nil _ _ _ _ _, by repeat (first | (with_reducible first | exact HB.out | apply below_alloc | apply pw_below_drewN | apply below_drew1) | exact HB.out)⟩

end Go.Proofs.Yteblpjnkinghoaa.J
/- The reference's QuietAt and Undo are the program's. -/
namespace Go.Proofs.Yteblpjnkinghoaa.J
open Go.RowKit Go.Proofs.YteblpjnkinghoaaW.PrintWords
theorem right_eq (l : List S39) : rightV l = rightN l := rfl
theorem ref_QuietAt (l : List S39) (u : Int) (hl : l.length ≤ 9223372036854775807) : Ev (fun k => ringworkref25_QuietAt.f k l u) (askedV l u) := by
  unfold ringworkref25_QuietAt.f askedV
  rw [right_eq]
  refine Ev.bind (ref_right l hl) ?_
  by_cases h0 : rightN l = 0
  · simp only [if_pos h0]
    by_cases hu : 1 ≤ u ∧ u ≤ 1000
    · simp only [if_neg (show ¬ u < 1 by omega)]
      rw [decide_eq_false (show ¬ u > 1000 by omega), if_pos hu]
      refine Ev.step (fun k => by rw [ringworkref25_QuietAt.j0, if_neg (by decide)]) ?_
      have hs := ref_since l l.length u (Nat.le_refl _) hl
      rw [List.take_length] at hs
      refine Ev.bind hs ?_
      unfold atI
      cases h2 : (sinceV l u).2 with
      | false => simp only [if_neg (show ¬ (false = true) by decide), if_pos (show (-1 : Int) < 0 by decide)]; exact Ev.val _
      | true =>
        have := since_in h2
        simp only [if_true, if_neg (show ¬ (sinceV l u).1 < 0 by omega)]
        exact Ev.val _
    · rw [if_neg hu]
      have hj : Ev (fun k => ringworkref25_QuietAt.j0 k l u true) ((0 : Int), (7 : Int)) := Ev.step (fun k => by rw [ringworkref25_QuietAt.j0, if_pos rfl]) (Ev.val _)
      by_cases hz : u < 1
      · simp only [if_pos hz]; exact hj
      · simp only [if_neg hz]
        rw [decide_eq_true (show u > 1000 by omega)]; exact hj
  · simp only [if_neg h0]; exact Ev.val _
theorem ref_old (l : List S39) (u : Int) (out : List S41) (i : Nat) (hi : i < l.length) (ho : out.length ≤ 1000) (v : List S41 × Int) : ∀ (d j : Nat), d = out.length - j → j ≤ out.length → ∀ old : Bool,
    Ev (fun k => ringworkref25_Undo.l0 k l u (if (old || (out.drop j).any fun x => decide (x.f0 = (rd_T39 l (i : Int)).f2)) = true then out else imgOf (rd_T39 l (i : Int)) :: out) (wrap64 ((i : Int) + 1))) v →
    Ev (fun k => ringworkref25_Undo.l1 k l u out (i : Int) old (j : Int)) v
  | 0, j, hd, hj, old, h => by
    have : j = out.length := by omega
    subst this
    rw [List.drop_length, List.any_nil, Bool.or_false] at h
    refine Ev.step (fun k => by rw [ringworkref25_Undo.l1, if_neg (by omega)]) ?_
    cases old with
    | true => simp only [if_true] at h ⊢; exact h
    | false =>
      simp only [if_neg (show ¬ (false = true) by decide)] at h ⊢
      simp only [if_pos (show (0 : Int) ≤ (i : Int) by omega), if_pos (show (i : Int) < (l.length : Int) by omega), Option.bind_some, List.length_singleton, if_pos (show 1 + out.length < 3518437208883 by omega), List.singleton_append]
      exact h
  | d + 1, j, hd, hj, old, h => by
    have hlt : j < out.length := by omega
    have next := ref_old l u out i hi ho v d (j + 1) (by omega) (by omega)
    rw [drop_rd41 hlt, List.any_cons] at h
    refine Ev.step (fun k => by rw [ringworkref25_Undo.l1, if_pos (by omega)]) ?_
    cases old with
    | true =>
      simp only [if_true]
      rw [wrap_next hlt (by omega)]
      exact next true (by rw [Bool.true_or] at h ⊢; exact h)
    | false =>
      simp only [if_neg (show ¬ (false = true) by decide), if_pos (show (0 : Int) ≤ (j : Int) by omega), if_pos (show (0 : Int) ≤ (i : Int) by omega), if_pos (show (i : Int) < (l.length : Int) by omega)]
      rw [wrap_next hlt (by omega)]
      have e : ((rd_T41 out (j : Int)).f0.toList == (rd_T39 l (i : Int)).f2.toList) = decide ((rd_T41 out (j : Int)).f0 = (rd_T39 l (i : Int)).f2) := by
        rw [Bool.eq_iff_iff]; simp only [beq_iff_eq, decide_eq_true_eq]
        exact ⟨fun h => toList_inj h, fun h => by rw [h]⟩
      rw [e]
      refine next _ ?_
      rw [Bool.false_or] at h
      exact h
theorem since_kind (u : Int) : ∀ (l : List S39) (i : Nat) (st : Int × Bool) (P : Int → Prop), (st.2 = true → P st.1) → (∀ (j : Nat) (hj : j < l.length), l[j].f0 = 1 ∨ l[j].f0 = 4 → P ((i + j : Nat) : Int)) → (sinceFrom u l i st).2 = true → P (sinceFrom u l i st).1
  | [], i, st, P, h1, _, h => h1 h
  | n :: l, i, st, P, h1, h2, h => by
    rw [sinceFrom] at h ⊢
    refine since_kind u l (i + 1) _ P (fun hs => ?_) (fun j hj hk => ?_) h
    · unfold sinceStep at hs ⊢
      split
      · rename_i hu
        rw [if_pos hu] at hs
        split
        · rename_i h6; rw [if_pos h6] at hs; exact h1 hs
        · rename_i h6
          rw [if_neg h6] at hs
          split
          · rename_i hq; exact h2 0 (by simp) hq
          · rename_i hq
            rw [if_neg hq] at hs
            split
            · rename_i h5; rw [if_pos h5] at hs; cases hs
            · rename_i h5; rw [if_neg h5] at hs; exact h1 hs
      · rename_i hu; rw [if_neg hu] at hs; exact h1 hs
    · have := h2 (j + 1) (by simp; omega) (by simpa using hk)
      rw [show i + 1 + j = i + (j + 1) by omega]; exact this
theorem ref_Undo_from (l : List S39) (u : Int) (hl : l.length ≤ 1000) : ∀ (d i : Nat), d = l.length - i → i ≤ l.length → ∀ (met : ByteArray → Bool) (out : List S41), out.length ≤ i → (∀ k, met k = out.any fun x => decide (x.f0 = k)) →
    Ev (fun k => ringworkref25_Undo.l0 k l u out.reverse (i : Int)) ((((l.drop i).foldl (undoStep u) (met, out)).2.reverse), (0 : Int))
  | 0, i, hd, hi, met, out, ho, hm => by
    have : i = l.length := by omega
    subst this
    rw [List.drop_length]
    exact Ev.step (fun k => by rw [ringworkref25_Undo.l0, if_neg (by omega)]; rfl) (Ev.val _)
  | d + 1, i, hd, hi, met, out, ho, hm => by
    have hlt : i < l.length := by omega
    have next := fun met out ho hm => ref_Undo_from l u hl d (i + 1) (by omega) (by omega) met out ho hm
    rw [drop_rd hlt, List.foldl_cons]
    refine Ev.step (fun k => by rw [ringworkref25_Undo.l0, if_pos (by omega), if_pos (by omega)]) ?_
    by_cases h1 : (rd_T39 l (i : Int)).f1 = u
    · simp only [if_pos h1]
      by_cases h2 : (rd_T39 l (i : Int)).f0 = 2
      · rw [show ((rd_T39 l (i : Int)).f0 != 2) = false by rw [h2]; rfl]
        refine Ev.step (fun k => by rw [ringworkref25_Undo.j1, if_neg (by decide)]) ?_
        refine ref_old l u out.reverse i hlt (by simp; omega) _ (out.reverse.length - 0) 0 rfl (by omega) false ?_
        rw [List.drop_zero, Bool.false_or, List.any_reverse, wrap_next' hlt (by omega)]
        cases hk : met (rd_T39 l (i : Int)).f2 with
        | true =>
          rw [if_pos ((hm _).symm.trans hk)]
          rw [show undoStep u (met, out) (rd_T39 l (i : Int)) = (met, out) by unfold undoStep; rw [if_neg (fun hh => by have h3 : met _ = false := hh.2.2; rw [hk] at h3; cases h3)]]
          exact next met out (by omega) hm
        | false =>
          rw [if_neg (by rw [← hm, hk]; decide)]
          rw [show undoStep u (met, out) (rd_T39 l (i : Int)) = (fun k => if k = (rd_T39 l (i : Int)).f2 then true else met k, out ++ [imgOf (rd_T39 l (i : Int))]) by unfold undoStep; rw [if_pos ⟨h1, h2, hk⟩]]
          have := next (fun k => if k = (rd_T39 l (i : Int)).f2 then true else met k) (out ++ [imgOf (rd_T39 l (i : Int))]) (by simp; omega) (fun k => by
            rw [List.any_append, ← hm]
            by_cases hkk : k = (rd_T39 l (i : Int)).f2
            · subst hkk; simp [imgOf]
            · rw [if_neg hkk]; simp [imgOf, Ne.symm hkk])
          rw [List.reverse_append] at this
          exact this
      · rw [show ((rd_T39 l (i : Int)).f0 != 2) = true from bne_iff_ne.2 h2]
        refine Ev.step (fun k => by rw [ringworkref25_Undo.j1, if_pos rfl]) ?_
        rw [wrap_next' hlt (by omega), show undoStep u (met, out) (rd_T39 l (i : Int)) = (met, out) by unfold undoStep; rw [if_neg (fun hh => h2 hh.2.1)]]
        exact next met out (by omega) hm
    · simp only [if_neg h1]
      refine Ev.step (fun k => by rw [ringworkref25_Undo.j1, if_pos rfl]) ?_
      rw [wrap_next' hlt (by omega), show undoStep u (met, out) (rd_T39 l (i : Int)) = (met, out) by unfold undoStep; rw [if_neg (fun hh => h1 hh.1)]]
      exact next met out (by omega) hm
/-- The two programs' Undo are one. -/
theorem ref_Undo (l : List S39) (u : Int) (hl : l.length ≤ 9223372036854775807) : ∃ r, journal_Undo.f l u = some r ∧ Ev (fun k => ringworkref25_Undo.f k l u) r := by
  obtain ⟨he, hv⟩ := right_cases l
  unfold journal_Undo.f ringworkref25_Undo.f
  rw [he]
  simp only [Option.bind_some]
  by_cases h0 : (askedV l u).2 = 0
  · rw [if_pos h0]
    refine ⟨_, rfl, Ev.bind (ref_QuietAt l u hl) ?_⟩
    simp only [if_pos h0]
    have hr0 : rightV l = 0 := by
      by_cases hz : rightV l = 0
      · exact hz
      · unfold askedV at h0; rw [if_neg hz] at h0; exact absurd h0 hz
    have hle := (hv (by rw [← right_eq, hr0]; decide)).1
    have hs : (sinceV l u).2 = true ∧ (askedV l u).1 = (sinceV l u).1 := by
      unfold askedV at h0 ⊢
      rw [if_pos hr0] at h0 ⊢
      by_cases hu : 1 ≤ u ∧ u ≤ 1000
      · rw [if_pos hu] at h0 ⊢
        cases hs : (sinceV l u).2
        · rw [hs] at h0; cases h0
        · exact ⟨rfl, rfl⟩
      · rw [if_neg hu] at h0; cases h0
    have hin := since_in hs.1
    obtain ⟨i, hi⟩ : ∃ i : Nat, (sinceV l u).1 = i := ⟨(sinceV l u).1.toNat, by omega⟩
    rw [hs.2, hi, Int.toNat_natCast]
    have hlt : i < l.length := by omega
    have hkd : l[i].f0 = 1 ∨ l[i].f0 = 4 := by
      have := since_kind u l 0 (0, false) (fun z => ∀ (hz : z.toNat < l.length), l[z.toNat].f0 = 1 ∨ l[z.toNat].f0 = 4) (fun h => by cases h) (fun j hj hk hz => by simpa using hk) hs.1
      have h2 := this (by show (sinceV l u).1.toNat < _; rw [hi]; exact hlt)
      have e : (sinceFrom u l 0 (0, false)).1 = (i : Int) := hi
      simpa [e] using h2
    rw [List.drop_eq_getElem_cons hlt]
    unfold undoAll
    rw [List.foldl_cons, show undoStep u (fun _ => false, []) l[i] = (fun _ => false, []) by unfold undoStep; rw [if_neg (fun hh => by omega)], wrap_next' hlt hl]
    exact ref_Undo_from l u hle (l.length - (i + 1)) (i + 1) rfl (by omega) (fun _ => false) [] (by simp) (fun _ => rfl)
  · rw [if_neg h0]
    refine ⟨_, rfl, Ev.bind (ref_QuietAt l u hl) ?_⟩
    simp only [if_neg h0]
    exact Ev.val _
end Go.Proofs.Yteblpjnkinghoaa.J
namespace Go.Proofs.Yteblpjnkinghoaa.J
open Go.RowKit Go.Proofs.YteblpjnkinghoaaW.PrintWords Go.Proofs.YteblpjnkinghoaaW.PrintLast Go.Proofs.YteblpjnkinghoaaW.PrintMore
attribute [local go_sem] max2_int min2_int max_two min_two max_three min_three max_four min_four   -- for this text's walks alone
set_option linter.unusedVariables false
set_option linter.unusedSimpArgs false
/-! ### journal_State: function 14 -/
def journal_State.f (l0 : List (S41)) (l1 : List (S39)) : Option ((List (S41)) × Int) := (journal_ordered.f l0).bind fun t188 => (if t188 = true then ((journal_Redo.f l1 0).bind fun bt189 => (if bt189.2 = 0 then ((journal_Apply.f l0 bt189.1).bind fun bt193 => (some (bt193.1, bt193.2))) else (some (([] : List (S41)), bt189.2)))) else (some (([] : List (S41)), 1)))
set_option maxHeartbeats 8000000 in
set_option maxRecDepth 100000 in
theorem journal_State.calls (A0 : Option Addr) (c0 : Nat) (l0 : List (S41)) (A1 : Option Addr) (c1 : Nat) (l1 : List (S39)) (r1 : List (S41)) (r2 : Int) (w : World) (hr0 : Kd.C k41 w A0 l0.length l0) (hc0 : l0.length ≤ c0) (hr1 : Kd.C k39 w A1 l1.length l1) (hc1 : l1.length ≤ c1) (h : journal_State.f l0 l1 = some (r1, r2)) :
    Calls Try.prog 14 #[.slice A0 l0.length c0, .slice A1 l1.length c1] w fun e w' => ∃ v0_ : Value, e = .returned (.tuple #[v0_, .int .i64 r2]) ∧ Kd.R k41 41 w' w.heap.size (fun _ => True) v0_ r1 ∧ Below w.heap.size w w' := by
  have HR0 := Aside0.mk hr0
  have HC0 := Aside0.mk hc0
  clear hr0 hc0
  have HR1 := Aside0.mk hr1
  have HC1 := Aside0.mk hc1
  clear hr1 hc1
  have HB := Aside0.mk (Below.refl w.heap.size w)
  have H : ((journal_ordered.f l0).bind fun t188 => (if t188 = true then ((journal_Redo.f l1 0).bind fun bt189 => (if bt189.2 = 0 then ((journal_Apply.f l0 bt189.1).bind fun bt193 => (some (bt193.1, bt193.2))) else (some (([] : List (S41)), bt189.2)))) else (some (([] : List (S41)), 1)))) = some (r1, r2) := h
  clear h
  replace H := Option.bind_eq_some_iff.mp H
  obtain ⟨t188, A30, H⟩ := H
  replace H : (if t188 = true then ((journal_Redo.f l1 0).bind fun bt189 => (if bt189.2 = 0 then ((journal_Apply.f l0 bt189.1).bind fun bt193 => (some (bt193.1, bt193.2))) else (some (([] : List (S41)), bt189.2)))) else (some (([] : List (S41)), 1))) = some (r1, r2) := H
  have A3 := Aside0.mk A30
  clear A30
  by_cases c4 : t188 = true
  · subst c4
    have H1 : ((journal_Redo.f l1 0).bind fun bt189 => (if bt189.2 = 0 then ((journal_Apply.f l0 bt189.1).bind fun bt193 => (some (bt193.1, bt193.2))) else (some (([] : List (S41)), bt189.2)))) = some (r1, r2) := by rw [if_pos rfl] at H; exact H
    clear H
    have H := H1
    clear H1
    replace H := Option.bind_eq_some_iff.mp H
    obtain ⟨⟨t189, t190⟩, A50, H⟩ := H
    replace H : (if t190 = 0 then ((journal_Apply.f l0 t189).bind fun bt193 => (some (bt193.1, bt193.2))) else (some (([] : List (S41)), t190))) = some (r1, r2) := H
    have A5 := Aside0.mk A50
    clear A50
    by_cases c6 : t190 = 0
    · rw [if_pos c6] at H
      have c6b0 : (t190 == 0) = true := beq_iff_eq.mpr c6
      have c6b1 : (t190 != 0) = false := bne_eq_false_iff_eq.mpr c6
      clear c6
      replace H := Option.bind_eq_some_iff.mp H
      obtain ⟨⟨t193, t194⟩, A70, H⟩ := H
      replace H : (some (t193, t194)) = some (r1, r2) := H
      have A7 := Aside0.mk A70
      clear A70
      simp only [Option.some.injEq, Prod.mk.injEq] at H
      obtain ⟨rfl, rfl⟩ := H
      go_enter Try.func14, Try.ntmps14
      go_wp2_with (first | ((with_reducible refine gate_callee (f := 36) rfl ?_); refine goesL_ (some 9) rfl rfl Try.func36 (by kernel_rfl) rfl #[.slice A0 l0.length c0] rfl (by (try simp only [List.map_toArray, List.map_cons, List.map_nil]); first | done | rfl | (simp only [List.length_drop, List.length_take]; rfl)) ?_; (with_reducible refine (journal_ordered.calls _ _ l0 true _ ?side1 ?side2 A3.out).mono ?_); (case side1 => repeat (first | exact HR0.out | (with_reducible refine Kd.C_alloc ?_ _) | (with_reducible refine Kd.C_drewN ?_ _) | (with_reducible refine Kd.C_drew ?_))); (case side2 => exact HC0.out); rintro e w8 ⟨rfl, hb⟩; refine ⟨_, rfl, ?_⟩; have n0_ := Aside0.mk (below_step (by repeat (first | (with_reducible first | exact HB.out | apply below_alloc | apply pw_below_drewN | apply below_drew1) | exact HB.out)) hb); clear HB; have HB := n0_; clear n0_; (try clear hb); (try clear hb2); (try clear hk); (try clear hi)) | ((with_reducible refine gate_callee (f := 18) rfl ?_); refine goesL_ (some 13) rfl rfl Try.func18 (by kernel_rfl) rfl #[.slice A1 l1.length c1, .int .i64 0] rfl (by (try simp only [List.map_toArray, List.map_cons, List.map_nil]); first | done | rfl | (simp only [List.length_drop, List.length_take]; rfl)) ?_; (with_reducible refine (journal_Redo.calls _ _ l1 0 t189 t190 _ ?side1 ?side2 A5.out).mono ?_); (case side1 => repeat (first | exact (Kd.C_below HR1.out HB.out) | (with_reducible refine Kd.C_alloc ?_ _) | (with_reducible refine Kd.C_drewN ?_ _) | (with_reducible refine Kd.C_drew ?_))); (case side2 => exact HC1.out); rintro e w9 ⟨v191, rfl, ho0, hb⟩; refine ⟨_, rfl, ?_⟩; have n0_ := Aside0.mk (Kd.R_lower ho0 (below_size (by repeat (first | (with_reducible first | exact HB.out | apply below_alloc | apply pw_below_drewN | apply below_drew1) | exact HB.out)))); have n1_ := Aside0.mk (below_step (by repeat (first | (with_reducible first | exact HB.out | apply below_alloc | apply pw_below_drewN | apply below_drew1) | exact HB.out)) hb); clear HB; have HO192 := n0_; have HB := n1_; clear n0_ n1_; (try clear hb); (try clear hb2); (try clear hk); (try clear hi); (try clear ho0); obtain ⟨Ao10, co10, eo10⟩ := Kd.R_slice HO192.out; subst eo10) | ((with_reducible refine gate_callee (f := 20) rfl ?_); refine goesL_ (some 21) rfl rfl Try.func20 (by kernel_rfl) rfl #[.slice A0 l0.length c0, .slice Ao10 t189.length co10] rfl (by (try simp only [List.map_toArray, List.map_cons, List.map_nil]); first | done | rfl | (simp only [List.length_drop, List.length_take]; rfl)) ?_; (with_reducible refine (journal_Apply.calls _ _ l0 _ _ t189 t193 t194 _ ?side1 ?side2 ?side3 ?side4 A7.out).mono ?_); (case side1 => repeat (first | exact (Kd.C_below HR0.out HB.out) | (with_reducible refine Kd.C_alloc ?_ _) | (with_reducible refine Kd.C_drewN ?_ _) | (with_reducible refine Kd.C_drew ?_))); (case side2 => exact HC0.out); (case side3 => repeat (first | exact (Kd.R_reads' HO192.out).2.2 | (with_reducible refine Kd.C_alloc ?_ _) | (with_reducible refine Kd.C_drewN ?_ _) | (with_reducible refine Kd.C_drew ?_))); (case side4 => exact (Kd.R_reads' HO192.out).2.1); rintro e w11 ⟨v195, rfl, ho0, hb⟩; refine ⟨_, rfl, ?_⟩; have n0_ := Aside0.mk (Kd.R_elder' (by (with_reducible repeat (first | apply Kd.R_alloc | apply Kd.R_drewN | apply Kd.R_drew)); exact HO192.out) (Kd.R_base ho0) hb); have n1_ := Aside0.mk (Kd.R_lower (Kd.R_new' ho0 (Kd.R_lt (by (with_reducible repeat (first | apply Kd.R_alloc | apply Kd.R_drewN | apply Kd.R_drew)); exact HO192.out))) (below_size (by repeat (first | (with_reducible first | exact HB.out | apply below_alloc | apply pw_below_drewN | apply below_drew1) | exact HB.out)))); have n2_ := Aside0.mk (below_step (by repeat (first | (with_reducible first | exact HB.out | apply below_alloc | apply pw_below_drewN | apply below_drew1) | exact HB.out)) hb); clear HO192; clear HB; have HO192 := n0_; have HO196 := n1_; have HB := n2_; clear n0_ n1_ n2_; (try clear hb); (try clear hb2); (try clear hk); (try clear hi); (try clear ho0)))
      go_ret2
      exact ⟨_, by first | rfl | (simp [errW_none, errW_some] <;> rfl) | (simp [*, errW_none, errW_some] <;> rfl), by (with_reducible repeat (first | apply Kd.R_alloc | apply Kd.R_drewN | apply Kd.R_drew)); exact Kd.R_mono HO196.out (fun _ hk => trivial), by repeat (first | (with_reducible first | exact HB.out | apply below_alloc | apply pw_below_drewN | apply below_drew1) | exact HB.out)⟩
    · rw [if_neg c6] at H
      have c6b0 : (t190 == 0) = false := beq_eq_false_iff_ne.mpr c6
      have c6b1 : (t190 != 0) = true := bne_iff_ne.mpr c6
      simp only [Option.some.injEq, Prod.mk.injEq] at H
      obtain ⟨rfl, rfl⟩ := H
      go_enter Try.func14, Try.ntmps14
      go_wp2_with (first | ((with_reducible refine gate_callee (f := 36) rfl ?_); refine goesL_ (some 9) rfl rfl Try.func36 (by kernel_rfl) rfl #[.slice A0 l0.length c0] rfl (by (try simp only [List.map_toArray, List.map_cons, List.map_nil]); first | done | rfl | (simp only [List.length_drop, List.length_take]; rfl)) ?_; (with_reducible refine (journal_ordered.calls _ _ l0 true _ ?side1 ?side2 A3.out).mono ?_); (case side1 => repeat (first | exact HR0.out | (with_reducible refine Kd.C_alloc ?_ _) | (with_reducible refine Kd.C_drewN ?_ _) | (with_reducible refine Kd.C_drew ?_))); (case side2 => exact HC0.out); rintro e w12 ⟨rfl, hb⟩; refine ⟨_, rfl, ?_⟩; have n0_ := Aside0.mk (below_step (by repeat (first | (with_reducible first | exact HB.out | apply below_alloc | apply pw_below_drewN | apply below_drew1) | exact HB.out)) hb); clear HB; have HB := n0_; clear n0_; (try clear hb); (try clear hb2); (try clear hk); (try clear hi)) | ((with_reducible refine gate_callee (f := 18) rfl ?_); refine goesL_ (some 13) rfl rfl Try.func18 (by kernel_rfl) rfl #[.slice A1 l1.length c1, .int .i64 0] rfl (by (try simp only [List.map_toArray, List.map_cons, List.map_nil]); first | done | rfl | (simp only [List.length_drop, List.length_take]; rfl)) ?_; (with_reducible refine (journal_Redo.calls _ _ l1 0 t189 t190 _ ?side1 ?side2 A5.out).mono ?_); (case side1 => repeat (first | exact (Kd.C_below HR1.out HB.out) | (with_reducible refine Kd.C_alloc ?_ _) | (with_reducible refine Kd.C_drewN ?_ _) | (with_reducible refine Kd.C_drew ?_))); (case side2 => exact HC1.out); rintro e w13 ⟨v191, rfl, ho0, hb⟩; refine ⟨_, rfl, ?_⟩; have n0_ := Aside0.mk (Kd.R_lower ho0 (below_size (by repeat (first | (with_reducible first | exact HB.out | apply below_alloc | apply pw_below_drewN | apply below_drew1) | exact HB.out)))); have n1_ := Aside0.mk (below_step (by repeat (first | (with_reducible first | exact HB.out | apply below_alloc | apply pw_below_drewN | apply below_drew1) | exact HB.out)) hb); clear HB; have HO192 := n0_; have HB := n1_; clear n0_ n1_; (try clear hb); (try clear hb2); (try clear hk); (try clear hi); (try clear ho0)))
      go_ret2
      exact ⟨_, by first | rfl | (simp [errW_none, errW_some] <;> rfl) | (simp [*, errW_none, errW_some] <;> rfl), by first | exact Kd.R_nil _ _ _ _ _ | exact Kd.N_nil _ _ _ _ _ | exact Kd.V_nil _ _ _ _ _ | exact Kd.Q_nil _ _ _ _ _ | exact Kd.S_nil _ _ _ _ _, by repeat (first | (with_reducible first | exact HB.out | apply below_alloc | apply pw_below_drewN | apply below_drew1) | exact HB.out)⟩
  · replace c4 := Bool.eq_false_iff.mpr c4
    subst c4
    have H1 : (some (([] : List (S41)), 1)) = some (r1, r2) := by rw [if_neg (show ¬ (false = true) by decide)] at H; exact H
    clear H
    have H := H1
    clear H1
    simp only [Option.some.injEq, Prod.mk.injEq] at H
    obtain ⟨rfl, rfl⟩ := H
    go_enter Try.func14, Try.ntmps14
    go_wp2_with (first | ((with_reducible refine gate_callee (f := 36) rfl ?_); refine goesL_ (some 9) rfl rfl Try.func36 (by kernel_rfl) rfl #[.slice A0 l0.length c0] rfl (by (try simp only [List.map_toArray, List.map_cons, List.map_nil]); first | done | rfl | (simp only [List.length_drop, List.length_take]; rfl)) ?_; (with_reducible refine (journal_ordered.calls _ _ l0 false _ ?side1 ?side2 A3.out).mono ?_); (case side1 => repeat (first | exact HR0.out | (with_reducible refine Kd.C_alloc ?_ _) | (with_reducible refine Kd.C_drewN ?_ _) | (with_reducible refine Kd.C_drew ?_))); (case side2 => exact HC0.out); rintro e w14 ⟨rfl, hb⟩; refine ⟨_, rfl, ?_⟩; have n0_ := Aside0.mk (below_step (by repeat (first | (with_reducible first | exact HB.out | apply below_alloc | apply pw_below_drewN | apply below_drew1) | exact HB.out)) hb); clear HB; have HB := n0_; clear n0_; (try clear hb); (try clear hb2); (try clear hk); (try clear hi)))
    go_ret2
    exact ⟨_, by first | rfl | (simp [errW_none, errW_some] <;> rfl) | (simp [*, errW_none, errW_some] <;> rfl), by first | exact Kd.R_nil _ _ _ _ _ | exact Kd.N_nil _ _ _ _ _ | exact Kd.V_nil _ _ _ _ _ | exact Kd.Q_nil _ _ _ _ _ | exact Kd.S_nil _ _ _ _ _, by repeat (first | (with_reducible first | exact HB.out | apply below_alloc | apply pw_below_drewN | apply below_drew1) | exact HB.out)⟩

/-! ### ringworklaw25_awake: function 12 -/
def ringworklaw25_awake.f  : Option (Bool) := (journal_State.f ([] : List (S41)) (([(⟨1, 1, (⟨#[]⟩ : ByteArray), false, (⟨#[]⟩ : ByteArray)⟩ : S39), (⟨2, 1, (⟨#[120]⟩ : ByteArray), false, (⟨#[]⟩ : ByteArray)⟩ : S39), (⟨3, 1, (⟨#[120]⟩ : ByteArray), true, (⟨#[97]⟩ : ByteArray)⟩ : S39), (⟨5, 1, (⟨#[]⟩ : ByteArray), false, (⟨#[]⟩ : ByteArray)⟩ : S39)] : List (S39)))).bind fun bt200 => (if bt200.2 = 0 then (if (bt200.1.length : Int) = 1 then (if 0 < (bt200.1.length : Int) then (if ((rd_T41 bt200.1 0).f0).toList = ([120] : List UInt8) then (some (((rd_T41 bt200.1 0).f2).toList == ([97] : List UInt8))) else (some false)) else (none)) else (some false)) else (some false))
set_option maxHeartbeats 8000000 in
set_option maxRecDepth 100000 in
theorem ringworklaw25_awake.calls  (r : Bool) (w : World) (h : ringworklaw25_awake.f  = some r) :
    Calls Try.prog 12 #[] w fun e w' => e = .returned (.bool r) ∧ Below w.heap.size w w' := by
  have hu39 := Try.underlying39
  have HB := Aside0.mk (Below.refl w.heap.size w)
  have H : ((journal_State.f ([] : List (S41)) (([(⟨1, 1, (⟨#[]⟩ : ByteArray), false, (⟨#[]⟩ : ByteArray)⟩ : S39), (⟨2, 1, (⟨#[120]⟩ : ByteArray), false, (⟨#[]⟩ : ByteArray)⟩ : S39), (⟨3, 1, (⟨#[120]⟩ : ByteArray), true, (⟨#[97]⟩ : ByteArray)⟩ : S39), (⟨5, 1, (⟨#[]⟩ : ByteArray), false, (⟨#[]⟩ : ByteArray)⟩ : S39)] : List (S39)))).bind fun bt200 => (if bt200.2 = 0 then (if (bt200.1.length : Int) = 1 then (if 0 < (bt200.1.length : Int) then (if ((rd_T41 bt200.1 0).f0).toList = ([120] : List UInt8) then (some (((rd_T41 bt200.1 0).f2).toList == ([97] : List UInt8))) else (some false)) else (none)) else (some false)) else (some false))) = some r := h
  clear h
  obtain ⟨y197, hy197⟩ : ∃ y_ : List (S39), y_ = (([(⟨1, 1, (⟨#[]⟩ : ByteArray), false, (⟨#[]⟩ : ByteArray)⟩ : S39), (⟨2, 1, (⟨#[120]⟩ : ByteArray), false, (⟨#[]⟩ : ByteArray)⟩ : S39), (⟨3, 1, (⟨#[120]⟩ : ByteArray), true, (⟨#[97]⟩ : ByteArray)⟩ : S39), (⟨5, 1, (⟨#[]⟩ : ByteArray), false, (⟨#[]⟩ : ByteArray)⟩ : S39)] : List (S39))) := ⟨_, rfl⟩
  replace H : ((journal_State.f ([] : List (S41)) y197).bind fun bt200 => (if bt200.2 = 0 then (if (bt200.1.length : Int) = 1 then (if 0 < (bt200.1.length : Int) then (if ((rd_T41 bt200.1 0).f0).toList = ([120] : List UInt8) then (some (((rd_T41 bt200.1 0).f2).toList == ([97] : List UInt8))) else (some false)) else (none)) else (some false)) else (some false))) = some r := by first | (rw [hy197]; with_reducible exact H) | (have H2_ := (Option.bind_some _ _).symm.trans H; rw [hy197]; with_reducible exact H2_) | (have H2_ := (Option.bind_some _ _).symm.trans H; with_reducible exact H2_) | with_reducible exact H | (rw [hy197]; exact H) | exact H
  have Ny197 := Aside0.mk hy197
  clear hy197
  replace H := Option.bind_eq_some_iff.mp H
  obtain ⟨⟨t200, t201⟩, A10, H⟩ := H
  replace H : (if t201 = 0 then (if (t200.length : Int) = 1 then (if 0 < (t200.length : Int) then (if ((rd_T41 t200 0).f0).toList = ([120] : List UInt8) then (some (((rd_T41 t200 0).f2).toList == ([97] : List UInt8))) else (some false)) else (none)) else (some false)) else (some false)) = some r := H
  have A1 := Aside0.mk A10
  clear A10
  by_cases c2 : t201 = 0
  · rw [if_pos c2] at H
    have c2b0 : (t201 == 0) = true := beq_iff_eq.mpr c2
    have c2b1 : (t201 != 0) = false := bne_eq_false_iff_eq.mpr c2
    clear c2
    by_cases c3 : (t200.length : Int) = 1
    · rw [if_pos c3] at H
      have c3b0 : ((t200.length : Int) == 1) = true := beq_iff_eq.mpr c3
      have c3b1 : ((t200.length : Int) != 1) = false := bne_eq_false_iff_eq.mpr c3
      clear c3
      by_cases c4 : 0 < (t200.length : Int)
      · rw [if_pos c4] at H
        have c4b0 : decide (0 < (t200.length : Int)) = true := decide_eq_true c4
        have c4b1 : decide (0 < t200.length) = true := decide_eq_true (by omega)
        clear c4
        by_cases c5 : ((rd_T41 t200 0).f0).toList = ([120] : List UInt8)
        · rw [if_pos c5] at H
          have c5b0 : (((rd_T41 t200 0).f0).toList == ([120] : List UInt8)) = true := beq_iff_eq.mpr c5
          have c5b1 : (((rd_T41 t200 0).f0).toList != ([120] : List UInt8)) = false := bne_eq_false_iff_eq.mpr c5
          clear c5
          obtain rfl := Option.some.inj H
          go_enter Try.func12, Try.ntmps12
          go_wp2_with (first | ((with_reducible refine gate_dst (N := 8) rfl ?_); (try (refine gate_guard (by rfl) ?_; dsimp only)); refine Kd.R_lit k39 _ 39 ?hg (N := 8) ?hd (xs := ([(⟨1, 1, (⟨#[]⟩ : ByteArray), false, (⟨#[]⟩ : ByteArray)⟩ : S39), (⟨2, 1, (⟨#[120]⟩ : ByteArray), false, (⟨#[]⟩ : ByteArray)⟩ : S39), (⟨3, 1, (⟨#[120]⟩ : ByteArray), true, (⟨#[97]⟩ : ByteArray)⟩ : S39), (⟨5, 1, (⟨#[]⟩ : ByteArray), false, (⟨#[]⟩ : ByteArray)⟩ : S39)] : List (S39))) (inner := [.int .i64 1, .int .i64 1, .string (⟨#[]⟩ : ByteArray), .bool false, .string (⟨#[]⟩ : ByteArray), .int .i64 2, .int .i64 1, .string (⟨#[120]⟩ : ByteArray), .bool false, .string (⟨#[]⟩ : ByteArray), .int .i64 3, .int .i64 1, .string (⟨#[120]⟩ : ByteArray), .bool true, .string (⟨#[97]⟩ : ByteArray), .int .i64 5, .int .i64 1, .string (⟨#[]⟩ : ByteArray), .bool false, .string (⟨#[]⟩ : ByteArray)]) (ok := fun _ => True) (okp := fun _ => True) ?hr ?hp (fun _ hk => hk) trivial (Below.refl _ _) (Nat.le_refl _) (by simp) ?_; (case hd => rfl); (case hg => rfl); (case hr => first | (go_simp; done) | (go_simp; rfl)); (case hp => exact (Reps.c5 (show Kd.M k39 _ _ _ (⟨1, 1, (⟨#[]⟩ : ByteArray), false, (⟨#[]⟩ : ByteArray)⟩ : S39) [.int .i64 1, .int .i64 1, .string (⟨#[]⟩ : ByteArray), .bool false, .string (⟨#[]⟩ : ByteArray)] from (k39_mkM _ _ _ (⟨1, 1, (⟨#[]⟩ : ByteArray), false, (⟨#[]⟩ : ByteArray)⟩ : S39) )) (Reps.c5 (show Kd.M k39 _ _ _ (⟨2, 1, (⟨#[120]⟩ : ByteArray), false, (⟨#[]⟩ : ByteArray)⟩ : S39) [.int .i64 2, .int .i64 1, .string (⟨#[120]⟩ : ByteArray), .bool false, .string (⟨#[]⟩ : ByteArray)] from (k39_mkM _ _ _ (⟨2, 1, (⟨#[120]⟩ : ByteArray), false, (⟨#[]⟩ : ByteArray)⟩ : S39) )) (Reps.c5 (show Kd.M k39 _ _ _ (⟨3, 1, (⟨#[120]⟩ : ByteArray), true, (⟨#[97]⟩ : ByteArray)⟩ : S39) [.int .i64 3, .int .i64 1, .string (⟨#[120]⟩ : ByteArray), .bool true, .string (⟨#[97]⟩ : ByteArray)] from (k39_mkM _ _ _ (⟨3, 1, (⟨#[120]⟩ : ByteArray), true, (⟨#[97]⟩ : ByteArray)⟩ : S39) )) (Reps.c5 (show Kd.M k39 _ _ _ (⟨5, 1, (⟨#[]⟩ : ByteArray), false, (⟨#[]⟩ : ByteArray)⟩ : S39) [.int .i64 5, .int .i64 1, .string (⟨#[]⟩ : ByteArray), .bool false, .string (⟨#[]⟩ : ByteArray)] from (k39_mkM _ _ _ (⟨5, 1, (⟨#[]⟩ : ByteArray), false, (⟨#[]⟩ : ByteArray)⟩ : S39) )) (Reps.none _ _)))))); intro v198 w6 ho7 hb hg_ hnew_; clear hg_ hnew_; (first | rw [← Ny197.out] at ho7 | (simp only [Int.reduceToNat] at ho7; rw [← Ny197.out] at ho7)); have n0_ := Aside0.mk (Kd.R_lower ho7 (below_size (by repeat (first | (with_reducible first | exact HB.out | apply below_alloc | apply pw_below_drewN | apply below_drew1) | exact HB.out)))); have n1_ := Aside0.mk (below_step (by repeat (first | (with_reducible first | exact HB.out | apply below_alloc | apply pw_below_drewN | apply below_drew1) | exact HB.out)) hb); clear HB; have HO199 := n0_; have HB := n1_; clear n0_ n1_; clear hb ho7; obtain ⟨Ao8, co8, eo8⟩ := Kd.R_slice HO199.out; subst eo8) | ((with_reducible refine gate_callee (f := 14) rfl ?_); refine goesL_ (some 9) rfl rfl Try.func14 (by kernel_rfl) rfl #[.slice none 0 0, .slice Ao8 y197.length co8] rfl (by (try simp only [List.map_toArray, List.map_cons, List.map_nil]); first | done | rfl | (simp only [List.length_drop, List.length_take]; rfl)) ?_; (refine (journal_State.calls _ _ ([] : List (S41)) _ _ y197 t200 t201 _ ?side1 ?side2 ?side3 ?side4 A1.out).mono ?_); (case side1 => exact Kd.C_nil _ _); (case side2 => exact Nat.le_refl _); (case side3 => repeat (first | exact (Kd.R_reads' HO199.out).2.2 | (with_reducible refine Kd.C_alloc ?_ _) | (with_reducible refine Kd.C_drewN ?_ _) | (with_reducible refine Kd.C_drew ?_))); (case side4 => exact (Kd.R_reads' HO199.out).2.1); rintro e w9 ⟨v202, rfl, ho0, hb⟩; refine ⟨_, rfl, ?_⟩; have n0_ := Aside0.mk (Kd.R_below (by (with_reducible repeat (first | apply Kd.R_alloc | apply Kd.R_drewN | apply Kd.R_drew)); exact HO199.out) hb); have n1_ := Aside0.mk (Kd.R_lower ho0 (below_size (by repeat (first | (with_reducible first | exact HB.out | apply below_alloc | apply pw_below_drewN | apply below_drew1) | exact HB.out)))); have n2_ := Aside0.mk (below_step (by repeat (first | (with_reducible first | exact HB.out | apply below_alloc | apply pw_below_drewN | apply below_drew1) | exact HB.out)) hb); clear HO199; clear HB; have HO199 := n0_; have HO203 := n1_; have HB := n2_; clear n0_ n1_ n2_; (try clear hb); (try clear hb2); (try clear hk); (try clear hi); (try clear ho0); obtain ⟨Ao10, co10, eo10⟩ := Kd.R_slice HO203.out; subst eo10; have p204 : 0 ≤ (0 : Int) := (by omega); have q204 : 0 < (t200.length : Int) := of_decide_eq_true (by first | (with_reducible assumption) | assumption); obtain ⟨ad204, e204, hx204_0, hx204_1, hx204_2⟩ := at_T41 (Kd.R_reads' HO203.out).2.2 0 p204 q204; cases e204; have qi204 : (0 < t200.length) = True := eq_true (by omega); (try rw [show ((0 : Int)).toNat = 0 from rfl] at hx204_0); (try rw [show 0 * 3 = 0 from rfl] at hx204_0); (try rw [Addr.add_zero'] at hx204_0); (try rw [show ((0 : Int)).toNat = 0 from rfl] at hx204_1); (try rw [show 0 * 3 = 0 from rfl] at hx204_1); (try rw [Addr.add_zero'] at hx204_1); (try rw [show ((0 : Int)).toNat = 0 from rfl] at hx204_2); (try rw [show 0 * 3 = 0 from rfl] at hx204_2); (try rw [Addr.add_zero'] at hx204_2); replace p204 := eq_true p204; replace q204 := eq_true q204; have p205 : 0 ≤ (0 : Int) := (by omega); have q205 : 0 < (t200.length : Int) := of_decide_eq_true (by first | (with_reducible assumption) | assumption); obtain ⟨ad205, e205, hx205_0, hx205_1, hx205_2⟩ := at_T41 (Kd.R_reads' HO203.out).2.2 0 p205 q205; obtain rfl : ad204 = ad205 := (by injection e205); have qi205 : (0 < t200.length) = True := eq_true (by omega); (try rw [show ((0 : Int)).toNat = 0 from rfl] at hx205_0); (try rw [show 0 * 3 = 0 from rfl] at hx205_0); (try rw [Addr.add_zero'] at hx205_0); (try rw [show ((0 : Int)).toNat = 0 from rfl] at hx205_1); (try rw [show 0 * 3 = 0 from rfl] at hx205_1); (try rw [Addr.add_zero'] at hx205_1); (try rw [show ((0 : Int)).toNat = 0 from rfl] at hx205_2); (try rw [show 0 * 3 = 0 from rfl] at hx205_2); (try rw [Addr.add_zero'] at hx205_2); replace p205 := eq_true p205; replace q205 := eq_true q205))
          go_ret
          exact ⟨by first | rfl | (simp [errW_none, errW_some] <;> rfl) | (simp [*, errW_none, errW_some] <;> rfl), by repeat (first | (with_reducible first | exact HB.out | apply below_alloc | apply pw_below_drewN | apply below_drew1) | exact HB.out)⟩
        · rw [if_neg c5] at H
          have c5b0 : (((rd_T41 t200 0).f0).toList == ([120] : List UInt8)) = false := beq_eq_false_iff_ne.mpr c5
          have c5b1 : (((rd_T41 t200 0).f0).toList != ([120] : List UInt8)) = true := bne_iff_ne.mpr c5
          obtain rfl := Option.some.inj H
          go_enter Try.func12, Try.ntmps12
          go_wp2_with (first | ((with_reducible refine gate_dst (N := 8) rfl ?_); (try (refine gate_guard (by rfl) ?_; dsimp only)); refine Kd.R_lit k39 _ 39 ?hg (N := 8) ?hd (xs := ([(⟨1, 1, (⟨#[]⟩ : ByteArray), false, (⟨#[]⟩ : ByteArray)⟩ : S39), (⟨2, 1, (⟨#[120]⟩ : ByteArray), false, (⟨#[]⟩ : ByteArray)⟩ : S39), (⟨3, 1, (⟨#[120]⟩ : ByteArray), true, (⟨#[97]⟩ : ByteArray)⟩ : S39), (⟨5, 1, (⟨#[]⟩ : ByteArray), false, (⟨#[]⟩ : ByteArray)⟩ : S39)] : List (S39))) (inner := [.int .i64 1, .int .i64 1, .string (⟨#[]⟩ : ByteArray), .bool false, .string (⟨#[]⟩ : ByteArray), .int .i64 2, .int .i64 1, .string (⟨#[120]⟩ : ByteArray), .bool false, .string (⟨#[]⟩ : ByteArray), .int .i64 3, .int .i64 1, .string (⟨#[120]⟩ : ByteArray), .bool true, .string (⟨#[97]⟩ : ByteArray), .int .i64 5, .int .i64 1, .string (⟨#[]⟩ : ByteArray), .bool false, .string (⟨#[]⟩ : ByteArray)]) (ok := fun _ => True) (okp := fun _ => True) ?hr ?hp (fun _ hk => hk) trivial (Below.refl _ _) (Nat.le_refl _) (by simp) ?_; (case hd => rfl); (case hg => rfl); (case hr => first | (go_simp; done) | (go_simp; rfl)); (case hp => exact (Reps.c5 (show Kd.M k39 _ _ _ (⟨1, 1, (⟨#[]⟩ : ByteArray), false, (⟨#[]⟩ : ByteArray)⟩ : S39) [.int .i64 1, .int .i64 1, .string (⟨#[]⟩ : ByteArray), .bool false, .string (⟨#[]⟩ : ByteArray)] from (k39_mkM _ _ _ (⟨1, 1, (⟨#[]⟩ : ByteArray), false, (⟨#[]⟩ : ByteArray)⟩ : S39) )) (Reps.c5 (show Kd.M k39 _ _ _ (⟨2, 1, (⟨#[120]⟩ : ByteArray), false, (⟨#[]⟩ : ByteArray)⟩ : S39) [.int .i64 2, .int .i64 1, .string (⟨#[120]⟩ : ByteArray), .bool false, .string (⟨#[]⟩ : ByteArray)] from (k39_mkM _ _ _ (⟨2, 1, (⟨#[120]⟩ : ByteArray), false, (⟨#[]⟩ : ByteArray)⟩ : S39) )) (Reps.c5 (show Kd.M k39 _ _ _ (⟨3, 1, (⟨#[120]⟩ : ByteArray), true, (⟨#[97]⟩ : ByteArray)⟩ : S39) [.int .i64 3, .int .i64 1, .string (⟨#[120]⟩ : ByteArray), .bool true, .string (⟨#[97]⟩ : ByteArray)] from (k39_mkM _ _ _ (⟨3, 1, (⟨#[120]⟩ : ByteArray), true, (⟨#[97]⟩ : ByteArray)⟩ : S39) )) (Reps.c5 (show Kd.M k39 _ _ _ (⟨5, 1, (⟨#[]⟩ : ByteArray), false, (⟨#[]⟩ : ByteArray)⟩ : S39) [.int .i64 5, .int .i64 1, .string (⟨#[]⟩ : ByteArray), .bool false, .string (⟨#[]⟩ : ByteArray)] from (k39_mkM _ _ _ (⟨5, 1, (⟨#[]⟩ : ByteArray), false, (⟨#[]⟩ : ByteArray)⟩ : S39) )) (Reps.none _ _)))))); intro v198 w11 ho12 hb hg_ hnew_; clear hg_ hnew_; (first | rw [← Ny197.out] at ho12 | (simp only [Int.reduceToNat] at ho12; rw [← Ny197.out] at ho12)); have n0_ := Aside0.mk (Kd.R_lower ho12 (below_size (by repeat (first | (with_reducible first | exact HB.out | apply below_alloc | apply pw_below_drewN | apply below_drew1) | exact HB.out)))); have n1_ := Aside0.mk (below_step (by repeat (first | (with_reducible first | exact HB.out | apply below_alloc | apply pw_below_drewN | apply below_drew1) | exact HB.out)) hb); clear HB; have HO199 := n0_; have HB := n1_; clear n0_ n1_; clear hb ho12; obtain ⟨Ao13, co13, eo13⟩ := Kd.R_slice HO199.out; subst eo13) | ((with_reducible refine gate_callee (f := 14) rfl ?_); refine goesL_ (some 9) rfl rfl Try.func14 (by kernel_rfl) rfl #[.slice none 0 0, .slice Ao13 y197.length co13] rfl (by (try simp only [List.map_toArray, List.map_cons, List.map_nil]); first | done | rfl | (simp only [List.length_drop, List.length_take]; rfl)) ?_; (refine (journal_State.calls _ _ ([] : List (S41)) _ _ y197 t200 t201 _ ?side1 ?side2 ?side3 ?side4 A1.out).mono ?_); (case side1 => exact Kd.C_nil _ _); (case side2 => exact Nat.le_refl _); (case side3 => repeat (first | exact (Kd.R_reads' HO199.out).2.2 | (with_reducible refine Kd.C_alloc ?_ _) | (with_reducible refine Kd.C_drewN ?_ _) | (with_reducible refine Kd.C_drew ?_))); (case side4 => exact (Kd.R_reads' HO199.out).2.1); rintro e w14 ⟨v202, rfl, ho0, hb⟩; refine ⟨_, rfl, ?_⟩; have n0_ := Aside0.mk (Kd.R_below (by (with_reducible repeat (first | apply Kd.R_alloc | apply Kd.R_drewN | apply Kd.R_drew)); exact HO199.out) hb); have n1_ := Aside0.mk (Kd.R_lower ho0 (below_size (by repeat (first | (with_reducible first | exact HB.out | apply below_alloc | apply pw_below_drewN | apply below_drew1) | exact HB.out)))); have n2_ := Aside0.mk (below_step (by repeat (first | (with_reducible first | exact HB.out | apply below_alloc | apply pw_below_drewN | apply below_drew1) | exact HB.out)) hb); clear HO199; clear HB; have HO199 := n0_; have HO203 := n1_; have HB := n2_; clear n0_ n1_ n2_; (try clear hb); (try clear hb2); (try clear hk); (try clear hi); (try clear ho0); obtain ⟨Ao15, co15, eo15⟩ := Kd.R_slice HO203.out; subst eo15; have p204 : 0 ≤ (0 : Int) := (by omega); have q204 : 0 < (t200.length : Int) := of_decide_eq_true (by first | (with_reducible assumption) | assumption); obtain ⟨ad204, e204, hx204_0, hx204_1, hx204_2⟩ := at_T41 (Kd.R_reads' HO203.out).2.2 0 p204 q204; cases e204; have qi204 : (0 < t200.length) = True := eq_true (by omega); (try rw [show ((0 : Int)).toNat = 0 from rfl] at hx204_0); (try rw [show 0 * 3 = 0 from rfl] at hx204_0); (try rw [Addr.add_zero'] at hx204_0); (try rw [show ((0 : Int)).toNat = 0 from rfl] at hx204_1); (try rw [show 0 * 3 = 0 from rfl] at hx204_1); (try rw [Addr.add_zero'] at hx204_1); (try rw [show ((0 : Int)).toNat = 0 from rfl] at hx204_2); (try rw [show 0 * 3 = 0 from rfl] at hx204_2); (try rw [Addr.add_zero'] at hx204_2); replace p204 := eq_true p204; replace q204 := eq_true q204))
          go_ret
          exact ⟨by first | rfl | (simp [errW_none, errW_some] <;> rfl) | (simp [*, errW_none, errW_some] <;> rfl), by repeat (first | (with_reducible first | exact HB.out | apply below_alloc | apply pw_below_drewN | apply below_drew1) | exact HB.out)⟩
      · rw [if_neg c4] at H
        exact absurd H (by simp)
    · rw [if_neg c3] at H
      have c3b0 : ((t200.length : Int) == 1) = false := beq_eq_false_iff_ne.mpr c3
      have c3b1 : ((t200.length : Int) != 1) = true := bne_iff_ne.mpr c3
      obtain rfl := Option.some.inj H
      go_enter Try.func12, Try.ntmps12
      go_wp2_with (first | ((with_reducible refine gate_dst (N := 8) rfl ?_); (try (refine gate_guard (by rfl) ?_; dsimp only)); refine Kd.R_lit k39 _ 39 ?hg (N := 8) ?hd (xs := ([(⟨1, 1, (⟨#[]⟩ : ByteArray), false, (⟨#[]⟩ : ByteArray)⟩ : S39), (⟨2, 1, (⟨#[120]⟩ : ByteArray), false, (⟨#[]⟩ : ByteArray)⟩ : S39), (⟨3, 1, (⟨#[120]⟩ : ByteArray), true, (⟨#[97]⟩ : ByteArray)⟩ : S39), (⟨5, 1, (⟨#[]⟩ : ByteArray), false, (⟨#[]⟩ : ByteArray)⟩ : S39)] : List (S39))) (inner := [.int .i64 1, .int .i64 1, .string (⟨#[]⟩ : ByteArray), .bool false, .string (⟨#[]⟩ : ByteArray), .int .i64 2, .int .i64 1, .string (⟨#[120]⟩ : ByteArray), .bool false, .string (⟨#[]⟩ : ByteArray), .int .i64 3, .int .i64 1, .string (⟨#[120]⟩ : ByteArray), .bool true, .string (⟨#[97]⟩ : ByteArray), .int .i64 5, .int .i64 1, .string (⟨#[]⟩ : ByteArray), .bool false, .string (⟨#[]⟩ : ByteArray)]) (ok := fun _ => True) (okp := fun _ => True) ?hr ?hp (fun _ hk => hk) trivial (Below.refl _ _) (Nat.le_refl _) (by simp) ?_; (case hd => rfl); (case hg => rfl); (case hr => first | (go_simp; done) | (go_simp; rfl)); (case hp => exact (Reps.c5 (show Kd.M k39 _ _ _ (⟨1, 1, (⟨#[]⟩ : ByteArray), false, (⟨#[]⟩ : ByteArray)⟩ : S39) [.int .i64 1, .int .i64 1, .string (⟨#[]⟩ : ByteArray), .bool false, .string (⟨#[]⟩ : ByteArray)] from (k39_mkM _ _ _ (⟨1, 1, (⟨#[]⟩ : ByteArray), false, (⟨#[]⟩ : ByteArray)⟩ : S39) )) (Reps.c5 (show Kd.M k39 _ _ _ (⟨2, 1, (⟨#[120]⟩ : ByteArray), false, (⟨#[]⟩ : ByteArray)⟩ : S39) [.int .i64 2, .int .i64 1, .string (⟨#[120]⟩ : ByteArray), .bool false, .string (⟨#[]⟩ : ByteArray)] from (k39_mkM _ _ _ (⟨2, 1, (⟨#[120]⟩ : ByteArray), false, (⟨#[]⟩ : ByteArray)⟩ : S39) )) (Reps.c5 (show Kd.M k39 _ _ _ (⟨3, 1, (⟨#[120]⟩ : ByteArray), true, (⟨#[97]⟩ : ByteArray)⟩ : S39) [.int .i64 3, .int .i64 1, .string (⟨#[120]⟩ : ByteArray), .bool true, .string (⟨#[97]⟩ : ByteArray)] from (k39_mkM _ _ _ (⟨3, 1, (⟨#[120]⟩ : ByteArray), true, (⟨#[97]⟩ : ByteArray)⟩ : S39) )) (Reps.c5 (show Kd.M k39 _ _ _ (⟨5, 1, (⟨#[]⟩ : ByteArray), false, (⟨#[]⟩ : ByteArray)⟩ : S39) [.int .i64 5, .int .i64 1, .string (⟨#[]⟩ : ByteArray), .bool false, .string (⟨#[]⟩ : ByteArray)] from (k39_mkM _ _ _ (⟨5, 1, (⟨#[]⟩ : ByteArray), false, (⟨#[]⟩ : ByteArray)⟩ : S39) )) (Reps.none _ _)))))); intro v198 w16 ho17 hb hg_ hnew_; clear hg_ hnew_; (first | rw [← Ny197.out] at ho17 | (simp only [Int.reduceToNat] at ho17; rw [← Ny197.out] at ho17)); have n0_ := Aside0.mk (Kd.R_lower ho17 (below_size (by repeat (first | (with_reducible first | exact HB.out | apply below_alloc | apply pw_below_drewN | apply below_drew1) | exact HB.out)))); have n1_ := Aside0.mk (below_step (by repeat (first | (with_reducible first | exact HB.out | apply below_alloc | apply pw_below_drewN | apply below_drew1) | exact HB.out)) hb); clear HB; have HO199 := n0_; have HB := n1_; clear n0_ n1_; clear hb ho17; obtain ⟨Ao18, co18, eo18⟩ := Kd.R_slice HO199.out; subst eo18) | ((with_reducible refine gate_callee (f := 14) rfl ?_); refine goesL_ (some 9) rfl rfl Try.func14 (by kernel_rfl) rfl #[.slice none 0 0, .slice Ao18 y197.length co18] rfl (by (try simp only [List.map_toArray, List.map_cons, List.map_nil]); first | done | rfl | (simp only [List.length_drop, List.length_take]; rfl)) ?_; (refine (journal_State.calls _ _ ([] : List (S41)) _ _ y197 t200 t201 _ ?side1 ?side2 ?side3 ?side4 A1.out).mono ?_); (case side1 => exact Kd.C_nil _ _); (case side2 => exact Nat.le_refl _); (case side3 => repeat (first | exact (Kd.R_reads' HO199.out).2.2 | (with_reducible refine Kd.C_alloc ?_ _) | (with_reducible refine Kd.C_drewN ?_ _) | (with_reducible refine Kd.C_drew ?_))); (case side4 => exact (Kd.R_reads' HO199.out).2.1); rintro e w19 ⟨v202, rfl, ho0, hb⟩; refine ⟨_, rfl, ?_⟩; have n0_ := Aside0.mk (Kd.R_below (by (with_reducible repeat (first | apply Kd.R_alloc | apply Kd.R_drewN | apply Kd.R_drew)); exact HO199.out) hb); have n1_ := Aside0.mk (Kd.R_lower ho0 (below_size (by repeat (first | (with_reducible first | exact HB.out | apply below_alloc | apply pw_below_drewN | apply below_drew1) | exact HB.out)))); have n2_ := Aside0.mk (below_step (by repeat (first | (with_reducible first | exact HB.out | apply below_alloc | apply pw_below_drewN | apply below_drew1) | exact HB.out)) hb); clear HO199; clear HB; have HO199 := n0_; have HO203 := n1_; have HB := n2_; clear n0_ n1_ n2_; (try clear hb); (try clear hb2); (try clear hk); (try clear hi); (try clear ho0); obtain ⟨Ao20, co20, eo20⟩ := Kd.R_slice HO203.out; subst eo20))
      go_ret
      exact ⟨by first | rfl | (simp [errW_none, errW_some] <;> rfl) | (simp [*, errW_none, errW_some] <;> rfl), by repeat (first | (with_reducible first | exact HB.out | apply below_alloc | apply pw_below_drewN | apply below_drew1) | exact HB.out)⟩
  · rw [if_neg c2] at H
    have c2b0 : (t201 == 0) = false := beq_eq_false_iff_ne.mpr c2
    have c2b1 : (t201 != 0) = true := bne_iff_ne.mpr c2
    obtain rfl := Option.some.inj H
    go_enter Try.func12, Try.ntmps12
    go_wp2_with (first | ((with_reducible refine gate_dst (N := 8) rfl ?_); (try (refine gate_guard (by rfl) ?_; dsimp only)); refine Kd.R_lit k39 _ 39 ?hg (N := 8) ?hd (xs := ([(⟨1, 1, (⟨#[]⟩ : ByteArray), false, (⟨#[]⟩ : ByteArray)⟩ : S39), (⟨2, 1, (⟨#[120]⟩ : ByteArray), false, (⟨#[]⟩ : ByteArray)⟩ : S39), (⟨3, 1, (⟨#[120]⟩ : ByteArray), true, (⟨#[97]⟩ : ByteArray)⟩ : S39), (⟨5, 1, (⟨#[]⟩ : ByteArray), false, (⟨#[]⟩ : ByteArray)⟩ : S39)] : List (S39))) (inner := [.int .i64 1, .int .i64 1, .string (⟨#[]⟩ : ByteArray), .bool false, .string (⟨#[]⟩ : ByteArray), .int .i64 2, .int .i64 1, .string (⟨#[120]⟩ : ByteArray), .bool false, .string (⟨#[]⟩ : ByteArray), .int .i64 3, .int .i64 1, .string (⟨#[120]⟩ : ByteArray), .bool true, .string (⟨#[97]⟩ : ByteArray), .int .i64 5, .int .i64 1, .string (⟨#[]⟩ : ByteArray), .bool false, .string (⟨#[]⟩ : ByteArray)]) (ok := fun _ => True) (okp := fun _ => True) ?hr ?hp (fun _ hk => hk) trivial (Below.refl _ _) (Nat.le_refl _) (by simp) ?_; (case hd => rfl); (case hg => rfl); (case hr => first | (go_simp; done) | (go_simp; rfl)); (case hp => exact (Reps.c5 (show Kd.M k39 _ _ _ (⟨1, 1, (⟨#[]⟩ : ByteArray), false, (⟨#[]⟩ : ByteArray)⟩ : S39) [.int .i64 1, .int .i64 1, .string (⟨#[]⟩ : ByteArray), .bool false, .string (⟨#[]⟩ : ByteArray)] from (k39_mkM _ _ _ (⟨1, 1, (⟨#[]⟩ : ByteArray), false, (⟨#[]⟩ : ByteArray)⟩ : S39) )) (Reps.c5 (show Kd.M k39 _ _ _ (⟨2, 1, (⟨#[120]⟩ : ByteArray), false, (⟨#[]⟩ : ByteArray)⟩ : S39) [.int .i64 2, .int .i64 1, .string (⟨#[120]⟩ : ByteArray), .bool false, .string (⟨#[]⟩ : ByteArray)] from (k39_mkM _ _ _ (⟨2, 1, (⟨#[120]⟩ : ByteArray), false, (⟨#[]⟩ : ByteArray)⟩ : S39) )) (Reps.c5 (show Kd.M k39 _ _ _ (⟨3, 1, (⟨#[120]⟩ : ByteArray), true, (⟨#[97]⟩ : ByteArray)⟩ : S39) [.int .i64 3, .int .i64 1, .string (⟨#[120]⟩ : ByteArray), .bool true, .string (⟨#[97]⟩ : ByteArray)] from (k39_mkM _ _ _ (⟨3, 1, (⟨#[120]⟩ : ByteArray), true, (⟨#[97]⟩ : ByteArray)⟩ : S39) )) (Reps.c5 (show Kd.M k39 _ _ _ (⟨5, 1, (⟨#[]⟩ : ByteArray), false, (⟨#[]⟩ : ByteArray)⟩ : S39) [.int .i64 5, .int .i64 1, .string (⟨#[]⟩ : ByteArray), .bool false, .string (⟨#[]⟩ : ByteArray)] from (k39_mkM _ _ _ (⟨5, 1, (⟨#[]⟩ : ByteArray), false, (⟨#[]⟩ : ByteArray)⟩ : S39) )) (Reps.none _ _)))))); intro v198 w21 ho22 hb hg_ hnew_; clear hg_ hnew_; (first | rw [← Ny197.out] at ho22 | (simp only [Int.reduceToNat] at ho22; rw [← Ny197.out] at ho22)); have n0_ := Aside0.mk (Kd.R_lower ho22 (below_size (by repeat (first | (with_reducible first | exact HB.out | apply below_alloc | apply pw_below_drewN | apply below_drew1) | exact HB.out)))); have n1_ := Aside0.mk (below_step (by repeat (first | (with_reducible first | exact HB.out | apply below_alloc | apply pw_below_drewN | apply below_drew1) | exact HB.out)) hb); clear HB; have HO199 := n0_; have HB := n1_; clear n0_ n1_; clear hb ho22; obtain ⟨Ao23, co23, eo23⟩ := Kd.R_slice HO199.out; subst eo23) | ((with_reducible refine gate_callee (f := 14) rfl ?_); refine goesL_ (some 9) rfl rfl Try.func14 (by kernel_rfl) rfl #[.slice none 0 0, .slice Ao23 y197.length co23] rfl (by (try simp only [List.map_toArray, List.map_cons, List.map_nil]); first | done | rfl | (simp only [List.length_drop, List.length_take]; rfl)) ?_; (refine (journal_State.calls _ _ ([] : List (S41)) _ _ y197 t200 t201 _ ?side1 ?side2 ?side3 ?side4 A1.out).mono ?_); (case side1 => exact Kd.C_nil _ _); (case side2 => exact Nat.le_refl _); (case side3 => repeat (first | exact (Kd.R_reads' HO199.out).2.2 | (with_reducible refine Kd.C_alloc ?_ _) | (with_reducible refine Kd.C_drewN ?_ _) | (with_reducible refine Kd.C_drew ?_))); (case side4 => exact (Kd.R_reads' HO199.out).2.1); rintro e w24 ⟨v202, rfl, ho0, hb⟩; refine ⟨_, rfl, ?_⟩; have n0_ := Aside0.mk (Kd.R_below (by (with_reducible repeat (first | apply Kd.R_alloc | apply Kd.R_drewN | apply Kd.R_drew)); exact HO199.out) hb); have n1_ := Aside0.mk (Kd.R_lower ho0 (below_size (by repeat (first | (with_reducible first | exact HB.out | apply below_alloc | apply pw_below_drewN | apply below_drew1) | exact HB.out)))); have n2_ := Aside0.mk (below_step (by repeat (first | (with_reducible first | exact HB.out | apply below_alloc | apply pw_below_drewN | apply below_drew1) | exact HB.out)) hb); clear HO199; clear HB; have HO199 := n0_; have HO203 := n1_; have HB := n2_; clear n0_ n1_ n2_; (try clear hb); (try clear hb2); (try clear hk); (try clear hi); (try clear ho0)))
    go_ret
    exact ⟨by first | rfl | (simp [errW_none, errW_some] <;> rfl) | (simp [*, errW_none, errW_some] <;> rfl), by repeat (first | (with_reducible first | exact HB.out | apply below_alloc | apply pw_below_drewN | apply below_drew1) | exact HB.out)⟩

end Go.Proofs.Yteblpjnkinghoaa.J
/- The laws' guards, and State. -/
namespace Go.Proofs.Yteblpjnkinghoaa.J
open Go.RowKit Go.Proofs.YteblpjnkinghoaaW.PrintWords
theorem notes_guard_from (l : List S39) (hl : l.length ≤ 9223372036854775807) : ∀ (d i : Nat), d = 60 - i → i ≤ 60 → ∀ s : Int, ∃ b, Ev (fun k => ringworklaw25_Notes.l0 k l s (i : Int)) b ∧ (b = true → l.length ≤ 60) := by
  intro d
  induction d with
  | zero =>
    intro i hd hi s
    have : i = 60 := by omega
    subst this
    by_cases hn : (l.length : Int) ≤ 60
    · exact ⟨_, Ev.step (fun k => by rw [ringworklaw25_Notes.l0, if_neg (by omega), if_pos hn]) (Ev.val (decide (s ≤ 6000))), fun _ => by omega⟩
    · exact ⟨false, Ev.step (fun k => by rw [ringworklaw25_Notes.l0, if_pos (by omega), if_neg (by decide), if_neg hn]) (Ev.val false), fun h => by cases h⟩
  | succ d ih =>
    intro i hd hi s
    by_cases hlt : i < l.length
    · obtain ⟨b, hb, hbb⟩ := ih (i + 1) (by omega) (by omega) (wrap64 ((wrap64 (s + (((rd_T39 l (i : Int)).f2).size : Int))) + (((rd_T39 l (i : Int)).f4).size : Int)))
      refine ⟨b, Ev.step (fun k => by rw [ringworklaw25_Notes.l0, if_pos (by omega), if_pos (by omega), if_pos (by omega), wrap_next' hlt hl]) hb, hbb⟩
    · exact ⟨_, Ev.step (fun k => by rw [ringworklaw25_Notes.l0, if_neg (by omega), if_pos (by omega)]) (Ev.val (decide (s ≤ 6000))), fun _ => by omega⟩
theorem notes_guard (l : List S39) (hl : l.length ≤ 9223372036854775807) : ∃ b, Ev (fun k => ringworklaw25_Notes.f k l) b ∧ (b = true → l.length ≤ 60) := notes_guard_from l hl 60 0 rfl (by omega) 0
theorem images_guard_from (l : List S41) (hl : l.length ≤ 9223372036854775807) : ∀ (d i : Nat), d = 60 - i → i ≤ 60 → ∀ s : Int, ∃ b, Ev (fun k => ringworklaw25_Images.l0 k l s (i : Int)) b ∧ (b = true → l.length ≤ 60) := by
  intro d
  induction d with
  | zero =>
    intro i hd hi s
    have : i = 60 := by omega
    subst this
    by_cases hn : (l.length : Int) ≤ 60
    · exact ⟨_, Ev.step (fun k => by rw [ringworklaw25_Images.l0, if_neg (by omega), if_pos hn]) (Ev.val (decide (s ≤ 6000))), fun _ => by omega⟩
    · exact ⟨false, Ev.step (fun k => by rw [ringworklaw25_Images.l0, if_pos (by omega), if_neg (by decide), if_neg hn]) (Ev.val false), fun h => by cases h⟩
  | succ d ih =>
    intro i hd hi s
    by_cases hlt : i < l.length
    · obtain ⟨b, hb, hbb⟩ := ih (i + 1) (by omega) (by omega) (wrap64 ((wrap64 (s + (((rd_T41 l (i : Int)).f0).size : Int))) + (((rd_T41 l (i : Int)).f2).size : Int)))
      refine ⟨b, Ev.step (fun k => by rw [ringworklaw25_Images.l0, if_pos (by omega), if_pos (by omega), if_pos (by omega), wrap_next hlt hl]) hb, hbb⟩
    · exact ⟨_, Ev.step (fun k => by rw [ringworklaw25_Images.l0, if_neg (by omega), if_pos (by omega)]) (Ev.val (decide (s ≤ 6000))), fun _ => by omega⟩
theorem images_guard (l : List S41) (hl : l.length ≤ 9223372036854775807) : ∃ b, Ev (fun k => ringworklaw25_Images.f k l) b ∧ (b = true → l.length ≤ 60) := images_guard_from l hl 60 0 rfl (by omega) 0
theorem awake_true : ringworklaw25_awake.f = some true := by kernel_rfl
theorem redoAll_le : ∀ s : List S39, (redoAll s).2.length ≤ s.length
  | [] => Nat.le_refl _
  | n :: s => by
    have := redoAll_le s
    rw [redoAll_cons]
    unfold redoStep
    simp only [List.length_cons]
    split
    · simp only; omega
    · split
      · simp only; omega
      · split
        · split
          · simp; omega
          · omega
        · omega
theorem redo_len {l : List S39} {a : Int} {r : List S41 × Int} (h : journal_Redo.f l a = some r) : r.1.length ≤ l.length := by
  unfold journal_Redo.f at h
  obtain ⟨e, _, h⟩ := Option.bind_eq_some_iff.1 h
  split at h
  · split at h
    · cases h; simp
    · cases h
      have := redoAll_le (l.drop a.toNat)
      simp only [List.length_reverse, List.length_drop] at this ⊢
      omega
  · cases h; simp
/-- The two programs' State are one. -/
theorem ref_State (a : List S41) (b : List S39) (hb : b.length ≤ 900000) : ∃ r, journal_State.f a b = some r ∧ Ev (fun k => ringworkref25_State.f k a b) r := by
  unfold journal_State.f ringworkref25_State.f
  rw [ref_state, show journal_ordered.f a = some (ordV a) from rfl]
  simp only [Option.bind_some]
  cases ho : ordV a with
  | false => exact ⟨_, rfl, Ev.val _⟩
  | true =>
    simp only [if_true]
    obtain ⟨r, hr, hR⟩ := ref_Redo b 0 (by omega)
    rw [hr]
    simp only [Option.bind_some]
    by_cases h0 : r.2 = 0
    · rw [if_pos h0]
      obtain ⟨q, hq, hQ⟩ := ref_Apply a r.1 (by have := redo_len hr; omega)
      rw [hq]
      refine ⟨_, rfl, Ev.bind hR ?_⟩
      simp only [if_pos h0]
      exact Ev.bind hQ (Ev.val _)
    · rw [if_neg h0]
      refine ⟨_, rfl, Ev.bind hR ?_⟩
      simp only [if_neg h0]
      exact Ev.val _
end Go.Proofs.Yteblpjnkinghoaa.J
/- A state as what lies at each key. -/
namespace Go.Proofs.Yteblpjnkinghoaa.J
open Go.RowKit
/-- What lies at a key. -/
def look (l : List S41) (k : ByteArray) : Option S41 := l.find? fun y => decide (y.f0 = k)
theorem look_cons (x : S41) (l : List S41) (k : ByteArray) : look (x :: l) k = if x.f0 = k then some x else look l k := by
  unfold look; rw [List.find?_cons]
  by_cases h : x.f0 = k
  · rw [if_pos h, decide_eq_true h]
  · rw [if_neg h, decide_eq_false h]
theorem look_none {l : List S41} {k : ByteArray} (h : ∀ y ∈ l, y.f0 ≠ k) : look l k = none := by
  unfold look; rw [List.find?_eq_none]; intro y hy; simpa using h y hy
theorem look_append (a b : List S41) (k : ByteArray) : look (a ++ b) k = (look a k).or (look b k) := by
  unfold look; rw [List.find?_append]
theorem kless_ne {a b : ByteArray} (h : kless a b = true) : a ≠ b := fun e => by rw [e, kless_irr] at h; cases h
theorem sorted_ext : ∀ {a b : List S41}, Sorted a → Sorted b → (∀ k, look a k = look b k) → a = b
  | [], [], _, _, _ => rfl
  | [], y :: b, _, _, h => by have := h y.f0; rw [look_cons, if_pos rfl] at this; cases this
  | x :: a, [], _, _, h => by have := h x.f0; rw [look_cons, if_pos rfl] at this; cases this
  | x :: a, y :: b, ha, hb, h => by
    have ha' := List.pairwise_cons.1 ha
    have hb' := List.pairwise_cons.1 hb
    have hxy : x.f0 = y.f0 := by
      cases h1 : kless x.f0 y.f0 with
      | true =>
        have := h x.f0
        rw [look_cons, if_pos rfl, look_cons, if_neg (kless_ne h1).symm, look_none (fun z hz => (kless_ne (kless_trans h1 (hb'.1 z hz))).symm)] at this
        cases this
      | false =>
        cases h2 : kless y.f0 x.f0 with
        | true =>
          have := h y.f0
          rw [look_cons, if_neg (kless_ne h2).symm, look_none (fun z hz => (kless_ne (kless_trans h2 (ha'.1 z hz))).symm), look_cons, if_pos rfl] at this
          cases this
        | false =>
          by_cases he : x.f0 = y.f0
          · exact he
          · have := kless_tri h1 he; rw [h2] at this; cases this
    have hx := h x.f0
    rw [look_cons, if_pos rfl, look_cons, if_pos hxy.symm] at hx
    cases hx
    rw [sorted_ext ha'.2 hb'.2 (fun k => ?_)]
    have hk := h k
    rw [look_cons, look_cons] at hk
    by_cases he : x.f0 = k
    · subst he
      rw [look_none (fun z hz => (kless_ne (ha'.1 z hz)).symm), look_none (fun z hz => (kless_ne (hb'.1 z hz)).symm)]
    · rw [if_neg he, if_neg he] at hk; exact hk
theorem look_apStep {cur : List S41} (hs : Sorted cur) (x : S41) (k : ByteArray) : look (apStep cur x) k = if k = x.f0 then (if x.f1 = true then some x else none) else look cur k := by
  have hs' : Sorted (cur.takeWhile (fun y => kless y.f0 x.f0) ++ cur.dropWhile (fun y => kless y.f0 x.f0)) := by rw [List.takeWhile_append_dropWhile]; exact hs
  obtain ⟨h1, h2, h3⟩ := List.pairwise_append.1 hs'
  obtain ⟨h4, h5⟩ := rest_sorted (x := x) h2 (dw_head _ _)
  have h6 := tw_all (fun y => kless y.f0 x.f0) cur
  have hc : look cur k = (look (cur.takeWhile (fun y => kless y.f0 x.f0)) k).or (look (cur.dropWhile (fun y => kless y.f0 x.f0)) k) := by
    rw [← look_append, List.takeWhile_append_dropWhile]
  unfold apStep
  rw [look_append, look_append]
  by_cases hk : k = x.f0
  · subst hk
    rw [if_pos rfl, look_none (l := cur.takeWhile _) (fun z hz => kless_ne (h6 z hz)), look_none (l := apRest x _) (fun z hz => (kless_ne (h5 z hz)).symm)]
    split
    · rw [look_cons, if_pos rfl]; rfl
    · rfl
  · rw [if_neg hk, hc]
    have e1 : look (if x.f1 = true then [x] else []) k = none := by
      split
      · rw [look_cons, if_neg (Ne.symm hk)]; rfl
      · rfl
    have e2 : look (apRest x (cur.dropWhile (fun y => kless y.f0 x.f0))) k = look (cur.dropWhile (fun y => kless y.f0 x.f0)) k := by
      cases cur.dropWhile (fun y => kless y.f0 x.f0) with
      | nil => rfl
      | cons y r =>
        rw [apRest_cons]
        split
        · rename_i he; rw [look_cons, if_neg (by rw [he]; exact Ne.symm hk)]
        · rfl
    rw [e1, e2, Option.or_none]
/-- The last image of a key. -/
def lastOf : List S41 → ByteArray → Option S41
  | [], _ => none
  | x :: a, k => match lastOf a k with
    | some y => some y
    | none => if x.f0 = k then some x else none
/-- What lies at a key after images. -/
def after (o : Option S41) (d : Option S41) : Option S41 := match o with
  | some x => if x.f1 = true then some x else none
  | none => d
theorem fold_look : ∀ (a s : List S41), Sorted s → Sorted (a.foldl apStep s) ∧ ∀ k, look (a.foldl apStep s) k = after (lastOf a k) (look s k)
  | [], s, hs => ⟨hs, fun _ => rfl⟩
  | x :: a, s, hs => by
    obtain ⟨h1, h2⟩ := fold_look a (apStep s x) (apStep_sorted hs x)
    refine ⟨h1, fun k => ?_⟩
    rw [List.foldl_cons, h2, lastOf]
    cases lastOf a k with
    | some y => rfl
    | none =>
      show look (apStep s x) k = _
      rw [look_apStep hs]
      by_cases hk : k = x.f0
      · rw [if_pos hk, if_pos hk.symm]; rfl
      · rw [if_neg hk, if_neg (Ne.symm hk)]; rfl
theorem fold_twice (a s : List S41) (hs : Sorted s) : a.foldl apStep (a.foldl apStep s) = a.foldl apStep s := by
  obtain ⟨h1, h2⟩ := fold_look a s hs
  obtain ⟨h3, h4⟩ := fold_look a (a.foldl apStep s) h1
  refine sorted_ext h3 h1 fun k => ?_
  rw [h4, h2]
  cases lastOf a k <;> rfl
theorem apStep_mem {cur : List S41} {x y : S41} (h : y ∈ apStep cur x) : y ∈ cur ∨ (y = x ∧ x.f1 = true) := by
  unfold apStep at h
  rcases List.mem_append.1 h with h | h
  · rcases List.mem_append.1 h with h | h
    · exact .inl (List.takeWhile_subset _ h)
    · split at h
      · rename_i hf; exact .inr ⟨by simpa using h, hf⟩
      · cases h
  · exact .inl (List.dropWhile_subset _ (rest_sub x _ y h))
theorem fold_all (P : S41 → Prop) : ∀ (a s : List S41), (∀ y ∈ s, P y) → (∀ x ∈ a, x.f1 = true → P x) → ∀ y ∈ a.foldl apStep s, P y
  | [], _, h, _ => h
  | x :: a, s, h, h2 => fold_all P a (apStep s x) (fun y hy => by
      rcases apStep_mem hy with hy | ⟨rfl, hf⟩
      · exact h y hy
      · exact h2 _ (List.mem_cons_self) hf) (fun z hz => h2 z (List.mem_cons_of_mem _ hz))
theorem ordV_iff (l : List S41) : ordV l = true ↔ Sorted l ∧ (∀ y ∈ l, img y = true ∧ y.f1 = true) ∧ l.length ≤ 500 := by
  unfold ordV
  rw [Bool.and_eq_true, decide_eq_true_eq]
  constructor
  · rintro ⟨h, hl⟩
    refine ⟨good_sorted h, fun y hy => ?_, hl⟩
    obtain ⟨k, hk, rfl⟩ := List.getElem_of_mem hy
    have := List.all_eq_true.1 h k (List.mem_range.2 hk)
    unfold goodAt at this
    rw [rd_mem hk] at this
    simp only [Bool.and_eq_true] at this
    exact this.1
  · rintro ⟨hs, ha, hl⟩
    refine ⟨List.all_eq_true.2 fun k hk => ?_, hl⟩
    have hk := List.mem_range.1 hk
    have := ha _ (List.getElem_mem hk)
    unfold goodAt
    rw [rd_mem hk, this.1, this.2]
    cases k with
    | zero => rfl
    | succ k =>
      rw [show ((k + 1 : Nat) : Int) - 1 = (k : Int) by omega, rd_mem (by omega)]
      have := List.pairwise_iff_getElem.1 hs k (k + 1) (by omega) hk (by omega)
      simp only [Bool.true_and, Bool.or_eq_true]
      exact .inr this
/-- P25.5: what Apply gives is a state, and applying once more changes nothing. -/
theorem apply_once {s a r : List S41} (h : journal_Apply.f s a = some (r, 0)) : ordV s = true ∧ a.all img = true ∧ r = a.foldl apStep s ∧ ordV r = true ∧ a.length ≤ 900000 := by
  unfold journal_Apply.f at h
  split at h
  · rename_i hl
    split at h
    · rename_i hv
      split at h
      · cases h
      · rename_i h5
        cases h
        obtain ⟨h1, h2, _⟩ := (ordV_iff s).1 hv.1
        refine ⟨hv.1, hv.2, rfl, (ordV_iff _).2 ⟨(fold_look a s h1).1, fold_all (fun y => img y = true ∧ y.f1 = true) a s h2 (fun x hx hf => ⟨List.all_eq_true.1 hv.2 x hx, hf⟩), by omega⟩, hl⟩
    · cases h
  · cases h
theorem apply_twice {s a r : List S41} (h : journal_Apply.f s a = some (r, 0)) : journal_Apply.f r a = some (r, 0) := by
  obtain ⟨h1, h2, h3, h4, h5⟩ := apply_once h
  have hf : a.foldl apStep r = r := by rw [h3]; exact fold_twice a s ((ordV_iff s).1 h1).1
  unfold journal_Apply.f
  rw [if_pos h5, if_pos ⟨h4, h2⟩, hf, if_neg (by have := ((ordV_iff r).1 h4).2.2; omega)]
end Go.Proofs.Yteblpjnkinghoaa.J
