/- Lemmas and contracts (part 4) on which the claim's last text leans: The law JournalWrong holds of every input: it returns true, and its arguments read behind the call as they read before. Conditions: none. -/
import Derived.Test.YteblpjnkinghoaaGreatWroM3
import Derived.Test.YteblpjnkinghoaaGreatWroM1
import Derived.Test.YteblpjnkinghoaaGreatWroM2
set_option linter.unusedVariables false
set_option linter.unusedSimpArgs false
/- The order of keys, and what an image does to a sorted state. -/
namespace Go.Proofs.YteblpjnkinghoaaGreat.J
open Go.RowKit
theorem bl_irr : ∀ a : List UInt8, Op.bytesLess a a = false
  | [] => rfl
  | x :: a => by unfold Op.bytesLess; simp [bl_irr a]
theorem bl_trans : ∀ {a b c : List UInt8}, Op.bytesLess a b = true → Op.bytesLess b c = true → Op.bytesLess a c = true
  | _, _, [], _, h => by unfold Op.bytesLess at h; cases h
  | [], _, _ :: _, _, _ => rfl
  | _ :: _, [], _ :: _, h, _ => by cases h
  | x :: a, y :: b, z :: c, h1, h2 => by
    unfold Op.bytesLess at h1 h2 ⊢
    simp only [Bool.or_eq_true, decide_eq_true_eq, Bool.and_eq_true, beq_iff_eq] at h1 h2 ⊢
    rcases h1 with h1 | ⟨rfl, h1⟩
    · rcases h2 with h2 | ⟨rfl, h2⟩
      · exact .inl (UInt8.lt_trans h1 h2)
      · exact .inl h1
    · rcases h2 with h2 | ⟨rfl, h2⟩
      · exact .inl h2
      · exact .inr ⟨rfl, bl_trans h1 h2⟩
theorem bl_tri : ∀ {a b : List UInt8}, Op.bytesLess a b = false → a ≠ b → Op.bytesLess b a = true
  | [], [], _, h => absurd rfl h
  | [], _ :: _, h, _ => by cases h
  | _ :: _, [], _, _ => rfl
  | x :: a, y :: b, h, hne => by
    unfold Op.bytesLess at h ⊢
    simp only [Bool.or_eq_false_iff, decide_eq_false_iff_not, Bool.and_eq_false_iff, beq_eq_false_iff_ne] at h
    simp only [Bool.or_eq_true, decide_eq_true_eq, Bool.and_eq_true, beq_iff_eq]
    by_cases hxy : x = y
    · subst hxy
      refine .inr ⟨rfl, bl_tri (h.2.resolve_left (fun h => h rfl)) (fun e => hne (by rw [e]))⟩
    · exact .inl (UInt8.lt_of_le_of_ne (UInt8.not_lt.1 h.1) (Ne.symm hxy))
theorem toList_inj {a b : ByteArray} (h : a.toList = b.toList) : a = b := by
  rw [ByteArray.toList_eq, ByteArray.toList_eq] at h; cases a; cases b; simpa using h
theorem kless_irr (a : ByteArray) : kless a a = false := bl_irr _
theorem kless_trans {a b c : ByteArray} (h1 : kless a b = true) (h2 : kless b c = true) : kless a c = true := bl_trans h1 h2
theorem kless_tri {a b : ByteArray} (h : kless a b = false) (hne : a ≠ b) : kless b a = true := bl_tri h (fun e => hne (toList_inj e))
/-- A state in order. -/
def Sorted (l : List S48) : Prop := l.Pairwise fun a b => kless a.f0 b.f0 = true
theorem apRest_cons (x y : S48) (r : List S48) : apRest x (y :: r) = if y.f0 = x.f0 then r else y :: r := rfl
theorem rest_sorted {x : S48} {l : List S48} (h : Sorted l) (hx : ∀ y ∈ l.head?, kless y.f0 x.f0 = false) : Sorted (apRest x l) ∧ ∀ b ∈ apRest x l, kless x.f0 b.f0 = true := by
  cases l with
  | nil => exact ⟨List.Pairwise.nil, fun b hb => by cases hb⟩
  | cons y r =>
    have hy := hx y rfl
    have hp := List.pairwise_cons.1 h
    rw [apRest_cons]
    by_cases he : y.f0 = x.f0
    · rw [if_pos he]
      exact ⟨hp.2, fun b hb => by rw [← he]; exact hp.1 b hb⟩
    · rw [if_neg he]
      have hxy := kless_tri hy he
      refine ⟨h, fun b hb => ?_⟩
      rcases List.mem_cons.1 hb with rfl | hb
      · exact hxy
      · exact kless_trans hxy (hp.1 b hb)
theorem tw_all (p : S48 → Bool) : ∀ (l : List S48) (a : S48), a ∈ l.takeWhile p → p a = true
  | [], _, h => by cases h
  | b :: l, a, h => by
    rw [List.takeWhile_cons] at h
    split at h
    · rcases List.mem_cons.1 h with rfl | h
      · assumption
      · exact tw_all p l a h
    · cases h
theorem dw_head (p : S48 → Bool) : ∀ (l : List S48), ∀ y ∈ (l.dropWhile p).head?, p y = false
  | [], y, h => by cases h
  | b :: l, y, h => by
    rw [List.dropWhile_cons] at h
    split at h
    · exact dw_head p l y h
    · rename_i hp
      cases h
      exact Bool.eq_false_iff.2 hp
theorem rest_sub (x : S48) (l : List S48) : ∀ b ∈ apRest x l, b ∈ l := by
  cases l with
  | nil => intro b hb; exact hb
  | cons y r =>
    intro b hb
    rw [apRest_cons] at hb
    split at hb
    · exact List.mem_cons_of_mem _ hb
    · exact hb
theorem apStep_sorted {cur : List S48} (h : Sorted cur) (x : S48) : Sorted (apStep cur x) := by
  have hs : Sorted (cur.takeWhile (fun y => kless y.f0 x.f0) ++ cur.dropWhile (fun y => kless y.f0 x.f0)) := by rw [List.takeWhile_append_dropWhile]; exact h
  obtain ⟨h1, h2, h3⟩ := List.pairwise_append.1 hs
  obtain ⟨h4, h5⟩ := rest_sorted (x := x) h2 (dw_head _ _)
  have h6 := tw_all (fun y => kless y.f0 x.f0) cur
  unfold apStep Sorted
  rw [List.pairwise_append, List.pairwise_append]
  refine ⟨⟨h1, ?_, fun a ha b hb => ?_⟩, h4, fun a ha b hb => ?_⟩
  · split <;> simp
  · split at hb
    · rw [List.mem_singleton] at hb; subst hb; exact h6 a ha
    · cases hb
  · rcases List.mem_append.1 ha with ha | ha
    · exact h3 a ha b (rest_sub x _ b hb)
    · split at ha
      · rw [List.mem_singleton] at ha; subst ha; exact h5 b hb
      · cases ha
theorem rd_mem {l : List S48} {t : Nat} (h : t < l.length) : rd_T48 l (t : Int) = l[t] := by
  unfold rd_T48; rw [Int.toNat_natCast, List.getD_eq_getElem?_getD, List.getElem?_eq_getElem h]; rfl
theorem sorted_behind {cur : List S48} (h : Sorted cur) (key : ByteArray) (t : Nat) (h1 : kpos cur key ≤ t) (h2 : t < cur.length) : kless (rd_T48 cur (t : Int)).f0 key = false := by
  have he := tw_end (fun y => kless y.f0 key) cur (by have : kpos cur key < cur.length := by omega
                                                      exact this)
  change kless (rd_T48 cur (kpos cur key : Int)).f0 key = false at he
  rcases Nat.lt_or_eq_of_le h1 with hlt | rfl
  · cases hk : kless (rd_T48 cur (t : Int)).f0 key with
    | false => rfl
    | true =>
      rw [rd_mem (by omega)] at he
      rw [rd_mem h2] at hk
      have := List.pairwise_iff_getElem.1 h (kpos cur key) t (by omega) h2 hlt
      rw [kless_trans this hk] at he
      cases he
  · exact he
/-- What the program does to its row, case by case. -/
theorem apStep_put {cur : List S48} {x : S48} (hf : x.f1 = true) (ht : kthere cur x.f0 = true) : apStep cur x = cur.take (kpos cur x.f0) ++ x :: cur.drop (kpos cur x.f0 + 1) := by
  unfold kthere at ht
  simp only [Bool.and_eq_true, decide_eq_true_eq] at ht
  have hd := List.drop_eq_getElem_cons ht.1
  rw [rd_mem ht.1] at ht
  unfold apStep
  rw [if_pos hf, ← tw_take, ← tw_drop]
  change cur.take (kpos cur x.f0) ++ [x] ++ apRest x (cur.drop (kpos cur x.f0)) = _
  rw [hd, apRest, if_pos ht.2]
  simp
theorem apStep_ins {cur : List S48} {x : S48} (hf : x.f1 = true) (ht : kthere cur x.f0 = false) : apStep cur x = cur.take (kpos cur x.f0) ++ x :: cur.drop (kpos cur x.f0) := by
  unfold apStep
  rw [if_pos hf, ← tw_take, ← tw_drop]
  change cur.take (kpos cur x.f0) ++ [x] ++ apRest x (cur.drop (kpos cur x.f0)) = _
  have : apRest x (cur.drop (kpos cur x.f0)) = cur.drop (kpos cur x.f0) := by
    by_cases hlt : kpos cur x.f0 < cur.length
    · unfold kthere at ht
      rw [decide_eq_true hlt, Bool.true_and, decide_eq_false_iff_not, rd_mem hlt] at ht
      rw [List.drop_eq_getElem_cons hlt, apRest, if_neg ht]
    · rw [List.drop_eq_nil_of_le (by omega)]; rfl
  rw [this]; simp
theorem apStep_del {cur : List S48} {x : S48} (hf : x.f1 = false) (ht : kthere cur x.f0 = true) : apStep cur x = cur.take (kpos cur x.f0) ++ cur.drop (kpos cur x.f0 + 1) := by
  unfold kthere at ht
  simp only [Bool.and_eq_true, decide_eq_true_eq] at ht
  have hd := List.drop_eq_getElem_cons ht.1
  rw [rd_mem ht.1] at ht
  unfold apStep
  rw [if_neg (by rw [hf]; decide), ← tw_take, ← tw_drop]
  change cur.take (kpos cur x.f0) ++ [] ++ apRest x (cur.drop (kpos cur x.f0)) = _
  rw [hd, apRest, if_pos ht.2]
  simp
theorem apStep_no {cur : List S48} {x : S48} (hf : x.f1 = false) (ht : kthere cur x.f0 = false) : apStep cur x = cur := by
  unfold apStep
  rw [if_neg (by rw [hf]; decide), ← tw_take, ← tw_drop]
  change cur.take (kpos cur x.f0) ++ [] ++ apRest x (cur.drop (kpos cur x.f0)) = _
  have : apRest x (cur.drop (kpos cur x.f0)) = cur.drop (kpos cur x.f0) := by
    by_cases hlt : kpos cur x.f0 < cur.length
    · unfold kthere at ht
      rw [decide_eq_true hlt, Bool.true_and, decide_eq_false_iff_not, rd_mem hlt] at ht
      rw [List.drop_eq_getElem_cons hlt, apRest, if_neg ht]
    · rw [List.drop_eq_nil_of_le (by omega)]; rfl
  rw [this, List.append_nil, List.take_append_drop]
theorem good_sorted {l : List S48} (h : (List.range l.length).all (goodAt l) = true) : Sorted l := by
  have hadj : ∀ k, k + 1 < l.length → kless (rd_T48 l (k : Int)).f0 (rd_T48 l ((k + 1 : Nat) : Int)).f0 = true := fun k hk => by
    have := List.all_eq_true.1 h (k + 1) (List.mem_range.2 hk)
    unfold goodAt at this
    simp only [Bool.and_eq_true, Bool.or_eq_true, decide_eq_true_eq] at this
    have h2 := this.2.resolve_left (by omega)
    rw [show ((k + 1 : Nat) : Int) - 1 = k by omega] at h2
    exact h2
  refine List.pairwise_iff_getElem.2 fun i j hi hj hij => ?_
  induction j with
  | zero => omega
  | succ j ih =>
    have hs := hadj j hj
    rw [rd_mem (by omega), rd_mem hj] at hs
    rcases Nat.lt_or_eq_of_le (Nat.le_of_lt_succ hij) with hlt | rfl
    · exact kless_trans (ih (by omega) hlt) hs
    · exact hs
end Go.Proofs.YteblpjnkinghoaaGreat.J
/- The contract of journal.Apply. -/
namespace Go.Proofs.YteblpjnkinghoaaGreat.J
open Go.BigFrame Go.RowKit Go.Proofs.YteblpjnkinghoaaGreatW.PrintWords Go.Proofs.YteblpjnkinghoaaGreatW.PrintLast Go.Proofs.YteblpjnkinghoaaGreatW.PrintMore
/-- Whether images are a state, as journal.ordered has it. -/
def ordV (l : List S48) : Bool := (List.range l.length).all (goodAt l) && decide (l.length ≤ 500)
def journal_Apply.f (l0 : List (S48)) (l1 : List (S48)) : Option ((List (S48)) × Int) :=
  if l1.length ≤ 900000 then
    (if ordV l0 = true ∧ l1.all img = true then (if 500 < (l1.foldl apStep l0).length then some ([], 4) else some (l1.foldl apStep l0, 0)) else some ([], 1))
  else none
theorem Im.set3 {w : World} {g cap : Nat} {cs : List Value} (h : Im w g cap cs) (o : Nat) (x : S48) (hf : o + 3 ≤ cs.length) :
    Im (((w.setCell ⟨g, o, none⟩ (.string x.f0)).setCell ⟨g, o + 1, none⟩ (.bool x.f1)).setCell ⟨g, o + 2, none⟩ (.string x.f2)) g cap (spliced cs o (cells3 x)) := by
  obtain ⟨cur', h1, h2, h3⟩ := setCells_row (cells3 x) o w cs.toArray h.1 (by simpa [cells3] using hf)
  refine ⟨?_, by rw [spliced_length _ _ _ (by simpa [cells3] using hf)]; exact h.2.1, h.2.2⟩
  have e : cur' = (spliced cs o (cells3 x)).toArray := Array.ext' (by rw [h3]; rfl)
  rw [e] at h1
  exact h1
theorem apply_no (A0 : Option Addr) (c0 : Nat) (l0 : List (S48)) (A1 : Option Addr) (c1 : Nat) (l1 : List (S48)) (w : World) (hr0 : Kd.C k48 w A0 l0.length l0) (hc0 : l0.length ≤ c0) (hr1 : Kd.C k48 w A1 l1.length l1) (hc1 : l1.length ≤ c1) (h : ¬ (ordV l0 = true ∧ l1.all img = true)) :
    Calls Tryz.prog 42 #[.slice A0 l0.length c0, .slice A1 l1.length c1] w fun e w' => e = .returned (.tuple #[.slice none 0 0, .int .i64 1]) ∧ Below w.heap.size w w' := by
  have HR0 := Aside0.mk hr0
  have HC0 := Aside0.mk hc0
  have HR1 := Aside0.mk hr1
  have HC1 := Aside0.mk hc1
  have HO := Aside0.mk (show journal_ordered.f l0 = some (ordV l0) from rfl)
  clear hr0 hc0 hr1 hc1
  cases ho : ordV l0 with
  | false =>
    rw [ho] at HO
    clear h ho
    go_enter Tryz.func42, Tryz.ntmps42
    go_wp2_with (go_at_call 40; refine (journal_ordered.calls _ _ _ _ _ HR0.out HC0.out HO.out).mono ?_; rintro r w1 ⟨rfl, hb⟩)
    go_ret2
    exact ⟨rfl, hb⟩
  | true =>
    have hi : l1.all img = false := Bool.eq_false_iff.2 (fun hi => h ⟨ho, hi⟩)
    rw [ho] at HO
    have HI := Aside0.mk hi
    clear h ho hi
    go_enter Tryz.func42, Tryz.ntmps42
    go_wp2_with (first | (go_at_call 40; refine (journal_ordered.calls _ _ _ _ _ HR0.out HC0.out HO.out).mono ?_; rintro r w1 ⟨rfl, hb⟩) | (go_at_call 54; refine (contains41_calls _ _ _ _ (Kd.C_below HR1.out hb)).mono ?_; rintro r w2 ⟨rfl, hb2⟩; rw [HI.out]))
    go_ret2
    exact ⟨rfl, below_step hb hb2⟩
set_option maxHeartbeats 4000000 in
set_option maxRecDepth 100000 in
theorem apply_yes (A0 : Option Addr) (c0 : Nat) (l0 : List (S48)) (A1 : Option Addr) (c1 : Nat) (l1 : List (S48)) (w : World) (hr0 : Kd.C k48 w A0 l0.length l0) (hc0 : l0.length ≤ c0) (hr1 : Kd.C k48 w A1 l1.length l1) (hc1 : l1.length ≤ c1) (ho : ordV l0 = true) (hi : l1.all img = true) (hl : l1.length ≤ 900000)
    (r1 : List S48) (r2 : Int) (hr : (if 500 < (l1.foldl apStep l0).length then (([] : List S48), (4 : Int)) else (l1.foldl apStep l0, 0)) = (r1, r2)) :
    Calls Tryz.prog 42 #[.slice A0 l0.length c0, .slice A1 l1.length c1] w fun e w' => ∃ v0_ : Value, e = .returned (.tuple #[v0_, .int .i64 r2]) ∧ Kd.R k48 48 w' w.heap.size (fun _ => True) v0_ r1 ∧ Below w.heap.size w w' := by
  have hl0 : l0.length ≤ 500 := by unfold ordV at ho; simp at ho; exact ho.2
  have hso : Sorted l0 := good_sorted (by unfold ordV at ho; rw [Bool.and_eq_true] at ho; exact ho.1)
  have HSO := Aside0.mk hso
  have HR0 := Aside0.mk hr0
  have HC0 := Aside0.mk hc0
  have HR1 := Aside0.mk hr1
  have HC1 := Aside0.mk hc1
  have HI := Aside0.mk hi
  have HRR := Aside0.mk hr
  have HO := Aside0.mk (show journal_ordered.f l0 = some true by rw [← ho]; rfl)
  clear hr0 hc0 hr1 hc1 hi ho hso hr
  go_enter Tryz.func42, Tryz.ntmps42
  go_wp2_with (first | (go_at_call 40; refine (journal_ordered.calls _ _ _ _ _ HR0.out HC0.out HO.out).mono ?_; rintro r w1 ⟨rfl, hb⟩) | (go_at_call 54; refine (contains41_calls _ _ _ _ (Kd.C_below HR1.out hb)).mono ?_; rintro r w2 ⟨rfl, hb2⟩; rw [HI.out]) | (go_at_call 56; refine (clone_calls _ _ _ _ (Kd.C_below (Kd.C_below HR0.out hb) hb2) (by omega)).mono ?_; rintro r w3 ⟨v3, rfl, ho3, hb3⟩))
  have hB3 := below_step (below_step hb hb2) hb3
  have HO3 := Aside0.mk (Kd.R_lower ho3 (below_size (below_step hb hb2)))
  have HB3 := Aside0.mk hB3
  clear hb hb2 hb3 ho3 hB3 HR0 HC0 HO HI
  go_loopg [6, 22] (l1.length + 1) (fun kq v6 v22 w' => ∃ (i : Nat) (cur : List S48), v22 = .int .i64 i ∧ i ≤ l1.length ∧ Aside0 (kq + i = l1.length + 1) ∧ Aside0 ((l1.drop i).foldl apStep cur = l1.foldl apStep l0) ∧ Aside0 (cur.length ≤ 500 + i) ∧ Aside0 (Sorted cur) ∧ Aside0 (Kd.R k48 48 w' w.heap.size (fun _ => True) v6 cur) ∧ Aside0 (Below w.heap.size w w'))
  case atStart => exact ⟨0, l0, rfl, by omega, ⟨by omega⟩, ⟨rfl⟩, ⟨by omega⟩, HSO, HO3, HB3⟩
  case round =>
    clear HO3 HB3 HSO
    obtain ⟨i, cur, rfl, hi, HQ, HS, HL, HSO, HO, HB⟩ := hrel
    by_cases hlt : i < l1.length
    · obtain ⟨a1, rfl, h0, h1, h2⟩ := at_T48 (Kd.C_below HR1.out HB.out) (i : Int) (by omega) (by omega)
      rw [Int.toNat_natCast] at h0 h1 h2
      have HS2 := Aside0.mk (show (l1.drop (i + 1)).foldl apStep (apStep cur (rd_T48 l1 (i : Int))) = l1.foldl apStep l0 by rw [← HS.out, drop_rd48 hlt]; rfl)
      generalize rd_T48 l1 (i : Int) = x at h0 h1 h2 HS2
      clear HS
      obtain ⟨A, c, hv6, hlc, hC⟩ := Kd.R_reads HO.out
      subst hv6
      have HSE := Aside0.mk (fun (w' : World) (hC : Kd.C k48 w' A cur.length cur) => search_calls cur x.f0 A c w' hC (by have := HL.out; omega) (fun t h1 h2 => sorted_behind HSO.out x.f0 t h1 h2))
      have hkl : kpos cur x.f0 ≤ cur.length := tw_le _ _
      clear hC
      have hkk := heap_alloc_new wr (.cells #[.string x.f0, .bool x.f1, .string x.f2] 48)
      have HB5 := Aside0.mk (HB.out.alloc (below_size HB.out) (.cells #[.string x.f0, .bool x.f1, .string x.f2] 48))
      have HO5 := Aside0.mk (show Kd.R k48 48 (wr.alloc (.cells #[.string x.f0, .bool x.f1, .string x.f2] 48)) w.heap.size (fun k => k ≠ wr.heap.size) (.slice A cur.length c) cur from Kd.R_alloc (Kd.R_mono (Kd.R_bound HO.out) (fun k hk => by have := hk.2.2.1; omega)) _)
      obtain ⟨tb, htb⟩ : ∃ tb, tb = wr.heap.size := ⟨_, rfl⟩
      go_upto_region 8 with (first | (go_at_call 57; generalize wr.alloc (.cells #[.string x.f0, .bool x.f1, .string x.f2] 48) = w5 at hkk HB5 HO5 ⊢; refine (HSE.out _ (R_C48 HO5.out).1).mono ?_; rintro r w6 ⟨rfl, hb6⟩))
      have HB6 := Aside0.mk (below_step HB5.out hb6)
      have HO6 := Aside0.mk (Kd.R_below HO5.out hb6)
      have hk6 := (hb6.block _ (Array.getElem?_eq_some_iff.1 hkk).1).trans hkk
      have hlt6 := (Array.getElem?_eq_some_iff.1 hk6).1
      clear HSE HB5 HO5 hkk hb6 HO HB h0 h1 h2 htb
      have hkt : kthere cur x.f0 = true → kpos cur x.f0 < cur.length := fun h => by unfold kthere at h; simp at h; exact h.1
      obtain ⟨x0, x1, x2⟩ := x
      have hc0 := (blk_cell hk6 0).trans (show _ = some (Value.string x0) from rfl)
      have hc1 := (blk_cell hk6 1).trans (show _ = some (Value.bool x1) from rfl)
      have hc2 := (blk_cell hk6 2).trans (show _ = some (Value.string x2) from rfl)
      have HAL := Aside0.mk (apStep_le cur ⟨x0, x1, x2⟩)
      have HAS := Aside0.mk (apStep_sorted HSO.out ⟨x0, x1, x2⟩)
      clear hk6 HSO
      simp only at hkt hkl ⊢
      cases x1
      · cases ht : kthere cur x0
        · have HAP := Aside0.mk (apStep_no (cur := cur) (x := ⟨x0, false, x2⟩) rfl ht)
          clear ht hkt
          generalize kpos cur x0 = kp at hkl ⊢
          go_wp2
          go_roundg (gk - 1)
          case measure => have := HQ.out; omega
          case rel => exact ⟨i + 1, _, rfl, by omega, ⟨by have := HQ.out; omega⟩, HS2, ⟨by have := HL.out; have := HAL.out; omega⟩, HAS, ⟨by rw [HAP.out]; exact Kd.R_mono HO6.out (fun _ _ => trivial)⟩, HB6⟩
        · have HAP := Aside0.mk (apStep_del (cur := cur) (x := ⟨x0, false, x2⟩) rfl ht)
          have hkl2 := hkt ht
          clear ht hkt
          change Aside0 (apStep cur ⟨x0, false, x2⟩ = cur.take (kpos cur x0) ++ cur.drop (kpos cur x0 + 1)) at HAP
          generalize kpos cur x0 = kp at hkl hkl2 HAP ⊢
          have hkb : kp ≤ 2000000 := by have := HL.out; omega
          have HDE := Aside0.mk (delete_calls cur w.heap.size kp _ w6 (Kd.R_mono HO6.out (fun _ _ => trivial)) (by have := HL.out; omega) hkl2)
          go_wp2_with (go_at_call 61; refine HDE.out.mono ?_; rintro r w7 ⟨v7, rfl, ho7, hb7⟩)
          go_roundg (gk - 1)
          case measure => have := HQ.out; omega
          case rel => exact ⟨i + 1, _, rfl, by omega, ⟨by have := HQ.out; omega⟩, HS2, ⟨by have := HL.out; have := HAL.out; omega⟩, HAS, ⟨by rw [HAP.out]; exact ho7⟩, ⟨HB6.out.trans hb7⟩⟩
      · cases ht : kthere cur x0
        · have HAP := Aside0.mk (apStep_ins (cur := cur) (x := ⟨x0, true, x2⟩) rfl ht)
          clear ht hkt
          change Aside0 (apStep cur ⟨x0, true, x2⟩ = cur.take (kpos cur x0) ++ ⟨x0, true, x2⟩ :: cur.drop (kpos cur x0)) at HAP
          generalize kpos cur x0 = kp at hkl HAP ⊢
          have HIN := Aside0.mk (insert_calls cur ⟨x0, true, x2⟩ w6.heap.size w.heap.size kp (.slice A cur.length c) (w6.alloc (.cells #[.string x0, .bool true, .string x2] 48)) (Kd.R_alloc (Kd.R_mono (Kd.R_bound HO6.out) (fun k hk => by have := hk.2.2.1; omega)) _) (heap_alloc_new _ _) (by have := below_size HB6.out; simp; omega) (by have := HL.out; omega) hkl)
          have HB6' := Aside0.mk (HB6.out.alloc (below_size HB6.out) (.cells #[.string x0, .bool true, .string x2] 48))
          go_wp2_with (go_at_call 60; refine HIN.out.mono ?_; rintro r w7 ⟨v7, rfl, ho7, hb7⟩)
          go_roundg (gk - 1)
          case measure => have := HQ.out; omega
          case rel => exact ⟨i + 1, _, rfl, by omega, ⟨by have := HQ.out; omega⟩, HS2, ⟨by have := HL.out; have := HAL.out; omega⟩, HAS, ⟨by rw [HAP.out]; exact ho7⟩, ⟨HB6'.out.trans hb7⟩⟩
        · have HAP := Aside0.mk (apStep_put (cur := cur) (x := ⟨x0, true, x2⟩) rfl ht)
          have hkl2 := hkt ht
          clear ht hkt
          change Aside0 (apStep cur ⟨x0, true, x2⟩ = cur.take (kpos cur x0) ++ ⟨x0, true, x2⟩ :: cur.drop (kpos cur x0 + 1)) at HAP
          generalize kpos cur x0 = kp at hkl hkl2 HAP ⊢
          rcases R_im HO6.out with ⟨hnil, _⟩ | ⟨g, cap, rest, hv, _, hg, hcl, hI⟩
          · subst hnil; simp at hkl2
          injection hv with e1 e2 e3
          subst e1; subst e3
          have hkb : kp ≤ 2000000 := by have := HL.out; omega
          have hcb : cur.length ≤ 2000000 := by have := HL.out; omega
          obtain ⟨y, hy⟩ : ∃ y, cur.drop kp = y :: cur.drop (kp + 1) := ⟨cur[kp], List.drop_eq_getElem_cons hkl2⟩
          have hlt3 : (cur.take kp).length = kp := by rw [List.length_take]; omega
          have e0 : flat cur ++ rest = flat (cur.take kp) ++ (cells3 y ++ (flat (cur.drop (kp + 1)) ++ rest)) := by
            have e : flat cur = flat (cur.take kp) ++ (cells3 y ++ flat (cur.drop (kp + 1))) := by rw [← flat_cons, ← hy, ← flat_append, List.take_append_drop]
            rw [e, List.append_assoc, List.append_assoc]
          have hcell : ∀ j u, (cells3 y)[j]? = some u → w6.cell? ⟨g, kp * 3 + j, none⟩ = some u := fun j u hj => hI.cell _ _ (by
            rw [e0, List.getElem?_append_right (by rw [flat_length, hlt3]; omega), flat_length, hlt3, Nat.add_sub_cancel_left, List.getElem?_append_left (List.getElem?_eq_some_iff.1 hj).1]; exact hj)
          have z0 : w6.cell? ⟨g, kp * 3, none⟩ = some (.string y.f0) := hcell 0 _ rfl
          have z1 := hcell 1 _ rfl
          have z2 := hcell 2 _ rfl
          have f0 := hI.frozen (kp * 3)
          have f1 := hI.frozen (kp * 3 + 1)
          have f2 := hI.frozen (kp * 3 + 2)
          have hI9 := hI.set3 (kp * 3) ⟨x0, true, x2⟩ (by rw [List.length_append, flat_length]; omega)
          have e9 : spliced (flat cur ++ rest) (kp * 3) (cells3 ⟨x0, true, x2⟩) = flat (cur.take kp ++ ⟨x0, true, x2⟩ :: cur.drop (kp + 1)) ++ rest := by
            have h1 := spliced_flat (cur.take kp) (cells3 y ++ (flat (cur.drop (kp + 1)) ++ rest)) (cells3 ⟨x0, true, x2⟩)
            rw [hlt3] at h1
            rw [e0, h1, show (cells3 (⟨x0, true, x2⟩ : S48)).length = (cells3 y).length from rfl, List.drop_left, flat_append, flat_cons]
            simp [List.append_assoc]
          rw [e9] at hI9
          have hln : (cur.take kp ++ ⟨x0, true, x2⟩ :: cur.drop (kp + 1)).length = cur.length := by simp; omega
          have HO9 := Aside0.mk (show Kd.R k48 48 (((w6.setCell ⟨g, kp * 3, none⟩ (.string x0)).setCell ⟨g, kp * 3 + 1, none⟩ (.bool true)).setCell ⟨g, kp * 3 + 2, none⟩ (.string x2)) w.heap.size (fun _ => True) (.slice (some ⟨g, 0, none⟩) cur.length c) (cur.take kp ++ ⟨x0, true, x2⟩ :: cur.drop (kp + 1)) by
            have := im_R (base := w.heap.size) (ok := fun _ => True) hI9 (by rw [hln]; exact hlc) hg trivial
            rwa [hln] at this)
          have HB9 := Aside0.mk (((HB6.out.setCell (p := ⟨g, kp * 3, none⟩) hg (.string x0)).setCell (p := ⟨g, kp * 3 + 1, none⟩) hg (.bool true)).setCell (p := ⟨g, kp * 3 + 2, none⟩) hg (.string x2))
          clear hcell hI e0 hy hI9 e9
          go_wp2
          go_roundg (gk - 1)
          case measure => have := HQ.out; omega
          case rel => exact ⟨i + 1, _, rfl, by omega, ⟨by have := HQ.out; omega⟩, HS2, ⟨by have := HL.out; have := HAL.out; omega⟩, HAS, ⟨by rw [HAP.out]; exact HO9.out⟩, HB9⟩
    · have hi : i = l1.length := by omega
      subst hi
      have HS' := Aside0.mk (show cur = l1.foldl apStep l0 by rw [← HS.out, List.drop_length]; rfl)
      clear HS
      obtain ⟨A, c, hv6, hlc, hC⟩ := Kd.R_reads HO.out
      subst hv6
      clear hC
      rw [← HS'.out] at HRR
      by_cases h5 : 500 < cur.length
      · obtain ⟨rfl, rfl⟩ := Prod.mk.inj (show (([] : List S48), (4 : Int)) = (r1, r2) by rw [← HRR.out, if_pos h5])
        clear HRR
        go_wp2
        go_ret2
        exact ⟨_, rfl, Kd.R_nil _ _ _ _ _, HB.out⟩
      · obtain ⟨rfl, rfl⟩ := Prod.mk.inj (show (cur, (0 : Int)) = (r1, r2) by rw [← HRR.out, if_neg h5])
        clear HRR
        go_wp2
        go_ret2
        exact ⟨_, rfl, HO.out, HB.out⟩
theorem journal_Apply.calls (A0 : Option Addr) (c0 : Nat) (l0 : List (S48)) (A1 : Option Addr) (c1 : Nat) (l1 : List (S48)) (r1 : List (S48)) (r2 : Int) (w : World) (hr0 : Kd.C k48 w A0 l0.length l0) (hc0 : l0.length ≤ c0) (hr1 : Kd.C k48 w A1 l1.length l1) (hc1 : l1.length ≤ c1) (h : journal_Apply.f l0 l1 = some (r1, r2)) :
    Calls Tryz.prog 42 #[.slice A0 l0.length c0, .slice A1 l1.length c1] w fun e w' => ∃ v0_ : Value, e = .returned (.tuple #[v0_, .int .i64 r2]) ∧ Kd.R k48 48 w' w.heap.size (fun _ => True) v0_ r1 ∧ Below w.heap.size w w' := by
  unfold journal_Apply.f at h
  by_cases hl : l1.length ≤ 900000
  · rw [if_pos hl] at h
    by_cases hv : ordV l0 = true ∧ l1.all img = true
    · rw [if_pos hv] at h
      refine apply_yes A0 c0 l0 A1 c1 l1 w hr0 hc0 hr1 hc1 hv.1 hv.2 hl r1 r2 (Option.some.inj ?_)
      rw [← h]
      split <;> rfl
    · rw [if_neg hv] at h
      obtain ⟨rfl, rfl⟩ := Prod.mk.inj (Option.some.inj h)
      exact (apply_no A0 c0 l0 A1 c1 l1 w hr0 hc0 hr1 hc1 hv).mono fun e w' ⟨h1, h2⟩ => ⟨_, h1, Kd.R_nil _ _ _ _ _, h2⟩
  · rw [if_neg hl] at h; cases h
end Go.Proofs.YteblpjnkinghoaaGreat.J
namespace Go.Proofs.YteblpjnkinghoaaGreat.J
open Go.RowKit Go.Proofs.YteblpjnkinghoaaGreatW.PrintWords Go.Proofs.YteblpjnkinghoaaGreatW.PrintLast Go.Proofs.YteblpjnkinghoaaGreatW.PrintMore
attribute [local go_sem] max2_int min2_int max_two min_two max_three min_three max_four min_four   -- for this text's walks alone
set_option linter.unusedVariables false
set_option linter.unusedSimpArgs false
/-! ### journal_State: function 23 -/
def journal_State.f (l0 : List (S48)) (l1 : List (S43)) : Option ((List (S48)) × Int) := (journal_ordered.f l0).bind fun t177 => (if t177 = true then ((journal_Redo.f l1 0).bind fun bt178 => (if bt178.2 = 0 then ((journal_Apply.f l0 bt178.1).bind fun bt182 => (some (bt182.1, bt182.2))) else (some (([] : List (S48)), bt178.2)))) else (some (([] : List (S48)), 1)))
set_option maxHeartbeats 8000000 in
set_option maxRecDepth 100000 in
theorem journal_State.calls (A0 : Option Addr) (c0 : Nat) (l0 : List (S48)) (A1 : Option Addr) (c1 : Nat) (l1 : List (S43)) (r1 : List (S48)) (r2 : Int) (w : World) (hr0 : Kd.C k48 w A0 l0.length l0) (hc0 : l0.length ≤ c0) (hr1 : Kd.C k43 w A1 l1.length l1) (hc1 : l1.length ≤ c1) (h : journal_State.f l0 l1 = some (r1, r2)) :
    Calls Tryz.prog 23 #[.slice A0 l0.length c0, .slice A1 l1.length c1] w fun e w' => ∃ v0_ : Value, e = .returned (.tuple #[v0_, .int .i64 r2]) ∧ Kd.R k48 48 w' w.heap.size (fun _ => True) v0_ r1 ∧ Below w.heap.size w w' := by
  have HR0 := Aside0.mk hr0
  have HC0 := Aside0.mk hc0
  clear hr0 hc0
  have HR1 := Aside0.mk hr1
  have HC1 := Aside0.mk hc1
  clear hr1 hc1
  have HB := Aside0.mk (Below.refl w.heap.size w)
  have H : ((journal_ordered.f l0).bind fun t177 => (if t177 = true then ((journal_Redo.f l1 0).bind fun bt178 => (if bt178.2 = 0 then ((journal_Apply.f l0 bt178.1).bind fun bt182 => (some (bt182.1, bt182.2))) else (some (([] : List (S48)), bt178.2)))) else (some (([] : List (S48)), 1)))) = some (r1, r2) := h
  clear h
  replace H := Option.bind_eq_some_iff.mp H
  obtain ⟨t177, A30, H⟩ := H
  replace H : (if t177 = true then ((journal_Redo.f l1 0).bind fun bt178 => (if bt178.2 = 0 then ((journal_Apply.f l0 bt178.1).bind fun bt182 => (some (bt182.1, bt182.2))) else (some (([] : List (S48)), bt178.2)))) else (some (([] : List (S48)), 1))) = some (r1, r2) := H
  have A3 := Aside0.mk A30
  clear A30
  by_cases c4 : t177 = true
  · subst c4
    have H1 : ((journal_Redo.f l1 0).bind fun bt178 => (if bt178.2 = 0 then ((journal_Apply.f l0 bt178.1).bind fun bt182 => (some (bt182.1, bt182.2))) else (some (([] : List (S48)), bt178.2)))) = some (r1, r2) := by rw [if_pos rfl] at H; exact H
    clear H
    have H := H1
    clear H1
    replace H := Option.bind_eq_some_iff.mp H
    obtain ⟨⟨t178, t179⟩, A50, H⟩ := H
    replace H : (if t179 = 0 then ((journal_Apply.f l0 t178).bind fun bt182 => (some (bt182.1, bt182.2))) else (some (([] : List (S48)), t179))) = some (r1, r2) := H
    have A5 := Aside0.mk A50
    clear A50
    by_cases c6 : t179 = 0
    · rw [if_pos c6] at H
      have c6b0 : (t179 == 0) = true := beq_iff_eq.mpr c6
      have c6b1 : (t179 != 0) = false := bne_eq_false_iff_eq.mpr c6
      clear c6
      replace H := Option.bind_eq_some_iff.mp H
      obtain ⟨⟨t182, t183⟩, A70, H⟩ := H
      replace H : (some (t182, t183)) = some (r1, r2) := H
      have A7 := Aside0.mk A70
      clear A70
      simp only [Option.some.injEq, Prod.mk.injEq] at H
      obtain ⟨rfl, rfl⟩ := H
      go_enter Tryz.func23, Tryz.ntmps23
      go_wp2_with (first | ((with_reducible refine gate_callee (f := 40) rfl ?_); refine goesL_ (some 9) rfl rfl Tryz.func40 (by kernel_rfl) rfl #[.slice A0 l0.length c0] rfl (by (try simp only [List.map_toArray, List.map_cons, List.map_nil]); first | done | rfl | (simp only [List.length_drop, List.length_take]; rfl)) ?_; (with_reducible refine (journal_ordered.calls _ _ l0 true _ ?side1 ?side2 A3.out).mono ?_); (case side1 => repeat (first | exact HR0.out | (with_reducible refine Kd.C_alloc ?_ _) | (with_reducible refine Kd.C_drewN ?_ _) | (with_reducible refine Kd.C_drew ?_))); (case side2 => exact HC0.out); rintro e w8 ⟨rfl, hb⟩; refine ⟨_, rfl, ?_⟩; have n0_ := Aside0.mk (below_step (by repeat (first | (with_reducible first | exact HB.out | apply below_alloc | apply pw_below_drewN | apply below_drew1) | exact HB.out)) hb); clear HB; have HB := n0_; clear n0_; (try clear hb); (try clear hb2); (try clear hk); (try clear hi)) | ((with_reducible refine gate_callee (f := 41) rfl ?_); refine goesL_ (some 13) rfl rfl Tryz.func41 (by kernel_rfl) rfl #[.slice A1 l1.length c1, .int .i64 0] rfl (by (try simp only [List.map_toArray, List.map_cons, List.map_nil]); first | done | rfl | (simp only [List.length_drop, List.length_take]; rfl)) ?_; (with_reducible refine (journal_Redo.calls _ _ l1 0 t178 t179 _ ?side1 ?side2 A5.out).mono ?_); (case side1 => repeat (first | exact (Kd.C_below HR1.out HB.out) | (with_reducible refine Kd.C_alloc ?_ _) | (with_reducible refine Kd.C_drewN ?_ _) | (with_reducible refine Kd.C_drew ?_))); (case side2 => exact HC1.out); rintro e w9 ⟨v180, rfl, ho0, hb⟩; refine ⟨_, rfl, ?_⟩; have n0_ := Aside0.mk (Kd.R_lower ho0 (below_size (by repeat (first | (with_reducible first | exact HB.out | apply below_alloc | apply pw_below_drewN | apply below_drew1) | exact HB.out)))); have n1_ := Aside0.mk (below_step (by repeat (first | (with_reducible first | exact HB.out | apply below_alloc | apply pw_below_drewN | apply below_drew1) | exact HB.out)) hb); clear HB; have HO181 := n0_; have HB := n1_; clear n0_ n1_; (try clear hb); (try clear hb2); (try clear hk); (try clear hi); (try clear ho0); obtain ⟨Ao10, co10, eo10⟩ := Kd.R_slice HO181.out; subst eo10) | ((with_reducible refine gate_callee (f := 42) rfl ?_); refine goesL_ (some 21) rfl rfl Tryz.func42 (by kernel_rfl) rfl #[.slice A0 l0.length c0, .slice Ao10 t178.length co10] rfl (by (try simp only [List.map_toArray, List.map_cons, List.map_nil]); first | done | rfl | (simp only [List.length_drop, List.length_take]; rfl)) ?_; (with_reducible refine (journal_Apply.calls _ _ l0 _ _ t178 t182 t183 _ ?side1 ?side2 ?side3 ?side4 A7.out).mono ?_); (case side1 => repeat (first | exact (Kd.C_below HR0.out HB.out) | (with_reducible refine Kd.C_alloc ?_ _) | (with_reducible refine Kd.C_drewN ?_ _) | (with_reducible refine Kd.C_drew ?_))); (case side2 => exact HC0.out); (case side3 => repeat (first | exact (Kd.R_reads' HO181.out).2.2 | (with_reducible refine Kd.C_alloc ?_ _) | (with_reducible refine Kd.C_drewN ?_ _) | (with_reducible refine Kd.C_drew ?_))); (case side4 => exact (Kd.R_reads' HO181.out).2.1); rintro e w11 ⟨v184, rfl, ho0, hb⟩; refine ⟨_, rfl, ?_⟩; have n0_ := Aside0.mk (Kd.R_elder' (by (with_reducible repeat (first | apply Kd.R_alloc | apply Kd.R_drewN | apply Kd.R_drew)); exact HO181.out) (Kd.R_base ho0) hb); have n1_ := Aside0.mk (Kd.R_lower (Kd.R_new' ho0 (Kd.R_lt (by (with_reducible repeat (first | apply Kd.R_alloc | apply Kd.R_drewN | apply Kd.R_drew)); exact HO181.out))) (below_size (by repeat (first | (with_reducible first | exact HB.out | apply below_alloc | apply pw_below_drewN | apply below_drew1) | exact HB.out)))); have n2_ := Aside0.mk (below_step (by repeat (first | (with_reducible first | exact HB.out | apply below_alloc | apply pw_below_drewN | apply below_drew1) | exact HB.out)) hb); clear HO181; clear HB; have HO181 := n0_; have HO185 := n1_; have HB := n2_; clear n0_ n1_ n2_; (try clear hb); (try clear hb2); (try clear hk); (try clear hi); (try clear ho0)))
      go_ret2
      exact ⟨_, by first | rfl | (simp [errW_none, errW_some] <;> rfl) | (simp [*, errW_none, errW_some] <;> rfl), by (with_reducible repeat (first | apply Kd.R_alloc | apply Kd.R_drewN | apply Kd.R_drew)); exact Kd.R_mono HO185.out (fun _ hk => trivial), by repeat (first | (with_reducible first | exact HB.out | apply below_alloc | apply pw_below_drewN | apply below_drew1) | exact HB.out)⟩
    · rw [if_neg c6] at H
      have c6b0 : (t179 == 0) = false := beq_eq_false_iff_ne.mpr c6
      have c6b1 : (t179 != 0) = true := bne_iff_ne.mpr c6
      simp only [Option.some.injEq, Prod.mk.injEq] at H
      obtain ⟨rfl, rfl⟩ := H
      go_enter Tryz.func23, Tryz.ntmps23
      go_wp2_with (first | ((with_reducible refine gate_callee (f := 40) rfl ?_); refine goesL_ (some 9) rfl rfl Tryz.func40 (by kernel_rfl) rfl #[.slice A0 l0.length c0] rfl (by (try simp only [List.map_toArray, List.map_cons, List.map_nil]); first | done | rfl | (simp only [List.length_drop, List.length_take]; rfl)) ?_; (with_reducible refine (journal_ordered.calls _ _ l0 true _ ?side1 ?side2 A3.out).mono ?_); (case side1 => repeat (first | exact HR0.out | (with_reducible refine Kd.C_alloc ?_ _) | (with_reducible refine Kd.C_drewN ?_ _) | (with_reducible refine Kd.C_drew ?_))); (case side2 => exact HC0.out); rintro e w12 ⟨rfl, hb⟩; refine ⟨_, rfl, ?_⟩; have n0_ := Aside0.mk (below_step (by repeat (first | (with_reducible first | exact HB.out | apply below_alloc | apply pw_below_drewN | apply below_drew1) | exact HB.out)) hb); clear HB; have HB := n0_; clear n0_; (try clear hb); (try clear hb2); (try clear hk); (try clear hi)) | ((with_reducible refine gate_callee (f := 41) rfl ?_); refine goesL_ (some 13) rfl rfl Tryz.func41 (by kernel_rfl) rfl #[.slice A1 l1.length c1, .int .i64 0] rfl (by (try simp only [List.map_toArray, List.map_cons, List.map_nil]); first | done | rfl | (simp only [List.length_drop, List.length_take]; rfl)) ?_; (with_reducible refine (journal_Redo.calls _ _ l1 0 t178 t179 _ ?side1 ?side2 A5.out).mono ?_); (case side1 => repeat (first | exact (Kd.C_below HR1.out HB.out) | (with_reducible refine Kd.C_alloc ?_ _) | (with_reducible refine Kd.C_drewN ?_ _) | (with_reducible refine Kd.C_drew ?_))); (case side2 => exact HC1.out); rintro e w13 ⟨v180, rfl, ho0, hb⟩; refine ⟨_, rfl, ?_⟩; have n0_ := Aside0.mk (Kd.R_lower ho0 (below_size (by repeat (first | (with_reducible first | exact HB.out | apply below_alloc | apply pw_below_drewN | apply below_drew1) | exact HB.out)))); have n1_ := Aside0.mk (below_step (by repeat (first | (with_reducible first | exact HB.out | apply below_alloc | apply pw_below_drewN | apply below_drew1) | exact HB.out)) hb); clear HB; have HO181 := n0_; have HB := n1_; clear n0_ n1_; (try clear hb); (try clear hb2); (try clear hk); (try clear hi); (try clear ho0)))
      go_ret2
      exact ⟨_, by first | rfl | (simp [errW_none, errW_some] <;> rfl) | (simp [*, errW_none, errW_some] <;> rfl), by first | exact Kd.R_nil _ _ _ _ _ | exact Kd.N_nil _ _ _ _ _ | exact Kd.V_nil _ _ _ _ _ | exact Kd.Q_nil _ _ _ _ _ | exact Kd.S_nil _ _ _ _ _, by repeat (first | (with_reducible first | exact HB.out | apply below_alloc | apply pw_below_drewN | apply below_drew1) | exact HB.out)⟩
  · replace c4 := Bool.eq_false_iff.mpr c4
    subst c4
    have H1 : (some (([] : List (S48)), 1)) = some (r1, r2) := by rw [if_neg (show ¬ (false = true) by decide)] at H; exact H
    clear H
    have H := H1
    clear H1
    simp only [Option.some.injEq, Prod.mk.injEq] at H
    obtain ⟨rfl, rfl⟩ := H
    go_enter Tryz.func23, Tryz.ntmps23
    go_wp2_with (first | ((with_reducible refine gate_callee (f := 40) rfl ?_); refine goesL_ (some 9) rfl rfl Tryz.func40 (by kernel_rfl) rfl #[.slice A0 l0.length c0] rfl (by (try simp only [List.map_toArray, List.map_cons, List.map_nil]); first | done | rfl | (simp only [List.length_drop, List.length_take]; rfl)) ?_; (with_reducible refine (journal_ordered.calls _ _ l0 false _ ?side1 ?side2 A3.out).mono ?_); (case side1 => repeat (first | exact HR0.out | (with_reducible refine Kd.C_alloc ?_ _) | (with_reducible refine Kd.C_drewN ?_ _) | (with_reducible refine Kd.C_drew ?_))); (case side2 => exact HC0.out); rintro e w14 ⟨rfl, hb⟩; refine ⟨_, rfl, ?_⟩; have n0_ := Aside0.mk (below_step (by repeat (first | (with_reducible first | exact HB.out | apply below_alloc | apply pw_below_drewN | apply below_drew1) | exact HB.out)) hb); clear HB; have HB := n0_; clear n0_; (try clear hb); (try clear hb2); (try clear hk); (try clear hi)))
    go_ret2
    exact ⟨_, by first | rfl | (simp [errW_none, errW_some] <;> rfl) | (simp [*, errW_none, errW_some] <;> rfl), by first | exact Kd.R_nil _ _ _ _ _ | exact Kd.N_nil _ _ _ _ _ | exact Kd.V_nil _ _ _ _ _ | exact Kd.Q_nil _ _ _ _ _ | exact Kd.S_nil _ _ _ _ _, by repeat (first | (with_reducible first | exact HB.out | apply below_alloc | apply pw_below_drewN | apply below_drew1) | exact HB.out)⟩

/-! ### ringworklaw25_awake: function 5 -/
def ringworklaw25_awake.f  : Option (Bool) := (journal_State.f ([] : List (S48)) (([(⟨1, 1, (⟨#[]⟩ : ByteArray), false, (⟨#[]⟩ : ByteArray)⟩ : S43), (⟨2, 1, (⟨#[120]⟩ : ByteArray), false, (⟨#[]⟩ : ByteArray)⟩ : S43), (⟨3, 1, (⟨#[120]⟩ : ByteArray), true, (⟨#[97]⟩ : ByteArray)⟩ : S43), (⟨5, 1, (⟨#[]⟩ : ByteArray), false, (⟨#[]⟩ : ByteArray)⟩ : S43)] : List (S43)))).bind fun bt189 => (if bt189.2 = 0 then (if (bt189.1.length : Int) = 1 then (if 0 < (bt189.1.length : Int) then (if ((rd_T48 bt189.1 0).f0).toList = ([120] : List UInt8) then (some (((rd_T48 bt189.1 0).f2).toList == ([97] : List UInt8))) else (some false)) else (none)) else (some false)) else (some false))
set_option maxHeartbeats 8000000 in
set_option maxRecDepth 100000 in
theorem ringworklaw25_awake.calls  (r : Bool) (w : World) (h : ringworklaw25_awake.f  = some r) :
    Calls Tryz.prog 5 #[] w fun e w' => e = .returned (.bool r) ∧ Below w.heap.size w w' := by
  have hu43 := Tryz.underlying43
  have HB := Aside0.mk (Below.refl w.heap.size w)
  have H : ((journal_State.f ([] : List (S48)) (([(⟨1, 1, (⟨#[]⟩ : ByteArray), false, (⟨#[]⟩ : ByteArray)⟩ : S43), (⟨2, 1, (⟨#[120]⟩ : ByteArray), false, (⟨#[]⟩ : ByteArray)⟩ : S43), (⟨3, 1, (⟨#[120]⟩ : ByteArray), true, (⟨#[97]⟩ : ByteArray)⟩ : S43), (⟨5, 1, (⟨#[]⟩ : ByteArray), false, (⟨#[]⟩ : ByteArray)⟩ : S43)] : List (S43)))).bind fun bt189 => (if bt189.2 = 0 then (if (bt189.1.length : Int) = 1 then (if 0 < (bt189.1.length : Int) then (if ((rd_T48 bt189.1 0).f0).toList = ([120] : List UInt8) then (some (((rd_T48 bt189.1 0).f2).toList == ([97] : List UInt8))) else (some false)) else (none)) else (some false)) else (some false))) = some r := h
  clear h
  obtain ⟨y186, hy186⟩ : ∃ y_ : List (S43), y_ = (([(⟨1, 1, (⟨#[]⟩ : ByteArray), false, (⟨#[]⟩ : ByteArray)⟩ : S43), (⟨2, 1, (⟨#[120]⟩ : ByteArray), false, (⟨#[]⟩ : ByteArray)⟩ : S43), (⟨3, 1, (⟨#[120]⟩ : ByteArray), true, (⟨#[97]⟩ : ByteArray)⟩ : S43), (⟨5, 1, (⟨#[]⟩ : ByteArray), false, (⟨#[]⟩ : ByteArray)⟩ : S43)] : List (S43))) := ⟨_, rfl⟩
  replace H : ((journal_State.f ([] : List (S48)) y186).bind fun bt189 => (if bt189.2 = 0 then (if (bt189.1.length : Int) = 1 then (if 0 < (bt189.1.length : Int) then (if ((rd_T48 bt189.1 0).f0).toList = ([120] : List UInt8) then (some (((rd_T48 bt189.1 0).f2).toList == ([97] : List UInt8))) else (some false)) else (none)) else (some false)) else (some false))) = some r := by first | (rw [hy186]; with_reducible exact H) | (have H2_ := (Option.bind_some _ _).symm.trans H; rw [hy186]; with_reducible exact H2_) | (have H2_ := (Option.bind_some _ _).symm.trans H; with_reducible exact H2_) | with_reducible exact H | (rw [hy186]; exact H) | exact H
  have Ny186 := Aside0.mk hy186
  clear hy186
  replace H := Option.bind_eq_some_iff.mp H
  obtain ⟨⟨t189, t190⟩, A10, H⟩ := H
  replace H : (if t190 = 0 then (if (t189.length : Int) = 1 then (if 0 < (t189.length : Int) then (if ((rd_T48 t189 0).f0).toList = ([120] : List UInt8) then (some (((rd_T48 t189 0).f2).toList == ([97] : List UInt8))) else (some false)) else (none)) else (some false)) else (some false)) = some r := H
  have A1 := Aside0.mk A10
  clear A10
  by_cases c2 : t190 = 0
  · rw [if_pos c2] at H
    have c2b0 : (t190 == 0) = true := beq_iff_eq.mpr c2
    have c2b1 : (t190 != 0) = false := bne_eq_false_iff_eq.mpr c2
    clear c2
    by_cases c3 : (t189.length : Int) = 1
    · rw [if_pos c3] at H
      have c3b0 : ((t189.length : Int) == 1) = true := beq_iff_eq.mpr c3
      have c3b1 : ((t189.length : Int) != 1) = false := bne_eq_false_iff_eq.mpr c3
      clear c3
      by_cases c4 : 0 < (t189.length : Int)
      · rw [if_pos c4] at H
        have c4b0 : decide (0 < (t189.length : Int)) = true := decide_eq_true c4
        have c4b1 : decide (0 < t189.length) = true := decide_eq_true (by omega)
        clear c4
        by_cases c5 : ((rd_T48 t189 0).f0).toList = ([120] : List UInt8)
        · rw [if_pos c5] at H
          have c5b0 : (((rd_T48 t189 0).f0).toList == ([120] : List UInt8)) = true := beq_iff_eq.mpr c5
          have c5b1 : (((rd_T48 t189 0).f0).toList != ([120] : List UInt8)) = false := bne_eq_false_iff_eq.mpr c5
          clear c5
          obtain rfl := Option.some.inj H
          go_enter Tryz.func5, Tryz.ntmps5
          go_wp2_with (first | ((with_reducible refine gate_dst (N := 8) rfl ?_); (try (refine gate_guard (by rfl) ?_; dsimp only)); refine Kd.R_lit k43 _ 43 ?hg (N := 8) ?hd (xs := ([(⟨1, 1, (⟨#[]⟩ : ByteArray), false, (⟨#[]⟩ : ByteArray)⟩ : S43), (⟨2, 1, (⟨#[120]⟩ : ByteArray), false, (⟨#[]⟩ : ByteArray)⟩ : S43), (⟨3, 1, (⟨#[120]⟩ : ByteArray), true, (⟨#[97]⟩ : ByteArray)⟩ : S43), (⟨5, 1, (⟨#[]⟩ : ByteArray), false, (⟨#[]⟩ : ByteArray)⟩ : S43)] : List (S43))) (inner := [.int .i64 1, .int .i64 1, .string (⟨#[]⟩ : ByteArray), .bool false, .string (⟨#[]⟩ : ByteArray), .int .i64 2, .int .i64 1, .string (⟨#[120]⟩ : ByteArray), .bool false, .string (⟨#[]⟩ : ByteArray), .int .i64 3, .int .i64 1, .string (⟨#[120]⟩ : ByteArray), .bool true, .string (⟨#[97]⟩ : ByteArray), .int .i64 5, .int .i64 1, .string (⟨#[]⟩ : ByteArray), .bool false, .string (⟨#[]⟩ : ByteArray)]) (ok := fun _ => True) (okp := fun _ => True) ?hr ?hp (fun _ hk => hk) trivial (Below.refl _ _) (Nat.le_refl _) (by simp) ?_; (case hd => rfl); (case hg => rfl); (case hr => first | (go_simp; done) | (go_simp; rfl)); (case hp => exact (Reps.c5 (show Kd.M k43 _ _ _ (⟨1, 1, (⟨#[]⟩ : ByteArray), false, (⟨#[]⟩ : ByteArray)⟩ : S43) [.int .i64 1, .int .i64 1, .string (⟨#[]⟩ : ByteArray), .bool false, .string (⟨#[]⟩ : ByteArray)] from (k43_mkM _ _ _ (⟨1, 1, (⟨#[]⟩ : ByteArray), false, (⟨#[]⟩ : ByteArray)⟩ : S43) )) (Reps.c5 (show Kd.M k43 _ _ _ (⟨2, 1, (⟨#[120]⟩ : ByteArray), false, (⟨#[]⟩ : ByteArray)⟩ : S43) [.int .i64 2, .int .i64 1, .string (⟨#[120]⟩ : ByteArray), .bool false, .string (⟨#[]⟩ : ByteArray)] from (k43_mkM _ _ _ (⟨2, 1, (⟨#[120]⟩ : ByteArray), false, (⟨#[]⟩ : ByteArray)⟩ : S43) )) (Reps.c5 (show Kd.M k43 _ _ _ (⟨3, 1, (⟨#[120]⟩ : ByteArray), true, (⟨#[97]⟩ : ByteArray)⟩ : S43) [.int .i64 3, .int .i64 1, .string (⟨#[120]⟩ : ByteArray), .bool true, .string (⟨#[97]⟩ : ByteArray)] from (k43_mkM _ _ _ (⟨3, 1, (⟨#[120]⟩ : ByteArray), true, (⟨#[97]⟩ : ByteArray)⟩ : S43) )) (Reps.c5 (show Kd.M k43 _ _ _ (⟨5, 1, (⟨#[]⟩ : ByteArray), false, (⟨#[]⟩ : ByteArray)⟩ : S43) [.int .i64 5, .int .i64 1, .string (⟨#[]⟩ : ByteArray), .bool false, .string (⟨#[]⟩ : ByteArray)] from (k43_mkM _ _ _ (⟨5, 1, (⟨#[]⟩ : ByteArray), false, (⟨#[]⟩ : ByteArray)⟩ : S43) )) (Reps.none _ _)))))); intro v187 w6 ho7 hb hg_ hnew_; clear hg_ hnew_; (first | rw [← Ny186.out] at ho7 | (simp only [Int.reduceToNat] at ho7; rw [← Ny186.out] at ho7)); have n0_ := Aside0.mk (Kd.R_lower ho7 (below_size (by repeat (first | (with_reducible first | exact HB.out | apply below_alloc | apply pw_below_drewN | apply below_drew1) | exact HB.out)))); have n1_ := Aside0.mk (below_step (by repeat (first | (with_reducible first | exact HB.out | apply below_alloc | apply pw_below_drewN | apply below_drew1) | exact HB.out)) hb); clear HB; have HO188 := n0_; have HB := n1_; clear n0_ n1_; clear hb ho7; obtain ⟨Ao8, co8, eo8⟩ := Kd.R_slice HO188.out; subst eo8) | ((with_reducible refine gate_callee (f := 23) rfl ?_); refine goesL_ (some 9) rfl rfl Tryz.func23 (by kernel_rfl) rfl #[.slice none 0 0, .slice Ao8 y186.length co8] rfl (by (try simp only [List.map_toArray, List.map_cons, List.map_nil]); first | done | rfl | (simp only [List.length_drop, List.length_take]; rfl)) ?_; (refine (journal_State.calls _ _ ([] : List (S48)) _ _ y186 t189 t190 _ ?side1 ?side2 ?side3 ?side4 A1.out).mono ?_); (case side1 => exact Kd.C_nil _ _); (case side2 => exact Nat.le_refl _); (case side3 => repeat (first | exact (Kd.R_reads' HO188.out).2.2 | (with_reducible refine Kd.C_alloc ?_ _) | (with_reducible refine Kd.C_drewN ?_ _) | (with_reducible refine Kd.C_drew ?_))); (case side4 => exact (Kd.R_reads' HO188.out).2.1); rintro e w9 ⟨v191, rfl, ho0, hb⟩; refine ⟨_, rfl, ?_⟩; have n0_ := Aside0.mk (Kd.R_below (by (with_reducible repeat (first | apply Kd.R_alloc | apply Kd.R_drewN | apply Kd.R_drew)); exact HO188.out) hb); have n1_ := Aside0.mk (Kd.R_lower ho0 (below_size (by repeat (first | (with_reducible first | exact HB.out | apply below_alloc | apply pw_below_drewN | apply below_drew1) | exact HB.out)))); have n2_ := Aside0.mk (below_step (by repeat (first | (with_reducible first | exact HB.out | apply below_alloc | apply pw_below_drewN | apply below_drew1) | exact HB.out)) hb); clear HO188; clear HB; have HO188 := n0_; have HO192 := n1_; have HB := n2_; clear n0_ n1_ n2_; (try clear hb); (try clear hb2); (try clear hk); (try clear hi); (try clear ho0); obtain ⟨Ao10, co10, eo10⟩ := Kd.R_slice HO192.out; subst eo10; have p193 : 0 ≤ (0 : Int) := (by omega); have q193 : 0 < (t189.length : Int) := of_decide_eq_true (by first | (with_reducible assumption) | assumption); obtain ⟨ad193, e193, hx193_0, hx193_1, hx193_2⟩ := at_T48 (Kd.R_reads' HO192.out).2.2 0 p193 q193; cases e193; have qi193 : (0 < t189.length) = True := eq_true (by omega); (try rw [show ((0 : Int)).toNat = 0 from rfl] at hx193_0); (try rw [show 0 * 3 = 0 from rfl] at hx193_0); (try rw [Addr.add_zero'] at hx193_0); (try rw [show ((0 : Int)).toNat = 0 from rfl] at hx193_1); (try rw [show 0 * 3 = 0 from rfl] at hx193_1); (try rw [Addr.add_zero'] at hx193_1); (try rw [show ((0 : Int)).toNat = 0 from rfl] at hx193_2); (try rw [show 0 * 3 = 0 from rfl] at hx193_2); (try rw [Addr.add_zero'] at hx193_2); replace p193 := eq_true p193; replace q193 := eq_true q193; have p194 : 0 ≤ (0 : Int) := (by omega); have q194 : 0 < (t189.length : Int) := of_decide_eq_true (by first | (with_reducible assumption) | assumption); obtain ⟨ad194, e194, hx194_0, hx194_1, hx194_2⟩ := at_T48 (Kd.R_reads' HO192.out).2.2 0 p194 q194; obtain rfl : ad193 = ad194 := (by injection e194); have qi194 : (0 < t189.length) = True := eq_true (by omega); (try rw [show ((0 : Int)).toNat = 0 from rfl] at hx194_0); (try rw [show 0 * 3 = 0 from rfl] at hx194_0); (try rw [Addr.add_zero'] at hx194_0); (try rw [show ((0 : Int)).toNat = 0 from rfl] at hx194_1); (try rw [show 0 * 3 = 0 from rfl] at hx194_1); (try rw [Addr.add_zero'] at hx194_1); (try rw [show ((0 : Int)).toNat = 0 from rfl] at hx194_2); (try rw [show 0 * 3 = 0 from rfl] at hx194_2); (try rw [Addr.add_zero'] at hx194_2); replace p194 := eq_true p194; replace q194 := eq_true q194))
          go_ret
          exact ⟨by first | rfl | (simp [errW_none, errW_some] <;> rfl) | (simp [*, errW_none, errW_some] <;> rfl), by repeat (first | (with_reducible first | exact HB.out | apply below_alloc | apply pw_below_drewN | apply below_drew1) | exact HB.out)⟩
        · rw [if_neg c5] at H
          have c5b0 : (((rd_T48 t189 0).f0).toList == ([120] : List UInt8)) = false := beq_eq_false_iff_ne.mpr c5
          have c5b1 : (((rd_T48 t189 0).f0).toList != ([120] : List UInt8)) = true := bne_iff_ne.mpr c5
          obtain rfl := Option.some.inj H
          go_enter Tryz.func5, Tryz.ntmps5
          go_wp2_with (first | ((with_reducible refine gate_dst (N := 8) rfl ?_); (try (refine gate_guard (by rfl) ?_; dsimp only)); refine Kd.R_lit k43 _ 43 ?hg (N := 8) ?hd (xs := ([(⟨1, 1, (⟨#[]⟩ : ByteArray), false, (⟨#[]⟩ : ByteArray)⟩ : S43), (⟨2, 1, (⟨#[120]⟩ : ByteArray), false, (⟨#[]⟩ : ByteArray)⟩ : S43), (⟨3, 1, (⟨#[120]⟩ : ByteArray), true, (⟨#[97]⟩ : ByteArray)⟩ : S43), (⟨5, 1, (⟨#[]⟩ : ByteArray), false, (⟨#[]⟩ : ByteArray)⟩ : S43)] : List (S43))) (inner := [.int .i64 1, .int .i64 1, .string (⟨#[]⟩ : ByteArray), .bool false, .string (⟨#[]⟩ : ByteArray), .int .i64 2, .int .i64 1, .string (⟨#[120]⟩ : ByteArray), .bool false, .string (⟨#[]⟩ : ByteArray), .int .i64 3, .int .i64 1, .string (⟨#[120]⟩ : ByteArray), .bool true, .string (⟨#[97]⟩ : ByteArray), .int .i64 5, .int .i64 1, .string (⟨#[]⟩ : ByteArray), .bool false, .string (⟨#[]⟩ : ByteArray)]) (ok := fun _ => True) (okp := fun _ => True) ?hr ?hp (fun _ hk => hk) trivial (Below.refl _ _) (Nat.le_refl _) (by simp) ?_; (case hd => rfl); (case hg => rfl); (case hr => first | (go_simp; done) | (go_simp; rfl)); (case hp => exact (Reps.c5 (show Kd.M k43 _ _ _ (⟨1, 1, (⟨#[]⟩ : ByteArray), false, (⟨#[]⟩ : ByteArray)⟩ : S43) [.int .i64 1, .int .i64 1, .string (⟨#[]⟩ : ByteArray), .bool false, .string (⟨#[]⟩ : ByteArray)] from (k43_mkM _ _ _ (⟨1, 1, (⟨#[]⟩ : ByteArray), false, (⟨#[]⟩ : ByteArray)⟩ : S43) )) (Reps.c5 (show Kd.M k43 _ _ _ (⟨2, 1, (⟨#[120]⟩ : ByteArray), false, (⟨#[]⟩ : ByteArray)⟩ : S43) [.int .i64 2, .int .i64 1, .string (⟨#[120]⟩ : ByteArray), .bool false, .string (⟨#[]⟩ : ByteArray)] from (k43_mkM _ _ _ (⟨2, 1, (⟨#[120]⟩ : ByteArray), false, (⟨#[]⟩ : ByteArray)⟩ : S43) )) (Reps.c5 (show Kd.M k43 _ _ _ (⟨3, 1, (⟨#[120]⟩ : ByteArray), true, (⟨#[97]⟩ : ByteArray)⟩ : S43) [.int .i64 3, .int .i64 1, .string (⟨#[120]⟩ : ByteArray), .bool true, .string (⟨#[97]⟩ : ByteArray)] from (k43_mkM _ _ _ (⟨3, 1, (⟨#[120]⟩ : ByteArray), true, (⟨#[97]⟩ : ByteArray)⟩ : S43) )) (Reps.c5 (show Kd.M k43 _ _ _ (⟨5, 1, (⟨#[]⟩ : ByteArray), false, (⟨#[]⟩ : ByteArray)⟩ : S43) [.int .i64 5, .int .i64 1, .string (⟨#[]⟩ : ByteArray), .bool false, .string (⟨#[]⟩ : ByteArray)] from (k43_mkM _ _ _ (⟨5, 1, (⟨#[]⟩ : ByteArray), false, (⟨#[]⟩ : ByteArray)⟩ : S43) )) (Reps.none _ _)))))); intro v187 w11 ho12 hb hg_ hnew_; clear hg_ hnew_; (first | rw [← Ny186.out] at ho12 | (simp only [Int.reduceToNat] at ho12; rw [← Ny186.out] at ho12)); have n0_ := Aside0.mk (Kd.R_lower ho12 (below_size (by repeat (first | (with_reducible first | exact HB.out | apply below_alloc | apply pw_below_drewN | apply below_drew1) | exact HB.out)))); have n1_ := Aside0.mk (below_step (by repeat (first | (with_reducible first | exact HB.out | apply below_alloc | apply pw_below_drewN | apply below_drew1) | exact HB.out)) hb); clear HB; have HO188 := n0_; have HB := n1_; clear n0_ n1_; clear hb ho12; obtain ⟨Ao13, co13, eo13⟩ := Kd.R_slice HO188.out; subst eo13) | ((with_reducible refine gate_callee (f := 23) rfl ?_); refine goesL_ (some 9) rfl rfl Tryz.func23 (by kernel_rfl) rfl #[.slice none 0 0, .slice Ao13 y186.length co13] rfl (by (try simp only [List.map_toArray, List.map_cons, List.map_nil]); first | done | rfl | (simp only [List.length_drop, List.length_take]; rfl)) ?_; (refine (journal_State.calls _ _ ([] : List (S48)) _ _ y186 t189 t190 _ ?side1 ?side2 ?side3 ?side4 A1.out).mono ?_); (case side1 => exact Kd.C_nil _ _); (case side2 => exact Nat.le_refl _); (case side3 => repeat (first | exact (Kd.R_reads' HO188.out).2.2 | (with_reducible refine Kd.C_alloc ?_ _) | (with_reducible refine Kd.C_drewN ?_ _) | (with_reducible refine Kd.C_drew ?_))); (case side4 => exact (Kd.R_reads' HO188.out).2.1); rintro e w14 ⟨v191, rfl, ho0, hb⟩; refine ⟨_, rfl, ?_⟩; have n0_ := Aside0.mk (Kd.R_below (by (with_reducible repeat (first | apply Kd.R_alloc | apply Kd.R_drewN | apply Kd.R_drew)); exact HO188.out) hb); have n1_ := Aside0.mk (Kd.R_lower ho0 (below_size (by repeat (first | (with_reducible first | exact HB.out | apply below_alloc | apply pw_below_drewN | apply below_drew1) | exact HB.out)))); have n2_ := Aside0.mk (below_step (by repeat (first | (with_reducible first | exact HB.out | apply below_alloc | apply pw_below_drewN | apply below_drew1) | exact HB.out)) hb); clear HO188; clear HB; have HO188 := n0_; have HO192 := n1_; have HB := n2_; clear n0_ n1_ n2_; (try clear hb); (try clear hb2); (try clear hk); (try clear hi); (try clear ho0); obtain ⟨Ao15, co15, eo15⟩ := Kd.R_slice HO192.out; subst eo15; have p193 : 0 ≤ (0 : Int) := (by omega); have q193 : 0 < (t189.length : Int) := of_decide_eq_true (by first | (with_reducible assumption) | assumption); obtain ⟨ad193, e193, hx193_0, hx193_1, hx193_2⟩ := at_T48 (Kd.R_reads' HO192.out).2.2 0 p193 q193; cases e193; have qi193 : (0 < t189.length) = True := eq_true (by omega); (try rw [show ((0 : Int)).toNat = 0 from rfl] at hx193_0); (try rw [show 0 * 3 = 0 from rfl] at hx193_0); (try rw [Addr.add_zero'] at hx193_0); (try rw [show ((0 : Int)).toNat = 0 from rfl] at hx193_1); (try rw [show 0 * 3 = 0 from rfl] at hx193_1); (try rw [Addr.add_zero'] at hx193_1); (try rw [show ((0 : Int)).toNat = 0 from rfl] at hx193_2); (try rw [show 0 * 3 = 0 from rfl] at hx193_2); (try rw [Addr.add_zero'] at hx193_2); replace p193 := eq_true p193; replace q193 := eq_true q193))
          go_ret
          exact ⟨by first | rfl | (simp [errW_none, errW_some] <;> rfl) | (simp [*, errW_none, errW_some] <;> rfl), by repeat (first | (with_reducible first | exact HB.out | apply below_alloc | apply pw_below_drewN | apply below_drew1) | exact HB.out)⟩
      · rw [if_neg c4] at H
        exact absurd H (by simp)
    · rw [if_neg c3] at H
      have c3b0 : ((t189.length : Int) == 1) = false := beq_eq_false_iff_ne.mpr c3
      have c3b1 : ((t189.length : Int) != 1) = true := bne_iff_ne.mpr c3
      obtain rfl := Option.some.inj H
      go_enter Tryz.func5, Tryz.ntmps5
      go_wp2_with (first | ((with_reducible refine gate_dst (N := 8) rfl ?_); (try (refine gate_guard (by rfl) ?_; dsimp only)); refine Kd.R_lit k43 _ 43 ?hg (N := 8) ?hd (xs := ([(⟨1, 1, (⟨#[]⟩ : ByteArray), false, (⟨#[]⟩ : ByteArray)⟩ : S43), (⟨2, 1, (⟨#[120]⟩ : ByteArray), false, (⟨#[]⟩ : ByteArray)⟩ : S43), (⟨3, 1, (⟨#[120]⟩ : ByteArray), true, (⟨#[97]⟩ : ByteArray)⟩ : S43), (⟨5, 1, (⟨#[]⟩ : ByteArray), false, (⟨#[]⟩ : ByteArray)⟩ : S43)] : List (S43))) (inner := [.int .i64 1, .int .i64 1, .string (⟨#[]⟩ : ByteArray), .bool false, .string (⟨#[]⟩ : ByteArray), .int .i64 2, .int .i64 1, .string (⟨#[120]⟩ : ByteArray), .bool false, .string (⟨#[]⟩ : ByteArray), .int .i64 3, .int .i64 1, .string (⟨#[120]⟩ : ByteArray), .bool true, .string (⟨#[97]⟩ : ByteArray), .int .i64 5, .int .i64 1, .string (⟨#[]⟩ : ByteArray), .bool false, .string (⟨#[]⟩ : ByteArray)]) (ok := fun _ => True) (okp := fun _ => True) ?hr ?hp (fun _ hk => hk) trivial (Below.refl _ _) (Nat.le_refl _) (by simp) ?_; (case hd => rfl); (case hg => rfl); (case hr => first | (go_simp; done) | (go_simp; rfl)); (case hp => exact (Reps.c5 (show Kd.M k43 _ _ _ (⟨1, 1, (⟨#[]⟩ : ByteArray), false, (⟨#[]⟩ : ByteArray)⟩ : S43) [.int .i64 1, .int .i64 1, .string (⟨#[]⟩ : ByteArray), .bool false, .string (⟨#[]⟩ : ByteArray)] from (k43_mkM _ _ _ (⟨1, 1, (⟨#[]⟩ : ByteArray), false, (⟨#[]⟩ : ByteArray)⟩ : S43) )) (Reps.c5 (show Kd.M k43 _ _ _ (⟨2, 1, (⟨#[120]⟩ : ByteArray), false, (⟨#[]⟩ : ByteArray)⟩ : S43) [.int .i64 2, .int .i64 1, .string (⟨#[120]⟩ : ByteArray), .bool false, .string (⟨#[]⟩ : ByteArray)] from (k43_mkM _ _ _ (⟨2, 1, (⟨#[120]⟩ : ByteArray), false, (⟨#[]⟩ : ByteArray)⟩ : S43) )) (Reps.c5 (show Kd.M k43 _ _ _ (⟨3, 1, (⟨#[120]⟩ : ByteArray), true, (⟨#[97]⟩ : ByteArray)⟩ : S43) [.int .i64 3, .int .i64 1, .string (⟨#[120]⟩ : ByteArray), .bool true, .string (⟨#[97]⟩ : ByteArray)] from (k43_mkM _ _ _ (⟨3, 1, (⟨#[120]⟩ : ByteArray), true, (⟨#[97]⟩ : ByteArray)⟩ : S43) )) (Reps.c5 (show Kd.M k43 _ _ _ (⟨5, 1, (⟨#[]⟩ : ByteArray), false, (⟨#[]⟩ : ByteArray)⟩ : S43) [.int .i64 5, .int .i64 1, .string (⟨#[]⟩ : ByteArray), .bool false, .string (⟨#[]⟩ : ByteArray)] from (k43_mkM _ _ _ (⟨5, 1, (⟨#[]⟩ : ByteArray), false, (⟨#[]⟩ : ByteArray)⟩ : S43) )) (Reps.none _ _)))))); intro v187 w16 ho17 hb hg_ hnew_; clear hg_ hnew_; (first | rw [← Ny186.out] at ho17 | (simp only [Int.reduceToNat] at ho17; rw [← Ny186.out] at ho17)); have n0_ := Aside0.mk (Kd.R_lower ho17 (below_size (by repeat (first | (with_reducible first | exact HB.out | apply below_alloc | apply pw_below_drewN | apply below_drew1) | exact HB.out)))); have n1_ := Aside0.mk (below_step (by repeat (first | (with_reducible first | exact HB.out | apply below_alloc | apply pw_below_drewN | apply below_drew1) | exact HB.out)) hb); clear HB; have HO188 := n0_; have HB := n1_; clear n0_ n1_; clear hb ho17; obtain ⟨Ao18, co18, eo18⟩ := Kd.R_slice HO188.out; subst eo18) | ((with_reducible refine gate_callee (f := 23) rfl ?_); refine goesL_ (some 9) rfl rfl Tryz.func23 (by kernel_rfl) rfl #[.slice none 0 0, .slice Ao18 y186.length co18] rfl (by (try simp only [List.map_toArray, List.map_cons, List.map_nil]); first | done | rfl | (simp only [List.length_drop, List.length_take]; rfl)) ?_; (refine (journal_State.calls _ _ ([] : List (S48)) _ _ y186 t189 t190 _ ?side1 ?side2 ?side3 ?side4 A1.out).mono ?_); (case side1 => exact Kd.C_nil _ _); (case side2 => exact Nat.le_refl _); (case side3 => repeat (first | exact (Kd.R_reads' HO188.out).2.2 | (with_reducible refine Kd.C_alloc ?_ _) | (with_reducible refine Kd.C_drewN ?_ _) | (with_reducible refine Kd.C_drew ?_))); (case side4 => exact (Kd.R_reads' HO188.out).2.1); rintro e w19 ⟨v191, rfl, ho0, hb⟩; refine ⟨_, rfl, ?_⟩; have n0_ := Aside0.mk (Kd.R_below (by (with_reducible repeat (first | apply Kd.R_alloc | apply Kd.R_drewN | apply Kd.R_drew)); exact HO188.out) hb); have n1_ := Aside0.mk (Kd.R_lower ho0 (below_size (by repeat (first | (with_reducible first | exact HB.out | apply below_alloc | apply pw_below_drewN | apply below_drew1) | exact HB.out)))); have n2_ := Aside0.mk (below_step (by repeat (first | (with_reducible first | exact HB.out | apply below_alloc | apply pw_below_drewN | apply below_drew1) | exact HB.out)) hb); clear HO188; clear HB; have HO188 := n0_; have HO192 := n1_; have HB := n2_; clear n0_ n1_ n2_; (try clear hb); (try clear hb2); (try clear hk); (try clear hi); (try clear ho0); obtain ⟨Ao20, co20, eo20⟩ := Kd.R_slice HO192.out; subst eo20))
      go_ret
      exact ⟨by first | rfl | (simp [errW_none, errW_some] <;> rfl) | (simp [*, errW_none, errW_some] <;> rfl), by repeat (first | (with_reducible first | exact HB.out | apply below_alloc | apply pw_below_drewN | apply below_drew1) | exact HB.out)⟩
  · rw [if_neg c2] at H
    have c2b0 : (t190 == 0) = false := beq_eq_false_iff_ne.mpr c2
    have c2b1 : (t190 != 0) = true := bne_iff_ne.mpr c2
    obtain rfl := Option.some.inj H
    go_enter Tryz.func5, Tryz.ntmps5
    go_wp2_with (first | ((with_reducible refine gate_dst (N := 8) rfl ?_); (try (refine gate_guard (by rfl) ?_; dsimp only)); refine Kd.R_lit k43 _ 43 ?hg (N := 8) ?hd (xs := ([(⟨1, 1, (⟨#[]⟩ : ByteArray), false, (⟨#[]⟩ : ByteArray)⟩ : S43), (⟨2, 1, (⟨#[120]⟩ : ByteArray), false, (⟨#[]⟩ : ByteArray)⟩ : S43), (⟨3, 1, (⟨#[120]⟩ : ByteArray), true, (⟨#[97]⟩ : ByteArray)⟩ : S43), (⟨5, 1, (⟨#[]⟩ : ByteArray), false, (⟨#[]⟩ : ByteArray)⟩ : S43)] : List (S43))) (inner := [.int .i64 1, .int .i64 1, .string (⟨#[]⟩ : ByteArray), .bool false, .string (⟨#[]⟩ : ByteArray), .int .i64 2, .int .i64 1, .string (⟨#[120]⟩ : ByteArray), .bool false, .string (⟨#[]⟩ : ByteArray), .int .i64 3, .int .i64 1, .string (⟨#[120]⟩ : ByteArray), .bool true, .string (⟨#[97]⟩ : ByteArray), .int .i64 5, .int .i64 1, .string (⟨#[]⟩ : ByteArray), .bool false, .string (⟨#[]⟩ : ByteArray)]) (ok := fun _ => True) (okp := fun _ => True) ?hr ?hp (fun _ hk => hk) trivial (Below.refl _ _) (Nat.le_refl _) (by simp) ?_; (case hd => rfl); (case hg => rfl); (case hr => first | (go_simp; done) | (go_simp; rfl)); (case hp => exact (Reps.c5 (show Kd.M k43 _ _ _ (⟨1, 1, (⟨#[]⟩ : ByteArray), false, (⟨#[]⟩ : ByteArray)⟩ : S43) [.int .i64 1, .int .i64 1, .string (⟨#[]⟩ : ByteArray), .bool false, .string (⟨#[]⟩ : ByteArray)] from (k43_mkM _ _ _ (⟨1, 1, (⟨#[]⟩ : ByteArray), false, (⟨#[]⟩ : ByteArray)⟩ : S43) )) (Reps.c5 (show Kd.M k43 _ _ _ (⟨2, 1, (⟨#[120]⟩ : ByteArray), false, (⟨#[]⟩ : ByteArray)⟩ : S43) [.int .i64 2, .int .i64 1, .string (⟨#[120]⟩ : ByteArray), .bool false, .string (⟨#[]⟩ : ByteArray)] from (k43_mkM _ _ _ (⟨2, 1, (⟨#[120]⟩ : ByteArray), false, (⟨#[]⟩ : ByteArray)⟩ : S43) )) (Reps.c5 (show Kd.M k43 _ _ _ (⟨3, 1, (⟨#[120]⟩ : ByteArray), true, (⟨#[97]⟩ : ByteArray)⟩ : S43) [.int .i64 3, .int .i64 1, .string (⟨#[120]⟩ : ByteArray), .bool true, .string (⟨#[97]⟩ : ByteArray)] from (k43_mkM _ _ _ (⟨3, 1, (⟨#[120]⟩ : ByteArray), true, (⟨#[97]⟩ : ByteArray)⟩ : S43) )) (Reps.c5 (show Kd.M k43 _ _ _ (⟨5, 1, (⟨#[]⟩ : ByteArray), false, (⟨#[]⟩ : ByteArray)⟩ : S43) [.int .i64 5, .int .i64 1, .string (⟨#[]⟩ : ByteArray), .bool false, .string (⟨#[]⟩ : ByteArray)] from (k43_mkM _ _ _ (⟨5, 1, (⟨#[]⟩ : ByteArray), false, (⟨#[]⟩ : ByteArray)⟩ : S43) )) (Reps.none _ _)))))); intro v187 w21 ho22 hb hg_ hnew_; clear hg_ hnew_; (first | rw [← Ny186.out] at ho22 | (simp only [Int.reduceToNat] at ho22; rw [← Ny186.out] at ho22)); have n0_ := Aside0.mk (Kd.R_lower ho22 (below_size (by repeat (first | (with_reducible first | exact HB.out | apply below_alloc | apply pw_below_drewN | apply below_drew1) | exact HB.out)))); have n1_ := Aside0.mk (below_step (by repeat (first | (with_reducible first | exact HB.out | apply below_alloc | apply pw_below_drewN | apply below_drew1) | exact HB.out)) hb); clear HB; have HO188 := n0_; have HB := n1_; clear n0_ n1_; clear hb ho22; obtain ⟨Ao23, co23, eo23⟩ := Kd.R_slice HO188.out; subst eo23) | ((with_reducible refine gate_callee (f := 23) rfl ?_); refine goesL_ (some 9) rfl rfl Tryz.func23 (by kernel_rfl) rfl #[.slice none 0 0, .slice Ao23 y186.length co23] rfl (by (try simp only [List.map_toArray, List.map_cons, List.map_nil]); first | done | rfl | (simp only [List.length_drop, List.length_take]; rfl)) ?_; (refine (journal_State.calls _ _ ([] : List (S48)) _ _ y186 t189 t190 _ ?side1 ?side2 ?side3 ?side4 A1.out).mono ?_); (case side1 => exact Kd.C_nil _ _); (case side2 => exact Nat.le_refl _); (case side3 => repeat (first | exact (Kd.R_reads' HO188.out).2.2 | (with_reducible refine Kd.C_alloc ?_ _) | (with_reducible refine Kd.C_drewN ?_ _) | (with_reducible refine Kd.C_drew ?_))); (case side4 => exact (Kd.R_reads' HO188.out).2.1); rintro e w24 ⟨v191, rfl, ho0, hb⟩; refine ⟨_, rfl, ?_⟩; have n0_ := Aside0.mk (Kd.R_below (by (with_reducible repeat (first | apply Kd.R_alloc | apply Kd.R_drewN | apply Kd.R_drew)); exact HO188.out) hb); have n1_ := Aside0.mk (Kd.R_lower ho0 (below_size (by repeat (first | (with_reducible first | exact HB.out | apply below_alloc | apply pw_below_drewN | apply below_drew1) | exact HB.out)))); have n2_ := Aside0.mk (below_step (by repeat (first | (with_reducible first | exact HB.out | apply below_alloc | apply pw_below_drewN | apply below_drew1) | exact HB.out)) hb); clear HO188; clear HB; have HO188 := n0_; have HO192 := n1_; have HB := n2_; clear n0_ n1_ n2_; (try clear hb); (try clear hb2); (try clear hk); (try clear hi); (try clear ho0)))
    go_ret
    exact ⟨by first | rfl | (simp [errW_none, errW_some] <;> rfl) | (simp [*, errW_none, errW_some] <;> rfl), by repeat (first | (with_reducible first | exact HB.out | apply below_alloc | apply pw_below_drewN | apply below_drew1) | exact HB.out)⟩

end Go.Proofs.YteblpjnkinghoaaGreat.J
/- The reference's right, QuietAt, Open are the program's; the law's guard on notes. -/
namespace Go.Proofs.YteblpjnkinghoaaGreat.J
open Go.RowKit Go.Proofs.YteblpjnkinghoaaGreatW.PrintWords
theorem Ev.mono {α : Type} {g : Nat → Option α} {v : α} (h : ∀ k, LeO (g k) (g (k + 1))) {K : Nat} (hv : g K = some v) : Ev g v := ⟨K, fun _ hk => at_rounds h hk hv⟩
theorem wrongStep_err {st : WSt} {n : S43} {e : Int} (h : wrongStep st n = .inl e) : e ≠ 0 ∧ e ≠ 1 := by
  unfold wrongStep at h
  split at h
  · cases h; decide
  split at h
  · cases h
  split at h
  · simp only at h
    split at h
    · cases h; decide
    · split at h
      · cases h; decide
      · cases h
  split at h
  · cases h
  · cases h
theorem wrongFrom_err : ∀ (l : List S43) (i : Nat) (st : WSt), (wrongFrom l i st).2 ≠ 1
  | [], _, _ => by show (0 : Int) ≠ 1; decide
  | n :: l, i, st => by
    rw [wrongFrom]
    cases hs : wrongStep st n with
    | inl e => exact (wrongStep_err hs).2
    | inr st' => exact wrongFrom_err l (i + 1) st'
/-- The reference's right. -/
theorem ref_right (l : List S43) (hl : l.length ≤ 9223372036854775807) : Ev (fun k => ringworkref25_right.f k l) (rightN l) := by
  obtain ⟨r, hr, hw⟩ := ref_Wrong l hl
  unfold ringworkref25_right.f
  refine Ev.bind (ref_notes l hl) ?_
  unfold rightN journal_right.f
  unfold journal_Wrong.f at hr ⊢
  by_cases hv : l.length ≤ 1000 ∧ l.all vld = true
  · rw [if_pos hv] at hr ⊢
    have e := Option.some.inj hr
    rw [decide_eq_true hv.1, hv.2]
    simp only [Bool.and_self, if_true, Option.bind_some]
    refine Ev.bind hw ?_
    rw [e]
    have h1 : r.2 ≠ 1 := by rw [← e]; exact wrongFrom_err _ _ _
    by_cases h0 : r.2 = 0
    · simp only [if_pos h0, h0]; exact Ev.val _
    · simp only [if_neg h0, if_neg h1]; exact Ev.val _
  · rw [if_neg hv]
    have : (decide (l.length ≤ 1000) && l.all vld) = false := by
      rw [Bool.eq_false_iff]; intro h; rw [Bool.and_eq_true, decide_eq_true_eq] at h; exact hv h
    rw [this]
    exact Ev.val _
/-- The notes from an index on are right behind those ahead of them. -/
def RightFrom : List S43 → List S43 → Prop
  | _, [] => True
  | p, n :: s => wrongR p n = 0 ∧ RightFrom (p ++ [n]) s
theorem right_from (l : List S43) : ∀ (s p : List S43) (i : Nat) (st : WSt), WInv p st → (wrongFrom s i st).2 = 0 → RightFrom p s
  | [], _, _, _, _, _ => trivial
  | n :: s, p, i, st, hI, h => by
    rw [wrongFrom] at h
    rcases wrong_step hI n with ⟨h0, hs⟩ | ⟨h0, st', hs, hI'⟩
    · rw [hs] at h; exact absurd h h0
    · rw [hs] at h
      exact ⟨h0, right_from l s (p ++ [n]) (i + 1) st' hI' h⟩
theorem right_right {l : List S43} (h : rightN l = 0) : l.length ≤ 1000 ∧ RightFrom [] l := by
  obtain ⟨_, hv⟩ := right_cases l
  have hv := hv (by omega)
  refine ⟨hv.1, right_from l l [] 0 _ winv_nil ?_⟩
  unfold rightN journal_right.f journal_Wrong.f at h
  rw [if_pos hv] at h
  simp only [Option.bind_some] at h
  by_cases h0 : (wrongFrom l 0 ⟨fun _ => none, fun _ => none⟩).2 = 0
  · exact h0
  · rw [if_neg h0, if_neg (wrongFrom_err _ _ _)] at h; cases h
theorem right_eq (l : List S43) : rightV l = rightN l := rfl
theorem ref_QuietAt (l : List S43) (u : Int) (hl : l.length ≤ 9223372036854775807) : Ev (fun k => ringworkref25_QuietAt.f k l u) (askedV l u) := by
  unfold ringworkref25_QuietAt.f askedV
  rw [right_eq]
  refine Ev.bind (ref_right l hl) ?_
  by_cases h0 : rightN l = 0
  · simp only [if_pos h0]
    by_cases hu : 1 ≤ u ∧ u ≤ 1000
    · simp only [if_neg (show ¬ u < 1 by omega)]
      rw [decide_eq_false (show ¬ u > 1000 by omega), if_pos hu]
      refine Ev.step (fun k => by rw [ringworkref25_QuietAt.j0, if_neg (by decide)]) ?_
      have hs := ref_since l l.length u (Nat.le_refl _) hl
      rw [List.take_length] at hs
      refine Ev.bind hs ?_
      unfold atI
      cases h2 : (sinceV l u).2 with
      | false => simp only [if_neg (show ¬ (false = true) by decide), if_pos (show (-1 : Int) < 0 by decide)]; exact Ev.val _
      | true =>
        have := since_in h2
        simp only [if_true, if_neg (show ¬ (sinceV l u).1 < 0 by omega)]
        exact Ev.val _
    · rw [if_neg hu]
      have hj : Ev (fun k => ringworkref25_QuietAt.j0 k l u true) ((0 : Int), (7 : Int)) := Ev.step (fun k => by rw [ringworkref25_QuietAt.j0, if_pos rfl]) (Ev.val _)
      by_cases hz : u < 1
      · simp only [if_pos hz]; exact hj
      · simp only [if_neg hz]
        rw [decide_eq_true (show u > 1000 by omega)]; exact hj
  · simp only [if_neg h0]; exact Ev.val _
theorem since_kind (u : Int) : ∀ (l : List S43) (i : Nat) (st : Int × Bool) (P : Int → Prop), (st.2 = true → P st.1) → (∀ (j : Nat) (hj : j < l.length), l[j].f0 = 1 ∨ l[j].f0 = 4 → P ((i + j : Nat) : Int)) → (sinceFrom u l i st).2 = true → P (sinceFrom u l i st).1
  | [], i, st, P, h1, _, h => h1 h
  | n :: l, i, st, P, h1, h2, h => by
    rw [sinceFrom] at h ⊢
    refine since_kind u l (i + 1) _ P (fun hs => ?_) (fun j hj hk => ?_) h
    · unfold sinceStep at hs ⊢
      split
      · rename_i hu
        rw [if_pos hu] at hs
        split
        · rename_i h6; rw [if_pos h6] at hs; exact h1 hs
        · rename_i h6
          rw [if_neg h6] at hs
          split
          · rename_i hq; exact h2 0 (by simp) hq
          · rename_i hq
            rw [if_neg hq] at hs
            split
            · rename_i h5; rw [if_pos h5] at hs; cases hs
            · rename_i h5; rw [if_neg h5] at hs; exact h1 hs
      · rename_i hu; rw [if_neg hu] at hs; exact h1 hs
    · have := h2 (j + 1) (by simp; omega) (by simpa using hk)
      rw [show i + 1 + j = i + (j + 1) by omega]; exact this
theorem notes_guard_from (l : List S43) (hl : l.length ≤ 9223372036854775807) : ∀ (d i : Nat), d = 60 - i → i ≤ 60 → ∀ s : Int, ∃ b, Ev (fun k => ringworklaw25_Notes.l0 k l s (i : Int)) b ∧ (b = true → l.length ≤ 60) := by
  intro d
  induction d with
  | zero =>
    intro i hd hi s
    have : i = 60 := by omega
    subst this
    by_cases hn : (l.length : Int) ≤ 60
    · exact ⟨_, Ev.step (fun k => by rw [ringworklaw25_Notes.l0, if_neg (by omega), if_pos hn]) (Ev.val (decide (s ≤ 6000))), fun _ => by omega⟩
    · exact ⟨false, Ev.step (fun k => by rw [ringworklaw25_Notes.l0, if_pos (by omega), if_neg (by decide), if_neg hn]) (Ev.val false), fun h => by cases h⟩
  | succ d ih =>
    intro i hd hi s
    by_cases hlt : i < l.length
    · obtain ⟨b, hb, hbb⟩ := ih (i + 1) (by omega) (by omega) (wrap64 ((wrap64 (s + (((rd_T43 l (i : Int)).f2).size : Int))) + (((rd_T43 l (i : Int)).f4).size : Int)))
      refine ⟨b, Ev.step (fun k => by rw [ringworklaw25_Notes.l0, if_pos (by omega), if_pos (by omega), if_pos (by omega), wrap_next' hlt hl]) hb, hbb⟩
    · exact ⟨_, Ev.step (fun k => by rw [ringworklaw25_Notes.l0, if_neg (by omega), if_pos (by omega)]) (Ev.val (decide (s ≤ 6000))), fun _ => by omega⟩
theorem notes_guard (l : List S43) (hl : l.length ≤ 9223372036854775807) : ∃ b, Ev (fun k => ringworklaw25_Notes.f k l) b ∧ (b = true → l.length ≤ 60) := notes_guard_from l hl 60 0 rfl (by omega) 0
theorem awake_true : ringworklaw25_awake.f = some true := by kernel_rfl
theorem plain_unit {n : S43} (hv : vld n = true) (hf : n.f0 = 1 ∨ n.f0 = 4) : 1 ≤ n.f1 ∧ n.f1 ≤ 1000 := by
  unfold vld journal_Valid.f at hv
  rw [if_neg (by omega), if_neg (by omega), if_neg (by omega), if_neg (by omega)] at hv
  unfold journal_plain.f journal_unit.f at hv
  by_cases a1 : 1 ≤ n.f1 <;> by_cases a2 : n.f1 ≤ 1000 <;> simp [a1, a2] at hv ⊢
theorem since_unit (u : Int) : ∀ (l : List S43) (i : Nat) (st : Int × Bool), (st.2 = true → 1 ≤ u ∧ u ≤ 1000) → (∀ n ∈ l, vld n = true) → (sinceFrom u l i st).2 = true → 1 ≤ u ∧ u ≤ 1000
  | [], i, st, h1, _, h => h1 h
  | n :: l, i, st, h1, h2, h => by
    rw [sinceFrom] at h
    refine since_unit u l (i + 1) _ (fun hs => ?_) (fun m hm => h2 m (List.mem_cons_of_mem _ hm)) h
    unfold sinceStep at hs
    by_cases hu : n.f1 = u
    · rw [if_pos hu] at hs
      by_cases h6 : n.f0 = 6
      · rw [if_pos h6] at hs; exact h1 hs
      · rw [if_neg h6] at hs
        by_cases hq : n.f0 = 1 ∨ n.f0 = 4
        · have := plain_unit (h2 n List.mem_cons_self) hq
          rw [hu] at this; exact this
        · rw [if_neg hq] at hs
          by_cases h5 : n.f0 = 5 ∨ n.f0 = 7
          · rw [if_pos h5] at hs; cases hs
          · rw [if_neg h5] at hs; exact h1 hs
    · rw [if_neg hu] at hs; exact h1 hs
end Go.Proofs.YteblpjnkinghoaaGreat.J
