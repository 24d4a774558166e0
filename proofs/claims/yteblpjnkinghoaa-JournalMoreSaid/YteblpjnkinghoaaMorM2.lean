/- Lemmas and contracts (part 2) on which the claim's last text leans: The statement JournalMore: More is that of 25.1. No condition. -/
import Derived.StillTailTactics
import Derived.Deep.RegionLaw
import Derived.Lib.Bytealg
import Derived.Lib.SliceRun
import Derived.Test.YteblpjnkinghoaaMorM1
set_option linter.unusedVariables false
set_option linter.unusedSimpArgs false
/- The contract of slices.Insert at images, one element, into a row of the call's own. -/
namespace Go.Proofs.Yteblpjnkinghoaa.J
open Go.BigFrame Go.RowKit Go.Proofs.YteblpjnkinghoaaW.PrintWords Go.Proofs.YteblpjnkinghoaaW.PrintLast Go.Proofs.YteblpjnkinghoaaW.PrintMore
/-- At the end. -/
theorem insert_end (xs : List S41) (x : S41) (s base : Nat) (v : Value) (w : World) (hR : Kd.R k41 41 w base (fun _ => True) v xs) (hs : w.heap[s]? = some (.cells #[.string x.f0, .bool x.f1, .string x.f2] 41)) (hb : base ≤ w.heap.size) (hl : xs.length ≤ 1000000) :
    Calls Try.prog 49 #[v, .int .i64 xs.length, .slice (some ⟨s, 0, none⟩) 1 1] w fun e w' => ∃ v' : Value, e = .returned v' ∧ Kd.R k41 41 w' base (fun _ => True) v' (xs ++ [x]) ∧ Below base w w' := by
  obtain ⟨A, c, rfl, hlc, hC⟩ := Kd.R_reads hR
  have HR := Aside0.mk hR
  have hrow : ReadsRow (k41.K w) 3 w (some ⟨s, 0, none⟩) 1 [x] := ⟨rfl, by decide, fun _ => ⟨_, rfl, fun j p hj => by
    cases j with
    | zero =>
      cases hj
      refine ⟨cells3 x, rfl, k41_mk w x, fun i u hu => ?_⟩
      have : i = 0 ∨ i = 1 ∨ i = 2 := by have := (List.getElem?_eq_some_iff.1 hu).1; simp [cells3] at this; omega
      rcases this with rfl | rfl | rfl <;> cases hu
      · exact (blk_cell hs 0).trans rfl
      · exact (blk_cell hs 1).trans rfl
      · exact (blk_cell hs 2).trans rfl
    | succ j => simp at hj⟩⟩
  have HW := Aside0.mk hrow
  clear hR hC hrow hs
  obtain ⟨i0, hi0, _, hsz0, _⟩ := info_parts info41
  have hsz0 : i0.size = 3 := hsz0
  have hcut := cut_from (P := Try.prog) 22 41 .i64 Try.underlying22 hi0 3 hsz0 A xs.length c (xs.length : Int) (by omega) (by omega)
  rw [Int.toNat_natCast, Nat.sub_self] at hcut
  obtain ⟨B, hcut⟩ : ∃ B, ∀ W : World, (Instr.slice 22 (.slice A xs.length c) (some (.int .i64 (xs.length : Int))) none none).run Try.prog W = .ok (.slice B 0 (c - xs.length)) W := ⟨_, hcut⟩
  clear hi0 hsz0
  go_enter Try.func49, Try.ntmps49
  go_wp2_with (first | (at_builtin; refine Kd.R_append_rows k41 (Rr := k41.K w) (w0 := w) base rfl (.tmp 23) (.tmp 24) 22 41 (.agg #[(.string ⟨#[]⟩), (.bool false), (.string ⟨#[]⟩)]) 40 rfl Try.underlying22 info41 rfl (by decide) (by decide) (.slice A xs.length c) xs [x] (some ⟨s, 0, none⟩) 1 1 (fun _ => True) (fun _ => False) rfl rfl ?aO ?aR ?aK (fun _ hk => hk.elim) (fun _ _ => trivial) ?aB ?aS ?aL ?_; (case aO => exact HR.out); (case aR => exact HW.out); (case aK => exact fun x cs hx => k41_KM _ _ _ x cs hx); (case aB => exact Below.refl _ _); (case aS => exact hb); (case aL => omega); intro v1 w1 ho hb1 _ _))
  all_goals (go_ret; exact ⟨_, rfl, ho, hb1⟩)
theorem Im.get {w : World} {g cap : Nat} {cs : List Value} (h : Im w g cap cs) (o k : Nat) : ∀ j v, ((cs.drop o).take k)[j]? = some v → w.cell? ((⟨g, o, none⟩ : Addr).add j) = some v := fun j v hj => by
  rw [List.getElem?_take] at hj
  split at hj
  · rw [List.getElem?_drop] at hj
    rw [Addr.add_lit]
    exact h.cell (o + j) v hj
  · cases hj
theorem spliced_at (A Z V : List Value) : spliced (A ++ Z) A.length V = A ++ V ++ Z.drop V.length := by
  unfold spliced
  rw [List.take_left, List.drop_append]
  have : A.drop (A.length + V.length) = [] := List.drop_eq_nil_of_le (by omega)
  rw [this, List.nil_append, show A.length + V.length - A.length = V.length by omega]
theorem spliced_flat (A : List S41) (Z V : List Value) : spliced (flat A ++ Z) (A.length * 3) V = flat A ++ V ++ Z.drop V.length := by
  rw [← flat_length]; exact spliced_at _ _ _
theorem grownCap_ge (w : World) (need old : Nat) (e : TypeId) : need ≤ grownCap w need old e := by
  simp only [grownCap, Question.cut]; omega
theorem cells3_get {w : World} {s : Nat} {x : S41} (hs : w.heap[s]? = some (.cells #[.string x.f0, .bool x.f1, .string x.f2] 41)) : ∀ j v, (cells3 x)[j]? = some v → w.cell? ((⟨s, 0, none⟩ : Addr).add j) = some v := fun j v hj => by
  have : j = 0 ∨ j = 1 ∨ j = 2 := by have := (List.getElem?_eq_some_iff.1 hj).1; simp [cells3] at this; omega
  rcases this with rfl | rfl | rfl <;> cases hj
  · exact (blk_cell hs 0).trans rfl
  · exact (blk_cell hs 1).trans rfl
  · exact (blk_cell hs 2).trans rfl
theorem cells3_one (x : S41) : ∀ v ∈ cells3 x, v.oneCell' = true := by
  intro u hx
  simp [cells3] at hx
  rcases hx with rfl | rfl | rfl <;> rfl
/-- append(s[:i], make([]T, n + 1 - i)...) where the row is full. -/
theorem grown41 {w : World} {g : Nat} {xs : List S41} (hI : Im w g xs.length (flat xs)) (i : Nat) (hi : i < xs.length) (hl : xs.length ≤ 1000000) :
    ∃ w1 cp Z, (∀ ty, (Builtin.append_ #[22, 3] ty #[.slice (some ⟨g, 0, none⟩) i xs.length, .int .i64 ((xs.length + 1 - i : Nat) : Int)]).run Try.prog w = .ok (.slice (some ⟨w.heap.size, 0, none⟩) (xs.length + 1) cp) w1) ∧
      xs.length + 1 ≤ cp ∧ Im w1 w.heap.size cp (flat (xs.take i) ++ Z) ∧ Z.length = (cp - i) * 3 ∧ ∀ base, base ≤ w.heap.size → Below base w w1 := by
  have hn : i + (xs.length + 1 - i) = xs.length + 1 := by omega
  have hr := fun ty => run_append41_zeros hI ty i (xs.length + 1 - i) (by omega) (by omega) (by omega)
  rw [hn] at hr
  have hge := grownCap_ge w (xs.length + 1) xs.length 41
  have hmx := grownCap_le_maxLen w (xs.length + 1) xs.length 41 (by simp only [maxLen]; omega)
  generalize grownCap w (xs.length + 1) xs.length 41 = cp at hr hge hmx
  have z : ∀ n, (Builtin.zeroCells (Value.agg #[(.string ⟨#[]⟩), (.bool false), (.string ⟨#[]⟩)]).cells n).toList.length = n * 3 := fun n => by rw [Array.length_toList, zeroCells3_length]
  refine ⟨_, cp, (Builtin.zeroCells (Value.agg #[(.string ⟨#[]⟩), (.bool false), (.string ⟨#[]⟩)]).cells (xs.length + 1 - i)).toList ++ (Builtin.zeroCells (Value.agg #[(.string ⟨#[]⟩), (.bool false), (.string ⟨#[]⟩)]).cells (cp - (xs.length + 1))).toList, hr, hge, ⟨?_, ?_, hmx⟩, ?_, fun base hb => (Below.refl _ _).drew.alloc hb _⟩
  · have := heap_alloc_new w.drew (.cells (((flat xs).take (i * 3)).toArray ++ Builtin.zeroCells (Value.agg #[(.string ⟨#[]⟩), (.bool false), (.string ⟨#[]⟩)]).cells (xs.length + 1 - i) ++ Builtin.zeroCells (Value.agg #[(.string ⟨#[]⟩), (.bool false), (.string ⟨#[]⟩)]).cells (cp - (xs.length + 1))) 41)
    refine Eq.trans this ?_
    rw [flat_take]
    congr 2
    apply Array.ext'
    simp
  · rw [List.length_append, List.length_append, flat_length, z, z, List.length_take]
    omega
  · rw [List.length_append, z, z]
    omega
set_option maxHeartbeats 4000000 in
set_option maxRecDepth 100000 in
/-- Not at the end, there is no room: the walk. -/
theorem insert_grow_walk (n i cp h g s : Nat) (w w1 w2 w3 : World) (hn : n ≤ 1000000) (hi : i < n) (hcp : n + 1 ≤ cp)
    (hcut : ∀ W : World, (Instr.slice 22 (.slice (some ⟨g, 0, none⟩) n n) (some (.int .i64 (i : Int))) none none).run Try.prog W = .ok (.slice (some ⟨g, i * 3, none⟩) (n - i) (n - i)) W)
    (hct : ∀ W : World, (Instr.slice 22 (.slice (some ⟨g, 0, none⟩) n n) none (some (.int .i64 (i : Int))) none).run Try.prog W = .ok (.slice (some ⟨g, 0, none⟩) i n) W)
    (hz : ∀ ty, (Builtin.append_ #[22, 3] ty #[.slice (some ⟨g, 0, none⟩) i n, .int .i64 ((n + 1 - i : Nat) : Int)]).run Try.prog w = .ok (.slice (some ⟨h, 0, none⟩) (n + 1) cp) w1)
    (hc1 : ∀ W : World, (Instr.slice 22 (.slice (some ⟨h, 0, none⟩) (n + 1) cp) (some (.int .i64 (i : Int))) none none).run Try.prog W = .ok (.slice (some ⟨h, i * 3, none⟩) (n + 1 - i) (cp - i)) W)
    (hcpy1 : ∀ ty, (Builtin.copy_ #[22, 22] ty #[.slice (some ⟨h, i * 3, none⟩) (n + 1 - i) (cp - i), .slice (some ⟨s, 0, none⟩) 1 1]).run Try.prog w1 = .ok (goInt 1) w2)
    (hc2 : ∀ W : World, (Instr.slice 22 (.slice (some ⟨h, 0, none⟩) (n + 1) cp) (some (.int .i64 ((i : Int) + 1))) none none).run Try.prog W = .ok (.slice (some ⟨h, (i + 1) * 3, none⟩) (n + 1 - (i + 1)) (cp - (i + 1))) W)
    (hcpy2 : ∀ ty, (Builtin.copy_ #[22, 22] ty #[.slice (some ⟨h, (i + 1) * 3, none⟩) (n + 1 - (i + 1)) (cp - (i + 1)), .slice (some ⟨g, i * 3, none⟩) (n - i) (n - i)]).run Try.prog w2.drew = .ok (goInt ((n - i : Nat) : Int)) w3) :
    Calls Try.prog 49 #[.slice (some ⟨g, 0, none⟩) n n, .int .i64 i, .slice (some ⟨s, 0, none⟩) 1 1] w fun e w' => e = .returned (.slice (some ⟨h, 0, none⟩) (n + 1) cp) ∧ w' = w3 := by
  have HZ := Aside0.mk hz
  have HC1 := Aside0.mk hcpy1
  have HC2 := Aside0.mk hcpy2
  clear hz hcpy1 hcpy2
  go_enter Try.func49, Try.ntmps49
  go_upto_region 9 with (fail)
  go_upto_region 10 with (first | (at_builtin; refine Lib.wpList_append_run _ rfl (.tmp 34) (.tmp 39) 22 3 rfl _ (.int .i64 ((n + 1 - i : Nat) : Int)) rfl ?hx _ _ (HZ.out _) ?_; (case hx => show Value.int .i64 _ = _; congr 1; omega)))
  go_upto_region 11 with (first | (refine wpList_copy_runI _ rfl (.tmp 43) (.tmp 44) 22 22 rfl (.slice (some ⟨h, i * 3, none⟩) (n + 1 - i) (cp - i)) (.slice (some ⟨s, 0, none⟩) 1 1) rfl rfl (HC1.out _) ?_))
  go_frame
  have hw1 : IntKind.i64.wrap ((i : Int) + 1) = (i : Int) + 1 := by rw [IntKind.wrap_i64]; omega
  have hb1 : (0 : Int) ≤ (i : Int) + 1 := by omega
  have hb0 : (i : Int) ≤ (n : Int) := by omega
  have hb3 : (i : Int) + 1 ≤ (n : Int) + 1 := by omega
  have htn : ((i : Int) + 1).toNat = i + 1 := by omega
  have hb2 : ¬ (cp = i + 1) := by omega
  have hb4 : ¬ (n = i) := by omega
  have hin : i ≤ n := by omega
  go_region_law (refine step_copy_runI rfl (.tmp 50) (.tmp 53) 22 22 rfl (.slice (some ⟨h, (i + 1) * 3, none⟩) (n + 1 - (i + 1)) (cp - (i + 1))) (.slice (some ⟨g, i * 3, none⟩) (n - i) (n - i)) (by simp [Act.eval, Act.put]) (by simp [Act.eval, Act.put]) (HC2.out _) ?_)
  go_wp2
  go_ret
  exact ⟨rfl, rfl⟩
set_option maxHeartbeats 2000000 in
set_option maxRecDepth 100000 in
/-- Not at the end, there is no room. -/
theorem insert_grow (xs : List S41) (x : S41) (s base g i : Nat) (w : World) (hI : Im w g xs.length (flat xs)) (hs : w.heap[s]? = some (.cells #[.string x.f0, .bool x.f1, .string x.f2] 41)) (hb : base ≤ w.heap.size) (hl : xs.length ≤ 1000000) (hi : i < xs.length) :
    Calls Try.prog 49 #[.slice (some ⟨g, 0, none⟩) xs.length xs.length, .int .i64 i, .slice (some ⟨s, 0, none⟩) 1 1] w fun e w' => ∃ v' : Value, e = .returned v' ∧ Kd.R k41 41 w' base (fun _ => True) v' (xs.take i ++ x :: xs.drop i) ∧ Below base w w' := by
  obtain ⟨i0, hi0, _, hsz0, _⟩ := info_parts info41
  have hsz0 : i0.size = 3 := hsz0
  have hcut := cut_from (P := Try.prog) 22 41 .i64 Try.underlying22 hi0 3 hsz0 (some ⟨g, 0, none⟩) xs.length xs.length (i : Int) (by omega) (by omega)
  rw [Int.toNat_natCast, if_neg (by omega)] at hcut
  have hII := Aside0.mk hI
  have hsl : s ≠ g → (w.heap[s]? = some (.cells #[.string x.f0, .bool x.f1, .string x.f2] 41)) := fun _ => hs
  have hlt := hI.lt
  have hslt := (Array.getElem?_eq_some_iff.1 hs).1
  have hct := cut_to (P := Try.prog) 22 41 .i64 Try.underlying22 hi0 (some ⟨g, 0, none⟩) xs.length xs.length (i : Int) (by omega) (by omega) (Nat.le_refl _)
  rw [Int.toNat_natCast] at hct
  have d1 : decide ((i : Int) = (xs.length : Int)) = false := decide_eq_false (by omega)
  have d1' : ((i : Int) == (xs.length : Int)) = false := by rw [Bool.eq_false_iff]; simp; omega
  obtain ⟨w1, cp, Z, hz, hcp, hI1, hZ, hB1⟩ := grown41 hI i hi hl
  have hb1 := hB1 w.heap.size (Nat.le_refl _)
  have hne : g ≠ w.heap.size := by omega
  -- the first copy
  have hcpy1 : ∀ ty, (Builtin.copy_ #[22, 22] ty #[.slice (some ⟨w.heap.size, i * 3, none⟩) (xs.length + 1 - i) (cp - i), .slice (some ⟨s, 0, none⟩) 1 1]).run Try.prog w1 = .ok (goInt 1) (w1.setRow w.heap.size (spliced (flat (xs.take i) ++ Z) (i * 3) (cells3 x)).toArray) := fun ty => by
    have := run_copy41 hI1 ty (i * 3) (xs.length + 1 - i) (cp - i) ⟨s, 0, none⟩ 1 1 (cells3 x) (show 3 = Nat.min 1 (xs.length + 1 - i) * 3 by rw [show Nat.min 1 (xs.length + 1 - i) = 1 from Nat.min_eq_left (by omega)]) (cells3_get ((hb1.block _ hslt).trans hs)) (by simp [cells3, flat_length, hZ]; omega) (cells3_one x)
    rwa [show Nat.min 1 (xs.length + 1 - i) = 1 from Nat.min_eq_left (by omega)] at this
  have hlt2 : (xs.take i).length = i := by rw [List.length_take]; omega
  have e1 : spliced (flat (xs.take i) ++ Z) (i * 3) (cells3 x) = flat (xs.take i ++ [x]) ++ Z.drop 3 := by
    have := spliced_flat (xs.take i) Z (cells3 x)
    rw [hlt2] at this
    rw [this, flat_append]
    simp [flat, cells3]
  have hI2 := hI1.put (i * 3) (cells3 x) (by simp [cells3, flat_length, hZ]; omega)
  rw [e1] at hcpy1 hI2
  obtain ⟨w2, hw2⟩ : ∃ w2, w2 = w1.setRow w.heap.size (flat (xs.take i ++ [x]) ++ Z.drop 3).toArray := ⟨_, rfl⟩
  rw [← hw2] at hcpy1 hI2
  have hB2 : Below base w w2 := by rw [hw2]; exact below_row (hB1 base hb) hb _
  have hIg : Im w2 g xs.length (flat xs) := (hI.below hb1).move (by rw [hw2]; exact setRow_other _ _ _ _ hne)
  -- the second
  have hlt3 : (xs.take i ++ [x]).length = i + 1 := by rw [List.length_append, hlt2]; rfl
  have hdr : (flat (xs.drop i)).length = (xs.length - i) * 3 := by rw [flat_length, List.length_drop]
  have hcpy2 : ∀ ty, (Builtin.copy_ #[22, 22] ty #[.slice (some ⟨w.heap.size, (i + 1) * 3, none⟩) (xs.length + 1 - (i + 1)) (cp - (i + 1)), .slice (some ⟨g, i * 3, none⟩) (xs.length - i) (xs.length - i)]).run Try.prog w2.drew = .ok (goInt ((xs.length - i : Nat) : Int)) (w2.drew.setRow w.heap.size (spliced (flat (xs.take i ++ [x]) ++ Z.drop 3) ((i + 1) * 3) (flat (xs.drop i))).toArray) := fun ty => by
    have := run_copy41 (hI2.below ((Below.refl _ w2).drew)) ty ((i + 1) * 3) (xs.length + 1 - (i + 1)) (cp - (i + 1)) ⟨g, i * 3, none⟩ (xs.length - i) (xs.length - i) (flat (xs.drop i)) (by rw [hdr, show Nat.min (xs.length - i) (xs.length + 1 - (i + 1)) = xs.length - i from Nat.min_eq_left (by omega)]) (fun j v hj => by
      have h2 := (hIg.below ((Below.refl _ w2).drew)).get (i * 3) ((xs.length - i) * 3) j v
      rw [flat_drop] at h2
      exact h2 (by rw [List.take_of_length_le (by rw [hdr]; exact Nat.le_refl _)]; exact hj)) (by rw [hdr, List.length_append, flat_length, hlt3, List.length_drop, hZ]; omega) (flat_one _)
    rwa [show Nat.min (xs.length - i) (xs.length + 1 - (i + 1)) = xs.length - i from Nat.min_eq_left (by omega)] at this
  have e2 : spliced (flat (xs.take i ++ [x]) ++ Z.drop 3) ((i + 1) * 3) (flat (xs.drop i)) = flat (xs.take i ++ x :: xs.drop i) ++ (Z.drop 3).drop (flat (xs.drop i)).length := by
    have := spliced_flat (xs.take i ++ [x]) (Z.drop 3) (flat (xs.drop i))
    rw [hlt3] at this
    rw [this, ← flat_append]
    simp
  have hI3 := (hI2.below ((Below.refl _ w2).drew)).put ((i + 1) * 3) (flat (xs.drop i)) (by rw [hdr, List.length_append, flat_length, hlt3, List.length_drop, hZ]; omega)
  rw [e2] at hcpy2 hI3
  obtain ⟨w3, hw3⟩ : ∃ w3, w3 = w2.drew.setRow w.heap.size (flat (xs.take i ++ x :: xs.drop i) ++ (Z.drop 3).drop (flat (xs.drop i)).length).toArray := ⟨_, rfl⟩
  rw [← hw3] at hcpy2 hI3
  have hB3 : Below base w w3 := by rw [hw3]; exact below_row hB2.drew hb _
  have hln : (xs.take i ++ x :: xs.drop i).length = xs.length + 1 := by simp; omega
  have HF := Aside0.mk (show Kd.R k41 41 w3 base (fun _ => True) (.slice (some ⟨w.heap.size, 0, none⟩) (xs.length + 1) cp) (xs.take i ++ x :: xs.drop i) by
    have := im_R (base := base) (ok := fun _ => True) hI3 (by rw [hln]; exact hcp) hb trivial
    rwa [hln] at this)
  -- the cuts
  have hc1 : ∀ W : World, (Instr.slice 22 (.slice (some ⟨w.heap.size, 0, none⟩) (xs.length + 1) cp) (some (.int .i64 (i : Int))) none none).run Try.prog W = .ok (.slice (some ⟨w.heap.size, i * 3, none⟩) (xs.length + 1 - i) (cp - i)) W := fun W => by
    have := cut_from (P := Try.prog) 22 41 .i64 Try.underlying22 hi0 3 hsz0 (some ⟨w.heap.size, 0, none⟩) (xs.length + 1) cp (i : Int) (by omega) (by omega) W
    rw [Int.toNat_natCast, if_neg (by omega)] at this
    simpa [Addr.add_lit] using this
  have hc2 : ∀ W : World, (Instr.slice 22 (.slice (some ⟨w.heap.size, 0, none⟩) (xs.length + 1) cp) (some (.int .i64 ((i : Int) + 1))) none none).run Try.prog W = .ok (.slice (some ⟨w.heap.size, (i + 1) * 3, none⟩) (xs.length + 1 - (i + 1)) (cp - (i + 1))) W := fun W => by
    have := cut_from (P := Try.prog) 22 41 .i64 Try.underlying22 hi0 3 hsz0 (some ⟨w.heap.size, 0, none⟩) (xs.length + 1) cp ((i : Int) + 1) (by omega) (by omega) W
    rw [show ((i : Int) + 1).toNat = i + 1 by omega, if_neg (by omega)] at this
    simpa [Addr.add_lit] using this
  have hcut' : ∀ W : World, (Instr.slice 22 (.slice (some ⟨g, 0, none⟩) xs.length xs.length) (some (.int .i64 (i : Int))) none none).run Try.prog W = .ok (.slice (some ⟨g, i * 3, none⟩) (xs.length - i) (xs.length - i)) W := fun W => by
    simpa [Addr.add_lit] using hcut W
  refine (insert_grow_walk xs.length i cp w.heap.size g s w w1 w2 w3 hl hi hcp hcut' hct hz hc1 hcpy1 hc2 hcpy2).mono ?_
  rintro e w' ⟨rfl, rfl⟩
  exact ⟨_, rfl, HF.out, hB3⟩
theorem size41 (w : World) : (Go.sizeOf 41).run Try.prog w = .ok 3 w := by kernel_rfl
set_option maxHeartbeats 4000000 in
set_option maxRecDepth 100000 in
/-- Not at the end, there is room: the walk. -/
theorem insert_room_walk (n i cp g s : Nat) (w w1 w2 : World) (hn : n ≤ 1000000) (hi : i < n) (hcp : n + 1 ≤ cp) (hcm : cp ≤ maxLen)
    (hov : ∀ lb cb, (callFunc 70 #[.slice (some ⟨s, 0, none⟩) 1 1, .slice (some ⟨g, (i + 1) * 3, none⟩) lb cb]).run Try.prog w = .ok (.value (.bool false)) w)
    (hcpy1 : ∀ ty, (Builtin.copy_ #[22, 22] ty #[.slice (some ⟨g, (i + 1) * 3, none⟩) (n + 1 - (i + 1)) (cp - (i + 1)), .slice (some ⟨g, i * 3, none⟩) (n + 1 - i) (cp - i)]).run Try.prog w.drew = .ok (goInt ((n - i : Nat) : Int)) w1)
    (hcpy2 : ∀ ty, (Builtin.copy_ #[22, 22] ty #[.slice (some ⟨g, i * 3, none⟩) (n + 1 - i) (cp - i), .slice (some ⟨s, 0, none⟩) 1 1]).run Try.prog w1 = .ok (goInt 1) w2) :
    Calls Try.prog 49 #[.slice (some ⟨g, 0, none⟩) n cp, .int .i64 i, .slice (some ⟨s, 0, none⟩) 1 1] w fun e w' => e = .returned (.slice (some ⟨g, 0, none⟩) (n + 1) cp) ∧ w' = w2 := by
  have HC1 := Aside0.mk hcpy1
  have HC2 := Aside0.mk hcpy2
  have hcm' : cp ≤ 9223372036854775807 := hcm
  clear hcpy1 hcpy2 hcm
  have hw1 : IntKind.i64.wrap ((i : Int) + 1) = (i : Int) + 1 := by rw [IntKind.wrap_i64]; omega
  have hw2 : IntKind.i64.wrap ((n : Int) + 1) = (n : Int) + 1 := by rw [IntKind.wrap_i64]; omega
  have hb1 : (0 : Int) ≤ (i : Int) + 1 := by omega
  have hb0 : (i : Int) ≤ (n : Int) := by omega
  have hb5 : (i : Int) ≤ (n : Int) + 1 := by omega
  have hb3 : (i : Int) + 1 ≤ (n : Int) + 1 := by omega
  have htn : ((i : Int) + 1).toNat = i + 1 := by omega
  have htn2 : ((n : Int) + 1).toNat = n + 1 := by omega
  have hb2 : ¬ (cp = i + 1) := by omega
  have hb4 : ¬ (cp = i) := by omega
  have hin : i ≤ n := by omega
  go_enter Try.func49, Try.ntmps49
  go_upto_region 15 with (simp only [hov])
  (try go_frame)
  go_region_law (refine step_copy_runI rfl (.tmp 73) (.tmp 76) 22 22 rfl (.slice (some ⟨g, (i + 1) * 3, none⟩) (n + 1 - (i + 1)) (cp - (i + 1))) (.slice (some ⟨g, i * 3, none⟩) (n + 1 - i) (cp - i)) (by simp [Act.eval, Act.put]) (by simp [Act.eval, Act.put]) (HC1.out _) ?_)
  go_wp2_with (first | (refine wpList_copy_runI _ rfl (.tmp 80) (.tmp 81) 22 22 rfl (.slice (some ⟨g, i * 3, none⟩) (n + 1 - i) (cp - i)) (.slice (some ⟨s, 0, none⟩) 1 1) rfl rfl (HC2.out _) ?_))
  go_ret
  exact ⟨rfl, rfl⟩
/-- Not at the end, there is room. -/
theorem insert_room (xs : List S41) (x : S41) (s base g i cap : Nat) (rest : List Value) (w : World) (hI : Im w g cap (flat xs ++ rest)) (hs : w.heap[s]? = some (.cells #[.string x.f0, .bool x.f1, .string x.f2] 41)) (hne : s ≠ g) (hg : base ≤ g) (hl : xs.length ≤ 1000000) (hi : i < xs.length) (hcp : xs.length + 1 ≤ cap) :
    Calls Try.prog 49 #[.slice (some ⟨g, 0, none⟩) xs.length cap, .int .i64 i, .slice (some ⟨s, 0, none⟩) 1 1] w fun e w' => ∃ v' : Value, e = .returned v' ∧ Kd.R k41 41 w' base (fun _ => True) v' (xs.take i ++ x :: xs.drop i) ∧ Below base w w' := by
  have hslt := (Array.getElem?_eq_some_iff.1 hs).1
  have hlen : rest.length = (cap - xs.length) * 3 := by have := hI.2.1; rw [List.length_append, flat_length] at this; omega
  have hlt2 : (xs.take i).length = i := by rw [List.length_take]; omega
  have hdr : (flat (xs.drop i)).length = (xs.length - i) * 3 := by rw [flat_length, List.length_drop]
  have hov : ∀ lb cb, (callFunc 70 #[.slice (some ⟨s, 0, none⟩) 1 1, .slice (some ⟨g, (i + 1) * 3, none⟩) lb cb]).run Try.prog w = .ok (.value (.bool false)) w := fun lb cb => by
    rw [run_callFunc_extern Try.func70 (by kernel_rfl) (by kernel_rfl) (by kernel_rfl) (e := Extern.SlicesOverlaps.overlaps #[22, 22] #[4]) (by kernel_rfl),
      Lib.run_overlaps_apart w 22 4 41 Try.underlying22 3 size41 ⟨s, 0, none⟩ ⟨g, (i + 1) * 3, none⟩ 1 1 lb cb hne 41 41 3 (cap * 3) (by unfold World.shape?; rw [hs]; rfl) hI.shape (by omega) (by unfold World.frozen?; rw [hs]; rfl) (by unfold World.frozen?; rw [hs]; rfl)]
    rfl
  obtain ⟨y, hy⟩ : ∃ y, xs.drop i = y :: xs.drop (i + 1) := ⟨xs[i], List.drop_eq_getElem_cons hi⟩
  have e0 : flat xs ++ rest = flat (xs.take i ++ [y]) ++ (flat (xs.drop (i + 1)) ++ rest) := by
    rw [← List.append_assoc, ← flat_append, List.append_assoc, List.singleton_append, ← hy, List.take_append_drop]
  have hlt3 : (xs.take i ++ [y]).length = i + 1 := by rw [List.length_append, hlt2]; rfl
  have hd : ∀ base' W, Below base' W W.drew := fun _ W => (Below.refl _ W).drew
  have hID := hI.below (hd w.heap.size w)
  have hcpy1 : ∀ ty, (Builtin.copy_ #[22, 22] ty #[.slice (some ⟨g, (i + 1) * 3, none⟩) (xs.length + 1 - (i + 1)) (cap - (i + 1)), .slice (some ⟨g, i * 3, none⟩) (xs.length + 1 - i) (cap - i)]).run Try.prog w.drew = .ok (goInt ((xs.length - i : Nat) : Int)) (w.drew.setRow g (spliced (flat xs ++ rest) ((i + 1) * 3) (flat (xs.drop i))).toArray) := fun ty => by
    have hm : Nat.min (xs.length + 1 - i) (xs.length + 1 - (i + 1)) = xs.length - i := by rw [show xs.length + 1 - (i + 1) = xs.length - i by omega]; exact Nat.min_eq_right (by omega)
    have := run_copy41 hID ty ((i + 1) * 3) (xs.length + 1 - (i + 1)) (cap - (i + 1)) ⟨g, i * 3, none⟩ (xs.length + 1 - i) (cap - i) (flat (xs.drop i)) (by rw [hdr, hm]) (fun j v hj => by
      have h2 := hID.get (i * 3) ((xs.length - i) * 3) j v
      rw [List.drop_append_of_le_length (by rw [flat_length]; omega), flat_drop, List.take_append_of_le_length (by rw [hdr]; exact Nat.le_refl _), List.take_of_length_le (by rw [hdr]; exact Nat.le_refl _)] at h2
      exact h2 hj) (by rw [hdr, List.length_append, flat_length, hlen]; omega) (flat_one _)
    rwa [hm] at this
  have e1 : spliced (flat xs ++ rest) ((i + 1) * 3) (flat (xs.drop i)) = flat (xs.take i) ++ (cells3 y ++ (flat (xs.drop i) ++ rest.drop 3)) := by
    have := spliced_flat (xs.take i ++ [y]) (flat (xs.drop (i + 1)) ++ rest) (flat (xs.drop i))
    rw [hlt3] at this
    rw [e0, this, flat_append]
    have hd2 : (flat (xs.drop (i + 1)) ++ rest).drop (flat (xs.drop i)).length = rest.drop 3 := by
      rw [List.drop_append, List.drop_eq_nil_of_le (by rw [hdr, flat_length, List.length_drop]; omega), List.nil_append]
      congr 1
      rw [hdr, flat_length, List.length_drop]; omega
    rw [hd2]
    simp [flat, List.append_assoc]
  have hI1 := hID.put ((i + 1) * 3) (flat (xs.drop i)) (by rw [hdr, List.length_append, flat_length, hlen]; omega)
  rw [e1] at hcpy1 hI1
  obtain ⟨w1, hw1⟩ : ∃ w1, w1 = w.drew.setRow g (flat (xs.take i) ++ (cells3 y ++ (flat (xs.drop i) ++ rest.drop 3))).toArray := ⟨_, rfl⟩
  rw [← hw1] at hcpy1 hI1
  have hB1 : Below base w w1 := by rw [hw1]; exact below_row (Below.refl _ _).drew hg _
  have hs1 : w1.heap[s]? = some (.cells #[.string x.f0, .bool x.f1, .string x.f2] 41) := by rw [hw1, setRow_other _ _ _ _ hne]; exact hs
  have hcl : (cells3 y).length = 3 := rfl
  have hcpy2 : ∀ ty, (Builtin.copy_ #[22, 22] ty #[.slice (some ⟨g, i * 3, none⟩) (xs.length + 1 - i) (cap - i), .slice (some ⟨s, 0, none⟩) 1 1]).run Try.prog w1 = .ok (goInt 1) (w1.setRow g (spliced (flat (xs.take i) ++ (cells3 y ++ (flat (xs.drop i) ++ rest.drop 3))) (i * 3) (cells3 x)).toArray) := fun ty => by
    have hm : Nat.min 1 (xs.length + 1 - i) = 1 := Nat.min_eq_left (by omega)
    have := run_copy41 hI1 ty (i * 3) (xs.length + 1 - i) (cap - i) ⟨s, 0, none⟩ 1 1 (cells3 x) (by rw [hm]; rfl) (cells3_get hs1) (by rw [List.length_append, flat_length, hlt2, List.length_append, hcl]; show i * 3 + 3 ≤ _; omega) (cells3_one x)
    rwa [hm] at this
  have e2 : spliced (flat (xs.take i) ++ (cells3 y ++ (flat (xs.drop i) ++ rest.drop 3))) (i * 3) (cells3 x) = flat (xs.take i ++ x :: xs.drop i) ++ rest.drop 3 := by
    have := spliced_flat (xs.take i) (cells3 y ++ (flat (xs.drop i) ++ rest.drop 3)) (cells3 x)
    rw [hlt2] at this
    rw [this, show (cells3 x).length = (cells3 y).length from rfl, List.drop_left, flat_append, flat_cons]
    simp [List.append_assoc]
  have hI2 := hI1.put (i * 3) (cells3 x) (by rw [List.length_append, flat_length, hlt2, List.length_append, hcl]; show i * 3 + 3 ≤ _; omega)
  rw [e2] at hcpy2 hI2
  have hln : (xs.take i ++ x :: xs.drop i).length = xs.length + 1 := by simp; omega
  refine (insert_room_walk xs.length i cap g s w w1 _ hl hi hcp hI.2.2 hov hcpy1 hcpy2).mono ?_
  rintro e w' ⟨rfl, rfl⟩
  have := im_R (base := base) (ok := fun _ => True) hI2 (by rw [hln]; exact hcp) hg trivial
  rw [hln] at this
  exact ⟨_, rfl, this, below_row hB1 hg _⟩
/-- slices.Insert(row, i, x). -/
theorem insert_calls (xs : List S41) (x : S41) (s base i : Nat) (v : Value) (w : World) (hR : Kd.R k41 41 w base (fun k => k ≠ s) v xs) (hs : w.heap[s]? = some (.cells #[.string x.f0, .bool x.f1, .string x.f2] 41)) (hb : base ≤ w.heap.size) (hl : xs.length ≤ 1000000) (hi : i ≤ xs.length) :
    Calls Try.prog 49 #[v, .int .i64 i, .slice (some ⟨s, 0, none⟩) 1 1] w fun e w' => ∃ v' : Value, e = .returned v' ∧ Kd.R k41 41 w' base (fun _ => True) v' (xs.take i ++ x :: xs.drop i) ∧ Below base w w' := by
  by_cases he : i = xs.length
  · subst he
    rw [List.take_length, List.drop_length]
    exact insert_end xs x s base v w (Kd.R_mono hR (fun _ _ => trivial)) hs hb hl
  · have hi' : i < xs.length := by omega
    rcases R_im hR with ⟨rfl, _⟩ | ⟨g, cap, rest, rfl, hgs, hg, hlc, hI⟩
    · simp at hi'
    · by_cases hcp : xs.length + 1 ≤ cap
      · exact insert_room xs x s base g i cap rest w hI hs (Ne.symm hgs) hg hl hi' hcp
      · have hce : cap = xs.length := by omega
        subst hce
        have hr : rest = [] := by
          have := hI.2.1
          rw [List.length_append, flat_length] at this
          exact List.eq_nil_of_length_eq_zero (by omega)
        subst hr
        rw [List.append_nil] at hI
        exact insert_grow xs x s base g i w hI hs hb hl hi'
end Go.Proofs.Yteblpjnkinghoaa.J
/- The contract of slices.Delete at images, one element, of a row of the call's own. -/
namespace Go.Proofs.Yteblpjnkinghoaa.J
open Go.BigFrame Go.RowKit Go.Proofs.YteblpjnkinghoaaW.PrintWords Go.Proofs.YteblpjnkinghoaaW.PrintLast Go.Proofs.YteblpjnkinghoaaW.PrintMore
/-- An append whose run is known, as one step of a region that draws. -/
theorem step_append_runI {P : Program} {ops : Array Oper} {o : Oper} {a : Act} {w : World} {K : Act → World → Prop} {Q : Exit → Act → World → Prop} {E : Prop}
    (hg : o.guard = none) (d x : Operand) (dT sT : TypeId) (hop : o.op = Op.call { callee := Callee.builtin Builtin.append, args := #[d, x], argTypes := #[dT, sT] })
    (v u : Value) (hd : a.eval d = v) (hx : a.eval x = u) {v' : Value} {w' : World} (hr : (Builtin.append_ #[dT, sT] o.type #[v, u]).run P w = .ok v' w') (hK : K (a.put o.dst v') w') :
    if Region.wanted o (yielded ops a.tmps) = true then Oper.wp P o a w K Q else E := by
  have hw : Region.wanted o (yielded ops a.tmps) = true := by simp [Region.wanted, hg]
  rw [if_pos hw]
  unfold Oper.wp
  simp [execOp, hop, resolve, invoke, builtin, hd, hx, hr, Result.andThen]
  exact hK
/-- A clear whose run is known. -/
theorem wpList_clear_runI {P : Program} (w : World) {ops : Array Oper} {rest : List Oper} {o : Oper} {a : Act} {Q : Exit → Act → World → Prop} (hgd : o.guard = none) (d : Operand) (t : TypeId)
    (ho : o.op = .call { callee := .builtin .clear, args := #[d], argTypes := #[t] }) (v : Value) (hd : a.eval d = v) {v' : Value} {w' : World}
    (hr : (Builtin.clear_ #[t] o.type #[v]).run P w = .ok v' w') (h : wpList P ops Q rest (a.put o.dst v') w') : wpList P ops Q (o :: rest) a w :=
  wpList_plain hgd fun _ hK => by
    unfold Oper.wp execOp
    simp only [ho, resolve, invoke, builtin, Sem.run_bind, Sem.run_pure, Result.andThen_ok, List.map_toArray, List.map_cons, List.map_nil, hd, hr]
    exact hK _ _ h
set_option maxHeartbeats 4000000 in
set_option maxRecDepth 100000 in
/-- The walk; there is something behind the row's one. -/
theorem delete_walk (n i cp g : Nat) (w w1 w2 : World) (hn : n ≤ 1000000) (hi : i < n) (hcp : n ≤ cp) (hcm : cp ≤ maxLen) (hb2 : ¬ (cp = i + 1))
    (happ : ∀ ty, (Builtin.append_ #[22, 22] ty #[.slice (some ⟨g, 0, none⟩) i cp, .slice (some ⟨g, (i + 1) * 3, none⟩) (n - (i + 1)) (cp - (i + 1))]).run Try.prog w.drew = .ok (.slice (some ⟨g, 0, none⟩) (n - 1) cp) w1)
    (hclr : ∀ ty, (Builtin.clear_ #[22] ty #[.slice (some ⟨g, (n - 1) * 3, none⟩) 1 (cp - (n - 1))]).run Try.prog w1 = .ok (.tuple #[]) w2) :
    Calls Try.prog 50 #[.slice (some ⟨g, 0, none⟩) n cp, .int .i64 i, .int .i64 ((i : Int) + 1)] w fun e w' => e = .returned (.slice (some ⟨g, 0, none⟩) (n - 1) cp) ∧ w' = w2 := by
  have HC1 := Aside0.mk happ
  have HC2 := Aside0.mk hclr
  have hcm' : cp ≤ 9223372036854775807 := hcm
  clear happ hclr hcm
  have hb1 : (0 : Int) ≤ (i : Int) + 1 := by omega
  have hb0 : (i : Int) ≤ (n : Int) := by omega
  have hb3 : (i : Int) + 1 ≤ (n : Int) := by omega
  have htn : ((i : Int) + 1).toNat = i + 1 := by omega
  have hb4 : ¬ (cp = i) := by omega
  have hb6 : ((i : Int) == (i : Int) + 1) = false := by rw [Bool.eq_false_iff]; simp; omega
  have hb7 : ¬ ((i : Int) = (i : Int) + 1) := by omega
  have hin : i ≤ n := by omega
  have hb8 : (i : Int) ≤ (cp : Int) := by omega
  have hb9 : i ≤ cp := by omega
  go_enter Try.func50, Try.ntmps50
  go_upto_region 5 with (fail)
  go_region_law (refine step_append_runI rfl (.tmp 22) (.tmp 25) 22 22 rfl (.slice (some ⟨g, 0, none⟩) i cp) (.slice (some ⟨g, (i + 1) * 3, none⟩) (n - (i + 1)) (cp - (i + 1))) (by simp [Act.eval, Act.put]) (by simp [Act.eval, Act.put]) (HC1.out _) ?_)
  obtain ⟨m, rfl⟩ : ∃ m, n = m + 1 := ⟨n - 1, by omega⟩
  simp only [Nat.add_sub_cancel] at HC2 ⊢
  have hm1 : (0 : Int) ≤ (m : Int) := by omega
  have hm2 : (m : Int) ≤ (m : Int) + 1 := by omega
  have hm3 : (m : Int) + 1 ≤ (cp : Int) := by omega
  have hm4 : ¬ (cp = m) := by omega
  have hm5 : m + 1 - m = 1 := by omega
  go_wp2_with (first | (refine wpList_clear_runI _ rfl (.tmp 31) 22 rfl (.slice (some ⟨g, m * 3, none⟩) 1 (cp - m)) ?hd (HC2.out _) ?_; (case hd => simp [Act.eval, Act.put])))
  go_ret
  exact ⟨rfl, rfl⟩
set_option maxHeartbeats 4000000 in
set_option maxRecDepth 100000 in
/-- The walk; the row is full, its last goes. -/
theorem delete_walk_last (i g : Nat) (w w1 w2 : World) (hn : i ≤ 1000000)
    (happ : ∀ ty, (Builtin.append_ #[22, 22] ty #[.slice (some ⟨g, 0, none⟩) i (i + 1), .slice (some ⟨g, 0, none⟩) 0 0]).run Try.prog w.drew = .ok (.slice (some ⟨g, 0, none⟩) i (i + 1)) w1)
    (hclr : ∀ ty, (Builtin.clear_ #[22] ty #[.slice (some ⟨g, i * 3, none⟩) 1 1]).run Try.prog w1 = .ok (.tuple #[]) w2) :
    Calls Try.prog 50 #[.slice (some ⟨g, 0, none⟩) (i + 1) (i + 1), .int .i64 i, .int .i64 ((i : Int) + 1)] w fun e w' => e = .returned (.slice (some ⟨g, 0, none⟩) i (i + 1)) ∧ w' = w2 := by
  have HC1 := Aside0.mk happ
  have HC2 := Aside0.mk hclr
  clear happ hclr
  have hb1 : (0 : Int) ≤ (i : Int) + 1 := by omega
  have hb0 : (i : Int) ≤ (i : Int) + 1 := by omega
  have htn : ((i : Int) + 1).toNat = i + 1 := by omega
  have hb4 : ¬ (i + 1 = i) := by omega
  have hb6 : ((i : Int) == (i : Int) + 1) = false := by rw [Bool.eq_false_iff]; simp; omega
  have hb7 : ¬ ((i : Int) = (i : Int) + 1) := by omega
  have hb9 : i ≤ i + 1 := by omega
  have hm5 : i + 1 - i = 1 := by omega
  go_enter Try.func50, Try.ntmps50
  go_upto_region 5 with (fail)
  go_region_law (refine step_append_runI rfl (.tmp 22) (.tmp 25) 22 22 rfl (.slice (some ⟨g, 0, none⟩) i (i + 1)) (.slice (some ⟨g, 0, none⟩) 0 0) (by simp [Act.eval, Act.put]) (by simp [Act.eval, Act.put]) (HC1.out _) ?_)
  go_wp2_with (first | (refine wpList_clear_runI _ rfl (.tmp 31) 22 rfl (.slice (some ⟨g, i * 3, none⟩) 1 1) ?hd (HC2.out _) ?_; (case hd => simp [Act.eval, Act.put])))
  go_ret
  exact ⟨rfl, rfl⟩
/-- append(s[:i], s[i + 1:]...): in place. -/
theorem run_append41_room {w : World} {g cap : Nat} {cs : List Value} (h : Im w g cap cs) (ty : TypeId) (sLen m c : Nat) (a : Addr) (vs : List Value) (hl : vs.length = m * 3) (hn : ∀ j u, vs[j]? = some u → w.cell? (a.add j) = some u) (h1 : ∀ u ∈ vs, u.oneCell' = true)
    (hroom : sLen + m ≤ cap) : (Builtin.append_ #[22, 22] ty #[.slice (some ⟨g, 0, none⟩) sLen cap, .slice (some a) m c]).run Try.prog w = .ok (.slice (some ⟨g, 0, none⟩) (sLen + m) cap) (w.setRow g (spliced cs (sLen * 3) vs).toArray) := by
  obtain ⟨i, hi, hz, _, _⟩ := info41p
  have := run_append_room (P := Try.prog) w 22 ty 41 i Try.underlying22 hi g sLen cap cs.toArray h.1 a m c vs (by rw [hl, hz]) hn h1 hroom (by rw [hl, hz, List.size_toArray, h.2.1]; omega)
  rw [hz] at this
  exact this
/-- slices.Delete(row, i, i + 1). -/
theorem delete_calls (xs : List S41) (base i : Nat) (v : Value) (w : World) (hR : Kd.R k41 41 w base (fun _ => True) v xs) (hl : xs.length ≤ 1000000) (hi : i < xs.length) :
    Calls Try.prog 50 #[v, .int .i64 i, .int .i64 ((i : Int) + 1)] w fun e w' => ∃ v' : Value, e = .returned v' ∧ Kd.R k41 41 w' base (fun _ => True) v' (xs.take i ++ xs.drop (i + 1)) ∧ Below base w w' := by
  rcases R_im hR with ⟨rfl, _⟩ | ⟨g, cap, rest, rfl, _, hg, hlc, hI⟩
  · simp at hi
  have hlen : rest.length = (cap - xs.length) * 3 := by have := hI.2.1; rw [List.length_append, flat_length] at this; omega
  have hlt2 : (xs.take i).length = i := by rw [List.length_take]; omega
  have hdr : (flat (xs.drop (i + 1))).length = (xs.length - (i + 1)) * 3 := by rw [flat_length, List.length_drop]
  have hID := hI.below ((Below.refl w.heap.size w).drew)
  obtain ⟨y, hy⟩ : ∃ y, xs.drop i = y :: xs.drop (i + 1) := ⟨xs[i], List.drop_eq_getElem_cons hi⟩
  have e0 : flat xs ++ rest = flat (xs.take i) ++ (flat (xs.drop i) ++ rest) := by rw [← List.append_assoc, ← flat_append, List.take_append_drop]
  have hln : (xs.take i ++ xs.drop (i + 1)).length = xs.length - 1 := by rw [List.length_append, hlt2, List.length_drop]; omega
  -- what is left behind the row's new end: the cells of one image, then what was spare
  obtain ⟨L, hL3, e1⟩ : ∃ L : List Value, L.length = 3 ∧ spliced (flat xs ++ rest) (i * 3) (flat (xs.drop (i + 1))) = flat (xs.take i ++ xs.drop (i + 1)) ++ (L ++ rest) := by
    have h1 := spliced_flat (xs.take i) (flat (xs.drop i) ++ rest) (flat (xs.drop (i + 1)))
    rw [hlt2] at h1
    have hld : (flat (xs.drop i)).length = (xs.length - i) * 3 := by rw [flat_length, List.length_drop]
    refine ⟨(flat (xs.drop i)).drop (flat (xs.drop (i + 1))).length, ?_, ?_⟩
    · rw [List.length_drop, hdr, hld]; omega
    · rw [e0, h1, flat_append, List.drop_append_of_le_length (by rw [hdr, hld]; omega)]
  have hI1 := hID.put (i * 3) (flat (xs.drop (i + 1))) (by rw [hdr, List.length_append, flat_length, hlen]; omega)
  rw [e1] at hI1
  obtain ⟨w1, hw1⟩ : ∃ w1, w1 = w.drew.setRow g (flat (xs.take i ++ xs.drop (i + 1)) ++ (L ++ rest)).toArray := ⟨_, rfl⟩
  rw [← hw1] at hI1
  have hB1 : Below base w w1 := by rw [hw1]; exact below_row (Below.refl _ _).drew hg _
  have hz : (Builtin.zeroCells (Value.agg #[(.string ⟨#[]⟩), (.bool false), (.string ⟨#[]⟩)]).cells 1).toList.length = 3 := by rw [Array.length_toList, zeroCells3_length]
  have hlf : (xs.length - 1) * 3 + 1 * 3 ≤ (flat (xs.take i ++ xs.drop (i + 1)) ++ (L ++ rest)).length := by rw [List.length_append, flat_length, hln, List.length_append, hL3]; omega
  have hclr : ∀ ty c, (Builtin.clear_ #[22] ty #[.slice (some ⟨g, (xs.length - 1) * 3, none⟩) 1 c]).run Try.prog w1 = _ := fun ty c => run_clear41 hI1 ty ((xs.length - 1) * 3) 1 c (by decide) hlf
  have hI2 := hI1.put ((xs.length - 1) * 3) (Builtin.zeroCells (Value.agg #[(.string ⟨#[]⟩), (.bool false), (.string ⟨#[]⟩)]).cells 1).toList (by rw [hz]; exact hlf)
  have e2 := spliced_flat (xs.take i ++ xs.drop (i + 1)) (L ++ rest) (Builtin.zeroCells (Value.agg #[(.string ⟨#[]⟩), (.bool false), (.string ⟨#[]⟩)]).cells 1).toList
  rw [hln] at e2
  rw [e2, List.append_assoc] at hI2
  rw [e2] at hclr
  have hfin : ∀ w', w' = w1.setRow g (flat (xs.take i ++ xs.drop (i + 1)) ++ (Builtin.zeroCells (Value.agg #[(.string ⟨#[]⟩), (.bool false), (.string ⟨#[]⟩)]).cells 1).toList ++ (L ++ rest).drop (Builtin.zeroCells (Value.agg #[(.string ⟨#[]⟩), (.bool false), (.string ⟨#[]⟩)]).cells 1).toList.length).toArray →
      Kd.R k41 41 w' base (fun _ => True) (.slice (some ⟨g, 0, none⟩) (xs.length - 1) cap) (xs.take i ++ xs.drop (i + 1)) ∧ Below base w w' := fun w' hw' => by
    subst hw'
    have := im_R (base := base) (ok := fun _ => True) (w := w1.setRow g (flat (xs.take i ++ xs.drop (i + 1)) ++ (Builtin.zeroCells (Value.agg #[(.string ⟨#[]⟩), (.bool false), (.string ⟨#[]⟩)]).cells 1).toList ++ (L ++ rest).drop (Builtin.zeroCells (Value.agg #[(.string ⟨#[]⟩), (.bool false), (.string ⟨#[]⟩)]).cells 1).toList.length).toArray) (by rw [List.append_assoc]; exact hI2) (by rw [hln]; omega) hg trivial
    rw [hln] at this
    exact ⟨this, below_row hB1 hg _⟩
  by_cases hc : cap = i + 1
  · have hxl : xs.length = i + 1 := by omega
    have happ : ∀ ty, (Builtin.append_ #[22, 22] ty #[.slice (some ⟨g, 0, none⟩) i (i + 1), .slice (some ⟨g, 0, none⟩) 0 0]).run Try.prog w.drew = .ok (.slice (some ⟨g, 0, none⟩) i (i + 1)) w1 := fun ty => by
      have hnil : xs.drop (i + 1) = [] := List.drop_eq_nil_of_le (by omega)
      have := run_append41_room hID ty i 0 0 ⟨g, 0, none⟩ [] rfl (by simp) (by simp) (by omega)
      rw [hnil] at e1
      rw [show flat ([] : List S41) = [] from rfl] at e1
      rw [e1, Nat.add_zero, hc] at this
      rw [hw1, hnil]
      exact this
    rw [hxl, hc]
    refine (delete_walk_last i g w w1 _ (by omega) happ (fun ty => by have := hclr ty 1; rw [hxl, Nat.add_sub_cancel] at this; exact this)).mono ?_
    rintro e w' ⟨rfl, hw'⟩
    have := hfin w' hw'
    rw [hxl, Nat.add_sub_cancel, hc] at this
    exact ⟨_, rfl, this⟩
  · have happ : ∀ ty, (Builtin.append_ #[22, 22] ty #[.slice (some ⟨g, 0, none⟩) i cap, .slice (some ⟨g, (i + 1) * 3, none⟩) (xs.length - (i + 1)) (cap - (i + 1))]).run Try.prog w.drew = .ok (.slice (some ⟨g, 0, none⟩) (xs.length - 1) cap) w1 := fun ty => by
      have := run_append41_room hID ty i (xs.length - (i + 1)) (cap - (i + 1)) ⟨g, (i + 1) * 3, none⟩ (flat (xs.drop (i + 1))) hdr (fun j u hj => by
        have h2 := hID.get ((i + 1) * 3) ((xs.length - (i + 1)) * 3) j u
        rw [List.drop_append_of_le_length (by rw [flat_length]; omega), flat_drop, List.take_append_of_le_length (by rw [hdr]; exact Nat.le_refl _), List.take_of_length_le (by rw [hdr]; exact Nat.le_refl _)] at h2
        exact h2 hj) (flat_one _) (by omega)
      rw [e1, show i + (xs.length - (i + 1)) = xs.length - 1 by omega, ← hw1] at this
      exact this
    refine (delete_walk xs.length i cap g w w1 _ hl hi hlc hI.2.2 hc happ (fun ty => hclr ty _)).mono ?_
    rintro e w' ⟨rfl, hw'⟩
    exact ⟨_, rfl, hfin w' hw'⟩
end Go.Proofs.Yteblpjnkinghoaa.J
/- The contracts of slices.ContainsFunc, slices.Clone and slices.BinarySearchFunc at images, as journal.Apply calls them. -/
namespace Go.Proofs.Yteblpjnkinghoaa.J
open Go.BigFrame Go.RowKit Go.Proofs.YteblpjnkinghoaaW.PrintWords Go.Proofs.YteblpjnkinghoaaW.PrintLast Go.Proofs.YteblpjnkinghoaaW.PrintMore
theorem not_img_calls (x : S41) (w : World) : Calls Try.prog 43 #[.agg #[.string x.f0, .bool x.f1, .string x.f2]] w fun e w' => e = .returned (.bool (!img x)) ∧ Below w.heap.size w w' := by
  have hnot : ∀ (x : Bool) (w : World), (Op.unary .not (.bool x)).run Try.prog w = .ok (.bool (!x)) w := fun _ _ => rfl
  go_enter Try.func43, Try.ntmps43
  go_wp2_with fail
  refine (img_calls x _).mono ?_
  rintro e w1 ⟨rfl, hb⟩
  go_wp2
  go_ret
  exact ⟨rfl, below_step ((Below.refl _ _).alloc (Nat.le_refl _) _) hb⟩
/-- The first image of which p holds, from k on. -/
def idx41 (p : S41 → Bool) : List S41 → Int → Int
  | [], _ => -1
  | n :: l, k => if p n then k else idx41 p l (k + 1)
theorem idx41_any (p : S41 → Bool) : ∀ (l : List S41) (k : Int), 0 ≤ k → decide (0 ≤ idx41 p l k) = l.any p
  | [], _, _ => rfl
  | n :: l, k, h => by
    unfold idx41
    rw [List.any_cons]
    cases hp : p n
    · simpa using idx41_any p l (k + 1) (by omega)
    · simp [h]
theorem index41_calls (A0 : Option Addr) (c0 : Nat) (l0 : List S41) (w : World) (hr0 : Kd.C k41 w A0 l0.length l0) :
    Calls Try.prog 68 #[.slice A0 l0.length c0, .func (.func 43) #[] #[]] w fun e w' => e = .returned (.int .i64 (idx41 (fun n => !img n) l0 0)) ∧ Below w.heap.size w w' := by
  have HR0 := Aside0.mk hr0
  have hlm : l0.length ≤ 9223372036854775807 := Kd.C_max hr0
  clear hr0
  go_enter Try.func68, Try.ntmps68
  go_wp2
  go_loopg [8] (l0.length + 1) (fun kq v8 w' => ∃ k : Nat, k ≤ l0.length ∧ v8 = .int .i64 k ∧ Aside0 (kq + k = l0.length + 1) ∧ Aside0 (idx41 (fun n => !img n) l0 0 = idx41 (fun n => !img n) (l0.drop k) k) ∧ Aside0 (Below w.heap.size w w'))
  case atStart => exact ⟨0, Nat.zero_le _, rfl, ⟨by omega⟩, ⟨by simp⟩, ⟨Below.refl _ _⟩⟩
  case round =>
    obtain ⟨k, hk, rfl, HQ, HX, HB⟩ := hrel
    by_cases hlt : k < l0.length
    · obtain ⟨ad, rfl, h0, h1, h2⟩ := at_T41 (Kd.C_below HR0.out HB.out) (k : Int) (by omega) (by omega)
      rw [Int.toNat_natCast] at h0 h1 h2
      have hd := drop_rd41 hlt
      generalize rd_T41 l0 (k : Int) = n at h0 h1 h2 hd
      have HX' := Aside0.mk (HX.out.trans (congrArg (fun l => idx41 (fun n => !img n) l k) hd))
      clear hd HX
      have HC := Aside0.mk (fun w => not_img_calls n w)
      cases hv : img n
      · rw [hv] at HC
        have HY := Aside0.mk (HX'.out.trans (show idx41 (fun n => !img n) (n :: l0.drop (k + 1)) k = k by unfold idx41; rw [hv]; rfl))
        clear hv HX'
        go_wp2_with (go_at_call 43; refine (HC.out _).mono ?_; rintro e w1 ⟨rfl, hb⟩)
        go_ret
        exact ⟨by rw [HY.out]; rfl, below_step HB.out hb⟩
      · rw [hv] at HC
        have HY := Aside0.mk (HX'.out.trans (show idx41 (fun n => !img n) (n :: l0.drop (k + 1)) k = idx41 (fun n => !img n) (l0.drop (k + 1)) (k + 1) by rw [idx41]; rw [hv]; rfl))
        clear hv HX'
        go_wp2_with (go_at_call 43; refine (HC.out _).mono ?_; rintro e w1 ⟨rfl, hb⟩)
        go_roundg (gk - 1)
        case measure => have := HQ.out; omega
        case rel => exact ⟨k + 1, by omega, by go_num, ⟨by have := HQ.out; omega⟩, ⟨by rw [HY.out]; rfl⟩, ⟨below_step HB.out hb⟩⟩
    · have hke : k = l0.length := by omega
      subst hke
      have HY := Aside0.mk (HX.out.trans (show idx41 (fun n => !img n) (l0.drop l0.length) l0.length = -1 by rw [List.drop_length]; rfl))
      clear HX
      go_wp2
      go_ret
      exact ⟨by rw [HY.out]; rfl, HB.out⟩
theorem contains41_calls (A0 : Option Addr) (c0 : Nat) (l0 : List S41) (w : World) (hr0 : Kd.C k41 w A0 l0.length l0) :
    Calls Try.prog 42 #[.slice A0 l0.length c0, .func (.func 43) #[] #[]] w fun e w' => e = .returned (.bool (!l0.all img)) ∧ Below w.heap.size w w' := by
  have HR0 := Aside0.mk hr0
  clear hr0
  have HI := Aside0.mk ((idx41_any (fun n => !img n) l0 0 (by omega)).trans (show l0.any (fun n => !img n) = !l0.all img by rw [List.all_eq_not_any_not, Bool.not_not]))
  go_enter Try.func42, Try.ntmps42
  go_wp2_with (go_at_call 68; refine (index41_calls _ _ _ _ HR0.out).mono ?_; rintro e w1 ⟨rfl, hb⟩)
  go_ret
  exact ⟨by rw [← HI.out]; rfl, hb⟩
set_option maxRecDepth 100000 in
/-- slices.Clone. -/
theorem clone_calls (A0 : Option Addr) (c0 : Nat) (l0 : List S41) (w : World) (hr0 : Kd.C k41 w A0 l0.length l0) (hl : l0.length ≤ 1000000) :
    Calls Try.prog 45 #[.slice A0 l0.length c0] w fun e w' => ∃ v : Value, e = .returned v ∧ Kd.R k41 41 w' w.heap.size (fun _ => True) v l0 ∧ Below w.heap.size w w' := by
  have q22 : ∀ (w : World) (a : Option Addr) (n c n' c' : Nat), (binOp .eql 22 (.slice a n c) (.slice none n' c')).run Try.prog w = .ok (.bool a.isNone) w := fun w a n c n' c' => Lib.run_eql_slice_nil w _ _ a n c n' c' Try.underlying22
  cases A0 with
  | none =>
    have h0 : l0 = [] := by
      cases l0 with
      | nil => rfl
      | cons x l => obtain ⟨ad, h, _⟩ := hr0.2.2 (by simp); cases h
    subst h0
    clear hr0
    go_enter Try.func45, Try.ntmps45
    go_wp2
    go_ret
    exact ⟨_, rfl, Kd.R_nil _ _ _ _ _, Below.refl _ _⟩
  | some ad =>
    have HR0 := Aside0.mk hr0
    clear hr0
    go_enter Try.func45, Try.ntmps45
    go_wp2_with (first | (at_builtin; refine Kd.R_append_rows k41 (Rr := k41.K w) (w0 := w) w.heap.size rfl (.tmp 5) (.tmp 6) 22 41 (.agg #[(.string ⟨#[]⟩), (.bool false), (.string ⟨#[]⟩)]) 40 rfl Try.underlying22 info41 rfl (by decide) (by decide) _ [] l0 (some ad) l0.length c0 (fun _ => True) (fun _ => False) rfl rfl ?aO ?aR ?aK (fun _ hk => hk.elim) (fun _ _ => trivial) ?aB ?aS ?aL ?_; (case aO => exact R_lit0 w w.heap.size _ (Nat.le_refl _) trivial); (case aR => exact ReadsRow.imp_ HR0.out ((Below.refl _ _).alloc (Nat.le_refl _) _) (fun _ _ hp => hp)); (case aK => exact fun x cs hx => k41_KM _ _ _ x cs hx); (case aB => exact (Below.refl _ _).alloc (Nat.le_refl _) _); (case aS => simp); (case aL => simp; omega); intro v1 w1 ho hb _ _; rw [List.nil_append] at ho))
    go_ret
    exact ⟨_, rfl, ho, hb⟩
/-- strings.Compare's number. -/
def cmpV (a b : ByteArray) : Int := Lib.compareBytes a.data.toList b.data.toList
theorem compare0_calls (a b : ByteArray) (w : World) : Calls Try.prog 69 #[.string a, .string b] w fun e w' => e = .returned (.int .i64 (cmpV a b)) ∧ Below w.heap.size w w' := by
  have hc : (callFunc 84 #[.string a, .string b]).run Try.prog w = .ok (.value (.int .i64 (cmpV a b))) w := by
    rw [run_callFunc_extern Try.func84 (by kernel_rfl) (by kernel_rfl) (by kernel_rfl) (e := Extern.BytealgCompare.compare) (by kernel_rfl), Lib.run_compareString]
    rfl
  go_enter Try.func69, Try.ntmps69
  go_wp2_with (simp only [hc])
  go_ret
  exact ⟨rfl, Below.refl _ _⟩
theorem compare_calls (a b : ByteArray) (w : World) : Calls Try.prog 48 #[.string a, .string b] w fun e w' => e = .returned (.int .i64 (cmpV a b)) ∧ Below w.heap.size w w' := by
  go_enter Try.func48, Try.ntmps48
  go_wp2_with fail
  refine (compare0_calls a b _).mono ?_
  rintro e w1 ⟨rfl, hb⟩
  go_wp2
  go_ret
  exact ⟨rfl, hb⟩
theorem cmp_calls (x : S41) (k : ByteArray) (w : World) : Calls Try.prog 47 #[.agg #[.string x.f0, .bool x.f1, .string x.f2], .string k] w fun e w' => e = .returned (.int .i64 (cmpV x.f0 k)) ∧ Below w.heap.size w w' := by
  go_enter Try.func47, Try.ntmps47
  go_wp2_with fail
  refine (compare_calls x.f0 k _).mono ?_
  rintro e w1 ⟨rfl, hb⟩
  go_wp2
  go_ret
  exact ⟨rfl, below_step ((Below.refl _ _).alloc (Nat.le_refl _) _) hb⟩
theorem cmpB_less : ∀ (a b : List UInt8), decide (Lib.compareBytes a b < 0) = Op.bytesLess a b
  | [], [] => rfl
  | [], _ :: _ => rfl
  | _ :: _, [] => rfl
  | x :: a, y :: b => by
    unfold Lib.compareBytes Op.bytesLess
    by_cases h1 : x < y
    · simp [h1]
    · by_cases h2 : y < x
      · have hne : ¬ (x = y) := fun e => by subst e; exact h1 h2
        simp [h1, h2, hne]
      · have he : x = y := UInt8.le_antisymm (UInt8.not_lt.1 h2) (UInt8.not_lt.1 h1)
        subst he
        simp [h1, cmpB_less a b]
theorem cmpB_eq : ∀ (a b : List UInt8), Lib.compareBytes a b = 0 ↔ a = b
  | [], [] => by simp [Lib.compareBytes]
  | [], _ :: _ => by simp [Lib.compareBytes]
  | _ :: _, [] => by simp [Lib.compareBytes]
  | x :: a, y :: b => by
    unfold Lib.compareBytes
    by_cases h1 : x < y
    · have hne : ¬ (x = y) := fun e => by subst e; exact UInt8.lt_irrefl _ h1
      simp [h1, hne]
    · by_cases h2 : y < x
      · have hne : ¬ (x = y) := fun e => by subst e; exact h1 h2
        simp [h1, h2, hne]
      · have he : x = y := UInt8.le_antisymm (UInt8.not_lt.1 h2) (UInt8.not_lt.1 h1)
        subst he
        simp [h1, cmpB_eq a b]
theorem cmpV_less (a b : ByteArray) : decide (cmpV a b < 0) = kless a b := by
  unfold cmpV kless
  rw [cmpB_less, ByteArray.toList_eq, ByteArray.toList_eq]
theorem cmpV_eq (a b : ByteArray) : cmpV a b = 0 ↔ a = b := by
  unfold cmpV
  rw [cmpB_eq]
  cases a; cases b
  simp
/-- Where a key's place is. -/
def kpos (xs : List S41) (k : ByteArray) : Nat := (xs.takeWhile fun y => kless y.f0 k).length
def kthere (xs : List S41) (k : ByteArray) : Bool := decide (kpos xs k < xs.length) && decide ((rd_T41 xs (kpos xs k)).f0 = k)
set_option maxHeartbeats 1000000 in
set_option maxRecDepth 100000 in
/-- slices.BinarySearchFunc, where what stands before the key's place stands at the beginning. -/
theorem search_calls (xs : List S41) (key : ByteArray) (A : Option Addr) (c : Nat) (w : World) (hC : Kd.C k41 w A xs.length xs) (hl : xs.length ≤ 1000000)
    (hs : ∀ t, kpos xs key ≤ t → t < xs.length → kless (rd_T41 xs (t : Int)).f0 key = false) :
    Calls Try.prog 46 #[.slice A xs.length c, .string key, .func (.func 47) #[] #[]] w fun e w' => e = .returned (.tuple #[.int .i64 (kpos xs key), .bool (kthere xs key)]) ∧ Below w.heap.size w w' := by
  have HC := Aside0.mk hC
  have HS := Aside0.mk hs
  have HT := Aside0.mk (show kthere xs key = (decide (kpos xs key < xs.length) && decide ((rd_T41 xs (kpos xs key)).f0 = key)) from rfl)
  have HW := Aside0.mk (show ∀ t, t < kpos xs key → kless (rd_T41 xs (t : Int)).f0 key = true from fun t ht => tw_at (fun y => kless y.f0 key) xs t ht)
  have hk : kpos xs key ≤ xs.length := tw_le _ _
  clear hC hs
  generalize kpos xs key = kp at *
  generalize kthere xs key = th at *
  go_enter Try.func46, Try.ntmps46
  go_wp2
  go_loopg [9, 10] (xs.length + 1) (fun kq v9 v10 w' => ∃ i j : Nat, v9 = .int .i64 i ∧ v10 = .int .i64 j ∧ i ≤ kp ∧ kp ≤ j ∧ j ≤ xs.length ∧ Aside0 (kq + i = j + 1) ∧ Aside0 (Below w.heap.size w w'))
  case atStart => exact ⟨0, xs.length, rfl, rfl, by omega, hk, by omega, ⟨by omega⟩, ⟨Below.refl _ _⟩⟩
  case round =>
    obtain ⟨i, j, rfl, rfl, hi, hj, hjn, HQ, HB⟩ := hrel
    by_cases hlt : i < j
    · go_upto_region 5 with (fail)
      obtain ⟨h, hh⟩ : ∃ h : Nat, ((i : Int) + (j : Int)) / 2 = h := ⟨(i + j) / 2, by omega⟩
      have hih : i ≤ h := by omega
      have hhj : h < j := by omega
      simp only [hh]
      clear hh
      obtain ⟨ad, rfl, h0, h1, h2⟩ := at_T41 (Kd.C_below HC.out HB.out) (h : Int) (by omega) (by omega)
      rw [Int.toNat_natCast] at h0 h1 h2
      by_cases hkk : h < kp
      · have hv : kless (rd_T41 xs (h : Int)).f0 key = true := HW.out h hkk
        generalize rd_T41 xs (h : Int) = x at h0 h1 h2 hv
        have hcv : decide (cmpV x.f0 key < 0) = true := by rw [cmpV_less]; exact hv
        have HCL := Aside0.mk (fun w => cmp_calls x key w)
        clear hv
        generalize cmpV x.f0 key = cv at HCL hcv
        go_wp2_with (go_at_call 47; refine (HCL.out _).mono ?_; rintro e w1 ⟨rfl, hb⟩)
        go_roundg (j - h)
        case measure => have := HQ.out; omega
        case rel => exact ⟨h + 1, j, by go_num, rfl, by omega, by omega, by omega, ⟨by omega⟩, ⟨below_step HB.out hb⟩⟩
      · have hv : kless (rd_T41 xs (h : Int)).f0 key = false := HS.out h (by omega) (by omega)
        generalize rd_T41 xs (h : Int) = x at h0 h1 h2 hv
        have hcv : decide (cmpV x.f0 key < 0) = false := by rw [cmpV_less]; exact hv
        have HCL := Aside0.mk (fun w => cmp_calls x key w)
        clear hv
        generalize cmpV x.f0 key = cv at HCL hcv
        go_wp2_with (go_at_call 47; refine (HCL.out _).mono ?_; rintro e w1 ⟨rfl, hb⟩)
        go_roundg (h - i + 1)
        case measure => have := HQ.out; omega
        case rel => exact ⟨i, h, rfl, rfl, by omega, by omega, by omega, ⟨by omega⟩, ⟨below_step HB.out hb⟩⟩
    · have : i = kp := by omega
      subst this
      by_cases hlt2 : i < xs.length
      · obtain ⟨ad, rfl, h0, h1, h2⟩ := at_T41 (Kd.C_below HC.out HB.out) (i : Int) (by omega) (by omega)
        rw [Int.toNat_natCast] at h0 h1 h2
        have HT2 := Aside0.mk (show th = decide ((rd_T41 xs (i : Int)).f0 = key) by rw [HT.out, decide_eq_true hlt2, Bool.true_and])
        generalize rd_T41 xs (i : Int) = x at h0 h1 h2 HT2
        have hcv : (cmpV x.f0 key == 0) = th := by rw [HT2.out, Bool.eq_iff_iff]; simp [cmpV_eq]
        have HCL := Aside0.mk (fun w => cmp_calls x key w)
        clear HT HT2
        have d1 : decide ((i : Int) < (xs.length : Int)) = true := decide_eq_true (by omega)
        generalize cmpV x.f0 key = cv at HCL hcv
        go_wp2_with (go_at_call 47; refine (HCL.out _).mono ?_; rintro e w1 ⟨rfl, hb⟩)
        go_ret2
        exact ⟨rfl, below_step HB.out hb⟩
      · have ht : th = false := by rw [HT.out, decide_eq_false hlt2, Bool.false_and]
        subst ht
        clear HT
        have d1 : decide ((i : Int) < (xs.length : Int)) = false := decide_eq_false (by omega)
        go_wp2
        go_ret2
        exact ⟨rfl, HB.out⟩
end Go.Proofs.Yteblpjnkinghoaa.J
/- The order of keys, and what an image does to a sorted state. -/
namespace Go.Proofs.Yteblpjnkinghoaa.J
open Go.RowKit
theorem bl_trans : ∀ {a b c : List UInt8}, Op.bytesLess a b = true → Op.bytesLess b c = true → Op.bytesLess a c = true
  | _, _, [], _, h => by unfold Op.bytesLess at h; cases h
  | [], _, _ :: _, _, _ => rfl
  | _ :: _, [], _ :: _, h, _ => by cases h
  | x :: a, y :: b, z :: c, h1, h2 => by
    unfold Op.bytesLess at h1 h2 ⊢
    simp only [Bool.or_eq_true, decide_eq_true_eq, Bool.and_eq_true, beq_iff_eq] at h1 h2 ⊢
    rcases h1 with h1 | ⟨rfl, h1⟩
    · rcases h2 with h2 | ⟨rfl, h2⟩
      · exact .inl (UInt8.lt_trans h1 h2)
      · exact .inl h1
    · rcases h2 with h2 | ⟨rfl, h2⟩
      · exact .inl h2
      · exact .inr ⟨rfl, bl_trans h1 h2⟩
theorem bl_tri : ∀ {a b : List UInt8}, Op.bytesLess a b = false → a ≠ b → Op.bytesLess b a = true
  | [], [], _, h => absurd rfl h
  | [], _ :: _, h, _ => by cases h
  | _ :: _, [], _, _ => rfl
  | x :: a, y :: b, h, hne => by
    unfold Op.bytesLess at h ⊢
    simp only [Bool.or_eq_false_iff, decide_eq_false_iff_not, Bool.and_eq_false_iff, beq_eq_false_iff_ne] at h
    simp only [Bool.or_eq_true, decide_eq_true_eq, Bool.and_eq_true, beq_iff_eq]
    by_cases hxy : x = y
    · subst hxy
      refine .inr ⟨rfl, bl_tri (h.2.resolve_left (fun h => h rfl)) (fun e => hne (by rw [e]))⟩
    · exact .inl (UInt8.lt_of_le_of_ne (UInt8.not_lt.1 h.1) (Ne.symm hxy))
theorem toList_inj {a b : ByteArray} (h : a.toList = b.toList) : a = b := by
  rw [ByteArray.toList_eq, ByteArray.toList_eq] at h; cases a; cases b; simpa using h
theorem kless_trans {a b c : ByteArray} (h1 : kless a b = true) (h2 : kless b c = true) : kless a c = true := bl_trans h1 h2
theorem kless_tri {a b : ByteArray} (h : kless a b = false) (hne : a ≠ b) : kless b a = true := bl_tri h (fun e => hne (toList_inj e))
/-- A state in order. -/
def Sorted (l : List S41) : Prop := l.Pairwise fun a b => kless a.f0 b.f0 = true
theorem apRest_cons (x y : S41) (r : List S41) : apRest x (y :: r) = if y.f0 = x.f0 then r else y :: r := rfl
theorem rest_sorted {x : S41} {l : List S41} (h : Sorted l) (hx : ∀ y ∈ l.head?, kless y.f0 x.f0 = false) : Sorted (apRest x l) ∧ ∀ b ∈ apRest x l, kless x.f0 b.f0 = true := by
  cases l with
  | nil => exact ⟨List.Pairwise.nil, fun b hb => by cases hb⟩
  | cons y r =>
    have hy := hx y rfl
    have hp := List.pairwise_cons.1 h
    rw [apRest_cons]
    by_cases he : y.f0 = x.f0
    · rw [if_pos he]
      exact ⟨hp.2, fun b hb => by rw [← he]; exact hp.1 b hb⟩
    · rw [if_neg he]
      have hxy := kless_tri hy he
      refine ⟨h, fun b hb => ?_⟩
      rcases List.mem_cons.1 hb with rfl | hb
      · exact hxy
      · exact kless_trans hxy (hp.1 b hb)
theorem tw_all (p : S41 → Bool) : ∀ (l : List S41) (a : S41), a ∈ l.takeWhile p → p a = true
  | [], _, h => by cases h
  | b :: l, a, h => by
    rw [List.takeWhile_cons] at h
    split at h
    · rcases List.mem_cons.1 h with rfl | h
      · assumption
      · exact tw_all p l a h
    · cases h
theorem dw_head (p : S41 → Bool) : ∀ (l : List S41), ∀ y ∈ (l.dropWhile p).head?, p y = false
  | [], y, h => by cases h
  | b :: l, y, h => by
    rw [List.dropWhile_cons] at h
    split at h
    · exact dw_head p l y h
    · rename_i hp
      cases h
      exact Bool.eq_false_iff.2 hp
theorem rest_sub (x : S41) (l : List S41) : ∀ b ∈ apRest x l, b ∈ l := by
  cases l with
  | nil => intro b hb; exact hb
  | cons y r =>
    intro b hb
    rw [apRest_cons] at hb
    split at hb
    · exact List.mem_cons_of_mem _ hb
    · exact hb
theorem apStep_sorted {cur : List S41} (h : Sorted cur) (x : S41) : Sorted (apStep cur x) := by
  have hs : Sorted (cur.takeWhile (fun y => kless y.f0 x.f0) ++ cur.dropWhile (fun y => kless y.f0 x.f0)) := by rw [List.takeWhile_append_dropWhile]; exact h
  obtain ⟨h1, h2, h3⟩ := List.pairwise_append.1 hs
  obtain ⟨h4, h5⟩ := rest_sorted (x := x) h2 (dw_head _ _)
  have h6 := tw_all (fun y => kless y.f0 x.f0) cur
  unfold apStep Sorted
  rw [List.pairwise_append, List.pairwise_append]
  refine ⟨⟨h1, ?_, fun a ha b hb => ?_⟩, h4, fun a ha b hb => ?_⟩
  · split <;> simp
  · split at hb
    · rw [List.mem_singleton] at hb; subst hb; exact h6 a ha
    · cases hb
  · rcases List.mem_append.1 ha with ha | ha
    · exact h3 a ha b (rest_sub x _ b hb)
    · split at ha
      · rw [List.mem_singleton] at ha; subst ha; exact h5 b hb
      · cases ha
theorem rd_mem {l : List S41} {t : Nat} (h : t < l.length) : rd_T41 l (t : Int) = l[t] := by
  unfold rd_T41; rw [Int.toNat_natCast, List.getD_eq_getElem?_getD, List.getElem?_eq_getElem h]; rfl
theorem sorted_behind {cur : List S41} (h : Sorted cur) (key : ByteArray) (t : Nat) (h1 : kpos cur key ≤ t) (h2 : t < cur.length) : kless (rd_T41 cur (t : Int)).f0 key = false := by
  have he := tw_end (fun y => kless y.f0 key) cur (by have : kpos cur key < cur.length := by omega
                                                      exact this)
  change kless (rd_T41 cur (kpos cur key : Int)).f0 key = false at he
  rcases Nat.lt_or_eq_of_le h1 with hlt | rfl
  · cases hk : kless (rd_T41 cur (t : Int)).f0 key with
    | false => rfl
    | true =>
      rw [rd_mem (by omega)] at he
      rw [rd_mem h2] at hk
      have := List.pairwise_iff_getElem.1 h (kpos cur key) t (by omega) h2 hlt
      rw [kless_trans this hk] at he
      cases he
  · exact he
/-- What the program does to its row, case by case. -/
theorem apStep_put {cur : List S41} {x : S41} (hf : x.f1 = true) (ht : kthere cur x.f0 = true) : apStep cur x = cur.take (kpos cur x.f0) ++ x :: cur.drop (kpos cur x.f0 + 1) := by
  unfold kthere at ht
  simp only [Bool.and_eq_true, decide_eq_true_eq] at ht
  have hd := List.drop_eq_getElem_cons ht.1
  rw [rd_mem ht.1] at ht
  unfold apStep
  rw [if_pos hf, ← tw_take, ← tw_drop]
  change cur.take (kpos cur x.f0) ++ [x] ++ apRest x (cur.drop (kpos cur x.f0)) = _
  rw [hd, apRest, if_pos ht.2]
  simp
theorem apStep_ins {cur : List S41} {x : S41} (hf : x.f1 = true) (ht : kthere cur x.f0 = false) : apStep cur x = cur.take (kpos cur x.f0) ++ x :: cur.drop (kpos cur x.f0) := by
  unfold apStep
  rw [if_pos hf, ← tw_take, ← tw_drop]
  change cur.take (kpos cur x.f0) ++ [x] ++ apRest x (cur.drop (kpos cur x.f0)) = _
  have : apRest x (cur.drop (kpos cur x.f0)) = cur.drop (kpos cur x.f0) := by
    by_cases hlt : kpos cur x.f0 < cur.length
    · unfold kthere at ht
      rw [decide_eq_true hlt, Bool.true_and, decide_eq_false_iff_not, rd_mem hlt] at ht
      rw [List.drop_eq_getElem_cons hlt, apRest, if_neg ht]
    · rw [List.drop_eq_nil_of_le (by omega)]; rfl
  rw [this]; simp
theorem apStep_del {cur : List S41} {x : S41} (hf : x.f1 = false) (ht : kthere cur x.f0 = true) : apStep cur x = cur.take (kpos cur x.f0) ++ cur.drop (kpos cur x.f0 + 1) := by
  unfold kthere at ht
  simp only [Bool.and_eq_true, decide_eq_true_eq] at ht
  have hd := List.drop_eq_getElem_cons ht.1
  rw [rd_mem ht.1] at ht
  unfold apStep
  rw [if_neg (by rw [hf]; decide), ← tw_take, ← tw_drop]
  change cur.take (kpos cur x.f0) ++ [] ++ apRest x (cur.drop (kpos cur x.f0)) = _
  rw [hd, apRest, if_pos ht.2]
  simp
theorem apStep_no {cur : List S41} {x : S41} (hf : x.f1 = false) (ht : kthere cur x.f0 = false) : apStep cur x = cur := by
  unfold apStep
  rw [if_neg (by rw [hf]; decide), ← tw_take, ← tw_drop]
  change cur.take (kpos cur x.f0) ++ [] ++ apRest x (cur.drop (kpos cur x.f0)) = _
  have : apRest x (cur.drop (kpos cur x.f0)) = cur.drop (kpos cur x.f0) := by
    by_cases hlt : kpos cur x.f0 < cur.length
    · unfold kthere at ht
      rw [decide_eq_true hlt, Bool.true_and, decide_eq_false_iff_not, rd_mem hlt] at ht
      rw [List.drop_eq_getElem_cons hlt, apRest, if_neg ht]
    · rw [List.drop_eq_nil_of_le (by omega)]; rfl
  rw [this, List.append_nil, List.take_append_drop]
theorem good_sorted {l : List S41} (h : (List.range l.length).all (goodAt l) = true) : Sorted l := by
  have hadj : ∀ k, k + 1 < l.length → kless (rd_T41 l (k : Int)).f0 (rd_T41 l ((k + 1 : Nat) : Int)).f0 = true := fun k hk => by
    have := List.all_eq_true.1 h (k + 1) (List.mem_range.2 hk)
    unfold goodAt at this
    simp only [Bool.and_eq_true, Bool.or_eq_true, decide_eq_true_eq] at this
    have h2 := this.2.resolve_left (by omega)
    rw [show ((k + 1 : Nat) : Int) - 1 = k by omega] at h2
    exact h2
  refine List.pairwise_iff_getElem.2 fun i j hi hj hij => ?_
  induction j with
  | zero => omega
  | succ j ih =>
    have hs := hadj j hj
    rw [rd_mem (by omega), rd_mem hj] at hs
    rcases Nat.lt_or_eq_of_le (Nat.le_of_lt_succ hij) with hlt | rfl
    · exact kless_trans (ih (by omega) hlt) hs
    · exact hs
end Go.Proofs.Yteblpjnkinghoaa.J
/- The contract of journal.Apply. -/
namespace Go.Proofs.Yteblpjnkinghoaa.J
open Go.BigFrame Go.RowKit Go.Proofs.YteblpjnkinghoaaW.PrintWords Go.Proofs.YteblpjnkinghoaaW.PrintLast Go.Proofs.YteblpjnkinghoaaW.PrintMore
/-- Whether images are a state, as journal.ordered has it. -/
def ordV (l : List S41) : Bool := (List.range l.length).all (goodAt l) && decide (l.length ≤ 500)
def journal_Apply.f (l0 : List (S41)) (l1 : List (S41)) : Option ((List (S41)) × Int) :=
  if l1.length ≤ 900000 then
    (if ordV l0 = true ∧ l1.all img = true then (if 500 < (l1.foldl apStep l0).length then some ([], 4) else some (l1.foldl apStep l0, 0)) else some ([], 1))
  else none
theorem Im.set3 {w : World} {g cap : Nat} {cs : List Value} (h : Im w g cap cs) (o : Nat) (x : S41) (hf : o + 3 ≤ cs.length) :
    Im (((w.setCell ⟨g, o, none⟩ (.string x.f0)).setCell ⟨g, o + 1, none⟩ (.bool x.f1)).setCell ⟨g, o + 2, none⟩ (.string x.f2)) g cap (spliced cs o (cells3 x)) := by
  obtain ⟨cur', h1, h2, h3⟩ := setCells_row (cells3 x) o w cs.toArray h.1 (by simpa [cells3] using hf)
  refine ⟨?_, by rw [spliced_length _ _ _ (by simpa [cells3] using hf)]; exact h.2.1, h.2.2⟩
  have e : cur' = (spliced cs o (cells3 x)).toArray := Array.ext' (by rw [h3]; rfl)
  rw [e] at h1
  exact h1
theorem apply_no (A0 : Option Addr) (c0 : Nat) (l0 : List (S41)) (A1 : Option Addr) (c1 : Nat) (l1 : List (S41)) (w : World) (hr0 : Kd.C k41 w A0 l0.length l0) (hc0 : l0.length ≤ c0) (hr1 : Kd.C k41 w A1 l1.length l1) (hc1 : l1.length ≤ c1) (h : ¬ (ordV l0 = true ∧ l1.all img = true)) :
    Calls Try.prog 20 #[.slice A0 l0.length c0, .slice A1 l1.length c1] w fun e w' => e = .returned (.tuple #[.slice none 0 0, .int .i64 1]) ∧ Below w.heap.size w w' := by
  have HR0 := Aside0.mk hr0
  have HC0 := Aside0.mk hc0
  have HR1 := Aside0.mk hr1
  have HC1 := Aside0.mk hc1
  have HO := Aside0.mk (show journal_ordered.f l0 = some (ordV l0) from rfl)
  clear hr0 hc0 hr1 hc1
  cases ho : ordV l0 with
  | false =>
    rw [ho] at HO
    clear h ho
    go_enter Try.func20, Try.ntmps20
    go_wp2_with (go_at_call 36; refine (journal_ordered.calls _ _ _ _ _ HR0.out HC0.out HO.out).mono ?_; rintro r w1 ⟨rfl, hb⟩)
    go_ret2
    exact ⟨rfl, hb⟩
  | true =>
    have hi : l1.all img = false := Bool.eq_false_iff.2 (fun hi => h ⟨ho, hi⟩)
    rw [ho] at HO
    have HI := Aside0.mk hi
    clear h ho hi
    go_enter Try.func20, Try.ntmps20
    go_wp2_with (first | (go_at_call 36; refine (journal_ordered.calls _ _ _ _ _ HR0.out HC0.out HO.out).mono ?_; rintro r w1 ⟨rfl, hb⟩) | (go_at_call 42; refine (contains41_calls _ _ _ _ (Kd.C_below HR1.out hb)).mono ?_; rintro r w2 ⟨rfl, hb2⟩; rw [HI.out]))
    go_ret2
    exact ⟨rfl, below_step hb hb2⟩
set_option maxHeartbeats 4000000 in
set_option maxRecDepth 100000 in
theorem apply_yes (A0 : Option Addr) (c0 : Nat) (l0 : List (S41)) (A1 : Option Addr) (c1 : Nat) (l1 : List (S41)) (w : World) (hr0 : Kd.C k41 w A0 l0.length l0) (hc0 : l0.length ≤ c0) (hr1 : Kd.C k41 w A1 l1.length l1) (hc1 : l1.length ≤ c1) (ho : ordV l0 = true) (hi : l1.all img = true) (hl : l1.length ≤ 900000)
    (r1 : List S41) (r2 : Int) (hr : (if 500 < (l1.foldl apStep l0).length then (([] : List S41), (4 : Int)) else (l1.foldl apStep l0, 0)) = (r1, r2)) :
    Calls Try.prog 20 #[.slice A0 l0.length c0, .slice A1 l1.length c1] w fun e w' => ∃ v0_ : Value, e = .returned (.tuple #[v0_, .int .i64 r2]) ∧ Kd.R k41 41 w' w.heap.size (fun _ => True) v0_ r1 ∧ Below w.heap.size w w' := by
  have hl0 : l0.length ≤ 500 := by unfold ordV at ho; simp at ho; exact ho.2
  have hso : Sorted l0 := good_sorted (by unfold ordV at ho; rw [Bool.and_eq_true] at ho; exact ho.1)
  have HSO := Aside0.mk hso
  have HR0 := Aside0.mk hr0
  have HC0 := Aside0.mk hc0
  have HR1 := Aside0.mk hr1
  have HC1 := Aside0.mk hc1
  have HI := Aside0.mk hi
  have HRR := Aside0.mk hr
  have HO := Aside0.mk (show journal_ordered.f l0 = some true by rw [← ho]; rfl)
  clear hr0 hc0 hr1 hc1 hi ho hso hr
  go_enter Try.func20, Try.ntmps20
  go_wp2_with (first | (go_at_call 36; refine (journal_ordered.calls _ _ _ _ _ HR0.out HC0.out HO.out).mono ?_; rintro r w1 ⟨rfl, hb⟩) | (go_at_call 42; refine (contains41_calls _ _ _ _ (Kd.C_below HR1.out hb)).mono ?_; rintro r w2 ⟨rfl, hb2⟩; rw [HI.out]) | (go_at_call 45; refine (clone_calls _ _ _ _ (Kd.C_below (Kd.C_below HR0.out hb) hb2) (by omega)).mono ?_; rintro r w3 ⟨v3, rfl, ho3, hb3⟩))
  have hB3 := below_step (below_step hb hb2) hb3
  have HO3 := Aside0.mk (Kd.R_lower ho3 (below_size (below_step hb hb2)))
  have HB3 := Aside0.mk hB3
  clear hb hb2 hb3 ho3 hB3 HR0 HC0 HO HI
  go_loopg [6, 22] (l1.length + 1) (fun kq v6 v22 w' => ∃ (i : Nat) (cur : List S41), v22 = .int .i64 i ∧ i ≤ l1.length ∧ Aside0 (kq + i = l1.length + 1) ∧ Aside0 ((l1.drop i).foldl apStep cur = l1.foldl apStep l0) ∧ Aside0 (cur.length ≤ 500 + i) ∧ Aside0 (Sorted cur) ∧ Aside0 (Kd.R k41 41 w' w.heap.size (fun _ => True) v6 cur) ∧ Aside0 (Below w.heap.size w w'))
  case atStart => exact ⟨0, l0, rfl, by omega, ⟨by omega⟩, ⟨rfl⟩, ⟨by omega⟩, HSO, HO3, HB3⟩
  case round =>
    clear HO3 HB3 HSO
    obtain ⟨i, cur, rfl, hi, HQ, HS, HL, HSO, HO, HB⟩ := hrel
    by_cases hlt : i < l1.length
    · obtain ⟨a1, rfl, h0, h1, h2⟩ := at_T41 (Kd.C_below HR1.out HB.out) (i : Int) (by omega) (by omega)
      rw [Int.toNat_natCast] at h0 h1 h2
      have HS2 := Aside0.mk (show (l1.drop (i + 1)).foldl apStep (apStep cur (rd_T41 l1 (i : Int))) = l1.foldl apStep l0 by rw [← HS.out, drop_rd41 hlt]; rfl)
      generalize rd_T41 l1 (i : Int) = x at h0 h1 h2 HS2
      clear HS
      obtain ⟨A, c, hv6, hlc, hC⟩ := Kd.R_reads HO.out
      subst hv6
      have HSE := Aside0.mk (fun (w' : World) (hC : Kd.C k41 w' A cur.length cur) => search_calls cur x.f0 A c w' hC (by have := HL.out; omega) (fun t h1 h2 => sorted_behind HSO.out x.f0 t h1 h2))
      have hkl : kpos cur x.f0 ≤ cur.length := tw_le _ _
      clear hC
      have hkk := heap_alloc_new wr (.cells #[.string x.f0, .bool x.f1, .string x.f2] 41)
      have HB5 := Aside0.mk (HB.out.alloc (below_size HB.out) (.cells #[.string x.f0, .bool x.f1, .string x.f2] 41))
      have HO5 := Aside0.mk (show Kd.R k41 41 (wr.alloc (.cells #[.string x.f0, .bool x.f1, .string x.f2] 41)) w.heap.size (fun k => k ≠ wr.heap.size) (.slice A cur.length c) cur from Kd.R_alloc (Kd.R_mono (Kd.R_bound HO.out) (fun k hk => by have := hk.2.2.1; omega)) _)
      obtain ⟨tb, htb⟩ : ∃ tb, tb = wr.heap.size := ⟨_, rfl⟩
      go_upto_region 8 with (first | (go_at_call 46; generalize wr.alloc (.cells #[.string x.f0, .bool x.f1, .string x.f2] 41) = w5 at hkk HB5 HO5 ⊢; refine (HSE.out _ (R_C41 HO5.out).1).mono ?_; rintro r w6 ⟨rfl, hb6⟩))
      have HB6 := Aside0.mk (below_step HB5.out hb6)
      have HO6 := Aside0.mk (Kd.R_below HO5.out hb6)
      have hk6 := (hb6.block _ (Array.getElem?_eq_some_iff.1 hkk).1).trans hkk
      have hlt6 := (Array.getElem?_eq_some_iff.1 hk6).1
      clear HSE HB5 HO5 hkk hb6 HO HB h0 h1 h2 htb
      have hkt : kthere cur x.f0 = true → kpos cur x.f0 < cur.length := fun h => by unfold kthere at h; simp at h; exact h.1
      obtain ⟨x0, x1, x2⟩ := x
      have hc0 := (blk_cell hk6 0).trans (show _ = some (Value.string x0) from rfl)
      have hc1 := (blk_cell hk6 1).trans (show _ = some (Value.bool x1) from rfl)
      have hc2 := (blk_cell hk6 2).trans (show _ = some (Value.string x2) from rfl)
      have HAL := Aside0.mk (apStep_le cur ⟨x0, x1, x2⟩)
      have HAS := Aside0.mk (apStep_sorted HSO.out ⟨x0, x1, x2⟩)
      clear hk6 HSO
      simp only at hkt hkl ⊢
      cases x1
      · cases ht : kthere cur x0
        · have HAP := Aside0.mk (apStep_no (cur := cur) (x := ⟨x0, false, x2⟩) rfl ht)
          clear ht hkt
          generalize kpos cur x0 = kp at hkl ⊢
          go_wp2
          go_roundg (gk - 1)
          case measure => have := HQ.out; omega
          case rel => exact ⟨i + 1, _, rfl, by omega, ⟨by have := HQ.out; omega⟩, HS2, ⟨by have := HL.out; have := HAL.out; omega⟩, HAS, ⟨by rw [HAP.out]; exact Kd.R_mono HO6.out (fun _ _ => trivial)⟩, HB6⟩
        · have HAP := Aside0.mk (apStep_del (cur := cur) (x := ⟨x0, false, x2⟩) rfl ht)
          have hkl2 := hkt ht
          clear ht hkt
          change Aside0 (apStep cur ⟨x0, false, x2⟩ = cur.take (kpos cur x0) ++ cur.drop (kpos cur x0 + 1)) at HAP
          generalize kpos cur x0 = kp at hkl hkl2 HAP ⊢
          have hkb : kp ≤ 2000000 := by have := HL.out; omega
          have HDE := Aside0.mk (delete_calls cur w.heap.size kp _ w6 (Kd.R_mono HO6.out (fun _ _ => trivial)) (by have := HL.out; omega) hkl2)
          go_wp2_with (go_at_call 50; refine HDE.out.mono ?_; rintro r w7 ⟨v7, rfl, ho7, hb7⟩)
          go_roundg (gk - 1)
          case measure => have := HQ.out; omega
          case rel => exact ⟨i + 1, _, rfl, by omega, ⟨by have := HQ.out; omega⟩, HS2, ⟨by have := HL.out; have := HAL.out; omega⟩, HAS, ⟨by rw [HAP.out]; exact ho7⟩, ⟨HB6.out.trans hb7⟩⟩
      · cases ht : kthere cur x0
        · have HAP := Aside0.mk (apStep_ins (cur := cur) (x := ⟨x0, true, x2⟩) rfl ht)
          clear ht hkt
          change Aside0 (apStep cur ⟨x0, true, x2⟩ = cur.take (kpos cur x0) ++ ⟨x0, true, x2⟩ :: cur.drop (kpos cur x0)) at HAP
          generalize kpos cur x0 = kp at hkl HAP ⊢
          have HIN := Aside0.mk (insert_calls cur ⟨x0, true, x2⟩ w6.heap.size w.heap.size kp (.slice A cur.length c) (w6.alloc (.cells #[.string x0, .bool true, .string x2] 41)) (Kd.R_alloc (Kd.R_mono (Kd.R_bound HO6.out) (fun k hk => by have := hk.2.2.1; omega)) _) (heap_alloc_new _ _) (by have := below_size HB6.out; simp; omega) (by have := HL.out; omega) hkl)
          have HB6' := Aside0.mk (HB6.out.alloc (below_size HB6.out) (.cells #[.string x0, .bool true, .string x2] 41))
          go_wp2_with (go_at_call 49; refine HIN.out.mono ?_; rintro r w7 ⟨v7, rfl, ho7, hb7⟩)
          go_roundg (gk - 1)
          case measure => have := HQ.out; omega
          case rel => exact ⟨i + 1, _, rfl, by omega, ⟨by have := HQ.out; omega⟩, HS2, ⟨by have := HL.out; have := HAL.out; omega⟩, HAS, ⟨by rw [HAP.out]; exact ho7⟩, ⟨HB6'.out.trans hb7⟩⟩
        · have HAP := Aside0.mk (apStep_put (cur := cur) (x := ⟨x0, true, x2⟩) rfl ht)
          have hkl2 := hkt ht
          clear ht hkt
          change Aside0 (apStep cur ⟨x0, true, x2⟩ = cur.take (kpos cur x0) ++ ⟨x0, true, x2⟩ :: cur.drop (kpos cur x0 + 1)) at HAP
          generalize kpos cur x0 = kp at hkl hkl2 HAP ⊢
          rcases R_im HO6.out with ⟨hnil, _⟩ | ⟨g, cap, rest, hv, _, hg, hcl, hI⟩
          · subst hnil; simp at hkl2
          injection hv with e1 e2 e3
          subst e1; subst e3
          have hkb : kp ≤ 2000000 := by have := HL.out; omega
          have hcb : cur.length ≤ 2000000 := by have := HL.out; omega
          obtain ⟨y, hy⟩ : ∃ y, cur.drop kp = y :: cur.drop (kp + 1) := ⟨cur[kp], List.drop_eq_getElem_cons hkl2⟩
          have hlt3 : (cur.take kp).length = kp := by rw [List.length_take]; omega
          have e0 : flat cur ++ rest = flat (cur.take kp) ++ (cells3 y ++ (flat (cur.drop (kp + 1)) ++ rest)) := by
            have e : flat cur = flat (cur.take kp) ++ (cells3 y ++ flat (cur.drop (kp + 1))) := by rw [← flat_cons, ← hy, ← flat_append, List.take_append_drop]
            rw [e, List.append_assoc, List.append_assoc]
          have hcell : ∀ j u, (cells3 y)[j]? = some u → w6.cell? ⟨g, kp * 3 + j, none⟩ = some u := fun j u hj => hI.cell _ _ (by
            rw [e0, List.getElem?_append_right (by rw [flat_length, hlt3]; omega), flat_length, hlt3, Nat.add_sub_cancel_left, List.getElem?_append_left (List.getElem?_eq_some_iff.1 hj).1]; exact hj)
          have z0 : w6.cell? ⟨g, kp * 3, none⟩ = some (.string y.f0) := hcell 0 _ rfl
          have z1 := hcell 1 _ rfl
          have z2 := hcell 2 _ rfl
          have f0 := hI.frozen (kp * 3)
          have f1 := hI.frozen (kp * 3 + 1)
          have f2 := hI.frozen (kp * 3 + 2)
          have hI9 := hI.set3 (kp * 3) ⟨x0, true, x2⟩ (by rw [List.length_append, flat_length]; omega)
          have e9 : spliced (flat cur ++ rest) (kp * 3) (cells3 ⟨x0, true, x2⟩) = flat (cur.take kp ++ ⟨x0, true, x2⟩ :: cur.drop (kp + 1)) ++ rest := by
            have h1 := spliced_flat (cur.take kp) (cells3 y ++ (flat (cur.drop (kp + 1)) ++ rest)) (cells3 ⟨x0, true, x2⟩)
            rw [hlt3] at h1
            rw [e0, h1, show (cells3 (⟨x0, true, x2⟩ : S41)).length = (cells3 y).length from rfl, List.drop_left, flat_append, flat_cons]
            simp [List.append_assoc]
          rw [e9] at hI9
          have hln : (cur.take kp ++ ⟨x0, true, x2⟩ :: cur.drop (kp + 1)).length = cur.length := by simp; omega
          have HO9 := Aside0.mk (show Kd.R k41 41 (((w6.setCell ⟨g, kp * 3, none⟩ (.string x0)).setCell ⟨g, kp * 3 + 1, none⟩ (.bool true)).setCell ⟨g, kp * 3 + 2, none⟩ (.string x2)) w.heap.size (fun _ => True) (.slice (some ⟨g, 0, none⟩) cur.length c) (cur.take kp ++ ⟨x0, true, x2⟩ :: cur.drop (kp + 1)) by
            have := im_R (base := w.heap.size) (ok := fun _ => True) hI9 (by rw [hln]; exact hlc) hg trivial
            rwa [hln] at this)
          have HB9 := Aside0.mk (((HB6.out.setCell (p := ⟨g, kp * 3, none⟩) hg (.string x0)).setCell (p := ⟨g, kp * 3 + 1, none⟩) hg (.bool true)).setCell (p := ⟨g, kp * 3 + 2, none⟩) hg (.string x2))
          clear hcell hI e0 hy hI9 e9
          go_wp2
          go_roundg (gk - 1)
          case measure => have := HQ.out; omega
          case rel => exact ⟨i + 1, _, rfl, by omega, ⟨by have := HQ.out; omega⟩, HS2, ⟨by have := HL.out; have := HAL.out; omega⟩, HAS, ⟨by rw [HAP.out]; exact HO9.out⟩, HB9⟩
    · have hi : i = l1.length := by omega
      subst hi
      have HS' := Aside0.mk (show cur = l1.foldl apStep l0 by rw [← HS.out, List.drop_length]; rfl)
      clear HS
      obtain ⟨A, c, hv6, hlc, hC⟩ := Kd.R_reads HO.out
      subst hv6
      clear hC
      rw [← HS'.out] at HRR
      by_cases h5 : 500 < cur.length
      · obtain ⟨rfl, rfl⟩ := Prod.mk.inj (show (([] : List S41), (4 : Int)) = (r1, r2) by rw [← HRR.out, if_pos h5])
        clear HRR
        go_wp2
        go_ret2
        exact ⟨_, rfl, Kd.R_nil _ _ _ _ _, HB.out⟩
      · obtain ⟨rfl, rfl⟩ := Prod.mk.inj (show (cur, (0 : Int)) = (r1, r2) by rw [← HRR.out, if_neg h5])
        clear HRR
        go_wp2
        go_ret2
        exact ⟨_, rfl, HO.out, HB.out⟩
theorem journal_Apply.calls (A0 : Option Addr) (c0 : Nat) (l0 : List (S41)) (A1 : Option Addr) (c1 : Nat) (l1 : List (S41)) (r1 : List (S41)) (r2 : Int) (w : World) (hr0 : Kd.C k41 w A0 l0.length l0) (hc0 : l0.length ≤ c0) (hr1 : Kd.C k41 w A1 l1.length l1) (hc1 : l1.length ≤ c1) (h : journal_Apply.f l0 l1 = some (r1, r2)) :
    Calls Try.prog 20 #[.slice A0 l0.length c0, .slice A1 l1.length c1] w fun e w' => ∃ v0_ : Value, e = .returned (.tuple #[v0_, .int .i64 r2]) ∧ Kd.R k41 41 w' w.heap.size (fun _ => True) v0_ r1 ∧ Below w.heap.size w w' := by
  unfold journal_Apply.f at h
  by_cases hl : l1.length ≤ 900000
  · rw [if_pos hl] at h
    by_cases hv : ordV l0 = true ∧ l1.all img = true
    · rw [if_pos hv] at h
      refine apply_yes A0 c0 l0 A1 c1 l1 w hr0 hc0 hr1 hc1 hv.1 hv.2 hl r1 r2 (Option.some.inj ?_)
      rw [← h]
      split <;> rfl
    · rw [if_neg hv] at h
      obtain ⟨rfl, rfl⟩ := Prod.mk.inj (Option.some.inj h)
      exact (apply_no A0 c0 l0 A1 c1 l1 w hr0 hc0 hr1 hc1 hv).mono fun e w' ⟨h1, h2⟩ => ⟨_, h1, Kd.R_nil _ _ _ _ _, h2⟩
  · rw [if_neg hl] at h; cases h
end Go.Proofs.Yteblpjnkinghoaa.J
/- slices.Reverse of images: the printed function and its contract, one step of the printed proof mended (two images of one row: their cells are apart). -/
namespace Go.Proofs.Yteblpjnkinghoaa.J
open Go.RowKit Go.Proofs.YteblpjnkinghoaaW.PrintWords Go.Proofs.YteblpjnkinghoaaW.PrintLast Go.Proofs.YteblpjnkinghoaaW.PrintMore
attribute [local go_sem] max2_int min2_int max_two min_two max_three min_three max_four min_four
/-! ### api_Image: function 38 -/
def api_Image.l0 : Nat → List (S41) → Int → Int → Option ((List (S41)))
  | 0, _, _, _ => none
  | k + 1, x0, x2, x3 => if x2 < x3 then (if 0 ≤ x3 then (if x3 < (x0.length : Int) then (if 0 ≤ x2 then (if x2 < (x0.length : Int) then (api_Image.l0 k ((x0.set (x2 : Int).toNat (⟨(rd_T41 x0 x3).f0, (rd_T41 x0 x3).f1, (rd_T41 x0 x3).f2⟩ : S41)).set (x3 : Int).toNat (⟨(rd_T41 x0 x2).f0, (rd_T41 x0 x2).f1, (rd_T41 x0 x2).f2⟩ : S41)) (wrap64 (x2 + 1)) (wrap64 (x3 - 1))) else (none)) else (none)) else (none)) else (none)) else (some x0)
def api_Image.f (k : Nat) (l0 : List (S41)) : Option ((List (S41))) := api_Image.l0 k l0 0 (wrap64 ((l0.length : Int) - 1))
def api_Image.T3 : Bool × List (List Nat × List Nat) := (true, [([], []), ([], []), ([], []), ([], []), ([], []), ([], []), ([4, 5], [4, 5]), ([6], [6]), ([], []), ([], []), ([8, 9], [8, 9]), ([10], [10]), ([0, 1, 0, 1, 4, 5, 6, 7, 11], [0, 1]), ([12, 7, 0, 1, 4, 5, 6, 7, 11], [7, 12]), ([2, 3, 0, 1, 2, 3, 4, 5, 6, 7, 8, 9, 10, 11, 12, 13], [2, 3]), ([14, 11, 13, 0, 1, 2, 3, 4, 5, 6, 7, 8, 9, 10, 11, 12, 13], [11, 14])])
def api_Image.B3 : List Nat := [0, 0, 0, 0, 0, 0, 48, 112, 0, 0, 768, 1792, 4083, 8179, 16383, 32767]
theorem api_Image.tab3 : rtab .any (opsOf Try.f38 3) = api_Image.T3 := by kernel_rfl
theorem api_Image.bits3 : waitsOk api_Image.T3.2 api_Image.B3 = true := by kernel_rfl
set_option maxHeartbeats 8000000 in
set_option maxRecDepth 100000 in
theorem api_Image.calls (k : Nat) (P0_ : Nat → Prop) (u9000_ : Value) (l0 : List (S41)) (r : List (S41)) (w0 w : World) (hB : Below w0.heap.size w0 w) (ho0 : Kd.R k41 41 w w0.heap.size P0_ u9000_ l0) (h : api_Image.f k l0 = some r) :
    Calls Try.prog 38 #[u9000_] w fun e w' => e = .returned (.tuple #[]) ∧ Kd.R k41 41 w' w0.heap.size (fun k_ => (P0_ k_ ∨ w.heap.size ≤ k_)) u9000_ r ∧ Below w0.heap.size w0 w' ∧ Kept w w' (fun k_ => P0_ k_) := by
  have hu41 := Try.underlying41
  have HO0 := Aside0.mk (show Kd.R k41 41 w w0.heap.size (fun k_ => (P0_ k_ ∨ w.heap.size ≤ k_)) u9000_ l0 from Kd.R_mono ho0 (fun k_ hk => (.inl hk)))
  have HK := Aside0.mk (Kept.refl w (fun k_ => P0_ k_))
  have HW0 := Aside0.mk hB.size
  have HB := Aside0.mk hB
  clear hB
  have H : (api_Image.l0 k l0 0 (wrap64 ((l0.length : Int) - 1))) = some r := h
  clear h
  have H' := Aside0.mk H
  clear H
  obtain ⟨Ao2, co2, eo2⟩ := Kd.R_slice HO0.out
  subst eo2
  go_enter Try.func38, Try.ntmps38
  go_wp2
  go_loopg [2, 3] k (fun kq v2 v3 w' => ∃ (x0_1 : List (S41)) (x2_1 : Int) (x3_1 : Int), v2 = .int .i64 x2_1 ∧ v3 = .int .i64 x3_1 ∧ Aside0 (api_Image.l0 kq x0_1 x2_1 x3_1 = some r) ∧ Aside0 (kq ≤ k) ∧ Aside0 (Kd.R k41 41 w' w0.heap.size (fun k_ => (P0_ k_ ∨ w.heap.size ≤ k_)) (.slice Ao2 l0.length co2) x0_1) ∧ Aside0 (Kept w w' (fun k_ => P0_ k_)) ∧ Aside0 (Below w0.heap.size w0 w'))
  case atStart => exact ⟨(l0), (0), (wrap64 ((l0.length : Int) - 1)), (by first | rfl | (simp; done) | (simp [*]; done)), (by first | rfl | (simp; done) | (simp [*]; done)), H', ⟨Nat.le_refl _⟩, ⟨by (with_reducible repeat (first | apply Kd.R_alloc | apply Kd.R_drewN | apply Kd.R_drew)); exact HO0.out⟩, ⟨by repeat (first | (with_reducible first | exact HK.out | apply Kept.alloc | apply Kept.drewN | apply Kept.drew) | exact HK.out)⟩, ⟨by repeat (first | (with_reducible first | exact HB.out | apply below_alloc | apply pw_below_drewN | apply below_drew1) | exact HB.out)⟩⟩
  case round =>
    clear H'
    try clear p2
    obtain ⟨x0_1, x2_1, x3_1, rfl, rfl, HA, HK1, HO_0, HK, HB⟩ := hrel
    have hl0_1 := (Kd.R_reads' HO_0.out).1
    rw [hl0_1] at HO_0
    (try simp only [hl0_1])
    cases gk with
    | zero => exact absurd HA.out (by simp [api_Image.l0])
    | succ k1 =>
      have H := HA.out
      clear HA
      simp only [api_Image.l0] at H
      by_cases c3 : x2_1 < x3_1
      · rw [if_pos c3] at H
        have c3b0 : decide (x2_1 < x3_1) = true := decide_eq_true c3
        clear c3
        by_cases c4 : 0 ≤ x3_1
        · rw [if_pos c4] at H
          have c4b0 : decide (0 ≤ x3_1) = true := decide_eq_true c4
          clear c4
          by_cases c5 : x3_1 < (x0_1.length : Int)
          · rw [if_pos c5] at H
            have c5b0 : decide (x3_1 < (x0_1.length : Int)) = true := decide_eq_true c5
            clear c5
            by_cases c6 : 0 ≤ x2_1
            · rw [if_pos c6] at H
              have c6b0 : decide (0 ≤ x2_1) = true := decide_eq_true c6
              clear c6
              by_cases c7 : x2_1 < (x0_1.length : Int)
              · rw [if_pos c7] at H
                have c7b0 : decide (x2_1 < (x0_1.length : Int)) = true := decide_eq_true c7
                clear c7
                obtain ⟨y111, hy111⟩ : ∃ y_ : List (S41), y_ = (x0_1.set (x2_1 : Int).toNat (⟨(rd_T41 x0_1 x3_1).f0, (rd_T41 x0_1 x3_1).f1, (rd_T41 x0_1 x3_1).f2⟩ : S41)) := ⟨_, rfl⟩
                replace H : (api_Image.l0 k1 (y111.set (x3_1 : Int).toNat (⟨(rd_T41 x0_1 x2_1).f0, (rd_T41 x0_1 x2_1).f1, (rd_T41 x0_1 x2_1).f2⟩ : S41)) (wrap64 (x2_1 + 1)) (wrap64 (x3_1 - 1))) = some r := by first | (rw [hy111]; with_reducible exact H) | (have H2_ := (Option.bind_some _ _).symm.trans H; rw [hy111]; with_reducible exact H2_) | (have H2_ := (Option.bind_some _ _).symm.trans H; with_reducible exact H2_) | with_reducible exact H | (rw [hy111]; exact H) | exact H
                have Ny111 := Aside0.mk hy111
                clear hy111
                obtain ⟨y112, hy112⟩ : ∃ y_ : List (S41), y_ = (y111.set (x3_1 : Int).toNat (⟨(rd_T41 x0_1 x2_1).f0, (rd_T41 x0_1 x2_1).f1, (rd_T41 x0_1 x2_1).f2⟩ : S41)) := ⟨_, rfl⟩
                replace H : (api_Image.l0 k1 y112 (wrap64 (x2_1 + 1)) (wrap64 (x3_1 - 1))) = some r := by first | (rw [hy112]; with_reducible exact H) | (have H2_ := (Option.bind_some _ _).symm.trans H; rw [hy112]; with_reducible exact H2_) | (have H2_ := (Option.bind_some _ _).symm.trans H; with_reducible exact H2_) | with_reducible exact H | (rw [hy112]; exact H) | exact H
                have Ny112 := Aside0.mk hy112
                clear hy112
                have H' := Aside0.mk H
                clear H
                try go_wp2
                have n0_ := Aside0.mk (Kd.R_drew HO_0.out)
                have n1_ := Aside0.mk (Kept.drew HK.out)
                have n2_ := Aside0.mk (below_drew1 HB.out)
                clear HO_0
                clear HK
                clear HB
                have HO_0 := n0_
                have HK := n1_
                have HB := n2_
                clear n0_ n1_ n2_
                have p109 : 0 ≤ (x3_1 : Int) := of_decide_eq_true (by first | (with_reducible assumption) | assumption)
                have q109 : x3_1 < (x0_1.length : Int) := of_decide_eq_true (by first | (with_reducible assumption) | assumption)
                obtain ⟨ad109, e109, hx109_0, hx109_1, hx109_2⟩ := at_T41 (Kd.R_reads' HO_0.out).2.2 x3_1 p109 q109
                cases e109
                replace p109 := eq_true p109
                replace q109 := eq_true q109
                have p110 : 0 ≤ (x2_1 : Int) := of_decide_eq_true (by first | (with_reducible assumption) | assumption)
                have q110 : x2_1 < (x0_1.length : Int) := of_decide_eq_true (by first | (with_reducible assumption) | assumption)
                obtain ⟨ad110, e110, hx110_0, hx110_1, hx110_2⟩ := at_T41 (Kd.R_reads' HO_0.out).2.2 x2_1 p110 q110
                obtain rfl : ad109 = ad110 := (by injection e110)
                replace p110 := eq_true p110
                replace q110 := eq_true q110
                have p8 : 0 ≤ (x2_1 : Int) := of_decide_eq_true (by first | (with_reducible assumption) | assumption)
                have q8 : (x2_1 : Int) < ((x0_1.length : Int) : Int) := of_decide_eq_true (by first | (with_reducible assumption) | assumption)
                obtain ⟨go8, co8, eo8, gb8, gl8, cl8, HG8⟩ := Kd.R_form HO_0.out (by omega)
                (first | cases eo8 | (injection eo8 with ea_ en_ ec_; (first | subst ea_ | (injection ea_ with ea_; subst ea_)); subst ec_; clear en_))
                have GB8 := Aside0.mk gb8
                have GG8 := Aside0.mk HG8
                clear gb8 gl8 HG8
                have HMgo8 := Aside0.mk (show (P0_ go8 ∨ w.heap.size ≤ go8) from (HO_0.out.1 _ rfl))
                (first | simp only [add_plain] at hx109_0 | skip)
                (first | simp only [add_plain] at hx109_1 | skip)
                (first | simp only [add_plain] at hx109_2 | skip)
                (first | simp only [add_plain] at hx110_0 | skip)
                (first | simp only [add_plain] at hx110_1 | skip)
                (first | simp only [add_plain] at hx110_2 | skip)
                obtain ⟨ce8, hcl8, hM8, hcc8, hfr8⟩ := Kd.R_elem HO_0.out z41 (x2_1 : Int) p8 q8
                obtain rfl := k41_openM hM8
                have hx8_0 : World.cell? _ ⟨go8, (x2_1 : Int).toNat * 3, none⟩ = some (.string ((rd_T41 x0_1 x2_1).f0)) := hcc8 0 _ rfl
                have hx8_1 : World.cell? _ ⟨go8, (x2_1 : Int).toNat * 3 + 1, none⟩ = some (.bool ((rd_T41 x0_1 x2_1).f1)) := hcc8 1 _ rfl
                have hx8_2 : World.cell? _ ⟨go8, (x2_1 : Int).toNat * 3 + 2, none⟩ = some (.string ((rd_T41 x0_1 x2_1).f2)) := hcc8 2 _ rfl
                have hf8_0 : World.frozen? _ ⟨go8, (x2_1 : Int).toNat * 3, none⟩ = false := hfr8 0
                have hf8_1 : World.frozen? _ ⟨go8, (x2_1 : Int).toNat * 3 + 1, none⟩ = false := hfr8 1
                have hf8_2 : World.frozen? _ ⟨go8, (x2_1 : Int).toNat * 3 + 2, none⟩ = false := hfr8 2
                clear hcl8 hcc8 hfr8 hM8
                replace p8 := eq_true p8
                replace q8 := eq_true q8
                obtain ⟨ce11, hcl11, hM11, hcc11, hfr11⟩ := Kd.R_elem HO_0.out z41 (x2_1 : Int) (of_decide_eq_true (by first | (with_reducible assumption) | assumption)) (by have h_ : (x2_1 : Int) < ((x0_1.length : Int) : Int) := of_decide_eq_true (by first | (with_reducible assumption) | assumption); first | exact h_ | (have e_ := (Kd.R_reads' HO_0.out).1; omega) | simpa using h_)
                obtain rfl := k41_openM hM11
                have HP11 := (Kd.R_seg HO_0.out (x2_1 : Int) (of_decide_eq_true (by first | (with_reducible assumption) | assumption)) (by have h_ : (x2_1 : Int) < ((x0_1.length : Int) : Int) := of_decide_eq_true (by first | (with_reducible assumption) | assumption); first | exact h_ | (have e_ := (Kd.R_reads' HO_0.out).1; omega) | simpa using h_) (seg := [.string ((rd_T41 x0_1 x3_1).f0), .bool ((rd_T41 x0_1 x3_1).f1), .string ((rd_T41 x0_1 x3_1).f2)]) (j := 0) hcl11 hcc11 (show 3 ≤ 3 from by decide) (x' := (⟨(rd_T41 x0_1 x3_1).f0, (rd_T41 x0_1 x3_1).f1, (rd_T41 x0_1 x3_1).f2⟩ : S41)) (k41_mkM _ _ _ (⟨(rd_T41 x0_1 x3_1).f0, (rd_T41 x0_1 x3_1).f1, (rd_T41 x0_1 x3_1).f2⟩ : S41) ) (fun _ hk => hk)).1
                rw [← Ny111.out] at HP11
                have HQ11 := Aside0.mk HP11
                clear hcl11 hcc11 hfr11 hM11 HP11
                have p9 : 0 ≤ (x3_1 : Int) := of_decide_eq_true (by first | (with_reducible assumption) | assumption)
                have q9 : (x3_1 : Int) < ((x0_1.length : Int) : Int) := of_decide_eq_true (by first | (with_reducible assumption) | assumption)
                obtain ⟨ce9, hcl9, hM9, hcc9, hfr9⟩ := Kd.R_elem HQ11.out z41 (x3_1 : Int) p9 q9
                obtain rfl := k41_openM hM9
                have hx9_0 : World.cell? _ ⟨go8, (x3_1 : Int).toNat * 3, none⟩ = some (.string ((rd_T41 y111 x3_1).f0)) := hcc9 0 _ rfl
                have hx9_1 : World.cell? _ ⟨go8, (x3_1 : Int).toNat * 3 + 1, none⟩ = some (.bool ((rd_T41 y111 x3_1).f1)) := hcc9 1 _ rfl
                have hx9_2 : World.cell? _ ⟨go8, (x3_1 : Int).toNat * 3 + 2, none⟩ = some (.string ((rd_T41 y111 x3_1).f2)) := hcc9 2 _ rfl
                have hf9_0 : World.frozen? _ ⟨go8, (x3_1 : Int).toNat * 3, none⟩ = false := hfr9 0
                have hf9_1 : World.frozen? _ ⟨go8, (x3_1 : Int).toNat * 3 + 1, none⟩ = false := hfr9 1
                have hf9_2 : World.frozen? _ ⟨go8, (x3_1 : Int).toNat * 3 + 2, none⟩ = false := hfr9 2
                clear hcl9 hcc9 hfr9 hM9
                replace p9 := eq_true p9
                replace q9 := eq_true q9
                obtain ⟨ce12, hcl12, hM12, hcc12, hfr12⟩ := Kd.R_elem HQ11.out z41 (x3_1 : Int) (of_decide_eq_true (by first | (with_reducible assumption) | assumption)) (by have h_ : (x3_1 : Int) < ((x0_1.length : Int) : Int) := of_decide_eq_true (by first | (with_reducible assumption) | assumption); first | exact h_ | (have e_ := (Kd.R_reads' HO_0.out).1; omega) | simpa using h_)
                obtain rfl := k41_openM hM12
                have HP12 := (Kd.R_seg HQ11.out (x3_1 : Int) (of_decide_eq_true (by first | (with_reducible assumption) | assumption)) (by have h_ : (x3_1 : Int) < ((x0_1.length : Int) : Int) := of_decide_eq_true (by first | (with_reducible assumption) | assumption); first | exact h_ | (have e_ := (Kd.R_reads' HO_0.out).1; omega) | simpa using h_) (seg := [.string ((rd_T41 x0_1 x2_1).f0), .bool ((rd_T41 x0_1 x2_1).f1), .string ((rd_T41 x0_1 x2_1).f2)]) (j := 0) hcl12 hcc12 (show 3 ≤ 3 from by decide) (x' := (⟨(rd_T41 x0_1 x2_1).f0, (rd_T41 x0_1 x2_1).f1, (rd_T41 x0_1 x2_1).f2⟩ : S41)) (k41_mkM _ _ _ (⟨(rd_T41 x0_1 x2_1).f0, (rd_T41 x0_1 x2_1).f1, (rd_T41 x0_1 x2_1).f2⟩ : S41) ) (fun _ hk => hk)).1
                rw [← Ny112.out] at HP12
                have HQ12 := Aside0.mk HP12
                clear hcl12 hcc12 hfr12 hM12 HP12
                refine start_ (n := 16) (S := fun w' => w'.cell? ⟨go8, ((x3_1).toNat * 3), none⟩ = some (.string ((rd_T41 x0_1 x3_1).f0)) ∧ w'.cell? ⟨go8, ((x3_1).toNat * 3) + 1, none⟩ = some (.bool ((rd_T41 x0_1 x3_1).f1)) ∧ w'.cell? ⟨go8, ((x3_1).toNat * 3) + 2, none⟩ = some (.string ((rd_T41 x0_1 x3_1).f2)) ∧ w'.cell? ⟨go8, ((x2_1).toNat * 3), none⟩ = some (.string ((rd_T41 x0_1 x2_1).f0)) ∧ w'.cell? ⟨go8, ((x2_1).toNat * 3) + 1, none⟩ = some (.bool ((rd_T41 x0_1 x2_1).f1)) ∧ w'.cell? ⟨go8, ((x2_1).toNat * 3) + 2, none⟩ = some (.string ((rd_T41 x0_1 x2_1).f2))) (ds := [13, 15]) #[false, false, false, false, false, false, false, false, false, false, false, false, false, false, false, false] (by kernel_rfl) rfl rfl ⟨hx109_0, hx109_1, hx109_2, hx110_0, hx110_1, hx110_2⟩ (fun hHeld => ?_); refine with_tabW api_Image.tab3 api_Image.bits3 (fun HT_ HW_ => ?_)
                generalize wr.drew = w10 at HO_0 HK HB GG8 HQ11 HQ12 hf8_0 hf8_1 hf8_2 hf9_0 hf9_1 hf9_2 hx109_0 hx109_1 hx109_2 hx110_0 hx110_1 hx110_2 hx8_0 hx8_1 hx8_2 hx9_0 hx9_1 hx9_2 hHeld ⊢
                refine pure_ (i := 0) (N := some 14) (v := ?_) (a' := ?_) #[true, false, false, false, false, false, false, false, false, false, false, false, false, false, false, false] rfl rfl (any_of HT_.out (by kernel_rfl)) (fun _ _ _ h => h) (Or.inl ⟨by rfl, ?_⟩) ?_ ?_
                rotate_left
                · intro w'
                  go_simp
                  with_reducible rfl
                rotate_left
                · simp only [Act.put, List.setIfInBounds_toArray, List.set_cons_zero, List.set_cons_succ, i64_w, i32_w]
                  rfl
                refine pure_ (i := 1) (N := some 15) (v := ?_) (a' := ?_) #[true, true, false, false, false, false, false, false, false, false, false, false, false, false, false, false] rfl rfl (any_of HT_.out (by kernel_rfl)) (fun _ _ _ h => h) (Or.inl ⟨by rfl, ?_⟩) ?_ ?_
                rotate_left
                · intro w'
                  go_simp
                  with_reducible rfl
                rotate_left
                · simp only [Act.put, List.setIfInBounds_toArray, List.set_cons_zero, List.set_cons_succ, i64_w, i32_w]
                  rfl
                refine pure_ (i := 2) (N := some 16) (v := ?_) (a' := ?_) #[true, true, true, false, false, false, false, false, false, false, false, false, false, false, false, false] rfl rfl (any_of HT_.out (by kernel_rfl)) (fun _ _ _ h => h) (Or.inl ⟨by rfl, ?_⟩) ?_ ?_
                rotate_left
                · intro w'
                  go_simp
                  with_reducible rfl
                rotate_left
                · simp only [Act.put, List.setIfInBounds_toArray, List.set_cons_zero, List.set_cons_succ, i64_w, i32_w]
                  rfl
                refine pure_ (i := 3) (N := some 17) (v := ?_) (a' := ?_) #[true, true, true, true, false, false, false, false, false, false, false, false, false, false, false, false] rfl rfl (any_of HT_.out (by kernel_rfl)) (fun _ _ _ h => h) (Or.inl ⟨by rfl, ?_⟩) ?_ ?_
                rotate_left
                · intro w'
                  go_simp
                  with_reducible rfl
                rotate_left
                · simp only [Act.put, List.setIfInBounds_toArray, List.set_cons_zero, List.set_cons_succ, i64_w, i32_w]
                  rfl
                refine pure_ (i := 4) (N := some 18) (v := ?_) (a' := ?_) #[true, true, true, true, true, false, false, false, false, false, false, false, false, false, false, false] rfl rfl (any_of HT_.out (by kernel_rfl)) (fun _ _ _ h => h) (Or.inl ⟨by rfl, ?_⟩) ?_ ?_
                rotate_left
                · intro w'
                  go_simp
                  with_reducible rfl
                rotate_left
                · simp only [Act.put, List.setIfInBounds_toArray, List.set_cons_zero, List.set_cons_succ, i64_w, i32_w]
                  rfl
                refine pure_ (i := 5) (N := some 19) (v := ?_) (a' := ?_) #[true, true, true, true, true, true, false, false, false, false, false, false, false, false, false, false] rfl rfl (any_of HT_.out (by kernel_rfl)) (fun _ _ _ h => h) (Or.inl ⟨by rfl, ?_⟩) ?_ ?_
                rotate_left
                · intro w'
                  go_simp
                  with_reducible rfl
                rotate_left
                · simp only [Act.put, List.setIfInBounds_toArray, List.set_cons_zero, List.set_cons_succ, i64_w, i32_w]
                  rfl
                refine pure_ (i := 6) (N := some 20) (v := ?_) (a' := ?_) #[true, true, true, true, true, true, true, false, false, false, false, false, false, false, false, false] rfl rfl (any_of HT_.out (by kernel_rfl)) (fun _ _ _ h => h) (Or.inl ⟨by rfl, ?_⟩) ?_ ?_
                rotate_left
                · intro w'
                  go_simp
                  with_reducible rfl
                rotate_left
                · simp only [Act.put, List.setIfInBounds_toArray, List.set_cons_zero, List.set_cons_succ, i64_w, i32_w]
                  rfl
                refine pure_ (i := 8) (N := some 22) (v := ?_) (a' := ?_) #[true, true, true, true, true, true, true, false, true, false, false, false, false, false, false, false] rfl rfl (any_of HT_.out (by kernel_rfl)) (fun _ _ _ h => h) (Or.inl ⟨by rfl, ?_⟩) ?_ ?_
                rotate_left
                · intro w'
                  go_simp
                  with_reducible rfl
                rotate_left
                · simp only [Act.put, List.setIfInBounds_toArray, List.set_cons_zero, List.set_cons_succ, i64_w, i32_w]
                  rfl
                refine pure_ (i := 9) (N := some 23) (v := ?_) (a' := ?_) #[true, true, true, true, true, true, true, false, true, true, false, false, false, false, false, false] rfl rfl (any_of HT_.out (by kernel_rfl)) (fun _ _ _ h => h) (Or.inl ⟨by rfl, ?_⟩) ?_ ?_
                rotate_left
                · intro w'
                  go_simp
                  with_reducible rfl
                rotate_left
                · simp only [Act.put, List.setIfInBounds_toArray, List.set_cons_zero, List.set_cons_succ, i64_w, i32_w]
                  rfl
                refine pure_ (i := 10) (N := some 24) (v := ?_) (a' := ?_) #[true, true, true, true, true, true, true, false, true, true, true, false, false, false, false, false] rfl rfl (any_of HT_.out (by kernel_rfl)) (fun _ _ _ h => h) (Or.inl ⟨by rfl, ?_⟩) ?_ ?_
                rotate_left
                · intro w'
                  go_simp
                  with_reducible rfl
                rotate_left
                · simp only [Act.put, List.setIfInBounds_toArray, List.set_cons_zero, List.set_cons_succ, i64_w, i32_w]
                  rfl
                refine take_ (i := 7) (N := some 21) (v := ?_) (a' := ?_) #[true, true, true, true, true, true, true, true, true, true, true, false, false, false, false, false] rfl rfl (take_ofW HT_.out HW_.out (by kernel_rfl)) (fun _ _ _ h => h) (Or.inl ⟨by rfl, ?_⟩) hHeld ?_ ?_
                rotate_left
                · rintro w' ⟨s0, s1, s2, s3, s4, s5⟩
                  go_simp
                  with_reducible rfl
                rotate_left
                · simp only [Act.put, List.setIfInBounds_toArray, List.set_cons_zero, List.set_cons_succ, i64_w, i32_w]
                  rfl
                refine take_ (i := 11) (N := some 25) (v := ?_) (a' := ?_) #[true, true, true, true, true, true, true, true, true, true, true, true, false, false, false, false] rfl rfl (take_ofW HT_.out HW_.out (by kernel_rfl)) (fun _ _ _ h => h) (Or.inl ⟨by rfl, ?_⟩) hHeld ?_ ?_
                rotate_left
                · rintro w' ⟨s0, s1, s2, s3, s4, s5⟩
                  go_simp
                  with_reducible rfl
                rotate_left
                · simp only [Act.put, List.setIfInBounds_toArray, List.set_cons_zero, List.set_cons_succ, i64_w, i32_w]
                  rfl
                refine pure_ (i := 12) (N := some 26) (v := ?_) (a' := ?_) #[true, true, true, true, true, true, true, true, true, true, true, true, true, false, false, false] rfl rfl (any_of HT_.out (by kernel_rfl)) (fun _ _ _ h => h) (Or.inl ⟨by rfl, ?_⟩) ?_ ?_
                rotate_left
                · intro w'
                  go_simp
                  with_reducible rfl
                rotate_left
                · simp only [Act.put, List.setIfInBounds_toArray, List.set_cons_zero, List.set_cons_succ, i64_w, i32_w]
                  rfl
                have hne_ : x2_1.toNat ≠ x3_1.toNat := by
                  have h1 := of_decide_eq_true c3b0
                  have h2 := of_decide_eq_true c6b0
                  omega
                have hfr0 : w10.frozen? ⟨go8, x3_1.toNat * 3, none⟩ = false := by rw [← hf9_0, World.frozen?_setCells]
                have hfr1 : w10.frozen? ⟨go8, x3_1.toNat * 3 + 1, none⟩ = false := by rw [← hf9_1, World.frozen?_setCells]
                have hfr2 : w10.frozen? ⟨go8, x3_1.toNat * 3 + 2, none⟩ = false := by rw [← hf9_2, World.frozen?_setCells]
                have hz00 : ∀ (W : World) u, (W.setCell ⟨go8, x2_1.toNat * 3, none⟩ u).cell? ⟨go8, x3_1.toNat * 3, none⟩ = W.cell? ⟨go8, x3_1.toNat * 3, none⟩ := fun W u => World.cell?_setCell_other _ _ _ _ (by rw [ne_eq, Addr.mk.injEq]; omega)
                have hz01 : ∀ (W : World) u, (W.setCell ⟨go8, x2_1.toNat * 3, none⟩ u).cell? ⟨go8, x3_1.toNat * 3 + 1, none⟩ = W.cell? ⟨go8, x3_1.toNat * 3 + 1, none⟩ := fun W u => World.cell?_setCell_other _ _ _ _ (by rw [ne_eq, Addr.mk.injEq]; omega)
                have hz02 : ∀ (W : World) u, (W.setCell ⟨go8, x2_1.toNat * 3, none⟩ u).cell? ⟨go8, x3_1.toNat * 3 + 2, none⟩ = W.cell? ⟨go8, x3_1.toNat * 3 + 2, none⟩ := fun W u => World.cell?_setCell_other _ _ _ _ (by rw [ne_eq, Addr.mk.injEq]; omega)
                have hz10 : ∀ (W : World) u, (W.setCell ⟨go8, x2_1.toNat * 3 + 1, none⟩ u).cell? ⟨go8, x3_1.toNat * 3, none⟩ = W.cell? ⟨go8, x3_1.toNat * 3, none⟩ := fun W u => World.cell?_setCell_other _ _ _ _ (by rw [ne_eq, Addr.mk.injEq]; omega)
                have hz11 : ∀ (W : World) u, (W.setCell ⟨go8, x2_1.toNat * 3 + 1, none⟩ u).cell? ⟨go8, x3_1.toNat * 3 + 1, none⟩ = W.cell? ⟨go8, x3_1.toNat * 3 + 1, none⟩ := fun W u => World.cell?_setCell_other _ _ _ _ (by rw [ne_eq, Addr.mk.injEq]; omega)
                have hz12 : ∀ (W : World) u, (W.setCell ⟨go8, x2_1.toNat * 3 + 1, none⟩ u).cell? ⟨go8, x3_1.toNat * 3 + 2, none⟩ = W.cell? ⟨go8, x3_1.toNat * 3 + 2, none⟩ := fun W u => World.cell?_setCell_other _ _ _ _ (by rw [ne_eq, Addr.mk.injEq]; omega)
                have hz20 : ∀ (W : World) u, (W.setCell ⟨go8, x2_1.toNat * 3 + 2, none⟩ u).cell? ⟨go8, x3_1.toNat * 3, none⟩ = W.cell? ⟨go8, x3_1.toNat * 3, none⟩ := fun W u => World.cell?_setCell_other _ _ _ _ (by rw [ne_eq, Addr.mk.injEq]; omega)
                have hz21 : ∀ (W : World) u, (W.setCell ⟨go8, x2_1.toNat * 3 + 2, none⟩ u).cell? ⟨go8, x3_1.toNat * 3 + 1, none⟩ = W.cell? ⟨go8, x3_1.toNat * 3 + 1, none⟩ := fun W u => World.cell?_setCell_other _ _ _ _ (by rw [ne_eq, Addr.mk.injEq]; omega)
                have hz22 : ∀ (W : World) u, (W.setCell ⟨go8, x2_1.toNat * 3 + 2, none⟩ u).cell? ⟨go8, x3_1.toNat * 3 + 2, none⟩ = W.cell? ⟨go8, x3_1.toNat * 3 + 2, none⟩ := fun W u => World.cell?_setCell_other _ _ _ _ (by rw [ne_eq, Addr.mk.injEq]; omega)
                clear hne_
                refine last_ (i := 13) (N := none) #[true, true, true, true, true, true, true, true, true, true, true, true, true, true, false, false] rfl rfl (one_of HT_.out (by kernel_rfl)) (by decide) (fun K hK => ?_)
                refine skip_ (w1 := ?_) (by rfl) rfl ?_ ?_
                rotate_left
                · go_simp
                  rfl
                refine hK.out _ _ ?_
                clear hK K
                refine pure_ (i := 14) (N := some 27) (v := ?_) (a' := ?_) #[true, true, true, true, true, true, true, true, true, true, true, true, true, true, true, false] rfl rfl (any_of HT_.out (by kernel_rfl)) (fun _ _ _ h => h) (Or.inl ⟨by rfl, ?_⟩) ?_ ?_
                rotate_left
                · intro w'
                  go_simp
                  with_reducible rfl
                rotate_left
                · simp only [Act.put, List.setIfInBounds_toArray, List.set_cons_zero, List.set_cons_succ, i64_w, i32_w]
                  rfl
                refine last_ (i := 15) (N := none) #[true, true, true, true, true, true, true, true, true, true, true, true, true, true, true, true] rfl rfl (one_of HT_.out (by kernel_rfl)) (by decide) (fun K hK => ?_)
                refine skip_ (w1 := ?_) (by rfl) rfl ?_ ?_
                rotate_left
                · go_simp
                  rfl
                refine hK.out _ _ ?_
                clear hK K
                refine done_ (done_of HT_.out (by kernel_rfl)) ?_
                try go_wp2
                (try simp only [← hl0_1])
                go_roundg k1
                case measure => have := HK1.out; omega
                case rel => exact ⟨(y112), (wrap64 (x2_1 + 1)), (wrap64 (x3_1 - 1)), (by first | rfl | (simp; done) | (simp [*]; done)), (by first | rfl | (simp; done) | (simp [*]; done)), H', ⟨by have := HK1.out; omega⟩, ⟨by (try simp only [hl0_1]); (with_reducible repeat (first | apply Kd.R_alloc | apply Kd.R_drewN | apply Kd.R_drew)); exact HQ12.out⟩, ⟨by repeat (first | (with_reducible first | exact HK.out | apply Kept.alloc | apply Kept.drewN | apply Kept.drew | refine Kept.setCell ?_ HMgo8.out _ | refine Kept.setCell ?_ HMgo8.out _ | refine Kept.setCell ?_ HMgo8.out _ | refine Kept.setCell ?_ HMgo8.out _ | refine Kept.setCell ?_ HMgo8.out _ | refine Kept.setCell ?_ HMgo8.out _) | exact HK.out)⟩, ⟨by repeat (first | (with_reducible first | exact HB.out | apply below_alloc | apply pw_below_drewN | apply below_drew1 | refine below_set ?_ GB8.out | refine below_set ?_ GB8.out | refine below_set ?_ GB8.out | refine below_set ?_ GB8.out | refine below_set ?_ GB8.out | refine below_set ?_ GB8.out) | exact HB.out)⟩⟩
              · rw [if_neg c7] at H
                exact absurd H (by simp)
            · rw [if_neg c6] at H
              exact absurd H (by simp)
          · rw [if_neg c5] at H
            exact absurd H (by simp)
        · rw [if_neg c4] at H
          exact absurd H (by simp)
      · rw [if_neg c3] at H
        have c3b0 : decide (x2_1 < x3_1) = false := decide_eq_false c3
        clear c3
        obtain rfl := Option.some.inj H
        go_wp2
        first | go_end0 | ((try simp only [Exit.inBlock, Exit.then]); refine bodyPost_ret (results_none rfl _ _ _) rfl ?_)
        exact ⟨by first | rfl | (simp [errW_none, errW_some] <;> rfl) | (simp [*, errW_none, errW_some] <;> rfl), (by first | exact (by (with_reducible repeat (first | apply Kd.R_alloc | apply Kd.R_drewN | apply Kd.R_drew)); exact HO_0.out) | (simp only [hl0_1]; exact (by (with_reducible repeat (first | apply Kd.R_alloc | apply Kd.R_drewN | apply Kd.R_drew)); exact HO_0.out))), by repeat (first | (with_reducible first | exact HB.out | apply below_alloc | apply pw_below_drewN | apply below_drew1) | exact HB.out), by repeat (first | (with_reducible first | exact HK.out | apply Kept.alloc | apply Kept.drewN | apply Kept.drew) | exact HK.out)⟩

end Go.Proofs.Yteblpjnkinghoaa.J
/- slices.Reverse of images, as the printed function has it, is the list turned round. -/
namespace Go.Proofs.Yteblpjnkinghoaa.J
open Go.BigFrame Go.RowKit Go.Proofs.YteblpjnkinghoaaW.PrintWords Go.Proofs.YteblpjnkinghoaaW.PrintLast Go.Proofs.YteblpjnkinghoaaW.PrintMore
theorem rd41_at {x : List S41} {k : Nat} (h : k < x.length) : x[k]? = some (rd_T41 x (k : Int)) := by
  unfold rd_T41
  rw [Int.toNat_natCast, List.getD_eq_getElem?_getD, List.getElem?_eq_getElem h]; rfl
theorem rev_from : ∀ (k : Nat) (x : List S41) (i j : Nat), x.length ≤ 9223372036854775807 → i + j + 1 = x.length → i ≤ j + 1 → x.length + 1 ≤ 2 * (i + k) →
    ∃ y, api_Image.l0 k x (i : Int) (j : Int) = some y ∧ y.length = x.length ∧ ∀ m, y[m]? = if i ≤ m ∧ m ≤ j then x[x.length - 1 - m]? else x[m]?
  | 0, x, i, j, hl, hn, h1, hk => by omega
  | k + 1, x, i, j, hl, hn, h1, hk => by
    rw [api_Image.l0]
    by_cases hij : i < j
    · rw [if_pos (by omega), if_pos (by omega), if_pos (by omega), if_pos (by omega), if_pos (by omega)]
      have w1 : wrap64 ((i : Int) + 1) = ((i + 1 : Nat) : Int) := by unfold wrap64; omega
      have w2 : wrap64 ((j : Int) - 1) = ((j - 1 : Nat) : Int) := by unfold wrap64; omega
      rw [w1, w2, Int.toNat_natCast, Int.toNat_natCast]
      have hi := rd41_at (x := x) (k := i) (by omega)
      have hj := rd41_at (x := x) (k := j) (by omega)
      generalize rd_T41 x (i : Int) = a at hi ⊢
      generalize rd_T41 x (j : Int) = b at hj ⊢
      have ea : (⟨a.f0, a.f1, a.f2⟩ : S41) = a := rfl
      have eb : (⟨b.f0, b.f1, b.f2⟩ : S41) = b := rfl
      rw [ea, eb]
      obtain ⟨y, hy, hyl, hym⟩ := rev_from k ((x.set i b).set j a) (i + 1) (j - 1) (by simpa using hl) (by simp; omega) (by omega) (by simp; omega)
      refine ⟨y, hy, by rw [hyl]; simp, fun m => ?_⟩
      rw [hym m]
      simp only [List.length_set]
      by_cases hm : i + 1 ≤ m ∧ m ≤ j - 1
      · rw [if_pos hm, if_pos (by omega), List.getElem?_set_ne (by omega), List.getElem?_set_ne (by omega)]
      · rw [if_neg hm]
        by_cases h1 : m = i
        · subst h1
          rw [if_pos (by omega), List.getElem?_set_ne (by omega), List.getElem?_set_self (by omega), show x.length - 1 - m = j by omega, hj]
        · by_cases h2 : m = j
          · subst h2
            rw [if_pos (by omega), List.getElem?_set_self (by simp; omega), show x.length - 1 - m = i by omega, hi]
          · rw [if_neg (by omega), List.getElem?_set_ne (by omega), List.getElem?_set_ne (by omega)]
    · rw [if_neg (by omega)]
      refine ⟨x, rfl, rfl, fun m => ?_⟩
      by_cases h : i ≤ m ∧ m ≤ j
      · rw [if_pos h, show x.length - 1 - m = m by omega]
      · rw [if_neg h]
theorem rev_all (x : List S41) (hl : x.length ≤ 9223372036854775807) : api_Image.f (x.length + 1) x = some x.reverse := by
  unfold api_Image.f
  by_cases h0 : x.length = 0
  · obtain rfl := List.eq_nil_of_length_eq_zero h0
    rw [show wrap64 ((([] : List S41).length : Int) - 1) = -1 by unfold wrap64; simp]
    rfl
  · have w : wrap64 ((x.length : Int) - 1) = ((x.length - 1 : Nat) : Int) := by unfold wrap64; omega
    rw [w]
    obtain ⟨y, hy, hyl, hym⟩ := rev_from (x.length + 1) x 0 (x.length - 1) hl (by omega) (by omega) (by omega)
    rw [show ((0 : Nat) : Int) = 0 from rfl] at hy
    rw [hy]
    congr 1
    apply List.ext_getElem?
    intro m
    rw [hym m]
    by_cases hm : m < x.length
    · rw [if_pos (by omega), List.getElem?_reverse hm]
    · rw [if_neg (by omega), List.getElem?_eq_none (by omega), List.getElem?_eq_none (by simp; omega)]
end Go.Proofs.Yteblpjnkinghoaa.J
/- What journal.Wrong keeps while it walks over a journal, and how its memory holds it. -/
namespace Go.Proofs.Yteblpjnkinghoaa.J
open Go.BigFrame Go.RowKit Go.Proofs.YteblpjnkinghoaaW.PrintWords Go.Proofs.YteblpjnkinghoaaW.PrintLast Go.Proofs.YteblpjnkinghoaaW.PrintMore Go.Proofs.YteblpjnkinghoaaW.Mw
/-- The units that go on, each with its keys; and the keys that are taken, each by its unit. -/
structure WSt where
  on : Int → Option (ByteArray → Bool)
  tk : ByteArray → Option Int
def WSt.set (st : WSt) (u : Int) (x : Option (ByteArray → Bool)) : Int → Option (ByteArray → Bool) := fun v => if v = u then x else st.on v
/-- One note. -/
def wrongStep (st : WSt) (n : S39) : Int ⊕ WSt :=
  if n.f0 ≠ 6 ∧ (st.on n.f1).isSome = decide (n.f0 = 1) then .inl 9
  else if n.f0 = 1 then .inr ⟨st.set n.f1 (some fun _ => false), st.tk⟩
  else if n.f0 = 3 ∨ n.f0 = 2 then
    (let K := (st.on n.f1).getD fun _ => false
     if n.f0 = 3 ∧ K n.f2 = false then .inl 8
     else if (st.tk n.f2).any (· ≠ n.f1) then .inl 6
     else .inr ⟨st.set n.f1 (some fun k => if k = n.f2 then true else K k), fun k => if k = n.f2 then some n.f1 else st.tk k⟩)
  else if n.f0 = 4 ∨ n.f0 = 5 ∨ n.f0 = 7 then
    (let K := (st.on n.f1).getD fun _ => false
     .inr ⟨st.set n.f1 (if n.f0 = 4 then some fun _ => false else none), fun k => if K k = true then none else st.tk k⟩)
  else .inr st
def wrongFrom : List S39 → Nat → WSt → Int × Int
  | [], _, _ => (-1, 0)
  | n :: l, i, st => match wrongStep st n with
    | .inl e => ((i : Int), e)
    | .inr st' => wrongFrom l (i + 1) st'
def journal_Wrong.f (l0 : List (S39)) : Option (Int × Int) :=
  if l0.length ≤ 1000 ∧ l0.all vld = true then some (wrongFrom l0 0 ⟨fun _ => none, fun _ => none⟩) else some (0, 1)
/-! ### How memory holds it -/
noncomputable def KI : Keys Try.prog 3 Int := intKeys Try.prog 3 Try.underlying3
noncomputable def KS : Keys Try.prog 9 ByteArray := strKeys Try.prog 9 Try.underlying9
def onF (on : Int → Option (ByteArray → Bool)) (g : Int → Nat) (u : Int) : Option Value := (on u).map fun _ => .pointer (some ⟨g u, 0, none⟩)
def tkF (tk : ByteArray → Option Int) (k : ByteArray) : Option Value := (tk k).map (Value.int .i64)
def ksF (K : ByteArray → Bool) (k : ByteArray) : Option Value := if K k = true then some (.bool true) else none
/-- Blocks b1 (the units) and b2 (the keys), a unit's own block (g) and its keys' (m); whose each block is (own). -/
structure Jrn (w : World) (base b1 b2 : Nat) (on : Int → Option (ByteArray → Bool)) (tk : ByteArray → Option Int) (g m : Int → Nat) (own : Nat → Int × Nat) : Prop where
  h1 : Holds KI w b1 (onF on g)
  h2 : Holds KS w b2 (tkF tk)
  o1 : own b1 = (0, 2)
  o2 : own b2 = (0, 3)
  l1 : base ≤ b1
  l2 : base ≤ b2
  og : ∀ u K, on u = some K → own (g u) = (u, 0) ∧ base ≤ g u ∧ ∃ f, w.heap[g u]? = some (.cells #[.int .i64 f, .map (some (m u))] 117)
  om : ∀ u K, on u = some K → own (m u) = (u, 1) ∧ base ≤ m u ∧ Holds KS w (m u) (ksF K)
namespace Jrn
variable {w w' : World} {base b1 b2 : Nat} {on : Int → Option (ByteArray → Bool)} {tk : ByteArray → Option Int} {g m : Int → Nat} {own : Nat → Int × Nat}
theorem below (h : Jrn w base b1 b2 on tk g m own) (hb : Below w.heap.size w w') : Jrn w' base b1 b2 on tk g m own where
  h1 := h.h1.below hb
  h2 := h.h2.below hb
  o1 := h.o1
  o2 := h.o2
  l1 := h.l1
  l2 := h.l2
  og u K hu := by
    obtain ⟨a, b, f, hf⟩ := h.og u K hu
    exact ⟨a, b, f, (hb.block _ (Array.getElem?_eq_some_iff.1 hf).1).trans hf⟩
  om u K hu := by
    obtain ⟨a, b, hf⟩ := h.om u K hu
    exact ⟨a, b, hf.below hb⟩
theorem lt1 (h : Jrn w base b1 b2 on tk g m own) : b1 < w.heap.size := h.h1.lt
theorem lt2 (h : Jrn w base b1 b2 on tk g m own) : b2 < w.heap.size := h.h2.lt
theorem ne12 (h : Jrn w base b1 b2 on tk g m own) : b1 ≠ b2 := fun e => by have := h.o1.symm.trans (e ▸ h.o2); exact absurd (congrArg Prod.snd this) (by decide)
theorem ne (x : Nat) {u v : Int} {i j : Nat} {y : Nat} (hx : own x = (u, i)) (hy : own y = (v, j)) (h : u ≠ v ∨ i ≠ j) : x ≠ y := fun e => by
  have := hx.symm.trans (e ▸ hy)
  rcases h with h | h
  · exact h (congrArg Prod.fst this)
  · exact h (congrArg Prod.snd this)
/-- A unit begins: two new blocks (its keys', then its own), then the store into b1. -/
theorem opened (h : Jrn w base b1 b2 on tk g m own) (hbs : base ≤ w.heap.size) (u f : Int) {w2 w3 : World} (hb : Below w.heap.size w w2) (hm : Holds KS w2 w.heap.size (fun _ => none)) (hg : w2.heap[w.heap.size + 1]? = some (.cells #[.int .i64 f, .map (some w.heap.size)] 117))
    (hp : Holds KI w3 b1 (fun q => if q = u then some (.pointer (some ⟨w.heap.size + 1, 0, none⟩)) else onF on g q)) (hgr : w2.grownBy w3 (some b1)) :
    ∃ g' m' own', Jrn w3 base b1 b2 (fun v => if v = u then some (fun _ => false) else on v) tk g' m' own' := by
  have l1 := h.lt1
  have l2 := h.lt2
  have hs2 := hb.size
  have hlt1 : w.heap.size + 1 < w2.heap.size := (Array.getElem?_eq_some_iff.1 hg).1
  have hn12 := h.ne12
  have hj := h.below hb
  refine ⟨fun v => if v = u then w.heap.size + 1 else g v, fun v => if v = u then w.heap.size else m v, fun x => if x = w.heap.size + 1 then (u, 0) else if x = w.heap.size then (u, 1) else own x, ?_⟩
  have own_old : ∀ x, x < w.heap.size → (if x = w.heap.size + 1 then ((u, 0) : Int × Nat) else if x = w.heap.size then (u, 1) else own x) = own x := fun x hx => by rw [if_neg (by omega), if_neg (by omega)]
  refine { h1 := hp.congr fun q => ?_, h2 := hj.h2.grown hgr (fun e => hn12 (Option.some.inj e).symm), o1 := ?_, o2 := ?_, l1 := h.l1, l2 := h.l2, og := fun v K hv => ?_, om := fun v K hv => ?_ }
  · unfold onF
    by_cases hq : q = u
    · simp [hq]
    · simp [hq]
  · exact (own_old _ l1).trans h.o1
  · exact (own_old _ l2).trans h.o2
  · by_cases hq : v = u
    · subst hq
      simp only [if_true]
      exact ⟨trivial, by omega, f, (hgr.block _ hlt1 (fun e => by have := Option.some.inj e; omega)).trans hg⟩
    · simp only [if_neg hq] at hv ⊢
      obtain ⟨a, b, f', hf⟩ := hj.og v K hv
      have hf0 : g v < w.heap.size := by obtain ⟨_, _, f0, hf0⟩ := h.og v K hv; exact (Array.getElem?_eq_some_iff.1 hf0).1
      exact ⟨(own_old _ hf0).trans a, b, f', (hgr.block _ (by omega) (fun e => ne _ a h.o1 (.inr (by decide)) (Option.some.inj e))).trans hf⟩
  · by_cases hq : v = u
    · subst hq
      simp only [if_true] at hv ⊢
      cases hv
      refine ⟨by rw [if_neg (by omega)], hbs, (hm.grown hgr (fun e => by have := Option.some.inj e; omega)).congr fun k => ?_⟩
      simp [ksF]
    · simp only [if_neg hq] at hv ⊢
      obtain ⟨a, b, hf⟩ := hj.om v K hv
      have hf0 : m v < w.heap.size := (h.om v K hv).2.2.lt
      exact ⟨(own_old _ hf0).trans a, b, hf.grown hgr (fun e => ne _ a h.o1 (.inr (by decide)) (Option.some.inj e))⟩
/-- A note of a key: the store into the unit's keys, then into b2. -/
theorem added (h : Jrn w base b1 b2 on tk g m own) (u : Int) (key : ByteArray) {K : ByteArray → Bool} (hu : on u = some K) {w2 w3 : World}
    (hm : Holds KS w2 (m u) (fun q => if q = key then some (.bool true) else ksF K q)) (hg2 : w.grownBy w2 (some (m u)))
    (h2' : Holds KS w3 b2 (fun q => if q = key then some (.int .i64 u) else tkF tk q)) (hg3 : w2.grownBy w3 (some b2)) :
    Jrn w3 base b1 b2 (fun v => if v = u then some (fun k => if k = key then true else K k) else on v) (fun k => if k = key then some u else tk k) g m own := by
  obtain ⟨ou, lu, hK⟩ := h.om u K hu
  have s2 := hg2.size
  refine { h1 := ?_, h2 := h2'.congr fun q => ?_, o1 := h.o1, o2 := h.o2, l1 := h.l1, l2 := h.l2, og := fun v L hv => ?_, om := fun v L hv => ?_ }
  · refine (((h.h1.grown hg2 (fun e => ne _ h.o1 ou (.inr (by decide)) (Option.some.inj e))).grown hg3 (fun e => h.ne12 (Option.some.inj e)))).congr fun q => ?_
    unfold onF
    by_cases hq : q = u
    · subst hq; simp [hu]
    · simp [hq]
  · unfold tkF; by_cases hq : q = key <;> simp [hq]
  · have hv' : ∃ L', on v = some L' := by
      by_cases hq : v = u
      · exact ⟨K, hq ▸ hu⟩
      · simp only [if_neg hq] at hv; exact ⟨_, hv⟩
    obtain ⟨L', hv'⟩ := hv'
    obtain ⟨a, b, f, hf⟩ := h.og v L' hv'
    have hlt := (Array.getElem?_eq_some_iff.1 hf).1
    exact ⟨a, b, f, (hg3.block _ (by omega) (fun e => ne _ a h.o2 (.inr (by decide)) (Option.some.inj e))).trans ((hg2.block _ hlt (fun e => ne _ a ou (.inr (by decide)) (Option.some.inj e))).trans hf)⟩
  · by_cases hq : v = u
    · subst hq
      simp only [if_true] at hv
      cases hv
      refine ⟨ou, lu, (hm.grown hg3 (fun e => ne _ ou h.o2 (.inr (by decide)) (Option.some.inj e))).congr fun k => ?_⟩
      unfold ksF
      by_cases hk : k = key <;> simp [hk]
    · simp only [if_neg hq] at hv
      obtain ⟨a, b, hf⟩ := h.om v L hv
      exact ⟨a, b, (hf.grown hg2 (fun e => ne _ a ou (.inl hq) (Option.some.inj e))).grown hg3 (fun e => ne _ a h.o2 (.inr (by decide)) (Option.some.inj e))⟩
/-- Keys are taken out of b2. -/
theorem struck (h : Jrn w base b1 b2 on tk g m own) {w2 : World} {tk' : ByteArray → Option Int} (h2' : Holds KS w2 b2 (tkF tk')) (hg : w.grownBy w2 (some b2)) : Jrn w2 base b1 b2 on tk' g m own where
  h1 := h.h1.grown hg (fun e => h.ne12 (Option.some.inj e))
  h2 := h2'
  o1 := h.o1
  o2 := h.o2
  l1 := h.l1
  l2 := h.l2
  og u K hu := by
    obtain ⟨a, b, f, hf⟩ := h.og u K hu
    exact ⟨a, b, f, (hg.block _ (Array.getElem?_eq_some_iff.1 hf).1 (fun e => ne _ a h.o2 (.inr (by decide)) (Option.some.inj e))).trans hf⟩
  om u K hu := by
    obtain ⟨a, b, hf⟩ := h.om u K hu
    exact ⟨a, b, hf.grown hg (fun e => ne _ a h.o2 (.inr (by decide)) (Option.some.inj e))⟩
/-- A unit's keys are laid anew: a new block, then the two stores into the unit's own block. -/
theorem quieted (h : Jrn w base b1 b2 on tk g m own) (hbs : base ≤ w.heap.size) (u f : Int) {K : ByteArray → Bool} (hu : on u = some K) {w2 w3 : World} (hb : Below w.heap.size w w2) (hm : Holds KS w2 w.heap.size (fun _ => none))
    (hc : w3.heap[g u]? = some (.cells #[.int .i64 f, .map (some w.heap.size)] 117)) (hgr : w2.grownBy w3 (some (g u))) :
    ∃ m' own', Jrn w3 base b1 b2 (fun v => if v = u then some (fun _ => false) else on v) tk g m' own' := by
  have l1 := h.lt1
  have l2 := h.lt2
  have hs2 := hb.size
  have hj := h.below hb
  obtain ⟨ou, lu, f0, hf0⟩ := h.og u K hu
  have hgu := (Array.getElem?_eq_some_iff.1 hf0).1
  refine ⟨fun v => if v = u then w.heap.size else m v, fun x => if x = w.heap.size then (u, 1) else own x, ?_⟩
  have own_old : ∀ x, x < w.heap.size → (if x = w.heap.size then ((u, 1) : Int × Nat) else own x) = own x := fun x hx => by rw [if_neg (by omega)]
  refine { h1 := ((hj.h1.grown hgr (fun e => ne _ h.o1 ou (.inr (by decide)) (Option.some.inj e)))).congr fun q => ?_, h2 := hj.h2.grown hgr (fun e => ne _ h.o2 ou (.inr (by decide)) (Option.some.inj e)), o1 := (own_old _ l1).trans h.o1, o2 := (own_old _ l2).trans h.o2, l1 := h.l1, l2 := h.l2, og := fun v L hv => ?_, om := fun v L hv => ?_ }
  · unfold onF
    by_cases hq : q = u
    · subst hq; simp [hu]
    · simp [hq]
  · by_cases hq : v = u
    · subst hq
      simp only [if_true]
      exact ⟨(own_old _ hgu).trans ou, lu, f, hc⟩
    · simp only [if_neg hq] at hv ⊢
      obtain ⟨a, b, f', hf⟩ := hj.og v L hv
      have hf1 : g v < w.heap.size := by obtain ⟨_, _, f1, hf1⟩ := h.og v L hv; exact (Array.getElem?_eq_some_iff.1 hf1).1
      exact ⟨(own_old _ hf1).trans a, b, f', (hgr.block _ (by omega) (fun e => ne _ a ou (.inl hq) (Option.some.inj e))).trans hf⟩
  · by_cases hq : v = u
    · subst hq
      simp only [if_true] at hv ⊢
      cases hv
      refine ⟨trivial, hbs, (hm.grown hgr (fun e => by have := Option.some.inj e; omega)).congr fun k => ?_⟩
      simp [ksF]
    · simp only [if_neg hq] at hv ⊢
      obtain ⟨a, b, hf⟩ := hj.om v L hv
      have hf1 : m v < w.heap.size := (h.om v L hv).2.2.lt
      exact ⟨(own_old _ hf1).trans a, b, hf.grown hgr (fun e => ne _ a ou (.inr (by decide)) (Option.some.inj e))⟩
/-- A unit ends. -/
theorem ended (h : Jrn w base b1 b2 on tk g m own) (u : Int) {w2 : World} (hp : Holds KI w2 b1 (fun q => if q = u then none else onF on g q)) (hg : w.grownBy w2 (some b1)) : Jrn w2 base b1 b2 (fun v => if v = u then none else on v) tk g m own where
  h1 := hp.congr fun q => by unfold onF; by_cases hq : q = u <;> simp [hq]
  h2 := h.h2.grown hg (fun e => h.ne12 (Option.some.inj e).symm)
  o1 := h.o1
  o2 := h.o2
  l1 := h.l1
  l2 := h.l2
  og v K hv := by
    by_cases hq : v = u
    · simp only [if_pos hq] at hv; cases hv
    · simp only [if_neg hq] at hv
      obtain ⟨a, b, f, hf⟩ := h.og v K hv
      exact ⟨a, b, f, (hg.block _ (Array.getElem?_eq_some_iff.1 hf).1 (fun e => ne _ a h.o1 (.inr (by decide)) (Option.some.inj e))).trans hf⟩
  om v K hv := by
    by_cases hq : v = u
    · simp only [if_pos hq] at hv; cases hv
    · simp only [if_neg hq] at hv
      obtain ⟨a, b, hf⟩ := h.om v K hv
      exact ⟨a, b, hf.grown hg (fun e => ne _ a h.o1 (.inr (by decide)) (Option.some.inj e))⟩
/-- A block that is none of these is written. -/
theorem other (h : Jrn w base b1 b2 on tk g m own) {r : Nat} (hr : own r = (0, 4)) (hg : w.grownBy w' (some r)) : Jrn w' base b1 b2 on tk g m own where
  h1 := h.h1.grown hg (fun e => ne _ h.o1 hr (.inr (by decide)) (Option.some.inj e))
  h2 := h.h2.grown hg (fun e => ne _ h.o2 hr (.inr (by decide)) (Option.some.inj e))
  o1 := h.o1
  o2 := h.o2
  l1 := h.l1
  l2 := h.l2
  og u K hu := by
    obtain ⟨a, b, f, hf⟩ := h.og u K hu
    exact ⟨a, b, f, (hg.block _ (Array.getElem?_eq_some_iff.1 hf).1 (fun e => ne _ a hr (.inr (by decide)) (Option.some.inj e))).trans hf⟩
  om u K hu := by
    obtain ⟨a, b, hf⟩ := h.om u K hu
    exact ⟨a, b, hf.grown hg (fun e => ne _ a hr (.inr (by decide)) (Option.some.inj e))⟩
/-- A new block that is none of these. -/
theorem beside (h : Jrn w base b1 b2 on tk g m own) (hb : Below w.heap.size w w') : Jrn w' base b1 b2 on tk g m (fun x => if x = w.heap.size then (0, 4) else own x) := by
  have hj := h.below hb
  have own_old : ∀ x, x < w.heap.size → (if x = w.heap.size then ((0, 4) : Int × Nat) else own x) = own x := fun x hx => by rw [if_neg (by omega)]
  refine { h1 := hj.h1, h2 := hj.h2, o1 := (own_old _ h.lt1).trans h.o1, o2 := (own_old _ h.lt2).trans h.o2, l1 := h.l1, l2 := h.l2, og := fun v L hv => ?_, om := fun v L hv => ?_ }
  · obtain ⟨a, b, f, hf⟩ := hj.og v L hv
    have hf1 : g v < w.heap.size := by obtain ⟨_, _, f1, hf1⟩ := h.og v L hv; exact (Array.getElem?_eq_some_iff.1 hf1).1
    exact ⟨(own_old _ hf1).trans a, b, f, hf⟩
  · obtain ⟨a, b, hf⟩ := hj.om v L hv
    exact ⟨(own_old _ (h.om v L hv).2.2.lt).trans a, b, hf⟩
theorem drew (h : Jrn w base b1 b2 on tk g m own) : Jrn w.drew base b1 b2 on tk g m own := h.below ((Below.refl _ w).drew)
theorem congr (h : Jrn w base b1 b2 on tk g m own) {on' : Int → Option (ByteArray → Bool)} {tk' : ByteArray → Option Int} (e1 : ∀ u, on u = on' u) (e2 : ∀ k, tk k = tk' k) : Jrn w base b1 b2 on' tk' g m own := by
  rw [← (funext e1 : on = on'), ← (funext e2 : tk = tk')]; exact h
end Jrn
/-- Two stores into one block. -/
theorem grown_two (w : World) (p q : Addr) (h : p.block = q.block) (u v : Value) : w.grownBy ((w.setCell p u).setCell q v) (some p.block) :=
  ⟨rfl, rfl, rfl, by simp [World.setCell], fun k _ hne => by
    rw [Below.heap_setCell _ _ _ _ (by rw [← h]; exact fun e => hne (by rw [e])), Below.heap_setCell _ _ _ _ (fun e => hne (by rw [e]))]⟩
theorem two_cells {w : World} {g : Nat} {a b : Value} {t : TypeId} (h : w.heap[g]? = some (.cells #[a, b] t)) (u v : Value) : ((w.setCell ⟨g, 0, none⟩ u).setCell ⟨g, 1, none⟩ v).heap[g]? = some (.cells #[u, v] t) := by
  have h1 := heap_setCell_same w g 0 #[a, b] t u h
  have h2 := heap_setCell_same (w.setCell ⟨g, 0, none⟩ u) g 1 _ t v h1
  rw [h2]; rfl
end Go.Proofs.Yteblpjnkinghoaa.J
/- The contract of journal.Wrong, for every slice of notes. -/
namespace Go.Proofs.Yteblpjnkinghoaa.J
open Go.BigFrame Go.RowKit Go.Proofs.YteblpjnkinghoaaW.PrintWords Go.Proofs.YteblpjnkinghoaaW.PrintLast Go.Proofs.YteblpjnkinghoaaW.PrintMore Go.Proofs.YteblpjnkinghoaaW.Mw
theorem zero114 (w : World) : (zeroValue 114).run Try.prog w = .ok (.pointer none) w := by kernel_rfl
theorem zeroB (w : World) : (zeroValue 4).run Try.prog w = .ok (.bool false) w := by kernel_rfl
theorem zeroI (w : World) : (zeroValue 3).run Try.prog w = .ok (.int .i64 0) w := by kernel_rfl
theorem wrongFrom_inl {n : S39} {l : List S39} {i : Nat} {st : WSt} {e : Int} (h : wrongStep st n = .inl e) : wrongFrom (n :: l) i st = ((i : Int), e) := by
  rw [wrongFrom, h]
theorem wrongFrom_inr {n : S39} {l : List S39} {i : Nat} {st st' : WSt} (h : wrongStep st n = .inr st') : wrongFrom (n :: l) i st = wrongFrom l (i + 1) st' := by
  rw [wrongFrom, h]
theorem wrongStep_6 {st : WSt} {n : S39} (h : n.f0 = 6) : wrongStep st n = .inr st := by
  unfold wrongStep
  rw [if_neg (by omega), if_neg (by omega), if_neg (by omega), if_neg (by omega)]
theorem wrongStep_9 {st : WSt} {n : S39} (h : n.f0 ≠ 6) (h2 : (st.on n.f1).isSome = decide (n.f0 = 1)) : wrongStep st n = .inl 9 := by
  unfold wrongStep
  rw [if_pos ⟨h, h2⟩]
theorem wrongStep_1 {st : WSt} {n : S39} (h : n.f0 = 1) (hon : st.on n.f1 = none) : wrongStep st n = .inr ⟨st.set n.f1 (some fun _ => false), st.tk⟩ := by
  unfold wrongStep
  rw [if_neg (by rw [hon, h]; simp), if_pos h]
theorem wrongStep_8 {st : WSt} {n : S39} {K : ByteArray → Bool} (h : n.f0 = 3) (hon : st.on n.f1 = some K) (hK : K n.f2 = false) : wrongStep st n = .inl 8 := by
  unfold wrongStep
  rw [if_neg (by rw [hon, h]; simp), if_neg (by omega), if_pos (.inl h)]
  simp only [hon, Option.getD_some]
  rw [if_pos ⟨h, hK⟩]
theorem wrongStep_d {st : WSt} {n : S39} {K : ByteArray → Bool} {o : Int} (h : n.f0 = 3 ∧ K n.f2 = true ∨ n.f0 = 2) (hon : st.on n.f1 = some K) (ht : st.tk n.f2 = some o) (ho : o ≠ n.f1) : wrongStep st n = .inl 6 := by
  unfold wrongStep
  rw [if_neg (by rw [hon]; rcases h with h | h <;> simp [h]), if_neg (by omega), if_pos (by omega)]
  simp only [hon, Option.getD_some, ht]
  rw [if_neg (by rcases h with h | h <;> simp [h]), if_pos (by simp [ho])]
theorem wrongStep_k {st : WSt} {n : S39} {K : ByteArray → Bool} (h : n.f0 = 3 ∧ K n.f2 = true ∨ n.f0 = 2) (hon : st.on n.f1 = some K) (ht : st.tk n.f2 = none ∨ st.tk n.f2 = some n.f1) :
    wrongStep st n = .inr ⟨fun v => if v = n.f1 then some (fun k => if k = n.f2 then true else K k) else st.on v, fun k => if k = n.f2 then some n.f1 else st.tk k⟩ := by
  unfold wrongStep
  rw [if_neg (by rw [hon]; rcases h with h | h <;> simp [h]), if_neg (by omega), if_pos (by omega)]
  simp only [hon, Option.getD_some]
  rw [if_neg (by rcases h with h | h <;> simp [h]), if_neg (by rcases ht with ht | ht <;> simp [ht])]
  rfl
theorem wrongStep_q {st : WSt} {n : S39} {K : ByteArray → Bool} (h : n.f0 = 4 ∨ n.f0 = 5 ∨ n.f0 = 7) (hon : st.on n.f1 = some K) :
    wrongStep st n = .inr ⟨fun v => if v = n.f1 then (if n.f0 = 4 then some fun _ => false else none) else st.on v, fun k => if K k = true then none else st.tk k⟩ := by
  unfold wrongStep
  rw [if_neg (by rw [hon]; rcases h with h | h | h <;> simp [h]), if_neg (by omega), if_neg (by omega), if_pos h]
  simp only [hon, Option.getD_some]
  rfl
theorem wrongStep_x {st : WSt} {n : S39} {K : ByteArray → Bool} (k1 : n.f0 ≠ 1) (k2 : n.f0 ≠ 2) (k3 : n.f0 ≠ 3) (k4 : n.f0 ≠ 4) (k5 : n.f0 ≠ 5) (k7 : n.f0 ≠ 7) (hon : st.on n.f1 = some K) : wrongStep st n = .inr st := by
  unfold wrongStep
  rw [if_neg (by rw [hon]; simp [k1]), if_neg k1, if_neg (by omega), if_neg (by omega)]
theorem _root_.Go.Proofs.YteblpjnkinghoaaW.Mw.Holds.congr' {P : Program} {t : TypeId} {κ : Type} [DecidableEq κ] {K : Keys P t κ} {w : World} {b b' : Nat} {F G : κ → Option Value} (h : Holds K w b F) (hb : b = b') (e : ∀ k, F k = G k) : Holds K w b' G := hb ▸ h.congr e
theorem wrong_no (A0 : Option Addr) (c0 : Nat) (l0 : List (S39)) (w : World) (hr0 : Kd.C k39 w A0 l0.length l0) (hc0 : l0.length ≤ c0) (h : ¬ (l0.length ≤ 1000 ∧ l0.all vld = true)) :
    Calls Try.prog 67 #[.slice A0 l0.length c0] w fun r w' => r = .returned (.tuple #[.int .i64 0, .int .i64 1]) ∧ Below w.heap.size w w' := by
  have HR0 := Aside0.mk hr0
  have HC0 := Aside0.mk hc0
  have HE := Aside0.mk (show journal_valid.f l0 = some false by unfold journal_valid.f; simp only [Option.some.injEq, Bool.and_eq_false_iff, decide_eq_false_iff_not]; rcases Classical.not_and_iff_not_or_not.1 h with h | h <;> simp [h])
  clear hr0 hc0 h
  go_enter Try.func67, Try.ntmps67
  go_wp2_with (go_at_call 60; refine (journal_valid.calls _ _ _ _ _ HR0.out HC0.out HE.out).mono ?_; rintro r w1 ⟨rfl, hb⟩)
  go_ret2
  exact ⟨rfl, hb⟩
set_option maxHeartbeats 4000000 in
set_option maxRecDepth 100000 in
theorem wrong_yes (A0 : Option Addr) (c0 : Nat) (l0 : List (S39)) (w : World) (hr0 : Kd.C k39 w A0 l0.length l0) (hc0 : l0.length ≤ c0) (hle : l0.length ≤ 1000) (hv : l0.all vld = true) (r1 r2 : Int) (hr : wrongFrom l0 0 ⟨fun _ => none, fun _ => none⟩ = (r1, r2)) :
    Calls Try.prog 67 #[.slice A0 l0.length c0] w fun r w' => r = .returned (.tuple #[.int .i64 r1, .int .i64 r2]) ∧ Below w.heap.size w w' := by
  have HR0 := Aside0.mk hr0
  have HC0 := Aside0.mk hc0
  have HE := Aside0.mk (show journal_valid.f l0 = some true by unfold journal_valid.f; rw [decide_eq_true hle, hv]; rfl)
  have HV := Aside0.mk hv
  have HRR := Aside0.mk hr
  clear hr0 hc0 hv hr
  have hmm := @run_makeMap Try.prog
  go_enter Try.func67, Try.ntmps67
  go_wp2_with (go_at_call 60; refine (journal_valid.calls _ _ _ _ _ HR0.out HC0.out HE.out).mono ?_; rintro r w1 ⟨rfl, hb⟩)
  obtain ⟨b1, hb1⟩ : ∃ b, b = w1.heap.size := ⟨_, rfl⟩
  obtain ⟨b2, hb2⟩ : ∃ b, b = w1.heap.size + 1 := ⟨_, rfl⟩
  have hbs : w.heap.size ≤ w1.heap.size := hb.size
  have hs1 : (w1.alloc (.map #[] 0)).heap.size = w1.heap.size + 1 := by simp
  have HJ := Aside0.mk (show Jrn ((w1.alloc (.map #[] 0)).alloc (.map #[] 0)) w.heap.size b1 b2 (fun _ => none) (fun _ => none) (fun _ => 0) (fun _ => 0) (fun x => if x = b1 then (0, 2) else (0, 3)) from
    { h1 := ((Holds.made KI w1).alloc _).congr' hb1.symm (fun _ => rfl), h2 := (Holds.made KS (w1.alloc (.map #[] 0))).congr' (hs1.trans hb2.symm) (fun _ => rfl), o1 := by simp, o2 := by rw [if_neg (by omega)], l1 := by omega, l2 := by omega, og := fun _ _ h => (by cases h), om := fun _ _ h => (by cases h) })
  have HB := Aside0.mk ((hb.alloc hb.size (.map #[] 0)).alloc (by omega) (.map #[] 0))
  rw [← hb2, ← hb1]
  clear hb hbs hs1 hb1 hb2 hmm
  generalize (w1.alloc (.map #[] 0)).alloc (.map #[] 0) = w2 at HJ HB ⊢
  go_loopg [20] l0.length (fun kq v20 w' => ∃ (i : Nat) (st : WSt) (g m : Int → Nat) (own : Nat → Int × Nat), v20 = .int .i64 i ∧ i ≤ l0.length ∧ Aside0 (kq + i = l0.length) ∧ Aside0 (wrongFrom (l0.drop i) i st = (r1, r2)) ∧ Aside0 (Jrn w' w.heap.size b1 b2 st.on st.tk g m own) ∧ Aside0 (Below w.heap.size w w'))
  case atStart => exact ⟨0, _, _, _, _, rfl, by omega, ⟨by omega⟩, HRR, HJ, HB⟩
  case round =>
    clear HB HJ HRR
    obtain ⟨i, st, g, m, own, rfl, hi, HQ, HS, HJ, HB⟩ := hrel
    by_cases hlt : i < l0.length
    · obtain ⟨ad, rfl, h0, h1, h2, h3, h4⟩ := at_T39 (Kd.C_below HR0.out HB.out) (i : Int) (by omega) (by omega)
      rw [Int.toNat_natCast] at h0 h1 h2 h3 h4
      have HS2 := Aside0.mk (show wrongFrom (rd_T39 l0 (i : Int) :: l0.drop (i + 1)) i st = (r1, r2) by rw [← HS.out, drop_rd (show i < l0.length from hlt)])
      generalize rd_T39 l0 (i : Int) = n at h0 h1 h2 h3 h4 HS2
      clear HS
      by_cases k6 : n.f0 = 6
      · have HS3 := Aside0.mk ((wrongFrom_inr (wrongStep_6 k6)).symm.trans HS2.out)
        have q1 : (n.f0 == 1) = false := by rw [k6]; rfl
        have q3 : (n.f0 == 3) = false := by rw [k6]; rfl
        have q2 : (n.f0 == 2) = false := by rw [k6]; rfl
        have q4 : (n.f0 == 4) = false := by rw [k6]; rfl
        have q5 : (n.f0 == 5) = false := by rw [k6]; rfl
        have q7 : (n.f0 == 7) = false := by rw [k6]; rfl
        have q6 : (n.f0 != 6) = false := by rw [k6]; rfl
        have q4n : (n.f0 != 4) = true := by rw [k6]; rfl
        clear k6 HS2
        cases hon : st.on n.f1 with
        | none =>
          have HO1 := Aside0.mk (show onF st.on g n.f1 = none by unfold onF; rw [hon]; rfl)
          clear hon
          go_wp2_with (first | (at_lookup; refine wl_look2 (K := KI) rfl (.tmp 26) (.tmp 28) 112 rfl Try.underlying112 zero114 (HJ.out.h1.alloc _) n.f1 rfl rfl ?_; rw [HO1.out]; simp only [Option.getD_none, Option.isSome_none]))
          go_roundg (gk - 1)
          case measure => have := HQ.out; omega
          case rel => exact ⟨i + 1, _, _, _, _, rfl, by omega, ⟨by have := HQ.out; omega⟩, HS3, ⟨HJ.out.below ((Below.refl _ _).alloc (Nat.le_refl _) _)⟩, ⟨HB.out.alloc (below_size HB.out) _⟩⟩
        | some K =>
          have HO1 := Aside0.mk (show onF st.on g n.f1 = some (.pointer (some ⟨g n.f1, 0, none⟩)) by unfold onF; rw [hon]; rfl)
          clear hon
          go_wp2_with (first | (at_lookup; refine wl_look2 (K := KI) rfl (.tmp 26) (.tmp 28) 112 rfl Try.underlying112 zero114 (HJ.out.h1.alloc _) n.f1 rfl rfl ?_; rw [HO1.out]; simp only [Option.getD_some, Option.isSome_some]))
          go_roundg (gk - 1)
          case measure => have := HQ.out; omega
          case rel => exact ⟨i + 1, _, _, _, _, rfl, by omega, ⟨by have := HQ.out; omega⟩, HS3, ⟨HJ.out.below ((Below.refl _ _).alloc (Nat.le_refl _) _)⟩, ⟨HB.out.alloc (below_size HB.out) _⟩⟩
      have q6 : (n.f0 != 6) = true := bne_iff_ne.2 k6
      by_cases k1 : n.f0 = 1
      · cases hon : st.on n.f1 with
        | some K =>
          obtain ⟨rfl, rfl⟩ := Prod.mk.inj ((wrongFrom_inl (wrongStep_9 k6 (by rw [hon, k1]; rfl))).symm.trans HS2.out)
          have HO1 := Aside0.mk (show onF st.on g n.f1 = some (.pointer (some ⟨g n.f1, 0, none⟩)) by unfold onF; rw [hon]; rfl)
          have q1 : (n.f0 == 1) = true := beq_iff_eq.2 k1
          clear hon k1 k6 HS2
          go_wp2_with (first | (at_lookup; refine wl_look2 (K := KI) rfl (.tmp 26) (.tmp 28) 112 rfl Try.underlying112 zero114 (HJ.out.h1.alloc _) n.f1 rfl rfl ?_; rw [HO1.out]; simp only [Option.getD_some, Option.isSome_some]))
          go_ret2
          exact ⟨rfl, HB.out.alloc (below_size HB.out) _⟩
        | none =>
          have HS3 := Aside0.mk ((wrongFrom_inr (wrongStep_1 k1 hon)).symm.trans HS2.out)
          have HO1 := Aside0.mk (show onF st.on g n.f1 = none by unfold onF; rw [hon]; rfl)
          have q1 : (n.f0 == 1) = true := by rw [k1]; rfl
          have q3 : (n.f0 == 3) = false := by rw [k1]; rfl
          have q2 : (n.f0 == 2) = false := by rw [k1]; rfl
          have q4 : (n.f0 == 4) = false := by rw [k1]; rfl
          have q5 : (n.f0 == 5) = false := by rw [k1]; rfl
          have q7 : (n.f0 == 7) = false := by rw [k1]; rfl
          have q6 : (n.f0 != 6) = true := by rw [k1]; rfl
          have q4n : (n.f0 != 4) = true := by rw [k1]; rfl
          clear hon k1 k6 HS2
          have hmm := @run_makeMap Try.prog
          have hk := heap_alloc_new wr (.cells #[.int .i64 n.f0, .int .i64 n.f1, .string n.f2, .bool n.f3, .string n.f4] 39)
          have HB5 := Aside0.mk (HB.out.alloc (below_size HB.out) (.cells #[.int .i64 n.f0, .int .i64 n.f1, .string n.f2, .bool n.f3, .string n.f4] 39))
          have HJ5 := Aside0.mk (HJ.out.below ((Below.refl _ _).alloc (Nat.le_refl _) (.cells #[.int .i64 n.f0, .int .i64 n.f1, .string n.f2, .bool n.f3, .string n.f4] 39)))
          go_wp2_with (first | (at_lookup; refine wl_look2 (K := KI) rfl (.tmp 26) (.tmp 28) 112 rfl Try.underlying112 zero114 HJ5.out.h1 n.f1 rfl rfl ?_; rw [HO1.out]; simp only [Option.getD_none, Option.isSome_none]; generalize wr.alloc (.cells #[.int .i64 n.f0, .int .i64 n.f1, .string n.f2, .bool n.f3, .string n.f4] 39) = w5 at HB5 HJ5 hk ⊢; have hc0 := (blk_cell hk 0).trans (show _ = some (Value.int .i64 n.f0) from rfl); have hc1 := (blk_cell hk 1).trans (show _ = some (Value.int .i64 n.f1) from rfl); have hc2 := (blk_cell hk 2).trans (show _ = some (Value.string n.f2) from rfl)) | (at_mapUpdate; refine wl_put (K := KI) rfl (.tmp 47) (.tmp 49) (.tmp 53) 112 rfl Try.underlying112 ((HJ5.out.h1.alloc _).alloc _) n.f1 (.pointer (some ⟨w5.heap.size + 1, 0, none⟩)) rfl rfl rfl ?_; intro w6 hp6 hg6; obtain ⟨g', m', own', hj6⟩ := HJ5.out.opened (below_size HB5.out) n.f1 i (((Below.refl _ w5).alloc (Nat.le_refl _) (.map #[] 0)).alloc (by simp) (.cells #[.int .i64 i, .map (some w5.heap.size)] 117)) ((Holds.made KS w5).alloc _) (by have := heap_alloc_new (w5.alloc (.map #[] 0)) (.cells #[.int .i64 i, .map (some w5.heap.size)] 117); rwa [show (w5.alloc (.map #[] 0)).heap.size = w5.heap.size + 1 by simp] at this) hp6 hg6; have HJ6 := Aside0.mk hj6; have HB6 := Aside0.mk (((HB5.out.alloc (below_size HB5.out) (.map #[] 0)).alloc (by have := below_size HB5.out; simp; omega) (.cells #[.int .i64 i, .map (some w5.heap.size)] 117)).grown hg6 (by have := below_size HB5.out; simp; omega) (fun k e => by cases e; exact HJ5.out.l1)); clear hp6 hg6 hj6))
          go_roundg (gk - 1)
          case measure => have := HQ.out; omega
          case rel => exact ⟨i + 1, _, _, _, _, rfl, by omega, ⟨by have := HQ.out; omega⟩, HS3, HJ6, HB6⟩
      · cases hon : st.on n.f1 with
        | none =>
          obtain ⟨rfl, rfl⟩ := Prod.mk.inj ((wrongFrom_inl (wrongStep_9 k6 (by rw [hon]; simp [k1]))).symm.trans HS2.out)
          have HO1 := Aside0.mk (show onF st.on g n.f1 = none by unfold onF; rw [hon]; rfl)
          have q1 : (n.f0 == 1) = false := beq_eq_false_iff_ne.2 k1
          clear hon k1 k6 HS2
          go_wp2_with (first | (at_lookup; refine wl_look2 (K := KI) rfl (.tmp 26) (.tmp 28) 112 rfl Try.underlying112 zero114 (HJ.out.h1.alloc _) n.f1 rfl rfl ?_; rw [HO1.out]; simp only [Option.getD_none, Option.isSome_none]))
          go_ret2
          exact ⟨rfl, HB.out.alloc (below_size HB.out) _⟩
        | some K =>
          have HO1 := Aside0.mk (show onF st.on g n.f1 = some (.pointer (some ⟨g n.f1, 0, none⟩)) by unfold onF; rw [hon]; rfl)
          have HON := Aside0.mk hon
          clear hon
          by_cases k3 : n.f0 = 3
          · cases hK : K n.f2 with
            | false =>
              obtain ⟨rfl, rfl⟩ := Prod.mk.inj ((wrongFrom_inl (wrongStep_8 k3 HON.out hK)).symm.trans HS2.out)
              have q1 : (n.f0 == 1) = false := by rw [k3]; rfl
              have q3 : (n.f0 == 3) = true := by rw [k3]; rfl
              have q2 : (n.f0 == 2) = false := by rw [k3]; rfl
              have q4 : (n.f0 == 4) = false := by rw [k3]; rfl
              have q5 : (n.f0 == 5) = false := by rw [k3]; rfl
              have q7 : (n.f0 == 7) = false := by rw [k3]; rfl
              have q6 : (n.f0 != 6) = true := by rw [k3]; rfl
              have q4n : (n.f0 != 4) = true := by rw [k3]; rfl
              clear k1 k3 k6 HS2
              have hk := heap_alloc_new wr (.cells #[.int .i64 n.f0, .int .i64 n.f1, .string n.f2, .bool n.f3, .string n.f4] 39)
              have HB5 := Aside0.mk (HB.out.alloc (below_size HB.out) (.cells #[.int .i64 n.f0, .int .i64 n.f1, .string n.f2, .bool n.f3, .string n.f4] 39))
              have HJ5 := Aside0.mk (HJ.out.below ((Below.refl _ _).alloc (Nat.le_refl _) (.cells #[.int .i64 n.f0, .int .i64 n.f1, .string n.f2, .bool n.f3, .string n.f4] 39)))
              have HOG := Aside0.mk (HJ5.out.og _ _ HON.out)
              have HOM := Aside0.mk (HJ5.out.om _ _ HON.out)
              go_wp2_with (first | (at_lookup; refine wl_look2 (K := KI) rfl (.tmp 26) (.tmp 28) 112 rfl Try.underlying112 zero114 HJ5.out.h1 n.f1 rfl rfl ?_; rw [HO1.out]; simp only [Option.getD_some, Option.isSome_some]; generalize wr.alloc (.cells #[.int .i64 n.f0, .int .i64 n.f1, .string n.f2, .bool n.f3, .string n.f4] 39) = w5 at HB5 HJ5 hk HOG HOM ⊢; have hc0 := (blk_cell hk 0).trans (show _ = some (Value.int .i64 n.f0) from rfl); have hc1 := (blk_cell hk 1).trans (show _ = some (Value.int .i64 n.f1) from rfl); have hc2 := (blk_cell hk 2).trans (show _ = some (Value.string n.f2) from rfl)))
              obtain ⟨fr, hgu⟩ := HOG.out.2.2
              have hg1 := (blk_cell hgu 1).trans (show _ = some (Value.map (some (m n.f1))) from rfl)
              have hp0 := fun p : Past w5 => Past.cell hc0 p
              have hp2 := fun p : Past w5 => Past.cell hc2 p
              have hpg := fun p : Past w5 => Past.cell hg1 p
              have hl16 : ∀ p : Past w5, (Instr.lookup 64 (.map (some (m n.f1))) (.string n.f2) false).run Try.prog p.W = .ok (.bool (K n.f2)) p.W := fun p => by rw [show (Value.string n.f2) = KS.enc n.f2 from rfl, ((HOM.out.2.2.below p.h).look Try.underlying64 zeroB n.f2).1, show (ksF K n.f2).getD (.bool false) = .bool (K n.f2) by unfold ksF; cases K n.f2 <;> rfl]
              rw [hK] at hl16
              refine wp_region_past (by kernel_rfl) (by kernel_rfl) ?_
              repeat (go_big_quiet_step (fail))
              refine wpQuiet_nil ?_
              rintro _ ⟨p, rfl⟩
              have hb6 := p.h
              generalize p.W = w6 at hb6 ⊢
              have hc1 := pw_cell_below hb6 hc1
              have hc2 := pw_cell_below hb6 hc2
              have hg1 := pw_cell_below hb6 hg1
              have HB6 := Aside0.mk (below_step HB5.out hb6)
              have HJ6 := Aside0.mk (HJ5.out.below hb6)
              have HB56 := Aside0.mk hb6
              have HK6 := Aside0.mk ((hb6.block _ (Array.getElem?_eq_some_iff.1 hk).1).trans hk)
              have HLT6 := Aside0.mk (Array.getElem?_eq_some_iff.1 HK6.out).1
              have HNE := Aside0.mk (show wr.heap.size ≠ m n.f1 from fun e => by obtain ⟨l, c, hb, _⟩ := HOM.out.2.2; rw [← e, hk] at hb; cases hb)
              clear hp0 hp2 hpg hl16 hk hc0 hgu hb6
              go_wp2
              go_ret2
              exact ⟨rfl, HB6.out⟩
            | true =>
              have hk' : n.f0 = 3 ∧ K n.f2 = true ∨ n.f0 = 2 := .inl ⟨k3, hK⟩
              cases ht : st.tk n.f2 with
              | none =>
                have q1 : (n.f0 == 1) = false := by rw [k3]; rfl
                have q3 : (n.f0 == 3) = true := by rw [k3]; rfl
                have q2 : (n.f0 == 2) = false := by rw [k3]; rfl
                have q4 : (n.f0 == 4) = false := by rw [k3]; rfl
                have q5 : (n.f0 == 5) = false := by rw [k3]; rfl
                have q7 : (n.f0 == 7) = false := by rw [k3]; rfl
                have q6 : (n.f0 != 6) = true := by rw [k3]; rfl
                have q4n : (n.f0 != 4) = true := by rw [k3]; rfl
                have HT := Aside0.mk (show tkF st.tk n.f2 = none by unfold tkF; rw [ht]; rfl)
                have HS3 := Aside0.mk ((wrongFrom_inr (wrongStep_k hk' HON.out (.inl ht))).symm.trans HS2.out)
                clear k1 k6 HS2 hk' ht
                clear k3
                have hk := heap_alloc_new wr (.cells #[.int .i64 n.f0, .int .i64 n.f1, .string n.f2, .bool n.f3, .string n.f4] 39)
                have HB5 := Aside0.mk (HB.out.alloc (below_size HB.out) (.cells #[.int .i64 n.f0, .int .i64 n.f1, .string n.f2, .bool n.f3, .string n.f4] 39))
                have HJ5 := Aside0.mk (HJ.out.below ((Below.refl _ _).alloc (Nat.le_refl _) (.cells #[.int .i64 n.f0, .int .i64 n.f1, .string n.f2, .bool n.f3, .string n.f4] 39)))
                have HOG := Aside0.mk (HJ5.out.og _ _ HON.out)
                have HOM := Aside0.mk (HJ5.out.om _ _ HON.out)
                go_wp2_with (first | (at_lookup; refine wl_look2 (K := KI) rfl (.tmp 26) (.tmp 28) 112 rfl Try.underlying112 zero114 HJ5.out.h1 n.f1 rfl rfl ?_; rw [HO1.out]; simp only [Option.getD_some, Option.isSome_some]; generalize wr.alloc (.cells #[.int .i64 n.f0, .int .i64 n.f1, .string n.f2, .bool n.f3, .string n.f4] 39) = w5 at HB5 HJ5 hk HOG HOM ⊢; have hc0 := (blk_cell hk 0).trans (show _ = some (Value.int .i64 n.f0) from rfl); have hc1 := (blk_cell hk 1).trans (show _ = some (Value.int .i64 n.f1) from rfl); have hc2 := (blk_cell hk 2).trans (show _ = some (Value.string n.f2) from rfl)))
                obtain ⟨fr, hgu⟩ := HOG.out.2.2
                have hg1 := (blk_cell hgu 1).trans (show _ = some (Value.map (some (m n.f1))) from rfl)
                have hp0 := fun p : Past w5 => Past.cell hc0 p
                have hp2 := fun p : Past w5 => Past.cell hc2 p
                have hpg := fun p : Past w5 => Past.cell hg1 p
                have hl16 : ∀ p : Past w5, (Instr.lookup 64 (.map (some (m n.f1))) (.string n.f2) false).run Try.prog p.W = .ok (.bool (K n.f2)) p.W := fun p => by rw [show (Value.string n.f2) = KS.enc n.f2 from rfl, ((HOM.out.2.2.below p.h).look Try.underlying64 zeroB n.f2).1, show (ksF K n.f2).getD (.bool false) = .bool (K n.f2) by unfold ksF; cases K n.f2 <;> rfl]
                rw [hK] at hl16
                refine wp_region_past (by kernel_rfl) (by kernel_rfl) ?_
                repeat (go_big_quiet_step (fail))
                refine wpQuiet_nil ?_
                rintro _ ⟨p, rfl⟩
                have hb6 := p.h
                generalize p.W = w6 at hb6 ⊢
                have hc1 := pw_cell_below hb6 hc1
                have hc2 := pw_cell_below hb6 hc2
                have hg1 := pw_cell_below hb6 hg1
                have HB6 := Aside0.mk (below_step HB5.out hb6)
                have HJ6 := Aside0.mk (HJ5.out.below hb6)
                have HB56 := Aside0.mk hb6
                have HK6 := Aside0.mk ((hb6.block _ (Array.getElem?_eq_some_iff.1 hk).1).trans hk)
                have HLT6 := Aside0.mk (Array.getElem?_eq_some_iff.1 HK6.out).1
                have HNE := Aside0.mk (show wr.heap.size ≠ m n.f1 from fun e => by obtain ⟨l, c, hb, _⟩ := HOM.out.2.2; rw [← e, hk] at hb; cases hb)
                clear hp0 hp2 hpg hl16 hk hc0 hgu hb6
                go_wp2_with (first | (at_lookup; refine wl_look2 (K := KS) rfl (.tmp 72) (.tmp 74) 113 rfl Try.underlying113 zeroI HJ6.out.h2 n.f2 rfl rfl ?_; rw [HT.out]; simp only [Option.getD_none, Option.isSome_none]))
                obtain ⟨st1, w7, hme, hg7, hst⟩ := ((HOM.out.2.2.below HB56.out).drew).entry Try.underlying64 zeroB n.f2
                obtain ⟨w8, hes, hH8, hg8⟩ := hst (.bool true)
                obtain ⟨w9, hmu, hH9, hg9⟩ := ((HJ6.out.h2.drew).grown hg8 (fun e => Jrn.ne _ HJ6.out.o2 HOM.out.1 (.inr (by decide)) (Option.some.inj e))).put Try.underlying113 n.f2 (.int .i64 n.f1)
                have hme : (Instr.mapEntry 64 (.map (some (m n.f1))) (.string n.f2)).run Try.prog w6.drew = .ok (.tuple #[(ksF K n.f2).getD (.bool false), .int .i64 st1]) w7 := hme
                have hes : (Instr.entryStore 64 (.map (some (m n.f1))) (.int .i64 st1) (.bool true)).run Try.prog w7 = .ok () w8 := hes
                have hmu : (Instr.mapUpdate 113 (.map (some b2)) (.string n.f2) (.int .i64 n.f1)).run Try.prog w8 = .ok () w9 := hmu
                have hne7 : wr.heap.size ≠ m n.f1 := HNE.out
                have hk7 := (hg7.block wr.heap.size HLT6.out (fun e => hne7 (Option.some.inj e))).trans HK6.out
                have hk8 := (hg8.block wr.heap.size HLT6.out (fun e => hne7 (Option.some.inj e))).trans HK6.out
                have h71 := (blk_cell hk7 1).trans (show _ = some (Value.int .i64 n.f1) from rfl)
                have h72 := (blk_cell hk7 2).trans (show _ = some (Value.string n.f2) from rfl)
                have h81 := (blk_cell hk8 1).trans (show _ = some (Value.int .i64 n.f1) from rfl)
                have h82 := (blk_cell hk8 2).trans (show _ = some (Value.string n.f2) from rfl)
                have HJ9 := Aside0.mk ((HJ6.out.drew).added n.f1 n.f2 HON.out hH8 hg8 hH9 hg9)
                have HB9 := Aside0.mk ((HB6.out.drew.grown hg8 (below_size HB6.out.drew) (fun k e => by cases e; exact HOM.out.2.1)).grown hg9 (Nat.le_trans (below_size HB6.out.drew) hg8.size) (fun k e => by cases e; exact HJ6.out.l2))
                clear hst hg7 hg8 hg9 hH8 hH9 hk7 hk8 hne7
                go_region
                go_wp2
                go_roundg (gk - 1)
                case measure => have := HQ.out; omega
                case rel => exact ⟨i + 1, _, _, _, _, rfl, by omega, ⟨by have := HQ.out; omega⟩, HS3, HJ9, HB9⟩
              | some o =>
                have HT := Aside0.mk (show tkF st.tk n.f2 = some (.int .i64 o) by unfold tkF; rw [ht]; rfl)
                by_cases ho : o = n.f1
                · skip
                  have q1 : (n.f0 == 1) = false := by rw [k3]; rfl
                  have q3 : (n.f0 == 3) = true := by rw [k3]; rfl
                  have q2 : (n.f0 == 2) = false := by rw [k3]; rfl
                  have q4 : (n.f0 == 4) = false := by rw [k3]; rfl
                  have q5 : (n.f0 == 5) = false := by rw [k3]; rfl
                  have q7 : (n.f0 == 7) = false := by rw [k3]; rfl
                  have q6 : (n.f0 != 6) = true := by rw [k3]; rfl
                  have q4n : (n.f0 != 4) = true := by rw [k3]; rfl
                  have qo : (o != n.f1) = false := by rw [ho]; simp
                  have HS3 := Aside0.mk ((wrongFrom_inr (wrongStep_k hk' HON.out (.inr (ho ▸ ht)))).symm.trans HS2.out)
                  clear k1 k6 HS2 hk' ht ho
                  clear k3
                  have hk := heap_alloc_new wr (.cells #[.int .i64 n.f0, .int .i64 n.f1, .string n.f2, .bool n.f3, .string n.f4] 39)
                  have HB5 := Aside0.mk (HB.out.alloc (below_size HB.out) (.cells #[.int .i64 n.f0, .int .i64 n.f1, .string n.f2, .bool n.f3, .string n.f4] 39))
                  have HJ5 := Aside0.mk (HJ.out.below ((Below.refl _ _).alloc (Nat.le_refl _) (.cells #[.int .i64 n.f0, .int .i64 n.f1, .string n.f2, .bool n.f3, .string n.f4] 39)))
                  have HOG := Aside0.mk (HJ5.out.og _ _ HON.out)
                  have HOM := Aside0.mk (HJ5.out.om _ _ HON.out)
                  go_wp2_with (first | (at_lookup; refine wl_look2 (K := KI) rfl (.tmp 26) (.tmp 28) 112 rfl Try.underlying112 zero114 HJ5.out.h1 n.f1 rfl rfl ?_; rw [HO1.out]; simp only [Option.getD_some, Option.isSome_some]; generalize wr.alloc (.cells #[.int .i64 n.f0, .int .i64 n.f1, .string n.f2, .bool n.f3, .string n.f4] 39) = w5 at HB5 HJ5 hk HOG HOM ⊢; have hc0 := (blk_cell hk 0).trans (show _ = some (Value.int .i64 n.f0) from rfl); have hc1 := (blk_cell hk 1).trans (show _ = some (Value.int .i64 n.f1) from rfl); have hc2 := (blk_cell hk 2).trans (show _ = some (Value.string n.f2) from rfl)))
                  obtain ⟨fr, hgu⟩ := HOG.out.2.2
                  have hg1 := (blk_cell hgu 1).trans (show _ = some (Value.map (some (m n.f1))) from rfl)
                  have hp0 := fun p : Past w5 => Past.cell hc0 p
                  have hp2 := fun p : Past w5 => Past.cell hc2 p
                  have hpg := fun p : Past w5 => Past.cell hg1 p
                  have hl16 : ∀ p : Past w5, (Instr.lookup 64 (.map (some (m n.f1))) (.string n.f2) false).run Try.prog p.W = .ok (.bool (K n.f2)) p.W := fun p => by rw [show (Value.string n.f2) = KS.enc n.f2 from rfl, ((HOM.out.2.2.below p.h).look Try.underlying64 zeroB n.f2).1, show (ksF K n.f2).getD (.bool false) = .bool (K n.f2) by unfold ksF; cases K n.f2 <;> rfl]
                  rw [hK] at hl16
                  refine wp_region_past (by kernel_rfl) (by kernel_rfl) ?_
                  repeat (go_big_quiet_step (fail))
                  refine wpQuiet_nil ?_
                  rintro _ ⟨p, rfl⟩
                  have hb6 := p.h
                  generalize p.W = w6 at hb6 ⊢
                  have hc1 := pw_cell_below hb6 hc1
                  have hc2 := pw_cell_below hb6 hc2
                  have hg1 := pw_cell_below hb6 hg1
                  have HB6 := Aside0.mk (below_step HB5.out hb6)
                  have HJ6 := Aside0.mk (HJ5.out.below hb6)
                  have HB56 := Aside0.mk hb6
                  have HK6 := Aside0.mk ((hb6.block _ (Array.getElem?_eq_some_iff.1 hk).1).trans hk)
                  have HLT6 := Aside0.mk (Array.getElem?_eq_some_iff.1 HK6.out).1
                  have HNE := Aside0.mk (show wr.heap.size ≠ m n.f1 from fun e => by obtain ⟨l, c, hb, _⟩ := HOM.out.2.2; rw [← e, hk] at hb; cases hb)
                  clear hp0 hp2 hpg hl16 hk hc0 hgu hb6
                  go_wp2_with (first | (at_lookup; refine wl_look2 (K := KS) rfl (.tmp 72) (.tmp 74) 113 rfl Try.underlying113 zeroI HJ6.out.h2 n.f2 rfl rfl ?_; rw [HT.out]; simp only [Option.getD_some, Option.isSome_some]))
                  obtain ⟨st1, w7, hme, hg7, hst⟩ := ((HOM.out.2.2.below HB56.out).drew).entry Try.underlying64 zeroB n.f2
                  obtain ⟨w8, hes, hH8, hg8⟩ := hst (.bool true)
                  obtain ⟨w9, hmu, hH9, hg9⟩ := ((HJ6.out.h2.drew).grown hg8 (fun e => Jrn.ne _ HJ6.out.o2 HOM.out.1 (.inr (by decide)) (Option.some.inj e))).put Try.underlying113 n.f2 (.int .i64 n.f1)
                  have hme : (Instr.mapEntry 64 (.map (some (m n.f1))) (.string n.f2)).run Try.prog w6.drew = .ok (.tuple #[(ksF K n.f2).getD (.bool false), .int .i64 st1]) w7 := hme
                  have hes : (Instr.entryStore 64 (.map (some (m n.f1))) (.int .i64 st1) (.bool true)).run Try.prog w7 = .ok () w8 := hes
                  have hmu : (Instr.mapUpdate 113 (.map (some b2)) (.string n.f2) (.int .i64 n.f1)).run Try.prog w8 = .ok () w9 := hmu
                  have hne7 : wr.heap.size ≠ m n.f1 := HNE.out
                  have hk7 := (hg7.block wr.heap.size HLT6.out (fun e => hne7 (Option.some.inj e))).trans HK6.out
                  have hk8 := (hg8.block wr.heap.size HLT6.out (fun e => hne7 (Option.some.inj e))).trans HK6.out
                  have h71 := (blk_cell hk7 1).trans (show _ = some (Value.int .i64 n.f1) from rfl)
                  have h72 := (blk_cell hk7 2).trans (show _ = some (Value.string n.f2) from rfl)
                  have h81 := (blk_cell hk8 1).trans (show _ = some (Value.int .i64 n.f1) from rfl)
                  have h82 := (blk_cell hk8 2).trans (show _ = some (Value.string n.f2) from rfl)
                  have HJ9 := Aside0.mk ((HJ6.out.drew).added n.f1 n.f2 HON.out hH8 hg8 hH9 hg9)
                  have HB9 := Aside0.mk ((HB6.out.drew.grown hg8 (below_size HB6.out.drew) (fun k e => by cases e; exact HOM.out.2.1)).grown hg9 (Nat.le_trans (below_size HB6.out.drew) hg8.size) (fun k e => by cases e; exact HJ6.out.l2))
                  clear hst hg7 hg8 hg9 hH8 hH9 hk7 hk8 hne7
                  go_region
                  go_wp2
                  go_roundg (gk - 1)
                  case measure => have := HQ.out; omega
                  case rel => exact ⟨i + 1, _, _, _, _, rfl, by omega, ⟨by have := HQ.out; omega⟩, HS3, HJ9, HB9⟩
                · skip
                  have q1 : (n.f0 == 1) = false := by rw [k3]; rfl
                  have q3 : (n.f0 == 3) = true := by rw [k3]; rfl
                  have q2 : (n.f0 == 2) = false := by rw [k3]; rfl
                  have q4 : (n.f0 == 4) = false := by rw [k3]; rfl
                  have q5 : (n.f0 == 5) = false := by rw [k3]; rfl
                  have q7 : (n.f0 == 7) = false := by rw [k3]; rfl
                  have q6 : (n.f0 != 6) = true := by rw [k3]; rfl
                  have q4n : (n.f0 != 4) = true := by rw [k3]; rfl
                  have qo : (o != n.f1) = true := bne_iff_ne.2 ho
                  obtain ⟨rfl, rfl⟩ := Prod.mk.inj ((wrongFrom_inl (wrongStep_d hk' HON.out ht ho)).symm.trans HS2.out)
                  clear k1 k6 HS2 hk' ht ho
                  clear k3
                  have hk := heap_alloc_new wr (.cells #[.int .i64 n.f0, .int .i64 n.f1, .string n.f2, .bool n.f3, .string n.f4] 39)
                  have HB5 := Aside0.mk (HB.out.alloc (below_size HB.out) (.cells #[.int .i64 n.f0, .int .i64 n.f1, .string n.f2, .bool n.f3, .string n.f4] 39))
                  have HJ5 := Aside0.mk (HJ.out.below ((Below.refl _ _).alloc (Nat.le_refl _) (.cells #[.int .i64 n.f0, .int .i64 n.f1, .string n.f2, .bool n.f3, .string n.f4] 39)))
                  have HOG := Aside0.mk (HJ5.out.og _ _ HON.out)
                  have HOM := Aside0.mk (HJ5.out.om _ _ HON.out)
                  go_wp2_with (first | (at_lookup; refine wl_look2 (K := KI) rfl (.tmp 26) (.tmp 28) 112 rfl Try.underlying112 zero114 HJ5.out.h1 n.f1 rfl rfl ?_; rw [HO1.out]; simp only [Option.getD_some, Option.isSome_some]; generalize wr.alloc (.cells #[.int .i64 n.f0, .int .i64 n.f1, .string n.f2, .bool n.f3, .string n.f4] 39) = w5 at HB5 HJ5 hk HOG HOM ⊢; have hc0 := (blk_cell hk 0).trans (show _ = some (Value.int .i64 n.f0) from rfl); have hc1 := (blk_cell hk 1).trans (show _ = some (Value.int .i64 n.f1) from rfl); have hc2 := (blk_cell hk 2).trans (show _ = some (Value.string n.f2) from rfl)))
                  obtain ⟨fr, hgu⟩ := HOG.out.2.2
                  have hg1 := (blk_cell hgu 1).trans (show _ = some (Value.map (some (m n.f1))) from rfl)
                  have hp0 := fun p : Past w5 => Past.cell hc0 p
                  have hp2 := fun p : Past w5 => Past.cell hc2 p
                  have hpg := fun p : Past w5 => Past.cell hg1 p
                  have hl16 : ∀ p : Past w5, (Instr.lookup 64 (.map (some (m n.f1))) (.string n.f2) false).run Try.prog p.W = .ok (.bool (K n.f2)) p.W := fun p => by rw [show (Value.string n.f2) = KS.enc n.f2 from rfl, ((HOM.out.2.2.below p.h).look Try.underlying64 zeroB n.f2).1, show (ksF K n.f2).getD (.bool false) = .bool (K n.f2) by unfold ksF; cases K n.f2 <;> rfl]
                  rw [hK] at hl16
                  refine wp_region_past (by kernel_rfl) (by kernel_rfl) ?_
                  repeat (go_big_quiet_step (fail))
                  refine wpQuiet_nil ?_
                  rintro _ ⟨p, rfl⟩
                  have hb6 := p.h
                  generalize p.W = w6 at hb6 ⊢
                  have hc1 := pw_cell_below hb6 hc1
                  have hc2 := pw_cell_below hb6 hc2
                  have hg1 := pw_cell_below hb6 hg1
                  have HB6 := Aside0.mk (below_step HB5.out hb6)
                  have HJ6 := Aside0.mk (HJ5.out.below hb6)
                  have HB56 := Aside0.mk hb6
                  have HK6 := Aside0.mk ((hb6.block _ (Array.getElem?_eq_some_iff.1 hk).1).trans hk)
                  have HLT6 := Aside0.mk (Array.getElem?_eq_some_iff.1 HK6.out).1
                  have HNE := Aside0.mk (show wr.heap.size ≠ m n.f1 from fun e => by obtain ⟨l, c, hb, _⟩ := HOM.out.2.2; rw [← e, hk] at hb; cases hb)
                  clear hp0 hp2 hpg hl16 hk hc0 hgu hb6
                  go_wp2_with (first | (at_lookup; refine wl_look2 (K := KS) rfl (.tmp 72) (.tmp 74) 113 rfl Try.underlying113 zeroI HJ6.out.h2 n.f2 rfl rfl ?_; rw [HT.out]; simp only [Option.getD_some, Option.isSome_some]))
                  go_ret2
                  exact ⟨rfl, HB6.out⟩
          by_cases k2 : n.f0 = 2
          · have hk' : n.f0 = 3 ∧ K n.f2 = true ∨ n.f0 = 2 := .inr k2
            cases ht : st.tk n.f2 with
            | none =>
              have q1 : (n.f0 == 1) = false := by rw [k2]; rfl
              have q3 : (n.f0 == 3) = false := by rw [k2]; rfl
              have q2 : (n.f0 == 2) = true := by rw [k2]; rfl
              have q4 : (n.f0 == 4) = false := by rw [k2]; rfl
              have q5 : (n.f0 == 5) = false := by rw [k2]; rfl
              have q7 : (n.f0 == 7) = false := by rw [k2]; rfl
              have q6 : (n.f0 != 6) = true := by rw [k2]; rfl
              have q4n : (n.f0 != 4) = true := by rw [k2]; rfl
              have HT := Aside0.mk (show tkF st.tk n.f2 = none by unfold tkF; rw [ht]; rfl)
              have HS3 := Aside0.mk ((wrongFrom_inr (wrongStep_k hk' HON.out (.inl ht))).symm.trans HS2.out)
              clear k1 k6 HS2 hk' ht
              clear k2 k3
              have hk := heap_alloc_new wr (.cells #[.int .i64 n.f0, .int .i64 n.f1, .string n.f2, .bool n.f3, .string n.f4] 39)
              have HB5 := Aside0.mk (HB.out.alloc (below_size HB.out) (.cells #[.int .i64 n.f0, .int .i64 n.f1, .string n.f2, .bool n.f3, .string n.f4] 39))
              have HJ5 := Aside0.mk (HJ.out.below ((Below.refl _ _).alloc (Nat.le_refl _) (.cells #[.int .i64 n.f0, .int .i64 n.f1, .string n.f2, .bool n.f3, .string n.f4] 39)))
              have HOG := Aside0.mk (HJ5.out.og _ _ HON.out)
              have HOM := Aside0.mk (HJ5.out.om _ _ HON.out)
              go_wp2_with (first | (at_lookup; refine wl_look2 (K := KI) rfl (.tmp 26) (.tmp 28) 112 rfl Try.underlying112 zero114 HJ5.out.h1 n.f1 rfl rfl ?_; rw [HO1.out]; simp only [Option.getD_some, Option.isSome_some]; generalize wr.alloc (.cells #[.int .i64 n.f0, .int .i64 n.f1, .string n.f2, .bool n.f3, .string n.f4] 39) = w5 at HB5 HJ5 hk HOG HOM ⊢; have hc0 := (blk_cell hk 0).trans (show _ = some (Value.int .i64 n.f0) from rfl); have hc1 := (blk_cell hk 1).trans (show _ = some (Value.int .i64 n.f1) from rfl); have hc2 := (blk_cell hk 2).trans (show _ = some (Value.string n.f2) from rfl)))
              obtain ⟨fr, hgu⟩ := HOG.out.2.2
              have hg1 := (blk_cell hgu 1).trans (show _ = some (Value.map (some (m n.f1))) from rfl)
              have hp0 := fun p : Past w5 => Past.cell hc0 p
              have hp2 := fun p : Past w5 => Past.cell hc2 p
              have hpg := fun p : Past w5 => Past.cell hg1 p
              refine wp_region_past (by kernel_rfl) (by kernel_rfl) ?_
              repeat (go_big_quiet_step (fail))
              refine wpQuiet_nil ?_
              rintro _ ⟨p, rfl⟩
              have hb6 := p.h
              generalize p.W = w6 at hb6 ⊢
              have hc1 := pw_cell_below hb6 hc1
              have hc2 := pw_cell_below hb6 hc2
              have hg1 := pw_cell_below hb6 hg1
              have HB6 := Aside0.mk (below_step HB5.out hb6)
              have HJ6 := Aside0.mk (HJ5.out.below hb6)
              have HB56 := Aside0.mk hb6
              have HK6 := Aside0.mk ((hb6.block _ (Array.getElem?_eq_some_iff.1 hk).1).trans hk)
              have HLT6 := Aside0.mk (Array.getElem?_eq_some_iff.1 HK6.out).1
              have HNE := Aside0.mk (show wr.heap.size ≠ m n.f1 from fun e => by obtain ⟨l, c, hb, _⟩ := HOM.out.2.2; rw [← e, hk] at hb; cases hb)
              clear hp0 hp2 hpg hk hc0 hgu hb6
              go_wp2_with (first | (at_lookup; refine wl_look2 (K := KS) rfl (.tmp 72) (.tmp 74) 113 rfl Try.underlying113 zeroI HJ6.out.h2 n.f2 rfl rfl ?_; rw [HT.out]; simp only [Option.getD_none, Option.isSome_none]))
              obtain ⟨st1, w7, hme, hg7, hst⟩ := ((HOM.out.2.2.below HB56.out).drew).entry Try.underlying64 zeroB n.f2
              obtain ⟨w8, hes, hH8, hg8⟩ := hst (.bool true)
              obtain ⟨w9, hmu, hH9, hg9⟩ := ((HJ6.out.h2.drew).grown hg8 (fun e => Jrn.ne _ HJ6.out.o2 HOM.out.1 (.inr (by decide)) (Option.some.inj e))).put Try.underlying113 n.f2 (.int .i64 n.f1)
              have hme : (Instr.mapEntry 64 (.map (some (m n.f1))) (.string n.f2)).run Try.prog w6.drew = .ok (.tuple #[(ksF K n.f2).getD (.bool false), .int .i64 st1]) w7 := hme
              have hes : (Instr.entryStore 64 (.map (some (m n.f1))) (.int .i64 st1) (.bool true)).run Try.prog w7 = .ok () w8 := hes
              have hmu : (Instr.mapUpdate 113 (.map (some b2)) (.string n.f2) (.int .i64 n.f1)).run Try.prog w8 = .ok () w9 := hmu
              have hne7 : wr.heap.size ≠ m n.f1 := HNE.out
              have hk7 := (hg7.block wr.heap.size HLT6.out (fun e => hne7 (Option.some.inj e))).trans HK6.out
              have hk8 := (hg8.block wr.heap.size HLT6.out (fun e => hne7 (Option.some.inj e))).trans HK6.out
              have h71 := (blk_cell hk7 1).trans (show _ = some (Value.int .i64 n.f1) from rfl)
              have h72 := (blk_cell hk7 2).trans (show _ = some (Value.string n.f2) from rfl)
              have h81 := (blk_cell hk8 1).trans (show _ = some (Value.int .i64 n.f1) from rfl)
              have h82 := (blk_cell hk8 2).trans (show _ = some (Value.string n.f2) from rfl)
              have HJ9 := Aside0.mk ((HJ6.out.drew).added n.f1 n.f2 HON.out hH8 hg8 hH9 hg9)
              have HB9 := Aside0.mk ((HB6.out.drew.grown hg8 (below_size HB6.out.drew) (fun k e => by cases e; exact HOM.out.2.1)).grown hg9 (Nat.le_trans (below_size HB6.out.drew) hg8.size) (fun k e => by cases e; exact HJ6.out.l2))
              clear hst hg7 hg8 hg9 hH8 hH9 hk7 hk8 hne7
              go_region
              go_wp2
              go_roundg (gk - 1)
              case measure => have := HQ.out; omega
              case rel => exact ⟨i + 1, _, _, _, _, rfl, by omega, ⟨by have := HQ.out; omega⟩, HS3, HJ9, HB9⟩
            | some o =>
              have HT := Aside0.mk (show tkF st.tk n.f2 = some (.int .i64 o) by unfold tkF; rw [ht]; rfl)
              by_cases ho : o = n.f1
              · skip
                have q1 : (n.f0 == 1) = false := by rw [k2]; rfl
                have q3 : (n.f0 == 3) = false := by rw [k2]; rfl
                have q2 : (n.f0 == 2) = true := by rw [k2]; rfl
                have q4 : (n.f0 == 4) = false := by rw [k2]; rfl
                have q5 : (n.f0 == 5) = false := by rw [k2]; rfl
                have q7 : (n.f0 == 7) = false := by rw [k2]; rfl
                have q6 : (n.f0 != 6) = true := by rw [k2]; rfl
                have q4n : (n.f0 != 4) = true := by rw [k2]; rfl
                have qo : (o != n.f1) = false := by rw [ho]; simp
                have HS3 := Aside0.mk ((wrongFrom_inr (wrongStep_k hk' HON.out (.inr (ho ▸ ht)))).symm.trans HS2.out)
                clear k1 k6 HS2 hk' ht ho
                clear k2 k3
                have hk := heap_alloc_new wr (.cells #[.int .i64 n.f0, .int .i64 n.f1, .string n.f2, .bool n.f3, .string n.f4] 39)
                have HB5 := Aside0.mk (HB.out.alloc (below_size HB.out) (.cells #[.int .i64 n.f0, .int .i64 n.f1, .string n.f2, .bool n.f3, .string n.f4] 39))
                have HJ5 := Aside0.mk (HJ.out.below ((Below.refl _ _).alloc (Nat.le_refl _) (.cells #[.int .i64 n.f0, .int .i64 n.f1, .string n.f2, .bool n.f3, .string n.f4] 39)))
                have HOG := Aside0.mk (HJ5.out.og _ _ HON.out)
                have HOM := Aside0.mk (HJ5.out.om _ _ HON.out)
                go_wp2_with (first | (at_lookup; refine wl_look2 (K := KI) rfl (.tmp 26) (.tmp 28) 112 rfl Try.underlying112 zero114 HJ5.out.h1 n.f1 rfl rfl ?_; rw [HO1.out]; simp only [Option.getD_some, Option.isSome_some]; generalize wr.alloc (.cells #[.int .i64 n.f0, .int .i64 n.f1, .string n.f2, .bool n.f3, .string n.f4] 39) = w5 at HB5 HJ5 hk HOG HOM ⊢; have hc0 := (blk_cell hk 0).trans (show _ = some (Value.int .i64 n.f0) from rfl); have hc1 := (blk_cell hk 1).trans (show _ = some (Value.int .i64 n.f1) from rfl); have hc2 := (blk_cell hk 2).trans (show _ = some (Value.string n.f2) from rfl)))
                obtain ⟨fr, hgu⟩ := HOG.out.2.2
                have hg1 := (blk_cell hgu 1).trans (show _ = some (Value.map (some (m n.f1))) from rfl)
                have hp0 := fun p : Past w5 => Past.cell hc0 p
                have hp2 := fun p : Past w5 => Past.cell hc2 p
                have hpg := fun p : Past w5 => Past.cell hg1 p
                refine wp_region_past (by kernel_rfl) (by kernel_rfl) ?_
                repeat (go_big_quiet_step (fail))
                refine wpQuiet_nil ?_
                rintro _ ⟨p, rfl⟩
                have hb6 := p.h
                generalize p.W = w6 at hb6 ⊢
                have hc1 := pw_cell_below hb6 hc1
                have hc2 := pw_cell_below hb6 hc2
                have hg1 := pw_cell_below hb6 hg1
                have HB6 := Aside0.mk (below_step HB5.out hb6)
                have HJ6 := Aside0.mk (HJ5.out.below hb6)
                have HB56 := Aside0.mk hb6
                have HK6 := Aside0.mk ((hb6.block _ (Array.getElem?_eq_some_iff.1 hk).1).trans hk)
                have HLT6 := Aside0.mk (Array.getElem?_eq_some_iff.1 HK6.out).1
                have HNE := Aside0.mk (show wr.heap.size ≠ m n.f1 from fun e => by obtain ⟨l, c, hb, _⟩ := HOM.out.2.2; rw [← e, hk] at hb; cases hb)
                clear hp0 hp2 hpg hk hc0 hgu hb6
                go_wp2_with (first | (at_lookup; refine wl_look2 (K := KS) rfl (.tmp 72) (.tmp 74) 113 rfl Try.underlying113 zeroI HJ6.out.h2 n.f2 rfl rfl ?_; rw [HT.out]; simp only [Option.getD_some, Option.isSome_some]))
                obtain ⟨st1, w7, hme, hg7, hst⟩ := ((HOM.out.2.2.below HB56.out).drew).entry Try.underlying64 zeroB n.f2
                obtain ⟨w8, hes, hH8, hg8⟩ := hst (.bool true)
                obtain ⟨w9, hmu, hH9, hg9⟩ := ((HJ6.out.h2.drew).grown hg8 (fun e => Jrn.ne _ HJ6.out.o2 HOM.out.1 (.inr (by decide)) (Option.some.inj e))).put Try.underlying113 n.f2 (.int .i64 n.f1)
                have hme : (Instr.mapEntry 64 (.map (some (m n.f1))) (.string n.f2)).run Try.prog w6.drew = .ok (.tuple #[(ksF K n.f2).getD (.bool false), .int .i64 st1]) w7 := hme
                have hes : (Instr.entryStore 64 (.map (some (m n.f1))) (.int .i64 st1) (.bool true)).run Try.prog w7 = .ok () w8 := hes
                have hmu : (Instr.mapUpdate 113 (.map (some b2)) (.string n.f2) (.int .i64 n.f1)).run Try.prog w8 = .ok () w9 := hmu
                have hne7 : wr.heap.size ≠ m n.f1 := HNE.out
                have hk7 := (hg7.block wr.heap.size HLT6.out (fun e => hne7 (Option.some.inj e))).trans HK6.out
                have hk8 := (hg8.block wr.heap.size HLT6.out (fun e => hne7 (Option.some.inj e))).trans HK6.out
                have h71 := (blk_cell hk7 1).trans (show _ = some (Value.int .i64 n.f1) from rfl)
                have h72 := (blk_cell hk7 2).trans (show _ = some (Value.string n.f2) from rfl)
                have h81 := (blk_cell hk8 1).trans (show _ = some (Value.int .i64 n.f1) from rfl)
                have h82 := (blk_cell hk8 2).trans (show _ = some (Value.string n.f2) from rfl)
                have HJ9 := Aside0.mk ((HJ6.out.drew).added n.f1 n.f2 HON.out hH8 hg8 hH9 hg9)
                have HB9 := Aside0.mk ((HB6.out.drew.grown hg8 (below_size HB6.out.drew) (fun k e => by cases e; exact HOM.out.2.1)).grown hg9 (Nat.le_trans (below_size HB6.out.drew) hg8.size) (fun k e => by cases e; exact HJ6.out.l2))
                clear hst hg7 hg8 hg9 hH8 hH9 hk7 hk8 hne7
                go_region
                go_wp2
                go_roundg (gk - 1)
                case measure => have := HQ.out; omega
                case rel => exact ⟨i + 1, _, _, _, _, rfl, by omega, ⟨by have := HQ.out; omega⟩, HS3, HJ9, HB9⟩
              · skip
                have q1 : (n.f0 == 1) = false := by rw [k2]; rfl
                have q3 : (n.f0 == 3) = false := by rw [k2]; rfl
                have q2 : (n.f0 == 2) = true := by rw [k2]; rfl
                have q4 : (n.f0 == 4) = false := by rw [k2]; rfl
                have q5 : (n.f0 == 5) = false := by rw [k2]; rfl
                have q7 : (n.f0 == 7) = false := by rw [k2]; rfl
                have q6 : (n.f0 != 6) = true := by rw [k2]; rfl
                have q4n : (n.f0 != 4) = true := by rw [k2]; rfl
                have qo : (o != n.f1) = true := bne_iff_ne.2 ho
                obtain ⟨rfl, rfl⟩ := Prod.mk.inj ((wrongFrom_inl (wrongStep_d hk' HON.out ht ho)).symm.trans HS2.out)
                clear k1 k6 HS2 hk' ht ho
                clear k2 k3
                have hk := heap_alloc_new wr (.cells #[.int .i64 n.f0, .int .i64 n.f1, .string n.f2, .bool n.f3, .string n.f4] 39)
                have HB5 := Aside0.mk (HB.out.alloc (below_size HB.out) (.cells #[.int .i64 n.f0, .int .i64 n.f1, .string n.f2, .bool n.f3, .string n.f4] 39))
                have HJ5 := Aside0.mk (HJ.out.below ((Below.refl _ _).alloc (Nat.le_refl _) (.cells #[.int .i64 n.f0, .int .i64 n.f1, .string n.f2, .bool n.f3, .string n.f4] 39)))
                have HOG := Aside0.mk (HJ5.out.og _ _ HON.out)
                have HOM := Aside0.mk (HJ5.out.om _ _ HON.out)
                go_wp2_with (first | (at_lookup; refine wl_look2 (K := KI) rfl (.tmp 26) (.tmp 28) 112 rfl Try.underlying112 zero114 HJ5.out.h1 n.f1 rfl rfl ?_; rw [HO1.out]; simp only [Option.getD_some, Option.isSome_some]; generalize wr.alloc (.cells #[.int .i64 n.f0, .int .i64 n.f1, .string n.f2, .bool n.f3, .string n.f4] 39) = w5 at HB5 HJ5 hk HOG HOM ⊢; have hc0 := (blk_cell hk 0).trans (show _ = some (Value.int .i64 n.f0) from rfl); have hc1 := (blk_cell hk 1).trans (show _ = some (Value.int .i64 n.f1) from rfl); have hc2 := (blk_cell hk 2).trans (show _ = some (Value.string n.f2) from rfl)))
                obtain ⟨fr, hgu⟩ := HOG.out.2.2
                have hg1 := (blk_cell hgu 1).trans (show _ = some (Value.map (some (m n.f1))) from rfl)
                have hp0 := fun p : Past w5 => Past.cell hc0 p
                have hp2 := fun p : Past w5 => Past.cell hc2 p
                have hpg := fun p : Past w5 => Past.cell hg1 p
                refine wp_region_past (by kernel_rfl) (by kernel_rfl) ?_
                repeat (go_big_quiet_step (fail))
                refine wpQuiet_nil ?_
                rintro _ ⟨p, rfl⟩
                have hb6 := p.h
                generalize p.W = w6 at hb6 ⊢
                have hc1 := pw_cell_below hb6 hc1
                have hc2 := pw_cell_below hb6 hc2
                have hg1 := pw_cell_below hb6 hg1
                have HB6 := Aside0.mk (below_step HB5.out hb6)
                have HJ6 := Aside0.mk (HJ5.out.below hb6)
                have HB56 := Aside0.mk hb6
                have HK6 := Aside0.mk ((hb6.block _ (Array.getElem?_eq_some_iff.1 hk).1).trans hk)
                have HLT6 := Aside0.mk (Array.getElem?_eq_some_iff.1 HK6.out).1
                have HNE := Aside0.mk (show wr.heap.size ≠ m n.f1 from fun e => by obtain ⟨l, c, hb, _⟩ := HOM.out.2.2; rw [← e, hk] at hb; cases hb)
                clear hp0 hp2 hpg hk hc0 hgu hb6
                go_wp2_with (first | (at_lookup; refine wl_look2 (K := KS) rfl (.tmp 72) (.tmp 74) 113 rfl Try.underlying113 zeroI HJ6.out.h2 n.f2 rfl rfl ?_; rw [HT.out]; simp only [Option.getD_some, Option.isSome_some]))
                go_ret2
                exact ⟨rfl, HB6.out⟩
          by_cases k4 : n.f0 = 4
          · skip
            have q1 : (n.f0 == 1) = false := by rw [k4]; rfl
            have q3 : (n.f0 == 3) = false := by rw [k4]; rfl
            have q2 : (n.f0 == 2) = false := by rw [k4]; rfl
            have q4 : (n.f0 == 4) = true := by rw [k4]; rfl
            have q5 : (n.f0 == 5) = false := by rw [k4]; rfl
            have q7 : (n.f0 == 7) = false := by rw [k4]; rfl
            have q6 : (n.f0 != 6) = true := by rw [k4]; rfl
            have q4n : (n.f0 != 4) = false := by rw [k4]; rfl
            have HS3 := Aside0.mk ((wrongFrom_inr (wrongStep_q (by omega) HON.out)).symm.trans HS2.out)
            rw [if_pos k4] at HS3
            clear k1 k2 k3 k4 k6 HS2
            have hk := heap_alloc_new wr (.cells #[.int .i64 n.f0, .int .i64 n.f1, .string n.f2, .bool n.f3, .string n.f4] 39)
            have HB5 := Aside0.mk (HB.out.alloc (below_size HB.out) (.cells #[.int .i64 n.f0, .int .i64 n.f1, .string n.f2, .bool n.f3, .string n.f4] 39))
            have HJ5 := Aside0.mk (HJ.out.below ((Below.refl _ _).alloc (Nat.le_refl _) (.cells #[.int .i64 n.f0, .int .i64 n.f1, .string n.f2, .bool n.f3, .string n.f4] 39)))
            have HOG := Aside0.mk (HJ5.out.og _ _ HON.out)
            have HOM := Aside0.mk (HJ5.out.om _ _ HON.out)
            go_wp2_with (first | (at_lookup; refine wl_look2 (K := KI) rfl (.tmp 26) (.tmp 28) 112 rfl Try.underlying112 zero114 HJ5.out.h1 n.f1 rfl rfl ?_; rw [HO1.out]; simp only [Option.getD_some, Option.isSome_some]; generalize wr.alloc (.cells #[.int .i64 n.f0, .int .i64 n.f1, .string n.f2, .bool n.f3, .string n.f4] 39) = w5 at HB5 HJ5 hk HOG HOM ⊢; have hc0 := (blk_cell hk 0).trans (show _ = some (Value.int .i64 n.f0) from rfl); have hc1 := (blk_cell hk 1).trans (show _ = some (Value.int .i64 n.f1) from rfl); have hc2 := (blk_cell hk 2).trans (show _ = some (Value.string n.f2) from rfl)); obtain ⟨fr, hgu⟩ := HOG.out.2.2; have hg1 := (blk_cell hgu 1).trans (show _ = some (Value.map (some (m n.f1))) from rfl) | (at_range; refine wl_range (K := KS) rfl (.tmp 106) 64 rfl Try.underlying64 HOM.out.2.2 rfl ?_; intro w6 cnt hR hbl))
            go_frame
            have hb6 := hbl w5.heap.size (Nat.le_refl _)
            have HB6 := Aside0.mk (below_step HB5.out hb6)
            have hlt5 : wr.heap.size < w5.heap.size := (Array.getElem?_eq_some_iff.1 hk).1
            have HT2 := Aside0.mk (show wr.heap.size ≠ b2 from fun e => by obtain ⟨l, c, hb, _⟩ := HJ5.out.h2; rw [← e, hk] at hb; cases hb)
            have HT1 := Aside0.mk (show wr.heap.size ≠ b1 from fun e => by obtain ⟨l, c, hb, _⟩ := HJ5.out.h1; rw [← e, hk] at hb; cases hb)
            obtain ⟨own6, HO6, HJ6⟩ : ∃ own6, Aside0 (own6 w5.heap.size = (0, 4)) ∧ Aside0 (Jrn w6 w.heap.size b1 b2 st.on st.tk g m own6) := ⟨_, ⟨by simp⟩, ⟨HJ5.out.beside hb6⟩⟩
            have HK6 := Aside0.mk ((hb6.block _ hlt5).trans hk)
            have hltr : wr.heap.size < w5.heap.size := hlt5
            have hb2r : b2 < w5.heap.size := HJ5.out.lt2
            have hrw : w.heap.size ≤ w5.heap.size := below_size HB5.out
            clear hbl hb6 hlt5 hk hc0 hc1 hc2 hgu hg1
            generalize w5.heap.size = r at *
            generalize wr.heap.size = tb at *
            have HR := Aside0.mk hR
            clear hR HB5 HJ5 HOG HOM HJ HB HO1
            go_loopg [108] (cnt + 1) (fun kq v108 w' => ∃ (left : ByteArray → Bool) (cn : Nat), Aside0 (kq = cn + 1) ∧ Aside0 (Ranging KS w' r (m n.f1) (ksF K) left cn) ∧ Aside0 (Jrn w' w.heap.size b1 b2 st.on (fun k => if K k = true ∧ left k = false then none else st.tk k) g m own6) ∧ Aside0 (Below w.heap.size w w') ∧ Aside0 (w'.heap[tb]? = some (.cells #[.int .i64 n.f0, .int .i64 n.f1, .string n.f2, .bool n.f3, .string n.f4] 39)))
            case atStart => exact ⟨_, cnt, ⟨rfl⟩, HR, ⟨HJ6.out.congr (fun _ => rfl) (fun k => by show st.tk k = (if K k = true ∧ (ksF K k).isSome = false then none else st.tk k); unfold ksF; cases K k <;> rfl)⟩, HB6, HK6⟩
            case round =>
              clear HR HJ6 HB6 HK6
              obtain ⟨left, cn, HQ2, HR, HJ6, HB6, HK6⟩ := hrel
              rcases HR.out.next 0 with ⟨hl, hrun⟩ | ⟨k0, v0, cn', w8, hcn, hlk, hFk, hrun, hent, hR8, hg8⟩
              · have hrun' : ∀ ty, (Instr.next (.pointer (some ⟨r, 0, none⟩)) false ty).run Try.prog wr = .ok (.tuple #[.bool false]) wr := fun _ => hrun
                clear hrun
                have hmm := @run_makeMap Try.prog
                have HJ7 := Aside0.mk (HJ6.out.congr (fun _ => rfl) (tk' := fun k => if K k = true then none else st.tk k) (fun k => by simp only [hl k, and_true]))
                clear HJ6 hl HR
                have HOG := Aside0.mk (HJ7.out.og _ _ HON.out)
                obtain ⟨fr, hgu⟩ := HOG.out.2.2
                have HGU := Aside0.mk hgu
                have hltg := (Array.getElem?_eq_some_iff.1 hgu).1
                have hgu' := (heap_alloc_old wr (.map #[] 0) hltg).trans hgu
                have hx0 := (blk_cell hgu' 0).trans (show _ = some (Value.int .i64 fr) from rfl)
                have hx1 := (blk_cell hgu' 1).trans (show _ = some (Value.map (some (m n.f1))) from rfl)
                have hf0 : (wr.alloc (.map #[] 0)).frozen? ⟨g n.f1, 0, none⟩ = false := by unfold World.frozen?; rw [hgu']; rfl
                have hf1 : (wr.alloc (.map #[] 0)).frozen? ⟨g n.f1, 1, none⟩ = false := by unfold World.frozen?; rw [hgu']; rfl
                have htg : tb ≠ g n.f1 := fun e => by have := HK6.out; rw [e, hgu] at this; cases this
                have hltb := (Array.getElem?_eq_some_iff.1 HK6.out).1
                have hW2 := two_cells hgu' (.int .i64 i) (.map (some wr.heap.size))
                have hgr := grown_two (wr.alloc (.map #[] 0)) ⟨g n.f1, 0, none⟩ ⟨g n.f1, 1, none⟩ rfl (.int .i64 i) (.map (some wr.heap.size))
                obtain ⟨m', own', hj8⟩ := HJ7.out.quieted (below_size HB6.out) n.f1 i HON.out ((Below.refl _ wr).alloc (Nat.le_refl _) (.map #[] 0)) (Holds.made KS wr) hW2 hgr
                have HJ8 := Aside0.mk hj8
                have HB8 := Aside0.mk ((HB6.out.alloc (below_size HB6.out) (.map #[] 0)).grown hgr (by have := below_size HB6.out; simp; omega) (fun k e => by cases e; exact HOG.out.2.1))
                have hk8 := (hgr.block tb (by simp; omega) (fun e => htg (Option.some.inj e))).trans ((heap_alloc_old wr (.map #[] 0) hltb).trans HK6.out)
                have HC0' := Aside0.mk ((blk_cell hk8 0).trans (show _ = some (Value.int .i64 n.f0) from rfl))
                have HC1' := Aside0.mk ((blk_cell hk8 1).trans (show _ = some (Value.int .i64 n.f1) from rfl))
                clear hgu hgu' hltg htg hltb hW2 hgr hj8 hk8 HJ7 HB6 HK6 HOG HGU
                go_upto_region 30 with (fail)
                generalize ((wr.alloc (.map #[] 0)).setCell ⟨g n.f1, 0, none⟩ (.int .i64 i)).setCell ⟨g n.f1, 1, none⟩ (.map (some wr.heap.size)) = w9 at HJ8 HB8 HC0' HC1' ⊢
                have hc0 := HC0'.out
                have hc1 := HC1'.out
                clear hx0 hx1 hf0 hf1 HC0' HC1'
                go_wp2
                go_roundg (l0.length - i - 1)
                case measure => have := HQ.out; omega
                case rel => exact ⟨i + 1, _, _, _, _, rfl, by omega, ⟨by have := HQ.out; omega⟩, HS3, HJ8, HB8⟩
              · have hrun' : ∀ ty, (Instr.next (.pointer (some ⟨r, 0, none⟩)) false ty).run Try.prog wr = .ok (.tuple #[.bool true, .string k0, v0]) w8 := fun _ => hrun
                have hent' : (Instr.entry (.pointer (some ⟨r, 0, none⟩))).run Try.prog w8 = .ok (.tuple #[.string k0, v0]) w8 := hent
                have hKk : K k0 = true := by unfold ksF at hFk; cases hKK : K k0 <;> rw [hKK] at hFk <;> simp at hFk ⊢
                have HJ8 := Aside0.mk (HJ6.out.other HO6.out hg8)
                have HB8 := Aside0.mk (HB6.out.grown hg8 (below_size HB6.out) (fun k e => by cases e; exact hrw))
                have HK8 := Aside0.mk ((hg8.block tb (Array.getElem?_eq_some_iff.1 HK6.out).1 (fun e => by have := Option.some.inj e; omega)).trans HK6.out)
                have HR8 := Aside0.mk hR8
                have HKK := Aside0.mk hKk
                clear hrun hent hFk hlk hKk hR8 hg8 HJ6 HB6 HK6 HR
                go_wp2_with (first | (at_delete; refine wl_drop (K := KS) rfl (.tmp 112) (.tmp 113) 113 9 rfl Try.underlying113 HJ8.out.h2 k0 rfl rfl ?_; intro w9 hp9 hg9; have HJ9 := Aside0.mk (HJ8.out.struck (tk' := fun k => if K k = true ∧ (left k && !decide (k = k0)) = false then none else st.tk k) (hp9.congr (fun q => by have := HKK.out; unfold tkF; by_cases hq : q = k0 <;> simp [hq, this])) hg9); have HB9 := Aside0.mk (HB8.out.grown hg9 (below_size HB8.out) (fun k e => by cases e; exact HJ8.out.l2)); have HK9 := Aside0.mk ((hg9.block tb (Array.getElem?_eq_some_iff.1 HK8.out).1 (fun e => HT2.out (Option.some.inj e))).trans HK8.out); have HR9 := Aside0.mk (HR8.out.grown hg9 (fun e => Jrn.ne _ (HJ8.out.om _ _ HON.out).1 HJ8.out.o2 (.inr (by decide)) (Option.some.inj e)) (fun e => by have := Option.some.inj e; omega)); clear hp9 hg9))
                go_roundg (cn' + 1)
                case measure => have := HQ2.out; omega
                case rel => exact ⟨_, cn', ⟨rfl⟩, HR9, HJ9, HB9, HK9⟩
          by_cases k5 : n.f0 = 5
          · skip
            have q1 : (n.f0 == 1) = false := by rw [k5]; rfl
            have q3 : (n.f0 == 3) = false := by rw [k5]; rfl
            have q2 : (n.f0 == 2) = false := by rw [k5]; rfl
            have q4 : (n.f0 == 4) = false := by rw [k5]; rfl
            have q5 : (n.f0 == 5) = true := by rw [k5]; rfl
            have q7 : (n.f0 == 7) = false := by rw [k5]; rfl
            have q6 : (n.f0 != 6) = true := by rw [k5]; rfl
            have q4n : (n.f0 != 4) = true := by rw [k5]; rfl
            have HS3 := Aside0.mk ((wrongFrom_inr (wrongStep_q (by omega) HON.out)).symm.trans HS2.out)
            rw [if_neg k4] at HS3
            clear k1 k2 k3 k4 k5 k6 HS2
            have hk := heap_alloc_new wr (.cells #[.int .i64 n.f0, .int .i64 n.f1, .string n.f2, .bool n.f3, .string n.f4] 39)
            have HB5 := Aside0.mk (HB.out.alloc (below_size HB.out) (.cells #[.int .i64 n.f0, .int .i64 n.f1, .string n.f2, .bool n.f3, .string n.f4] 39))
            have HJ5 := Aside0.mk (HJ.out.below ((Below.refl _ _).alloc (Nat.le_refl _) (.cells #[.int .i64 n.f0, .int .i64 n.f1, .string n.f2, .bool n.f3, .string n.f4] 39)))
            have HOG := Aside0.mk (HJ5.out.og _ _ HON.out)
            have HOM := Aside0.mk (HJ5.out.om _ _ HON.out)
            go_wp2_with (first | (at_lookup; refine wl_look2 (K := KI) rfl (.tmp 26) (.tmp 28) 112 rfl Try.underlying112 zero114 HJ5.out.h1 n.f1 rfl rfl ?_; rw [HO1.out]; simp only [Option.getD_some, Option.isSome_some]; generalize wr.alloc (.cells #[.int .i64 n.f0, .int .i64 n.f1, .string n.f2, .bool n.f3, .string n.f4] 39) = w5 at HB5 HJ5 hk HOG HOM ⊢; have hc0 := (blk_cell hk 0).trans (show _ = some (Value.int .i64 n.f0) from rfl); have hc1 := (blk_cell hk 1).trans (show _ = some (Value.int .i64 n.f1) from rfl); have hc2 := (blk_cell hk 2).trans (show _ = some (Value.string n.f2) from rfl)); obtain ⟨fr, hgu⟩ := HOG.out.2.2; have hg1 := (blk_cell hgu 1).trans (show _ = some (Value.map (some (m n.f1))) from rfl) | (at_range; refine wl_range (K := KS) rfl (.tmp 106) 64 rfl Try.underlying64 HOM.out.2.2 rfl ?_; intro w6 cnt hR hbl))
            go_frame
            have hb6 := hbl w5.heap.size (Nat.le_refl _)
            have HB6 := Aside0.mk (below_step HB5.out hb6)
            have hlt5 : wr.heap.size < w5.heap.size := (Array.getElem?_eq_some_iff.1 hk).1
            have HT2 := Aside0.mk (show wr.heap.size ≠ b2 from fun e => by obtain ⟨l, c, hb, _⟩ := HJ5.out.h2; rw [← e, hk] at hb; cases hb)
            have HT1 := Aside0.mk (show wr.heap.size ≠ b1 from fun e => by obtain ⟨l, c, hb, _⟩ := HJ5.out.h1; rw [← e, hk] at hb; cases hb)
            obtain ⟨own6, HO6, HJ6⟩ : ∃ own6, Aside0 (own6 w5.heap.size = (0, 4)) ∧ Aside0 (Jrn w6 w.heap.size b1 b2 st.on st.tk g m own6) := ⟨_, ⟨by simp⟩, ⟨HJ5.out.beside hb6⟩⟩
            have HK6 := Aside0.mk ((hb6.block _ hlt5).trans hk)
            have hltr : wr.heap.size < w5.heap.size := hlt5
            have hb2r : b2 < w5.heap.size := HJ5.out.lt2
            have hrw : w.heap.size ≤ w5.heap.size := below_size HB5.out
            clear hbl hb6 hlt5 hk hc0 hc1 hc2 hgu hg1
            generalize w5.heap.size = r at *
            generalize wr.heap.size = tb at *
            have HR := Aside0.mk hR
            clear hR HB5 HJ5 HOG HOM HJ HB HO1
            go_loopg [108] (cnt + 1) (fun kq v108 w' => ∃ (left : ByteArray → Bool) (cn : Nat), Aside0 (kq = cn + 1) ∧ Aside0 (Ranging KS w' r (m n.f1) (ksF K) left cn) ∧ Aside0 (Jrn w' w.heap.size b1 b2 st.on (fun k => if K k = true ∧ left k = false then none else st.tk k) g m own6) ∧ Aside0 (Below w.heap.size w w') ∧ Aside0 (w'.heap[tb]? = some (.cells #[.int .i64 n.f0, .int .i64 n.f1, .string n.f2, .bool n.f3, .string n.f4] 39)))
            case atStart => exact ⟨_, cnt, ⟨rfl⟩, HR, ⟨HJ6.out.congr (fun _ => rfl) (fun k => by show st.tk k = (if K k = true ∧ (ksF K k).isSome = false then none else st.tk k); unfold ksF; cases K k <;> rfl)⟩, HB6, HK6⟩
            case round =>
              clear HR HJ6 HB6 HK6
              obtain ⟨left, cn, HQ2, HR, HJ6, HB6, HK6⟩ := hrel
              rcases HR.out.next 0 with ⟨hl, hrun⟩ | ⟨k0, v0, cn', w8, hcn, hlk, hFk, hrun, hent, hR8, hg8⟩
              · have hrun' : ∀ ty, (Instr.next (.pointer (some ⟨r, 0, none⟩)) false ty).run Try.prog wr = .ok (.tuple #[.bool false]) wr := fun _ => hrun
                clear hrun
                have hmm := @run_makeMap Try.prog
                have HJ7 := Aside0.mk (HJ6.out.congr (fun _ => rfl) (tk' := fun k => if K k = true then none else st.tk k) (fun k => by simp only [hl k, and_true]))
                clear HJ6 hl HR
                have HOG := Aside0.mk (HJ7.out.og _ _ HON.out)
                obtain ⟨fr, hgu⟩ := HOG.out.2.2
                have HGU := Aside0.mk hgu
                have hltg := (Array.getElem?_eq_some_iff.1 hgu).1
                have hgu' := (heap_alloc_old wr (.map #[] 0) hltg).trans hgu
                have hx0 := (blk_cell hgu' 0).trans (show _ = some (Value.int .i64 fr) from rfl)
                have hx1 := (blk_cell hgu' 1).trans (show _ = some (Value.map (some (m n.f1))) from rfl)
                have hf0 : (wr.alloc (.map #[] 0)).frozen? ⟨g n.f1, 0, none⟩ = false := by unfold World.frozen?; rw [hgu']; rfl
                have hf1 : (wr.alloc (.map #[] 0)).frozen? ⟨g n.f1, 1, none⟩ = false := by unfold World.frozen?; rw [hgu']; rfl
                have htg : tb ≠ g n.f1 := fun e => by have := HK6.out; rw [e, hgu] at this; cases this
                have hltb := (Array.getElem?_eq_some_iff.1 HK6.out).1
                have hW2 := two_cells hgu' (.int .i64 i) (.map (some wr.heap.size))
                have hgr := grown_two (wr.alloc (.map #[] 0)) ⟨g n.f1, 0, none⟩ ⟨g n.f1, 1, none⟩ rfl (.int .i64 i) (.map (some wr.heap.size))
                obtain ⟨m', own', hj8⟩ := HJ7.out.quieted (below_size HB6.out) n.f1 i HON.out ((Below.refl _ wr).alloc (Nat.le_refl _) (.map #[] 0)) (Holds.made KS wr) hW2 hgr
                have HJ8 := Aside0.mk hj8
                have HB8 := Aside0.mk ((HB6.out.alloc (below_size HB6.out) (.map #[] 0)).grown hgr (by have := below_size HB6.out; simp; omega) (fun k e => by cases e; exact HOG.out.2.1))
                have hk8 := (hgr.block tb (by simp; omega) (fun e => htg (Option.some.inj e))).trans ((heap_alloc_old wr (.map #[] 0) hltb).trans HK6.out)
                have HC0' := Aside0.mk ((blk_cell hk8 0).trans (show _ = some (Value.int .i64 n.f0) from rfl))
                have HC1' := Aside0.mk ((blk_cell hk8 1).trans (show _ = some (Value.int .i64 n.f1) from rfl))
                clear hgu hgu' hltg htg hltb hW2 hgr hj8 hk8 HJ7 HB6 HK6 HOG HGU
                go_upto_region 30 with (fail)
                generalize ((wr.alloc (.map #[] 0)).setCell ⟨g n.f1, 0, none⟩ (.int .i64 i)).setCell ⟨g n.f1, 1, none⟩ (.map (some wr.heap.size)) = w9 at HJ8 HB8 HC0' HC1' ⊢
                have hc0 := HC0'.out
                have hc1 := HC1'.out
                clear hx0 hx1 hf0 hf1 HC0' HC1'
                go_wp2_with (first | (at_delete; refine wl_drop (K := KI) rfl (.tmp 125) (.tmp 127) 112 3 rfl Try.underlying112 HJ8.out.h1 n.f1 rfl rfl ?_; intro w10 hp10 hg10; have HJ9 := Aside0.mk ((HJ8.out.ended n.f1 hp10 hg10).congr (on' := fun v => if v = n.f1 then none else st.on v) (fun v => by by_cases hv : v = n.f1 <;> simp [hv]) (fun _ => rfl)); have HB9 := Aside0.mk (HB8.out.grown hg10 (below_size HB8.out) (fun k e => by cases e; exact HJ8.out.l1)); clear hp10 hg10))
                go_roundg (l0.length - i - 1)
                case measure => have := HQ.out; omega
                case rel => exact ⟨i + 1, _, _, _, _, rfl, by omega, ⟨by have := HQ.out; omega⟩, HS3, HJ9, HB9⟩
              · have hrun' : ∀ ty, (Instr.next (.pointer (some ⟨r, 0, none⟩)) false ty).run Try.prog wr = .ok (.tuple #[.bool true, .string k0, v0]) w8 := fun _ => hrun
                have hent' : (Instr.entry (.pointer (some ⟨r, 0, none⟩))).run Try.prog w8 = .ok (.tuple #[.string k0, v0]) w8 := hent
                have hKk : K k0 = true := by unfold ksF at hFk; cases hKK : K k0 <;> rw [hKK] at hFk <;> simp at hFk ⊢
                have HJ8 := Aside0.mk (HJ6.out.other HO6.out hg8)
                have HB8 := Aside0.mk (HB6.out.grown hg8 (below_size HB6.out) (fun k e => by cases e; exact hrw))
                have HK8 := Aside0.mk ((hg8.block tb (Array.getElem?_eq_some_iff.1 HK6.out).1 (fun e => by have := Option.some.inj e; omega)).trans HK6.out)
                have HR8 := Aside0.mk hR8
                have HKK := Aside0.mk hKk
                clear hrun hent hFk hlk hKk hR8 hg8 HJ6 HB6 HK6 HR
                go_wp2_with (first | (at_delete; refine wl_drop (K := KS) rfl (.tmp 112) (.tmp 113) 113 9 rfl Try.underlying113 HJ8.out.h2 k0 rfl rfl ?_; intro w9 hp9 hg9; have HJ9 := Aside0.mk (HJ8.out.struck (tk' := fun k => if K k = true ∧ (left k && !decide (k = k0)) = false then none else st.tk k) (hp9.congr (fun q => by have := HKK.out; unfold tkF; by_cases hq : q = k0 <;> simp [hq, this])) hg9); have HB9 := Aside0.mk (HB8.out.grown hg9 (below_size HB8.out) (fun k e => by cases e; exact HJ8.out.l2)); have HK9 := Aside0.mk ((hg9.block tb (Array.getElem?_eq_some_iff.1 HK8.out).1 (fun e => HT2.out (Option.some.inj e))).trans HK8.out); have HR9 := Aside0.mk (HR8.out.grown hg9 (fun e => Jrn.ne _ (HJ8.out.om _ _ HON.out).1 HJ8.out.o2 (.inr (by decide)) (Option.some.inj e)) (fun e => by have := Option.some.inj e; omega)); clear hp9 hg9))
                go_roundg (cn' + 1)
                case measure => have := HQ2.out; omega
                case rel => exact ⟨_, cn', ⟨rfl⟩, HR9, HJ9, HB9, HK9⟩
          by_cases k7 : n.f0 = 7
          · skip
            have q1 : (n.f0 == 1) = false := by rw [k7]; rfl
            have q3 : (n.f0 == 3) = false := by rw [k7]; rfl
            have q2 : (n.f0 == 2) = false := by rw [k7]; rfl
            have q4 : (n.f0 == 4) = false := by rw [k7]; rfl
            have q5 : (n.f0 == 5) = false := by rw [k7]; rfl
            have q7 : (n.f0 == 7) = true := by rw [k7]; rfl
            have q6 : (n.f0 != 6) = true := by rw [k7]; rfl
            have q4n : (n.f0 != 4) = true := by rw [k7]; rfl
            have HS3 := Aside0.mk ((wrongFrom_inr (wrongStep_q (by omega) HON.out)).symm.trans HS2.out)
            rw [if_neg k4] at HS3
            clear k1 k2 k3 k4 k5 k7 k6 HS2
            have hk := heap_alloc_new wr (.cells #[.int .i64 n.f0, .int .i64 n.f1, .string n.f2, .bool n.f3, .string n.f4] 39)
            have HB5 := Aside0.mk (HB.out.alloc (below_size HB.out) (.cells #[.int .i64 n.f0, .int .i64 n.f1, .string n.f2, .bool n.f3, .string n.f4] 39))
            have HJ5 := Aside0.mk (HJ.out.below ((Below.refl _ _).alloc (Nat.le_refl _) (.cells #[.int .i64 n.f0, .int .i64 n.f1, .string n.f2, .bool n.f3, .string n.f4] 39)))
            have HOG := Aside0.mk (HJ5.out.og _ _ HON.out)
            have HOM := Aside0.mk (HJ5.out.om _ _ HON.out)
            go_wp2_with (first | (at_lookup; refine wl_look2 (K := KI) rfl (.tmp 26) (.tmp 28) 112 rfl Try.underlying112 zero114 HJ5.out.h1 n.f1 rfl rfl ?_; rw [HO1.out]; simp only [Option.getD_some, Option.isSome_some]; generalize wr.alloc (.cells #[.int .i64 n.f0, .int .i64 n.f1, .string n.f2, .bool n.f3, .string n.f4] 39) = w5 at HB5 HJ5 hk HOG HOM ⊢; have hc0 := (blk_cell hk 0).trans (show _ = some (Value.int .i64 n.f0) from rfl); have hc1 := (blk_cell hk 1).trans (show _ = some (Value.int .i64 n.f1) from rfl); have hc2 := (blk_cell hk 2).trans (show _ = some (Value.string n.f2) from rfl)); obtain ⟨fr, hgu⟩ := HOG.out.2.2; have hg1 := (blk_cell hgu 1).trans (show _ = some (Value.map (some (m n.f1))) from rfl) | (at_range; refine wl_range (K := KS) rfl (.tmp 106) 64 rfl Try.underlying64 HOM.out.2.2 rfl ?_; intro w6 cnt hR hbl))
            go_frame
            have hb6 := hbl w5.heap.size (Nat.le_refl _)
            have HB6 := Aside0.mk (below_step HB5.out hb6)
            have hlt5 : wr.heap.size < w5.heap.size := (Array.getElem?_eq_some_iff.1 hk).1
            have HT2 := Aside0.mk (show wr.heap.size ≠ b2 from fun e => by obtain ⟨l, c, hb, _⟩ := HJ5.out.h2; rw [← e, hk] at hb; cases hb)
            have HT1 := Aside0.mk (show wr.heap.size ≠ b1 from fun e => by obtain ⟨l, c, hb, _⟩ := HJ5.out.h1; rw [← e, hk] at hb; cases hb)
            obtain ⟨own6, HO6, HJ6⟩ : ∃ own6, Aside0 (own6 w5.heap.size = (0, 4)) ∧ Aside0 (Jrn w6 w.heap.size b1 b2 st.on st.tk g m own6) := ⟨_, ⟨by simp⟩, ⟨HJ5.out.beside hb6⟩⟩
            have HK6 := Aside0.mk ((hb6.block _ hlt5).trans hk)
            have hltr : wr.heap.size < w5.heap.size := hlt5
            have hb2r : b2 < w5.heap.size := HJ5.out.lt2
            have hrw : w.heap.size ≤ w5.heap.size := below_size HB5.out
            clear hbl hb6 hlt5 hk hc0 hc1 hc2 hgu hg1
            generalize w5.heap.size = r at *
            generalize wr.heap.size = tb at *
            have HR := Aside0.mk hR
            clear hR HB5 HJ5 HOG HOM HJ HB HO1
            go_loopg [108] (cnt + 1) (fun kq v108 w' => ∃ (left : ByteArray → Bool) (cn : Nat), Aside0 (kq = cn + 1) ∧ Aside0 (Ranging KS w' r (m n.f1) (ksF K) left cn) ∧ Aside0 (Jrn w' w.heap.size b1 b2 st.on (fun k => if K k = true ∧ left k = false then none else st.tk k) g m own6) ∧ Aside0 (Below w.heap.size w w') ∧ Aside0 (w'.heap[tb]? = some (.cells #[.int .i64 n.f0, .int .i64 n.f1, .string n.f2, .bool n.f3, .string n.f4] 39)))
            case atStart => exact ⟨_, cnt, ⟨rfl⟩, HR, ⟨HJ6.out.congr (fun _ => rfl) (fun k => by show st.tk k = (if K k = true ∧ (ksF K k).isSome = false then none else st.tk k); unfold ksF; cases K k <;> rfl)⟩, HB6, HK6⟩
            case round =>
              clear HR HJ6 HB6 HK6
              obtain ⟨left, cn, HQ2, HR, HJ6, HB6, HK6⟩ := hrel
              rcases HR.out.next 0 with ⟨hl, hrun⟩ | ⟨k0, v0, cn', w8, hcn, hlk, hFk, hrun, hent, hR8, hg8⟩
              · have hrun' : ∀ ty, (Instr.next (.pointer (some ⟨r, 0, none⟩)) false ty).run Try.prog wr = .ok (.tuple #[.bool false]) wr := fun _ => hrun
                clear hrun
                have hmm := @run_makeMap Try.prog
                have HJ7 := Aside0.mk (HJ6.out.congr (fun _ => rfl) (tk' := fun k => if K k = true then none else st.tk k) (fun k => by simp only [hl k, and_true]))
                clear HJ6 hl HR
                have HOG := Aside0.mk (HJ7.out.og _ _ HON.out)
                obtain ⟨fr, hgu⟩ := HOG.out.2.2
                have HGU := Aside0.mk hgu
                have hltg := (Array.getElem?_eq_some_iff.1 hgu).1
                have hgu' := (heap_alloc_old wr (.map #[] 0) hltg).trans hgu
                have hx0 := (blk_cell hgu' 0).trans (show _ = some (Value.int .i64 fr) from rfl)
                have hx1 := (blk_cell hgu' 1).trans (show _ = some (Value.map (some (m n.f1))) from rfl)
                have hf0 : (wr.alloc (.map #[] 0)).frozen? ⟨g n.f1, 0, none⟩ = false := by unfold World.frozen?; rw [hgu']; rfl
                have hf1 : (wr.alloc (.map #[] 0)).frozen? ⟨g n.f1, 1, none⟩ = false := by unfold World.frozen?; rw [hgu']; rfl
                have htg : tb ≠ g n.f1 := fun e => by have := HK6.out; rw [e, hgu] at this; cases this
                have hltb := (Array.getElem?_eq_some_iff.1 HK6.out).1
                have hW2 := two_cells hgu' (.int .i64 i) (.map (some wr.heap.size))
                have hgr := grown_two (wr.alloc (.map #[] 0)) ⟨g n.f1, 0, none⟩ ⟨g n.f1, 1, none⟩ rfl (.int .i64 i) (.map (some wr.heap.size))
                obtain ⟨m', own', hj8⟩ := HJ7.out.quieted (below_size HB6.out) n.f1 i HON.out ((Below.refl _ wr).alloc (Nat.le_refl _) (.map #[] 0)) (Holds.made KS wr) hW2 hgr
                have HJ8 := Aside0.mk hj8
                have HB8 := Aside0.mk ((HB6.out.alloc (below_size HB6.out) (.map #[] 0)).grown hgr (by have := below_size HB6.out; simp; omega) (fun k e => by cases e; exact HOG.out.2.1))
                have hk8 := (hgr.block tb (by simp; omega) (fun e => htg (Option.some.inj e))).trans ((heap_alloc_old wr (.map #[] 0) hltb).trans HK6.out)
                have HC0' := Aside0.mk ((blk_cell hk8 0).trans (show _ = some (Value.int .i64 n.f0) from rfl))
                have HC1' := Aside0.mk ((blk_cell hk8 1).trans (show _ = some (Value.int .i64 n.f1) from rfl))
                clear hgu hgu' hltg htg hltb hW2 hgr hj8 hk8 HJ7 HB6 HK6 HOG HGU
                go_upto_region 30 with (fail)
                generalize ((wr.alloc (.map #[] 0)).setCell ⟨g n.f1, 0, none⟩ (.int .i64 i)).setCell ⟨g n.f1, 1, none⟩ (.map (some wr.heap.size)) = w9 at HJ8 HB8 HC0' HC1' ⊢
                have hc0 := HC0'.out
                have hc1 := HC1'.out
                clear hx0 hx1 hf0 hf1 HC0' HC1'
                go_wp2_with (first | (at_delete; refine wl_drop (K := KI) rfl (.tmp 125) (.tmp 127) 112 3 rfl Try.underlying112 HJ8.out.h1 n.f1 rfl rfl ?_; intro w10 hp10 hg10; have HJ9 := Aside0.mk ((HJ8.out.ended n.f1 hp10 hg10).congr (on' := fun v => if v = n.f1 then none else st.on v) (fun v => by by_cases hv : v = n.f1 <;> simp [hv]) (fun _ => rfl)); have HB9 := Aside0.mk (HB8.out.grown hg10 (below_size HB8.out) (fun k e => by cases e; exact HJ8.out.l1)); clear hp10 hg10))
                go_roundg (l0.length - i - 1)
                case measure => have := HQ.out; omega
                case rel => exact ⟨i + 1, _, _, _, _, rfl, by omega, ⟨by have := HQ.out; omega⟩, HS3, HJ9, HB9⟩
              · have hrun' : ∀ ty, (Instr.next (.pointer (some ⟨r, 0, none⟩)) false ty).run Try.prog wr = .ok (.tuple #[.bool true, .string k0, v0]) w8 := fun _ => hrun
                have hent' : (Instr.entry (.pointer (some ⟨r, 0, none⟩))).run Try.prog w8 = .ok (.tuple #[.string k0, v0]) w8 := hent
                have hKk : K k0 = true := by unfold ksF at hFk; cases hKK : K k0 <;> rw [hKK] at hFk <;> simp at hFk ⊢
                have HJ8 := Aside0.mk (HJ6.out.other HO6.out hg8)
                have HB8 := Aside0.mk (HB6.out.grown hg8 (below_size HB6.out) (fun k e => by cases e; exact hrw))
                have HK8 := Aside0.mk ((hg8.block tb (Array.getElem?_eq_some_iff.1 HK6.out).1 (fun e => by have := Option.some.inj e; omega)).trans HK6.out)
                have HR8 := Aside0.mk hR8
                have HKK := Aside0.mk hKk
                clear hrun hent hFk hlk hKk hR8 hg8 HJ6 HB6 HK6 HR
                go_wp2_with (first | (at_delete; refine wl_drop (K := KS) rfl (.tmp 112) (.tmp 113) 113 9 rfl Try.underlying113 HJ8.out.h2 k0 rfl rfl ?_; intro w9 hp9 hg9; have HJ9 := Aside0.mk (HJ8.out.struck (tk' := fun k => if K k = true ∧ (left k && !decide (k = k0)) = false then none else st.tk k) (hp9.congr (fun q => by have := HKK.out; unfold tkF; by_cases hq : q = k0 <;> simp [hq, this])) hg9); have HB9 := Aside0.mk (HB8.out.grown hg9 (below_size HB8.out) (fun k e => by cases e; exact HJ8.out.l2)); have HK9 := Aside0.mk ((hg9.block tb (Array.getElem?_eq_some_iff.1 HK8.out).1 (fun e => HT2.out (Option.some.inj e))).trans HK8.out); have HR9 := Aside0.mk (HR8.out.grown hg9 (fun e => Jrn.ne _ (HJ8.out.om _ _ HON.out).1 HJ8.out.o2 (.inr (by decide)) (Option.some.inj e)) (fun e => by have := Option.some.inj e; omega)); clear hp9 hg9))
                go_roundg (cn' + 1)
                case measure => have := HQ2.out; omega
                case rel => exact ⟨_, cn', ⟨rfl⟩, HR9, HJ9, HB9, HK9⟩
          have HS3 := Aside0.mk ((wrongFrom_inr (wrongStep_x k1 k2 k3 k4 k5 k7 HON.out)).symm.trans HS2.out)
          have q1 : (n.f0 == 1) = false := beq_eq_false_iff_ne.2 k1
          have q2 : (n.f0 == 2) = false := beq_eq_false_iff_ne.2 k2
          have q3 : (n.f0 == 3) = false := beq_eq_false_iff_ne.2 k3
          have q4 : (n.f0 == 4) = false := beq_eq_false_iff_ne.2 k4
          have q5 : (n.f0 == 5) = false := beq_eq_false_iff_ne.2 k5
          have q7 : (n.f0 == 7) = false := beq_eq_false_iff_ne.2 k7
          clear k1 k2 k3 k4 k5 k6 k7 HS2
          go_wp2_with (first | (at_lookup; refine wl_look2 (K := KI) rfl (.tmp 26) (.tmp 28) 112 rfl Try.underlying112 zero114 (HJ.out.h1.alloc _) n.f1 rfl rfl ?_; rw [HO1.out]; simp only [Option.getD_some, Option.isSome_some]))
          go_roundg (gk - 1)
          case measure => have := HQ.out; omega
          case rel => exact ⟨i + 1, _, _, _, _, rfl, by omega, ⟨by have := HQ.out; omega⟩, HS3, ⟨HJ.out.below ((Below.refl _ _).alloc (Nat.le_refl _) _)⟩, ⟨HB.out.alloc (below_size HB.out) _⟩⟩
    · have hi : i = l0.length := by omega
      subst hi
      obtain ⟨rfl, rfl⟩ := Prod.mk.inj (show ((-1, 0) : Int × Int) = (r1, r2) by rw [← HS.out, List.drop_length]; rfl)
      clear HS
      go_wp2
      go_ret2
      exact ⟨rfl, HB.out⟩
theorem journal_Wrong.calls (A0 : Option Addr) (c0 : Nat) (l0 : List (S39)) (r1 : Int) (r2 : Int) (w : World) (hr0 : Kd.C k39 w A0 l0.length l0) (hc0 : l0.length ≤ c0) (h : journal_Wrong.f l0 = some (r1, r2)) :
    Calls Try.prog 67 #[.slice A0 l0.length c0] w fun e w' => e = .returned (.tuple #[.int .i64 r1, .int .i64 r2]) ∧ Below w.heap.size w w' := by
  unfold journal_Wrong.f at h
  by_cases hv : l0.length ≤ 1000 ∧ l0.all vld = true
  · rw [if_pos hv] at h
    exact wrong_yes A0 c0 l0 w hr0 hc0 hv.1 hv.2 r1 r2 (Option.some.inj h)
  · rw [if_neg hv] at h
    obtain ⟨rfl, rfl⟩ := Prod.mk.inj (Option.some.inj h)
    exact wrong_no A0 c0 l0 w hr0 hc0 hv
end Go.Proofs.Yteblpjnkinghoaa.J
namespace Go.Proofs.Yteblpjnkinghoaa.J
open Go.RowKit Go.Proofs.YteblpjnkinghoaaW.PrintWords Go.Proofs.YteblpjnkinghoaaW.PrintLast Go.Proofs.YteblpjnkinghoaaW.PrintMore
attribute [local go_sem] max2_int min2_int max_two min_two max_three min_three max_four min_four   -- for this text's walks alone
set_option linter.unusedVariables false
set_option linter.unusedSimpArgs false
/-! ### journal_right: function 40 -/
def journal_right.f (l0 : List (S39)) : Option (Int) := (journal_Wrong.f l0).bind fun bt120 => (if bt120.2 = 0 then (some bt120.2) else (if bt120.2 = 1 then (some bt120.2) else (some 9)))
set_option maxHeartbeats 8000000 in
set_option maxRecDepth 100000 in
theorem journal_right.calls (A0 : Option Addr) (c0 : Nat) (l0 : List (S39)) (r : Int) (w : World) (hr0 : Kd.C k39 w A0 l0.length l0) (hc0 : l0.length ≤ c0) (h : journal_right.f l0 = some r) :
    Calls Try.prog 40 #[.slice A0 l0.length c0] w fun e w' => e = .returned (.int .i64 r) ∧ Below w.heap.size w w' := by
  have HR0 := Aside0.mk hr0
  have HC0 := Aside0.mk hc0
  clear hr0 hc0
  have HB := Aside0.mk (Below.refl w.heap.size w)
  have H : ((journal_Wrong.f l0).bind fun bt120 => (if bt120.2 = 0 then (some bt120.2) else (if bt120.2 = 1 then (some bt120.2) else (some 9)))) = some r := h
  clear h
  replace H := Option.bind_eq_some_iff.mp H
  obtain ⟨⟨t120, t121⟩, A20, H⟩ := H
  replace H : (if t121 = 0 then (some t121) else (if t121 = 1 then (some t121) else (some 9))) = some r := H
  have A2 := Aside0.mk A20
  clear A20
  by_cases c3 : t121 = 0
  · rw [if_pos c3] at H
    have c3b0 : (t121 == 0) = true := beq_iff_eq.mpr c3
    have c3b1 : (t121 != 0) = false := bne_eq_false_iff_eq.mpr c3
    clear c3
    obtain rfl := Option.some.inj H
    go_enter Try.func40, Try.ntmps40
    go_wp2_with (first | ((with_reducible refine gate_callee (f := 67) rfl ?_); refine goesL_ (some 7) rfl rfl Try.func67 (by kernel_rfl) rfl #[.slice A0 l0.length c0] rfl (by (try simp only [List.map_toArray, List.map_cons, List.map_nil]); first | done | rfl | (simp only [List.length_drop, List.length_take]; rfl)) ?_; (with_reducible refine (journal_Wrong.calls _ _ l0 t120 t121 _ ?side1 ?side2 A2.out).mono ?_); (case side1 => repeat (first | exact HR0.out | (with_reducible refine Kd.C_alloc ?_ _) | (with_reducible refine Kd.C_drewN ?_ _) | (with_reducible refine Kd.C_drew ?_))); (case side2 => exact HC0.out); rintro e w4 ⟨rfl, hb⟩; refine ⟨_, rfl, ?_⟩; have n0_ := Aside0.mk (below_step (by repeat (first | (with_reducible first | exact HB.out | apply below_alloc | apply pw_below_drewN | apply below_drew1) | exact HB.out)) hb); clear HB; have HB := n0_; clear n0_; (try clear hb); (try clear hb2); (try clear hk); (try clear hi)))
    go_ret
    exact ⟨by first | rfl | (simp [errW_none, errW_some] <;> rfl) | (simp [*, errW_none, errW_some] <;> rfl), by repeat (first | (with_reducible first | exact HB.out | apply below_alloc | apply pw_below_drewN | apply below_drew1) | exact HB.out)⟩
  · rw [if_neg c3] at H
    have c3b0 : (t121 == 0) = false := beq_eq_false_iff_ne.mpr c3
    have c3b1 : (t121 != 0) = true := bne_iff_ne.mpr c3
    by_cases c5 : t121 = 1
    · rw [if_pos c5] at H
      have c5b0 : (t121 == 1) = true := beq_iff_eq.mpr c5
      have c5b1 : (t121 != 1) = false := bne_eq_false_iff_eq.mpr c5
      clear c5
      obtain rfl := Option.some.inj H
      go_enter Try.func40, Try.ntmps40
      go_wp2_with (first | ((with_reducible refine gate_callee (f := 67) rfl ?_); refine goesL_ (some 7) rfl rfl Try.func67 (by kernel_rfl) rfl #[.slice A0 l0.length c0] rfl (by (try simp only [List.map_toArray, List.map_cons, List.map_nil]); first | done | rfl | (simp only [List.length_drop, List.length_take]; rfl)) ?_; (with_reducible refine (journal_Wrong.calls _ _ l0 t120 t121 _ ?side1 ?side2 A2.out).mono ?_); (case side1 => repeat (first | exact HR0.out | (with_reducible refine Kd.C_alloc ?_ _) | (with_reducible refine Kd.C_drewN ?_ _) | (with_reducible refine Kd.C_drew ?_))); (case side2 => exact HC0.out); rintro e w6 ⟨rfl, hb⟩; refine ⟨_, rfl, ?_⟩; have n0_ := Aside0.mk (below_step (by repeat (first | (with_reducible first | exact HB.out | apply below_alloc | apply pw_below_drewN | apply below_drew1) | exact HB.out)) hb); clear HB; have HB := n0_; clear n0_; (try clear hb); (try clear hb2); (try clear hk); (try clear hi)))
      go_ret
      exact ⟨by first | rfl | (simp [errW_none, errW_some] <;> rfl) | (simp [*, errW_none, errW_some] <;> rfl), by repeat (first | (with_reducible first | exact HB.out | apply below_alloc | apply pw_below_drewN | apply below_drew1) | exact HB.out)⟩
    · rw [if_neg c5] at H
      have c5b0 : (t121 == 1) = false := beq_eq_false_iff_ne.mpr c5
      have c5b1 : (t121 != 1) = true := bne_iff_ne.mpr c5
      obtain rfl := Option.some.inj H
      go_enter Try.func40, Try.ntmps40
      go_wp2_with (first | ((with_reducible refine gate_callee (f := 67) rfl ?_); refine goesL_ (some 7) rfl rfl Try.func67 (by kernel_rfl) rfl #[.slice A0 l0.length c0] rfl (by (try simp only [List.map_toArray, List.map_cons, List.map_nil]); first | done | rfl | (simp only [List.length_drop, List.length_take]; rfl)) ?_; (with_reducible refine (journal_Wrong.calls _ _ l0 t120 t121 _ ?side1 ?side2 A2.out).mono ?_); (case side1 => repeat (first | exact HR0.out | (with_reducible refine Kd.C_alloc ?_ _) | (with_reducible refine Kd.C_drewN ?_ _) | (with_reducible refine Kd.C_drew ?_))); (case side2 => exact HC0.out); rintro e w7 ⟨rfl, hb⟩; refine ⟨_, rfl, ?_⟩; have n0_ := Aside0.mk (below_step (by repeat (first | (with_reducible first | exact HB.out | apply below_alloc | apply pw_below_drewN | apply below_drew1) | exact HB.out)) hb); clear HB; have HB := n0_; clear n0_; (try clear hb); (try clear hb2); (try clear hk); (try clear hi)))
      go_ret
      exact ⟨by first | rfl | (simp [errW_none, errW_some] <;> rfl) | (simp [*, errW_none, errW_some] <;> rfl), by repeat (first | (with_reducible first | exact HB.out | apply below_alloc | apply pw_below_drewN | apply below_drew1) | exact HB.out)⟩

end Go.Proofs.Yteblpjnkinghoaa.J
/- The contract of journal.Redo, for every slice of notes and every index. -/
namespace Go.Proofs.Yteblpjnkinghoaa.J
open Go.BigFrame Go.RowKit Go.Proofs.YteblpjnkinghoaaW.PrintWords Go.Proofs.YteblpjnkinghoaaW.PrintLast Go.Proofs.YteblpjnkinghoaaW.PrintMore Go.Proofs.YteblpjnkinghoaaW.Mw
def imgOf (n : S39) : S41 := ⟨n.f2, n.f3, n.f4⟩
/-- One note of Redo, from the last to the first. -/
def redoStep (st : (Int → Bool) × List S41) (n : S39) : (Int → Bool) × List S41 :=
  if n.f0 = 4 ∨ n.f0 = 5 then (fun u => if u = n.f1 then true else st.1 u, st.2)
  else if n.f0 = 7 ∨ n.f0 = 1 then (fun u => if u = n.f1 then false else st.1 u, st.2)
  else if n.f0 = 3 then (if st.1 n.f1 = true then (st.1, st.2 ++ [imgOf n]) else st)
  else st
def redoAll (l : List S39) : (Int → Bool) × List S41 := l.reverse.foldl redoStep (fun _ => false, [])
theorem redoAll_cons (n : S39) (l : List S39) : redoAll (n :: l) = redoStep (redoAll l) n := by
  unfold redoAll; rw [List.reverse_cons, List.foldl_append]; rfl
def journal_Redo.f (l0 : List (S39)) (a1 : Int) : Option ((List (S41)) × Int) :=
  (journal_right.f l0).bind fun e => if e = 0 then (if a1 < 0 ∨ (l0.length : Int) < a1 then some ([], 7) else some ((redoAll (l0.drop a1.toNat)).2.reverse, 0)) else some ([], e)
/-- What right answers. -/
def rightN (l : List S39) : Int := (journal_right.f l).getD 0
theorem zero4 (w : World) : (zeroValue 4).run Try.prog w = .ok (.bool false) w := by kernel_rfl
noncomputable def K3 : Keys Try.prog 3 Int := intKeys Try.prog 3 Try.underlying3
theorem redo_no (e : Int) (A0 : Option Addr) (c0 : Nat) (l0 : List (S39)) (a1 : Int) (w : World) (hr0 : Kd.C k39 w A0 l0.length l0) (hc0 : l0.length ≤ c0) (he : journal_right.f l0 = some e) (h : e ≠ 0) :
    Calls Try.prog 18 #[.slice A0 l0.length c0, .int .i64 a1] w fun r w' => r = .returned (.tuple #[.slice none 0 0, .int .i64 e]) ∧ Below w.heap.size w w' := by
  have HR0 := Aside0.mk hr0
  have HC0 := Aside0.mk hc0
  have HE := Aside0.mk he
  clear hr0 hc0 he
  have h1 : (e != 0) = true := bne_iff_ne.2 h
  clear h
  go_enter Try.func18, Try.ntmps18
  go_wp2_with (go_at_call 40; refine (journal_right.calls _ _ _ _ _ HR0.out HC0.out HE.out).mono ?_; rintro r w1 ⟨rfl, hb⟩)
  go_ret2
  exact ⟨rfl, hb⟩
theorem redo_range (A0 : Option Addr) (c0 : Nat) (l0 : List (S39)) (a1 : Int) (w : World) (hr0 : Kd.C k39 w A0 l0.length l0) (hc0 : l0.length ≤ c0) (he : journal_right.f l0 = some 0) (h : a1 < 0 ∨ (l0.length : Int) < a1) :
    Calls Try.prog 18 #[.slice A0 l0.length c0, .int .i64 a1] w fun r w' => r = .returned (.tuple #[.slice none 0 0, .int .i64 7]) ∧ Below w.heap.size w w' := by
  have HR0 := Aside0.mk hr0
  have HC0 := Aside0.mk hc0
  have HE := Aside0.mk he
  clear hr0 hc0 he
  by_cases h1 : a1 < 0
  · clear h
    go_enter Try.func18, Try.ntmps18
    go_wp2_with (go_at_call 40; refine (journal_right.calls _ _ _ _ _ HR0.out HC0.out HE.out).mono ?_; rintro r w1 ⟨rfl, hb⟩)
    go_ret2
    exact ⟨rfl, hb⟩
  · have h2 : (l0.length : Int) < a1 := by omega
    clear h
    go_enter Try.func18, Try.ntmps18
    go_wp2_with (go_at_call 40; refine (journal_right.calls _ _ _ _ _ HR0.out HC0.out HE.out).mono ?_; rintro r w1 ⟨rfl, hb⟩)
    go_ret2
    exact ⟨rfl, hb⟩
set_option maxHeartbeats 2000000 in
set_option maxRecDepth 100000 in
theorem redo_yes (A0 : Option Addr) (c0 : Nat) (l0 : List (S39)) (a1 : Int) (w : World) (hr0 : Kd.C k39 w A0 l0.length l0) (hc0 : l0.length ≤ c0) (he : journal_right.f l0 = some 0) (hl0 : 0 ≤ a1) (hl1 : a1 ≤ (l0.length : Int)) (hle : l0.length ≤ 1000) :
    Calls Try.prog 18 #[.slice A0 l0.length c0, .int .i64 a1] w fun r w' => ∃ v, r = .returned (.tuple #[v, .int .i64 0]) ∧ Kd.R k41 41 w' w.heap.size (fun _ => True) v (redoAll (l0.drop a1.toNat)).2.reverse ∧ Below w.heap.size w w' := by
  have HR0 := Aside0.mk hr0
  have HC0 := Aside0.mk hc0
  have HE := Aside0.mk he
  clear hr0 hc0 he
  have hmm := @run_makeMap Try.prog
  go_enter Try.func18, Try.ntmps18
  go_wp2_with (go_at_call 40; refine (journal_right.calls _ _ _ _ _ HR0.out HC0.out HE.out).mono ?_; rintro r w1 ⟨rfl, hb⟩)
  obtain ⟨b, hbe⟩ : ∃ b, b = w1.heap.size := ⟨_, rfl⟩
  have hB2 := hb.alloc hb.size (.map #[] 0)
  have hH2 := Holds.made K3 w1
  have hbb : w.heap.size ≤ b := by rw [hbe]; exact hb.size
  rw [← hbe] at hH2 ⊢
  have HBB := Aside0.mk hbb
  clear hbb hb hbe
  generalize w1.alloc (.map #[] 0) = w2 at hB2 hH2 ⊢
  have HB := Aside0.mk hB2
  have HH := Aside0.mk hH2
  clear hB2 hH2 hmm
  go_loopg [7, 9] (l0.length + 1 - a1.toNat) (fun kq v7 v9 w' => ∃ (i : Int) (c : Int → Bool) (out : List S41) (F : Int → Option Value), v9 = .int .i64 i ∧ a1 - 1 ≤ i ∧ i < l0.length ∧ Aside0 ((kq : Int) = i + 2 - a1) ∧ Aside0 ((c, out) = redoAll (l0.drop (i + 1).toNat)) ∧ Aside0 (out.length + (i + 1).toNat ≤ l0.length) ∧ Aside0 (Holds K3 w' b F) ∧ Aside0 (∀ u, (F u).getD (.bool false) = .bool (c u)) ∧ Aside0 (Kd.R k41 41 w' w.heap.size (fun k => k ≠ b) v7 out) ∧ Aside0 (Below w.heap.size w w'))
  case atStart => exact ⟨(l0.length : Int) - 1, fun _ => false, [], fun _ => none, rfl, by omega, by omega, ⟨by omega⟩, ⟨by rw [show ((l0.length : Int) - 1 + 1).toNat = l0.length by omega, List.drop_length]; rfl⟩, ⟨by simp⟩, HH, ⟨fun _ => rfl⟩, ⟨Kd.R_nil _ _ _ _ _⟩, HB⟩
  case round =>
    clear HB HH
    obtain ⟨i, c, out, F, rfl, hlo, hhi, HQ, HS, HL, HH, HF, HO, HB⟩ := hrel
    by_cases hlt : a1 ≤ i
    · obtain ⟨m, rfl⟩ : ∃ m : Nat, i = m := ⟨i.toNat, by omega⟩
      obtain ⟨ad, rfl, h0, h1, h2, h3, h4⟩ := at_T39 (Kd.C_below HR0.out HB.out) (m : Int) (by omega) (by omega)
      rw [Int.toNat_natCast] at h0 h1 h2 h3 h4
      have HS2 := Aside0.mk (show redoAll (l0.drop m) = redoStep (c, out) (rd_T39 l0 (m : Int)) by rw [drop_rd (by omega), redoAll_cons, show m + 1 = ((m : Int) + 1).toNat by omega, ← HS.out])
      generalize rd_T39 l0 (m : Int) = n at h0 h1 h2 h3 h4 HS2
      clear HS
      by_cases k4 : n.f0 = 4
      · have HS3 := Aside0.mk (HS2.out.trans (show redoStep (c, out) n = (fun u => if u = n.f1 then true else c u, out) by unfold redoStep; rw [if_pos (.inl k4)]))
        have q4 : (n.f0 == 4) = true := beq_iff_eq.2 k4
        clear k4 HS2
        go_wp2_with (first | (at_mapUpdate; refine wl_put (K := K3) rfl (.tmp 42) (.tmp 44) (.const (.bool true)) 66 rfl Try.underlying66 (HH.out.alloc _) n.f1 (.bool true) rfl rfl rfl ?_; intro w3 hH3 hg3))
        have HH3 := Aside0.mk hH3
        have HO3 := Aside0.mk (Kd.R_grown (Kd.R_alloc HO.out _) hg3 (fun k hk e => hk (Option.some.inj e)))
        have HB3 := Aside0.mk ((HB.out.alloc (below_size HB.out) _).grown hg3 (by have := below_size HB.out; simp; omega) (fun k e => by cases e; exact HBB.out))
        clear hH3 hg3
        go_wp2
        go_roundg (gk - 1)
        case measure => have := HQ.out; omega
        case rel => exact ⟨(m : Int) - 1, _, _, _, rfl, by omega, by omega, ⟨by have := HQ.out; omega⟩, ⟨by rw [show ((m : Int) - 1 + 1).toNat = m by omega, HS3.out]⟩, ⟨by have := HL.out; omega⟩, HH3, ⟨fun u => by show (if u = n.f1 then some (Value.bool true) else F u).getD _ = _; by_cases hu : u = n.f1 <;> simp [hu, HF.out]⟩, HO3, HB3⟩
      have q4 : (n.f0 == 4) = false := beq_eq_false_iff_ne.2 k4
      by_cases k5 : n.f0 = 5
      · have HS3 := Aside0.mk (HS2.out.trans (show redoStep (c, out) n = (fun u => if u = n.f1 then true else c u, out) by unfold redoStep; rw [if_pos (.inr k5)]))
        have q5 : (n.f0 == 5) = true := beq_iff_eq.2 k5
        clear k4 k5 HS2
        go_wp2_with (first | (at_mapUpdate; refine wl_put (K := K3) rfl (.tmp 42) (.tmp 44) (.const (.bool true)) 66 rfl Try.underlying66 (HH.out.alloc _) n.f1 (.bool true) rfl rfl rfl ?_; intro w3 hH3 hg3))
        have HH3 := Aside0.mk hH3
        have HO3 := Aside0.mk (Kd.R_grown (Kd.R_alloc HO.out _) hg3 (fun k hk e => hk (Option.some.inj e)))
        have HB3 := Aside0.mk ((HB.out.alloc (below_size HB.out) _).grown hg3 (by have := below_size HB.out; simp; omega) (fun k e => by cases e; exact HBB.out))
        clear hH3 hg3
        go_wp2
        go_roundg (gk - 1)
        case measure => have := HQ.out; omega
        case rel => exact ⟨(m : Int) - 1, _, _, _, rfl, by omega, by omega, ⟨by have := HQ.out; omega⟩, ⟨by rw [show ((m : Int) - 1 + 1).toNat = m by omega, HS3.out]⟩, ⟨by have := HL.out; omega⟩, HH3, ⟨fun u => by show (if u = n.f1 then some (Value.bool true) else F u).getD _ = _; by_cases hu : u = n.f1 <;> simp [hu, HF.out]⟩, HO3, HB3⟩
      have q5 : (n.f0 == 5) = false := beq_eq_false_iff_ne.2 k5
      by_cases k7 : n.f0 = 7
      · have HS3 := Aside0.mk (HS2.out.trans (show redoStep (c, out) n = (fun u => if u = n.f1 then false else c u, out) by unfold redoStep; rw [if_neg (by omega), if_pos (.inl k7)]))
        have q7 : (n.f0 == 7) = true := beq_iff_eq.2 k7
        clear k4 k5 k7 HS2
        go_wp2_with (first | (at_mapUpdate; refine wl_put (K := K3) rfl (.tmp 48) (.tmp 50) (.const (.bool false)) 66 rfl Try.underlying66 (HH.out.alloc _) n.f1 (.bool false) rfl rfl rfl ?_; intro w3 hH3 hg3))
        have HH3 := Aside0.mk hH3
        have HO3 := Aside0.mk (Kd.R_grown (Kd.R_alloc HO.out _) hg3 (fun k hk e => hk (Option.some.inj e)))
        have HB3 := Aside0.mk ((HB.out.alloc (below_size HB.out) _).grown hg3 (by have := below_size HB.out; simp; omega) (fun k e => by cases e; exact HBB.out))
        clear hH3 hg3
        go_wp2
        go_roundg (gk - 1)
        case measure => have := HQ.out; omega
        case rel => exact ⟨(m : Int) - 1, _, _, _, rfl, by omega, by omega, ⟨by have := HQ.out; omega⟩, ⟨by rw [show ((m : Int) - 1 + 1).toNat = m by omega, HS3.out]⟩, ⟨by have := HL.out; omega⟩, HH3, ⟨fun u => by show (if u = n.f1 then some (Value.bool false) else F u).getD _ = _; by_cases hu : u = n.f1 <;> simp [hu, HF.out]⟩, HO3, HB3⟩
      have q7 : (n.f0 == 7) = false := beq_eq_false_iff_ne.2 k7
      by_cases k1 : n.f0 = 1
      · have HS3 := Aside0.mk (HS2.out.trans (show redoStep (c, out) n = (fun u => if u = n.f1 then false else c u, out) by unfold redoStep; rw [if_neg (by omega), if_pos (.inr k1)]))
        have q1 : (n.f0 == 1) = true := beq_iff_eq.2 k1
        clear k4 k5 k7 k1 HS2
        go_wp2_with (first | (at_mapUpdate; refine wl_put (K := K3) rfl (.tmp 48) (.tmp 50) (.const (.bool false)) 66 rfl Try.underlying66 (HH.out.alloc _) n.f1 (.bool false) rfl rfl rfl ?_; intro w3 hH3 hg3))
        have HH3 := Aside0.mk hH3
        have HO3 := Aside0.mk (Kd.R_grown (Kd.R_alloc HO.out _) hg3 (fun k hk e => hk (Option.some.inj e)))
        have HB3 := Aside0.mk ((HB.out.alloc (below_size HB.out) _).grown hg3 (by have := below_size HB.out; simp; omega) (fun k e => by cases e; exact HBB.out))
        clear hH3 hg3
        go_wp2
        go_roundg (gk - 1)
        case measure => have := HQ.out; omega
        case rel => exact ⟨(m : Int) - 1, _, _, _, rfl, by omega, by omega, ⟨by have := HQ.out; omega⟩, ⟨by rw [show ((m : Int) - 1 + 1).toNat = m by omega, HS3.out]⟩, ⟨by have := HL.out; omega⟩, HH3, ⟨fun u => by show (if u = n.f1 then some (Value.bool false) else F u).getD _ = _; by_cases hu : u = n.f1 <;> simp [hu, HF.out]⟩, HO3, HB3⟩
      have q1 : (n.f0 == 1) = false := beq_eq_false_iff_ne.2 k1
      by_cases k3 : n.f0 = 3
      · have q3 : (n.f0 == 3) = true := beq_iff_eq.2 k3
        have HF1 := HF.out n.f1
        cases hc : c n.f1
        · have HS3 := Aside0.mk (HS2.out.trans (show redoStep (c, out) n = (c, out) by unfold redoStep; rw [if_neg (by omega), if_neg (by omega), if_pos k3, if_neg (show ¬ c n.f1 = true by rw [hc]; decide)]))
          rw [hc] at HF1
          have HF2 := Aside0.mk HF1
          clear k4 k5 k7 k1 k3 HS2 HF1 hc
          go_wp2_with (first | (at_lookup; refine wl_look (K := K3) rfl (.tmp 53) (.tmp 55) 66 rfl Try.underlying66 zero4 (HH.out.alloc _) n.f1 rfl rfl ?_; rw [HF2.out]))
          go_roundg (gk - 1)
          case measure => have := HQ.out; omega
          case rel => exact ⟨(m : Int) - 1, _, _, _, rfl, by omega, by omega, ⟨by have := HQ.out; omega⟩, ⟨by rw [show ((m : Int) - 1 + 1).toNat = m by omega, HS3.out]⟩, ⟨by have := HL.out; omega⟩, ⟨HH.out.alloc _⟩, HF, ⟨Kd.R_alloc HO.out _⟩, ⟨HB.out.alloc (below_size HB.out) _⟩⟩
        · have HS3 := Aside0.mk (HS2.out.trans (show redoStep (c, out) n = (c, out ++ [imgOf n]) by unfold redoStep; rw [if_neg (by omega), if_neg (by omega), if_pos k3, if_pos (show c n.f1 = true from hc)]))
          rw [hc] at HF1
          have HF2 := Aside0.mk HF1
          clear k4 k5 k7 k1 k3 HS2 HF1 hc
          have HV7 := Aside0.mk (show ∀ k, u7.ownBlock = some k → k ≠ b from HO.out.1)
          have hk := heap_alloc_new wr (.cells #[.int .i64 n.f0, .int .i64 n.f1, .string n.f2, .bool n.f3, .string n.f4] 39)
          have HO5 := Aside0.mk (Kd.R_alloc HO.out (.cells #[.int .i64 n.f0, .int .i64 n.f1, .string n.f2, .bool n.f3, .string n.f4] 39))
          have HB5 := Aside0.mk (HB.out.alloc (below_size HB.out) (.cells #[.int .i64 n.f0, .int .i64 n.f1, .string n.f2, .bool n.f3, .string n.f4] 39))
          have HH5 := Aside0.mk (HH.out.alloc (.cells #[.int .i64 n.f0, .int .i64 n.f1, .string n.f2, .bool n.f3, .string n.f4] 39))
          have hq2 := (blk_cell hk 2).trans rfl
          have hq3 := (blk_cell hk 3).trans rfl
          have hq4 := (blk_cell hk 4).trans rfl
          clear hk
          go_wp2_with (first | (at_lookup; refine wl_look (K := K3) rfl (.tmp 53) (.tmp 55) 66 rfl Try.underlying66 zero4 HH5.out n.f1 rfl rfl ?_; rw [HF2.out]; generalize wr.alloc (.cells #[.int .i64 n.f0, .int .i64 n.f1, .string n.f2, .bool n.f3, .string n.f4] 39) = w5 at HO5 HB5 HH5 hq2 hq3 hq4 ⊢) | (at_builtin; refine Kd.R_append k41 (w0 := w) w.heap.size rfl (.tmp 57) (.tmp 65) 22 41 (.agg #[(.string ⟨#[]⟩), (.bool false), (.string ⟨#[]⟩)]) 40 rfl Try.underlying22 info41 rfl (by decide) (by decide) u7 out (imgOf n) [.string n.f2, .bool n.f3, .string n.f4] (fun k => k ≠ b) (fun _ => False) rfl rfl ?aP (fun _ hk => hk.elim) ?aF ?aO ?aB ?aS ?aL ?_; (case aP => exact k41_mkM _ _ _ (imgOf n)); (case aF => exact (fun k hk => by have := HH5.out.lt; omega)); (case aO => exact HO5.out); (case aB => exact HB5.out); (case aS => exact below_size HB5.out); (case aL => have := HL.out; omega); intro v1 w3 ho hb3 hg3 _; have HO3 := Aside0.mk ho; have HB3 := Aside0.mk hb3; have HH3 := Aside0.mk (HH5.out.grown hg3 (fun e => HV7.out b e.symm rfl)); clear ho hb3 hg3))
          go_roundg (gk - 1)
          case measure => have := HQ.out; omega
          case rel => exact ⟨(m : Int) - 1, _, _, _, rfl, by omega, by omega, ⟨by have := HQ.out; omega⟩, ⟨by rw [show ((m : Int) - 1 + 1).toNat = m by omega, HS3.out]⟩, ⟨by have := HL.out; simp; omega⟩, HH3, HF, HO3, HB3⟩
      · have q3 : (n.f0 == 3) = false := beq_eq_false_iff_ne.2 k3
        have HS3 := Aside0.mk (HS2.out.trans (show redoStep (c, out) n = (c, out) by unfold redoStep; rw [if_neg (by omega), if_neg (by omega), if_neg k3]))
        clear k4 k5 k7 k1 k3 HS2
        go_wp2
        go_roundg (gk - 1)
        case measure => have := HQ.out; omega
        case rel => exact ⟨(m : Int) - 1, _, _, _, rfl, by omega, by omega, ⟨by have := HQ.out; omega⟩, ⟨by rw [show ((m : Int) - 1 + 1).toNat = m by omega, HS3.out]⟩, ⟨by have := HL.out; omega⟩, ⟨HH.out.alloc _⟩, HF, ⟨Kd.R_alloc HO.out _⟩, ⟨HB.out.alloc (below_size HB.out) _⟩⟩
    · have hi : i = a1 - 1 := by omega
      subst hi
      have HS' := Aside0.mk (show out = (redoAll (l0.drop a1.toNat)).2 by rw [show a1.toNat = (a1 - 1 + 1).toNat by omega, ← HS.out])
      clear HS
      have HV := Aside0.mk (rev_all out (by have := HL.out; omega))
      go_wp2_with (go_at_call 38; refine (api_Image.calls _ _ _ _ _ w _ HB.out HO.out HV.out).mono ?_; rintro r w3 ⟨rfl, ho, hb3, _⟩)
      go_ret2
      exact ⟨_, rfl, by rw [← HS'.out]; exact Kd.R_mono ho (fun _ _ => trivial), hb3⟩
theorem right_cases (l : List S39) : journal_right.f l = some (rightN l) ∧ (rightN l ≠ 1 → l.length ≤ 1000 ∧ l.all vld = true) := by
  unfold rightN journal_right.f journal_Wrong.f
  by_cases hv : l.length ≤ 1000 ∧ l.all vld = true
  · rw [if_pos hv]
    refine ⟨?_, fun _ => hv⟩
    simp only [Option.bind_some]
    split <;> first | rfl | (split <;> rfl)
  · rw [if_neg hv]
    refine ⟨rfl, fun h => ?_⟩
    simp at h
theorem journal_Redo.calls (A0 : Option Addr) (c0 : Nat) (l0 : List (S39)) (a1 : Int) (r1 : List (S41)) (r2 : Int) (w : World) (hr0 : Kd.C k39 w A0 l0.length l0) (hc0 : l0.length ≤ c0) (h : journal_Redo.f l0 a1 = some (r1, r2)) :
    Calls Try.prog 18 #[.slice A0 l0.length c0, .int .i64 a1] w fun e w' => ∃ v0_ : Value, e = .returned (.tuple #[v0_, .int .i64 r2]) ∧ Kd.R k41 41 w' w.heap.size (fun _ => True) v0_ r1 ∧ Below w.heap.size w w' := by
  obtain ⟨he, hle⟩ := right_cases l0
  unfold journal_Redo.f at h
  rw [he, Option.bind_some] at h
  by_cases h0 : rightN l0 = 0
  · rw [if_pos h0] at h
    rw [h0] at he
    by_cases hr : a1 < 0 ∨ (l0.length : Int) < a1
    · rw [if_pos hr] at h
      obtain ⟨rfl, rfl⟩ := Prod.mk.inj (Option.some.inj h)
      exact (redo_range A0 c0 l0 a1 w hr0 hc0 he hr).mono fun e w' ⟨h1, h2⟩ => ⟨_, h1, Kd.R_nil _ _ _ _ _, h2⟩
    · rw [if_neg hr] at h
      obtain ⟨rfl, rfl⟩ := Prod.mk.inj (Option.some.inj h)
      exact redo_yes A0 c0 l0 a1 w hr0 hc0 he (by omega) (by omega) (hle (by omega)).1
  · rw [if_neg h0] at h
    obtain ⟨rfl, rfl⟩ := Prod.mk.inj (Option.some.inj h)
    exact (redo_no _ A0 c0 l0 a1 w hr0 hc0 he h0).mono fun e w' ⟨h1, h2⟩ => ⟨_, h1, Kd.R_nil _ _ _ _ _, h2⟩
end Go.Proofs.Yteblpjnkinghoaa.J
namespace Go.Proofs.Yteblpjnkinghoaa.J
open Go.RowKit Go.Proofs.YteblpjnkinghoaaW.PrintWords Go.Proofs.YteblpjnkinghoaaW.PrintLast Go.Proofs.YteblpjnkinghoaaW.PrintMore
attribute [local go_sem] max2_int min2_int max_two min_two max_three min_three max_four min_four   -- for this text's walks alone
set_option linter.unusedVariables false
set_option linter.unusedSimpArgs false
/-! ### journal_State: function 14 -/
def journal_State.f (l0 : List (S41)) (l1 : List (S39)) : Option ((List (S41)) × Int) := (journal_ordered.f l0).bind fun t126 => (if t126 = true then ((journal_Redo.f l1 0).bind fun bt127 => (if bt127.2 = 0 then ((journal_Apply.f l0 bt127.1).bind fun bt131 => (some (bt131.1, bt131.2))) else (some (([] : List (S41)), bt127.2)))) else (some (([] : List (S41)), 1)))
set_option maxHeartbeats 8000000 in
set_option maxRecDepth 100000 in
theorem journal_State.calls (A0 : Option Addr) (c0 : Nat) (l0 : List (S41)) (A1 : Option Addr) (c1 : Nat) (l1 : List (S39)) (r1 : List (S41)) (r2 : Int) (w : World) (hr0 : Kd.C k41 w A0 l0.length l0) (hc0 : l0.length ≤ c0) (hr1 : Kd.C k39 w A1 l1.length l1) (hc1 : l1.length ≤ c1) (h : journal_State.f l0 l1 = some (r1, r2)) :
    Calls Try.prog 14 #[.slice A0 l0.length c0, .slice A1 l1.length c1] w fun e w' => ∃ v0_ : Value, e = .returned (.tuple #[v0_, .int .i64 r2]) ∧ Kd.R k41 41 w' w.heap.size (fun _ => True) v0_ r1 ∧ Below w.heap.size w w' := by
  have HR0 := Aside0.mk hr0
  have HC0 := Aside0.mk hc0
  clear hr0 hc0
  have HR1 := Aside0.mk hr1
  have HC1 := Aside0.mk hc1
  clear hr1 hc1
  have HB := Aside0.mk (Below.refl w.heap.size w)
  have H : ((journal_ordered.f l0).bind fun t126 => (if t126 = true then ((journal_Redo.f l1 0).bind fun bt127 => (if bt127.2 = 0 then ((journal_Apply.f l0 bt127.1).bind fun bt131 => (some (bt131.1, bt131.2))) else (some (([] : List (S41)), bt127.2)))) else (some (([] : List (S41)), 1)))) = some (r1, r2) := h
  clear h
  replace H := Option.bind_eq_some_iff.mp H
  obtain ⟨t126, A30, H⟩ := H
  replace H : (if t126 = true then ((journal_Redo.f l1 0).bind fun bt127 => (if bt127.2 = 0 then ((journal_Apply.f l0 bt127.1).bind fun bt131 => (some (bt131.1, bt131.2))) else (some (([] : List (S41)), bt127.2)))) else (some (([] : List (S41)), 1))) = some (r1, r2) := H
  have A3 := Aside0.mk A30
  clear A30
  by_cases c4 : t126 = true
  · subst c4
    have H1 : ((journal_Redo.f l1 0).bind fun bt127 => (if bt127.2 = 0 then ((journal_Apply.f l0 bt127.1).bind fun bt131 => (some (bt131.1, bt131.2))) else (some (([] : List (S41)), bt127.2)))) = some (r1, r2) := by rw [if_pos rfl] at H; exact H
    clear H
    have H := H1
    clear H1
    replace H := Option.bind_eq_some_iff.mp H
    obtain ⟨⟨t127, t128⟩, A50, H⟩ := H
    replace H : (if t128 = 0 then ((journal_Apply.f l0 t127).bind fun bt131 => (some (bt131.1, bt131.2))) else (some (([] : List (S41)), t128))) = some (r1, r2) := H
    have A5 := Aside0.mk A50
    clear A50
    by_cases c6 : t128 = 0
    · rw [if_pos c6] at H
      have c6b0 : (t128 == 0) = true := beq_iff_eq.mpr c6
      have c6b1 : (t128 != 0) = false := bne_eq_false_iff_eq.mpr c6
      clear c6
      replace H := Option.bind_eq_some_iff.mp H
      obtain ⟨⟨t131, t132⟩, A70, H⟩ := H
      replace H : (some (t131, t132)) = some (r1, r2) := H
      have A7 := Aside0.mk A70
      clear A70
      simp only [Option.some.injEq, Prod.mk.injEq] at H
      obtain ⟨rfl, rfl⟩ := H
      go_enter Try.func14, Try.ntmps14
      go_wp2_with (first | ((with_reducible refine gate_callee (f := 36) rfl ?_); refine goesL_ (some 9) rfl rfl Try.func36 (by kernel_rfl) rfl #[.slice A0 l0.length c0] rfl (by (try simp only [List.map_toArray, List.map_cons, List.map_nil]); first | done | rfl | (simp only [List.length_drop, List.length_take]; rfl)) ?_; (with_reducible refine (journal_ordered.calls _ _ l0 true _ ?side1 ?side2 A3.out).mono ?_); (case side1 => repeat (first | exact HR0.out | (with_reducible refine Kd.C_alloc ?_ _) | (with_reducible refine Kd.C_drewN ?_ _) | (with_reducible refine Kd.C_drew ?_))); (case side2 => exact HC0.out); rintro e w8 ⟨rfl, hb⟩; refine ⟨_, rfl, ?_⟩; have n0_ := Aside0.mk (below_step (by repeat (first | (with_reducible first | exact HB.out | apply below_alloc | apply pw_below_drewN | apply below_drew1) | exact HB.out)) hb); clear HB; have HB := n0_; clear n0_; (try clear hb); (try clear hb2); (try clear hk); (try clear hi)) | ((with_reducible refine gate_callee (f := 18) rfl ?_); refine goesL_ (some 13) rfl rfl Try.func18 (by kernel_rfl) rfl #[.slice A1 l1.length c1, .int .i64 0] rfl (by (try simp only [List.map_toArray, List.map_cons, List.map_nil]); first | done | rfl | (simp only [List.length_drop, List.length_take]; rfl)) ?_; (with_reducible refine (journal_Redo.calls _ _ l1 0 t127 t128 _ ?side1 ?side2 A5.out).mono ?_); (case side1 => repeat (first | exact (Kd.C_below HR1.out HB.out) | (with_reducible refine Kd.C_alloc ?_ _) | (with_reducible refine Kd.C_drewN ?_ _) | (with_reducible refine Kd.C_drew ?_))); (case side2 => exact HC1.out); rintro e w9 ⟨v129, rfl, ho0, hb⟩; refine ⟨_, rfl, ?_⟩; have n0_ := Aside0.mk (Kd.R_lower ho0 (below_size (by repeat (first | (with_reducible first | exact HB.out | apply below_alloc | apply pw_below_drewN | apply below_drew1) | exact HB.out)))); have n1_ := Aside0.mk (below_step (by repeat (first | (with_reducible first | exact HB.out | apply below_alloc | apply pw_below_drewN | apply below_drew1) | exact HB.out)) hb); clear HB; have HO130 := n0_; have HB := n1_; clear n0_ n1_; (try clear hb); (try clear hb2); (try clear hk); (try clear hi); (try clear ho0); obtain ⟨Ao10, co10, eo10⟩ := Kd.R_slice HO130.out; subst eo10) | ((with_reducible refine gate_callee (f := 20) rfl ?_); refine goesL_ (some 21) rfl rfl Try.func20 (by kernel_rfl) rfl #[.slice A0 l0.length c0, .slice Ao10 t127.length co10] rfl (by (try simp only [List.map_toArray, List.map_cons, List.map_nil]); first | done | rfl | (simp only [List.length_drop, List.length_take]; rfl)) ?_; (with_reducible refine (journal_Apply.calls _ _ l0 _ _ t127 t131 t132 _ ?side1 ?side2 ?side3 ?side4 A7.out).mono ?_); (case side1 => repeat (first | exact (Kd.C_below HR0.out HB.out) | (with_reducible refine Kd.C_alloc ?_ _) | (with_reducible refine Kd.C_drewN ?_ _) | (with_reducible refine Kd.C_drew ?_))); (case side2 => exact HC0.out); (case side3 => repeat (first | exact (Kd.R_reads' HO130.out).2.2 | (with_reducible refine Kd.C_alloc ?_ _) | (with_reducible refine Kd.C_drewN ?_ _) | (with_reducible refine Kd.C_drew ?_))); (case side4 => exact (Kd.R_reads' HO130.out).2.1); rintro e w11 ⟨v133, rfl, ho0, hb⟩; refine ⟨_, rfl, ?_⟩; have n0_ := Aside0.mk (Kd.R_elder' (by (with_reducible repeat (first | apply Kd.R_alloc | apply Kd.R_drewN | apply Kd.R_drew)); exact HO130.out) (Kd.R_base ho0) hb); have n1_ := Aside0.mk (Kd.R_lower (Kd.R_new' ho0 (Kd.R_lt (by (with_reducible repeat (first | apply Kd.R_alloc | apply Kd.R_drewN | apply Kd.R_drew)); exact HO130.out))) (below_size (by repeat (first | (with_reducible first | exact HB.out | apply below_alloc | apply pw_below_drewN | apply below_drew1) | exact HB.out)))); have n2_ := Aside0.mk (below_step (by repeat (first | (with_reducible first | exact HB.out | apply below_alloc | apply pw_below_drewN | apply below_drew1) | exact HB.out)) hb); clear HO130; clear HB; have HO130 := n0_; have HO134 := n1_; have HB := n2_; clear n0_ n1_ n2_; (try clear hb); (try clear hb2); (try clear hk); (try clear hi); (try clear ho0)))
      go_ret2
      exact ⟨_, by first | rfl | (simp [errW_none, errW_some] <;> rfl) | (simp [*, errW_none, errW_some] <;> rfl), by (with_reducible repeat (first | apply Kd.R_alloc | apply Kd.R_drewN | apply Kd.R_drew)); exact Kd.R_mono HO134.out (fun _ hk => trivial), by repeat (first | (with_reducible first | exact HB.out | apply below_alloc | apply pw_below_drewN | apply below_drew1) | exact HB.out)⟩
    · rw [if_neg c6] at H
      have c6b0 : (t128 == 0) = false := beq_eq_false_iff_ne.mpr c6
      have c6b1 : (t128 != 0) = true := bne_iff_ne.mpr c6
      simp only [Option.some.injEq, Prod.mk.injEq] at H
      obtain ⟨rfl, rfl⟩ := H
      go_enter Try.func14, Try.ntmps14
      go_wp2_with (first | ((with_reducible refine gate_callee (f := 36) rfl ?_); refine goesL_ (some 9) rfl rfl Try.func36 (by kernel_rfl) rfl #[.slice A0 l0.length c0] rfl (by (try simp only [List.map_toArray, List.map_cons, List.map_nil]); first | done | rfl | (simp only [List.length_drop, List.length_take]; rfl)) ?_; (with_reducible refine (journal_ordered.calls _ _ l0 true _ ?side1 ?side2 A3.out).mono ?_); (case side1 => repeat (first | exact HR0.out | (with_reducible refine Kd.C_alloc ?_ _) | (with_reducible refine Kd.C_drewN ?_ _) | (with_reducible refine Kd.C_drew ?_))); (case side2 => exact HC0.out); rintro e w12 ⟨rfl, hb⟩; refine ⟨_, rfl, ?_⟩; have n0_ := Aside0.mk (below_step (by repeat (first | (with_reducible first | exact HB.out | apply below_alloc | apply pw_below_drewN | apply below_drew1) | exact HB.out)) hb); clear HB; have HB := n0_; clear n0_; (try clear hb); (try clear hb2); (try clear hk); (try clear hi)) | ((with_reducible refine gate_callee (f := 18) rfl ?_); refine goesL_ (some 13) rfl rfl Try.func18 (by kernel_rfl) rfl #[.slice A1 l1.length c1, .int .i64 0] rfl (by (try simp only [List.map_toArray, List.map_cons, List.map_nil]); first | done | rfl | (simp only [List.length_drop, List.length_take]; rfl)) ?_; (with_reducible refine (journal_Redo.calls _ _ l1 0 t127 t128 _ ?side1 ?side2 A5.out).mono ?_); (case side1 => repeat (first | exact (Kd.C_below HR1.out HB.out) | (with_reducible refine Kd.C_alloc ?_ _) | (with_reducible refine Kd.C_drewN ?_ _) | (with_reducible refine Kd.C_drew ?_))); (case side2 => exact HC1.out); rintro e w13 ⟨v129, rfl, ho0, hb⟩; refine ⟨_, rfl, ?_⟩; have n0_ := Aside0.mk (Kd.R_lower ho0 (below_size (by repeat (first | (with_reducible first | exact HB.out | apply below_alloc | apply pw_below_drewN | apply below_drew1) | exact HB.out)))); have n1_ := Aside0.mk (below_step (by repeat (first | (with_reducible first | exact HB.out | apply below_alloc | apply pw_below_drewN | apply below_drew1) | exact HB.out)) hb); clear HB; have HO130 := n0_; have HB := n1_; clear n0_ n1_; (try clear hb); (try clear hb2); (try clear hk); (try clear hi); (try clear ho0)))
      go_ret2
      exact ⟨_, by first | rfl | (simp [errW_none, errW_some] <;> rfl) | (simp [*, errW_none, errW_some] <;> rfl), by first | exact Kd.R_nil _ _ _ _ _ | exact Kd.N_nil _ _ _ _ _ | exact Kd.V_nil _ _ _ _ _ | exact Kd.Q_nil _ _ _ _ _ | exact Kd.S_nil _ _ _ _ _, by repeat (first | (with_reducible first | exact HB.out | apply below_alloc | apply pw_below_drewN | apply below_drew1) | exact HB.out)⟩
  · replace c4 := Bool.eq_false_iff.mpr c4
    subst c4
    have H1 : (some (([] : List (S41)), 1)) = some (r1, r2) := by rw [if_neg (show ¬ (false = true) by decide)] at H; exact H
    clear H
    have H := H1
    clear H1
    simp only [Option.some.injEq, Prod.mk.injEq] at H
    obtain ⟨rfl, rfl⟩ := H
    go_enter Try.func14, Try.ntmps14
    go_wp2_with (first | ((with_reducible refine gate_callee (f := 36) rfl ?_); refine goesL_ (some 9) rfl rfl Try.func36 (by kernel_rfl) rfl #[.slice A0 l0.length c0] rfl (by (try simp only [List.map_toArray, List.map_cons, List.map_nil]); first | done | rfl | (simp only [List.length_drop, List.length_take]; rfl)) ?_; (with_reducible refine (journal_ordered.calls _ _ l0 false _ ?side1 ?side2 A3.out).mono ?_); (case side1 => repeat (first | exact HR0.out | (with_reducible refine Kd.C_alloc ?_ _) | (with_reducible refine Kd.C_drewN ?_ _) | (with_reducible refine Kd.C_drew ?_))); (case side2 => exact HC0.out); rintro e w14 ⟨rfl, hb⟩; refine ⟨_, rfl, ?_⟩; have n0_ := Aside0.mk (below_step (by repeat (first | (with_reducible first | exact HB.out | apply below_alloc | apply pw_below_drewN | apply below_drew1) | exact HB.out)) hb); clear HB; have HB := n0_; clear n0_; (try clear hb); (try clear hb2); (try clear hk); (try clear hi)))
    go_ret2
    exact ⟨_, by first | rfl | (simp [errW_none, errW_some] <;> rfl) | (simp [*, errW_none, errW_some] <;> rfl), by first | exact Kd.R_nil _ _ _ _ _ | exact Kd.N_nil _ _ _ _ _ | exact Kd.V_nil _ _ _ _ _ | exact Kd.Q_nil _ _ _ _ _ | exact Kd.S_nil _ _ _ _ _, by repeat (first | (with_reducible first | exact HB.out | apply below_alloc | apply pw_below_drewN | apply below_drew1) | exact HB.out)⟩

/-! ### ringworklaw25_awake: function 12 -/
def ringworklaw25_awake.f  : Option (Bool) := (journal_State.f ([] : List (S41)) (([(⟨1, 1, (⟨#[]⟩ : ByteArray), false, (⟨#[]⟩ : ByteArray)⟩ : S39), (⟨2, 1, (⟨#[120]⟩ : ByteArray), false, (⟨#[]⟩ : ByteArray)⟩ : S39), (⟨3, 1, (⟨#[120]⟩ : ByteArray), true, (⟨#[97]⟩ : ByteArray)⟩ : S39), (⟨5, 1, (⟨#[]⟩ : ByteArray), false, (⟨#[]⟩ : ByteArray)⟩ : S39)] : List (S39)))).bind fun bt138 => (if bt138.2 = 0 then (if (bt138.1.length : Int) = 1 then (if 0 < (bt138.1.length : Int) then (if ((rd_T41 bt138.1 0).f0).toList = ([120] : List UInt8) then (some (((rd_T41 bt138.1 0).f2).toList == ([97] : List UInt8))) else (some false)) else (none)) else (some false)) else (some false))
set_option maxHeartbeats 8000000 in
set_option maxRecDepth 100000 in
theorem ringworklaw25_awake.calls  (r : Bool) (w : World) (h : ringworklaw25_awake.f  = some r) :
    Calls Try.prog 12 #[] w fun e w' => e = .returned (.bool r) ∧ Below w.heap.size w w' := by
  have hu39 := Try.underlying39
  have HB := Aside0.mk (Below.refl w.heap.size w)
  have H : ((journal_State.f ([] : List (S41)) (([(⟨1, 1, (⟨#[]⟩ : ByteArray), false, (⟨#[]⟩ : ByteArray)⟩ : S39), (⟨2, 1, (⟨#[120]⟩ : ByteArray), false, (⟨#[]⟩ : ByteArray)⟩ : S39), (⟨3, 1, (⟨#[120]⟩ : ByteArray), true, (⟨#[97]⟩ : ByteArray)⟩ : S39), (⟨5, 1, (⟨#[]⟩ : ByteArray), false, (⟨#[]⟩ : ByteArray)⟩ : S39)] : List (S39)))).bind fun bt138 => (if bt138.2 = 0 then (if (bt138.1.length : Int) = 1 then (if 0 < (bt138.1.length : Int) then (if ((rd_T41 bt138.1 0).f0).toList = ([120] : List UInt8) then (some (((rd_T41 bt138.1 0).f2).toList == ([97] : List UInt8))) else (some false)) else (none)) else (some false)) else (some false))) = some r := h
  clear h
  obtain ⟨y135, hy135⟩ : ∃ y_ : List (S39), y_ = (([(⟨1, 1, (⟨#[]⟩ : ByteArray), false, (⟨#[]⟩ : ByteArray)⟩ : S39), (⟨2, 1, (⟨#[120]⟩ : ByteArray), false, (⟨#[]⟩ : ByteArray)⟩ : S39), (⟨3, 1, (⟨#[120]⟩ : ByteArray), true, (⟨#[97]⟩ : ByteArray)⟩ : S39), (⟨5, 1, (⟨#[]⟩ : ByteArray), false, (⟨#[]⟩ : ByteArray)⟩ : S39)] : List (S39))) := ⟨_, rfl⟩
  replace H : ((journal_State.f ([] : List (S41)) y135).bind fun bt138 => (if bt138.2 = 0 then (if (bt138.1.length : Int) = 1 then (if 0 < (bt138.1.length : Int) then (if ((rd_T41 bt138.1 0).f0).toList = ([120] : List UInt8) then (some (((rd_T41 bt138.1 0).f2).toList == ([97] : List UInt8))) else (some false)) else (none)) else (some false)) else (some false))) = some r := by first | (rw [hy135]; with_reducible exact H) | (have H2_ := (Option.bind_some _ _).symm.trans H; rw [hy135]; with_reducible exact H2_) | (have H2_ := (Option.bind_some _ _).symm.trans H; with_reducible exact H2_) | with_reducible exact H | (rw [hy135]; exact H) | exact H
  have Ny135 := Aside0.mk hy135
  clear hy135
  replace H := Option.bind_eq_some_iff.mp H
  obtain ⟨⟨t138, t139⟩, A10, H⟩ := H
  replace H : (if t139 = 0 then (if (t138.length : Int) = 1 then (if 0 < (t138.length : Int) then (if ((rd_T41 t138 0).f0).toList = ([120] : List UInt8) then (some (((rd_T41 t138 0).f2).toList == ([97] : List UInt8))) else (some false)) else (none)) else (some false)) else (some false)) = some r := H
  have A1 := Aside0.mk A10
  clear A10
  by_cases c2 : t139 = 0
  · rw [if_pos c2] at H
    have c2b0 : (t139 == 0) = true := beq_iff_eq.mpr c2
    have c2b1 : (t139 != 0) = false := bne_eq_false_iff_eq.mpr c2
    clear c2
    by_cases c3 : (t138.length : Int) = 1
    · rw [if_pos c3] at H
      have c3b0 : ((t138.length : Int) == 1) = true := beq_iff_eq.mpr c3
      have c3b1 : ((t138.length : Int) != 1) = false := bne_eq_false_iff_eq.mpr c3
      clear c3
      by_cases c4 : 0 < (t138.length : Int)
      · rw [if_pos c4] at H
        have c4b0 : decide (0 < (t138.length : Int)) = true := decide_eq_true c4
        have c4b1 : decide (0 < t138.length) = true := decide_eq_true (by omega)
        clear c4
        by_cases c5 : ((rd_T41 t138 0).f0).toList = ([120] : List UInt8)
        · rw [if_pos c5] at H
          have c5b0 : (((rd_T41 t138 0).f0).toList == ([120] : List UInt8)) = true := beq_iff_eq.mpr c5
          have c5b1 : (((rd_T41 t138 0).f0).toList != ([120] : List UInt8)) = false := bne_eq_false_iff_eq.mpr c5
          clear c5
          obtain rfl := Option.some.inj H
          go_enter Try.func12, Try.ntmps12
          go_wp2_with (first | ((with_reducible refine gate_dst (N := 8) rfl ?_); (try (refine gate_guard (by rfl) ?_; dsimp only)); refine Kd.R_lit k39 _ 39 ?hg (N := 8) ?hd (xs := ([(⟨1, 1, (⟨#[]⟩ : ByteArray), false, (⟨#[]⟩ : ByteArray)⟩ : S39), (⟨2, 1, (⟨#[120]⟩ : ByteArray), false, (⟨#[]⟩ : ByteArray)⟩ : S39), (⟨3, 1, (⟨#[120]⟩ : ByteArray), true, (⟨#[97]⟩ : ByteArray)⟩ : S39), (⟨5, 1, (⟨#[]⟩ : ByteArray), false, (⟨#[]⟩ : ByteArray)⟩ : S39)] : List (S39))) (inner := [.int .i64 1, .int .i64 1, .string (⟨#[]⟩ : ByteArray), .bool false, .string (⟨#[]⟩ : ByteArray), .int .i64 2, .int .i64 1, .string (⟨#[120]⟩ : ByteArray), .bool false, .string (⟨#[]⟩ : ByteArray), .int .i64 3, .int .i64 1, .string (⟨#[120]⟩ : ByteArray), .bool true, .string (⟨#[97]⟩ : ByteArray), .int .i64 5, .int .i64 1, .string (⟨#[]⟩ : ByteArray), .bool false, .string (⟨#[]⟩ : ByteArray)]) (ok := fun _ => True) (okp := fun _ => True) ?hr ?hp (fun _ hk => hk) trivial (Below.refl _ _) (Nat.le_refl _) (by simp) ?_; (case hd => rfl); (case hg => rfl); (case hr => first | (go_simp; done) | (go_simp; rfl)); (case hp => exact (Reps.c5 (show Kd.M k39 _ _ _ (⟨1, 1, (⟨#[]⟩ : ByteArray), false, (⟨#[]⟩ : ByteArray)⟩ : S39) [.int .i64 1, .int .i64 1, .string (⟨#[]⟩ : ByteArray), .bool false, .string (⟨#[]⟩ : ByteArray)] from (k39_mkM _ _ _ (⟨1, 1, (⟨#[]⟩ : ByteArray), false, (⟨#[]⟩ : ByteArray)⟩ : S39) )) (Reps.c5 (show Kd.M k39 _ _ _ (⟨2, 1, (⟨#[120]⟩ : ByteArray), false, (⟨#[]⟩ : ByteArray)⟩ : S39) [.int .i64 2, .int .i64 1, .string (⟨#[120]⟩ : ByteArray), .bool false, .string (⟨#[]⟩ : ByteArray)] from (k39_mkM _ _ _ (⟨2, 1, (⟨#[120]⟩ : ByteArray), false, (⟨#[]⟩ : ByteArray)⟩ : S39) )) (Reps.c5 (show Kd.M k39 _ _ _ (⟨3, 1, (⟨#[120]⟩ : ByteArray), true, (⟨#[97]⟩ : ByteArray)⟩ : S39) [.int .i64 3, .int .i64 1, .string (⟨#[120]⟩ : ByteArray), .bool true, .string (⟨#[97]⟩ : ByteArray)] from (k39_mkM _ _ _ (⟨3, 1, (⟨#[120]⟩ : ByteArray), true, (⟨#[97]⟩ : ByteArray)⟩ : S39) )) (Reps.c5 (show Kd.M k39 _ _ _ (⟨5, 1, (⟨#[]⟩ : ByteArray), false, (⟨#[]⟩ : ByteArray)⟩ : S39) [.int .i64 5, .int .i64 1, .string (⟨#[]⟩ : ByteArray), .bool false, .string (⟨#[]⟩ : ByteArray)] from (k39_mkM _ _ _ (⟨5, 1, (⟨#[]⟩ : ByteArray), false, (⟨#[]⟩ : ByteArray)⟩ : S39) )) (Reps.none _ _)))))); intro v136 w6 ho7 hb hg_ hnew_; clear hg_ hnew_; (first | rw [← Ny135.out] at ho7 | (simp only [Int.reduceToNat] at ho7; rw [← Ny135.out] at ho7)); have n0_ := Aside0.mk (Kd.R_lower ho7 (below_size (by repeat (first | (with_reducible first | exact HB.out | apply below_alloc | apply pw_below_drewN | apply below_drew1) | exact HB.out)))); have n1_ := Aside0.mk (below_step (by repeat (first | (with_reducible first | exact HB.out | apply below_alloc | apply pw_below_drewN | apply below_drew1) | exact HB.out)) hb); clear HB; have HO137 := n0_; have HB := n1_; clear n0_ n1_; clear hb ho7; obtain ⟨Ao8, co8, eo8⟩ := Kd.R_slice HO137.out; subst eo8) | ((with_reducible refine gate_callee (f := 14) rfl ?_); refine goesL_ (some 9) rfl rfl Try.func14 (by kernel_rfl) rfl #[.slice none 0 0, .slice Ao8 y135.length co8] rfl (by (try simp only [List.map_toArray, List.map_cons, List.map_nil]); first | done | rfl | (simp only [List.length_drop, List.length_take]; rfl)) ?_; (refine (journal_State.calls _ _ ([] : List (S41)) _ _ y135 t138 t139 _ ?side1 ?side2 ?side3 ?side4 A1.out).mono ?_); (case side1 => exact Kd.C_nil _ _); (case side2 => exact Nat.le_refl _); (case side3 => repeat (first | exact (Kd.R_reads' HO137.out).2.2 | (with_reducible refine Kd.C_alloc ?_ _) | (with_reducible refine Kd.C_drewN ?_ _) | (with_reducible refine Kd.C_drew ?_))); (case side4 => exact (Kd.R_reads' HO137.out).2.1); rintro e w9 ⟨v140, rfl, ho0, hb⟩; refine ⟨_, rfl, ?_⟩; have n0_ := Aside0.mk (Kd.R_below (by (with_reducible repeat (first | apply Kd.R_alloc | apply Kd.R_drewN | apply Kd.R_drew)); exact HO137.out) hb); have n1_ := Aside0.mk (Kd.R_lower ho0 (below_size (by repeat (first | (with_reducible first | exact HB.out | apply below_alloc | apply pw_below_drewN | apply below_drew1) | exact HB.out)))); have n2_ := Aside0.mk (below_step (by repeat (first | (with_reducible first | exact HB.out | apply below_alloc | apply pw_below_drewN | apply below_drew1) | exact HB.out)) hb); clear HO137; clear HB; have HO137 := n0_; have HO141 := n1_; have HB := n2_; clear n0_ n1_ n2_; (try clear hb); (try clear hb2); (try clear hk); (try clear hi); (try clear ho0); obtain ⟨Ao10, co10, eo10⟩ := Kd.R_slice HO141.out; subst eo10; have p142 : 0 ≤ (0 : Int) := (by omega); have q142 : 0 < (t138.length : Int) := of_decide_eq_true (by first | (with_reducible assumption) | assumption); obtain ⟨ad142, e142, hx142_0, hx142_1, hx142_2⟩ := at_T41 (Kd.R_reads' HO141.out).2.2 0 p142 q142; cases e142; have qi142 : (0 < t138.length) = True := eq_true (by omega); (try rw [show ((0 : Int)).toNat = 0 from rfl] at hx142_0); (try rw [show 0 * 3 = 0 from rfl] at hx142_0); (try rw [Addr.add_zero'] at hx142_0); (try rw [show ((0 : Int)).toNat = 0 from rfl] at hx142_1); (try rw [show 0 * 3 = 0 from rfl] at hx142_1); (try rw [Addr.add_zero'] at hx142_1); (try rw [show ((0 : Int)).toNat = 0 from rfl] at hx142_2); (try rw [show 0 * 3 = 0 from rfl] at hx142_2); (try rw [Addr.add_zero'] at hx142_2); replace p142 := eq_true p142; replace q142 := eq_true q142; have p143 : 0 ≤ (0 : Int) := (by omega); have q143 : 0 < (t138.length : Int) := of_decide_eq_true (by first | (with_reducible assumption) | assumption); obtain ⟨ad143, e143, hx143_0, hx143_1, hx143_2⟩ := at_T41 (Kd.R_reads' HO141.out).2.2 0 p143 q143; obtain rfl : ad142 = ad143 := (by injection e143); have qi143 : (0 < t138.length) = True := eq_true (by omega); (try rw [show ((0 : Int)).toNat = 0 from rfl] at hx143_0); (try rw [show 0 * 3 = 0 from rfl] at hx143_0); (try rw [Addr.add_zero'] at hx143_0); (try rw [show ((0 : Int)).toNat = 0 from rfl] at hx143_1); (try rw [show 0 * 3 = 0 from rfl] at hx143_1); (try rw [Addr.add_zero'] at hx143_1); (try rw [show ((0 : Int)).toNat = 0 from rfl] at hx143_2); (try rw [show 0 * 3 = 0 from rfl] at hx143_2); (try rw [Addr.add_zero'] at hx143_2); replace p143 := eq_true p143; replace q143 := eq_true q143))
          go_ret
          exact ⟨by first | rfl | (simp [errW_none, errW_some] <;> rfl) | (simp [*, errW_none, errW_some] <;> rfl), by repeat (first | (with_reducible first | exact HB.out | apply below_alloc | apply pw_below_drewN | apply below_drew1) | exact HB.out)⟩
        · rw [if_neg c5] at H
          have c5b0 : (((rd_T41 t138 0).f0).toList == ([120] : List UInt8)) = false := beq_eq_false_iff_ne.mpr c5
          have c5b1 : (((rd_T41 t138 0).f0).toList != ([120] : List UInt8)) = true := bne_iff_ne.mpr c5
          obtain rfl := Option.some.inj H
          go_enter Try.func12, Try.ntmps12
          go_wp2_with (first | ((with_reducible refine gate_dst (N := 8) rfl ?_); (try (refine gate_guard (by rfl) ?_; dsimp only)); refine Kd.R_lit k39 _ 39 ?hg (N := 8) ?hd (xs := ([(⟨1, 1, (⟨#[]⟩ : ByteArray), false, (⟨#[]⟩ : ByteArray)⟩ : S39), (⟨2, 1, (⟨#[120]⟩ : ByteArray), false, (⟨#[]⟩ : ByteArray)⟩ : S39), (⟨3, 1, (⟨#[120]⟩ : ByteArray), true, (⟨#[97]⟩ : ByteArray)⟩ : S39), (⟨5, 1, (⟨#[]⟩ : ByteArray), false, (⟨#[]⟩ : ByteArray)⟩ : S39)] : List (S39))) (inner := [.int .i64 1, .int .i64 1, .string (⟨#[]⟩ : ByteArray), .bool false, .string (⟨#[]⟩ : ByteArray), .int .i64 2, .int .i64 1, .string (⟨#[120]⟩ : ByteArray), .bool false, .string (⟨#[]⟩ : ByteArray), .int .i64 3, .int .i64 1, .string (⟨#[120]⟩ : ByteArray), .bool true, .string (⟨#[97]⟩ : ByteArray), .int .i64 5, .int .i64 1, .string (⟨#[]⟩ : ByteArray), .bool false, .string (⟨#[]⟩ : ByteArray)]) (ok := fun _ => True) (okp := fun _ => True) ?hr ?hp (fun _ hk => hk) trivial (Below.refl _ _) (Nat.le_refl _) (by simp) ?_; (case hd => rfl); (case hg => rfl); (case hr => first | (go_simp; done) | (go_simp; rfl)); (case hp => exact (Reps.c5 (show Kd.M k39 _ _ _ (⟨1, 1, (⟨#[]⟩ : ByteArray), false, (⟨#[]⟩ : ByteArray)⟩ : S39) [.int .i64 1, .int .i64 1, .string (⟨#[]⟩ : ByteArray), .bool false, .string (⟨#[]⟩ : ByteArray)] from (k39_mkM _ _ _ (⟨1, 1, (⟨#[]⟩ : ByteArray), false, (⟨#[]⟩ : ByteArray)⟩ : S39) )) (Reps.c5 (show Kd.M k39 _ _ _ (⟨2, 1, (⟨#[120]⟩ : ByteArray), false, (⟨#[]⟩ : ByteArray)⟩ : S39) [.int .i64 2, .int .i64 1, .string (⟨#[120]⟩ : ByteArray), .bool false, .string (⟨#[]⟩ : ByteArray)] from (k39_mkM _ _ _ (⟨2, 1, (⟨#[120]⟩ : ByteArray), false, (⟨#[]⟩ : ByteArray)⟩ : S39) )) (Reps.c5 (show Kd.M k39 _ _ _ (⟨3, 1, (⟨#[120]⟩ : ByteArray), true, (⟨#[97]⟩ : ByteArray)⟩ : S39) [.int .i64 3, .int .i64 1, .string (⟨#[120]⟩ : ByteArray), .bool true, .string (⟨#[97]⟩ : ByteArray)] from (k39_mkM _ _ _ (⟨3, 1, (⟨#[120]⟩ : ByteArray), true, (⟨#[97]⟩ : ByteArray)⟩ : S39) )) (Reps.c5 (show Kd.M k39 _ _ _ (⟨5, 1, (⟨#[]⟩ : ByteArray), false, (⟨#[]⟩ : ByteArray)⟩ : S39) [.int .i64 5, .int .i64 1, .string (⟨#[]⟩ : ByteArray), .bool false, .string (⟨#[]⟩ : ByteArray)] from (k39_mkM _ _ _ (⟨5, 1, (⟨#[]⟩ : ByteArray), false, (⟨#[]⟩ : ByteArray)⟩ : S39) )) (Reps.none _ _)))))); intro v136 w11 ho12 hb hg_ hnew_; clear hg_ hnew_; (first | rw [← Ny135.out] at ho12 | (simp only [Int.reduceToNat] at ho12; rw [← Ny135.out] at ho12)); have n0_ := Aside0.mk (Kd.R_lower ho12 (below_size (by repeat (first | (with_reducible first | exact HB.out | apply below_alloc | apply pw_below_drewN | apply below_drew1) | exact HB.out)))); have n1_ := Aside0.mk (below_step (by repeat (first | (with_reducible first | exact HB.out | apply below_alloc | apply pw_below_drewN | apply below_drew1) | exact HB.out)) hb); clear HB; have HO137 := n0_; have HB := n1_; clear n0_ n1_; clear hb ho12; obtain ⟨Ao13, co13, eo13⟩ := Kd.R_slice HO137.out; subst eo13) | ((with_reducible refine gate_callee (f := 14) rfl ?_); refine goesL_ (some 9) rfl rfl Try.func14 (by kernel_rfl) rfl #[.slice none 0 0, .slice Ao13 y135.length co13] rfl (by (try simp only [List.map_toArray, List.map_cons, List.map_nil]); first | done | rfl | (simp only [List.length_drop, List.length_take]; rfl)) ?_; (refine (journal_State.calls _ _ ([] : List (S41)) _ _ y135 t138 t139 _ ?side1 ?side2 ?side3 ?side4 A1.out).mono ?_); (case side1 => exact Kd.C_nil _ _); (case side2 => exact Nat.le_refl _); (case side3 => repeat (first | exact (Kd.R_reads' HO137.out).2.2 | (with_reducible refine Kd.C_alloc ?_ _) | (with_reducible refine Kd.C_drewN ?_ _) | (with_reducible refine Kd.C_drew ?_))); (case side4 => exact (Kd.R_reads' HO137.out).2.1); rintro e w14 ⟨v140, rfl, ho0, hb⟩; refine ⟨_, rfl, ?_⟩; have n0_ := Aside0.mk (Kd.R_below (by (with_reducible repeat (first | apply Kd.R_alloc | apply Kd.R_drewN | apply Kd.R_drew)); exact HO137.out) hb); have n1_ := Aside0.mk (Kd.R_lower ho0 (below_size (by repeat (first | (with_reducible first | exact HB.out | apply below_alloc | apply pw_below_drewN | apply below_drew1) | exact HB.out)))); have n2_ := Aside0.mk (below_step (by repeat (first | (with_reducible first | exact HB.out | apply below_alloc | apply pw_below_drewN | apply below_drew1) | exact HB.out)) hb); clear HO137; clear HB; have HO137 := n0_; have HO141 := n1_; have HB := n2_; clear n0_ n1_ n2_; (try clear hb); (try clear hb2); (try clear hk); (try clear hi); (try clear ho0); obtain ⟨Ao15, co15, eo15⟩ := Kd.R_slice HO141.out; subst eo15; have p142 : 0 ≤ (0 : Int) := (by omega); have q142 : 0 < (t138.length : Int) := of_decide_eq_true (by first | (with_reducible assumption) | assumption); obtain ⟨ad142, e142, hx142_0, hx142_1, hx142_2⟩ := at_T41 (Kd.R_reads' HO141.out).2.2 0 p142 q142; cases e142; have qi142 : (0 < t138.length) = True := eq_true (by omega); (try rw [show ((0 : Int)).toNat = 0 from rfl] at hx142_0); (try rw [show 0 * 3 = 0 from rfl] at hx142_0); (try rw [Addr.add_zero'] at hx142_0); (try rw [show ((0 : Int)).toNat = 0 from rfl] at hx142_1); (try rw [show 0 * 3 = 0 from rfl] at hx142_1); (try rw [Addr.add_zero'] at hx142_1); (try rw [show ((0 : Int)).toNat = 0 from rfl] at hx142_2); (try rw [show 0 * 3 = 0 from rfl] at hx142_2); (try rw [Addr.add_zero'] at hx142_2); replace p142 := eq_true p142; replace q142 := eq_true q142))
          go_ret
          exact ⟨by first | rfl | (simp [errW_none, errW_some] <;> rfl) | (simp [*, errW_none, errW_some] <;> rfl), by repeat (first | (with_reducible first | exact HB.out | apply below_alloc | apply pw_below_drewN | apply below_drew1) | exact HB.out)⟩
      · rw [if_neg c4] at H
        exact absurd H (by simp)
    · rw [if_neg c3] at H
      have c3b0 : ((t138.length : Int) == 1) = false := beq_eq_false_iff_ne.mpr c3
      have c3b1 : ((t138.length : Int) != 1) = true := bne_iff_ne.mpr c3
      obtain rfl := Option.some.inj H
      go_enter Try.func12, Try.ntmps12
      go_wp2_with (first | ((with_reducible refine gate_dst (N := 8) rfl ?_); (try (refine gate_guard (by rfl) ?_; dsimp only)); refine Kd.R_lit k39 _ 39 ?hg (N := 8) ?hd (xs := ([(⟨1, 1, (⟨#[]⟩ : ByteArray), false, (⟨#[]⟩ : ByteArray)⟩ : S39), (⟨2, 1, (⟨#[120]⟩ : ByteArray), false, (⟨#[]⟩ : ByteArray)⟩ : S39), (⟨3, 1, (⟨#[120]⟩ : ByteArray), true, (⟨#[97]⟩ : ByteArray)⟩ : S39), (⟨5, 1, (⟨#[]⟩ : ByteArray), false, (⟨#[]⟩ : ByteArray)⟩ : S39)] : List (S39))) (inner := [.int .i64 1, .int .i64 1, .string (⟨#[]⟩ : ByteArray), .bool false, .string (⟨#[]⟩ : ByteArray), .int .i64 2, .int .i64 1, .string (⟨#[120]⟩ : ByteArray), .bool false, .string (⟨#[]⟩ : ByteArray), .int .i64 3, .int .i64 1, .string (⟨#[120]⟩ : ByteArray), .bool true, .string (⟨#[97]⟩ : ByteArray), .int .i64 5, .int .i64 1, .string (⟨#[]⟩ : ByteArray), .bool false, .string (⟨#[]⟩ : ByteArray)]) (ok := fun _ => True) (okp := fun _ => True) ?hr ?hp (fun _ hk => hk) trivial (Below.refl _ _) (Nat.le_refl _) (by simp) ?_; (case hd => rfl); (case hg => rfl); (case hr => first | (go_simp; done) | (go_simp; rfl)); (case hp => exact (Reps.c5 (show Kd.M k39 _ _ _ (⟨1, 1, (⟨#[]⟩ : ByteArray), false, (⟨#[]⟩ : ByteArray)⟩ : S39) [.int .i64 1, .int .i64 1, .string (⟨#[]⟩ : ByteArray), .bool false, .string (⟨#[]⟩ : ByteArray)] from (k39_mkM _ _ _ (⟨1, 1, (⟨#[]⟩ : ByteArray), false, (⟨#[]⟩ : ByteArray)⟩ : S39) )) (Reps.c5 (show Kd.M k39 _ _ _ (⟨2, 1, (⟨#[120]⟩ : ByteArray), false, (⟨#[]⟩ : ByteArray)⟩ : S39) [.int .i64 2, .int .i64 1, .string (⟨#[120]⟩ : ByteArray), .bool false, .string (⟨#[]⟩ : ByteArray)] from (k39_mkM _ _ _ (⟨2, 1, (⟨#[120]⟩ : ByteArray), false, (⟨#[]⟩ : ByteArray)⟩ : S39) )) (Reps.c5 (show Kd.M k39 _ _ _ (⟨3, 1, (⟨#[120]⟩ : ByteArray), true, (⟨#[97]⟩ : ByteArray)⟩ : S39) [.int .i64 3, .int .i64 1, .string (⟨#[120]⟩ : ByteArray), .bool true, .string (⟨#[97]⟩ : ByteArray)] from (k39_mkM _ _ _ (⟨3, 1, (⟨#[120]⟩ : ByteArray), true, (⟨#[97]⟩ : ByteArray)⟩ : S39) )) (Reps.c5 (show Kd.M k39 _ _ _ (⟨5, 1, (⟨#[]⟩ : ByteArray), false, (⟨#[]⟩ : ByteArray)⟩ : S39) [.int .i64 5, .int .i64 1, .string (⟨#[]⟩ : ByteArray), .bool false, .string (⟨#[]⟩ : ByteArray)] from (k39_mkM _ _ _ (⟨5, 1, (⟨#[]⟩ : ByteArray), false, (⟨#[]⟩ : ByteArray)⟩ : S39) )) (Reps.none _ _)))))); intro v136 w16 ho17 hb hg_ hnew_; clear hg_ hnew_; (first | rw [← Ny135.out] at ho17 | (simp only [Int.reduceToNat] at ho17; rw [← Ny135.out] at ho17)); have n0_ := Aside0.mk (Kd.R_lower ho17 (below_size (by repeat (first | (with_reducible first | exact HB.out | apply below_alloc | apply pw_below_drewN | apply below_drew1) | exact HB.out)))); have n1_ := Aside0.mk (below_step (by repeat (first | (with_reducible first | exact HB.out | apply below_alloc | apply pw_below_drewN | apply below_drew1) | exact HB.out)) hb); clear HB; have HO137 := n0_; have HB := n1_; clear n0_ n1_; clear hb ho17; obtain ⟨Ao18, co18, eo18⟩ := Kd.R_slice HO137.out; subst eo18) | ((with_reducible refine gate_callee (f := 14) rfl ?_); refine goesL_ (some 9) rfl rfl Try.func14 (by kernel_rfl) rfl #[.slice none 0 0, .slice Ao18 y135.length co18] rfl (by (try simp only [List.map_toArray, List.map_cons, List.map_nil]); first | done | rfl | (simp only [List.length_drop, List.length_take]; rfl)) ?_; (refine (journal_State.calls _ _ ([] : List (S41)) _ _ y135 t138 t139 _ ?side1 ?side2 ?side3 ?side4 A1.out).mono ?_); (case side1 => exact Kd.C_nil _ _); (case side2 => exact Nat.le_refl _); (case side3 => repeat (first | exact (Kd.R_reads' HO137.out).2.2 | (with_reducible refine Kd.C_alloc ?_ _) | (with_reducible refine Kd.C_drewN ?_ _) | (with_reducible refine Kd.C_drew ?_))); (case side4 => exact (Kd.R_reads' HO137.out).2.1); rintro e w19 ⟨v140, rfl, ho0, hb⟩; refine ⟨_, rfl, ?_⟩; have n0_ := Aside0.mk (Kd.R_below (by (with_reducible repeat (first | apply Kd.R_alloc | apply Kd.R_drewN | apply Kd.R_drew)); exact HO137.out) hb); have n1_ := Aside0.mk (Kd.R_lower ho0 (below_size (by repeat (first | (with_reducible first | exact HB.out | apply below_alloc | apply pw_below_drewN | apply below_drew1) | exact HB.out)))); have n2_ := Aside0.mk (below_step (by repeat (first | (with_reducible first | exact HB.out | apply below_alloc | apply pw_below_drewN | apply below_drew1) | exact HB.out)) hb); clear HO137; clear HB; have HO137 := n0_; have HO141 := n1_; have HB := n2_; clear n0_ n1_ n2_; (try clear hb); (try clear hb2); (try clear hk); (try clear hi); (try clear ho0); obtain ⟨Ao20, co20, eo20⟩ := Kd.R_slice HO141.out; subst eo20))
      go_ret
      exact ⟨by first | rfl | (simp [errW_none, errW_some] <;> rfl) | (simp [*, errW_none, errW_some] <;> rfl), by repeat (first | (with_reducible first | exact HB.out | apply below_alloc | apply pw_below_drewN | apply below_drew1) | exact HB.out)⟩
  · rw [if_neg c2] at H
    have c2b0 : (t139 == 0) = false := beq_eq_false_iff_ne.mpr c2
    have c2b1 : (t139 != 0) = true := bne_iff_ne.mpr c2
    obtain rfl := Option.some.inj H
    go_enter Try.func12, Try.ntmps12
    go_wp2_with (first | ((with_reducible refine gate_dst (N := 8) rfl ?_); (try (refine gate_guard (by rfl) ?_; dsimp only)); refine Kd.R_lit k39 _ 39 ?hg (N := 8) ?hd (xs := ([(⟨1, 1, (⟨#[]⟩ : ByteArray), false, (⟨#[]⟩ : ByteArray)⟩ : S39), (⟨2, 1, (⟨#[120]⟩ : ByteArray), false, (⟨#[]⟩ : ByteArray)⟩ : S39), (⟨3, 1, (⟨#[120]⟩ : ByteArray), true, (⟨#[97]⟩ : ByteArray)⟩ : S39), (⟨5, 1, (⟨#[]⟩ : ByteArray), false, (⟨#[]⟩ : ByteArray)⟩ : S39)] : List (S39))) (inner := [.int .i64 1, .int .i64 1, .string (⟨#[]⟩ : ByteArray), .bool false, .string (⟨#[]⟩ : ByteArray), .int .i64 2, .int .i64 1, .string (⟨#[120]⟩ : ByteArray), .bool false, .string (⟨#[]⟩ : ByteArray), .int .i64 3, .int .i64 1, .string (⟨#[120]⟩ : ByteArray), .bool true, .string (⟨#[97]⟩ : ByteArray), .int .i64 5, .int .i64 1, .string (⟨#[]⟩ : ByteArray), .bool false, .string (⟨#[]⟩ : ByteArray)]) (ok := fun _ => True) (okp := fun _ => True) ?hr ?hp (fun _ hk => hk) trivial (Below.refl _ _) (Nat.le_refl _) (by simp) ?_; (case hd => rfl); (case hg => rfl); (case hr => first | (go_simp; done) | (go_simp; rfl)); (case hp => exact (Reps.c5 (show Kd.M k39 _ _ _ (⟨1, 1, (⟨#[]⟩ : ByteArray), false, (⟨#[]⟩ : ByteArray)⟩ : S39) [.int .i64 1, .int .i64 1, .string (⟨#[]⟩ : ByteArray), .bool false, .string (⟨#[]⟩ : ByteArray)] from (k39_mkM _ _ _ (⟨1, 1, (⟨#[]⟩ : ByteArray), false, (⟨#[]⟩ : ByteArray)⟩ : S39) )) (Reps.c5 (show Kd.M k39 _ _ _ (⟨2, 1, (⟨#[120]⟩ : ByteArray), false, (⟨#[]⟩ : ByteArray)⟩ : S39) [.int .i64 2, .int .i64 1, .string (⟨#[120]⟩ : ByteArray), .bool false, .string (⟨#[]⟩ : ByteArray)] from (k39_mkM _ _ _ (⟨2, 1, (⟨#[120]⟩ : ByteArray), false, (⟨#[]⟩ : ByteArray)⟩ : S39) )) (Reps.c5 (show Kd.M k39 _ _ _ (⟨3, 1, (⟨#[120]⟩ : ByteArray), true, (⟨#[97]⟩ : ByteArray)⟩ : S39) [.int .i64 3, .int .i64 1, .string (⟨#[120]⟩ : ByteArray), .bool true, .string (⟨#[97]⟩ : ByteArray)] from (k39_mkM _ _ _ (⟨3, 1, (⟨#[120]⟩ : ByteArray), true, (⟨#[97]⟩ : ByteArray)⟩ : S39) )) (Reps.c5 (show Kd.M k39 _ _ _ (⟨5, 1, (⟨#[]⟩ : ByteArray), false, (⟨#[]⟩ : ByteArray)⟩ : S39) [.int .i64 5, .int .i64 1, .string (⟨#[]⟩ : ByteArray), .bool false, .string (⟨#[]⟩ : ByteArray)] from (k39_mkM _ _ _ (⟨5, 1, (⟨#[]⟩ : ByteArray), false, (⟨#[]⟩ : ByteArray)⟩ : S39) )) (Reps.none _ _)))))); intro v136 w21 ho22 hb hg_ hnew_; clear hg_ hnew_; (first | rw [← Ny135.out] at ho22 | (simp only [Int.reduceToNat] at ho22; rw [← Ny135.out] at ho22)); have n0_ := Aside0.mk (Kd.R_lower ho22 (below_size (by repeat (first | (with_reducible first | exact HB.out | apply below_alloc | apply pw_below_drewN | apply below_drew1) | exact HB.out)))); have n1_ := Aside0.mk (below_step (by repeat (first | (with_reducible first | exact HB.out | apply below_alloc | apply pw_below_drewN | apply below_drew1) | exact HB.out)) hb); clear HB; have HO137 := n0_; have HB := n1_; clear n0_ n1_; clear hb ho22; obtain ⟨Ao23, co23, eo23⟩ := Kd.R_slice HO137.out; subst eo23) | ((with_reducible refine gate_callee (f := 14) rfl ?_); refine goesL_ (some 9) rfl rfl Try.func14 (by kernel_rfl) rfl #[.slice none 0 0, .slice Ao23 y135.length co23] rfl (by (try simp only [List.map_toArray, List.map_cons, List.map_nil]); first | done | rfl | (simp only [List.length_drop, List.length_take]; rfl)) ?_; (refine (journal_State.calls _ _ ([] : List (S41)) _ _ y135 t138 t139 _ ?side1 ?side2 ?side3 ?side4 A1.out).mono ?_); (case side1 => exact Kd.C_nil _ _); (case side2 => exact Nat.le_refl _); (case side3 => repeat (first | exact (Kd.R_reads' HO137.out).2.2 | (with_reducible refine Kd.C_alloc ?_ _) | (with_reducible refine Kd.C_drewN ?_ _) | (with_reducible refine Kd.C_drew ?_))); (case side4 => exact (Kd.R_reads' HO137.out).2.1); rintro e w24 ⟨v140, rfl, ho0, hb⟩; refine ⟨_, rfl, ?_⟩; have n0_ := Aside0.mk (Kd.R_below (by (with_reducible repeat (first | apply Kd.R_alloc | apply Kd.R_drewN | apply Kd.R_drew)); exact HO137.out) hb); have n1_ := Aside0.mk (Kd.R_lower ho0 (below_size (by repeat (first | (with_reducible first | exact HB.out | apply below_alloc | apply pw_below_drewN | apply below_drew1) | exact HB.out)))); have n2_ := Aside0.mk (below_step (by repeat (first | (with_reducible first | exact HB.out | apply below_alloc | apply pw_below_drewN | apply below_drew1) | exact HB.out)) hb); clear HO137; clear HB; have HO137 := n0_; have HO141 := n1_; have HB := n2_; clear n0_ n1_ n2_; (try clear hb); (try clear hb2); (try clear hk); (try clear hi); (try clear ho0)))
    go_ret
    exact ⟨by first | rfl | (simp [errW_none, errW_some] <;> rfl) | (simp [*, errW_none, errW_some] <;> rfl), by repeat (first | (with_reducible first | exact HB.out | apply below_alloc | apply pw_below_drewN | apply below_drew1) | exact HB.out)⟩

end Go.Proofs.Yteblpjnkinghoaa.J
