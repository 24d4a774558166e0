/- The statement JournalMore: More is that of 25.1. No condition. -/
import Derived.Lib.Builder
import Derived.Shelf.RegionOpenPlain
import Derived.Laws.AppendOwn
import Derived.Deep.SlicePairs
import Derived.Test.YteblpjnkinghoaaRows
import Derived.WalkKit
import Derived.ProofKit
import Derived.OpenShut
import Derived.ShutString
import Derived.ChangeOld
import Derived.Below
import Derived.SizedLaws
import Derived.Test.YteblpjnkinghoaaMorM3
import Derived.Test.YteblpjnkinghoaaMorM1
import Derived.Test.YteblpjnkinghoaaMorM2
set_option linter.unusedVariables false
set_option linter.unusedSimpArgs false
/- What is read of a beginning of bytes is read of the bytes. -/
set_option linter.unusedVariables false
set_option linter.unusedSimpArgs false
namespace Go.Proofs.Yteblpjnkinghoaa.J
open Go.RowKit Go.Proofs.YteblpjnkinghoaaW.PrintWords Go.Proofs.YteblpjnkinghoaaW.PrintLast Go.Proofs.YteblpjnkinghoaaW.PrintMore
/-- p is a beginning of t. -/
structure Pre (p t : ByteArray) : Prop where
  sz : p.size ≤ t.size
  bt_ : ∀ j : Int, 0 ≤ j → j < (p.size : Int) → bt t j = bt p j
  ex : ∀ a b : Int, 0 ≤ a → a ≤ b → b ≤ (p.size : Int) → t.extract a.toNat b.toNat = p.extract a.toNat b.toNat
theorem Pre.of (t : ByteArray) (k : Nat) (hk : k ≤ t.size) : Pre (t.extract 0 k) t where
  sz := by rw [ByteArray.size_extract]; omega
  bt_ := by
    intro j j0 j1
    rw [ByteArray.size_extract] at j1
    have := bt_extract t 0 k j.toNat (by omega) hk
    rw [show ((j.toNat : Nat) : Int) = j by omega, show ((0 + j.toNat : Nat) : Int) = j by omega] at this
    exact this.symm
  ex := by
    intro a b a0 ab hb
    rw [ByteArray.size_extract] at hb
    rw [ByteArray.extract_extract, show 0 + a.toNat = a.toNat by omega, show min (0 + b.toNat) k = b.toNat by omega]
end Go.Proofs.Yteblpjnkinghoaa.J
/- JournalDamage, the plain law. -/
set_option linter.unusedVariables false
set_option linter.unusedSimpArgs false
namespace Go.Proofs.Yteblpjnkinghoaa.J
open Go.RowKit Go.Proofs.YteblpjnkinghoaaW.PrintWords Go.Proofs.YteblpjnkinghoaaW.PrintLast Go.Proofs.YteblpjnkinghoaaW.PrintMore
/-- A place drawn out of a number. -/
theorem place (x : Int) (n : Nat) (h0 : 0 < n) (hn : n ≤ 100000) : ∃ q : Nat, q < n ∧ wrap64 (Int.tmod (IntKind.u64.wrap x) (IntKind.u64.wrap (n : Int))) = (q : Int) := by
  have hw : IntKind.u64.wrap (n : Int) = (n : Int) := by simp [IntKind.wrap, IntKind.bits, IntKind.signed]; omega
  have hx : 0 ≤ IntKind.u64.wrap x := by simp [IntKind.wrap, IntKind.bits, IntKind.signed]; omega
  rw [hw]
  generalize IntKind.u64.wrap x = y at hx
  have h1 : 0 ≤ Int.tmod y n := Int.tmod_nonneg _ hx
  have h2 : Int.tmod y n < n := Int.tmod_lt_of_pos _ (by omega)
  refine ⟨(Int.tmod y n).toNat, by omega, ?_⟩
  unfold wrap64
  omega
end Go.Proofs.Yteblpjnkinghoaa.J
/- What is encoded is decoded. -/
set_option linter.unusedVariables false
set_option linter.unusedSimpArgs false
namespace Go.Proofs.Yteblpjnkinghoaa.J
open Go.RowKit Go.Proofs.YteblpjnkinghoaaW.PrintWords Go.Proofs.YteblpjnkinghoaaW.PrintLast Go.Proofs.YteblpjnkinghoaaW.PrintMore
theorem ext_left (a b : ByteArray) : (a ++ b).extract 0 a.size = a := by
  rw [ByteArray.extract_append]
  apply ByteArray.ext
  simp
theorem ext_right (a b : ByteArray) : (a ++ b).extract a.size (a.size + b.size) = b := by
  rw [ByteArray.extract_append]
  apply ByteArray.ext
  simp
theorem ext_mid (x y z : ByteArray) : ((x ++ y) ++ z).extract x.size (x.size + y.size) = y := by
  have h := (Pre.of ((x ++ y) ++ z) (x ++ y).size (by simp only [ByteArray.size_append]; omega)).ex x.size (x.size + y.size) (by omega) (by omega) (by rw [ext_left, ByteArray.size_append]; omega)
  rw [ext_left, show (x.size + y.size : Int).toNat = x.size + y.size by omega, Int.toNat_natCast] at h
  rw [h, ext_right]
theorem bt_left (a b : ByteArray) (j : Int) (h0 : 0 ≤ j) (h1 : j < (a.size : Int)) : bt (a ++ b) j = bt a j := by
  have h := (Pre.of (a ++ b) a.size (by rw [ByteArray.size_append]; omega)).bt_ j h0 (by rw [ext_left]; exact h1)
  rw [ext_left] at h
  exact h
theorem bt_right (a b : ByteArray) (j : Nat) (h1 : j < b.size) : bt (a ++ b) ((a.size : Int) + j) = bt b j := by
  have h := bt_extract (a ++ b) a.size (a.size + b.size) j (by omega) (by rw [ByteArray.size_append]; omega)
  rw [ext_right] at h
  rw [h]
  push_cast
  rfl
theorem bt_nums (L : List Int) (j : Nat) (x : Int) (h : L[j]? = some x) (h0 : 0 ≤ x) (h1 : x ≤ 255) : bt (strOfNums L) (j : Int) = x := by
  have hj : j < L.length := (List.getElem?_eq_some_iff.1 h).1
  rw [← bt_data _ j (by rw [strOfNums_size]; exact hj), strOfNums_data, List.getD_eq_getElem?_getD, List.getElem?_map, h]
  simp only [Option.map_some, Option.getD_some]
  rw [UInt8.toNat_ofNat']
  omega
theorem strOfNums_app (x y : List Int) : strOfNums (x ++ y) = strOfNums x ++ strOfNums y := by
  apply ByteArray.ext
  apply Array.toList_inj.1
  rw [strOfNums_data, List.map_append, ByteArray.data_append, Array.toList_append, strOfNums_data, strOfNums_data]
/-- The parts of a note's bytes. -/
theorem wr_parts (n : S39) : wr n = ((strOfNums [74, n.f0, n.f1 / 256, n.f1 % 256, (n.f2.size : Int)] ++ n.f2) ++ strOfNums [if n.f3 = true then 1 else 0, (n.f4.size : Int) / 256, (n.f4.size : Int) % 256]) ++ n.f4 := by
  unfold wr wrL
  rw [strOfNums_append, strOfNums_app, strOfNums_append]
theorem wr_bt (n : S39) (hv : vld n = true) : bt (wr n) 0 = 74 ∧ bt (wr n) 1 = n.f0 ∧ bt (wr n) 2 = n.f1 / 256 ∧ bt (wr n) 3 = n.f1 % 256 ∧ bt (wr n) 4 = n.f2.size ∧
    bt (wr n) (5 + n.f2.size) = (if n.f3 = true then 1 else 0) ∧ bt (wr n) (6 + n.f2.size) = (n.f4.size : Int) / 256 ∧ bt (wr n) (7 + n.f2.size) = (n.f4.size : Int) % 256 := by
  have hn := vld_note hv
  have hs := vld_sizes hv
  have hu := vld_unit hv
  have h1 := hn.k1
  have h7 := hn.k7
  have hl := bytesOf_length n.f2
  have at_ : ∀ (j : Nat) (x : Int), ((([74, n.f0, n.f1 / 256, n.f1 % 256, (n.f2.size : Int)] ++ bytesOf n.f2) ++ [if n.f3 = true then 1 else 0, (n.f4.size : Int) / 256, (n.f4.size : Int) % 256]) ++ bytesOf n.f4)[j]? = some x → 0 ≤ x → x ≤ 255 → bt (wr n) (j : Int) = x := fun j x h h0 h1 => bt_nums _ j x h h0 h1
  refine ⟨at_ 0 _ (by simp) (by omega) (by omega), at_ 1 _ (by simp) (by omega) (by omega), at_ 2 _ (by simp) (by omega) (by omega), at_ 3 _ (by simp) (by omega) (by omega), at_ 4 _ (by simp) (by omega) (by omega), ?_, ?_, ?_⟩
  · have := at_ (5 + n.f2.size) (if n.f3 = true then 1 else 0) (by
      rw [List.getElem?_append_left (by simp [hl]; omega), List.getElem?_append_right (by simp [hl]; omega)]
      simp [hl]
      rw [show 5 + n.f2.size - (n.f2.size + 1 + 1 + 1 + 1 + 1) = 0 by omega]
      rfl) (by split <;> omega) (by split <;> omega)
    rw [← this]; push_cast; rfl
  · have := at_ (6 + n.f2.size) ((n.f4.size : Int) / 256) (by
      rw [List.getElem?_append_left (by simp [hl]; omega), List.getElem?_append_right (by simp [hl]; omega)]
      simp [hl]
      rw [show 6 + n.f2.size - (n.f2.size + 1 + 1 + 1 + 1 + 1) = 1 by omega]
      rfl) (by omega) (by omega)
    rw [← this]; push_cast; rfl
  · have := at_ (7 + n.f2.size) ((n.f4.size : Int) % 256) (by
      rw [List.getElem?_append_left (by simp [hl]; omega), List.getElem?_append_right (by simp [hl]; omega)]
      simp [hl]
      rw [show 7 + n.f2.size - (n.f2.size + 1 + 1 + 1 + 1 + 1) = 2 by omega]
      rfl) (by omega) (by omega)
    rw [← this]; push_cast; rfl
theorem lookT_ok (s e : ByteArray) (n : S39) (sum q : Int) (hq : q + 8 ≤ (s.size : Int)) (he : ∀ j : Nat, j < 8 → bt s (q + j) = bt e j) : ∀ m : Nat, m ≤ 8 → lookT s e n sum q m = (n, q + 8, sum, false) := by
  intro m
  induction m with
  | zero => intro _; rfl
  | succ m ih =>
    intro hm
    have h := he (8 - (m + 1)) (by omega)
    rw [show ((8 - (m + 1) : Nat) : Int) = 8 - ((m + 1 : Nat) : Int) by omega] at h
    rw [lookT, if_neg (by omega), if_pos h]
    exact ih (by omega)
/-- look at what was written. -/
theorem look_wr (n : S39) (hv : vld n = true) (last : Int) (rest : ByteArray) : lookF ((wr n ++ eightS (sumF last (wr n))) ++ rest) last = (n, ((wr n).size : Int) + 8, sumF last (wr n), false) := by
  have hn := vld_note hv
  have hs := vld_sizes hv
  have hu := vld_unit hv
  have h1 := hn.k1
  have h7 := hn.k7
  have hsz := wr_size n
  obtain ⟨b0, b1, b2, b3, b4, b5, b6, b7⟩ := wr_bt n hv
  have h8 := eightS_size (sumF last (wr n))
  generalize hsm : sumF last (wr n) = sm at h8 ⊢
  obtain ⟨t, ht⟩ : ∃ t, (wr n ++ eightS sm) ++ rest = t := ⟨_, rfl⟩
  have hts : t.size = (wr n).size + 8 + rest.size := by rw [← ht, ByteArray.size_append, ByteArray.size_append, h8]
  have hbt : ∀ j : Int, 0 ≤ j → j < ((wr n).size : Int) → bt t j = bt (wr n) j := fun j j0 j1 => by
    rw [← ht, ByteArray.append_assoc]
    exact bt_left _ _ j j0 j1
  have hbe : ∀ j : Nat, j < 8 → bt t (((wr n).size : Int) + j) = bt (eightS sm) j := fun j hj => by
    rw [← ht, ByteArray.append_assoc, bt_right _ _ j (by rw [ByteArray.size_append]; omega), bt_left _ _ _ (by omega) (by omega)]
  have hpre : Pre (wr n) t := by
    have := Pre.of t (wr n).size (by omega)
    rw [show t.extract 0 (wr n).size = wr n by rw [← ht, ByteArray.append_assoc]; exact ext_left _ _] at this
    exact this
  rw [ht]
  have x0 : t.extract 0 (8 + (n.f2.size : Int) + (n.f4.size : Int)).toNat = wr n := by
    rw [show (8 + (n.f2.size : Int) + (n.f4.size : Int)).toNat = (wr n).size by omega, ← ht, ByteArray.append_assoc]
    exact ext_left _ _
  have xk : t.extract 5 (5 + (n.f2.size : Int)).toNat = n.f2 := by
    have h := hpre.ex 5 (5 + (n.f2.size : Int)) (by omega) (by omega) (by omega)
    rw [show (5 : Int).toNat = 5 from rfl] at h
    rw [h, wr_parts, ByteArray.append_assoc, show (5 + (n.f2.size : Int)).toNat = (strOfNums [74, n.f0, n.f1 / 256, n.f1 % 256, (n.f2.size : Int)]).size + n.f2.size by rw [strOfNums_size]; simp; omega]
    exact ext_mid _ _ _
  have xt : t.extract (8 + (n.f2.size : Int)).toNat (8 + (n.f2.size : Int) + (n.f4.size : Int)).toNat = n.f4 := by
    have h := hpre.ex (8 + (n.f2.size : Int)) (8 + (n.f2.size : Int) + (n.f4.size : Int)) (by omega) (by omega) (by omega)
    rw [h, wr_parts]
    have := ext_right ((strOfNums [74, n.f0, n.f1 / 256, n.f1 % 256, (n.f2.size : Int)] ++ n.f2) ++ strOfNums [if n.f3 = true then 1 else 0, (n.f4.size : Int) / 256, (n.f4.size : Int) % 256]) n.f4
    rw [ByteArray.size_append, ByteArray.size_append, strOfNums_size, strOfNums_size] at this
    simp only [List.length_cons, List.length_nil] at this
    rw [show (8 + (n.f2.size : Int)).toNat = 0 + 1 + 1 + 1 + 1 + 1 + n.f2.size + (0 + 1 + 1 + 1) by omega, show (8 + (n.f2.size : Int) + (n.f4.size : Int)).toNat = 0 + 1 + 1 + 1 + 1 + 1 + n.f2.size + (0 + 1 + 1 + 1) + n.f4.size by omega]
    exact this
  have hd : decide ((if n.f3 = true then (1 : Int) else 0) = 1) = n.f3 := by cases n.f3 <;> rfl
  have htail : look8 t last n.f0 n.f1 (n.f2.size : Int) (if n.f3 = true then 1 else 0) (n.f4.size : Int) = (n, ((wr n).size : Int) + 8, sm, false) := by
    unfold look8
    rw [x0, hsm, xk, xt, hd]
    have := lookT_ok t (eightS sm) n sm ((wr n).size : Int) (by omega) hbe 8 (Nat.le_refl _)
    rw [show ((wr n).size : Int) = 8 + (n.f2.size : Int) + (n.f4.size : Int) by omega] at this ⊢
    exact this
  unfold lookF
  rw [if_neg (by omega), hbt 0 (by omega) (by omega), b0, if_pos rfl, if_neg (by omega), hbt 1 (by omega) (by omega), b1]
  unfold look1
  rw [if_pos ⟨h1, h7⟩, if_neg (by omega), hbt 2 (by omega) (by omega), b2]
  unfold look2
  rw [if_pos ⟨by omega, fun h => by have := hn.named h; omega⟩, if_neg (by omega), hbt 3 (by omega) (by omega), b3, show n.f1 / 256 * 256 + n.f1 % 256 = n.f1 by omega]
  unfold look3
  have hk6 : n.f0 = 6 ↔ n.f1 = 0 := by
    constructor
    · intro h; exact (hn.named h).1
    · intro h
      by_cases h6 : n.f0 = 6
      · exact h6
      · by_cases h23 : n.f0 = 2 ∨ n.f0 = 3
        · have := hn.imaged h23; omega
        · have := hn.plain h6 h23; omega
  rw [if_pos ⟨hu.2, hk6⟩, if_neg (by omega), hbt 4 (by omega) (by omega), b4]
  unfold look4
  have hk23 : (n.f0 = 2 ∨ n.f0 = 3) ↔ 0 < (n.f2.size : Int) := by
    constructor
    · intro h; have := hn.imaged h; omega
    · intro h
      by_cases h6 : n.f0 = 6
      · have := hn.named h6; omega
      · by_cases h23 : n.f0 = 2 ∨ n.f0 = 3
        · exact h23
        · have := hn.plain h6 h23; omega
  rw [if_pos ⟨by omega, hk23⟩, if_neg (by omega), hbt _ (by omega) (by omega), b5]
  unfold look5
  have hhas : (if n.f3 = true then (1 : Int) else 0) = 0 ∨ (if n.f3 = true then (1 : Int) else 0) = 1 ∧ (n.f0 = 2 ∨ n.f0 = 3) := by
    cases h3 : n.f3 with
    | false => exact Or.inl rfl
    | true =>
      refine Or.inr ⟨rfl, ?_⟩
      by_cases h6 : n.f0 = 6
      · have := (hn.named h6).2.2.1; rw [h3] at this; cases this
      · by_cases h23 : n.f0 = 2 ∨ n.f0 = 3
        · exact h23
        · have := (hn.plain h6 h23).2.2.2.1; rw [h3] at this; cases this
  rw [if_pos hhas]
  have hmost : (n.f4.size : Int) ≤ (if n.f0 = 6 then 40 else if (if n.f3 = true then (1 : Int) else 0) = 1 then 4000 else 0) ∧ (n.f0 = 6 → 0 < (n.f4.size : Int)) := by
    by_cases h6 : n.f0 = 6
    · rw [if_pos h6]; have := hn.named h6; exact ⟨by omega, fun _ => by omega⟩
    · rw [if_neg h6]
      refine ⟨?_, fun h => absurd h h6⟩
      by_cases h23 : n.f0 = 2 ∨ n.f0 = 3
      · have := hn.imaged h23
        cases h3 : n.f3 with
        | false => have := this.2.2.2.2.2 h3; rw [if_neg (show ¬ (if false = true then (1 : Int) else 0) = 1 by decide)]; omega
        | true => rw [if_pos (show (if true = true then (1 : Int) else 0) = 1 by decide)]; omega
      · have := hn.plain h6 h23; rw [this.2.2.2.1, if_neg (show ¬ (if false = true then (1 : Int) else 0) = 1 by decide)]; omega
  generalize (if n.f0 = 6 then (40 : Int) else if (if n.f3 = true then (1 : Int) else 0) = 1 then 4000 else 0) = most at hmost ⊢
  unfold look6
  rw [if_neg (by omega), hbt _ (by omega) (by omega), b6, if_pos (by omega), if_neg (by omega), hbt _ (by omega) (by omega), b7, show (n.f4.size : Int) / 256 * 256 + (n.f4.size : Int) % 256 = (n.f4.size : Int) by omega]
  unfold look7
  rw [if_pos hmost, if_neg (by omega)]
  exact htail
/-- The last sum. -/
def lastS : Int → List S39 → Int
  | s, [] => s
  | s, n :: l => lastS (sumF s (wr n)) l
theorem allB_append (l m : List S39) : ∀ s : Int, allB s (l ++ m) = allB s l ++ allB (lastS s l) m := by
  induction l with
  | nil => intro s; rw [List.nil_append, allB, lastS, empty_append]
  | cons n l ih => intro s; rw [List.cons_append, allB, ih, allB, lastS]; simp only [ByteArray.append_assoc]
theorem rest_append (a b : ByteArray) : Rest (a ++ b) b a.size where
  i0 := by omega
  sz := by rw [ByteArray.size_append]; omega
  bt_ := by
    intro j j0 j1
    have := bt_right a b j.toNat (by omega)
    rw [show ((j.toNat : Nat) : Int) = j by omega] at this
    exact this.symm
  ex := by
    intro x y x0 xy hy
    have h := ext_right a b
    have h2 : ((a ++ b).extract a.size (a.size + b.size)).extract x.toNat y.toNat = (a ++ b).extract (a.size + x.toNat) (min (a.size + y.toNat) (a.size + b.size)) := ByteArray.extract_extract
    rw [h] at h2
    rw [h2, show ((a.size : Int) + x).toNat = a.size + x.toNat by omega, show ((a.size : Int) + y).toNat = min (a.size + y.toNat) (a.size + b.size) by omega]
/-- Decode of what was encoded. -/
theorem dec_enc : ∀ (l : List S39), (∀ n ∈ l, vld n = true) → ∀ (sum : Int) (pre : ByteArray) (m : Nat), (allB sum l).size < m → decGo (pre ++ allB sum l) m pre.size sum = (l, ((pre ++ allB sum l).size : Int), lastS sum l, false, 0) := by
  intro l
  induction l with
  | nil =>
    intro _ sum pre m hm
    obtain ⟨j, rfl⟩ : ∃ j, m = j + 1 := ⟨m - 1, by omega⟩
    rw [allB, append_empty, decGo, if_neg (by omega), lastS]
  | cons n l ih =>
    intro hv sum pre m hm
    obtain ⟨j, rfl⟩ : ∃ j, m = j + 1 := ⟨m - 1, by omega⟩
    have hvn := hv n (by simp)
    have h8 := eightS_size (sumF sum (wr n))
    have hw := wr_size n
    have hsame := look_peek (rest_append pre (allB sum (n :: l))) sum
    rw [show lookF (allB sum (n :: l)) sum = (n, ((wr n).size : Int) + 8, sumF sum (wr n), false) from look_wr n hvn sum _] at hsame
    have hsz : (allB sum (n :: l)).size = (wr n).size + 8 + (allB (sumF sum (wr n)) l).size := by rw [allB, ByteArray.size_append, ByteArray.size_append, h8]
    have hpk : peek (pre ++ allB sum (n :: l)) pre.size sum = .ok n (sumF sum (wr n)) (pre.size + ((wr n).size : Int) + 8) := by
      cases hp : peek (pre ++ allB sum (n :: l)) pre.size sum with
      | torn =>
        rw [hp] at hsame
        obtain ⟨n', h⟩ := hsame
        simp only [Prod.mk.injEq] at h
        omega
      | wrong =>
        rw [hp] at hsame
        obtain ⟨n', h⟩ := hsame
        simp only [Prod.mk.injEq] at h
        omega
      | ok n' sm' fin' =>
        rw [hp] at hsame
        have h : (n, ((wr n).size : Int) + 8, sumF sum (wr n), false) = (n', fin' - (pre.size : Int), sm', false) := hsame
        simp only [Prod.mk.injEq] at h
        obtain ⟨h1, h2, h3, _⟩ := h
        rw [← h1, ← h3, show fin' = pre.size + ((wr n).size : Int) + 8 by omega]
    rw [decGo, if_pos (by rw [ByteArray.size_append]; omega), hpk]
    simp only
    have hpre : pre ++ allB sum (n :: l) = (pre ++ (wr n ++ eightS (sumF sum (wr n)))) ++ allB (sumF sum (wr n)) l := by rw [allB]; simp only [ByteArray.append_assoc]
    have := ih (fun x hx => hv x (by simp [hx])) (sumF sum (wr n)) (pre ++ (wr n ++ eightS (sumF sum (wr n)))) j (by omega)
    rw [← hpre, show ((pre ++ (wr n ++ eightS (sumF sum (wr n)))).size : Int) = pre.size + ((wr n).size : Int) + 8 by rw [ByteArray.size_append, ByteArray.size_append, h8]; push_cast; omega] at this
    rw [this, lastS]
end Go.Proofs.Yteblpjnkinghoaa.J
/- strings.Builder at this program: copyCheck, WriteString, String (after the shelf's own proofs, at this program's numbers). -/
set_option linter.unusedVariables false
set_option linter.unusedSimpArgs false
namespace Go.Proofs.Yteblpjnkinghoaa.J
open Go.RowKit Go.Proofs.YteblpjnkinghoaaW.PrintWords Go.Proofs.YteblpjnkinghoaaW.PrintLast Go.Proofs.YteblpjnkinghoaaW.PrintMore
theorem bsize : (Try.prog.info? 104).map (·.size) = some 2 := by kernel_rfl
theorem blies : liesAt Try.prog Try.prog.depth 104 (2 / Try.prog.cellsOf 104) 0 104 1 = true := by kernel_rfl
theorem bbyte : (Try.prog.info? 5).map (fun i => (i.zero, i.size, i.bytes)) = some (some (.int .u8 0), 1, 1) := by kernel_rfl
theorem bcells : Try.prog.cellsOf 5 = 1 := by kernel_rfl
set_option maxHeartbeats 1000000 in
set_option maxRecDepth 100000 in
theorem copyCheck_used (b : Nat) (w : World) (h0 : w.cell? ⟨b, 0, none⟩ = some (.pointer (some ⟨b, 0, none⟩))) :
    Calls Try.prog 89 #[.pointer (some ⟨b, 0, none⟩)] w fun e w' => e = .returned (.tuple #[]) ∧ w' = w := by
  obtain ⟨j, hj, _⟩ := Option.map_eq_some_iff.1 bsize
  go_enter Try.func89, Try.ntmps89
  go_wp2
  rw [Lib.run_neq_ptr_same w _ Try.underlying102 hj]
  go_wp2
  go_end0
  exact ⟨rfl, rfl⟩
set_option maxHeartbeats 1000000 in
set_option maxRecDepth 100000 in
theorem copyCheck_fresh (b : Nat) (w : World) (h0 : w.cell? ⟨b, 0, none⟩ = some (.pointer none)) (hsh : w.shape? b = some (104, 2)) (hfz : w.frozen? ⟨b, 0, none⟩ = false) :
    Calls Try.prog 89 #[.pointer (some ⟨b, 0, none⟩)] w fun e w' => e = .returned (.tuple #[]) ∧ w' = w.setCell ⟨b, 0, none⟩ (.pointer (some ⟨b, 0, none⟩)) := by
  obtain ⟨j, hj, hjs⟩ := Option.map_eq_some_iff.1 bsize
  go_enter Try.func89, Try.ntmps89
  go_wp2
  rw [Lib.run_to_unsafe w ⟨b, 0, none⟩ Try.underlying102 Try.underlying129 hj (by rw [hjs]; decide) hsh (Nat.zero_lt_succ 1)]
  simp only [Result.andThen]
  rw [Oper.upon_value]
  go_wp2
  rw [run_callFunc_extern Try.func94 (by kernel_rfl) (by kernel_rfl) (by kernel_rfl) (e := Extern.AbiNoEscape.same) (by kernel_rfl)]
  rw [Lib.run_noEscape]
  simp only [Result.andThen]
  rw [Oper.upon_value]
  go_wp2
  rw [Lib.run_from_unsafe w ⟨b, 0, none⟩ Try.underlying129 Try.underlying102 hj hsh blies]
  simp only [Result.andThen]
  rw [Oper.upon_value]
  go_wp2
  go_end0
  exact ⟨rfl, rfl⟩
theorem copyCheck_calls (B b : Nat) (bs : List Value) (w : World) (h : Lib.IsBuilder 104 5 B b bs w) :
    Calls Try.prog 89 #[.pointer (some ⟨b, 0, none⟩)] w fun e w' => e = .returned (.tuple #[]) ∧ (Lib.BuilderAt 104 5 B b (.pointer (some ⟨b, 0, none⟩)) bs w' ∧ Below B w w') := by
  rcases h with h | h
  · refine (copyCheck_fresh b w h.cell0 h.shape h.frozen0).mono ?_
    rintro e w' ⟨rfl, rfl⟩
    exact ⟨rfl, h.used _, (Below.refl B w).setCell (p := ⟨b, 0, none⟩) h.1 _⟩
  · refine (copyCheck_used b w h.cell0).mono ?_
    rintro e w' ⟨rfl, rfl⟩
    exact ⟨rfl, h, Below.refl B _⟩
set_option maxHeartbeats 2000000 in
set_option maxRecDepth 100000 in
theorem WriteString_calls (B b : Nat) (bs : List Value) (s : ByteArray) (w : World) (h : Lib.IsBuilder 104 5 B b bs w) (hlen : bs.length + s.size ≤ 140737488355328) (hBw : B ≤ w.heap.size) :
    Calls Try.prog 81 #[.pointer (some ⟨b, 0, none⟩), .string s] w fun e w' => e = .returned (.tuple #[.int .i64 s.size, .nilIface]) ∧ (Lib.BuilderAt 104 5 B b (.pointer (some ⟨b, 0, none⟩)) (bs ++ Lib.strCells s) w' ∧ Below B w w') := by
  obtain ⟨i0, hi, hz0, hz1, hz2⟩ := info_parts bbyte
  go_enter Try.func81, Try.ntmps81
  go_wp2_with (go_at_call 89; refine (copyCheck_calls B b bs _ h).mono ?_)
  rintro e w1 ⟨rfl, h1, hb1⟩
  obtain ⟨hB, v, hbk, hown, hne⟩ := h1
  have c0 : w1.cell? ⟨b, 0, none⟩ = some (.pointer (some ⟨b, 0, none⟩)) := by rw [Lib.cell_of_heap hbk]; rfl
  have c1 : w1.cell? ⟨b, 1, none⟩ = some v := by rw [Lib.cell_of_heap hbk]; rfl
  go_wp2_with (at_builtin; refine Lib.wpList_append_own_string _ rfl _ _ 53 9 rfl B 5 i0 Try.underlying53 Try.underlying9 hi hz0 hz1 hz2 _ _ _ rfl hown s rfl ?c3 ?c4 ?c5 ?_)
  case c3 => unfold maxLen; omega
  case c4 => omega
  case c5 => have := hb1.size; omega
  intro v' w2 hown' hgrow _
  have hlt : b < w1.heap.size := by
    rcases Nat.lt_or_ge b w1.heap.size with h' | h'
    · exact h'
    · simp [Array.getElem?_eq_none h'] at hbk
  have hb2 : w2.heap[b]? = some (.cells #[.pointer (some ⟨b, 0, none⟩), v] 104 (0, 0)) := by
    rw [hgrow.block b hlt (fun e => hne e.symm)]
    exact hbk
  have d0 : w2.cell? ⟨b, 0, none⟩ = some (.pointer (some ⟨b, 0, none⟩)) := by rw [Lib.cell_of_heap hb2]; rfl
  have d1 : w2.cell? ⟨b, 1, none⟩ = some v := by rw [Lib.cell_of_heap hb2]; rfl
  have f1 : w2.frozen? ⟨b, 1, none⟩ = false := Lib.frozen_of_heap hb2 1
  obtain ⟨ao, n', cap, rfl⟩ : ∃ ao n' cap, v' = .slice ao n' cap := by
    rcases hown'.2 with ⟨hv, _⟩ | ⟨g, cap, cur, hv, _⟩
    · exact ⟨_, _, _, hv⟩
    · exact ⟨_, _, _, hv⟩
  go_wp2
  go_ret2
  refine ⟨rfl, ?_, ?_⟩
  · exact Lib.BuilderAt.put (T := 104) (e := 5) hB hb2 (bs' := bs ++ Lib.strCells s) (by simpa [Lib.strCells_length] using hown') (by decide)
  · exact (hb1.grown hgrow (by have := hb1.size; omega) (fun k hk => (hown.lt k hk).1)).setCell (p := ⟨b, 1, none⟩) hB _
set_option maxHeartbeats 1000000 in
set_option maxRecDepth 100000 in
theorem String_calls (B b : Nat) (l : List UInt8) (w : World) (h : Lib.IsBuilder 104 5 B b (Lib.byteCells l) w) (h0 : l ≠ []) :
    Calls Try.prog 82 #[.pointer (some ⟨b, 0, none⟩)] w fun e w' => e = .returned (.string ⟨l.toArray⟩) ∧ Below B w w' := by
  obtain ⟨p, hB, v, hbk, hown, hne⟩ : ∃ p, Lib.BuilderAt 104 5 B b p (Lib.byteCells l) w := by
    rcases h with h | h
    · exact ⟨_, h⟩
    · exact ⟨_, h⟩
  have hl0 : l.length ≠ 0 := by simpa using h0
  rw [Lib.byteCells_length] at hown
  obtain ⟨g, cap, cur, rfl, hbg, hg, hnc, hcm, hcs, htake⟩ : ∃ g cap cur, v = .slice (some ⟨g, 0, none⟩) l.length cap ∧ B ≤ g ∧ w.heap[g]? = some (.cells cur 5 (0, 0)) ∧ l.length ≤ cap ∧ cap ≤ maxLen ∧ cur.size = cap * 1 ∧ cur.toList.take (l.length * 1) = Lib.byteCells l := by
    rcases hown.2 with ⟨_, hz⟩ | ⟨g, cap, cur, hv, r⟩
    · exact absurd hz hl0
    · exact ⟨g, cap, cur, hv, r⟩
  have c1 : w.drew.cell? ⟨b, 1, none⟩ = some (.slice (some ⟨g, 0, none⟩) l.length cap) := by
    have : w.drew.heap[b]? = some (.cells #[p, .slice (some ⟨g, 0, none⟩) l.length cap] 104 (0, 0)) := hbk
    rw [Lib.cell_of_heap this]; rfl
  have hSD : (Builtin.unsafeSliceData_ #[53] 124 #[.slice (some ⟨g, 0, none⟩) l.length cap]).run Try.prog w.drew = .ok (.pointer (some ⟨g, 0, none⟩)) w.drew :=
    Lib.run_unsafeSliceData_row _ _ _ _ _ _ (by omega)
  have hUS : (Builtin.unsafeString_ #[124, 3] 9 #[.pointer (some ⟨g, 0, none⟩), .int .i64 l.length]).run Try.prog w.drew = .ok (.string ⟨l.toArray⟩) (w.drew.freeze ⟨g, 0, none⟩ l.length) := by
    refine Lib.run_unsafeString_row w.drew 124 3 9 5 Try.underlying124 bcells g cur.size (by have hg' : w.drew.heap[g]? = some (.cells cur 5 (0, 0)) := hg; simp [World.shape?, hg']) l h0 (by omega) (by unfold maxLen at hcm; omega) ?_
    intro j x hx
    have := hown.cells (g := g) rfl j (.int .u8 x.toNat) (by simp [Lib.byteCells, hx])
    exact this
  have mixed : Try.prog.follows Departure.mixedOrders = true := by kernel_rfl
  go_enter Try.func82, Try.ntmps82
  go_wp2
  go_region_o
  all_goals (go_wp2; go_ret; exact ⟨rfl, Lib.below_freeze (Below.drew (Below.refl B w)) (p := ⟨g, 0, none⟩) hbg _⟩)
set_option maxHeartbeats 2000000 in
set_option maxRecDepth 100000 in
theorem String_nil_calls (B b : Nat) (p : Value) (w : World) (hbk : w.heap[b]? = some (.cells #[p, .slice none 0 0] 104 (0, 0))) :
    Calls Try.prog 82 #[.pointer (some ⟨b, 0, none⟩)] w fun e w' => e = .returned (.string ⟨#[]⟩) ∧ Below B w w' := by
  have hUS : ∀ (W : World) (q : Option Addr), (Builtin.unsafeString_ #[124, 3] 9 #[.pointer q, .int .i64 0]).run Try.prog W = .ok (.string .empty) W := fun W q => Lib.run_unsafeString_none W _ _ _ q
  have c1 : w.drew.cell? ⟨b, 1, none⟩ = some (.slice none 0 0) := by
    have : w.drew.heap[b]? = some (.cells #[p, .slice none 0 0] 104 (0, 0)) := hbk
    rw [Lib.cell_of_heap this]; rfl
  have hSD : (Builtin.unsafeSliceData_ #[53] 124 #[.slice none 0 0]).run Try.prog w.drew = .ok (.pointer none) w.drew := rfl
  have mixed : Try.prog.follows Departure.mixedOrders = true := by kernel_rfl
  go_enter Try.func82, Try.ntmps82
  go_wp2
  go_region_o
  all_goals (go_wp2; go_ret; exact ⟨rfl, Below.drew (Below.refl B w)⟩)
/-- A builder lies still where what lay is kept. -/
theorem builder_past {B b : Nat} {bs : List Value} {w w' : World} (h : Lib.IsBuilder 104 5 B b bs w) (hb : Below w.heap.size w w') : Lib.IsBuilder 104 5 B b bs w' := by
  have key : ∀ p, Lib.BuilderAt 104 5 B b p bs w → Lib.BuilderAt 104 5 B b p bs w' := by
    rintro p ⟨hB, v, hbk, hown, hne⟩
    refine ⟨hB, v, (hb.block _ (blk_lt hbk)).trans hbk, ?_, hne⟩
    refine ⟨hown.1, ?_⟩
    rcases hown.2 with h | ⟨g, cap, cur, hv, hbg, hg, rest⟩
    · exact Or.inl h
    · exact Or.inr ⟨g, cap, cur, hv, hbg, (hb.block _ (blk_lt hg)).trans hg, rest⟩
  exact h.imp (key _) (key _)
end Go.Proofs.Yteblpjnkinghoaa.J
/- The program's written: the notes' bytes behind a sum. -/
set_option linter.unusedVariables false
set_option linter.unusedSimpArgs false
namespace Go.Proofs.Yteblpjnkinghoaa.J
open Go.RowKit Go.Proofs.YteblpjnkinghoaaW.PrintWords Go.Proofs.YteblpjnkinghoaaW.PrintLast Go.Proofs.YteblpjnkinghoaaW.PrintMore
theorem strCells_append (a b : ByteArray) : Lib.strCells (a ++ b) = Lib.strCells a ++ Lib.strCells b := by
  unfold Lib.strCells
  rw [ByteArray.data_append, Array.toList_append, List.map_append]
set_option maxHeartbeats 8000000 in
set_option maxRecDepth 100000 in
theorem written_calls (last : Int) (A1 : Option Addr) (c1 : Nat) (l1 : List S39) (w : World) (hr1 : Kd.C k39 w A1 l1.length l1) (hv : ∀ n ∈ l1, vld n = true) (hl : l1.length ≤ 1000) :
    Calls Try.prog 61 #[.int .u64 last, .slice A1 l1.length c1] w fun e w' => e = .returned (.string (allB last l1)) ∧ Below w.heap.size w w' := by
  have HR0 := Aside0.mk hr1
  have HV := Aside0.mk hv
  clear hr1 hv
  obtain ⟨r, hr⟩ : ∃ r, allB last l1 = r := ⟨_, rfl⟩
  rw [hr]
  have hI0 : Lib.IsBuilder 104 5 w.heap.size w.heap.size [] (w.alloc (.cells #[.pointer none, .slice none 0 0] 104)) := Lib.fresh_isBuilder 104 5 w
  have hF0 := heap_alloc_new w (.cells #[.pointer none, .slice none 0 0] 104)
  have hB0 : Below w.heap.size w (w.alloc (.cells #[.pointer none, .slice none 0 0] 104)) := (Below.refl _ _).alloc (Nat.le_refl _) _
  have HR := Aside0.mk hr
  clear hr
  go_enter Try.func61, Try.ntmps61
  go_wp2
  generalize w.alloc (.cells #[.pointer none, .slice none 0 0] 104) = w0 at hI0 hF0 hB0 ⊢
  go_loopg [0, 11] (l1.length + 1) (fun kq v0 v11 wk => ∃ (j : Nat) (lst : Int) (acc : ByteArray), v0 = .int .u64 lst ∧ v11 = .int .i64 (j : Int) ∧ j ≤ l1.length ∧ kq = l1.length - j + 1 ∧ Aside0 (acc ++ allB lst (l1.drop j) = r) ∧ Aside0 (acc.size ≤ 10000 * j) ∧ Aside0 (Lib.IsBuilder 104 5 w.heap.size w.heap.size (Lib.strCells acc) wk) ∧ Aside0 (acc.size = 0 → wk.heap[w.heap.size]? = some (.cells #[.pointer none, .slice none 0 0] 104 (0, 0))) ∧ Aside0 (Below w.heap.size w wk))
  case atStart => exact ⟨0, last, ⟨#[]⟩, rfl, rfl, Nat.zero_le _, rfl, ⟨(empty_append _).trans HR.out⟩, ⟨Nat.le_of_eq rfl⟩, ⟨hI0⟩, ⟨fun _ => hF0⟩, ⟨hB0⟩⟩
  case round =>
    clear hI0 hF0 hB0
    obtain ⟨j, lst, acc, rfl, rfl, hj, rfl, HA, HS, HI, HF, HB⟩ := hrel
    by_cases hlt : j < l1.length
    · have hd : decide ((j : Int) < (l1.length : Int)) = true := decide_eq_true (by omega)
      obtain ⟨ad, rfl, h0, h1, h2, h3, h4⟩ := at_T39 (Kd.C_below HR0.out HB.out) (j : Int) (by omega) (by omega)
      rw [Int.toNat_natCast] at h0 h1 h2 h3 h4
      have hm : rd_T39 l1 (j : Int) ∈ l1 := by
        unfold rd_T39
        rw [Int.toNat_natCast, List.getD_eq_getElem?_getD, List.getElem?_eq_getElem hlt]
        exact List.getElem_mem hlt
      have HN := Aside0.mk (HV.out _ hm)
      have HD := Aside0.mk (drop_rd hlt)
      clear hm
      generalize rd_T39 l1 (j : Int) = n at h0 h1 h2 h3 h4 HN HD
      have HA2 := Aside0.mk HA.out
      rw [HD.out] at HA2
      have hvs := vld_sizes HN.out
      have hws := wr_size n
      have hsz : (J.wr n).size ≤ 1000000 := by omega
      have hlen := HS.out
      have hcl := Lib.strCells_length acc
      have hcl2 := Lib.strCells_length (J.wr n)
      have hB1 : Below wr.heap.size wr (wr.alloc (.cells #[.int .i64 n.f0, .int .i64 n.f1, .string n.f2, .bool n.f3, .string n.f4] 39)) := (Below.refl _ _).alloc (Nat.le_refl _) _
      have hgw := HB.out.size
      go_upto_region 7 with (first | (go_at_call 80; refine (body_note n HN.out _).mono ?_; rintro e w2 ⟨rfl, hb2⟩) | (go_at_call 30; refine (Sum_calls lst (J.wr n) hsz _).mono ?_; rintro e w3 ⟨rfl, hb3⟩))
      have hb3' : Below wr.heap.size wr w3 := below_step (below_step hB1 hb2) hb3
      have hI3 := builder_past HI.out hb3'
      have hg3 := hb3'.size
      generalize hsm : sumF lst (J.wr n) = sm at HA2 ⊢
      have hBB : w.heap.size ≤ w3.heap.size := by omega
      go_upto_region 8 with (go_at_call 81; refine (WriteString_calls w.heap.size w.heap.size _ (J.wr n) _ hI3 (by omega) hBB).mono ?_; rintro e w4 ⟨rfl, hI4, hb4⟩)
      have h8 := eightS_size sm
      have hcl3 := Lib.strCells_length (eightS sm)
      have hg4 := hb4.size
      go_wp2_with (first | (go_at_call 62; refine (eight_calls sm _).mono ?_; rintro e w5 ⟨rfl, hb5⟩; have hI5 := builder_past (Or.inr hI4) hb5; have hg5 := hb5.size) | (go_at_call 81; refine (WriteString_calls w.heap.size w.heap.size _ (eightS sm) _ hI5 (by rw [List.length_append]; omega) (by omega)).mono ?_; rintro e w6 ⟨rfl, hI6, hb6⟩))
      have hBk : Below w.heap.size w w6 := (below_step ((below_step HB.out hb3').trans hb4) hb5).trans hb6
      go_roundg (l1.length - (j + 1) + 1)
      case measure => omega
      case rel =>
        refine ⟨j + 1, sm, (acc ++ J.wr n) ++ eightS sm, rfl, by push_cast; rfl, by omega, rfl, ⟨?_⟩, ⟨?_⟩, ⟨?_⟩, ⟨?_⟩, ⟨hBk⟩⟩
        · have h := HA2.out
          rw [allB, hsm, ← ByteArray.append_assoc, ← ByteArray.append_assoc] at h
          exact h
        · rw [ByteArray.size_append, ByteArray.size_append, h8]; omega
        · rw [strCells_append, strCells_append]
          exact Or.inr hI6
        · intro h
          rw [ByteArray.size_append, ByteArray.size_append, h8] at h
          omega
    · have hd : decide ((j : Int) < (l1.length : Int)) = false := decide_eq_false (by omega)
      have HA3 := HA.out
      rw [show j = l1.length by omega, List.drop_length, allB, append_empty] at HA3
      have HA2 := Aside0.mk HA3
      clear HA3
      by_cases h0 : acc.size = 0
      · have hF := HF.out h0
        go_wp2_with (go_at_call 82; refine (String_nil_calls w.heap.size w.heap.size _ _ hF).mono ?_; rintro e w2 ⟨rfl, hb2⟩)
        go_ret
        have hacc : (⟨#[]⟩ : ByteArray) = r := by
          rw [← HA2.out]
          exact (ByteArray.ext (Array.size_eq_zero_iff.1 h0)).symm
        exact ⟨congrArg (fun x => Ending.returned (Value.string x)) hacc, HB.out.trans hb2⟩
      · have hne : acc.data.toList ≠ [] := fun e => h0 (show acc.data.size = 0 by rw [← Array.length_toList, e]; rfl)
        have hI := HI.out
        go_wp2_with (go_at_call 82; refine (String_calls w.heap.size w.heap.size acc.data.toList _ hI hne).mono ?_; rintro e w2 ⟨rfl, hb2⟩)
        go_ret
        have hacc : (⟨acc.data⟩ : ByteArray) = r := HA2.out
        exact ⟨congrArg (fun x => Ending.returned (Value.string x)) hacc, HB.out.trans hb2⟩
def journal_written.f (a0 : Int) (l1 : List S39) : Option ByteArray := if l1.length ≤ 1000 ∧ l1.all vld = true then some (allB a0 l1) else none
theorem journal_written.calls (a0 : Int) (A1 : Option Addr) (c1 : Nat) (l1 : List (S39)) (r : ByteArray) (w : World) (hr1 : Kd.C k39 w A1 l1.length l1) (hc1 : l1.length ≤ c1) (h : journal_written.f a0 l1 = some r) :
    Calls Try.prog 61 #[.int .u64 a0, .slice A1 l1.length c1] w fun e w' => e = .returned (.string r) ∧ Below w.heap.size w w' := by
  unfold journal_written.f at h
  split at h
  · rename_i hc
    obtain rfl := Option.some.inj h
    exact written_calls a0 A1 c1 l1 w hr1 (fun n hn => List.all_eq_true.1 hc.2 n hn) hc.1
  · cases h
end Go.Proofs.Yteblpjnkinghoaa.J
namespace Go.Proofs.Yteblpjnkinghoaa.J
open Go.RowKit Go.Proofs.YteblpjnkinghoaaW.PrintWords Go.Proofs.YteblpjnkinghoaaW.PrintLast Go.Proofs.YteblpjnkinghoaaW.PrintMore
attribute [local go_sem] max2_int min2_int max_two min_two max_three min_three max_four min_four   -- for this text's walks alone
set_option linter.unusedVariables false
set_option linter.unusedSimpArgs false
/-! ### journal_Encode: function 29 -/
def journal_Encode.f (l0 : List (S39)) : Option (ByteArray × Int) := (journal_valid.f l0).bind fun t213 => (if t213 = true then ((journal_written.f 0 l0).bind fun t214 => (if (t214.size : Int) > 65536 then (some ((⟨#[]⟩ : ByteArray), 3)) else (some (t214, 0)))) else (some ((⟨#[]⟩ : ByteArray), 1)))
set_option maxHeartbeats 8000000 in
set_option maxRecDepth 100000 in
theorem journal_Encode.calls (A0 : Option Addr) (c0 : Nat) (l0 : List (S39)) (r1 : ByteArray) (r2 : Int) (w : World) (hr0 : Kd.C k39 w A0 l0.length l0) (hc0 : l0.length ≤ c0) (h : journal_Encode.f l0 = some (r1, r2)) :
    Calls Try.prog 29 #[.slice A0 l0.length c0] w fun e w' => e = .returned (.tuple #[.string r1, .int .i64 r2]) ∧ Below w.heap.size w w' := by
  have HR0 := Aside0.mk hr0
  have HC0 := Aside0.mk hc0
  clear hr0 hc0
  have HB := Aside0.mk (Below.refl w.heap.size w)
  have H : ((journal_valid.f l0).bind fun t213 => (if t213 = true then ((journal_written.f 0 l0).bind fun t214 => (if (t214.size : Int) > 65536 then (some ((⟨#[]⟩ : ByteArray), 3)) else (some (t214, 0)))) else (some ((⟨#[]⟩ : ByteArray), 1)))) = some (r1, r2) := h
  clear h
  replace H := Option.bind_eq_some_iff.mp H
  obtain ⟨t213, A20, H⟩ := H
  replace H : (if t213 = true then ((journal_written.f 0 l0).bind fun t214 => (if (t214.size : Int) > 65536 then (some ((⟨#[]⟩ : ByteArray), 3)) else (some (t214, 0)))) else (some ((⟨#[]⟩ : ByteArray), 1))) = some (r1, r2) := H
  have A2 := Aside0.mk A20
  clear A20
  by_cases c3 : t213 = true
  · subst c3
    have H1 : ((journal_written.f 0 l0).bind fun t214 => (if (t214.size : Int) > 65536 then (some ((⟨#[]⟩ : ByteArray), 3)) else (some (t214, 0)))) = some (r1, r2) := by rw [if_pos rfl] at H; exact H
    clear H
    have H := H1
    clear H1
    replace H := Option.bind_eq_some_iff.mp H
    obtain ⟨t214, A40, H⟩ := H
    replace H : (if (t214.size : Int) > 65536 then (some ((⟨#[]⟩ : ByteArray), 3)) else (some (t214, 0))) = some (r1, r2) := H
    have A4 := Aside0.mk A40
    clear A40
    by_cases c5 : (t214.size : Int) > 65536
    · rw [if_pos c5] at H
      have c5b0 : decide (65536 < (t214.size : Int)) = true := decide_eq_true c5
      have c5b1 : decide (65536 < t214.size) = true := decide_eq_true (by omega)
      clear c5
      simp only [Option.some.injEq, Prod.mk.injEq] at H
      obtain ⟨rfl, rfl⟩ := H
      go_enter Try.func29, Try.ntmps29
      go_wp2_with (first | ((with_reducible refine gate_callee (f := 60) rfl ?_); refine goesL_ (some 6) rfl rfl Try.func60 (by kernel_rfl) rfl #[.slice A0 l0.length c0] rfl (by (try simp only [List.map_toArray, List.map_cons, List.map_nil]); first | done | rfl | (simp only [List.length_drop, List.length_take]; rfl)) ?_; (with_reducible refine (journal_valid.calls _ _ l0 true _ ?side1 ?side2 A2.out).mono ?_); (case side1 => repeat (first | exact HR0.out | (with_reducible refine Kd.C_alloc ?_ _) | (with_reducible refine Kd.C_drewN ?_ _) | (with_reducible refine Kd.C_drew ?_))); (case side2 => exact HC0.out); rintro e w6 ⟨rfl, hb⟩; refine ⟨_, rfl, ?_⟩; have n0_ := Aside0.mk (below_step (by repeat (first | (with_reducible first | exact HB.out | apply below_alloc | apply pw_below_drewN | apply below_drew1) | exact HB.out)) hb); clear HB; have HB := n0_; clear n0_; (try clear hb); (try clear hb2); (try clear hk); (try clear hi)) | ((with_reducible refine gate_callee (f := 61) rfl ?_); refine goesL_ (some 9) rfl rfl Try.func61 (by kernel_rfl) rfl #[.int .u64 0, .slice A0 l0.length c0] rfl (by (try simp only [List.map_toArray, List.map_cons, List.map_nil]); first | done | rfl | (simp only [List.length_drop, List.length_take]; rfl)) ?_; (with_reducible refine (journal_written.calls 0 _ _ l0 t214 _ ?side1 ?side2 A4.out).mono ?_); (case side1 => repeat (first | exact (Kd.C_below HR0.out HB.out) | (with_reducible refine Kd.C_alloc ?_ _) | (with_reducible refine Kd.C_drewN ?_ _) | (with_reducible refine Kd.C_drew ?_))); (case side2 => exact HC0.out); rintro e w7 ⟨rfl, hb⟩; refine ⟨_, rfl, ?_⟩; have n0_ := Aside0.mk (below_step (by repeat (first | (with_reducible first | exact HB.out | apply below_alloc | apply pw_below_drewN | apply below_drew1) | exact HB.out)) hb); clear HB; have HB := n0_; clear n0_; (try clear hb); (try clear hb2); (try clear hk); (try clear hi)))
      go_ret2
      exact ⟨by first | rfl | (simp [errW_none, errW_some] <;> rfl) | (simp [*, errW_none, errW_some] <;> rfl), by repeat (first | (with_reducible first | exact HB.out | apply below_alloc | apply pw_below_drewN | apply below_drew1) | exact HB.out)⟩
    · rw [if_neg c5] at H
      have c5b0 : decide (65536 < (t214.size : Int)) = false := decide_eq_false c5
      have c5b1 : decide (65536 < t214.size) = false := decide_eq_false (by omega)
      clear c5
      simp only [Option.some.injEq, Prod.mk.injEq] at H
      obtain ⟨rfl, rfl⟩ := H
      go_enter Try.func29, Try.ntmps29
      go_wp2_with (first | ((with_reducible refine gate_callee (f := 60) rfl ?_); refine goesL_ (some 6) rfl rfl Try.func60 (by kernel_rfl) rfl #[.slice A0 l0.length c0] rfl (by (try simp only [List.map_toArray, List.map_cons, List.map_nil]); first | done | rfl | (simp only [List.length_drop, List.length_take]; rfl)) ?_; (with_reducible refine (journal_valid.calls _ _ l0 true _ ?side1 ?side2 A2.out).mono ?_); (case side1 => repeat (first | exact HR0.out | (with_reducible refine Kd.C_alloc ?_ _) | (with_reducible refine Kd.C_drewN ?_ _) | (with_reducible refine Kd.C_drew ?_))); (case side2 => exact HC0.out); rintro e w8 ⟨rfl, hb⟩; refine ⟨_, rfl, ?_⟩; have n0_ := Aside0.mk (below_step (by repeat (first | (with_reducible first | exact HB.out | apply below_alloc | apply pw_below_drewN | apply below_drew1) | exact HB.out)) hb); clear HB; have HB := n0_; clear n0_; (try clear hb); (try clear hb2); (try clear hk); (try clear hi)) | ((with_reducible refine gate_callee (f := 61) rfl ?_); refine goesL_ (some 9) rfl rfl Try.func61 (by kernel_rfl) rfl #[.int .u64 0, .slice A0 l0.length c0] rfl (by (try simp only [List.map_toArray, List.map_cons, List.map_nil]); first | done | rfl | (simp only [List.length_drop, List.length_take]; rfl)) ?_; (with_reducible refine (journal_written.calls 0 _ _ l0 t214 _ ?side1 ?side2 A4.out).mono ?_); (case side1 => repeat (first | exact (Kd.C_below HR0.out HB.out) | (with_reducible refine Kd.C_alloc ?_ _) | (with_reducible refine Kd.C_drewN ?_ _) | (with_reducible refine Kd.C_drew ?_))); (case side2 => exact HC0.out); rintro e w9 ⟨rfl, hb⟩; refine ⟨_, rfl, ?_⟩; have n0_ := Aside0.mk (below_step (by repeat (first | (with_reducible first | exact HB.out | apply below_alloc | apply pw_below_drewN | apply below_drew1) | exact HB.out)) hb); clear HB; have HB := n0_; clear n0_; (try clear hb); (try clear hb2); (try clear hk); (try clear hi)))
      go_ret2
      exact ⟨by first | rfl | (simp [errW_none, errW_some] <;> rfl) | (simp [*, errW_none, errW_some] <;> rfl), by repeat (first | (with_reducible first | exact HB.out | apply below_alloc | apply pw_below_drewN | apply below_drew1) | exact HB.out)⟩
  · replace c3 := Bool.eq_false_iff.mpr c3
    subst c3
    have H1 : (some ((⟨#[]⟩ : ByteArray), 1)) = some (r1, r2) := by rw [if_neg (show ¬ (false = true) by decide)] at H; exact H
    clear H
    have H := H1
    clear H1
    simp only [Option.some.injEq, Prod.mk.injEq] at H
    obtain ⟨rfl, rfl⟩ := H
    go_enter Try.func29, Try.ntmps29
    go_wp2_with (first | ((with_reducible refine gate_callee (f := 60) rfl ?_); refine goesL_ (some 6) rfl rfl Try.func60 (by kernel_rfl) rfl #[.slice A0 l0.length c0] rfl (by (try simp only [List.map_toArray, List.map_cons, List.map_nil]); first | done | rfl | (simp only [List.length_drop, List.length_take]; rfl)) ?_; (with_reducible refine (journal_valid.calls _ _ l0 false _ ?side1 ?side2 A2.out).mono ?_); (case side1 => repeat (first | exact HR0.out | (with_reducible refine Kd.C_alloc ?_ _) | (with_reducible refine Kd.C_drewN ?_ _) | (with_reducible refine Kd.C_drew ?_))); (case side2 => exact HC0.out); rintro e w10 ⟨rfl, hb⟩; refine ⟨_, rfl, ?_⟩; have n0_ := Aside0.mk (below_step (by repeat (first | (with_reducible first | exact HB.out | apply below_alloc | apply pw_below_drewN | apply below_drew1) | exact HB.out)) hb); clear HB; have HB := n0_; clear n0_; (try clear hb); (try clear hb2); (try clear hk); (try clear hi)))
    go_ret2
    exact ⟨by first | rfl | (simp [errW_none, errW_some] <;> rfl) | (simp [*, errW_none, errW_some] <;> rfl), by repeat (first | (with_reducible first | exact HB.out | apply below_alloc | apply pw_below_drewN | apply below_drew1) | exact HB.out)⟩

end Go.Proofs.Yteblpjnkinghoaa.J
/- JournalBytes, the plain law. -/
set_option linter.unusedVariables false
set_option linter.unusedSimpArgs false
namespace Go.Proofs.Yteblpjnkinghoaa.J
open Go.RowKit Go.Proofs.YteblpjnkinghoaaW.PrintWords Go.Proofs.YteblpjnkinghoaaW.PrintLast Go.Proofs.YteblpjnkinghoaaW.PrintMore
theorem enc_prog (l : List S39) : journal_Encode.f l = some (encV l) := by
  unfold journal_Encode.f journal_valid.f encV
  rw [Option.bind_some]
  by_cases h : (decide (l.length ≤ 1000) && l.all vld) = true
  · rw [if_pos h, if_pos h]
    have h2 := h
    rw [Bool.and_eq_true, decide_eq_true_eq] at h2
    unfold journal_written.f
    rw [if_pos h2, Option.bind_some]
    split <;> rfl
  · rw [if_neg h, if_neg h]
theorem encV_ok {l : List S39} (h : (encV l).2 = 0) : (∀ n ∈ l, vld n = true) ∧ (encV l).1 = allB 0 l ∧ (allB 0 l).size ≤ 65536 := by
  unfold encV at h ⊢
  by_cases hc : (decide (l.length ≤ 1000) && l.all vld) = true
  · rw [if_pos hc] at h ⊢
    rw [Bool.and_eq_true] at hc
    by_cases hs : ((allB 0 l).size : Int) > 65536
    · rw [if_pos hs] at h; exact absurd h (by decide)
    · rw [if_neg hs]
      exact ⟨fun n hn => List.all_eq_true.1 hc.2 n hn, rfl, by omega⟩
  · rw [if_neg hc] at h; exact absurd h (by decide)
theorem encV_small (l : List S39) : (encV l).1.size ≤ 65536 := by
  by_cases h : (encV l).2 = 0
  · exact encV_size l h
  · unfold encV at h ⊢
    split
    · rename_i hc
      rw [if_pos hc] at h
      split
      · exact Nat.zero_le _
      · rename_i hs; rw [if_neg hs] at h; exact absurd rfl h
    · exact Nat.zero_le _
end Go.Proofs.Yteblpjnkinghoaa.J
/- The program's More. -/
set_option linter.unusedVariables false
set_option linter.unusedSimpArgs false
namespace Go.Proofs.Yteblpjnkinghoaa.J
open Go.RowKit Go.Proofs.YteblpjnkinghoaaW.PrintWords Go.Proofs.YteblpjnkinghoaaW.PrintLast Go.Proofs.YteblpjnkinghoaaW.PrintMore
attribute [local go_sem] Oper.semAt_some
/-- What More answers. -/
def journal_More.f (a0 : ByteArray) (l1 : List S39) : Option (ByteArray × Int) :=
  if (decide (l1.length ≤ 1000) && l1.all vld) = true then
    (if (a0.size : Int) > 65536 then some (⟨#[]⟩, 3)
     else if (decGo a0 (a0.size + 1) 0 0).2.2.2.2 = 0 then
       (if (decGo a0 (a0.size + 1) 0 0).2.2.2.1 = true then some (⟨#[]⟩, 9)
        else if ((a0 ++ allB (decGo a0 (a0.size + 1) 0 0).2.2.1 l1).size : Int) > 65536 then some (⟨#[]⟩, 3) else some (a0 ++ allB (decGo a0 (a0.size + 1) 0 0).2.2.1 l1, 0))
     else some (⟨#[]⟩, (decGo a0 (a0.size + 1) 0 0).2.2.2.2))
  else some (⟨#[]⟩, 1)
theorem allB_le : ∀ (l : List S39), (∀ n ∈ l, vld n = true) → ∀ s : Int, (allB s l).size ≤ 10000 * l.length := by
  intro l
  induction l with
  | nil => intro _ s; exact Nat.zero_le _
  | cons n l ih =>
    intro hv s
    have h1 := vld_sizes (hv n (by simp))
    have h2 := wr_size n
    have h3 := ih (fun x hx => hv x (by simp [hx])) (sumF s (wr n))
    rw [allB, ByteArray.size_append, ByteArray.size_append, eightS_size, List.length_cons]
    omega
set_option maxHeartbeats 8000000 in
set_option maxRecDepth 100000 in
theorem journal_More.calls (a0 : ByteArray) (A1 : Option Addr) (c1 : Nat) (l1 : List (S39)) (r1 : ByteArray) (r2 : Int) (w : World) (hr1 : Kd.C k39 w A1 l1.length l1) (hc1 : l1.length ≤ c1) (h : journal_More.f a0 l1 = some (r1, r2)) :
    Calls Try.prog 32 #[.string a0, .slice A1 l1.length c1] w fun e w' => e = .returned (.tuple #[.string r1, .int .i64 r2]) ∧ Below w.heap.size w w' := by
  have hnot : ∀ (x : Bool) (w : World), (Op.unary .not (.bool x)).run Try.prog w = .ok (.bool (!x)) w := fun _ _ => rfl
  refine (callsIn_wide (n := 3)).1 ?_
  unfold journal_More.f at h
  refine callsIn_of_wp_marks Try.func32 rfl trivial ?_ rfl
  simp only [Try.ntmps32, List.size_toArray, List.length_cons, List.length_nil, Nat.reduceAdd, Nat.reduceSub, Array.replicate_succ, Array.replicate_zero, List.push_toArray, List.append_toArray, List.nil_append, List.cons_append]
  have HC1 := Aside0.mk hr1
  clear hr1
  by_cases hv : (decide (l1.length ≤ 1000) && l1.all vld) = true
  rotate_left
  · rw [if_neg hv] at h
    simp only [Option.some.injEq, Prod.mk.injEq] at h
    obtain ⟨rfl, rfl⟩ := h
    have hvf : journal_valid.f l1 = some false := by unfold journal_valid.f; rw [Bool.not_eq_true] at hv; rw [hv]
    gi_wp2_with (refine ⟨trivial, ?_⟩; gi_at_call 60; refine callsIn_wide.2 (Calls.mono (journal_valid.calls A1 c1 l1 false _ HC1.out hc1 hvf) ?_); rintro e w3 ⟨rfl, hb3⟩)
    refine ⟨.tuple #[.string ⟨#[]⟩, .int .i64 1], by simp [results, Try.results32, go_sem], rfl, hb3⟩
  · rw [if_pos hv] at h
    have hvt : journal_valid.f l1 = some true := by unfold journal_valid.f; rw [hv]
    by_cases hl : (a0.size : Int) > 65536
    · rw [if_pos hl] at h
      simp only [Option.some.injEq, Prod.mk.injEq] at h
      obtain ⟨rfl, rfl⟩ := h
      have hd : decide ((65536 : Int) < (a0.size : Int)) = true := decide_eq_true hl
      gi_wp2_with (refine ⟨trivial, ?_⟩; gi_at_call 60; refine callsIn_wide.2 (Calls.mono (journal_valid.calls A1 c1 l1 true _ HC1.out hc1 hvt) ?_); rintro e w3 ⟨rfl, hb3⟩)
      refine ⟨.tuple #[.string ⟨#[]⟩, .int .i64 3], by simp [results, Try.results32, go_sem], rfl, hb3⟩
    · rw [if_neg hl] at h
      have hd : decide ((65536 : Int) < (a0.size : Int)) = false := decide_eq_false hl
      have hv2 := hv
      rw [Bool.and_eq_true, decide_eq_true_eq] at hv2
      have HV := Aside0.mk hv2
      clear hv2 hv
      have HH := Aside0.mk h
      clear h
      gi_wp2_with (first | (refine ⟨trivial, ?_⟩; gi_at_call 60; refine callsIn_wide.2 (Calls.mono (journal_valid.calls A1 c1 l1 true _ HC1.out hc1 hvt) ?_); rintro e w3 ⟨rfl, hb3⟩) | (refine ⟨trivial, ?_⟩; gi_at_call 54; refine callsIn_wide.2 (Calls.mono (notes_calls a0 _ _) ?_); rintro e w4 ⟨rfl, rfl⟩))
      clear hvt hd hnot
      have hE1 := heap_alloc_new w3 (.cells #[.int .i64 0, .int .u64 0, .bool false, .int .i64 0] 79)
      have hs2 := heap_alloc_new (w3.alloc (.cells #[.int .i64 0, .int .u64 0, .bool false, .int .i64 0] 79)) (.cells #[.string a0] 9)
      have he3 := heap_alloc_new ((w3.alloc (.cells #[.int .i64 0, .int .u64 0, .bool false, .int .i64 0] 79)).alloc (.cells #[.string a0] 9)) (.cells #[.pointer (some ⟨w3.heap.size, 0, none⟩)] 83)
      have hsz : (((w3.alloc (.cells #[.int .i64 0, .int .u64 0, .bool false, .int .i64 0] 79)).alloc (.cells #[.string a0] 9)).alloc (.cells #[.pointer (some ⟨w3.heap.size, 0, none⟩)] 83)).heap.size = w3.heap.size + 3 := by simp
      have hg3 := hb3.size
      have hb4 := ((hb3.alloc hg3 (.cells #[.int .i64 0, .int .u64 0, .bool false, .int .i64 0] 79)).alloc (by simp; omega) (.cells #[.string a0] 9)).alloc (by simp; omega) (.cells #[.pointer (some ⟨w3.heap.size, 0, none⟩)] 83)
      replace hE1 := blk_alloc (blk_alloc hE1 (.cells #[.string a0] 9)) (.cells #[.pointer (some ⟨w3.heap.size, 0, none⟩)] 83)
      replace hs2 := blk_alloc hs2 (.cells #[.pointer (some ⟨w3.heap.size, 0, none⟩)] 83)
      simp only [World.size_alloc] at hs2 he3
      generalize ((w3.alloc (.cells #[.int .i64 0, .int .u64 0, .bool false, .int .i64 0] 79)).alloc (.cells #[.string a0] 9)).alloc (.cells #[.pointer (some ⟨w3.heap.size, 0, none⟩)] 83) = W0 at hE1 hs2 he3 hsz hb4 ⊢
      have hSt : St w3.heap.size 0 0 false 0 W0 := ⟨(blk_cell hE1 0).trans rfl, (blk_cell hE1 1).trans rfl, (blk_cell hE1 2).trans rfl, (blk_cell hE1 3).trans rfl, blk_frozen hE1 0, blk_frozen hE1 1, blk_frozen hE1 2, blk_frozen hE1 3⟩
      refine wpIn_range (F := Fence.wide) (n := 3) (w := W0) rfl (by omega) (gf := 72) (lb := #[.pointer (some ⟨w3.heap.size + 1, 0, none⟩), .pointer (some ⟨w3.heap.size + 1 + 1, 0, none⟩)]) rfl trivial (Go.Proofs.enters_of Try.func72 (by kernel_rfl) rfl) (fun _ => rfl) (E := w3.heap.size) (by omega)
        (notes1_seq 2 (w3.heap.size + 1) (w3.heap.size + 1 + 1) w3.heap.size a0 0 (by omega) W0 hs2 he3 hSt (by omega) (by omega)) ?hS
        (fun pre W => Below w.heap.size w W) ?hI hb4
        (fun x a' W => True) ?hAx ?assign ?body ?done
      case hS =>
        rintro xs A o ⟨u, sm, tn, e, hst, hd⟩
        exact ⟨u, sm, tn, e, hst.past ((But.refl (fun b => b = W0.heap.size + 1) A).put (Or.inl rfl) o) (by omega), hd⟩
      case hI =>
        rintro pre A B hB hb
        exact hB.trans (hb.below hB.size (fun k hk => by omega))
      case hAx => exact fun _ _ _ _ _ => trivial
      case assign =>
        intro l pre x W K hWs hi hK
        gi_wp2
        exact hK _ _ (Below.refl _ _) trivial
      case body =>
        rintro l pre x a' W hWs hN hB _
        gi_wp2
        exact ⟨⟨Nat.le_refl _, fun k o _ ho _ => ho⟩, Keeps.refl _ _⟩
      case done =>
        rintro xs W ⟨u, sm, tn, e, hst, hdd⟩ hB hD
        have hh := HH.out
        rw [hdd] at hh
        simp only at hh
        have hc1' := hst.c1
        have hc2' := hst.c2
        have hc3' := hst.c3
        have hput : ∀ V : World, Below w.heap.size w V → Below w.heap.size w (V.putObj W0.heap.size (.deferred none)) := fun V hV =>
          hV.trans (((But.refl (fun b => b = W0.heap.size) V).put (Or.inl rfl) (.deferred none)).below hV.size (fun k hk => by omega))
        by_cases he0 : e = 0
        · rw [if_pos he0] at hh
          have d1 : (e != 0) = false := bne_eq_false_iff_eq.mpr he0
          clear he0
          cases tn with
          | true =>
            rw [if_pos rfl] at hh
            simp only [Option.some.injEq, Prod.mk.injEq] at hh
            obtain ⟨rfl, rfl⟩ := hh
            gi_wp2
            refine ⟨by simp, .inl ⟨_, _, rfl, run_takeDeferred hD, ?_⟩⟩
            exact ⟨.tuple #[.string ⟨#[]⟩, .int .i64 9], by simp [results, Try.results32, go_sem], rfl, hput _ hB⟩
          | false =>
            rw [if_neg (by decide)] at hh
            have hvl : ∀ n ∈ l1, vld n = true := fun n hn => List.all_eq_true.1 HV.out.2 n hn
            have hsz2 := allB_le l1 hvl sm
            have hl2 := HV.out.1
            have hh' := Aside0.mk hh
            clear hh
            have hno : (9223372036854775807 < a0.size + (allB sm l1).size) = False := eq_false (by omega)
            gi_wp2_with (refine ⟨trivial, ?_⟩; gi_at_call 61; refine callsIn_wide.2 (Calls.mono (written_calls sm A1 c1 l1 _ (Kd.C_below HC1.out hB) hvl hl2) ?_); rintro e' w5 ⟨rfl, hb5⟩)
            all_goals
              rename_i hle
              have hh := hh'.out
              have hD5 : w5.heap[w3.heap.size + 3]? = some (.deferred (some [])) := by rw [← hsz]; exact (hb5.block _ (blk_lt hD)).trans hD
              have hB5 : Below w.heap.size w (w5.putObj (w3.heap.size + 3) (.deferred none)) := by
                have := hput w5 (below_step hB hb5)
                rw [hsz] at this
                exact this
              refine ⟨by simp, .inl ⟨_, _, rfl, run_takeDeferred hD5, ?_⟩⟩
              first
              | (rw [if_neg (by rw [ByteArray.size_append]; push_cast; omega)] at hh
                 simp only [Option.some.injEq, Prod.mk.injEq] at hh
                 obtain ⟨rfl, rfl⟩ := hh
                 exact ⟨.tuple #[.string (a0 ++ allB sm l1), .int .i64 0], by simp [results, Try.results32, go_sem], rfl, hB5⟩)
              | (rw [if_pos (by rw [ByteArray.size_append]; push_cast; omega)] at hh
                 simp only [Option.some.injEq, Prod.mk.injEq] at hh
                 obtain ⟨rfl, rfl⟩ := hh
                 exact ⟨.tuple #[.string ⟨#[]⟩, .int .i64 3], by simp [results, Try.results32, go_sem], rfl, hB5⟩)
        · rw [if_neg he0] at hh
          simp only [Option.some.injEq, Prod.mk.injEq] at hh
          obtain ⟨rfl, rfl⟩ := hh
          have d1 : (e != 0) = true := bne_iff_ne.mpr he0
          gi_wp2
          refine wpIn_wide.2 ?_
          refine wp_region_noPanic ?_
          have hc3d : W.drew.cell? ⟨w3.heap.size, 3, none⟩ = some (.int .i64 e) := hc3'
          have hDd : W.drew.heap[W0.heap.size]? = some (.deferred (some [])) := hD
          have hBd : Below w.heap.size w W.drew := below_drew hB
          clear HH
          go_region
          all_goals
            refine NoPanic.normal ?_
            gi_wp2
            refine ⟨by simp, .inl ⟨_, _, rfl, run_takeDeferred hDd, ?_⟩⟩
            exact ⟨.tuple #[.string ⟨#[]⟩, .int .i64 e], by simp [results, Try.results32, go_sem], rfl, hput _ hBd⟩
end Go.Proofs.Yteblpjnkinghoaa.J
namespace Go.Proofs.Yteblpjnkinghoaa.J
open Go.RowKit Go.Proofs.YteblpjnkinghoaaW.PrintWords Go.Proofs.YteblpjnkinghoaaW.PrintLast Go.Proofs.YteblpjnkinghoaaW.PrintMore
attribute [local go_sem] max2_int min2_int max_two min_two max_three min_three max_four min_four   -- for this text's walks alone
set_option linter.unusedVariables false
set_option linter.unusedSimpArgs false
/-! ### ringworkref25_More: function 33 -/
def ringworkref25_More.f (k : Nat) (a0 : ByteArray) (l1 : List (S39)) : Option (ByteArray × Int) := (ringworkref25_notes.f k l1).bind fun t250 => (if t250 = true then ((ringworkref25_Decode.f k a0).bind fun bt251 => (if bt251.2.2.2.2 = 0 then (if bt251.2.2.1 = true then (some ((⟨#[]⟩ : ByteArray), 9)) else ((ringworkref25_all.f k bt251.2.2.2.1 l1).bind fun t258 => (if a0.size + t258.size ≤ 9223372036854775807 then (if ((a0 ++ t258).size : Int) > 65536 then (some ((⟨#[]⟩ : ByteArray), 3)) else (some (a0 ++ t258, 0))) else (none)))) else (some ((⟨#[]⟩ : ByteArray), bt251.2.2.2.2)))) else (some ((⟨#[]⟩ : ByteArray), 1)))
set_option maxHeartbeats 8000000 in
set_option maxRecDepth 100000 in
theorem ringworkref25_More.calls (k : Nat) (a0 : ByteArray) (A1 : Option Addr) (c1 : Nat) (l1 : List (S39)) (r1 : ByteArray) (r2 : Int) (w : World) (hr1 : Kd.C k39 w A1 l1.length l1) (hc1 : l1.length ≤ c1) (h : ringworkref25_More.f k a0 l1 = some (r1, r2)) :
    Calls Try.prog 33 #[.string a0, .slice A1 l1.length c1] w fun e w' => e = .returned (.tuple #[.string r1, .int .i64 r2]) ∧ Below w.heap.size w w' := by
  have HR1 := Aside0.mk hr1
  have HC1 := Aside0.mk hc1
  clear hr1 hc1
  have HB := Aside0.mk (Below.refl w.heap.size w)
  have H : ((ringworkref25_notes.f k l1).bind fun t250 => (if t250 = true then ((ringworkref25_Decode.f k a0).bind fun bt251 => (if bt251.2.2.2.2 = 0 then (if bt251.2.2.1 = true then (some ((⟨#[]⟩ : ByteArray), 9)) else ((ringworkref25_all.f k bt251.2.2.2.1 l1).bind fun t258 => (if a0.size + t258.size ≤ 9223372036854775807 then (if ((a0 ++ t258).size : Int) > 65536 then (some ((⟨#[]⟩ : ByteArray), 3)) else (some (a0 ++ t258, 0))) else (none)))) else (some ((⟨#[]⟩ : ByteArray), bt251.2.2.2.2)))) else (some ((⟨#[]⟩ : ByteArray), 1)))) = some (r1, r2) := h
  clear h
  replace H := Option.bind_eq_some_iff.mp H
  obtain ⟨t250, A30, H⟩ := H
  replace H : (if t250 = true then ((ringworkref25_Decode.f k a0).bind fun bt251 => (if bt251.2.2.2.2 = 0 then (if bt251.2.2.1 = true then (some ((⟨#[]⟩ : ByteArray), 9)) else ((ringworkref25_all.f k bt251.2.2.2.1 l1).bind fun t258 => (if a0.size + t258.size ≤ 9223372036854775807 then (if ((a0 ++ t258).size : Int) > 65536 then (some ((⟨#[]⟩ : ByteArray), 3)) else (some (a0 ++ t258, 0))) else (none)))) else (some ((⟨#[]⟩ : ByteArray), bt251.2.2.2.2)))) else (some ((⟨#[]⟩ : ByteArray), 1))) = some (r1, r2) := H
  have A3 := Aside0.mk A30
  clear A30
  by_cases c4 : t250 = true
  · subst c4
    have H1 : ((ringworkref25_Decode.f k a0).bind fun bt251 => (if bt251.2.2.2.2 = 0 then (if bt251.2.2.1 = true then (some ((⟨#[]⟩ : ByteArray), 9)) else ((ringworkref25_all.f k bt251.2.2.2.1 l1).bind fun t258 => (if a0.size + t258.size ≤ 9223372036854775807 then (if ((a0 ++ t258).size : Int) > 65536 then (some ((⟨#[]⟩ : ByteArray), 3)) else (some (a0 ++ t258, 0))) else (none)))) else (some ((⟨#[]⟩ : ByteArray), bt251.2.2.2.2)))) = some (r1, r2) := by rw [if_pos rfl] at H; exact H
    clear H
    have H := H1
    clear H1
    replace H := Option.bind_eq_some_iff.mp H
    obtain ⟨⟨t251, t252, t253, t254, t255⟩, A50, H⟩ := H
    replace H : (if t255 = 0 then (if t253 = true then (some ((⟨#[]⟩ : ByteArray), 9)) else ((ringworkref25_all.f k t254 l1).bind fun t258 => (if a0.size + t258.size ≤ 9223372036854775807 then (if ((a0 ++ t258).size : Int) > 65536 then (some ((⟨#[]⟩ : ByteArray), 3)) else (some (a0 ++ t258, 0))) else (none)))) else (some ((⟨#[]⟩ : ByteArray), t255))) = some (r1, r2) := H
    have A5 := Aside0.mk A50
    clear A50
    by_cases c6 : t255 = 0
    · rw [if_pos c6] at H
      have c6b0 : (t255 == 0) = true := beq_iff_eq.mpr c6
      have c6b1 : (t255 != 0) = false := bne_eq_false_iff_eq.mpr c6
      clear c6
      by_cases c7 : t253 = true
      · subst c7
        have H1 : (some ((⟨#[]⟩ : ByteArray), 9)) = some (r1, r2) := by rw [if_pos rfl] at H; exact H
        clear H
        have H := H1
        clear H1
        simp only [Option.some.injEq, Prod.mk.injEq] at H
        obtain ⟨rfl, rfl⟩ := H
        go_enter Try.func33, Try.ntmps33
        go_wp2_with (first | ((with_reducible refine gate_callee (f := 56) rfl ?_); refine goesL_ (some 13) rfl rfl Try.func56 (by kernel_rfl) rfl #[.slice A1 l1.length c1] rfl (by (try simp only [List.map_toArray, List.map_cons, List.map_nil]); first | done | rfl | (simp only [List.length_drop, List.length_take]; rfl)) ?_; (with_reducible refine (ringworkref25_notes.calls k _ _ l1 true _ ?side1 ?side2 A3.out).mono ?_); (case side1 => repeat (first | exact HR1.out | (with_reducible refine Kd.C_alloc ?_ _) | (with_reducible refine Kd.C_drewN ?_ _) | (with_reducible refine Kd.C_drew ?_))); (case side2 => exact HC1.out); rintro e w8 ⟨rfl, hb⟩; refine ⟨_, rfl, ?_⟩; have n0_ := Aside0.mk (below_step (by repeat (first | (with_reducible first | exact HB.out | apply below_alloc | apply pw_below_drewN | apply below_drew1) | exact HB.out)) hb); clear HB; have HB := n0_; clear n0_; (try clear hb); (try clear hb2); (try clear hk); (try clear hi)) | ((with_reducible refine gate_callee (f := 24) rfl ?_); refine goesL_ (some 17) rfl rfl Try.func24 (by kernel_rfl) rfl #[.string a0] rfl (by (try simp only [List.map_toArray, List.map_cons, List.map_nil]); first | done | rfl | (simp only [List.length_drop, List.length_take]; rfl)) ?_; (with_reducible refine (ringworkref25_Decode.calls k a0 t251 t252 true t254 t255 _ A5.out).mono ?_); rintro e w9 ⟨v256, rfl, ho0, hb⟩; refine ⟨_, rfl, ?_⟩; have n0_ := Aside0.mk (Kd.R_lower ho0 (below_size (by repeat (first | (with_reducible first | exact HB.out | apply below_alloc | apply pw_below_drewN | apply below_drew1) | exact HB.out)))); have n1_ := Aside0.mk (below_step (by repeat (first | (with_reducible first | exact HB.out | apply below_alloc | apply pw_below_drewN | apply below_drew1) | exact HB.out)) hb); clear HB; have HO257 := n0_; have HB := n1_; clear n0_ n1_; (try clear hb); (try clear hb2); (try clear hk); (try clear hi); (try clear ho0)))
        go_ret2
        exact ⟨by first | rfl | (simp [errW_none, errW_some] <;> rfl) | (simp [*, errW_none, errW_some] <;> rfl), by repeat (first | (with_reducible first | exact HB.out | apply below_alloc | apply pw_below_drewN | apply below_drew1) | exact HB.out)⟩
      · replace c7 := Bool.eq_false_iff.mpr c7
        subst c7
        have H1 : ((ringworkref25_all.f k t254 l1).bind fun t258 => (if a0.size + t258.size ≤ 9223372036854775807 then (if ((a0 ++ t258).size : Int) > 65536 then (some ((⟨#[]⟩ : ByteArray), 3)) else (some (a0 ++ t258, 0))) else (none))) = some (r1, r2) := by rw [if_neg (show ¬ (false = true) by decide)] at H; exact H
        clear H
        have H := H1
        clear H1
        replace H := Option.bind_eq_some_iff.mp H
        obtain ⟨t258, A100, H⟩ := H
        replace H : (if a0.size + t258.size ≤ 9223372036854775807 then (if ((a0 ++ t258).size : Int) > 65536 then (some ((⟨#[]⟩ : ByteArray), 3)) else (some (a0 ++ t258, 0))) else (none)) = some (r1, r2) := H
        have A10 := Aside0.mk A100
        clear A100
        by_cases c11 : a0.size + t258.size ≤ 9223372036854775807
        · rw [if_pos c11] at H
          have c11add : ∀ w_ : World, (Op.stringOp .add (a0) (t258)).run Try.prog w_ = .ok (.string ((a0) ++ (t258))) w_ := fun w_ => run_string_add_sum w_ _ _ c11
          have c11b0 := eq_true c11
          have c11b1 : decide (a0.size + t258.size ≤ 9223372036854775807) = true := decide_eq_true c11
          try have c11b2 : (9223372036854775807 < a0.size + t258.size) = False := eq_false (Nat.not_lt.2 c11)
          by_cases c12 : ((a0 ++ t258).size : Int) > 65536
          · rw [if_pos c12] at H
            have c12b0 : decide (65536 < ((a0 ++ t258).size : Int)) = true := decide_eq_true c12
            have szsum_c12b0 := c12b0
            simp only [ByteArray.size_append, Int.natCast_add] at szsum_c12b0
            have c12b1 : decide (65536 < (a0 ++ t258).size) = true := decide_eq_true (by omega)
            clear c12
            simp only [Option.some.injEq, Prod.mk.injEq] at H
            obtain ⟨rfl, rfl⟩ := H
            go_enter Try.func33, Try.ntmps33
            go_wp2_with (first | ((with_reducible refine gate_callee (f := 56) rfl ?_); refine goesL_ (some 13) rfl rfl Try.func56 (by kernel_rfl) rfl #[.slice A1 l1.length c1] rfl (by (try simp only [List.map_toArray, List.map_cons, List.map_nil]); first | done | rfl | (simp only [List.length_drop, List.length_take]; rfl)) ?_; (with_reducible refine (ringworkref25_notes.calls k _ _ l1 true _ ?side1 ?side2 A3.out).mono ?_); (case side1 => repeat (first | exact HR1.out | (with_reducible refine Kd.C_alloc ?_ _) | (with_reducible refine Kd.C_drewN ?_ _) | (with_reducible refine Kd.C_drew ?_))); (case side2 => exact HC1.out); rintro e w13 ⟨rfl, hb⟩; refine ⟨_, rfl, ?_⟩; have n0_ := Aside0.mk (below_step (by repeat (first | (with_reducible first | exact HB.out | apply below_alloc | apply pw_below_drewN | apply below_drew1) | exact HB.out)) hb); clear HB; have HB := n0_; clear n0_; (try clear hb); (try clear hb2); (try clear hk); (try clear hi)) | ((with_reducible refine gate_callee (f := 24) rfl ?_); refine goesL_ (some 17) rfl rfl Try.func24 (by kernel_rfl) rfl #[.string a0] rfl (by (try simp only [List.map_toArray, List.map_cons, List.map_nil]); first | done | rfl | (simp only [List.length_drop, List.length_take]; rfl)) ?_; (with_reducible refine (ringworkref25_Decode.calls k a0 t251 t252 false t254 t255 _ A5.out).mono ?_); rintro e w14 ⟨v256, rfl, ho0, hb⟩; refine ⟨_, rfl, ?_⟩; have n0_ := Aside0.mk (Kd.R_lower ho0 (below_size (by repeat (first | (with_reducible first | exact HB.out | apply below_alloc | apply pw_below_drewN | apply below_drew1) | exact HB.out)))); have n1_ := Aside0.mk (below_step (by repeat (first | (with_reducible first | exact HB.out | apply below_alloc | apply pw_below_drewN | apply below_drew1) | exact HB.out)) hb); clear HB; have HO257 := n0_; have HB := n1_; clear n0_ n1_; (try clear hb); (try clear hb2); (try clear hk); (try clear hi); (try clear ho0)) | ((with_reducible refine gate_callee (f := 57) rfl ?_); refine goesL_ (some 32) rfl rfl Try.func57 (by kernel_rfl) rfl #[.int .u64 t254, .slice A1 l1.length c1] rfl (by (try simp only [List.map_toArray, List.map_cons, List.map_nil]); first | done | rfl | (simp only [List.length_drop, List.length_take]; rfl)) ?_; (with_reducible refine (ringworkref25_all.calls k t254 _ _ l1 t258 _ ?side1 ?side2 A10.out).mono ?_); (case side1 => repeat (first | exact (Kd.C_below HR1.out HB.out) | (with_reducible refine Kd.C_alloc ?_ _) | (with_reducible refine Kd.C_drewN ?_ _) | (with_reducible refine Kd.C_drew ?_))); (case side2 => exact HC1.out); rintro e w15 ⟨rfl, hb⟩; refine ⟨_, rfl, ?_⟩; have n0_ := Aside0.mk (Kd.R_below (by (with_reducible repeat (first | apply Kd.R_alloc | apply Kd.R_drewN | apply Kd.R_drew)); exact HO257.out) hb); have n1_ := Aside0.mk (below_step (by repeat (first | (with_reducible first | exact HB.out | apply below_alloc | apply pw_below_drewN | apply below_drew1) | exact HB.out)) hb); clear HO257; clear HB; have HO257 := n0_; have HB := n1_; clear n0_ n1_; (try clear hb); (try clear hb2); (try clear hk); (try clear hi)))
            go_ret2
            exact ⟨by first | rfl | (simp [errW_none, errW_some] <;> rfl) | (simp [*, errW_none, errW_some] <;> rfl), by repeat (first | (with_reducible first | exact HB.out | apply below_alloc | apply pw_below_drewN | apply below_drew1) | exact HB.out)⟩
          · rw [if_neg c12] at H
            have c12b0 : decide (65536 < ((a0 ++ t258).size : Int)) = false := decide_eq_false c12
            have szsum_c12b0 := c12b0
            simp only [ByteArray.size_append, Int.natCast_add] at szsum_c12b0
            have c12b1 : decide (65536 < (a0 ++ t258).size) = false := decide_eq_false (by omega)
            clear c12
            simp only [Option.some.injEq, Prod.mk.injEq] at H
            obtain ⟨rfl, rfl⟩ := H
            go_enter Try.func33, Try.ntmps33
            go_wp2_with (first | ((with_reducible refine gate_callee (f := 56) rfl ?_); refine goesL_ (some 13) rfl rfl Try.func56 (by kernel_rfl) rfl #[.slice A1 l1.length c1] rfl (by (try simp only [List.map_toArray, List.map_cons, List.map_nil]); first | done | rfl | (simp only [List.length_drop, List.length_take]; rfl)) ?_; (with_reducible refine (ringworkref25_notes.calls k _ _ l1 true _ ?side1 ?side2 A3.out).mono ?_); (case side1 => repeat (first | exact HR1.out | (with_reducible refine Kd.C_alloc ?_ _) | (with_reducible refine Kd.C_drewN ?_ _) | (with_reducible refine Kd.C_drew ?_))); (case side2 => exact HC1.out); rintro e w16 ⟨rfl, hb⟩; refine ⟨_, rfl, ?_⟩; have n0_ := Aside0.mk (below_step (by repeat (first | (with_reducible first | exact HB.out | apply below_alloc | apply pw_below_drewN | apply below_drew1) | exact HB.out)) hb); clear HB; have HB := n0_; clear n0_; (try clear hb); (try clear hb2); (try clear hk); (try clear hi)) | ((with_reducible refine gate_callee (f := 24) rfl ?_); refine goesL_ (some 17) rfl rfl Try.func24 (by kernel_rfl) rfl #[.string a0] rfl (by (try simp only [List.map_toArray, List.map_cons, List.map_nil]); first | done | rfl | (simp only [List.length_drop, List.length_take]; rfl)) ?_; (with_reducible refine (ringworkref25_Decode.calls k a0 t251 t252 false t254 t255 _ A5.out).mono ?_); rintro e w17 ⟨v256, rfl, ho0, hb⟩; refine ⟨_, rfl, ?_⟩; have n0_ := Aside0.mk (Kd.R_lower ho0 (below_size (by repeat (first | (with_reducible first | exact HB.out | apply below_alloc | apply pw_below_drewN | apply below_drew1) | exact HB.out)))); have n1_ := Aside0.mk (below_step (by repeat (first | (with_reducible first | exact HB.out | apply below_alloc | apply pw_below_drewN | apply below_drew1) | exact HB.out)) hb); clear HB; have HO257 := n0_; have HB := n1_; clear n0_ n1_; (try clear hb); (try clear hb2); (try clear hk); (try clear hi); (try clear ho0)) | ((with_reducible refine gate_callee (f := 57) rfl ?_); refine goesL_ (some 32) rfl rfl Try.func57 (by kernel_rfl) rfl #[.int .u64 t254, .slice A1 l1.length c1] rfl (by (try simp only [List.map_toArray, List.map_cons, List.map_nil]); first | done | rfl | (simp only [List.length_drop, List.length_take]; rfl)) ?_; (with_reducible refine (ringworkref25_all.calls k t254 _ _ l1 t258 _ ?side1 ?side2 A10.out).mono ?_); (case side1 => repeat (first | exact (Kd.C_below HR1.out HB.out) | (with_reducible refine Kd.C_alloc ?_ _) | (with_reducible refine Kd.C_drewN ?_ _) | (with_reducible refine Kd.C_drew ?_))); (case side2 => exact HC1.out); rintro e w18 ⟨rfl, hb⟩; refine ⟨_, rfl, ?_⟩; have n0_ := Aside0.mk (Kd.R_below (by (with_reducible repeat (first | apply Kd.R_alloc | apply Kd.R_drewN | apply Kd.R_drew)); exact HO257.out) hb); have n1_ := Aside0.mk (below_step (by repeat (first | (with_reducible first | exact HB.out | apply below_alloc | apply pw_below_drewN | apply below_drew1) | exact HB.out)) hb); clear HO257; clear HB; have HO257 := n0_; have HB := n1_; clear n0_ n1_; (try clear hb); (try clear hb2); (try clear hk); (try clear hi)))
            go_ret2
            exact ⟨by first | rfl | (simp [errW_none, errW_some] <;> rfl) | (simp [*, errW_none, errW_some] <;> rfl), by repeat (first | (with_reducible first | exact HB.out | apply below_alloc | apply pw_below_drewN | apply below_drew1) | exact HB.out)⟩
        · rw [if_neg c11] at H
          exact absurd H (by simp)
    · rw [if_neg c6] at H
      have c6b0 : (t255 == 0) = false := beq_eq_false_iff_ne.mpr c6
      have c6b1 : (t255 != 0) = true := bne_iff_ne.mpr c6
      simp only [Option.some.injEq, Prod.mk.injEq] at H
      obtain ⟨rfl, rfl⟩ := H
      go_enter Try.func33, Try.ntmps33
      go_wp2_with (first | ((with_reducible refine gate_callee (f := 56) rfl ?_); refine goesL_ (some 13) rfl rfl Try.func56 (by kernel_rfl) rfl #[.slice A1 l1.length c1] rfl (by (try simp only [List.map_toArray, List.map_cons, List.map_nil]); first | done | rfl | (simp only [List.length_drop, List.length_take]; rfl)) ?_; (with_reducible refine (ringworkref25_notes.calls k _ _ l1 true _ ?side1 ?side2 A3.out).mono ?_); (case side1 => repeat (first | exact HR1.out | (with_reducible refine Kd.C_alloc ?_ _) | (with_reducible refine Kd.C_drewN ?_ _) | (with_reducible refine Kd.C_drew ?_))); (case side2 => exact HC1.out); rintro e w19 ⟨rfl, hb⟩; refine ⟨_, rfl, ?_⟩; have n0_ := Aside0.mk (below_step (by repeat (first | (with_reducible first | exact HB.out | apply below_alloc | apply pw_below_drewN | apply below_drew1) | exact HB.out)) hb); clear HB; have HB := n0_; clear n0_; (try clear hb); (try clear hb2); (try clear hk); (try clear hi)) | ((with_reducible refine gate_callee (f := 24) rfl ?_); refine goesL_ (some 17) rfl rfl Try.func24 (by kernel_rfl) rfl #[.string a0] rfl (by (try simp only [List.map_toArray, List.map_cons, List.map_nil]); first | done | rfl | (simp only [List.length_drop, List.length_take]; rfl)) ?_; (with_reducible refine (ringworkref25_Decode.calls k a0 t251 t252 t253 t254 t255 _ A5.out).mono ?_); rintro e w20 ⟨v256, rfl, ho0, hb⟩; refine ⟨_, rfl, ?_⟩; have n0_ := Aside0.mk (Kd.R_lower ho0 (below_size (by repeat (first | (with_reducible first | exact HB.out | apply below_alloc | apply pw_below_drewN | apply below_drew1) | exact HB.out)))); have n1_ := Aside0.mk (below_step (by repeat (first | (with_reducible first | exact HB.out | apply below_alloc | apply pw_below_drewN | apply below_drew1) | exact HB.out)) hb); clear HB; have HO257 := n0_; have HB := n1_; clear n0_ n1_; (try clear hb); (try clear hb2); (try clear hk); (try clear hi); (try clear ho0)))
      go_ret2
      exact ⟨by first | rfl | (simp [errW_none, errW_some] <;> rfl) | (simp [*, errW_none, errW_some] <;> rfl), by repeat (first | (with_reducible first | exact HB.out | apply below_alloc | apply pw_below_drewN | apply below_drew1) | exact HB.out)⟩
  · replace c4 := Bool.eq_false_iff.mpr c4
    subst c4
    have H1 : (some ((⟨#[]⟩ : ByteArray), 1)) = some (r1, r2) := by rw [if_neg (show ¬ (false = true) by decide)] at H; exact H
    clear H
    have H := H1
    clear H1
    simp only [Option.some.injEq, Prod.mk.injEq] at H
    obtain ⟨rfl, rfl⟩ := H
    go_enter Try.func33, Try.ntmps33
    go_wp2_with (first | ((with_reducible refine gate_callee (f := 56) rfl ?_); refine goesL_ (some 13) rfl rfl Try.func56 (by kernel_rfl) rfl #[.slice A1 l1.length c1] rfl (by (try simp only [List.map_toArray, List.map_cons, List.map_nil]); first | done | rfl | (simp only [List.length_drop, List.length_take]; rfl)) ?_; (with_reducible refine (ringworkref25_notes.calls k _ _ l1 false _ ?side1 ?side2 A3.out).mono ?_); (case side1 => repeat (first | exact HR1.out | (with_reducible refine Kd.C_alloc ?_ _) | (with_reducible refine Kd.C_drewN ?_ _) | (with_reducible refine Kd.C_drew ?_))); (case side2 => exact HC1.out); rintro e w21 ⟨rfl, hb⟩; refine ⟨_, rfl, ?_⟩; have n0_ := Aside0.mk (below_step (by repeat (first | (with_reducible first | exact HB.out | apply below_alloc | apply pw_below_drewN | apply below_drew1) | exact HB.out)) hb); clear HB; have HB := n0_; clear n0_; (try clear hb); (try clear hb2); (try clear hk); (try clear hi)))
    go_ret2
    exact ⟨by first | rfl | (simp [errW_none, errW_some] <;> rfl) | (simp [*, errW_none, errW_some] <;> rfl), by repeat (first | (with_reducible first | exact HB.out | apply below_alloc | apply pw_below_drewN | apply below_drew1) | exact HB.out)⟩

/-! ### ringworklaw25_JournalMore: function 9 -/
mutual
def ringworklaw25_JournalMore.j0 : Nat → List (S39) → List (S39) → ByteArray → Bool → Option (Bool)
  | 0, _, _, _, _ => none
  | k + 1, x0, x1, x2, x25 => if x25 = true then ((ringworklaw25_awake.f).bind fun t261 => (some t261)) else ((journal_More.f x2 x1).bind fun bt262 => ((ringworkref25_More.f k x2 x1).bind fun bt264 => (if bt262.1.toList = bt264.1.toList then (ringworklaw25_JournalMore.j1 k x0 x1 (bt262.2 != bt264.2)) else (ringworklaw25_JournalMore.j1 k x0 x1 true))))
def ringworklaw25_JournalMore.j1 : Nat → List (S39) → List (S39) → Bool → Option (Bool)
  | 0, _, _, _ => none
  | k + 1, x0, x1, x46 => if x46 = true then (some false) else ((journal_Encode.f x0).bind fun bt266 => (if bt266.2 = 0 then ((some (([] : List (S39)) : List (S39))).bind fun y268 => (if y268.length + x0.length < 2513169434916 then ((some (y268 ++ x0 : List (S39))).bind fun y271 => (if y271.length + x1.length < 2513169434916 then ((journal_Encode.f (y271 ++ x1)).bind fun bt277 => ((journal_More.f bt266.1 x1).bind fun bt279 => (if bt279.1.toList = bt277.1.toList then (if bt279.2 = bt277.2 then ((ringworklaw25_awake.f).bind fun t281 => (some t281)) else (some false)) else (some false)))) else (none))) else (none))) else ((ringworklaw25_awake.f).bind fun t282 => (some t282))))
end
def ringworklaw25_JournalMore.f (k : Nat) (l0 : List (S39)) (l1 : List (S39)) (a2 : ByteArray) : Option (Bool) := (ringworklaw25_Notes.f k l0).bind fun t259 => (if t259 = true then ((ringworklaw25_Notes.f k l1).bind fun t260 => (if t260 = true then (ringworklaw25_JournalMore.j0 k l0 l1 a2 (decide ((a2.size : Int) > 3000))) else (ringworklaw25_JournalMore.j0 k l0 l1 a2 true))) else (ringworklaw25_JournalMore.j0 k l0 l1 a2 true))
set_option maxHeartbeats 8000000 in
set_option maxRecDepth 100000 in
theorem ringworklaw25_JournalMore.calls (k : Nat) (A0 : Option Addr) (c0 : Nat) (l0 : List (S39)) (A1 : Option Addr) (c1 : Nat) (l1 : List (S39)) (a2 : ByteArray) (r : Bool) (w : World) (hr0 : Kd.C k39 w A0 l0.length l0) (hc0 : l0.length ≤ c0) (hr1 : Kd.C k39 w A1 l1.length l1) (hc1 : l1.length ≤ c1) (h : ringworklaw25_JournalMore.f k l0 l1 a2 = some r) :
    Calls Try.prog 9 #[.slice A0 l0.length c0, .slice A1 l1.length c1, .string a2] w fun e w' => e = .returned (.bool r) ∧ Below w.heap.size w w' := by
  have HR0 := Aside0.mk hr0
  have HC0 := Aside0.mk hc0
  clear hr0 hc0
  have HR1 := Aside0.mk hr1
  have HC1 := Aside0.mk hc1
  clear hr1 hc1
  have HB := Aside0.mk (Below.refl w.heap.size w)
  have H : ((ringworklaw25_Notes.f k l0).bind fun t259 => (if t259 = true then ((ringworklaw25_Notes.f k l1).bind fun t260 => (if t260 = true then (ringworklaw25_JournalMore.j0 k l0 l1 a2 (decide ((a2.size : Int) > 3000))) else (ringworklaw25_JournalMore.j0 k l0 l1 a2 true))) else (ringworklaw25_JournalMore.j0 k l0 l1 a2 true))) = some r := h
  clear h
  have HC4 := Aside0.mk H
  clear H
  go_enter Try.func9, Try.ntmps9
  go_upto_region 1 with (fail)
  go_cut [25] (fun v25 wc => ∃ (kq : Nat) (x25_3 : Bool), v25 = .bool x25_3 ∧ Aside0 (ringworklaw25_JournalMore.j0 kq l0 l1 a2 x25_3 = some r) ∧ Aside0 (kq ≤ k) ∧ Aside0 (Below w.heap.size w wc))
  case first =>
    have H := HC4.out
    clear HC4
    replace H := Option.bind_eq_some_iff.mp H
    obtain ⟨t259, A50, H⟩ := H
    replace H : (if t259 = true then ((ringworklaw25_Notes.f k l1).bind fun t260 => (if t260 = true then (ringworklaw25_JournalMore.j0 k l0 l1 a2 (decide ((a2.size : Int) > 3000))) else (ringworklaw25_JournalMore.j0 k l0 l1 a2 true))) else (ringworklaw25_JournalMore.j0 k l0 l1 a2 true)) = some r := H
    have A5 := Aside0.mk A50
    clear A50
    by_cases c6 : t259 = true
    · subst c6
      have H1 : ((ringworklaw25_Notes.f k l1).bind fun t260 => (if t260 = true then (ringworklaw25_JournalMore.j0 k l0 l1 a2 (decide ((a2.size : Int) > 3000))) else (ringworklaw25_JournalMore.j0 k l0 l1 a2 true))) = some r := by rw [if_pos rfl] at H; exact H
      clear H
      have H := H1
      clear H1
      replace H := Option.bind_eq_some_iff.mp H
      obtain ⟨t260, A70, H⟩ := H
      replace H : (if t260 = true then (ringworklaw25_JournalMore.j0 k l0 l1 a2 (decide ((a2.size : Int) > 3000))) else (ringworklaw25_JournalMore.j0 k l0 l1 a2 true)) = some r := H
      have A7 := Aside0.mk A70
      clear A70
      by_cases c8 : t260 = true
      · subst c8
        have H1 : (ringworklaw25_JournalMore.j0 k l0 l1 a2 (decide ((a2.size : Int) > 3000))) = some r := by rw [if_pos rfl] at H; exact H
        clear H
        have H := H1
        clear H1
        have H' := Aside0.mk H
        clear H
        go_wp2_with (first | ((with_reducible refine gate_callee (f := 10) rfl ?_); refine goesL_ (some 14) rfl rfl Try.func10 (by kernel_rfl) rfl #[.slice A0 l0.length c0] rfl (by (try simp only [List.map_toArray, List.map_cons, List.map_nil]); first | done | rfl | (simp only [List.length_drop, List.length_take]; rfl)) ?_; (with_reducible refine (ringworklaw25_Notes.calls k _ _ l0 true _ ?side1 ?side2 A5.out).mono ?_); (case side1 => repeat (first | exact (Kd.C_below HR0.out HB.out) | (with_reducible refine Kd.C_alloc ?_ _) | (with_reducible refine Kd.C_drewN ?_ _) | (with_reducible refine Kd.C_drew ?_))); (case side2 => exact HC0.out); rintro e w' ⟨rfl, ⟨nd, rfl⟩⟩; refine ⟨_, rfl, ?_⟩) | (go_at_call 10; (with_reducible refine (ringworklaw25_Notes.calls k _ _ l1 true _ ?side1 ?side2 A7.out).mono ?_); (case side1 => repeat (first | exact (Kd.C_below HR1.out (by repeat (first | (with_reducible first | exact HB.out | apply below_alloc | apply pw_below_drewN | apply below_drew1) | exact HB.out))) | (with_reducible refine Kd.C_alloc ?_ _) | (with_reducible refine Kd.C_drewN ?_ _) | (with_reducible refine Kd.C_drew ?_))); (case side2 => exact HC1.out); rintro e w' ⟨rfl, ⟨nd, rfl⟩⟩))
        go_meet
        case rel => exact ⟨_, (decide ((a2.size : Int) > 3000)), (by first | rfl | (simp; done) | (simp [*]; done)), H', ⟨by first | omega | exact Nat.le_refl _⟩, ⟨by repeat (first | (with_reducible first | exact HB.out | apply below_alloc | apply pw_below_drewN | apply below_drew1) | exact HB.out)⟩⟩
      · replace c8 := Bool.eq_false_iff.mpr c8
        subst c8
        have H1 : (ringworklaw25_JournalMore.j0 k l0 l1 a2 true) = some r := by rw [if_neg (show ¬ (false = true) by decide)] at H; exact H
        clear H
        have H := H1
        clear H1
        have H' := Aside0.mk H
        clear H
        go_wp2_with (first | ((with_reducible refine gate_callee (f := 10) rfl ?_); refine goesL_ (some 14) rfl rfl Try.func10 (by kernel_rfl) rfl #[.slice A0 l0.length c0] rfl (by (try simp only [List.map_toArray, List.map_cons, List.map_nil]); first | done | rfl | (simp only [List.length_drop, List.length_take]; rfl)) ?_; (with_reducible refine (ringworklaw25_Notes.calls k _ _ l0 true _ ?side1 ?side2 A5.out).mono ?_); (case side1 => repeat (first | exact (Kd.C_below HR0.out HB.out) | (with_reducible refine Kd.C_alloc ?_ _) | (with_reducible refine Kd.C_drewN ?_ _) | (with_reducible refine Kd.C_drew ?_))); (case side2 => exact HC0.out); rintro e w' ⟨rfl, ⟨nd, rfl⟩⟩; refine ⟨_, rfl, ?_⟩) | (go_at_call 10; (with_reducible refine (ringworklaw25_Notes.calls k _ _ l1 false _ ?side1 ?side2 A7.out).mono ?_); (case side1 => repeat (first | exact (Kd.C_below HR1.out (by repeat (first | (with_reducible first | exact HB.out | apply below_alloc | apply pw_below_drewN | apply below_drew1) | exact HB.out))) | (with_reducible refine Kd.C_alloc ?_ _) | (with_reducible refine Kd.C_drewN ?_ _) | (with_reducible refine Kd.C_drew ?_))); (case side2 => exact HC1.out); rintro e w' ⟨rfl, ⟨nd, rfl⟩⟩))
        go_meet
        case rel => exact ⟨_, (true), (by first | rfl | (simp; done) | (simp [*]; done)), H', ⟨by first | omega | exact Nat.le_refl _⟩, ⟨by repeat (first | (with_reducible first | exact HB.out | apply below_alloc | apply pw_below_drewN | apply below_drew1) | exact HB.out)⟩⟩
    · replace c6 := Bool.eq_false_iff.mpr c6
      subst c6
      have H1 : (ringworklaw25_JournalMore.j0 k l0 l1 a2 true) = some r := by rw [if_neg (show ¬ (false = true) by decide)] at H; exact H
      clear H
      have H := H1
      clear H1
      have H' := Aside0.mk H
      clear H
      go_wp2_with (first | ((with_reducible refine gate_callee (f := 10) rfl ?_); refine goesL_ (some 14) rfl rfl Try.func10 (by kernel_rfl) rfl #[.slice A0 l0.length c0] rfl (by (try simp only [List.map_toArray, List.map_cons, List.map_nil]); first | done | rfl | (simp only [List.length_drop, List.length_take]; rfl)) ?_; (with_reducible refine (ringworklaw25_Notes.calls k _ _ l0 false _ ?side1 ?side2 A5.out).mono ?_); (case side1 => repeat (first | exact (Kd.C_below HR0.out HB.out) | (with_reducible refine Kd.C_alloc ?_ _) | (with_reducible refine Kd.C_drewN ?_ _) | (with_reducible refine Kd.C_drew ?_))); (case side2 => exact HC0.out); rintro e w' ⟨rfl, ⟨nd, rfl⟩⟩; refine ⟨_, rfl, ?_⟩))
      go_meet
      case rel => exact ⟨_, (true), (by first | rfl | (simp; done) | (simp [*]; done)), H', ⟨by first | omega | exact Nat.le_refl _⟩, ⟨by repeat (first | (with_reducible first | exact HB.out | apply below_alloc | apply pw_below_drewN | apply below_drew1) | exact HB.out)⟩⟩
  case rest =>
    clear HC4
    try clear c1
    try clear p2
    try clear c6
    try clear c8
    obtain ⟨kq, x25_3, rfl, HA, HJ3, HB⟩ := hcut
    cases kq with
    | zero => exact absurd HA.out (by simp [ringworklaw25_JournalMore.j0])
    | succ kj3 =>
      have H := HA.out
      clear HA
      simp only [ringworklaw25_JournalMore.j0] at H
      by_cases c9 : x25_3 = true
      · subst c9
        have H1 : ((ringworklaw25_awake.f).bind fun t261 => (some t261)) = some r := by rw [if_pos rfl] at H; exact H
        clear H
        have H := H1
        clear H1
        replace H := Option.bind_eq_some_iff.mp H
        obtain ⟨t261, A100, H⟩ := H
        replace H : (some t261) = some r := H
        have A10 := Aside0.mk A100
        clear A100
        obtain rfl := Option.some.inj H
        go_wp2_with (first | ((with_reducible refine gate_callee (f := 12) rfl ?_); refine goesL_ (some 26) rfl rfl Try.func12 (by kernel_rfl) rfl #[] rfl (by (try simp only [List.map_toArray, List.map_cons, List.map_nil]); first | done | rfl | (simp only [List.length_drop, List.length_take]; rfl)) ?_; (with_reducible refine (ringworklaw25_awake.calls  t261 _ A10.out).mono ?_); rintro e w11 ⟨rfl, hb⟩; refine ⟨_, rfl, ?_⟩; have n0_ := Aside0.mk (below_step (by repeat (first | (with_reducible first | exact HB.out | apply below_alloc | apply pw_below_drewN | apply below_drew1) | exact HB.out)) hb); clear HB; have HB := n0_; clear n0_; (try clear hb); (try clear hb2); (try clear hk); (try clear hi)))
        go_ret
        exact ⟨by first | rfl | (simp [errW_none, errW_some] <;> rfl) | (simp [*, errW_none, errW_some] <;> rfl), by repeat (first | (with_reducible first | exact HB.out | apply below_alloc | apply pw_below_drewN | apply below_drew1) | exact HB.out)⟩
      · replace c9 := Bool.eq_false_iff.mpr c9
        subst c9
        have H1 : ((journal_More.f a2 l1).bind fun bt262 => ((ringworkref25_More.f kj3 a2 l1).bind fun bt264 => (if bt262.1.toList = bt264.1.toList then (ringworklaw25_JournalMore.j1 kj3 l0 l1 (bt262.2 != bt264.2)) else (ringworklaw25_JournalMore.j1 kj3 l0 l1 true)))) = some r := by rw [if_neg (show ¬ (false = true) by decide)] at H; exact H
        clear H
        have H := H1
        clear H1
        replace H := Option.bind_eq_some_iff.mp H
        obtain ⟨⟨t262, t263⟩, A120, H⟩ := H
        replace H : ((ringworkref25_More.f kj3 a2 l1).bind fun bt264 => (if t262.toList = bt264.1.toList then (ringworklaw25_JournalMore.j1 kj3 l0 l1 (t263 != bt264.2)) else (ringworklaw25_JournalMore.j1 kj3 l0 l1 true))) = some r := H
        have A12 := Aside0.mk A120
        clear A120
        replace H := Option.bind_eq_some_iff.mp H
        obtain ⟨⟨t264, t265⟩, A130, H⟩ := H
        replace H : (if t262.toList = t264.toList then (ringworklaw25_JournalMore.j1 kj3 l0 l1 (t263 != t265)) else (ringworklaw25_JournalMore.j1 kj3 l0 l1 true)) = some r := H
        have A13 := Aside0.mk A130
        clear A130
        have HC14 := Aside0.mk H
        clear H
        go_upto_region 5 with (first | ((with_reducible refine gate_callee (f := 32) rfl ?_); refine goesL_ (some 30) rfl rfl Try.func32 (by kernel_rfl) rfl #[.string a2, .slice A1 l1.length c1] rfl (by (try simp only [List.map_toArray, List.map_cons, List.map_nil]); first | done | rfl | (simp only [List.length_drop, List.length_take]; rfl)) ?_; (with_reducible refine (journal_More.calls a2 _ _ l1 t262 t263 _ ?side1 ?side2 A12.out).mono ?_); (case side1 => repeat (first | exact (Kd.C_below HR1.out HB.out) | (with_reducible refine Kd.C_alloc ?_ _) | (with_reducible refine Kd.C_drewN ?_ _) | (with_reducible refine Kd.C_drew ?_))); (case side2 => exact HC1.out); rintro e w15 ⟨rfl, hb⟩; refine ⟨_, rfl, ?_⟩; have n0_ := Aside0.mk (below_step (by repeat (first | (with_reducible first | exact HB.out | apply below_alloc | apply pw_below_drewN | apply below_drew1) | exact HB.out)) hb); clear HB; have HB := n0_; clear n0_; (try clear hb); (try clear hb2); (try clear hk); (try clear hi)) | ((with_reducible refine gate_callee (f := 33) rfl ?_); refine goesL_ (some 36) rfl rfl Try.func33 (by kernel_rfl) rfl #[.string a2, .slice A1 l1.length c1] rfl (by (try simp only [List.map_toArray, List.map_cons, List.map_nil]); first | done | rfl | (simp only [List.length_drop, List.length_take]; rfl)) ?_; (with_reducible refine (ringworkref25_More.calls kj3 a2 _ _ l1 t264 t265 _ ?side1 ?side2 A13.out).mono ?_); (case side1 => repeat (first | exact (Kd.C_below HR1.out HB.out) | (with_reducible refine Kd.C_alloc ?_ _) | (with_reducible refine Kd.C_drewN ?_ _) | (with_reducible refine Kd.C_drew ?_))); (case side2 => exact HC1.out); rintro e w16 ⟨rfl, hb⟩; refine ⟨_, rfl, ?_⟩; have n0_ := Aside0.mk (below_step (by repeat (first | (with_reducible first | exact HB.out | apply below_alloc | apply pw_below_drewN | apply below_drew1) | exact HB.out)) hb); clear HB; have HB := n0_; clear n0_; (try clear hb); (try clear hb2); (try clear hk); (try clear hi)))
        (try simp only [Act.put, List.setIfInBounds_toArray, List.set_cons_zero, List.set_cons_succ])
        go_cut [46] (fun v46 wc => ∃ (kq : Nat) (x46_13 : Bool), v46 = .bool x46_13 ∧ Aside0 (ringworklaw25_JournalMore.j1 kq l0 l1 x46_13 = some r) ∧ Aside0 (kq ≤ kj3) ∧ Aside0 (Below w.heap.size w wc))
        case first =>
          have H := HC14.out
          clear HC14
          by_cases c17 : t262.toList = t264.toList
          · rw [if_pos c17] at H
            have c17b0 : (t262.toList == t264.toList) = true := beq_iff_eq.mpr c17
            have c17b1 : (t262.toList != t264.toList) = false := bne_eq_false_iff_eq.mpr c17
            clear c17
            (first | rw [c17b0] | (simp only [i64_w, i32_w]; rw [c17b0]) | skip)
            have H' := Aside0.mk H
            clear H
            go_wp2
            go_meet
            case rel => exact ⟨_, ((t263 != t265)), (by first | rfl | (simp; done) | (simp [*]; done)), H', ⟨by have := HJ3.out; first | omega | exact Nat.le_refl _⟩, ⟨by repeat (first | (with_reducible first | exact HB.out | apply below_alloc | apply pw_below_drewN | apply below_drew1) | exact HB.out)⟩⟩
          · rw [if_neg c17] at H
            have c17b0 : (t262.toList == t264.toList) = false := beq_eq_false_iff_ne.mpr c17
            have c17b1 : (t262.toList != t264.toList) = true := bne_iff_ne.mpr c17
            (first | rw [c17b0] | (simp only [i64_w, i32_w]; rw [c17b0]) | skip)
            have H' := Aside0.mk H
            clear H
            go_wp2
            go_meet
            case rel => exact ⟨_, (true), (by first | rfl | (simp; done) | (simp [*]; done)), H', ⟨by have := HJ3.out; first | omega | exact Nat.le_refl _⟩, ⟨by repeat (first | (with_reducible first | exact HB.out | apply below_alloc | apply pw_below_drewN | apply below_drew1) | exact HB.out)⟩⟩
        case rest =>
          clear HC14
          try clear c1
          try clear p2
          try clear c3
          try clear c6
          try clear c8
          try clear c9
          try clear c10
          try clear c12
          try clear c17
          try clear c17b0
          try clear c17b1
          try clear p2
          obtain ⟨kq, x46_13, rfl, HA, HJ13, HB⟩ := hcut
          cases kq with
          | zero => exact absurd HA.out (by simp [ringworklaw25_JournalMore.j1])
          | succ kj13 =>
            have H := HA.out
            clear HA
            simp only [ringworklaw25_JournalMore.j1] at H
            by_cases c18 : x46_13 = true
            · subst c18
              have H1 : (some false) = some r := by rw [if_pos rfl] at H; exact H
              clear H
              have H := H1
              clear H1
              obtain rfl := Option.some.inj H
              go_wp2
              go_ret
              exact ⟨by first | rfl | (simp [errW_none, errW_some] <;> rfl) | (simp [*, errW_none, errW_some] <;> rfl), by repeat (first | (with_reducible first | exact HB.out | apply below_alloc | apply pw_below_drewN | apply below_drew1) | exact HB.out)⟩
            · replace c18 := Bool.eq_false_iff.mpr c18
              subst c18
              have H1 : ((journal_Encode.f l0).bind fun bt266 => (if bt266.2 = 0 then ((some (([] : List (S39)) : List (S39))).bind fun y268 => (if y268.length + l0.length < 2513169434916 then ((some (y268 ++ l0 : List (S39))).bind fun y271 => (if y271.length + l1.length < 2513169434916 then ((journal_Encode.f (y271 ++ l1)).bind fun bt277 => ((journal_More.f bt266.1 l1).bind fun bt279 => (if bt279.1.toList = bt277.1.toList then (if bt279.2 = bt277.2 then ((ringworklaw25_awake.f).bind fun t281 => (some t281)) else (some false)) else (some false)))) else (none))) else (none))) else ((ringworklaw25_awake.f).bind fun t282 => (some t282)))) = some r := by rw [if_neg (show ¬ (false = true) by decide)] at H; exact H
              clear H
              have H := H1
              clear H1
              replace H := Option.bind_eq_some_iff.mp H
              obtain ⟨⟨t266, t267⟩, A190, H⟩ := H
              replace H : (if t267 = 0 then ((some (([] : List (S39)) : List (S39))).bind fun y268 => (if y268.length + l0.length < 2513169434916 then ((some (y268 ++ l0 : List (S39))).bind fun y271 => (if y271.length + l1.length < 2513169434916 then ((journal_Encode.f (y271 ++ l1)).bind fun bt277 => ((journal_More.f t266 l1).bind fun bt279 => (if bt279.1.toList = bt277.1.toList then (if bt279.2 = bt277.2 then ((ringworklaw25_awake.f).bind fun t281 => (some t281)) else (some false)) else (some false)))) else (none))) else (none))) else ((ringworklaw25_awake.f).bind fun t282 => (some t282))) = some r := H
              have A19 := Aside0.mk A190
              clear A190
              by_cases c20 : t267 = 0
              · rw [if_pos c20] at H
                have c20b0 : (t267 == 0) = true := beq_iff_eq.mpr c20
                have c20b1 : (t267 != 0) = false := bne_eq_false_iff_eq.mpr c20
                clear c20
                obtain ⟨y268, hy268⟩ : ∃ y_ : List (S39), y_ = (([] : List (S39))) := ⟨_, rfl⟩
                replace H : (if y268.length + l0.length < 2513169434916 then ((some (y268 ++ l0 : List (S39))).bind fun y271 => (if y271.length + l1.length < 2513169434916 then ((journal_Encode.f (y271 ++ l1)).bind fun bt277 => ((journal_More.f t266 l1).bind fun bt279 => (if bt279.1.toList = bt277.1.toList then (if bt279.2 = bt277.2 then ((ringworklaw25_awake.f).bind fun t281 => (some t281)) else (some false)) else (some false)))) else (none))) else (none)) = some r := by first | (rw [hy268]; with_reducible exact H) | (have H2_ := (Option.bind_some _ _).symm.trans H; rw [hy268]; with_reducible exact H2_) | (have H2_ := (Option.bind_some _ _).symm.trans H; with_reducible exact H2_) | with_reducible exact H | (rw [hy268]; exact H) | exact H
                have Ny268 := Aside0.mk hy268
                clear hy268
                by_cases c21 : y268.length + l0.length < 2513169434916
                · rw [if_pos c21] at H
                  have LMc21 := Aside0.mk c21
                  clear c21
                  obtain ⟨y271, hy271⟩ : ∃ y_ : List (S39), y_ = (y268 ++ l0) := ⟨_, rfl⟩
                  replace H : (if y271.length + l1.length < 2513169434916 then ((journal_Encode.f (y271 ++ l1)).bind fun bt277 => ((journal_More.f t266 l1).bind fun bt279 => (if bt279.1.toList = bt277.1.toList then (if bt279.2 = bt277.2 then ((ringworklaw25_awake.f).bind fun t281 => (some t281)) else (some false)) else (some false)))) else (none)) = some r := by first | (rw [hy271]; with_reducible exact H) | (have H2_ := (Option.bind_some _ _).symm.trans H; rw [hy271]; with_reducible exact H2_) | (have H2_ := (Option.bind_some _ _).symm.trans H; with_reducible exact H2_) | with_reducible exact H | (rw [hy271]; exact H) | exact H
                  have Ny271 := Aside0.mk hy271
                  clear hy271
                  by_cases c22 : y271.length + l1.length < 2513169434916
                  · rw [if_pos c22] at H
                    have LMc22 := Aside0.mk c22
                    clear c22
                    obtain ⟨y274, hy274⟩ : ∃ y_ : List (S39), y_ = (y271 ++ l1) := ⟨_, rfl⟩
                    replace H : ((journal_Encode.f y274).bind fun bt277 => ((journal_More.f t266 l1).bind fun bt279 => (if bt279.1.toList = bt277.1.toList then (if bt279.2 = bt277.2 then ((ringworklaw25_awake.f).bind fun t281 => (some t281)) else (some false)) else (some false)))) = some r := by first | (rw [hy274]; with_reducible exact H) | (have H2_ := (Option.bind_some _ _).symm.trans H; rw [hy274]; with_reducible exact H2_) | (have H2_ := (Option.bind_some _ _).symm.trans H; with_reducible exact H2_) | with_reducible exact H | (rw [hy274]; exact H) | exact H
                    have Ny274 := Aside0.mk hy274
                    clear hy274
                    replace H := Option.bind_eq_some_iff.mp H
                    obtain ⟨⟨t277, t278⟩, A230, H⟩ := H
                    replace H : ((journal_More.f t266 l1).bind fun bt279 => (if bt279.1.toList = t277.toList then (if bt279.2 = t278 then ((ringworklaw25_awake.f).bind fun t281 => (some t281)) else (some false)) else (some false))) = some r := H
                    have A23 := Aside0.mk A230
                    clear A230
                    replace H := Option.bind_eq_some_iff.mp H
                    obtain ⟨⟨t279, t280⟩, A240, H⟩ := H
                    replace H : (if t279.toList = t277.toList then (if t280 = t278 then ((ringworklaw25_awake.f).bind fun t281 => (some t281)) else (some false)) else (some false)) = some r := H
                    have A24 := Aside0.mk A240
                    clear A240
                    by_cases c25 : t279.toList = t277.toList
                    · rw [if_pos c25] at H
                      have c25b0 : (t279.toList == t277.toList) = true := beq_iff_eq.mpr c25
                      have c25b1 : (t279.toList != t277.toList) = false := bne_eq_false_iff_eq.mpr c25
                      clear c25
                      by_cases c26 : t280 = t278
                      · rw [if_pos c26] at H
                        have c26b0 : (t280 == t278) = true := beq_iff_eq.mpr c26
                        have c26b1 : (t280 != t278) = false := bne_eq_false_iff_eq.mpr c26
                        clear c26
                        replace H := Option.bind_eq_some_iff.mp H
                        obtain ⟨t281, A270, H⟩ := H
                        replace H : (some t281) = some r := H
                        have A27 := Aside0.mk A270
                        clear A270
                        obtain rfl := Option.some.inj H
                        go_wp2_with (first | ((with_reducible refine gate_callee (f := 29) rfl ?_); refine goesL_ (some 49) rfl rfl Try.func29 (by kernel_rfl) rfl #[.slice A0 l0.length c0] rfl (by (try simp only [List.map_toArray, List.map_cons, List.map_nil]); first | done | rfl | (simp only [List.length_drop, List.length_take]; rfl)) ?_; (with_reducible refine (journal_Encode.calls _ _ l0 t266 t267 _ ?side1 ?side2 A19.out).mono ?_); (case side1 => repeat (first | exact (Kd.C_below HR0.out HB.out) | (with_reducible refine Kd.C_alloc ?_ _) | (with_reducible refine Kd.C_drewN ?_ _) | (with_reducible refine Kd.C_drew ?_))); (case side2 => exact HC0.out); rintro e w28 ⟨rfl, hb⟩; refine ⟨_, rfl, ?_⟩; have n0_ := Aside0.mk (below_step (by repeat (first | (with_reducible first | exact HB.out | apply below_alloc | apply pw_below_drewN | apply below_drew1) | exact HB.out)) hb); clear HB; have HB := n0_; clear n0_; (try clear hb); (try clear hb2); (try clear hk); (try clear hi)) | ((with_reducible refine gate_dst (N := 56) rfl ?_); (try (refine gate_guard (by rfl) ?_; dsimp only)); refine Kd.R_lit k39 _ 39 ?hg (N := 56) ?hd (xs := ([] : List (S39))) (inner := []) (ok := fun _ => True) (okp := fun _ => True) ?hr ?hp (fun _ hk => hk) trivial (Below.refl _ _) (Nat.le_refl _) (by simp) ?_; (case hd => rfl); (case hg => rfl); (case hr => first | (go_simp; done) | (go_simp; rfl)); (case hp => exact (Reps.none _ _)); intro v269 w29 ho30 hb hg_ hnew_; clear hg_ hnew_; (first | rw [← Ny268.out] at ho30 | (simp only [Int.reduceToNat] at ho30; rw [← Ny268.out] at ho30)); have n0_ := Aside0.mk (Kd.R_lower ho30 (below_size (by repeat (first | (with_reducible first | exact HB.out | apply below_alloc | apply pw_below_drewN | apply below_drew1) | exact HB.out)))); have n1_ := Aside0.mk (below_step (by repeat (first | (with_reducible first | exact HB.out | apply below_alloc | apply pw_below_drewN | apply below_drew1) | exact HB.out)) hb); clear HB; have HO270 := n0_; have HB := n1_; clear n0_ n1_; clear hb ho30) | ((with_reducible refine gate_builtin (b := .append) (xs := #[.tmp 56, .tmp 57]) rfl ?_); (try (refine gate_guard (by rfl) ?_; dsimp only)); at_builtin; refine Kd.R_append_rows k39 (w0 := w) w.heap.size rfl (.tmp 56) (.tmp 57) 23 39 (.agg #[(.int .i64 0), (.int .i64 0), (.string ⟨#[]⟩), (.bool false), (.string ⟨#[]⟩)]) 56 rfl Try.underlying23 info39 rfl (by decide) (by omega) v269 y268 l0 _ _ _ (fun _ => True) (fun _ => False) rfl rfl ?aO ?aR (fun _ _ h => h) (fun _ h => h.elim) ?aF ?aB ?aS ?aL ?_; (case aR => repeat (first | exact (Kd.C_below HR0.out HB.out) | (with_reducible refine Kd.C_alloc ?_ _) | (with_reducible refine Kd.C_drewN ?_ _) | (with_reducible refine Kd.C_drew ?_))); (case aB => exact (by repeat (first | (with_reducible first | exact HB.out | apply below_alloc | apply pw_below_drewN | apply below_drew1) | exact HB.out))); (case aF => exact (fun _ _ => trivial)); (case aO => exact (by (with_reducible repeat (first | apply Kd.R_alloc | apply Kd.R_drewN | apply Kd.R_drew)); exact HO270.out)); (case aS => exact (below_size (by repeat (first | (with_reducible first | exact HB.out | apply below_alloc | apply pw_below_drewN | apply below_drew1) | exact HB.out)))); (case aL => have := LMc21.out; omega); intro v272 w31 ho hb hg hat; rw [← Ny271.out] at ho; have n0_ := Aside0.mk (hb); have n1_ := Aside0.mk (ho); clear HB; clear HO270; have HB := n0_; have HO273 := n1_; clear n0_ n1_; clear ho hb hg hat) | ((with_reducible refine gate_builtin (b := .append) (xs := #[.tmp 58, .tmp 59]) rfl ?_); (try (refine gate_guard (by rfl) ?_; dsimp only)); at_builtin; refine Kd.R_append_rows k39 (w0 := w) w.heap.size rfl (.tmp 58) (.tmp 59) 23 39 (.agg #[(.int .i64 0), (.int .i64 0), (.string ⟨#[]⟩), (.bool false), (.string ⟨#[]⟩)]) 56 rfl Try.underlying23 info39 rfl (by decide) (by omega) v272 y271 l1 _ _ _ (fun _ => True) (fun _ => False) rfl rfl ?aO ?aR (fun _ _ h => h) (fun _ h => h.elim) ?aF ?aB ?aS ?aL ?_; (case aR => repeat (first | exact (Kd.C_below HR1.out HB.out) | (with_reducible refine Kd.C_alloc ?_ _) | (with_reducible refine Kd.C_drewN ?_ _) | (with_reducible refine Kd.C_drew ?_))); (case aB => exact (by repeat (first | (with_reducible first | exact HB.out | apply below_alloc | apply pw_below_drewN | apply below_drew1) | exact HB.out))); (case aF => exact (fun _ _ => trivial)); (case aO => exact (by (with_reducible repeat (first | apply Kd.R_alloc | apply Kd.R_drewN | apply Kd.R_drew)); exact HO273.out)); (case aS => exact (below_size (by repeat (first | (with_reducible first | exact HB.out | apply below_alloc | apply pw_below_drewN | apply below_drew1) | exact HB.out)))); (case aL => have := LMc22.out; omega); intro v275 w32 ho hb hg hat; rw [← Ny274.out] at ho; have n0_ := Aside0.mk (hb); have n1_ := Aside0.mk (ho); clear HB; clear HO273; have HB := n0_; have HO276 := n1_; clear n0_ n1_; clear ho hb hg hat; obtain ⟨Ao33, co33, eo33⟩ := Kd.R_slice HO276.out; subst eo33) | ((with_reducible refine gate_callee (f := 29) rfl ?_); refine goesL_ (some 61) rfl rfl Try.func29 (by kernel_rfl) rfl #[.slice Ao33 y274.length co33] rfl (by (try simp only [List.map_toArray, List.map_cons, List.map_nil]); first | done | rfl | (simp only [List.length_drop, List.length_take]; rfl)) ?_; (with_reducible refine (journal_Encode.calls _ _ y274 t277 t278 _ ?side1 ?side2 A23.out).mono ?_); (case side1 => repeat (first | exact (Kd.R_reads' HO276.out).2.2 | (with_reducible refine Kd.C_alloc ?_ _) | (with_reducible refine Kd.C_drewN ?_ _) | (with_reducible refine Kd.C_drew ?_))); (case side2 => exact (Kd.R_reads' HO276.out).2.1); rintro e w34 ⟨rfl, hb⟩; refine ⟨_, rfl, ?_⟩; have n0_ := Aside0.mk (Kd.R_below (by (with_reducible repeat (first | apply Kd.R_alloc | apply Kd.R_drewN | apply Kd.R_drew)); exact HO276.out) hb); have n1_ := Aside0.mk (below_step (by repeat (first | (with_reducible first | exact HB.out | apply below_alloc | apply pw_below_drewN | apply below_drew1) | exact HB.out)) hb); clear HO276; clear HB; have HO276 := n0_; have HB := n1_; clear n0_ n1_; (try clear hb); (try clear hb2); (try clear hk); (try clear hi)) | ((with_reducible refine gate_callee (f := 32) rfl ?_); refine goesL_ (some 67) rfl rfl Try.func32 (by kernel_rfl) rfl #[.string t266, .slice A1 l1.length c1] rfl (by (try simp only [List.map_toArray, List.map_cons, List.map_nil]); first | done | rfl | (simp only [List.length_drop, List.length_take]; rfl)) ?_; (with_reducible refine (journal_More.calls t266 _ _ l1 t279 t280 _ ?side1 ?side2 A24.out).mono ?_); (case side1 => repeat (first | exact (Kd.C_below HR1.out HB.out) | (with_reducible refine Kd.C_alloc ?_ _) | (with_reducible refine Kd.C_drewN ?_ _) | (with_reducible refine Kd.C_drew ?_))); (case side2 => exact HC1.out); rintro e w35 ⟨rfl, hb⟩; refine ⟨_, rfl, ?_⟩; have n0_ := Aside0.mk (Kd.R_below (by (with_reducible repeat (first | apply Kd.R_alloc | apply Kd.R_drewN | apply Kd.R_drew)); exact HO276.out) hb); have n1_ := Aside0.mk (below_step (by repeat (first | (with_reducible first | exact HB.out | apply below_alloc | apply pw_below_drewN | apply below_drew1) | exact HB.out)) hb); clear HO276; clear HB; have HO276 := n0_; have HB := n1_; clear n0_ n1_; (try clear hb); (try clear hb2); (try clear hk); (try clear hi)) | (go_at_call 12; (with_reducible refine (ringworklaw25_awake.calls  t281 _ A27.out).mono ?_); rintro e w36 ⟨rfl, hb⟩; have n0_ := Aside0.mk (Kd.R_below (by (with_reducible repeat (first | apply Kd.R_alloc | apply Kd.R_drewN | apply Kd.R_drew)); exact HO276.out) hb); have n1_ := Aside0.mk (below_step (by repeat (first | (with_reducible first | exact HB.out | apply below_alloc | apply pw_below_drewN | apply below_drew1) | exact HB.out)) hb); clear HO276; clear HB; have HO276 := n0_; have HB := n1_; clear n0_ n1_; (try clear hb); (try clear hb2); (try clear hk); (try clear hi)))
                        go_ret
                        exact ⟨by first | rfl | (simp [errW_none, errW_some] <;> rfl) | (simp [*, errW_none, errW_some] <;> rfl), by repeat (first | (with_reducible first | exact HB.out | apply below_alloc | apply pw_below_drewN | apply below_drew1) | exact HB.out)⟩
                      · rw [if_neg c26] at H
                        have c26b0 : (t280 == t278) = false := beq_eq_false_iff_ne.mpr c26
                        have c26b1 : (t280 != t278) = true := bne_iff_ne.mpr c26
                        obtain rfl := Option.some.inj H
                        go_wp2_with (first | ((with_reducible refine gate_callee (f := 29) rfl ?_); refine goesL_ (some 49) rfl rfl Try.func29 (by kernel_rfl) rfl #[.slice A0 l0.length c0] rfl (by (try simp only [List.map_toArray, List.map_cons, List.map_nil]); first | done | rfl | (simp only [List.length_drop, List.length_take]; rfl)) ?_; (with_reducible refine (journal_Encode.calls _ _ l0 t266 t267 _ ?side1 ?side2 A19.out).mono ?_); (case side1 => repeat (first | exact (Kd.C_below HR0.out HB.out) | (with_reducible refine Kd.C_alloc ?_ _) | (with_reducible refine Kd.C_drewN ?_ _) | (with_reducible refine Kd.C_drew ?_))); (case side2 => exact HC0.out); rintro e w37 ⟨rfl, hb⟩; refine ⟨_, rfl, ?_⟩; have n0_ := Aside0.mk (below_step (by repeat (first | (with_reducible first | exact HB.out | apply below_alloc | apply pw_below_drewN | apply below_drew1) | exact HB.out)) hb); clear HB; have HB := n0_; clear n0_; (try clear hb); (try clear hb2); (try clear hk); (try clear hi)) | ((with_reducible refine gate_dst (N := 56) rfl ?_); (try (refine gate_guard (by rfl) ?_; dsimp only)); refine Kd.R_lit k39 _ 39 ?hg (N := 56) ?hd (xs := ([] : List (S39))) (inner := []) (ok := fun _ => True) (okp := fun _ => True) ?hr ?hp (fun _ hk => hk) trivial (Below.refl _ _) (Nat.le_refl _) (by simp) ?_; (case hd => rfl); (case hg => rfl); (case hr => first | (go_simp; done) | (go_simp; rfl)); (case hp => exact (Reps.none _ _)); intro v269 w38 ho39 hb hg_ hnew_; clear hg_ hnew_; (first | rw [← Ny268.out] at ho39 | (simp only [Int.reduceToNat] at ho39; rw [← Ny268.out] at ho39)); have n0_ := Aside0.mk (Kd.R_lower ho39 (below_size (by repeat (first | (with_reducible first | exact HB.out | apply below_alloc | apply pw_below_drewN | apply below_drew1) | exact HB.out)))); have n1_ := Aside0.mk (below_step (by repeat (first | (with_reducible first | exact HB.out | apply below_alloc | apply pw_below_drewN | apply below_drew1) | exact HB.out)) hb); clear HB; have HO270 := n0_; have HB := n1_; clear n0_ n1_; clear hb ho39) | ((with_reducible refine gate_builtin (b := .append) (xs := #[.tmp 56, .tmp 57]) rfl ?_); (try (refine gate_guard (by rfl) ?_; dsimp only)); at_builtin; refine Kd.R_append_rows k39 (w0 := w) w.heap.size rfl (.tmp 56) (.tmp 57) 23 39 (.agg #[(.int .i64 0), (.int .i64 0), (.string ⟨#[]⟩), (.bool false), (.string ⟨#[]⟩)]) 56 rfl Try.underlying23 info39 rfl (by decide) (by omega) v269 y268 l0 _ _ _ (fun _ => True) (fun _ => False) rfl rfl ?aO ?aR (fun _ _ h => h) (fun _ h => h.elim) ?aF ?aB ?aS ?aL ?_; (case aR => repeat (first | exact (Kd.C_below HR0.out HB.out) | (with_reducible refine Kd.C_alloc ?_ _) | (with_reducible refine Kd.C_drewN ?_ _) | (with_reducible refine Kd.C_drew ?_))); (case aB => exact (by repeat (first | (with_reducible first | exact HB.out | apply below_alloc | apply pw_below_drewN | apply below_drew1) | exact HB.out))); (case aF => exact (fun _ _ => trivial)); (case aO => exact (by (with_reducible repeat (first | apply Kd.R_alloc | apply Kd.R_drewN | apply Kd.R_drew)); exact HO270.out)); (case aS => exact (below_size (by repeat (first | (with_reducible first | exact HB.out | apply below_alloc | apply pw_below_drewN | apply below_drew1) | exact HB.out)))); (case aL => have := LMc21.out; omega); intro v272 w40 ho hb hg hat; rw [← Ny271.out] at ho; have n0_ := Aside0.mk (hb); have n1_ := Aside0.mk (ho); clear HB; clear HO270; have HB := n0_; have HO273 := n1_; clear n0_ n1_; clear ho hb hg hat) | ((with_reducible refine gate_builtin (b := .append) (xs := #[.tmp 58, .tmp 59]) rfl ?_); (try (refine gate_guard (by rfl) ?_; dsimp only)); at_builtin; refine Kd.R_append_rows k39 (w0 := w) w.heap.size rfl (.tmp 58) (.tmp 59) 23 39 (.agg #[(.int .i64 0), (.int .i64 0), (.string ⟨#[]⟩), (.bool false), (.string ⟨#[]⟩)]) 56 rfl Try.underlying23 info39 rfl (by decide) (by omega) v272 y271 l1 _ _ _ (fun _ => True) (fun _ => False) rfl rfl ?aO ?aR (fun _ _ h => h) (fun _ h => h.elim) ?aF ?aB ?aS ?aL ?_; (case aR => repeat (first | exact (Kd.C_below HR1.out HB.out) | (with_reducible refine Kd.C_alloc ?_ _) | (with_reducible refine Kd.C_drewN ?_ _) | (with_reducible refine Kd.C_drew ?_))); (case aB => exact (by repeat (first | (with_reducible first | exact HB.out | apply below_alloc | apply pw_below_drewN | apply below_drew1) | exact HB.out))); (case aF => exact (fun _ _ => trivial)); (case aO => exact (by (with_reducible repeat (first | apply Kd.R_alloc | apply Kd.R_drewN | apply Kd.R_drew)); exact HO273.out)); (case aS => exact (below_size (by repeat (first | (with_reducible first | exact HB.out | apply below_alloc | apply pw_below_drewN | apply below_drew1) | exact HB.out)))); (case aL => have := LMc22.out; omega); intro v275 w41 ho hb hg hat; rw [← Ny274.out] at ho; have n0_ := Aside0.mk (hb); have n1_ := Aside0.mk (ho); clear HB; clear HO273; have HB := n0_; have HO276 := n1_; clear n0_ n1_; clear ho hb hg hat; obtain ⟨Ao42, co42, eo42⟩ := Kd.R_slice HO276.out; subst eo42) | ((with_reducible refine gate_callee (f := 29) rfl ?_); refine goesL_ (some 61) rfl rfl Try.func29 (by kernel_rfl) rfl #[.slice Ao42 y274.length co42] rfl (by (try simp only [List.map_toArray, List.map_cons, List.map_nil]); first | done | rfl | (simp only [List.length_drop, List.length_take]; rfl)) ?_; (with_reducible refine (journal_Encode.calls _ _ y274 t277 t278 _ ?side1 ?side2 A23.out).mono ?_); (case side1 => repeat (first | exact (Kd.R_reads' HO276.out).2.2 | (with_reducible refine Kd.C_alloc ?_ _) | (with_reducible refine Kd.C_drewN ?_ _) | (with_reducible refine Kd.C_drew ?_))); (case side2 => exact (Kd.R_reads' HO276.out).2.1); rintro e w43 ⟨rfl, hb⟩; refine ⟨_, rfl, ?_⟩; have n0_ := Aside0.mk (Kd.R_below (by (with_reducible repeat (first | apply Kd.R_alloc | apply Kd.R_drewN | apply Kd.R_drew)); exact HO276.out) hb); have n1_ := Aside0.mk (below_step (by repeat (first | (with_reducible first | exact HB.out | apply below_alloc | apply pw_below_drewN | apply below_drew1) | exact HB.out)) hb); clear HO276; clear HB; have HO276 := n0_; have HB := n1_; clear n0_ n1_; (try clear hb); (try clear hb2); (try clear hk); (try clear hi)) | ((with_reducible refine gate_callee (f := 32) rfl ?_); refine goesL_ (some 67) rfl rfl Try.func32 (by kernel_rfl) rfl #[.string t266, .slice A1 l1.length c1] rfl (by (try simp only [List.map_toArray, List.map_cons, List.map_nil]); first | done | rfl | (simp only [List.length_drop, List.length_take]; rfl)) ?_; (with_reducible refine (journal_More.calls t266 _ _ l1 t279 t280 _ ?side1 ?side2 A24.out).mono ?_); (case side1 => repeat (first | exact (Kd.C_below HR1.out HB.out) | (with_reducible refine Kd.C_alloc ?_ _) | (with_reducible refine Kd.C_drewN ?_ _) | (with_reducible refine Kd.C_drew ?_))); (case side2 => exact HC1.out); rintro e w44 ⟨rfl, hb⟩; refine ⟨_, rfl, ?_⟩; have n0_ := Aside0.mk (Kd.R_below (by (with_reducible repeat (first | apply Kd.R_alloc | apply Kd.R_drewN | apply Kd.R_drew)); exact HO276.out) hb); have n1_ := Aside0.mk (below_step (by repeat (first | (with_reducible first | exact HB.out | apply below_alloc | apply pw_below_drewN | apply below_drew1) | exact HB.out)) hb); clear HO276; clear HB; have HO276 := n0_; have HB := n1_; clear n0_ n1_; (try clear hb); (try clear hb2); (try clear hk); (try clear hi)))
                        go_ret
                        exact ⟨by first | rfl | (simp [errW_none, errW_some] <;> rfl) | (simp [*, errW_none, errW_some] <;> rfl), by repeat (first | (with_reducible first | exact HB.out | apply below_alloc | apply pw_below_drewN | apply below_drew1) | exact HB.out)⟩
                    · rw [if_neg c25] at H
                      have c25b0 : (t279.toList == t277.toList) = false := beq_eq_false_iff_ne.mpr c25
                      have c25b1 : (t279.toList != t277.toList) = true := bne_iff_ne.mpr c25
                      obtain rfl := Option.some.inj H
                      go_wp2_with (first | ((with_reducible refine gate_callee (f := 29) rfl ?_); refine goesL_ (some 49) rfl rfl Try.func29 (by kernel_rfl) rfl #[.slice A0 l0.length c0] rfl (by (try simp only [List.map_toArray, List.map_cons, List.map_nil]); first | done | rfl | (simp only [List.length_drop, List.length_take]; rfl)) ?_; (with_reducible refine (journal_Encode.calls _ _ l0 t266 t267 _ ?side1 ?side2 A19.out).mono ?_); (case side1 => repeat (first | exact (Kd.C_below HR0.out HB.out) | (with_reducible refine Kd.C_alloc ?_ _) | (with_reducible refine Kd.C_drewN ?_ _) | (with_reducible refine Kd.C_drew ?_))); (case side2 => exact HC0.out); rintro e w45 ⟨rfl, hb⟩; refine ⟨_, rfl, ?_⟩; have n0_ := Aside0.mk (below_step (by repeat (first | (with_reducible first | exact HB.out | apply below_alloc | apply pw_below_drewN | apply below_drew1) | exact HB.out)) hb); clear HB; have HB := n0_; clear n0_; (try clear hb); (try clear hb2); (try clear hk); (try clear hi)) | ((with_reducible refine gate_dst (N := 56) rfl ?_); (try (refine gate_guard (by rfl) ?_; dsimp only)); refine Kd.R_lit k39 _ 39 ?hg (N := 56) ?hd (xs := ([] : List (S39))) (inner := []) (ok := fun _ => True) (okp := fun _ => True) ?hr ?hp (fun _ hk => hk) trivial (Below.refl _ _) (Nat.le_refl _) (by simp) ?_; (case hd => rfl); (case hg => rfl); (case hr => first | (go_simp; done) | (go_simp; rfl)); (case hp => exact (Reps.none _ _)); intro v269 w46 ho47 hb hg_ hnew_; clear hg_ hnew_; (first | rw [← Ny268.out] at ho47 | (simp only [Int.reduceToNat] at ho47; rw [← Ny268.out] at ho47)); have n0_ := Aside0.mk (Kd.R_lower ho47 (below_size (by repeat (first | (with_reducible first | exact HB.out | apply below_alloc | apply pw_below_drewN | apply below_drew1) | exact HB.out)))); have n1_ := Aside0.mk (below_step (by repeat (first | (with_reducible first | exact HB.out | apply below_alloc | apply pw_below_drewN | apply below_drew1) | exact HB.out)) hb); clear HB; have HO270 := n0_; have HB := n1_; clear n0_ n1_; clear hb ho47) | ((with_reducible refine gate_builtin (b := .append) (xs := #[.tmp 56, .tmp 57]) rfl ?_); (try (refine gate_guard (by rfl) ?_; dsimp only)); at_builtin; refine Kd.R_append_rows k39 (w0 := w) w.heap.size rfl (.tmp 56) (.tmp 57) 23 39 (.agg #[(.int .i64 0), (.int .i64 0), (.string ⟨#[]⟩), (.bool false), (.string ⟨#[]⟩)]) 56 rfl Try.underlying23 info39 rfl (by decide) (by omega) v269 y268 l0 _ _ _ (fun _ => True) (fun _ => False) rfl rfl ?aO ?aR (fun _ _ h => h) (fun _ h => h.elim) ?aF ?aB ?aS ?aL ?_; (case aR => repeat (first | exact (Kd.C_below HR0.out HB.out) | (with_reducible refine Kd.C_alloc ?_ _) | (with_reducible refine Kd.C_drewN ?_ _) | (with_reducible refine Kd.C_drew ?_))); (case aB => exact (by repeat (first | (with_reducible first | exact HB.out | apply below_alloc | apply pw_below_drewN | apply below_drew1) | exact HB.out))); (case aF => exact (fun _ _ => trivial)); (case aO => exact (by (with_reducible repeat (first | apply Kd.R_alloc | apply Kd.R_drewN | apply Kd.R_drew)); exact HO270.out)); (case aS => exact (below_size (by repeat (first | (with_reducible first | exact HB.out | apply below_alloc | apply pw_below_drewN | apply below_drew1) | exact HB.out)))); (case aL => have := LMc21.out; omega); intro v272 w48 ho hb hg hat; rw [← Ny271.out] at ho; have n0_ := Aside0.mk (hb); have n1_ := Aside0.mk (ho); clear HB; clear HO270; have HB := n0_; have HO273 := n1_; clear n0_ n1_; clear ho hb hg hat) | ((with_reducible refine gate_builtin (b := .append) (xs := #[.tmp 58, .tmp 59]) rfl ?_); (try (refine gate_guard (by rfl) ?_; dsimp only)); at_builtin; refine Kd.R_append_rows k39 (w0 := w) w.heap.size rfl (.tmp 58) (.tmp 59) 23 39 (.agg #[(.int .i64 0), (.int .i64 0), (.string ⟨#[]⟩), (.bool false), (.string ⟨#[]⟩)]) 56 rfl Try.underlying23 info39 rfl (by decide) (by omega) v272 y271 l1 _ _ _ (fun _ => True) (fun _ => False) rfl rfl ?aO ?aR (fun _ _ h => h) (fun _ h => h.elim) ?aF ?aB ?aS ?aL ?_; (case aR => repeat (first | exact (Kd.C_below HR1.out HB.out) | (with_reducible refine Kd.C_alloc ?_ _) | (with_reducible refine Kd.C_drewN ?_ _) | (with_reducible refine Kd.C_drew ?_))); (case aB => exact (by repeat (first | (with_reducible first | exact HB.out | apply below_alloc | apply pw_below_drewN | apply below_drew1) | exact HB.out))); (case aF => exact (fun _ _ => trivial)); (case aO => exact (by (with_reducible repeat (first | apply Kd.R_alloc | apply Kd.R_drewN | apply Kd.R_drew)); exact HO273.out)); (case aS => exact (below_size (by repeat (first | (with_reducible first | exact HB.out | apply below_alloc | apply pw_below_drewN | apply below_drew1) | exact HB.out)))); (case aL => have := LMc22.out; omega); intro v275 w49 ho hb hg hat; rw [← Ny274.out] at ho; have n0_ := Aside0.mk (hb); have n1_ := Aside0.mk (ho); clear HB; clear HO273; have HB := n0_; have HO276 := n1_; clear n0_ n1_; clear ho hb hg hat; obtain ⟨Ao50, co50, eo50⟩ := Kd.R_slice HO276.out; subst eo50) | ((with_reducible refine gate_callee (f := 29) rfl ?_); refine goesL_ (some 61) rfl rfl Try.func29 (by kernel_rfl) rfl #[.slice Ao50 y274.length co50] rfl (by (try simp only [List.map_toArray, List.map_cons, List.map_nil]); first | done | rfl | (simp only [List.length_drop, List.length_take]; rfl)) ?_; (with_reducible refine (journal_Encode.calls _ _ y274 t277 t278 _ ?side1 ?side2 A23.out).mono ?_); (case side1 => repeat (first | exact (Kd.R_reads' HO276.out).2.2 | (with_reducible refine Kd.C_alloc ?_ _) | (with_reducible refine Kd.C_drewN ?_ _) | (with_reducible refine Kd.C_drew ?_))); (case side2 => exact (Kd.R_reads' HO276.out).2.1); rintro e w51 ⟨rfl, hb⟩; refine ⟨_, rfl, ?_⟩; have n0_ := Aside0.mk (Kd.R_below (by (with_reducible repeat (first | apply Kd.R_alloc | apply Kd.R_drewN | apply Kd.R_drew)); exact HO276.out) hb); have n1_ := Aside0.mk (below_step (by repeat (first | (with_reducible first | exact HB.out | apply below_alloc | apply pw_below_drewN | apply below_drew1) | exact HB.out)) hb); clear HO276; clear HB; have HO276 := n0_; have HB := n1_; clear n0_ n1_; (try clear hb); (try clear hb2); (try clear hk); (try clear hi)) | ((with_reducible refine gate_callee (f := 32) rfl ?_); refine goesL_ (some 67) rfl rfl Try.func32 (by kernel_rfl) rfl #[.string t266, .slice A1 l1.length c1] rfl (by (try simp only [List.map_toArray, List.map_cons, List.map_nil]); first | done | rfl | (simp only [List.length_drop, List.length_take]; rfl)) ?_; (with_reducible refine (journal_More.calls t266 _ _ l1 t279 t280 _ ?side1 ?side2 A24.out).mono ?_); (case side1 => repeat (first | exact (Kd.C_below HR1.out HB.out) | (with_reducible refine Kd.C_alloc ?_ _) | (with_reducible refine Kd.C_drewN ?_ _) | (with_reducible refine Kd.C_drew ?_))); (case side2 => exact HC1.out); rintro e w52 ⟨rfl, hb⟩; refine ⟨_, rfl, ?_⟩; have n0_ := Aside0.mk (Kd.R_below (by (with_reducible repeat (first | apply Kd.R_alloc | apply Kd.R_drewN | apply Kd.R_drew)); exact HO276.out) hb); have n1_ := Aside0.mk (below_step (by repeat (first | (with_reducible first | exact HB.out | apply below_alloc | apply pw_below_drewN | apply below_drew1) | exact HB.out)) hb); clear HO276; clear HB; have HO276 := n0_; have HB := n1_; clear n0_ n1_; (try clear hb); (try clear hb2); (try clear hk); (try clear hi)))
                      go_ret
                      exact ⟨by first | rfl | (simp [errW_none, errW_some] <;> rfl) | (simp [*, errW_none, errW_some] <;> rfl), by repeat (first | (with_reducible first | exact HB.out | apply below_alloc | apply pw_below_drewN | apply below_drew1) | exact HB.out)⟩
                  · rw [if_neg c22] at H
                    exact absurd H (by simp)
                · rw [if_neg c21] at H
                  exact absurd H (by simp)
              · rw [if_neg c20] at H
                have c20b0 : (t267 == 0) = false := beq_eq_false_iff_ne.mpr c20
                have c20b1 : (t267 != 0) = true := bne_iff_ne.mpr c20
                replace H := Option.bind_eq_some_iff.mp H
                obtain ⟨t282, A530, H⟩ := H
                replace H : (some t282) = some r := H
                have A53 := Aside0.mk A530
                clear A530
                obtain rfl := Option.some.inj H
                go_wp2_with (first | ((with_reducible refine gate_callee (f := 29) rfl ?_); refine goesL_ (some 49) rfl rfl Try.func29 (by kernel_rfl) rfl #[.slice A0 l0.length c0] rfl (by (try simp only [List.map_toArray, List.map_cons, List.map_nil]); first | done | rfl | (simp only [List.length_drop, List.length_take]; rfl)) ?_; (with_reducible refine (journal_Encode.calls _ _ l0 t266 t267 _ ?side1 ?side2 A19.out).mono ?_); (case side1 => repeat (first | exact (Kd.C_below HR0.out HB.out) | (with_reducible refine Kd.C_alloc ?_ _) | (with_reducible refine Kd.C_drewN ?_ _) | (with_reducible refine Kd.C_drew ?_))); (case side2 => exact HC0.out); rintro e w54 ⟨rfl, hb⟩; refine ⟨_, rfl, ?_⟩; have n0_ := Aside0.mk (below_step (by repeat (first | (with_reducible first | exact HB.out | apply below_alloc | apply pw_below_drewN | apply below_drew1) | exact HB.out)) hb); clear HB; have HB := n0_; clear n0_; (try clear hb); (try clear hb2); (try clear hk); (try clear hi)) | ((with_reducible refine gate_callee (f := 12) rfl ?_); refine goesL_ (some 54) rfl rfl Try.func12 (by kernel_rfl) rfl #[] rfl (by (try simp only [List.map_toArray, List.map_cons, List.map_nil]); first | done | rfl | (simp only [List.length_drop, List.length_take]; rfl)) ?_; (with_reducible refine (ringworklaw25_awake.calls  t282 _ A53.out).mono ?_); rintro e w55 ⟨rfl, hb⟩; refine ⟨_, rfl, ?_⟩; have n0_ := Aside0.mk (below_step (by repeat (first | (with_reducible first | exact HB.out | apply below_alloc | apply pw_below_drewN | apply below_drew1) | exact HB.out)) hb); clear HB; have HB := n0_; clear n0_; (try clear hb); (try clear hb2); (try clear hk); (try clear hi)))
                go_ret
                exact ⟨by first | rfl | (simp [errW_none, errW_some] <;> rfl) | (simp [*, errW_none, errW_some] <;> rfl), by repeat (first | (with_reducible first | exact HB.out | apply below_alloc | apply pw_below_drewN | apply below_drew1) | exact HB.out)⟩

end Go.Proofs.Yteblpjnkinghoaa.J
/- JournalMore, the plain law. -/
set_option linter.unusedVariables false
set_option linter.unusedSimpArgs false
namespace Go.Proofs.Yteblpjnkinghoaa.J
open Go.RowKit Go.Proofs.YteblpjnkinghoaaW.PrintWords Go.Proofs.YteblpjnkinghoaaW.PrintLast Go.Proofs.YteblpjnkinghoaaW.PrintMore
/-- What More answers, of bytes that are not too long. -/
def moreV (s : ByteArray) (m : List S39) : ByteArray × Int :=
  if (decide (m.length ≤ 1000) && m.all vld) = true then
    (if (decGo s (s.size + 1) 0 0).2.2.2.2 = 0 then
       (if (decGo s (s.size + 1) 0 0).2.2.2.1 = true then (⟨#[]⟩, 9)
        else if ((s ++ allB (decGo s (s.size + 1) 0 0).2.2.1 m).size : Int) > 65536 then (⟨#[]⟩, 3) else (s ++ allB (decGo s (s.size + 1) 0 0).2.2.1 m, 0))
     else (⟨#[]⟩, (decGo s (s.size + 1) 0 0).2.2.2.2))
  else (⟨#[]⟩, 1)
theorem more_prog (s : ByteArray) (m : List S39) (hs : s.size ≤ 65536) : journal_More.f s m = some (moreV s m) := by
  unfold journal_More.f moreV
  split
  · rw [if_neg (by omega)]
    split
    · split
      · rfl
      · split <;> rfl
    · rfl
  · rfl
theorem more_ref (s : ByteArray) (m : List S39) (hs : s.size ≤ 65536) (hm : m.length ≤ 9223372036854775807) : Ev (fun k => ringworkref25_More.f k s m) (moreV s m) := by
  unfold ringworkref25_More.f moreV
  refine Ev.bind (ref_notes m hm) ?_
  by_cases hv : (decide (m.length ≤ 1000) && m.all vld) = true
  · simp only [if_pos hv]
    have hv2 := hv
    rw [Bool.and_eq_true, decide_eq_true_eq] at hv2
    have hvl : ∀ n ∈ m, vld n = true := fun n hn => List.all_eq_true.1 hv2.2 n hn
    refine Ev.bind (dec_ref s hs) ?_
    simp only
    generalize decGo s (s.size + 1) 0 0 = D
    by_cases he : D.2.2.2.2 = 0
    · simp only [if_pos he]
      by_cases ht : D.2.2.2.1 = true
      · simp only [if_pos ht]; exact Ev.val _
      · simp only [if_neg ht]
        refine Ev.bind (ref_all D.2.2.1 m hvl hv2.1) ?_
        have hle := allB_le m hvl D.2.2.1
        simp only [if_pos (show s.size + (allB D.2.2.1 m).size ≤ 9223372036854775807 by omega)]
        exact Ev.congr (Ev.val _) (fun k => by split <;> rfl)
    · simp only [if_neg he]; exact Ev.val _
  · simp only [if_neg hv]; exact Ev.val _
theorem more_enc (l m : List S39) (h : (encV l).2 = 0) (hl : l.length ≤ 60) (hm : m.length ≤ 60) : moreV (encV l).1 m = encV (l ++ m) := by
  obtain ⟨hv, he, hsz⟩ := encV_ok h
  have hfull := dec_enc l hv 0 ⟨#[]⟩ ((allB 0 l).size + 1) (by omega)
  rw [empty_append] at hfull
  have hfull : decGo (allB 0 l) ((allB 0 l).size + 1) 0 0 = (l, ((allB 0 l).size : Int), lastS 0 l, false, 0) := hfull
  have hall : l.all vld = true := List.all_eq_true.2 hv
  rw [he]
  unfold moreV encV
  rw [hfull, List.all_append, hall, Bool.true_and, List.length_append, decide_eq_true (show m.length ≤ 1000 by omega), decide_eq_true (show l.length + m.length ≤ 1000 by omega), Bool.true_and, allB_append]
  simp only [if_true, Bool.false_eq_true, if_false]
theorem more_law (l m : List S39) (s : ByteArray) (hl : l.length ≤ 9223372036854775807) (hm : m.length ≤ 9223372036854775807) (_ : s.size ≤ 140737488351232) : Ev (fun k => ringworklaw25_JournalMore.f k l m s) true := by
  have hawake : Ev (fun k => ringworklaw25_JournalMore.j0 k l m s true) true := Ev.step (fun k => by rw [ringworklaw25_JournalMore.j0, if_pos rfl, awake_true, Option.bind_some]) (Ev.val _)
  unfold ringworklaw25_JournalMore.f
  obtain ⟨b, hb, hb60⟩ := notes_guard l hl
  refine Ev.bind hb ?_
  cases b with
  | false => simp only [Bool.false_eq_true, if_false]; exact hawake
  | true =>
    simp only [if_true]
    obtain ⟨b2, hb2, hb260⟩ := notes_guard m hm
    refine Ev.bind hb2 ?_
    cases b2 with
    | false => simp only [Bool.false_eq_true, if_false]; exact hawake
    | true =>
      simp only [if_true]
      have hl60 := hb60 rfl
      have hm60 := hb260 rfl
      by_cases hs : (s.size : Int) > 3000
      · rw [decide_eq_true hs]; exact hawake
      · rw [decide_eq_false hs]
        refine Ev.step (fun k => by rw [ringworklaw25_JournalMore.j0, if_neg (by decide), more_prog s m (by omega), Option.bind_some]) ?_
        refine Ev.bind (more_ref s m (by omega) hm) ?_
        simp only [if_true, bne_self_eq_false]
        refine Ev.step (fun k => by rw [ringworklaw25_JournalMore.j1, if_neg (by decide), enc_prog, Option.bind_some]) ?_
        by_cases he : (encV l).2 = 0
        · have hsz := encV_small l
          simp only [if_pos he, Option.bind_some, List.length_nil, List.nil_append, if_pos (show 0 + l.length < 2513169434916 by omega), if_pos (show l.length + m.length < 2513169434916 by omega), enc_prog, more_prog _ m hsz, more_enc l m he hl60 hm60, if_true, awake_true]
          exact Ev.val _
        · simp only [if_neg he, awake_true, Option.bind_some]
          exact Ev.val _
end Go.Proofs.Yteblpjnkinghoaa.J
/- A slice of images, or of notes, that reads as data: its cells. -/
namespace Go.Proofs.Yteblpjnkinghoaa.J
open Go.RowKit Go.Deep Go.ChangeShapes Go.WideShapes Go.Proofs.YteblpjnkinghoaaW.PrintWords
section
variable {H : Type} {enc : TypeId × Value → H} {w : World} {base : Nat} {spare : Nat → Bool} {held : Bool}
set_option maxRecDepth 100000 in
theorem reads39 {fuel : Nat} {A : Option Addr} {n c : Nat} {x : DataW H × List MemPlace} (h : DataW.trod enc Try.prog w base spare held fuel 23 [.slice A n c] = some x) : ∃ l : List S39, l.length = n ∧ n ≤ c ∧ Kd.C k39 w A n l := by
  rcases open_slice Try.underlying23 h with ⟨hc, _⟩ | ⟨a, len, cap, m, q, D, Pl, hc, hb, hl, hm, hmm, _, hx⟩
  · simp at hc
    obtain ⟨rfl, rfl, rfl⟩ := hc
    exact ⟨[], rfl, Nat.le_refl _, Kd.C_nil _ _⟩
  · simp at hc
    obtain ⟨rfl, rfl, rfl⟩ := hc
    have hlm : n ≤ m := by rw [hmm]; split <;> omega
    have each : ∀ i, i < n → ∃ y : S39, w.cell? (a.add (i * 5)) = some (.int .i64 y.f0) ∧ w.cell? (a.add (i * 5 + 1)) = some (.int .i64 y.f1) ∧ w.cell? (a.add (i * 5 + 2)) = some (.string y.f2) ∧ w.cell? (a.add (i * 5 + 3)) = some (.bool y.f3) ∧ w.cell? (a.add (i * 5 + 4)) = some (.string y.f4) := fun i hi => by
      obtain ⟨cs', h1, h2⟩ := hx i (by omega)
      have ce : Try.prog.cellsOf 39 = 5 := by kernel_rfl
      rw [ce] at h1
      obtain ⟨_, hlen, hcell⟩ := World.cells?_some h1
      obtain ⟨xs, k, _, _, _, hxl, hf⟩ := DataW.trod_struct Try.underlying39 h2
      match xs, hxl, cs', hlen with
      | [y0, y1, y2, y3, y4], _, [v0, v1, v2, v3, v4], _ =>
        have c9 : Try.prog.cellsOf 9 = 1 := by kernel_rfl
        have c4 : Try.prog.cellsOf 4 = 1 := by kernel_rfl
        have c3 : Try.prog.cellsOf 3 = 1 := by kernel_rfl
        have g0 := hf 0 _ rfl
        have g1 := hf 1 _ rfl
        have g2 := hf 2 _ rfl
        have g3 := hf 3 _ rfl
        have g4 := hf 4 _ rfl
        simp [c9, c4, c3] at g0 g1 g2 g3 g4
        obtain ⟨s0, e0, _⟩ := DataW.trod_int Try.underlying3 g0
        obtain ⟨s1, e1, _⟩ := DataW.trod_int Try.underlying3 g1
        obtain ⟨s2, e2, _⟩ := DataW.trod_string Try.underlying9 g2
        obtain ⟨s3, e3, _⟩ := DataW.trod_bool Try.underlying4 g3
        obtain ⟨s4, e4, _⟩ := DataW.trod_string Try.underlying9 g4
        cases e0; cases e1; cases e2; cases e3; cases e4
        have q0 := hcell 0 (by omega)
        have q1 := hcell 1 (by omega)
        have q2 := hcell 2 (by omega)
        have q3 := hcell 3 (by omega)
        have q4 := hcell 4 (by omega)
        rw [Deep.add_add] at q0 q1 q2 q3 q4
        exact ⟨⟨s0, s1, s2, s3, s4⟩, by simpa using q0, by simpa using q1, by simpa using q2, by simpa using q3, by simpa using q4⟩
    haveI : Inhabited S39 := ⟨⟨0, 0, ⟨#[]⟩, false, ⟨#[]⟩⟩⟩
    obtain ⟨f, hf⟩ := choose_lt each
    refine ⟨(List.range n).map f, by simp, hl, by simp, by simp only [maxLen] at hm; omega, fun _ => ⟨a, rfl, fun j p hj => ?_⟩⟩
    rw [List.getElem?_map] at hj
    obtain ⟨j', hj', rfl⟩ := Option.map_eq_some_iff.1 hj
    have hjn : j < n := by have := (List.getElem?_eq_some_iff.1 hj').1; simpa using this
    have : j' = j := by rw [List.getElem?_range hjn] at hj'; exact (Option.some.inj hj').symm
    subst this
    obtain ⟨q0, q1, q2, q3, q4⟩ := hf j' hjn
    refine ⟨_, rfl, k39_mk w (f j'), fun i u hu => ?_⟩
    have : i = 0 ∨ i = 1 ∨ i = 2 ∨ i = 3 ∨ i = 4 := by have := (List.getElem?_eq_some_iff.1 hu).1; simp at this; omega
    rcases this with rfl | rfl | rfl | rfl | rfl <;> cases hu
    · exact q0
    · exact q1
    · exact q2
    · exact q3
    · exact q4
end
end Go.Proofs.Yteblpjnkinghoaa.J
/- the law JournalMore holds of every input: it returns true, and its arguments read behind the call as they read before. Conditions: none. -/
namespace Go.Proofs.Yteblpjnkinghoaa.journalMore
open Go.ChangeShapes Go.WideShapes Go.ChangeAt Go.RowKit Go.Proofs.Yteblpjnkinghoaa.J
open Go.ChangeMaps (open_string shut_string)
theorem own : ownKnob Try.prog.godebug = none := by kernel_rfl
theorem laidOut : laidOutB Try.prog = true := by kernel_rfl
set_option maxRecDepth 100000 in
theorem lifted (os : Os) (started : os.Started) (H : Type) (enc : TypeId × Value → H) :
    ReturnsInHanded {} Try.checked os 9 .any (Rows.journalMoreSpec.pre6 enc Try.prog Try.f9 Rows.journalMoreRow.domain false) (Rows.journalMoreSpec.post enc Try.prog Try.f9 false true false false) := by
  refine returnsInHanded_of_change_sized (C := Try.checked) own started (by kernel_rfl) Try.func9
    (ChangeSpec.witness6 (enc := enc) (C := Try.checked) false ⟨#[], #[.slice none 0 0, .slice none 0 0, .string ByteArray.empty], []⟩ 8 (by kernel_rfl) (by kernel_rfl) (by kernel_rfl) (by kernel_rfl)) ?_
  intro W base args ds gs before hval0 hW hcnd hsz0 _
  have hsz : (DataW.weightsEach Try.prog (Try.f9.params.toList ++ Rows.journalMoreSpec.plain.varTypes Try.prog) (ds ++ gs)).all (· ≤ reachBytes) = true := hsz0
  have hval : ∀ (j : Nat) t v, Try.f9.params[j]? = some t → args[j]? = some v → Value.okWide Try.prog W .any base t v := hval0
  have hW' := hW
  obtain ⟨p, q, hA0, hV, rfl, hfz, hnd⟩ := hW
  have hA : DataW.TrodAll enc Try.prog W 0 (fun _ => true) true Try.f9.params.toList args.toList ds p := hA0
  rw [Try.params9] at hA hval hsz
  obtain ⟨v0, vs0, d0, ds0, p0, q0, hargs, rfl, rfl, h0, r0⟩ := trodAll_cons hA
  obtain ⟨v1, vs1, d1, ds1, p1, q1, rfl, rfl, rfl, h1, r1⟩ := trodAll_cons r0
  obtain ⟨v2, vs2, d2, ds2, p2, q2, rfl, rfl, rfl, h2, r2⟩ := trodAll_cons r1
  obtain ⟨rfl, rfl, rfl⟩ := trodAll_nil r2
  obtain rfl : args = #[v0, v1, v2] := by cases args; simp_all
  obtain ⟨rfl, rfl⟩ := trodVars_none hV
  obtain ⟨a0, len0, cap0, rfl⟩ := okWide_slice Try.underlying23 (hval 0 23 v0 rfl rfl)
  have k0 := h0
  have lt0 : ∀ x ∈ p0, x.block < W.heap.size := by obtain ⟨m, hm⟩ := k0; exact DataW.trod_lt m _ _ _ hm
  obtain ⟨l0, rfl, hc0, hr0⟩ : ∃ l, List.length l = len0 ∧ len0 ≤ cap0 ∧ Go.Proofs.YteblpjnkinghoaaW.PrintWords.Kd.C k39 W a0 len0 l := by obtain ⟨fuel, hf⟩ := h0; exact reads39 hf
  obtain ⟨a1, len1, cap1, rfl⟩ := okWide_slice Try.underlying23 (hval 1 23 v1 rfl rfl)
  have k1 := h1
  have lt1 : ∀ x ∈ p1, x.block < W.heap.size := by obtain ⟨m, hm⟩ := k1; exact DataW.trod_lt m _ _ _ hm
  obtain ⟨l1, rfl, hc1, hr1⟩ : ∃ l, List.length l = len1 ∧ len1 ≤ cap1 ∧ Go.Proofs.YteblpjnkinghoaaW.PrintWords.Kd.C k39 W a1 len1 l := by obtain ⟨fuel, hf⟩ := h1; exact reads39 hf
  obtain ⟨a2, rfl, rfl, rfl, y2⟩ := open_string Try.underlying9 (hval 2 9 v2 rfl rfl) h2
  have w2 : a2.size ≤ 140737488351232 := by
    have z := sized_string hsz (j := 2) (t := 9) rfl rfl
    rw [Array.length_toList] at z
    exact z
  clear hA0 hval0 hsz0 hsz
  obtain ⟨k, hk⟩ := (more_law l0 l1 a2 (Go.Proofs.YteblpjnkinghoaaW.PrintWords.Kd.C_max hr0) (Go.Proofs.YteblpjnkinghoaaW.PrintWords.Kd.C_max hr1) w2).ex
  refine (ringworklaw25_JournalMore.calls k a0 cap0 l0 a1 cap1 l1 a2 true W hr0 hc0 hr1 hc1 hk).mono fun e W' ⟨he, bel⟩ => ?_
  subst he
  exact ⟨_, rfl, _, _, _, [], _, [], hW', trodAll_mk1 (shut_bool Try.underlying4 _), (trodAll_cons_mk (Below.trod laidOut (by kernel_rfl) (of_decide_eq_true (by kernel_rfl)) k0 bel lt0) (trodAll_cons_mk (Below.trod laidOut (by kernel_rfl) (of_decide_eq_true (by kernel_rfl)) k1 bel lt1) (trodAll_cons_mk (shut_string Try.underlying9 y2) trodAll_mk0))), rfl, bel.frame _, fun h => by cases h⟩
theorem over : Rows.journalMoreRow.holds Try.pinned (OpenSpec.ofChange Rows.journalMoreSpec) :=
  OpenClaim.holds_of_wide 9 Try.f9 rfl rfl rfl rfl rfl rfl rfl ⟨rfl, rfl, rfl, rfl, rfl⟩ rfl rfl rfl rfl rfl (by kernel_rfl) Try.func9 (by kernel_rfl)
    (of_decide_eq_true (by kernel_rfl)) (by unfold Func.isWrapper; first | (rw [if_pos (by decide +kernel)]; kernel_rfl) | (rw [if_neg (by decide +kernel)]; exact ⟨rfl, rfl⟩))
    (fun os started H enc _ => lifted os started H enc)
theorem proved : Rows.JournalMoreSaid := over
#print axioms proved
end Go.Proofs.Yteblpjnkinghoaa.journalMore
namespace Go.Proofs.Yteblpjnkinghoaa
/-- The row, under a short name, for the claim. -/
theorem journalMore_holds : Rows.JournalMoreSaid := journalMore.proved
end Go.Proofs.Yteblpjnkinghoaa
