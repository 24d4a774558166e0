/- Lemmas and contracts (part 2) on which the claim's last text leans: The statement JournalReads: Decode is that of 25.1, for all bytes. No condition. -/
import Derived.StillTailTactics
import Derived.Laws.DeepStrings4
import Derived.Defers
import Derived.Recover
import Derived.Deep.RegionWith
import Derived.Test.YteblpjnkinghoaaReaM1
set_option linter.unusedVariables false
set_option linter.unusedSimpArgs false
/- What journal.Wrong keeps while it walks over a journal, and how its memory holds it. -/
namespace Go.Proofs.Yteblpjnkinghoaa.J
open Go.BigFrame Go.RowKit Go.Proofs.YteblpjnkinghoaaW.PrintWords Go.Proofs.YteblpjnkinghoaaW.PrintLast Go.Proofs.YteblpjnkinghoaaW.PrintMore Go.Proofs.YteblpjnkinghoaaW.Mw
/-- The units that go on, each with its keys; and the keys that are taken, each by its unit. -/
structure WSt where
  on : Int → Option (ByteArray → Bool)
  tk : ByteArray → Option Int
def WSt.set (st : WSt) (u : Int) (x : Option (ByteArray → Bool)) : Int → Option (ByteArray → Bool) := fun v => if v = u then x else st.on v
/-- One note. -/
def wrongStep (st : WSt) (n : S39) : Int ⊕ WSt :=
  if n.f0 ≠ 6 ∧ (st.on n.f1).isSome = decide (n.f0 = 1) then .inl 9
  else if n.f0 = 1 then .inr ⟨st.set n.f1 (some fun _ => false), st.tk⟩
  else if n.f0 = 3 ∨ n.f0 = 2 then
    (let K := (st.on n.f1).getD fun _ => false
     if n.f0 = 3 ∧ K n.f2 = false then .inl 8
     else if (st.tk n.f2).any (· ≠ n.f1) then .inl 6
     else .inr ⟨st.set n.f1 (some fun k => if k = n.f2 then true else K k), fun k => if k = n.f2 then some n.f1 else st.tk k⟩)
  else if n.f0 = 4 ∨ n.f0 = 5 ∨ n.f0 = 7 then
    (let K := (st.on n.f1).getD fun _ => false
     .inr ⟨st.set n.f1 (if n.f0 = 4 then some fun _ => false else none), fun k => if K k = true then none else st.tk k⟩)
  else .inr st
def wrongFrom : List S39 → Nat → WSt → Int × Int
  | [], _, _ => (-1, 0)
  | n :: l, i, st => match wrongStep st n with
    | .inl e => ((i : Int), e)
    | .inr st' => wrongFrom l (i + 1) st'
def journal_Wrong.f (l0 : List (S39)) : Option (Int × Int) :=
  if l0.length ≤ 1000 ∧ l0.all vld = true then some (wrongFrom l0 0 ⟨fun _ => none, fun _ => none⟩) else some (0, 1)
/-! ### How memory holds it -/
noncomputable def KI : Keys Try.prog 3 Int := intKeys Try.prog 3 Try.underlying3
noncomputable def KS : Keys Try.prog 9 ByteArray := strKeys Try.prog 9 Try.underlying9
def onF (on : Int → Option (ByteArray → Bool)) (g : Int → Nat) (u : Int) : Option Value := (on u).map fun _ => .pointer (some ⟨g u, 0, none⟩)
def tkF (tk : ByteArray → Option Int) (k : ByteArray) : Option Value := (tk k).map (Value.int .i64)
def ksF (K : ByteArray → Bool) (k : ByteArray) : Option Value := if K k = true then some (.bool true) else none
/-- Blocks b1 (the units) and b2 (the keys), a unit's own block (g) and its keys' (m); whose each block is (own). -/
structure Jrn (w : World) (base b1 b2 : Nat) (on : Int → Option (ByteArray → Bool)) (tk : ByteArray → Option Int) (g m : Int → Nat) (own : Nat → Int × Nat) : Prop where
  h1 : Holds KI w b1 (onF on g)
  h2 : Holds KS w b2 (tkF tk)
  o1 : own b1 = (0, 2)
  o2 : own b2 = (0, 3)
  l1 : base ≤ b1
  l2 : base ≤ b2
  og : ∀ u K, on u = some K → own (g u) = (u, 0) ∧ base ≤ g u ∧ ∃ f, w.heap[g u]? = some (.cells #[.int .i64 f, .map (some (m u))] 117)
  om : ∀ u K, on u = some K → own (m u) = (u, 1) ∧ base ≤ m u ∧ Holds KS w (m u) (ksF K)
namespace Jrn
variable {w w' : World} {base b1 b2 : Nat} {on : Int → Option (ByteArray → Bool)} {tk : ByteArray → Option Int} {g m : Int → Nat} {own : Nat → Int × Nat}
theorem below (h : Jrn w base b1 b2 on tk g m own) (hb : Below w.heap.size w w') : Jrn w' base b1 b2 on tk g m own where
  h1 := h.h1.below hb
  h2 := h.h2.below hb
  o1 := h.o1
  o2 := h.o2
  l1 := h.l1
  l2 := h.l2
  og u K hu := by
    obtain ⟨a, b, f, hf⟩ := h.og u K hu
    exact ⟨a, b, f, (hb.block _ (Array.getElem?_eq_some_iff.1 hf).1).trans hf⟩
  om u K hu := by
    obtain ⟨a, b, hf⟩ := h.om u K hu
    exact ⟨a, b, hf.below hb⟩
theorem lt1 (h : Jrn w base b1 b2 on tk g m own) : b1 < w.heap.size := h.h1.lt
theorem lt2 (h : Jrn w base b1 b2 on tk g m own) : b2 < w.heap.size := h.h2.lt
theorem ne12 (h : Jrn w base b1 b2 on tk g m own) : b1 ≠ b2 := fun e => by have := h.o1.symm.trans (e ▸ h.o2); exact absurd (congrArg Prod.snd this) (by decide)
theorem ne (x : Nat) {u v : Int} {i j : Nat} {y : Nat} (hx : own x = (u, i)) (hy : own y = (v, j)) (h : u ≠ v ∨ i ≠ j) : x ≠ y := fun e => by
  have := hx.symm.trans (e ▸ hy)
  rcases h with h | h
  · exact h (congrArg Prod.fst this)
  · exact h (congrArg Prod.snd this)
/-- A unit begins: two new blocks (its keys', then its own), then the store into b1. -/
theorem opened (h : Jrn w base b1 b2 on tk g m own) (hbs : base ≤ w.heap.size) (u f : Int) {w2 w3 : World} (hb : Below w.heap.size w w2) (hm : Holds KS w2 w.heap.size (fun _ => none)) (hg : w2.heap[w.heap.size + 1]? = some (.cells #[.int .i64 f, .map (some w.heap.size)] 117))
    (hp : Holds KI w3 b1 (fun q => if q = u then some (.pointer (some ⟨w.heap.size + 1, 0, none⟩)) else onF on g q)) (hgr : w2.grownBy w3 (some b1)) :
    ∃ g' m' own', Jrn w3 base b1 b2 (fun v => if v = u then some (fun _ => false) else on v) tk g' m' own' := by
  have l1 := h.lt1
  have l2 := h.lt2
  have hs2 := hb.size
  have hlt1 : w.heap.size + 1 < w2.heap.size := (Array.getElem?_eq_some_iff.1 hg).1
  have hn12 := h.ne12
  have hj := h.below hb
  refine ⟨fun v => if v = u then w.heap.size + 1 else g v, fun v => if v = u then w.heap.size else m v, fun x => if x = w.heap.size + 1 then (u, 0) else if x = w.heap.size then (u, 1) else own x, ?_⟩
  have own_old : ∀ x, x < w.heap.size → (if x = w.heap.size + 1 then ((u, 0) : Int × Nat) else if x = w.heap.size then (u, 1) else own x) = own x := fun x hx => by rw [if_neg (by omega), if_neg (by omega)]
  refine { h1 := hp.congr fun q => ?_, h2 := hj.h2.grown hgr (fun e => hn12 (Option.some.inj e).symm), o1 := ?_, o2 := ?_, l1 := h.l1, l2 := h.l2, og := fun v K hv => ?_, om := fun v K hv => ?_ }
  · unfold onF
    by_cases hq : q = u
    · simp [hq]
    · simp [hq]
  · exact (own_old _ l1).trans h.o1
  · exact (own_old _ l2).trans h.o2
  · by_cases hq : v = u
    · subst hq
      simp only [if_true]
      exact ⟨trivial, by omega, f, (hgr.block _ hlt1 (fun e => by have := Option.some.inj e; omega)).trans hg⟩
    · simp only [if_neg hq] at hv ⊢
      obtain ⟨a, b, f', hf⟩ := hj.og v K hv
      have hf0 : g v < w.heap.size := by obtain ⟨_, _, f0, hf0⟩ := h.og v K hv; exact (Array.getElem?_eq_some_iff.1 hf0).1
      exact ⟨(own_old _ hf0).trans a, b, f', (hgr.block _ (by omega) (fun e => ne _ a h.o1 (.inr (by decide)) (Option.some.inj e))).trans hf⟩
  · by_cases hq : v = u
    · subst hq
      simp only [if_true] at hv ⊢
      cases hv
      refine ⟨by rw [if_neg (by omega)], hbs, (hm.grown hgr (fun e => by have := Option.some.inj e; omega)).congr fun k => ?_⟩
      simp [ksF]
    · simp only [if_neg hq] at hv ⊢
      obtain ⟨a, b, hf⟩ := hj.om v K hv
      have hf0 : m v < w.heap.size := (h.om v K hv).2.2.lt
      exact ⟨(own_old _ hf0).trans a, b, hf.grown hgr (fun e => ne _ a h.o1 (.inr (by decide)) (Option.some.inj e))⟩
/-- A note of a key: the store into the unit's keys, then into b2. -/
theorem added (h : Jrn w base b1 b2 on tk g m own) (u : Int) (key : ByteArray) {K : ByteArray → Bool} (hu : on u = some K) {w2 w3 : World}
    (hm : Holds KS w2 (m u) (fun q => if q = key then some (.bool true) else ksF K q)) (hg2 : w.grownBy w2 (some (m u)))
    (h2' : Holds KS w3 b2 (fun q => if q = key then some (.int .i64 u) else tkF tk q)) (hg3 : w2.grownBy w3 (some b2)) :
    Jrn w3 base b1 b2 (fun v => if v = u then some (fun k => if k = key then true else K k) else on v) (fun k => if k = key then some u else tk k) g m own := by
  obtain ⟨ou, lu, hK⟩ := h.om u K hu
  have s2 := hg2.size
  refine { h1 := ?_, h2 := h2'.congr fun q => ?_, o1 := h.o1, o2 := h.o2, l1 := h.l1, l2 := h.l2, og := fun v L hv => ?_, om := fun v L hv => ?_ }
  · refine (((h.h1.grown hg2 (fun e => ne _ h.o1 ou (.inr (by decide)) (Option.some.inj e))).grown hg3 (fun e => h.ne12 (Option.some.inj e)))).congr fun q => ?_
    unfold onF
    by_cases hq : q = u
    · subst hq; simp [hu]
    · simp [hq]
  · unfold tkF; by_cases hq : q = key <;> simp [hq]
  · have hv' : ∃ L', on v = some L' := by
      by_cases hq : v = u
      · exact ⟨K, hq ▸ hu⟩
      · simp only [if_neg hq] at hv; exact ⟨_, hv⟩
    obtain ⟨L', hv'⟩ := hv'
    obtain ⟨a, b, f, hf⟩ := h.og v L' hv'
    have hlt := (Array.getElem?_eq_some_iff.1 hf).1
    exact ⟨a, b, f, (hg3.block _ (by omega) (fun e => ne _ a h.o2 (.inr (by decide)) (Option.some.inj e))).trans ((hg2.block _ hlt (fun e => ne _ a ou (.inr (by decide)) (Option.some.inj e))).trans hf)⟩
  · by_cases hq : v = u
    · subst hq
      simp only [if_true] at hv
      cases hv
      refine ⟨ou, lu, (hm.grown hg3 (fun e => ne _ ou h.o2 (.inr (by decide)) (Option.some.inj e))).congr fun k => ?_⟩
      unfold ksF
      by_cases hk : k = key <;> simp [hk]
    · simp only [if_neg hq] at hv
      obtain ⟨a, b, hf⟩ := h.om v L hv
      exact ⟨a, b, (hf.grown hg2 (fun e => ne _ a ou (.inl hq) (Option.some.inj e))).grown hg3 (fun e => ne _ a h.o2 (.inr (by decide)) (Option.some.inj e))⟩
/-- Keys are taken out of b2. -/
theorem struck (h : Jrn w base b1 b2 on tk g m own) {w2 : World} {tk' : ByteArray → Option Int} (h2' : Holds KS w2 b2 (tkF tk')) (hg : w.grownBy w2 (some b2)) : Jrn w2 base b1 b2 on tk' g m own where
  h1 := h.h1.grown hg (fun e => h.ne12 (Option.some.inj e))
  h2 := h2'
  o1 := h.o1
  o2 := h.o2
  l1 := h.l1
  l2 := h.l2
  og u K hu := by
    obtain ⟨a, b, f, hf⟩ := h.og u K hu
    exact ⟨a, b, f, (hg.block _ (Array.getElem?_eq_some_iff.1 hf).1 (fun e => ne _ a h.o2 (.inr (by decide)) (Option.some.inj e))).trans hf⟩
  om u K hu := by
    obtain ⟨a, b, hf⟩ := h.om u K hu
    exact ⟨a, b, hf.grown hg (fun e => ne _ a h.o2 (.inr (by decide)) (Option.some.inj e))⟩
/-- A unit's keys are laid anew: a new block, then the two stores into the unit's own block. -/
theorem quieted (h : Jrn w base b1 b2 on tk g m own) (hbs : base ≤ w.heap.size) (u f : Int) {K : ByteArray → Bool} (hu : on u = some K) {w2 w3 : World} (hb : Below w.heap.size w w2) (hm : Holds KS w2 w.heap.size (fun _ => none))
    (hc : w3.heap[g u]? = some (.cells #[.int .i64 f, .map (some w.heap.size)] 117)) (hgr : w2.grownBy w3 (some (g u))) :
    ∃ m' own', Jrn w3 base b1 b2 (fun v => if v = u then some (fun _ => false) else on v) tk g m' own' := by
  have l1 := h.lt1
  have l2 := h.lt2
  have hs2 := hb.size
  have hj := h.below hb
  obtain ⟨ou, lu, f0, hf0⟩ := h.og u K hu
  have hgu := (Array.getElem?_eq_some_iff.1 hf0).1
  refine ⟨fun v => if v = u then w.heap.size else m v, fun x => if x = w.heap.size then (u, 1) else own x, ?_⟩
  have own_old : ∀ x, x < w.heap.size → (if x = w.heap.size then ((u, 1) : Int × Nat) else own x) = own x := fun x hx => by rw [if_neg (by omega)]
  refine { h1 := ((hj.h1.grown hgr (fun e => ne _ h.o1 ou (.inr (by decide)) (Option.some.inj e)))).congr fun q => ?_, h2 := hj.h2.grown hgr (fun e => ne _ h.o2 ou (.inr (by decide)) (Option.some.inj e)), o1 := (own_old _ l1).trans h.o1, o2 := (own_old _ l2).trans h.o2, l1 := h.l1, l2 := h.l2, og := fun v L hv => ?_, om := fun v L hv => ?_ }
  · unfold onF
    by_cases hq : q = u
    · subst hq; simp [hu]
    · simp [hq]
  · by_cases hq : v = u
    · subst hq
      simp only [if_true]
      exact ⟨(own_old _ hgu).trans ou, lu, f, hc⟩
    · simp only [if_neg hq] at hv ⊢
      obtain ⟨a, b, f', hf⟩ := hj.og v L hv
      have hf1 : g v < w.heap.size := by obtain ⟨_, _, f1, hf1⟩ := h.og v L hv; exact (Array.getElem?_eq_some_iff.1 hf1).1
      exact ⟨(own_old _ hf1).trans a, b, f', (hgr.block _ (by omega) (fun e => ne _ a ou (.inl hq) (Option.some.inj e))).trans hf⟩
  · by_cases hq : v = u
    · subst hq
      simp only [if_true] at hv ⊢
      cases hv
      refine ⟨trivial, hbs, (hm.grown hgr (fun e => by have := Option.some.inj e; omega)).congr fun k => ?_⟩
      simp [ksF]
    · simp only [if_neg hq] at hv ⊢
      obtain ⟨a, b, hf⟩ := hj.om v L hv
      have hf1 : m v < w.heap.size := (h.om v L hv).2.2.lt
      exact ⟨(own_old _ hf1).trans a, b, hf.grown hgr (fun e => ne _ a ou (.inr (by decide)) (Option.some.inj e))⟩
/-- A unit ends. -/
theorem ended (h : Jrn w base b1 b2 on tk g m own) (u : Int) {w2 : World} (hp : Holds KI w2 b1 (fun q => if q = u then none else onF on g q)) (hg : w.grownBy w2 (some b1)) : Jrn w2 base b1 b2 (fun v => if v = u then none else on v) tk g m own where
  h1 := hp.congr fun q => by unfold onF; by_cases hq : q = u <;> simp [hq]
  h2 := h.h2.grown hg (fun e => h.ne12 (Option.some.inj e).symm)
  o1 := h.o1
  o2 := h.o2
  l1 := h.l1
  l2 := h.l2
  og v K hv := by
    by_cases hq : v = u
    · simp only [if_pos hq] at hv; cases hv
    · simp only [if_neg hq] at hv
      obtain ⟨a, b, f, hf⟩ := h.og v K hv
      exact ⟨a, b, f, (hg.block _ (Array.getElem?_eq_some_iff.1 hf).1 (fun e => ne _ a h.o1 (.inr (by decide)) (Option.some.inj e))).trans hf⟩
  om v K hv := by
    by_cases hq : v = u
    · simp only [if_pos hq] at hv; cases hv
    · simp only [if_neg hq] at hv
      obtain ⟨a, b, hf⟩ := h.om v K hv
      exact ⟨a, b, hf.grown hg (fun e => ne _ a h.o1 (.inr (by decide)) (Option.some.inj e))⟩
/-- A block that is none of these is written. -/
theorem other (h : Jrn w base b1 b2 on tk g m own) {r : Nat} (hr : own r = (0, 4)) (hg : w.grownBy w' (some r)) : Jrn w' base b1 b2 on tk g m own where
  h1 := h.h1.grown hg (fun e => ne _ h.o1 hr (.inr (by decide)) (Option.some.inj e))
  h2 := h.h2.grown hg (fun e => ne _ h.o2 hr (.inr (by decide)) (Option.some.inj e))
  o1 := h.o1
  o2 := h.o2
  l1 := h.l1
  l2 := h.l2
  og u K hu := by
    obtain ⟨a, b, f, hf⟩ := h.og u K hu
    exact ⟨a, b, f, (hg.block _ (Array.getElem?_eq_some_iff.1 hf).1 (fun e => ne _ a hr (.inr (by decide)) (Option.some.inj e))).trans hf⟩
  om u K hu := by
    obtain ⟨a, b, hf⟩ := h.om u K hu
    exact ⟨a, b, hf.grown hg (fun e => ne _ a hr (.inr (by decide)) (Option.some.inj e))⟩
/-- A new block that is none of these. -/
theorem beside (h : Jrn w base b1 b2 on tk g m own) (hb : Below w.heap.size w w') : Jrn w' base b1 b2 on tk g m (fun x => if x = w.heap.size then (0, 4) else own x) := by
  have hj := h.below hb
  have own_old : ∀ x, x < w.heap.size → (if x = w.heap.size then ((0, 4) : Int × Nat) else own x) = own x := fun x hx => by rw [if_neg (by omega)]
  refine { h1 := hj.h1, h2 := hj.h2, o1 := (own_old _ h.lt1).trans h.o1, o2 := (own_old _ h.lt2).trans h.o2, l1 := h.l1, l2 := h.l2, og := fun v L hv => ?_, om := fun v L hv => ?_ }
  · obtain ⟨a, b, f, hf⟩ := hj.og v L hv
    have hf1 : g v < w.heap.size := by obtain ⟨_, _, f1, hf1⟩ := h.og v L hv; exact (Array.getElem?_eq_some_iff.1 hf1).1
    exact ⟨(own_old _ hf1).trans a, b, f, hf⟩
  · obtain ⟨a, b, hf⟩ := hj.om v L hv
    exact ⟨(own_old _ (h.om v L hv).2.2.lt).trans a, b, hf⟩
theorem drew (h : Jrn w base b1 b2 on tk g m own) : Jrn w.drew base b1 b2 on tk g m own := h.below ((Below.refl _ w).drew)
theorem congr (h : Jrn w base b1 b2 on tk g m own) {on' : Int → Option (ByteArray → Bool)} {tk' : ByteArray → Option Int} (e1 : ∀ u, on u = on' u) (e2 : ∀ k, tk k = tk' k) : Jrn w base b1 b2 on' tk' g m own := by
  rw [← (funext e1 : on = on'), ← (funext e2 : tk = tk')]; exact h
end Jrn
/-- Two stores into one block. -/
theorem grown_two (w : World) (p q : Addr) (h : p.block = q.block) (u v : Value) : w.grownBy ((w.setCell p u).setCell q v) (some p.block) :=
  ⟨rfl, rfl, rfl, by simp [World.setCell], fun k _ hne => by
    rw [Below.heap_setCell _ _ _ _ (by rw [← h]; exact fun e => hne (by rw [e])), Below.heap_setCell _ _ _ _ (fun e => hne (by rw [e]))]⟩
theorem two_cells {w : World} {g : Nat} {a b : Value} {t : TypeId} (h : w.heap[g]? = some (.cells #[a, b] t)) (u v : Value) : ((w.setCell ⟨g, 0, none⟩ u).setCell ⟨g, 1, none⟩ v).heap[g]? = some (.cells #[u, v] t) := by
  have h1 := heap_setCell_same w g 0 #[a, b] t u h
  have h2 := heap_setCell_same (w.setCell ⟨g, 0, none⟩ u) g 1 _ t v h1
  rw [h2]; rfl
end Go.Proofs.Yteblpjnkinghoaa.J
/- The contract of journal.Wrong, for every slice of notes. -/
namespace Go.Proofs.Yteblpjnkinghoaa.J
open Go.BigFrame Go.RowKit Go.Proofs.YteblpjnkinghoaaW.PrintWords Go.Proofs.YteblpjnkinghoaaW.PrintLast Go.Proofs.YteblpjnkinghoaaW.PrintMore Go.Proofs.YteblpjnkinghoaaW.Mw
theorem zero114 (w : World) : (zeroValue 114).run Try.prog w = .ok (.pointer none) w := by kernel_rfl
theorem zeroB (w : World) : (zeroValue 4).run Try.prog w = .ok (.bool false) w := by kernel_rfl
theorem zeroI (w : World) : (zeroValue 3).run Try.prog w = .ok (.int .i64 0) w := by kernel_rfl
theorem wrongFrom_inl {n : S39} {l : List S39} {i : Nat} {st : WSt} {e : Int} (h : wrongStep st n = .inl e) : wrongFrom (n :: l) i st = ((i : Int), e) := by
  rw [wrongFrom, h]
theorem wrongFrom_inr {n : S39} {l : List S39} {i : Nat} {st st' : WSt} (h : wrongStep st n = .inr st') : wrongFrom (n :: l) i st = wrongFrom l (i + 1) st' := by
  rw [wrongFrom, h]
theorem wrongStep_6 {st : WSt} {n : S39} (h : n.f0 = 6) : wrongStep st n = .inr st := by
  unfold wrongStep
  rw [if_neg (by omega), if_neg (by omega), if_neg (by omega), if_neg (by omega)]
theorem wrongStep_9 {st : WSt} {n : S39} (h : n.f0 ≠ 6) (h2 : (st.on n.f1).isSome = decide (n.f0 = 1)) : wrongStep st n = .inl 9 := by
  unfold wrongStep
  rw [if_pos ⟨h, h2⟩]
theorem wrongStep_1 {st : WSt} {n : S39} (h : n.f0 = 1) (hon : st.on n.f1 = none) : wrongStep st n = .inr ⟨st.set n.f1 (some fun _ => false), st.tk⟩ := by
  unfold wrongStep
  rw [if_neg (by rw [hon, h]; simp), if_pos h]
theorem wrongStep_8 {st : WSt} {n : S39} {K : ByteArray → Bool} (h : n.f0 = 3) (hon : st.on n.f1 = some K) (hK : K n.f2 = false) : wrongStep st n = .inl 8 := by
  unfold wrongStep
  rw [if_neg (by rw [hon, h]; simp), if_neg (by omega), if_pos (.inl h)]
  simp only [hon, Option.getD_some]
  rw [if_pos ⟨h, hK⟩]
theorem wrongStep_d {st : WSt} {n : S39} {K : ByteArray → Bool} {o : Int} (h : n.f0 = 3 ∧ K n.f2 = true ∨ n.f0 = 2) (hon : st.on n.f1 = some K) (ht : st.tk n.f2 = some o) (ho : o ≠ n.f1) : wrongStep st n = .inl 6 := by
  unfold wrongStep
  rw [if_neg (by rw [hon]; rcases h with h | h <;> simp [h]), if_neg (by omega), if_pos (by omega)]
  simp only [hon, Option.getD_some, ht]
  rw [if_neg (by rcases h with h | h <;> simp [h]), if_pos (by simp [ho])]
theorem wrongStep_k {st : WSt} {n : S39} {K : ByteArray → Bool} (h : n.f0 = 3 ∧ K n.f2 = true ∨ n.f0 = 2) (hon : st.on n.f1 = some K) (ht : st.tk n.f2 = none ∨ st.tk n.f2 = some n.f1) :
    wrongStep st n = .inr ⟨fun v => if v = n.f1 then some (fun k => if k = n.f2 then true else K k) else st.on v, fun k => if k = n.f2 then some n.f1 else st.tk k⟩ := by
  unfold wrongStep
  rw [if_neg (by rw [hon]; rcases h with h | h <;> simp [h]), if_neg (by omega), if_pos (by omega)]
  simp only [hon, Option.getD_some]
  rw [if_neg (by rcases h with h | h <;> simp [h]), if_neg (by rcases ht with ht | ht <;> simp [ht])]
  rfl
theorem wrongStep_q {st : WSt} {n : S39} {K : ByteArray → Bool} (h : n.f0 = 4 ∨ n.f0 = 5 ∨ n.f0 = 7) (hon : st.on n.f1 = some K) :
    wrongStep st n = .inr ⟨fun v => if v = n.f1 then (if n.f0 = 4 then some fun _ => false else none) else st.on v, fun k => if K k = true then none else st.tk k⟩ := by
  unfold wrongStep
  rw [if_neg (by rw [hon]; rcases h with h | h | h <;> simp [h]), if_neg (by omega), if_neg (by omega), if_pos h]
  simp only [hon, Option.getD_some]
  rfl
theorem wrongStep_x {st : WSt} {n : S39} {K : ByteArray → Bool} (k1 : n.f0 ≠ 1) (k2 : n.f0 ≠ 2) (k3 : n.f0 ≠ 3) (k4 : n.f0 ≠ 4) (k5 : n.f0 ≠ 5) (k7 : n.f0 ≠ 7) (hon : st.on n.f1 = some K) : wrongStep st n = .inr st := by
  unfold wrongStep
  rw [if_neg (by rw [hon]; simp [k1]), if_neg k1, if_neg (by omega), if_neg (by omega)]
theorem _root_.Go.Proofs.YteblpjnkinghoaaW.Mw.Holds.congr' {P : Program} {t : TypeId} {κ : Type} [DecidableEq κ] {K : Keys P t κ} {w : World} {b b' : Nat} {F G : κ → Option Value} (h : Holds K w b F) (hb : b = b') (e : ∀ k, F k = G k) : Holds K w b' G := hb ▸ h.congr e
theorem wrong_no (A0 : Option Addr) (c0 : Nat) (l0 : List (S39)) (w : World) (hr0 : Kd.C k39 w A0 l0.length l0) (hc0 : l0.length ≤ c0) (h : ¬ (l0.length ≤ 1000 ∧ l0.all vld = true)) :
    Calls Try.prog 67 #[.slice A0 l0.length c0] w fun r w' => r = .returned (.tuple #[.int .i64 0, .int .i64 1]) ∧ Below w.heap.size w w' := by
  have HR0 := Aside0.mk hr0
  have HC0 := Aside0.mk hc0
  have HE := Aside0.mk (show journal_valid.f l0 = some false by unfold journal_valid.f; simp only [Option.some.injEq, Bool.and_eq_false_iff, decide_eq_false_iff_not]; rcases Classical.not_and_iff_not_or_not.1 h with h | h <;> simp [h])
  clear hr0 hc0 h
  go_enter Try.func67, Try.ntmps67
  go_wp2_with (go_at_call 60; refine (journal_valid.calls _ _ _ _ _ HR0.out HC0.out HE.out).mono ?_; rintro r w1 ⟨rfl, hb⟩)
  go_ret2
  exact ⟨rfl, hb⟩
set_option maxHeartbeats 4000000 in
set_option maxRecDepth 100000 in
theorem wrong_yes (A0 : Option Addr) (c0 : Nat) (l0 : List (S39)) (w : World) (hr0 : Kd.C k39 w A0 l0.length l0) (hc0 : l0.length ≤ c0) (hle : l0.length ≤ 1000) (hv : l0.all vld = true) (r1 r2 : Int) (hr : wrongFrom l0 0 ⟨fun _ => none, fun _ => none⟩ = (r1, r2)) :
    Calls Try.prog 67 #[.slice A0 l0.length c0] w fun r w' => r = .returned (.tuple #[.int .i64 r1, .int .i64 r2]) ∧ Below w.heap.size w w' := by
  have HR0 := Aside0.mk hr0
  have HC0 := Aside0.mk hc0
  have HE := Aside0.mk (show journal_valid.f l0 = some true by unfold journal_valid.f; rw [decide_eq_true hle, hv]; rfl)
  have HV := Aside0.mk hv
  have HRR := Aside0.mk hr
  clear hr0 hc0 hv hr
  have hmm := @run_makeMap Try.prog
  go_enter Try.func67, Try.ntmps67
  go_wp2_with (go_at_call 60; refine (journal_valid.calls _ _ _ _ _ HR0.out HC0.out HE.out).mono ?_; rintro r w1 ⟨rfl, hb⟩)
  obtain ⟨b1, hb1⟩ : ∃ b, b = w1.heap.size := ⟨_, rfl⟩
  obtain ⟨b2, hb2⟩ : ∃ b, b = w1.heap.size + 1 := ⟨_, rfl⟩
  have hbs : w.heap.size ≤ w1.heap.size := hb.size
  have hs1 : (w1.alloc (.map #[] 0)).heap.size = w1.heap.size + 1 := by simp
  have HJ := Aside0.mk (show Jrn ((w1.alloc (.map #[] 0)).alloc (.map #[] 0)) w.heap.size b1 b2 (fun _ => none) (fun _ => none) (fun _ => 0) (fun _ => 0) (fun x => if x = b1 then (0, 2) else (0, 3)) from
    { h1 := ((Holds.made KI w1).alloc _).congr' hb1.symm (fun _ => rfl), h2 := (Holds.made KS (w1.alloc (.map #[] 0))).congr' (hs1.trans hb2.symm) (fun _ => rfl), o1 := by simp, o2 := by rw [if_neg (by omega)], l1 := by omega, l2 := by omega, og := fun _ _ h => (by cases h), om := fun _ _ h => (by cases h) })
  have HB := Aside0.mk ((hb.alloc hb.size (.map #[] 0)).alloc (by omega) (.map #[] 0))
  rw [← hb2, ← hb1]
  clear hb hbs hs1 hb1 hb2 hmm
  generalize (w1.alloc (.map #[] 0)).alloc (.map #[] 0) = w2 at HJ HB ⊢
  go_loopg [20] l0.length (fun kq v20 w' => ∃ (i : Nat) (st : WSt) (g m : Int → Nat) (own : Nat → Int × Nat), v20 = .int .i64 i ∧ i ≤ l0.length ∧ Aside0 (kq + i = l0.length) ∧ Aside0 (wrongFrom (l0.drop i) i st = (r1, r2)) ∧ Aside0 (Jrn w' w.heap.size b1 b2 st.on st.tk g m own) ∧ Aside0 (Below w.heap.size w w'))
  case atStart => exact ⟨0, _, _, _, _, rfl, by omega, ⟨by omega⟩, HRR, HJ, HB⟩
  case round =>
    clear HB HJ HRR
    obtain ⟨i, st, g, m, own, rfl, hi, HQ, HS, HJ, HB⟩ := hrel
    by_cases hlt : i < l0.length
    · obtain ⟨ad, rfl, h0, h1, h2, h3, h4⟩ := at_T39 (Kd.C_below HR0.out HB.out) (i : Int) (by omega) (by omega)
      rw [Int.toNat_natCast] at h0 h1 h2 h3 h4
      have HS2 := Aside0.mk (show wrongFrom (rd_T39 l0 (i : Int) :: l0.drop (i + 1)) i st = (r1, r2) by rw [← HS.out, drop_rd (show i < l0.length from hlt)])
      generalize rd_T39 l0 (i : Int) = n at h0 h1 h2 h3 h4 HS2
      clear HS
      by_cases k6 : n.f0 = 6
      · have HS3 := Aside0.mk ((wrongFrom_inr (wrongStep_6 k6)).symm.trans HS2.out)
        have q1 : (n.f0 == 1) = false := by rw [k6]; rfl
        have q3 : (n.f0 == 3) = false := by rw [k6]; rfl
        have q2 : (n.f0 == 2) = false := by rw [k6]; rfl
        have q4 : (n.f0 == 4) = false := by rw [k6]; rfl
        have q5 : (n.f0 == 5) = false := by rw [k6]; rfl
        have q7 : (n.f0 == 7) = false := by rw [k6]; rfl
        have q6 : (n.f0 != 6) = false := by rw [k6]; rfl
        have q4n : (n.f0 != 4) = true := by rw [k6]; rfl
        clear k6 HS2
        cases hon : st.on n.f1 with
        | none =>
          have HO1 := Aside0.mk (show onF st.on g n.f1 = none by unfold onF; rw [hon]; rfl)
          clear hon
          go_wp2_with (first | (at_lookup; refine wl_look2 (K := KI) rfl (.tmp 26) (.tmp 28) 112 rfl Try.underlying112 zero114 (HJ.out.h1.alloc _) n.f1 rfl rfl ?_; rw [HO1.out]; simp only [Option.getD_none, Option.isSome_none]))
          go_roundg (gk - 1)
          case measure => have := HQ.out; omega
          case rel => exact ⟨i + 1, _, _, _, _, rfl, by omega, ⟨by have := HQ.out; omega⟩, HS3, ⟨HJ.out.below ((Below.refl _ _).alloc (Nat.le_refl _) _)⟩, ⟨HB.out.alloc (below_size HB.out) _⟩⟩
        | some K =>
          have HO1 := Aside0.mk (show onF st.on g n.f1 = some (.pointer (some ⟨g n.f1, 0, none⟩)) by unfold onF; rw [hon]; rfl)
          clear hon
          go_wp2_with (first | (at_lookup; refine wl_look2 (K := KI) rfl (.tmp 26) (.tmp 28) 112 rfl Try.underlying112 zero114 (HJ.out.h1.alloc _) n.f1 rfl rfl ?_; rw [HO1.out]; simp only [Option.getD_some, Option.isSome_some]))
          go_roundg (gk - 1)
          case measure => have := HQ.out; omega
          case rel => exact ⟨i + 1, _, _, _, _, rfl, by omega, ⟨by have := HQ.out; omega⟩, HS3, ⟨HJ.out.below ((Below.refl _ _).alloc (Nat.le_refl _) _)⟩, ⟨HB.out.alloc (below_size HB.out) _⟩⟩
      have q6 : (n.f0 != 6) = true := bne_iff_ne.2 k6
      by_cases k1 : n.f0 = 1
      · cases hon : st.on n.f1 with
        | some K =>
          obtain ⟨rfl, rfl⟩ := Prod.mk.inj ((wrongFrom_inl (wrongStep_9 k6 (by rw [hon, k1]; rfl))).symm.trans HS2.out)
          have HO1 := Aside0.mk (show onF st.on g n.f1 = some (.pointer (some ⟨g n.f1, 0, none⟩)) by unfold onF; rw [hon]; rfl)
          have q1 : (n.f0 == 1) = true := beq_iff_eq.2 k1
          clear hon k1 k6 HS2
          go_wp2_with (first | (at_lookup; refine wl_look2 (K := KI) rfl (.tmp 26) (.tmp 28) 112 rfl Try.underlying112 zero114 (HJ.out.h1.alloc _) n.f1 rfl rfl ?_; rw [HO1.out]; simp only [Option.getD_some, Option.isSome_some]))
          go_ret2
          exact ⟨rfl, HB.out.alloc (below_size HB.out) _⟩
        | none =>
          have HS3 := Aside0.mk ((wrongFrom_inr (wrongStep_1 k1 hon)).symm.trans HS2.out)
          have HO1 := Aside0.mk (show onF st.on g n.f1 = none by unfold onF; rw [hon]; rfl)
          have q1 : (n.f0 == 1) = true := by rw [k1]; rfl
          have q3 : (n.f0 == 3) = false := by rw [k1]; rfl
          have q2 : (n.f0 == 2) = false := by rw [k1]; rfl
          have q4 : (n.f0 == 4) = false := by rw [k1]; rfl
          have q5 : (n.f0 == 5) = false := by rw [k1]; rfl
          have q7 : (n.f0 == 7) = false := by rw [k1]; rfl
          have q6 : (n.f0 != 6) = true := by rw [k1]; rfl
          have q4n : (n.f0 != 4) = true := by rw [k1]; rfl
          clear hon k1 k6 HS2
          have hmm := @run_makeMap Try.prog
          have hk := heap_alloc_new wr (.cells #[.int .i64 n.f0, .int .i64 n.f1, .string n.f2, .bool n.f3, .string n.f4] 39)
          have HB5 := Aside0.mk (HB.out.alloc (below_size HB.out) (.cells #[.int .i64 n.f0, .int .i64 n.f1, .string n.f2, .bool n.f3, .string n.f4] 39))
          have HJ5 := Aside0.mk (HJ.out.below ((Below.refl _ _).alloc (Nat.le_refl _) (.cells #[.int .i64 n.f0, .int .i64 n.f1, .string n.f2, .bool n.f3, .string n.f4] 39)))
          go_wp2_with (first | (at_lookup; refine wl_look2 (K := KI) rfl (.tmp 26) (.tmp 28) 112 rfl Try.underlying112 zero114 HJ5.out.h1 n.f1 rfl rfl ?_; rw [HO1.out]; simp only [Option.getD_none, Option.isSome_none]; generalize wr.alloc (.cells #[.int .i64 n.f0, .int .i64 n.f1, .string n.f2, .bool n.f3, .string n.f4] 39) = w5 at HB5 HJ5 hk ⊢; have hc0 := (blk_cell hk 0).trans (show _ = some (Value.int .i64 n.f0) from rfl); have hc1 := (blk_cell hk 1).trans (show _ = some (Value.int .i64 n.f1) from rfl); have hc2 := (blk_cell hk 2).trans (show _ = some (Value.string n.f2) from rfl)) | (at_mapUpdate; refine wl_put (K := KI) rfl (.tmp 47) (.tmp 49) (.tmp 53) 112 rfl Try.underlying112 ((HJ5.out.h1.alloc _).alloc _) n.f1 (.pointer (some ⟨w5.heap.size + 1, 0, none⟩)) rfl rfl rfl ?_; intro w6 hp6 hg6; obtain ⟨g', m', own', hj6⟩ := HJ5.out.opened (below_size HB5.out) n.f1 i (((Below.refl _ w5).alloc (Nat.le_refl _) (.map #[] 0)).alloc (by simp) (.cells #[.int .i64 i, .map (some w5.heap.size)] 117)) ((Holds.made KS w5).alloc _) (by have := heap_alloc_new (w5.alloc (.map #[] 0)) (.cells #[.int .i64 i, .map (some w5.heap.size)] 117); rwa [show (w5.alloc (.map #[] 0)).heap.size = w5.heap.size + 1 by simp] at this) hp6 hg6; have HJ6 := Aside0.mk hj6; have HB6 := Aside0.mk (((HB5.out.alloc (below_size HB5.out) (.map #[] 0)).alloc (by have := below_size HB5.out; simp; omega) (.cells #[.int .i64 i, .map (some w5.heap.size)] 117)).grown hg6 (by have := below_size HB5.out; simp; omega) (fun k e => by cases e; exact HJ5.out.l1)); clear hp6 hg6 hj6))
          go_roundg (gk - 1)
          case measure => have := HQ.out; omega
          case rel => exact ⟨i + 1, _, _, _, _, rfl, by omega, ⟨by have := HQ.out; omega⟩, HS3, HJ6, HB6⟩
      · cases hon : st.on n.f1 with
        | none =>
          obtain ⟨rfl, rfl⟩ := Prod.mk.inj ((wrongFrom_inl (wrongStep_9 k6 (by rw [hon]; simp [k1]))).symm.trans HS2.out)
          have HO1 := Aside0.mk (show onF st.on g n.f1 = none by unfold onF; rw [hon]; rfl)
          have q1 : (n.f0 == 1) = false := beq_eq_false_iff_ne.2 k1
          clear hon k1 k6 HS2
          go_wp2_with (first | (at_lookup; refine wl_look2 (K := KI) rfl (.tmp 26) (.tmp 28) 112 rfl Try.underlying112 zero114 (HJ.out.h1.alloc _) n.f1 rfl rfl ?_; rw [HO1.out]; simp only [Option.getD_none, Option.isSome_none]))
          go_ret2
          exact ⟨rfl, HB.out.alloc (below_size HB.out) _⟩
        | some K =>
          have HO1 := Aside0.mk (show onF st.on g n.f1 = some (.pointer (some ⟨g n.f1, 0, none⟩)) by unfold onF; rw [hon]; rfl)
          have HON := Aside0.mk hon
          clear hon
          by_cases k3 : n.f0 = 3
          · cases hK : K n.f2 with
            | false =>
              obtain ⟨rfl, rfl⟩ := Prod.mk.inj ((wrongFrom_inl (wrongStep_8 k3 HON.out hK)).symm.trans HS2.out)
              have q1 : (n.f0 == 1) = false := by rw [k3]; rfl
              have q3 : (n.f0 == 3) = true := by rw [k3]; rfl
              have q2 : (n.f0 == 2) = false := by rw [k3]; rfl
              have q4 : (n.f0 == 4) = false := by rw [k3]; rfl
              have q5 : (n.f0 == 5) = false := by rw [k3]; rfl
              have q7 : (n.f0 == 7) = false := by rw [k3]; rfl
              have q6 : (n.f0 != 6) = true := by rw [k3]; rfl
              have q4n : (n.f0 != 4) = true := by rw [k3]; rfl
              clear k1 k3 k6 HS2
              have hk := heap_alloc_new wr (.cells #[.int .i64 n.f0, .int .i64 n.f1, .string n.f2, .bool n.f3, .string n.f4] 39)
              have HB5 := Aside0.mk (HB.out.alloc (below_size HB.out) (.cells #[.int .i64 n.f0, .int .i64 n.f1, .string n.f2, .bool n.f3, .string n.f4] 39))
              have HJ5 := Aside0.mk (HJ.out.below ((Below.refl _ _).alloc (Nat.le_refl _) (.cells #[.int .i64 n.f0, .int .i64 n.f1, .string n.f2, .bool n.f3, .string n.f4] 39)))
              have HOG := Aside0.mk (HJ5.out.og _ _ HON.out)
              have HOM := Aside0.mk (HJ5.out.om _ _ HON.out)
              go_wp2_with (first | (at_lookup; refine wl_look2 (K := KI) rfl (.tmp 26) (.tmp 28) 112 rfl Try.underlying112 zero114 HJ5.out.h1 n.f1 rfl rfl ?_; rw [HO1.out]; simp only [Option.getD_some, Option.isSome_some]; generalize wr.alloc (.cells #[.int .i64 n.f0, .int .i64 n.f1, .string n.f2, .bool n.f3, .string n.f4] 39) = w5 at HB5 HJ5 hk HOG HOM ⊢; have hc0 := (blk_cell hk 0).trans (show _ = some (Value.int .i64 n.f0) from rfl); have hc1 := (blk_cell hk 1).trans (show _ = some (Value.int .i64 n.f1) from rfl); have hc2 := (blk_cell hk 2).trans (show _ = some (Value.string n.f2) from rfl)))
              obtain ⟨fr, hgu⟩ := HOG.out.2.2
              have hg1 := (blk_cell hgu 1).trans (show _ = some (Value.map (some (m n.f1))) from rfl)
              have hp0 := fun p : Past w5 => Past.cell hc0 p
              have hp2 := fun p : Past w5 => Past.cell hc2 p
              have hpg := fun p : Past w5 => Past.cell hg1 p
              have hl16 : ∀ p : Past w5, (Instr.lookup 64 (.map (some (m n.f1))) (.string n.f2) false).run Try.prog p.W = .ok (.bool (K n.f2)) p.W := fun p => by rw [show (Value.string n.f2) = KS.enc n.f2 from rfl, ((HOM.out.2.2.below p.h).look Try.underlying64 zeroB n.f2).1, show (ksF K n.f2).getD (.bool false) = .bool (K n.f2) by unfold ksF; cases K n.f2 <;> rfl]
              rw [hK] at hl16
              refine wp_region_past (by kernel_rfl) (by kernel_rfl) ?_
              repeat (go_big_quiet_step (fail))
              refine wpQuiet_nil ?_
              rintro _ ⟨p, rfl⟩
              have hb6 := p.h
              generalize p.W = w6 at hb6 ⊢
              have hc1 := pw_cell_below hb6 hc1
              have hc2 := pw_cell_below hb6 hc2
              have hg1 := pw_cell_below hb6 hg1
              have HB6 := Aside0.mk (below_step HB5.out hb6)
              have HJ6 := Aside0.mk (HJ5.out.below hb6)
              have HB56 := Aside0.mk hb6
              have HK6 := Aside0.mk ((hb6.block _ (Array.getElem?_eq_some_iff.1 hk).1).trans hk)
              have HLT6 := Aside0.mk (Array.getElem?_eq_some_iff.1 HK6.out).1
              have HNE := Aside0.mk (show wr.heap.size ≠ m n.f1 from fun e => by obtain ⟨l, c, hb, _⟩ := HOM.out.2.2; rw [← e, hk] at hb; cases hb)
              clear hp0 hp2 hpg hl16 hk hc0 hgu hb6
              go_wp2
              go_ret2
              exact ⟨rfl, HB6.out⟩
            | true =>
              have hk' : n.f0 = 3 ∧ K n.f2 = true ∨ n.f0 = 2 := .inl ⟨k3, hK⟩
              cases ht : st.tk n.f2 with
              | none =>
                have q1 : (n.f0 == 1) = false := by rw [k3]; rfl
                have q3 : (n.f0 == 3) = true := by rw [k3]; rfl
                have q2 : (n.f0 == 2) = false := by rw [k3]; rfl
                have q4 : (n.f0 == 4) = false := by rw [k3]; rfl
                have q5 : (n.f0 == 5) = false := by rw [k3]; rfl
                have q7 : (n.f0 == 7) = false := by rw [k3]; rfl
                have q6 : (n.f0 != 6) = true := by rw [k3]; rfl
                have q4n : (n.f0 != 4) = true := by rw [k3]; rfl
                have HT := Aside0.mk (show tkF st.tk n.f2 = none by unfold tkF; rw [ht]; rfl)
                have HS3 := Aside0.mk ((wrongFrom_inr (wrongStep_k hk' HON.out (.inl ht))).symm.trans HS2.out)
                clear k1 k6 HS2 hk' ht
                clear k3
                have hk := heap_alloc_new wr (.cells #[.int .i64 n.f0, .int .i64 n.f1, .string n.f2, .bool n.f3, .string n.f4] 39)
                have HB5 := Aside0.mk (HB.out.alloc (below_size HB.out) (.cells #[.int .i64 n.f0, .int .i64 n.f1, .string n.f2, .bool n.f3, .string n.f4] 39))
                have HJ5 := Aside0.mk (HJ.out.below ((Below.refl _ _).alloc (Nat.le_refl _) (.cells #[.int .i64 n.f0, .int .i64 n.f1, .string n.f2, .bool n.f3, .string n.f4] 39)))
                have HOG := Aside0.mk (HJ5.out.og _ _ HON.out)
                have HOM := Aside0.mk (HJ5.out.om _ _ HON.out)
                go_wp2_with (first | (at_lookup; refine wl_look2 (K := KI) rfl (.tmp 26) (.tmp 28) 112 rfl Try.underlying112 zero114 HJ5.out.h1 n.f1 rfl rfl ?_; rw [HO1.out]; simp only [Option.getD_some, Option.isSome_some]; generalize wr.alloc (.cells #[.int .i64 n.f0, .int .i64 n.f1, .string n.f2, .bool n.f3, .string n.f4] 39) = w5 at HB5 HJ5 hk HOG HOM ⊢; have hc0 := (blk_cell hk 0).trans (show _ = some (Value.int .i64 n.f0) from rfl); have hc1 := (blk_cell hk 1).trans (show _ = some (Value.int .i64 n.f1) from rfl); have hc2 := (blk_cell hk 2).trans (show _ = some (Value.string n.f2) from rfl)))
                obtain ⟨fr, hgu⟩ := HOG.out.2.2
                have hg1 := (blk_cell hgu 1).trans (show _ = some (Value.map (some (m n.f1))) from rfl)
                have hp0 := fun p : Past w5 => Past.cell hc0 p
                have hp2 := fun p : Past w5 => Past.cell hc2 p
                have hpg := fun p : Past w5 => Past.cell hg1 p
                have hl16 : ∀ p : Past w5, (Instr.lookup 64 (.map (some (m n.f1))) (.string n.f2) false).run Try.prog p.W = .ok (.bool (K n.f2)) p.W := fun p => by rw [show (Value.string n.f2) = KS.enc n.f2 from rfl, ((HOM.out.2.2.below p.h).look Try.underlying64 zeroB n.f2).1, show (ksF K n.f2).getD (.bool false) = .bool (K n.f2) by unfold ksF; cases K n.f2 <;> rfl]
                rw [hK] at hl16
                refine wp_region_past (by kernel_rfl) (by kernel_rfl) ?_
                repeat (go_big_quiet_step (fail))
                refine wpQuiet_nil ?_
                rintro _ ⟨p, rfl⟩
                have hb6 := p.h
                generalize p.W = w6 at hb6 ⊢
                have hc1 := pw_cell_below hb6 hc1
                have hc2 := pw_cell_below hb6 hc2
                have hg1 := pw_cell_below hb6 hg1
                have HB6 := Aside0.mk (below_step HB5.out hb6)
                have HJ6 := Aside0.mk (HJ5.out.below hb6)
                have HB56 := Aside0.mk hb6
                have HK6 := Aside0.mk ((hb6.block _ (Array.getElem?_eq_some_iff.1 hk).1).trans hk)
                have HLT6 := Aside0.mk (Array.getElem?_eq_some_iff.1 HK6.out).1
                have HNE := Aside0.mk (show wr.heap.size ≠ m n.f1 from fun e => by obtain ⟨l, c, hb, _⟩ := HOM.out.2.2; rw [← e, hk] at hb; cases hb)
                clear hp0 hp2 hpg hl16 hk hc0 hgu hb6
                go_wp2_with (first | (at_lookup; refine wl_look2 (K := KS) rfl (.tmp 72) (.tmp 74) 113 rfl Try.underlying113 zeroI HJ6.out.h2 n.f2 rfl rfl ?_; rw [HT.out]; simp only [Option.getD_none, Option.isSome_none]))
                obtain ⟨st1, w7, hme, hg7, hst⟩ := ((HOM.out.2.2.below HB56.out).drew).entry Try.underlying64 zeroB n.f2
                obtain ⟨w8, hes, hH8, hg8⟩ := hst (.bool true)
                obtain ⟨w9, hmu, hH9, hg9⟩ := ((HJ6.out.h2.drew).grown hg8 (fun e => Jrn.ne _ HJ6.out.o2 HOM.out.1 (.inr (by decide)) (Option.some.inj e))).put Try.underlying113 n.f2 (.int .i64 n.f1)
                have hme : (Instr.mapEntry 64 (.map (some (m n.f1))) (.string n.f2)).run Try.prog w6.drew = .ok (.tuple #[(ksF K n.f2).getD (.bool false), .int .i64 st1]) w7 := hme
                have hes : (Instr.entryStore 64 (.map (some (m n.f1))) (.int .i64 st1) (.bool true)).run Try.prog w7 = .ok () w8 := hes
                have hmu : (Instr.mapUpdate 113 (.map (some b2)) (.string n.f2) (.int .i64 n.f1)).run Try.prog w8 = .ok () w9 := hmu
                have hne7 : wr.heap.size ≠ m n.f1 := HNE.out
                have hk7 := (hg7.block wr.heap.size HLT6.out (fun e => hne7 (Option.some.inj e))).trans HK6.out
                have hk8 := (hg8.block wr.heap.size HLT6.out (fun e => hne7 (Option.some.inj e))).trans HK6.out
                have h71 := (blk_cell hk7 1).trans (show _ = some (Value.int .i64 n.f1) from rfl)
                have h72 := (blk_cell hk7 2).trans (show _ = some (Value.string n.f2) from rfl)
                have h81 := (blk_cell hk8 1).trans (show _ = some (Value.int .i64 n.f1) from rfl)
                have h82 := (blk_cell hk8 2).trans (show _ = some (Value.string n.f2) from rfl)
                have HJ9 := Aside0.mk ((HJ6.out.drew).added n.f1 n.f2 HON.out hH8 hg8 hH9 hg9)
                have HB9 := Aside0.mk ((HB6.out.drew.grown hg8 (below_size HB6.out.drew) (fun k e => by cases e; exact HOM.out.2.1)).grown hg9 (Nat.le_trans (below_size HB6.out.drew) hg8.size) (fun k e => by cases e; exact HJ6.out.l2))
                clear hst hg7 hg8 hg9 hH8 hH9 hk7 hk8 hne7
                go_region
                go_wp2
                go_roundg (gk - 1)
                case measure => have := HQ.out; omega
                case rel => exact ⟨i + 1, _, _, _, _, rfl, by omega, ⟨by have := HQ.out; omega⟩, HS3, HJ9, HB9⟩
              | some o =>
                have HT := Aside0.mk (show tkF st.tk n.f2 = some (.int .i64 o) by unfold tkF; rw [ht]; rfl)
                by_cases ho : o = n.f1
                · skip
                  have q1 : (n.f0 == 1) = false := by rw [k3]; rfl
                  have q3 : (n.f0 == 3) = true := by rw [k3]; rfl
                  have q2 : (n.f0 == 2) = false := by rw [k3]; rfl
                  have q4 : (n.f0 == 4) = false := by rw [k3]; rfl
                  have q5 : (n.f0 == 5) = false := by rw [k3]; rfl
                  have q7 : (n.f0 == 7) = false := by rw [k3]; rfl
                  have q6 : (n.f0 != 6) = true := by rw [k3]; rfl
                  have q4n : (n.f0 != 4) = true := by rw [k3]; rfl
                  have qo : (o != n.f1) = false := by rw [ho]; simp
                  have HS3 := Aside0.mk ((wrongFrom_inr (wrongStep_k hk' HON.out (.inr (ho ▸ ht)))).symm.trans HS2.out)
                  clear k1 k6 HS2 hk' ht ho
                  clear k3
                  have hk := heap_alloc_new wr (.cells #[.int .i64 n.f0, .int .i64 n.f1, .string n.f2, .bool n.f3, .string n.f4] 39)
                  have HB5 := Aside0.mk (HB.out.alloc (below_size HB.out) (.cells #[.int .i64 n.f0, .int .i64 n.f1, .string n.f2, .bool n.f3, .string n.f4] 39))
                  have HJ5 := Aside0.mk (HJ.out.below ((Below.refl _ _).alloc (Nat.le_refl _) (.cells #[.int .i64 n.f0, .int .i64 n.f1, .string n.f2, .bool n.f3, .string n.f4] 39)))
                  have HOG := Aside0.mk (HJ5.out.og _ _ HON.out)
                  have HOM := Aside0.mk (HJ5.out.om _ _ HON.out)
                  go_wp2_with (first | (at_lookup; refine wl_look2 (K := KI) rfl (.tmp 26) (.tmp 28) 112 rfl Try.underlying112 zero114 HJ5.out.h1 n.f1 rfl rfl ?_; rw [HO1.out]; simp only [Option.getD_some, Option.isSome_some]; generalize wr.alloc (.cells #[.int .i64 n.f0, .int .i64 n.f1, .string n.f2, .bool n.f3, .string n.f4] 39) = w5 at HB5 HJ5 hk HOG HOM ⊢; have hc0 := (blk_cell hk 0).trans (show _ = some (Value.int .i64 n.f0) from rfl); have hc1 := (blk_cell hk 1).trans (show _ = some (Value.int .i64 n.f1) from rfl); have hc2 := (blk_cell hk 2).trans (show _ = some (Value.string n.f2) from rfl)))
                  obtain ⟨fr, hgu⟩ := HOG.out.2.2
                  have hg1 := (blk_cell hgu 1).trans (show _ = some (Value.map (some (m n.f1))) from rfl)
                  have hp0 := fun p : Past w5 => Past.cell hc0 p
                  have hp2 := fun p : Past w5 => Past.cell hc2 p
                  have hpg := fun p : Past w5 => Past.cell hg1 p
                  have hl16 : ∀ p : Past w5, (Instr.lookup 64 (.map (some (m n.f1))) (.string n.f2) false).run Try.prog p.W = .ok (.bool (K n.f2)) p.W := fun p => by rw [show (Value.string n.f2) = KS.enc n.f2 from rfl, ((HOM.out.2.2.below p.h).look Try.underlying64 zeroB n.f2).1, show (ksF K n.f2).getD (.bool false) = .bool (K n.f2) by unfold ksF; cases K n.f2 <;> rfl]
                  rw [hK] at hl16
                  refine wp_region_past (by kernel_rfl) (by kernel_rfl) ?_
                  repeat (go_big_quiet_step (fail))
                  refine wpQuiet_nil ?_
                  rintro _ ⟨p, rfl⟩
                  have hb6 := p.h
                  generalize p.W = w6 at hb6 ⊢
                  have hc1 := pw_cell_below hb6 hc1
                  have hc2 := pw_cell_below hb6 hc2
                  have hg1 := pw_cell_below hb6 hg1
                  have HB6 := Aside0.mk (below_step HB5.out hb6)
                  have HJ6 := Aside0.mk (HJ5.out.below hb6)
                  have HB56 := Aside0.mk hb6
                  have HK6 := Aside0.mk ((hb6.block _ (Array.getElem?_eq_some_iff.1 hk).1).trans hk)
                  have HLT6 := Aside0.mk (Array.getElem?_eq_some_iff.1 HK6.out).1
                  have HNE := Aside0.mk (show wr.heap.size ≠ m n.f1 from fun e => by obtain ⟨l, c, hb, _⟩ := HOM.out.2.2; rw [← e, hk] at hb; cases hb)
                  clear hp0 hp2 hpg hl16 hk hc0 hgu hb6
                  go_wp2_with (first | (at_lookup; refine wl_look2 (K := KS) rfl (.tmp 72) (.tmp 74) 113 rfl Try.underlying113 zeroI HJ6.out.h2 n.f2 rfl rfl ?_; rw [HT.out]; simp only [Option.getD_some, Option.isSome_some]))
                  obtain ⟨st1, w7, hme, hg7, hst⟩ := ((HOM.out.2.2.below HB56.out).drew).entry Try.underlying64 zeroB n.f2
                  obtain ⟨w8, hes, hH8, hg8⟩ := hst (.bool true)
                  obtain ⟨w9, hmu, hH9, hg9⟩ := ((HJ6.out.h2.drew).grown hg8 (fun e => Jrn.ne _ HJ6.out.o2 HOM.out.1 (.inr (by decide)) (Option.some.inj e))).put Try.underlying113 n.f2 (.int .i64 n.f1)
                  have hme : (Instr.mapEntry 64 (.map (some (m n.f1))) (.string n.f2)).run Try.prog w6.drew = .ok (.tuple #[(ksF K n.f2).getD (.bool false), .int .i64 st1]) w7 := hme
                  have hes : (Instr.entryStore 64 (.map (some (m n.f1))) (.int .i64 st1) (.bool true)).run Try.prog w7 = .ok () w8 := hes
                  have hmu : (Instr.mapUpdate 113 (.map (some b2)) (.string n.f2) (.int .i64 n.f1)).run Try.prog w8 = .ok () w9 := hmu
                  have hne7 : wr.heap.size ≠ m n.f1 := HNE.out
                  have hk7 := (hg7.block wr.heap.size HLT6.out (fun e => hne7 (Option.some.inj e))).trans HK6.out
                  have hk8 := (hg8.block wr.heap.size HLT6.out (fun e => hne7 (Option.some.inj e))).trans HK6.out
                  have h71 := (blk_cell hk7 1).trans (show _ = some (Value.int .i64 n.f1) from rfl)
                  have h72 := (blk_cell hk7 2).trans (show _ = some (Value.string n.f2) from rfl)
                  have h81 := (blk_cell hk8 1).trans (show _ = some (Value.int .i64 n.f1) from rfl)
                  have h82 := (blk_cell hk8 2).trans (show _ = some (Value.string n.f2) from rfl)
                  have HJ9 := Aside0.mk ((HJ6.out.drew).added n.f1 n.f2 HON.out hH8 hg8 hH9 hg9)
                  have HB9 := Aside0.mk ((HB6.out.drew.grown hg8 (below_size HB6.out.drew) (fun k e => by cases e; exact HOM.out.2.1)).grown hg9 (Nat.le_trans (below_size HB6.out.drew) hg8.size) (fun k e => by cases e; exact HJ6.out.l2))
                  clear hst hg7 hg8 hg9 hH8 hH9 hk7 hk8 hne7
                  go_region
                  go_wp2
                  go_roundg (gk - 1)
                  case measure => have := HQ.out; omega
                  case rel => exact ⟨i + 1, _, _, _, _, rfl, by omega, ⟨by have := HQ.out; omega⟩, HS3, HJ9, HB9⟩
                · skip
                  have q1 : (n.f0 == 1) = false := by rw [k3]; rfl
                  have q3 : (n.f0 == 3) = true := by rw [k3]; rfl
                  have q2 : (n.f0 == 2) = false := by rw [k3]; rfl
                  have q4 : (n.f0 == 4) = false := by rw [k3]; rfl
                  have q5 : (n.f0 == 5) = false := by rw [k3]; rfl
                  have q7 : (n.f0 == 7) = false := by rw [k3]; rfl
                  have q6 : (n.f0 != 6) = true := by rw [k3]; rfl
                  have q4n : (n.f0 != 4) = true := by rw [k3]; rfl
                  have qo : (o != n.f1) = true := bne_iff_ne.2 ho
                  obtain ⟨rfl, rfl⟩ := Prod.mk.inj ((wrongFrom_inl (wrongStep_d hk' HON.out ht ho)).symm.trans HS2.out)
                  clear k1 k6 HS2 hk' ht ho
                  clear k3
                  have hk := heap_alloc_new wr (.cells #[.int .i64 n.f0, .int .i64 n.f1, .string n.f2, .bool n.f3, .string n.f4] 39)
                  have HB5 := Aside0.mk (HB.out.alloc (below_size HB.out) (.cells #[.int .i64 n.f0, .int .i64 n.f1, .string n.f2, .bool n.f3, .string n.f4] 39))
                  have HJ5 := Aside0.mk (HJ.out.below ((Below.refl _ _).alloc (Nat.le_refl _) (.cells #[.int .i64 n.f0, .int .i64 n.f1, .string n.f2, .bool n.f3, .string n.f4] 39)))
                  have HOG := Aside0.mk (HJ5.out.og _ _ HON.out)
                  have HOM := Aside0.mk (HJ5.out.om _ _ HON.out)
                  go_wp2_with (first | (at_lookup; refine wl_look2 (K := KI) rfl (.tmp 26) (.tmp 28) 112 rfl Try.underlying112 zero114 HJ5.out.h1 n.f1 rfl rfl ?_; rw [HO1.out]; simp only [Option.getD_some, Option.isSome_some]; generalize wr.alloc (.cells #[.int .i64 n.f0, .int .i64 n.f1, .string n.f2, .bool n.f3, .string n.f4] 39) = w5 at HB5 HJ5 hk HOG HOM ⊢; have hc0 := (blk_cell hk 0).trans (show _ = some (Value.int .i64 n.f0) from rfl); have hc1 := (blk_cell hk 1).trans (show _ = some (Value.int .i64 n.f1) from rfl); have hc2 := (blk_cell hk 2).trans (show _ = some (Value.string n.f2) from rfl)))
                  obtain ⟨fr, hgu⟩ := HOG.out.2.2
                  have hg1 := (blk_cell hgu 1).trans (show _ = some (Value.map (some (m n.f1))) from rfl)
                  have hp0 := fun p : Past w5 => Past.cell hc0 p
                  have hp2 := fun p : Past w5 => Past.cell hc2 p
                  have hpg := fun p : Past w5 => Past.cell hg1 p
                  have hl16 : ∀ p : Past w5, (Instr.lookup 64 (.map (some (m n.f1))) (.string n.f2) false).run Try.prog p.W = .ok (.bool (K n.f2)) p.W := fun p => by rw [show (Value.string n.f2) = KS.enc n.f2 from rfl, ((HOM.out.2.2.below p.h).look Try.underlying64 zeroB n.f2).1, show (ksF K n.f2).getD (.bool false) = .bool (K n.f2) by unfold ksF; cases K n.f2 <;> rfl]
                  rw [hK] at hl16
                  refine wp_region_past (by kernel_rfl) (by kernel_rfl) ?_
                  repeat (go_big_quiet_step (fail))
                  refine wpQuiet_nil ?_
                  rintro _ ⟨p, rfl⟩
                  have hb6 := p.h
                  generalize p.W = w6 at hb6 ⊢
                  have hc1 := pw_cell_below hb6 hc1
                  have hc2 := pw_cell_below hb6 hc2
                  have hg1 := pw_cell_below hb6 hg1
                  have HB6 := Aside0.mk (below_step HB5.out hb6)
                  have HJ6 := Aside0.mk (HJ5.out.below hb6)
                  have HB56 := Aside0.mk hb6
                  have HK6 := Aside0.mk ((hb6.block _ (Array.getElem?_eq_some_iff.1 hk).1).trans hk)
                  have HLT6 := Aside0.mk (Array.getElem?_eq_some_iff.1 HK6.out).1
                  have HNE := Aside0.mk (show wr.heap.size ≠ m n.f1 from fun e => by obtain ⟨l, c, hb, _⟩ := HOM.out.2.2; rw [← e, hk] at hb; cases hb)
                  clear hp0 hp2 hpg hl16 hk hc0 hgu hb6
                  go_wp2_with (first | (at_lookup; refine wl_look2 (K := KS) rfl (.tmp 72) (.tmp 74) 113 rfl Try.underlying113 zeroI HJ6.out.h2 n.f2 rfl rfl ?_; rw [HT.out]; simp only [Option.getD_some, Option.isSome_some]))
                  go_ret2
                  exact ⟨rfl, HB6.out⟩
          by_cases k2 : n.f0 = 2
          · have hk' : n.f0 = 3 ∧ K n.f2 = true ∨ n.f0 = 2 := .inr k2
            cases ht : st.tk n.f2 with
            | none =>
              have q1 : (n.f0 == 1) = false := by rw [k2]; rfl
              have q3 : (n.f0 == 3) = false := by rw [k2]; rfl
              have q2 : (n.f0 == 2) = true := by rw [k2]; rfl
              have q4 : (n.f0 == 4) = false := by rw [k2]; rfl
              have q5 : (n.f0 == 5) = false := by rw [k2]; rfl
              have q7 : (n.f0 == 7) = false := by rw [k2]; rfl
              have q6 : (n.f0 != 6) = true := by rw [k2]; rfl
              have q4n : (n.f0 != 4) = true := by rw [k2]; rfl
              have HT := Aside0.mk (show tkF st.tk n.f2 = none by unfold tkF; rw [ht]; rfl)
              have HS3 := Aside0.mk ((wrongFrom_inr (wrongStep_k hk' HON.out (.inl ht))).symm.trans HS2.out)
              clear k1 k6 HS2 hk' ht
              clear k2 k3
              have hk := heap_alloc_new wr (.cells #[.int .i64 n.f0, .int .i64 n.f1, .string n.f2, .bool n.f3, .string n.f4] 39)
              have HB5 := Aside0.mk (HB.out.alloc (below_size HB.out) (.cells #[.int .i64 n.f0, .int .i64 n.f1, .string n.f2, .bool n.f3, .string n.f4] 39))
              have HJ5 := Aside0.mk (HJ.out.below ((Below.refl _ _).alloc (Nat.le_refl _) (.cells #[.int .i64 n.f0, .int .i64 n.f1, .string n.f2, .bool n.f3, .string n.f4] 39)))
              have HOG := Aside0.mk (HJ5.out.og _ _ HON.out)
              have HOM := Aside0.mk (HJ5.out.om _ _ HON.out)
              go_wp2_with (first | (at_lookup; refine wl_look2 (K := KI) rfl (.tmp 26) (.tmp 28) 112 rfl Try.underlying112 zero114 HJ5.out.h1 n.f1 rfl rfl ?_; rw [HO1.out]; simp only [Option.getD_some, Option.isSome_some]; generalize wr.alloc (.cells #[.int .i64 n.f0, .int .i64 n.f1, .string n.f2, .bool n.f3, .string n.f4] 39) = w5 at HB5 HJ5 hk HOG HOM ⊢; have hc0 := (blk_cell hk 0).trans (show _ = some (Value.int .i64 n.f0) from rfl); have hc1 := (blk_cell hk 1).trans (show _ = some (Value.int .i64 n.f1) from rfl); have hc2 := (blk_cell hk 2).trans (show _ = some (Value.string n.f2) from rfl)))
              obtain ⟨fr, hgu⟩ := HOG.out.2.2
              have hg1 := (blk_cell hgu 1).trans (show _ = some (Value.map (some (m n.f1))) from rfl)
              have hp0 := fun p : Past w5 => Past.cell hc0 p
              have hp2 := fun p : Past w5 => Past.cell hc2 p
              have hpg := fun p : Past w5 => Past.cell hg1 p
              refine wp_region_past (by kernel_rfl) (by kernel_rfl) ?_
              repeat (go_big_quiet_step (fail))
              refine wpQuiet_nil ?_
              rintro _ ⟨p, rfl⟩
              have hb6 := p.h
              generalize p.W = w6 at hb6 ⊢
              have hc1 := pw_cell_below hb6 hc1
              have hc2 := pw_cell_below hb6 hc2
              have hg1 := pw_cell_below hb6 hg1
              have HB6 := Aside0.mk (below_step HB5.out hb6)
              have HJ6 := Aside0.mk (HJ5.out.below hb6)
              have HB56 := Aside0.mk hb6
              have HK6 := Aside0.mk ((hb6.block _ (Array.getElem?_eq_some_iff.1 hk).1).trans hk)
              have HLT6 := Aside0.mk (Array.getElem?_eq_some_iff.1 HK6.out).1
              have HNE := Aside0.mk (show wr.heap.size ≠ m n.f1 from fun e => by obtain ⟨l, c, hb, _⟩ := HOM.out.2.2; rw [← e, hk] at hb; cases hb)
              clear hp0 hp2 hpg hk hc0 hgu hb6
              go_wp2_with (first | (at_lookup; refine wl_look2 (K := KS) rfl (.tmp 72) (.tmp 74) 113 rfl Try.underlying113 zeroI HJ6.out.h2 n.f2 rfl rfl ?_; rw [HT.out]; simp only [Option.getD_none, Option.isSome_none]))
              obtain ⟨st1, w7, hme, hg7, hst⟩ := ((HOM.out.2.2.below HB56.out).drew).entry Try.underlying64 zeroB n.f2
              obtain ⟨w8, hes, hH8, hg8⟩ := hst (.bool true)
              obtain ⟨w9, hmu, hH9, hg9⟩ := ((HJ6.out.h2.drew).grown hg8 (fun e => Jrn.ne _ HJ6.out.o2 HOM.out.1 (.inr (by decide)) (Option.some.inj e))).put Try.underlying113 n.f2 (.int .i64 n.f1)
              have hme : (Instr.mapEntry 64 (.map (some (m n.f1))) (.string n.f2)).run Try.prog w6.drew = .ok (.tuple #[(ksF K n.f2).getD (.bool false), .int .i64 st1]) w7 := hme
              have hes : (Instr.entryStore 64 (.map (some (m n.f1))) (.int .i64 st1) (.bool true)).run Try.prog w7 = .ok () w8 := hes
              have hmu : (Instr.mapUpdate 113 (.map (some b2)) (.string n.f2) (.int .i64 n.f1)).run Try.prog w8 = .ok () w9 := hmu
              have hne7 : wr.heap.size ≠ m n.f1 := HNE.out
              have hk7 := (hg7.block wr.heap.size HLT6.out (fun e => hne7 (Option.some.inj e))).trans HK6.out
              have hk8 := (hg8.block wr.heap.size HLT6.out (fun e => hne7 (Option.some.inj e))).trans HK6.out
              have h71 := (blk_cell hk7 1).trans (show _ = some (Value.int .i64 n.f1) from rfl)
              have h72 := (blk_cell hk7 2).trans (show _ = some (Value.string n.f2) from rfl)
              have h81 := (blk_cell hk8 1).trans (show _ = some (Value.int .i64 n.f1) from rfl)
              have h82 := (blk_cell hk8 2).trans (show _ = some (Value.string n.f2) from rfl)
              have HJ9 := Aside0.mk ((HJ6.out.drew).added n.f1 n.f2 HON.out hH8 hg8 hH9 hg9)
              have HB9 := Aside0.mk ((HB6.out.drew.grown hg8 (below_size HB6.out.drew) (fun k e => by cases e; exact HOM.out.2.1)).grown hg9 (Nat.le_trans (below_size HB6.out.drew) hg8.size) (fun k e => by cases e; exact HJ6.out.l2))
              clear hst hg7 hg8 hg9 hH8 hH9 hk7 hk8 hne7
              go_region
              go_wp2
              go_roundg (gk - 1)
              case measure => have := HQ.out; omega
              case rel => exact ⟨i + 1, _, _, _, _, rfl, by omega, ⟨by have := HQ.out; omega⟩, HS3, HJ9, HB9⟩
            | some o =>
              have HT := Aside0.mk (show tkF st.tk n.f2 = some (.int .i64 o) by unfold tkF; rw [ht]; rfl)
              by_cases ho : o = n.f1
              · skip
                have q1 : (n.f0 == 1) = false := by rw [k2]; rfl
                have q3 : (n.f0 == 3) = false := by rw [k2]; rfl
                have q2 : (n.f0 == 2) = true := by rw [k2]; rfl
                have q4 : (n.f0 == 4) = false := by rw [k2]; rfl
                have q5 : (n.f0 == 5) = false := by rw [k2]; rfl
                have q7 : (n.f0 == 7) = false := by rw [k2]; rfl
                have q6 : (n.f0 != 6) = true := by rw [k2]; rfl
                have q4n : (n.f0 != 4) = true := by rw [k2]; rfl
                have qo : (o != n.f1) = false := by rw [ho]; simp
                have HS3 := Aside0.mk ((wrongFrom_inr (wrongStep_k hk' HON.out (.inr (ho ▸ ht)))).symm.trans HS2.out)
                clear k1 k6 HS2 hk' ht ho
                clear k2 k3
                have hk := heap_alloc_new wr (.cells #[.int .i64 n.f0, .int .i64 n.f1, .string n.f2, .bool n.f3, .string n.f4] 39)
                have HB5 := Aside0.mk (HB.out.alloc (below_size HB.out) (.cells #[.int .i64 n.f0, .int .i64 n.f1, .string n.f2, .bool n.f3, .string n.f4] 39))
                have HJ5 := Aside0.mk (HJ.out.below ((Below.refl _ _).alloc (Nat.le_refl _) (.cells #[.int .i64 n.f0, .int .i64 n.f1, .string n.f2, .bool n.f3, .string n.f4] 39)))
                have HOG := Aside0.mk (HJ5.out.og _ _ HON.out)
                have HOM := Aside0.mk (HJ5.out.om _ _ HON.out)
                go_wp2_with (first | (at_lookup; refine wl_look2 (K := KI) rfl (.tmp 26) (.tmp 28) 112 rfl Try.underlying112 zero114 HJ5.out.h1 n.f1 rfl rfl ?_; rw [HO1.out]; simp only [Option.getD_some, Option.isSome_some]; generalize wr.alloc (.cells #[.int .i64 n.f0, .int .i64 n.f1, .string n.f2, .bool n.f3, .string n.f4] 39) = w5 at HB5 HJ5 hk HOG HOM ⊢; have hc0 := (blk_cell hk 0).trans (show _ = some (Value.int .i64 n.f0) from rfl); have hc1 := (blk_cell hk 1).trans (show _ = some (Value.int .i64 n.f1) from rfl); have hc2 := (blk_cell hk 2).trans (show _ = some (Value.string n.f2) from rfl)))
                obtain ⟨fr, hgu⟩ := HOG.out.2.2
                have hg1 := (blk_cell hgu 1).trans (show _ = some (Value.map (some (m n.f1))) from rfl)
                have hp0 := fun p : Past w5 => Past.cell hc0 p
                have hp2 := fun p : Past w5 => Past.cell hc2 p
                have hpg := fun p : Past w5 => Past.cell hg1 p
                refine wp_region_past (by kernel_rfl) (by kernel_rfl) ?_
                repeat (go_big_quiet_step (fail))
                refine wpQuiet_nil ?_
                rintro _ ⟨p, rfl⟩
                have hb6 := p.h
                generalize p.W = w6 at hb6 ⊢
                have hc1 := pw_cell_below hb6 hc1
                have hc2 := pw_cell_below hb6 hc2
                have hg1 := pw_cell_below hb6 hg1
                have HB6 := Aside0.mk (below_step HB5.out hb6)
                have HJ6 := Aside0.mk (HJ5.out.below hb6)
                have HB56 := Aside0.mk hb6
                have HK6 := Aside0.mk ((hb6.block _ (Array.getElem?_eq_some_iff.1 hk).1).trans hk)
                have HLT6 := Aside0.mk (Array.getElem?_eq_some_iff.1 HK6.out).1
                have HNE := Aside0.mk (show wr.heap.size ≠ m n.f1 from fun e => by obtain ⟨l, c, hb, _⟩ := HOM.out.2.2; rw [← e, hk] at hb; cases hb)
                clear hp0 hp2 hpg hk hc0 hgu hb6
                go_wp2_with (first | (at_lookup; refine wl_look2 (K := KS) rfl (.tmp 72) (.tmp 74) 113 rfl Try.underlying113 zeroI HJ6.out.h2 n.f2 rfl rfl ?_; rw [HT.out]; simp only [Option.getD_some, Option.isSome_some]))
                obtain ⟨st1, w7, hme, hg7, hst⟩ := ((HOM.out.2.2.below HB56.out).drew).entry Try.underlying64 zeroB n.f2
                obtain ⟨w8, hes, hH8, hg8⟩ := hst (.bool true)
                obtain ⟨w9, hmu, hH9, hg9⟩ := ((HJ6.out.h2.drew).grown hg8 (fun e => Jrn.ne _ HJ6.out.o2 HOM.out.1 (.inr (by decide)) (Option.some.inj e))).put Try.underlying113 n.f2 (.int .i64 n.f1)
                have hme : (Instr.mapEntry 64 (.map (some (m n.f1))) (.string n.f2)).run Try.prog w6.drew = .ok (.tuple #[(ksF K n.f2).getD (.bool false), .int .i64 st1]) w7 := hme
                have hes : (Instr.entryStore 64 (.map (some (m n.f1))) (.int .i64 st1) (.bool true)).run Try.prog w7 = .ok () w8 := hes
                have hmu : (Instr.mapUpdate 113 (.map (some b2)) (.string n.f2) (.int .i64 n.f1)).run Try.prog w8 = .ok () w9 := hmu
                have hne7 : wr.heap.size ≠ m n.f1 := HNE.out
                have hk7 := (hg7.block wr.heap.size HLT6.out (fun e => hne7 (Option.some.inj e))).trans HK6.out
                have hk8 := (hg8.block wr.heap.size HLT6.out (fun e => hne7 (Option.some.inj e))).trans HK6.out
                have h71 := (blk_cell hk7 1).trans (show _ = some (Value.int .i64 n.f1) from rfl)
                have h72 := (blk_cell hk7 2).trans (show _ = some (Value.string n.f2) from rfl)
                have h81 := (blk_cell hk8 1).trans (show _ = some (Value.int .i64 n.f1) from rfl)
                have h82 := (blk_cell hk8 2).trans (show _ = some (Value.string n.f2) from rfl)
                have HJ9 := Aside0.mk ((HJ6.out.drew).added n.f1 n.f2 HON.out hH8 hg8 hH9 hg9)
                have HB9 := Aside0.mk ((HB6.out.drew.grown hg8 (below_size HB6.out.drew) (fun k e => by cases e; exact HOM.out.2.1)).grown hg9 (Nat.le_trans (below_size HB6.out.drew) hg8.size) (fun k e => by cases e; exact HJ6.out.l2))
                clear hst hg7 hg8 hg9 hH8 hH9 hk7 hk8 hne7
                go_region
                go_wp2
                go_roundg (gk - 1)
                case measure => have := HQ.out; omega
                case rel => exact ⟨i + 1, _, _, _, _, rfl, by omega, ⟨by have := HQ.out; omega⟩, HS3, HJ9, HB9⟩
              · skip
                have q1 : (n.f0 == 1) = false := by rw [k2]; rfl
                have q3 : (n.f0 == 3) = false := by rw [k2]; rfl
                have q2 : (n.f0 == 2) = true := by rw [k2]; rfl
                have q4 : (n.f0 == 4) = false := by rw [k2]; rfl
                have q5 : (n.f0 == 5) = false := by rw [k2]; rfl
                have q7 : (n.f0 == 7) = false := by rw [k2]; rfl
                have q6 : (n.f0 != 6) = true := by rw [k2]; rfl
                have q4n : (n.f0 != 4) = true := by rw [k2]; rfl
                have qo : (o != n.f1) = true := bne_iff_ne.2 ho
                obtain ⟨rfl, rfl⟩ := Prod.mk.inj ((wrongFrom_inl (wrongStep_d hk' HON.out ht ho)).symm.trans HS2.out)
                clear k1 k6 HS2 hk' ht ho
                clear k2 k3
                have hk := heap_alloc_new wr (.cells #[.int .i64 n.f0, .int .i64 n.f1, .string n.f2, .bool n.f3, .string n.f4] 39)
                have HB5 := Aside0.mk (HB.out.alloc (below_size HB.out) (.cells #[.int .i64 n.f0, .int .i64 n.f1, .string n.f2, .bool n.f3, .string n.f4] 39))
                have HJ5 := Aside0.mk (HJ.out.below ((Below.refl _ _).alloc (Nat.le_refl _) (.cells #[.int .i64 n.f0, .int .i64 n.f1, .string n.f2, .bool n.f3, .string n.f4] 39)))
                have HOG := Aside0.mk (HJ5.out.og _ _ HON.out)
                have HOM := Aside0.mk (HJ5.out.om _ _ HON.out)
                go_wp2_with (first | (at_lookup; refine wl_look2 (K := KI) rfl (.tmp 26) (.tmp 28) 112 rfl Try.underlying112 zero114 HJ5.out.h1 n.f1 rfl rfl ?_; rw [HO1.out]; simp only [Option.getD_some, Option.isSome_some]; generalize wr.alloc (.cells #[.int .i64 n.f0, .int .i64 n.f1, .string n.f2, .bool n.f3, .string n.f4] 39) = w5 at HB5 HJ5 hk HOG HOM ⊢; have hc0 := (blk_cell hk 0).trans (show _ = some (Value.int .i64 n.f0) from rfl); have hc1 := (blk_cell hk 1).trans (show _ = some (Value.int .i64 n.f1) from rfl); have hc2 := (blk_cell hk 2).trans (show _ = some (Value.string n.f2) from rfl)))
                obtain ⟨fr, hgu⟩ := HOG.out.2.2
                have hg1 := (blk_cell hgu 1).trans (show _ = some (Value.map (some (m n.f1))) from rfl)
                have hp0 := fun p : Past w5 => Past.cell hc0 p
                have hp2 := fun p : Past w5 => Past.cell hc2 p
                have hpg := fun p : Past w5 => Past.cell hg1 p
                refine wp_region_past (by kernel_rfl) (by kernel_rfl) ?_
                repeat (go_big_quiet_step (fail))
                refine wpQuiet_nil ?_
                rintro _ ⟨p, rfl⟩
                have hb6 := p.h
                generalize p.W = w6 at hb6 ⊢
                have hc1 := pw_cell_below hb6 hc1
                have hc2 := pw_cell_below hb6 hc2
                have hg1 := pw_cell_below hb6 hg1
                have HB6 := Aside0.mk (below_step HB5.out hb6)
                have HJ6 := Aside0.mk (HJ5.out.below hb6)
                have HB56 := Aside0.mk hb6
                have HK6 := Aside0.mk ((hb6.block _ (Array.getElem?_eq_some_iff.1 hk).1).trans hk)
                have HLT6 := Aside0.mk (Array.getElem?_eq_some_iff.1 HK6.out).1
                have HNE := Aside0.mk (show wr.heap.size ≠ m n.f1 from fun e => by obtain ⟨l, c, hb, _⟩ := HOM.out.2.2; rw [← e, hk] at hb; cases hb)
                clear hp0 hp2 hpg hk hc0 hgu hb6
                go_wp2_with (first | (at_lookup; refine wl_look2 (K := KS) rfl (.tmp 72) (.tmp 74) 113 rfl Try.underlying113 zeroI HJ6.out.h2 n.f2 rfl rfl ?_; rw [HT.out]; simp only [Option.getD_some, Option.isSome_some]))
                go_ret2
                exact ⟨rfl, HB6.out⟩
          by_cases k4 : n.f0 = 4
          · skip
            have q1 : (n.f0 == 1) = false := by rw [k4]; rfl
            have q3 : (n.f0 == 3) = false := by rw [k4]; rfl
            have q2 : (n.f0 == 2) = false := by rw [k4]; rfl
            have q4 : (n.f0 == 4) = true := by rw [k4]; rfl
            have q5 : (n.f0 == 5) = false := by rw [k4]; rfl
            have q7 : (n.f0 == 7) = false := by rw [k4]; rfl
            have q6 : (n.f0 != 6) = true := by rw [k4]; rfl
            have q4n : (n.f0 != 4) = false := by rw [k4]; rfl
            have HS3 := Aside0.mk ((wrongFrom_inr (wrongStep_q (by omega) HON.out)).symm.trans HS2.out)
            rw [if_pos k4] at HS3
            clear k1 k2 k3 k4 k6 HS2
            have hk := heap_alloc_new wr (.cells #[.int .i64 n.f0, .int .i64 n.f1, .string n.f2, .bool n.f3, .string n.f4] 39)
            have HB5 := Aside0.mk (HB.out.alloc (below_size HB.out) (.cells #[.int .i64 n.f0, .int .i64 n.f1, .string n.f2, .bool n.f3, .string n.f4] 39))
            have HJ5 := Aside0.mk (HJ.out.below ((Below.refl _ _).alloc (Nat.le_refl _) (.cells #[.int .i64 n.f0, .int .i64 n.f1, .string n.f2, .bool n.f3, .string n.f4] 39)))
            have HOG := Aside0.mk (HJ5.out.og _ _ HON.out)
            have HOM := Aside0.mk (HJ5.out.om _ _ HON.out)
            go_wp2_with (first | (at_lookup; refine wl_look2 (K := KI) rfl (.tmp 26) (.tmp 28) 112 rfl Try.underlying112 zero114 HJ5.out.h1 n.f1 rfl rfl ?_; rw [HO1.out]; simp only [Option.getD_some, Option.isSome_some]; generalize wr.alloc (.cells #[.int .i64 n.f0, .int .i64 n.f1, .string n.f2, .bool n.f3, .string n.f4] 39) = w5 at HB5 HJ5 hk HOG HOM ⊢; have hc0 := (blk_cell hk 0).trans (show _ = some (Value.int .i64 n.f0) from rfl); have hc1 := (blk_cell hk 1).trans (show _ = some (Value.int .i64 n.f1) from rfl); have hc2 := (blk_cell hk 2).trans (show _ = some (Value.string n.f2) from rfl)); obtain ⟨fr, hgu⟩ := HOG.out.2.2; have hg1 := (blk_cell hgu 1).trans (show _ = some (Value.map (some (m n.f1))) from rfl) | (at_range; refine wl_range (K := KS) rfl (.tmp 106) 64 rfl Try.underlying64 HOM.out.2.2 rfl ?_; intro w6 cnt hR hbl))
            go_frame
            have hb6 := hbl w5.heap.size (Nat.le_refl _)
            have HB6 := Aside0.mk (below_step HB5.out hb6)
            have hlt5 : wr.heap.size < w5.heap.size := (Array.getElem?_eq_some_iff.1 hk).1
            have HT2 := Aside0.mk (show wr.heap.size ≠ b2 from fun e => by obtain ⟨l, c, hb, _⟩ := HJ5.out.h2; rw [← e, hk] at hb; cases hb)
            have HT1 := Aside0.mk (show wr.heap.size ≠ b1 from fun e => by obtain ⟨l, c, hb, _⟩ := HJ5.out.h1; rw [← e, hk] at hb; cases hb)
            obtain ⟨own6, HO6, HJ6⟩ : ∃ own6, Aside0 (own6 w5.heap.size = (0, 4)) ∧ Aside0 (Jrn w6 w.heap.size b1 b2 st.on st.tk g m own6) := ⟨_, ⟨by simp⟩, ⟨HJ5.out.beside hb6⟩⟩
            have HK6 := Aside0.mk ((hb6.block _ hlt5).trans hk)
            have hltr : wr.heap.size < w5.heap.size := hlt5
            have hb2r : b2 < w5.heap.size := HJ5.out.lt2
            have hrw : w.heap.size ≤ w5.heap.size := below_size HB5.out
            clear hbl hb6 hlt5 hk hc0 hc1 hc2 hgu hg1
            generalize w5.heap.size = r at *
            generalize wr.heap.size = tb at *
            have HR := Aside0.mk hR
            clear hR HB5 HJ5 HOG HOM HJ HB HO1
            go_loopg [108] (cnt + 1) (fun kq v108 w' => ∃ (left : ByteArray → Bool) (cn : Nat), Aside0 (kq = cn + 1) ∧ Aside0 (Ranging KS w' r (m n.f1) (ksF K) left cn) ∧ Aside0 (Jrn w' w.heap.size b1 b2 st.on (fun k => if K k = true ∧ left k = false then none else st.tk k) g m own6) ∧ Aside0 (Below w.heap.size w w') ∧ Aside0 (w'.heap[tb]? = some (.cells #[.int .i64 n.f0, .int .i64 n.f1, .string n.f2, .bool n.f3, .string n.f4] 39)))
            case atStart => exact ⟨_, cnt, ⟨rfl⟩, HR, ⟨HJ6.out.congr (fun _ => rfl) (fun k => by show st.tk k = (if K k = true ∧ (ksF K k).isSome = false then none else st.tk k); unfold ksF; cases K k <;> rfl)⟩, HB6, HK6⟩
            case round =>
              clear HR HJ6 HB6 HK6
              obtain ⟨left, cn, HQ2, HR, HJ6, HB6, HK6⟩ := hrel
              rcases HR.out.next 0 with ⟨hl, hrun⟩ | ⟨k0, v0, cn', w8, hcn, hlk, hFk, hrun, hent, hR8, hg8⟩
              · have hrun' : ∀ ty, (Instr.next (.pointer (some ⟨r, 0, none⟩)) false ty).run Try.prog wr = .ok (.tuple #[.bool false]) wr := fun _ => hrun
                clear hrun
                have hmm := @run_makeMap Try.prog
                have HJ7 := Aside0.mk (HJ6.out.congr (fun _ => rfl) (tk' := fun k => if K k = true then none else st.tk k) (fun k => by simp only [hl k, and_true]))
                clear HJ6 hl HR
                have HOG := Aside0.mk (HJ7.out.og _ _ HON.out)
                obtain ⟨fr, hgu⟩ := HOG.out.2.2
                have HGU := Aside0.mk hgu
                have hltg := (Array.getElem?_eq_some_iff.1 hgu).1
                have hgu' := (heap_alloc_old wr (.map #[] 0) hltg).trans hgu
                have hx0 := (blk_cell hgu' 0).trans (show _ = some (Value.int .i64 fr) from rfl)
                have hx1 := (blk_cell hgu' 1).trans (show _ = some (Value.map (some (m n.f1))) from rfl)
                have hf0 : (wr.alloc (.map #[] 0)).frozen? ⟨g n.f1, 0, none⟩ = false := by unfold World.frozen?; rw [hgu']; rfl
                have hf1 : (wr.alloc (.map #[] 0)).frozen? ⟨g n.f1, 1, none⟩ = false := by unfold World.frozen?; rw [hgu']; rfl
                have htg : tb ≠ g n.f1 := fun e => by have := HK6.out; rw [e, hgu] at this; cases this
                have hltb := (Array.getElem?_eq_some_iff.1 HK6.out).1
                have hW2 := two_cells hgu' (.int .i64 i) (.map (some wr.heap.size))
                have hgr := grown_two (wr.alloc (.map #[] 0)) ⟨g n.f1, 0, none⟩ ⟨g n.f1, 1, none⟩ rfl (.int .i64 i) (.map (some wr.heap.size))
                obtain ⟨m', own', hj8⟩ := HJ7.out.quieted (below_size HB6.out) n.f1 i HON.out ((Below.refl _ wr).alloc (Nat.le_refl _) (.map #[] 0)) (Holds.made KS wr) hW2 hgr
                have HJ8 := Aside0.mk hj8
                have HB8 := Aside0.mk ((HB6.out.alloc (below_size HB6.out) (.map #[] 0)).grown hgr (by have := below_size HB6.out; simp; omega) (fun k e => by cases e; exact HOG.out.2.1))
                have hk8 := (hgr.block tb (by simp; omega) (fun e => htg (Option.some.inj e))).trans ((heap_alloc_old wr (.map #[] 0) hltb).trans HK6.out)
                have HC0' := Aside0.mk ((blk_cell hk8 0).trans (show _ = some (Value.int .i64 n.f0) from rfl))
                have HC1' := Aside0.mk ((blk_cell hk8 1).trans (show _ = some (Value.int .i64 n.f1) from rfl))
                clear hgu hgu' hltg htg hltb hW2 hgr hj8 hk8 HJ7 HB6 HK6 HOG HGU
                go_upto_region 30 with (fail)
                generalize ((wr.alloc (.map #[] 0)).setCell ⟨g n.f1, 0, none⟩ (.int .i64 i)).setCell ⟨g n.f1, 1, none⟩ (.map (some wr.heap.size)) = w9 at HJ8 HB8 HC0' HC1' ⊢
                have hc0 := HC0'.out
                have hc1 := HC1'.out
                clear hx0 hx1 hf0 hf1 HC0' HC1'
                go_wp2
                go_roundg (l0.length - i - 1)
                case measure => have := HQ.out; omega
                case rel => exact ⟨i + 1, _, _, _, _, rfl, by omega, ⟨by have := HQ.out; omega⟩, HS3, HJ8, HB8⟩
              · have hrun' : ∀ ty, (Instr.next (.pointer (some ⟨r, 0, none⟩)) false ty).run Try.prog wr = .ok (.tuple #[.bool true, .string k0, v0]) w8 := fun _ => hrun
                have hent' : (Instr.entry (.pointer (some ⟨r, 0, none⟩))).run Try.prog w8 = .ok (.tuple #[.string k0, v0]) w8 := hent
                have hKk : K k0 = true := by unfold ksF at hFk; cases hKK : K k0 <;> rw [hKK] at hFk <;> simp at hFk ⊢
                have HJ8 := Aside0.mk (HJ6.out.other HO6.out hg8)
                have HB8 := Aside0.mk (HB6.out.grown hg8 (below_size HB6.out) (fun k e => by cases e; exact hrw))
                have HK8 := Aside0.mk ((hg8.block tb (Array.getElem?_eq_some_iff.1 HK6.out).1 (fun e => by have := Option.some.inj e; omega)).trans HK6.out)
                have HR8 := Aside0.mk hR8
                have HKK := Aside0.mk hKk
                clear hrun hent hFk hlk hKk hR8 hg8 HJ6 HB6 HK6 HR
                go_wp2_with (first | (at_delete; refine wl_drop (K := KS) rfl (.tmp 112) (.tmp 113) 113 9 rfl Try.underlying113 HJ8.out.h2 k0 rfl rfl ?_; intro w9 hp9 hg9; have HJ9 := Aside0.mk (HJ8.out.struck (tk' := fun k => if K k = true ∧ (left k && !decide (k = k0)) = false then none else st.tk k) (hp9.congr (fun q => by have := HKK.out; unfold tkF; by_cases hq : q = k0 <;> simp [hq, this])) hg9); have HB9 := Aside0.mk (HB8.out.grown hg9 (below_size HB8.out) (fun k e => by cases e; exact HJ8.out.l2)); have HK9 := Aside0.mk ((hg9.block tb (Array.getElem?_eq_some_iff.1 HK8.out).1 (fun e => HT2.out (Option.some.inj e))).trans HK8.out); have HR9 := Aside0.mk (HR8.out.grown hg9 (fun e => Jrn.ne _ (HJ8.out.om _ _ HON.out).1 HJ8.out.o2 (.inr (by decide)) (Option.some.inj e)) (fun e => by have := Option.some.inj e; omega)); clear hp9 hg9))
                go_roundg (cn' + 1)
                case measure => have := HQ2.out; omega
                case rel => exact ⟨_, cn', ⟨rfl⟩, HR9, HJ9, HB9, HK9⟩
          by_cases k5 : n.f0 = 5
          · skip
            have q1 : (n.f0 == 1) = false := by rw [k5]; rfl
            have q3 : (n.f0 == 3) = false := by rw [k5]; rfl
            have q2 : (n.f0 == 2) = false := by rw [k5]; rfl
            have q4 : (n.f0 == 4) = false := by rw [k5]; rfl
            have q5 : (n.f0 == 5) = true := by rw [k5]; rfl
            have q7 : (n.f0 == 7) = false := by rw [k5]; rfl
            have q6 : (n.f0 != 6) = true := by rw [k5]; rfl
            have q4n : (n.f0 != 4) = true := by rw [k5]; rfl
            have HS3 := Aside0.mk ((wrongFrom_inr (wrongStep_q (by omega) HON.out)).symm.trans HS2.out)
            rw [if_neg k4] at HS3
            clear k1 k2 k3 k4 k5 k6 HS2
            have hk := heap_alloc_new wr (.cells #[.int .i64 n.f0, .int .i64 n.f1, .string n.f2, .bool n.f3, .string n.f4] 39)
            have HB5 := Aside0.mk (HB.out.alloc (below_size HB.out) (.cells #[.int .i64 n.f0, .int .i64 n.f1, .string n.f2, .bool n.f3, .string n.f4] 39))
            have HJ5 := Aside0.mk (HJ.out.below ((Below.refl _ _).alloc (Nat.le_refl _) (.cells #[.int .i64 n.f0, .int .i64 n.f1, .string n.f2, .bool n.f3, .string n.f4] 39)))
            have HOG := Aside0.mk (HJ5.out.og _ _ HON.out)
            have HOM := Aside0.mk (HJ5.out.om _ _ HON.out)
            go_wp2_with (first | (at_lookup; refine wl_look2 (K := KI) rfl (.tmp 26) (.tmp 28) 112 rfl Try.underlying112 zero114 HJ5.out.h1 n.f1 rfl rfl ?_; rw [HO1.out]; simp only [Option.getD_some, Option.isSome_some]; generalize wr.alloc (.cells #[.int .i64 n.f0, .int .i64 n.f1, .string n.f2, .bool n.f3, .string n.f4] 39) = w5 at HB5 HJ5 hk HOG HOM ⊢; have hc0 := (blk_cell hk 0).trans (show _ = some (Value.int .i64 n.f0) from rfl); have hc1 := (blk_cell hk 1).trans (show _ = some (Value.int .i64 n.f1) from rfl); have hc2 := (blk_cell hk 2).trans (show _ = some (Value.string n.f2) from rfl)); obtain ⟨fr, hgu⟩ := HOG.out.2.2; have hg1 := (blk_cell hgu 1).trans (show _ = some (Value.map (some (m n.f1))) from rfl) | (at_range; refine wl_range (K := KS) rfl (.tmp 106) 64 rfl Try.underlying64 HOM.out.2.2 rfl ?_; intro w6 cnt hR hbl))
            go_frame
            have hb6 := hbl w5.heap.size (Nat.le_refl _)
            have HB6 := Aside0.mk (below_step HB5.out hb6)
            have hlt5 : wr.heap.size < w5.heap.size := (Array.getElem?_eq_some_iff.1 hk).1
            have HT2 := Aside0.mk (show wr.heap.size ≠ b2 from fun e => by obtain ⟨l, c, hb, _⟩ := HJ5.out.h2; rw [← e, hk] at hb; cases hb)
            have HT1 := Aside0.mk (show wr.heap.size ≠ b1 from fun e => by obtain ⟨l, c, hb, _⟩ := HJ5.out.h1; rw [← e, hk] at hb; cases hb)
            obtain ⟨own6, HO6, HJ6⟩ : ∃ own6, Aside0 (own6 w5.heap.size = (0, 4)) ∧ Aside0 (Jrn w6 w.heap.size b1 b2 st.on st.tk g m own6) := ⟨_, ⟨by simp⟩, ⟨HJ5.out.beside hb6⟩⟩
            have HK6 := Aside0.mk ((hb6.block _ hlt5).trans hk)
            have hltr : wr.heap.size < w5.heap.size := hlt5
            have hb2r : b2 < w5.heap.size := HJ5.out.lt2
            have hrw : w.heap.size ≤ w5.heap.size := below_size HB5.out
            clear hbl hb6 hlt5 hk hc0 hc1 hc2 hgu hg1
            generalize w5.heap.size = r at *
            generalize wr.heap.size = tb at *
            have HR := Aside0.mk hR
            clear hR HB5 HJ5 HOG HOM HJ HB HO1
            go_loopg [108] (cnt + 1) (fun kq v108 w' => ∃ (left : ByteArray → Bool) (cn : Nat), Aside0 (kq = cn + 1) ∧ Aside0 (Ranging KS w' r (m n.f1) (ksF K) left cn) ∧ Aside0 (Jrn w' w.heap.size b1 b2 st.on (fun k => if K k = true ∧ left k = false then none else st.tk k) g m own6) ∧ Aside0 (Below w.heap.size w w') ∧ Aside0 (w'.heap[tb]? = some (.cells #[.int .i64 n.f0, .int .i64 n.f1, .string n.f2, .bool n.f3, .string n.f4] 39)))
            case atStart => exact ⟨_, cnt, ⟨rfl⟩, HR, ⟨HJ6.out.congr (fun _ => rfl) (fun k => by show st.tk k = (if K k = true ∧ (ksF K k).isSome = false then none else st.tk k); unfold ksF; cases K k <;> rfl)⟩, HB6, HK6⟩
            case round =>
              clear HR HJ6 HB6 HK6
              obtain ⟨left, cn, HQ2, HR, HJ6, HB6, HK6⟩ := hrel
              rcases HR.out.next 0 with ⟨hl, hrun⟩ | ⟨k0, v0, cn', w8, hcn, hlk, hFk, hrun, hent, hR8, hg8⟩
              · have hrun' : ∀ ty, (Instr.next (.pointer (some ⟨r, 0, none⟩)) false ty).run Try.prog wr = .ok (.tuple #[.bool false]) wr := fun _ => hrun
                clear hrun
                have hmm := @run_makeMap Try.prog
                have HJ7 := Aside0.mk (HJ6.out.congr (fun _ => rfl) (tk' := fun k => if K k = true then none else st.tk k) (fun k => by simp only [hl k, and_true]))
                clear HJ6 hl HR
                have HOG := Aside0.mk (HJ7.out.og _ _ HON.out)
                obtain ⟨fr, hgu⟩ := HOG.out.2.2
                have HGU := Aside0.mk hgu
                have hltg := (Array.getElem?_eq_some_iff.1 hgu).1
                have hgu' := (heap_alloc_old wr (.map #[] 0) hltg).trans hgu
                have hx0 := (blk_cell hgu' 0).trans (show _ = some (Value.int .i64 fr) from rfl)
                have hx1 := (blk_cell hgu' 1).trans (show _ = some (Value.map (some (m n.f1))) from rfl)
                have hf0 : (wr.alloc (.map #[] 0)).frozen? ⟨g n.f1, 0, none⟩ = false := by unfold World.frozen?; rw [hgu']; rfl
                have hf1 : (wr.alloc (.map #[] 0)).frozen? ⟨g n.f1, 1, none⟩ = false := by unfold World.frozen?; rw [hgu']; rfl
                have htg : tb ≠ g n.f1 := fun e => by have := HK6.out; rw [e, hgu] at this; cases this
                have hltb := (Array.getElem?_eq_some_iff.1 HK6.out).1
                have hW2 := two_cells hgu' (.int .i64 i) (.map (some wr.heap.size))
                have hgr := grown_two (wr.alloc (.map #[] 0)) ⟨g n.f1, 0, none⟩ ⟨g n.f1, 1, none⟩ rfl (.int .i64 i) (.map (some wr.heap.size))
                obtain ⟨m', own', hj8⟩ := HJ7.out.quieted (below_size HB6.out) n.f1 i HON.out ((Below.refl _ wr).alloc (Nat.le_refl _) (.map #[] 0)) (Holds.made KS wr) hW2 hgr
                have HJ8 := Aside0.mk hj8
                have HB8 := Aside0.mk ((HB6.out.alloc (below_size HB6.out) (.map #[] 0)).grown hgr (by have := below_size HB6.out; simp; omega) (fun k e => by cases e; exact HOG.out.2.1))
                have hk8 := (hgr.block tb (by simp; omega) (fun e => htg (Option.some.inj e))).trans ((heap_alloc_old wr (.map #[] 0) hltb).trans HK6.out)
                have HC0' := Aside0.mk ((blk_cell hk8 0).trans (show _ = some (Value.int .i64 n.f0) from rfl))
                have HC1' := Aside0.mk ((blk_cell hk8 1).trans (show _ = some (Value.int .i64 n.f1) from rfl))
                clear hgu hgu' hltg htg hltb hW2 hgr hj8 hk8 HJ7 HB6 HK6 HOG HGU
                go_upto_region 30 with (fail)
                generalize ((wr.alloc (.map #[] 0)).setCell ⟨g n.f1, 0, none⟩ (.int .i64 i)).setCell ⟨g n.f1, 1, none⟩ (.map (some wr.heap.size)) = w9 at HJ8 HB8 HC0' HC1' ⊢
                have hc0 := HC0'.out
                have hc1 := HC1'.out
                clear hx0 hx1 hf0 hf1 HC0' HC1'
                go_wp2_with (first | (at_delete; refine wl_drop (K := KI) rfl (.tmp 125) (.tmp 127) 112 3 rfl Try.underlying112 HJ8.out.h1 n.f1 rfl rfl ?_; intro w10 hp10 hg10; have HJ9 := Aside0.mk ((HJ8.out.ended n.f1 hp10 hg10).congr (on' := fun v => if v = n.f1 then none else st.on v) (fun v => by by_cases hv : v = n.f1 <;> simp [hv]) (fun _ => rfl)); have HB9 := Aside0.mk (HB8.out.grown hg10 (below_size HB8.out) (fun k e => by cases e; exact HJ8.out.l1)); clear hp10 hg10))
                go_roundg (l0.length - i - 1)
                case measure => have := HQ.out; omega
                case rel => exact ⟨i + 1, _, _, _, _, rfl, by omega, ⟨by have := HQ.out; omega⟩, HS3, HJ9, HB9⟩
              · have hrun' : ∀ ty, (Instr.next (.pointer (some ⟨r, 0, none⟩)) false ty).run Try.prog wr = .ok (.tuple #[.bool true, .string k0, v0]) w8 := fun _ => hrun
                have hent' : (Instr.entry (.pointer (some ⟨r, 0, none⟩))).run Try.prog w8 = .ok (.tuple #[.string k0, v0]) w8 := hent
                have hKk : K k0 = true := by unfold ksF at hFk; cases hKK : K k0 <;> rw [hKK] at hFk <;> simp at hFk ⊢
                have HJ8 := Aside0.mk (HJ6.out.other HO6.out hg8)
                have HB8 := Aside0.mk (HB6.out.grown hg8 (below_size HB6.out) (fun k e => by cases e; exact hrw))
                have HK8 := Aside0.mk ((hg8.block tb (Array.getElem?_eq_some_iff.1 HK6.out).1 (fun e => by have := Option.some.inj e; omega)).trans HK6.out)
                have HR8 := Aside0.mk hR8
                have HKK := Aside0.mk hKk
                clear hrun hent hFk hlk hKk hR8 hg8 HJ6 HB6 HK6 HR
                go_wp2_with (first | (at_delete; refine wl_drop (K := KS) rfl (.tmp 112) (.tmp 113) 113 9 rfl Try.underlying113 HJ8.out.h2 k0 rfl rfl ?_; intro w9 hp9 hg9; have HJ9 := Aside0.mk (HJ8.out.struck (tk' := fun k => if K k = true ∧ (left k && !decide (k = k0)) = false then none else st.tk k) (hp9.congr (fun q => by have := HKK.out; unfold tkF; by_cases hq : q = k0 <;> simp [hq, this])) hg9); have HB9 := Aside0.mk (HB8.out.grown hg9 (below_size HB8.out) (fun k e => by cases e; exact HJ8.out.l2)); have HK9 := Aside0.mk ((hg9.block tb (Array.getElem?_eq_some_iff.1 HK8.out).1 (fun e => HT2.out (Option.some.inj e))).trans HK8.out); have HR9 := Aside0.mk (HR8.out.grown hg9 (fun e => Jrn.ne _ (HJ8.out.om _ _ HON.out).1 HJ8.out.o2 (.inr (by decide)) (Option.some.inj e)) (fun e => by have := Option.some.inj e; omega)); clear hp9 hg9))
                go_roundg (cn' + 1)
                case measure => have := HQ2.out; omega
                case rel => exact ⟨_, cn', ⟨rfl⟩, HR9, HJ9, HB9, HK9⟩
          by_cases k7 : n.f0 = 7
          · skip
            have q1 : (n.f0 == 1) = false := by rw [k7]; rfl
            have q3 : (n.f0 == 3) = false := by rw [k7]; rfl
            have q2 : (n.f0 == 2) = false := by rw [k7]; rfl
            have q4 : (n.f0 == 4) = false := by rw [k7]; rfl
            have q5 : (n.f0 == 5) = false := by rw [k7]; rfl
            have q7 : (n.f0 == 7) = true := by rw [k7]; rfl
            have q6 : (n.f0 != 6) = true := by rw [k7]; rfl
            have q4n : (n.f0 != 4) = true := by rw [k7]; rfl
            have HS3 := Aside0.mk ((wrongFrom_inr (wrongStep_q (by omega) HON.out)).symm.trans HS2.out)
            rw [if_neg k4] at HS3
            clear k1 k2 k3 k4 k5 k7 k6 HS2
            have hk := heap_alloc_new wr (.cells #[.int .i64 n.f0, .int .i64 n.f1, .string n.f2, .bool n.f3, .string n.f4] 39)
            have HB5 := Aside0.mk (HB.out.alloc (below_size HB.out) (.cells #[.int .i64 n.f0, .int .i64 n.f1, .string n.f2, .bool n.f3, .string n.f4] 39))
            have HJ5 := Aside0.mk (HJ.out.below ((Below.refl _ _).alloc (Nat.le_refl _) (.cells #[.int .i64 n.f0, .int .i64 n.f1, .string n.f2, .bool n.f3, .string n.f4] 39)))
            have HOG := Aside0.mk (HJ5.out.og _ _ HON.out)
            have HOM := Aside0.mk (HJ5.out.om _ _ HON.out)
            go_wp2_with (first | (at_lookup; refine wl_look2 (K := KI) rfl (.tmp 26) (.tmp 28) 112 rfl Try.underlying112 zero114 HJ5.out.h1 n.f1 rfl rfl ?_; rw [HO1.out]; simp only [Option.getD_some, Option.isSome_some]; generalize wr.alloc (.cells #[.int .i64 n.f0, .int .i64 n.f1, .string n.f2, .bool n.f3, .string n.f4] 39) = w5 at HB5 HJ5 hk HOG HOM ⊢; have hc0 := (blk_cell hk 0).trans (show _ = some (Value.int .i64 n.f0) from rfl); have hc1 := (blk_cell hk 1).trans (show _ = some (Value.int .i64 n.f1) from rfl); have hc2 := (blk_cell hk 2).trans (show _ = some (Value.string n.f2) from rfl)); obtain ⟨fr, hgu⟩ := HOG.out.2.2; have hg1 := (blk_cell hgu 1).trans (show _ = some (Value.map (some (m n.f1))) from rfl) | (at_range; refine wl_range (K := KS) rfl (.tmp 106) 64 rfl Try.underlying64 HOM.out.2.2 rfl ?_; intro w6 cnt hR hbl))
            go_frame
            have hb6 := hbl w5.heap.size (Nat.le_refl _)
            have HB6 := Aside0.mk (below_step HB5.out hb6)
            have hlt5 : wr.heap.size < w5.heap.size := (Array.getElem?_eq_some_iff.1 hk).1
            have HT2 := Aside0.mk (show wr.heap.size ≠ b2 from fun e => by obtain ⟨l, c, hb, _⟩ := HJ5.out.h2; rw [← e, hk] at hb; cases hb)
            have HT1 := Aside0.mk (show wr.heap.size ≠ b1 from fun e => by obtain ⟨l, c, hb, _⟩ := HJ5.out.h1; rw [← e, hk] at hb; cases hb)
            obtain ⟨own6, HO6, HJ6⟩ : ∃ own6, Aside0 (own6 w5.heap.size = (0, 4)) ∧ Aside0 (Jrn w6 w.heap.size b1 b2 st.on st.tk g m own6) := ⟨_, ⟨by simp⟩, ⟨HJ5.out.beside hb6⟩⟩
            have HK6 := Aside0.mk ((hb6.block _ hlt5).trans hk)
            have hltr : wr.heap.size < w5.heap.size := hlt5
            have hb2r : b2 < w5.heap.size := HJ5.out.lt2
            have hrw : w.heap.size ≤ w5.heap.size := below_size HB5.out
            clear hbl hb6 hlt5 hk hc0 hc1 hc2 hgu hg1
            generalize w5.heap.size = r at *
            generalize wr.heap.size = tb at *
            have HR := Aside0.mk hR
            clear hR HB5 HJ5 HOG HOM HJ HB HO1
            go_loopg [108] (cnt + 1) (fun kq v108 w' => ∃ (left : ByteArray → Bool) (cn : Nat), Aside0 (kq = cn + 1) ∧ Aside0 (Ranging KS w' r (m n.f1) (ksF K) left cn) ∧ Aside0 (Jrn w' w.heap.size b1 b2 st.on (fun k => if K k = true ∧ left k = false then none else st.tk k) g m own6) ∧ Aside0 (Below w.heap.size w w') ∧ Aside0 (w'.heap[tb]? = some (.cells #[.int .i64 n.f0, .int .i64 n.f1, .string n.f2, .bool n.f3, .string n.f4] 39)))
            case atStart => exact ⟨_, cnt, ⟨rfl⟩, HR, ⟨HJ6.out.congr (fun _ => rfl) (fun k => by show st.tk k = (if K k = true ∧ (ksF K k).isSome = false then none else st.tk k); unfold ksF; cases K k <;> rfl)⟩, HB6, HK6⟩
            case round =>
              clear HR HJ6 HB6 HK6
              obtain ⟨left, cn, HQ2, HR, HJ6, HB6, HK6⟩ := hrel
              rcases HR.out.next 0 with ⟨hl, hrun⟩ | ⟨k0, v0, cn', w8, hcn, hlk, hFk, hrun, hent, hR8, hg8⟩
              · have hrun' : ∀ ty, (Instr.next (.pointer (some ⟨r, 0, none⟩)) false ty).run Try.prog wr = .ok (.tuple #[.bool false]) wr := fun _ => hrun
                clear hrun
                have hmm := @run_makeMap Try.prog
                have HJ7 := Aside0.mk (HJ6.out.congr (fun _ => rfl) (tk' := fun k => if K k = true then none else st.tk k) (fun k => by simp only [hl k, and_true]))
                clear HJ6 hl HR
                have HOG := Aside0.mk (HJ7.out.og _ _ HON.out)
                obtain ⟨fr, hgu⟩ := HOG.out.2.2
                have HGU := Aside0.mk hgu
                have hltg := (Array.getElem?_eq_some_iff.1 hgu).1
                have hgu' := (heap_alloc_old wr (.map #[] 0) hltg).trans hgu
                have hx0 := (blk_cell hgu' 0).trans (show _ = some (Value.int .i64 fr) from rfl)
                have hx1 := (blk_cell hgu' 1).trans (show _ = some (Value.map (some (m n.f1))) from rfl)
                have hf0 : (wr.alloc (.map #[] 0)).frozen? ⟨g n.f1, 0, none⟩ = false := by unfold World.frozen?; rw [hgu']; rfl
                have hf1 : (wr.alloc (.map #[] 0)).frozen? ⟨g n.f1, 1, none⟩ = false := by unfold World.frozen?; rw [hgu']; rfl
                have htg : tb ≠ g n.f1 := fun e => by have := HK6.out; rw [e, hgu] at this; cases this
                have hltb := (Array.getElem?_eq_some_iff.1 HK6.out).1
                have hW2 := two_cells hgu' (.int .i64 i) (.map (some wr.heap.size))
                have hgr := grown_two (wr.alloc (.map #[] 0)) ⟨g n.f1, 0, none⟩ ⟨g n.f1, 1, none⟩ rfl (.int .i64 i) (.map (some wr.heap.size))
                obtain ⟨m', own', hj8⟩ := HJ7.out.quieted (below_size HB6.out) n.f1 i HON.out ((Below.refl _ wr).alloc (Nat.le_refl _) (.map #[] 0)) (Holds.made KS wr) hW2 hgr
                have HJ8 := Aside0.mk hj8
                have HB8 := Aside0.mk ((HB6.out.alloc (below_size HB6.out) (.map #[] 0)).grown hgr (by have := below_size HB6.out; simp; omega) (fun k e => by cases e; exact HOG.out.2.1))
                have hk8 := (hgr.block tb (by simp; omega) (fun e => htg (Option.some.inj e))).trans ((heap_alloc_old wr (.map #[] 0) hltb).trans HK6.out)
                have HC0' := Aside0.mk ((blk_cell hk8 0).trans (show _ = some (Value.int .i64 n.f0) from rfl))
                have HC1' := Aside0.mk ((blk_cell hk8 1).trans (show _ = some (Value.int .i64 n.f1) from rfl))
                clear hgu hgu' hltg htg hltb hW2 hgr hj8 hk8 HJ7 HB6 HK6 HOG HGU
                go_upto_region 30 with (fail)
                generalize ((wr.alloc (.map #[] 0)).setCell ⟨g n.f1, 0, none⟩ (.int .i64 i)).setCell ⟨g n.f1, 1, none⟩ (.map (some wr.heap.size)) = w9 at HJ8 HB8 HC0' HC1' ⊢
                have hc0 := HC0'.out
                have hc1 := HC1'.out
                clear hx0 hx1 hf0 hf1 HC0' HC1'
                go_wp2_with (first | (at_delete; refine wl_drop (K := KI) rfl (.tmp 125) (.tmp 127) 112 3 rfl Try.underlying112 HJ8.out.h1 n.f1 rfl rfl ?_; intro w10 hp10 hg10; have HJ9 := Aside0.mk ((HJ8.out.ended n.f1 hp10 hg10).congr (on' := fun v => if v = n.f1 then none else st.on v) (fun v => by by_cases hv : v = n.f1 <;> simp [hv]) (fun _ => rfl)); have HB9 := Aside0.mk (HB8.out.grown hg10 (below_size HB8.out) (fun k e => by cases e; exact HJ8.out.l1)); clear hp10 hg10))
                go_roundg (l0.length - i - 1)
                case measure => have := HQ.out; omega
                case rel => exact ⟨i + 1, _, _, _, _, rfl, by omega, ⟨by have := HQ.out; omega⟩, HS3, HJ9, HB9⟩
              · have hrun' : ∀ ty, (Instr.next (.pointer (some ⟨r, 0, none⟩)) false ty).run Try.prog wr = .ok (.tuple #[.bool true, .string k0, v0]) w8 := fun _ => hrun
                have hent' : (Instr.entry (.pointer (some ⟨r, 0, none⟩))).run Try.prog w8 = .ok (.tuple #[.string k0, v0]) w8 := hent
                have hKk : K k0 = true := by unfold ksF at hFk; cases hKK : K k0 <;> rw [hKK] at hFk <;> simp at hFk ⊢
                have HJ8 := Aside0.mk (HJ6.out.other HO6.out hg8)
                have HB8 := Aside0.mk (HB6.out.grown hg8 (below_size HB6.out) (fun k e => by cases e; exact hrw))
                have HK8 := Aside0.mk ((hg8.block tb (Array.getElem?_eq_some_iff.1 HK6.out).1 (fun e => by have := Option.some.inj e; omega)).trans HK6.out)
                have HR8 := Aside0.mk hR8
                have HKK := Aside0.mk hKk
                clear hrun hent hFk hlk hKk hR8 hg8 HJ6 HB6 HK6 HR
                go_wp2_with (first | (at_delete; refine wl_drop (K := KS) rfl (.tmp 112) (.tmp 113) 113 9 rfl Try.underlying113 HJ8.out.h2 k0 rfl rfl ?_; intro w9 hp9 hg9; have HJ9 := Aside0.mk (HJ8.out.struck (tk' := fun k => if K k = true ∧ (left k && !decide (k = k0)) = false then none else st.tk k) (hp9.congr (fun q => by have := HKK.out; unfold tkF; by_cases hq : q = k0 <;> simp [hq, this])) hg9); have HB9 := Aside0.mk (HB8.out.grown hg9 (below_size HB8.out) (fun k e => by cases e; exact HJ8.out.l2)); have HK9 := Aside0.mk ((hg9.block tb (Array.getElem?_eq_some_iff.1 HK8.out).1 (fun e => HT2.out (Option.some.inj e))).trans HK8.out); have HR9 := Aside0.mk (HR8.out.grown hg9 (fun e => Jrn.ne _ (HJ8.out.om _ _ HON.out).1 HJ8.out.o2 (.inr (by decide)) (Option.some.inj e)) (fun e => by have := Option.some.inj e; omega)); clear hp9 hg9))
                go_roundg (cn' + 1)
                case measure => have := HQ2.out; omega
                case rel => exact ⟨_, cn', ⟨rfl⟩, HR9, HJ9, HB9, HK9⟩
          have HS3 := Aside0.mk ((wrongFrom_inr (wrongStep_x k1 k2 k3 k4 k5 k7 HON.out)).symm.trans HS2.out)
          have q1 : (n.f0 == 1) = false := beq_eq_false_iff_ne.2 k1
          have q2 : (n.f0 == 2) = false := beq_eq_false_iff_ne.2 k2
          have q3 : (n.f0 == 3) = false := beq_eq_false_iff_ne.2 k3
          have q4 : (n.f0 == 4) = false := beq_eq_false_iff_ne.2 k4
          have q5 : (n.f0 == 5) = false := beq_eq_false_iff_ne.2 k5
          have q7 : (n.f0 == 7) = false := beq_eq_false_iff_ne.2 k7
          clear k1 k2 k3 k4 k5 k6 k7 HS2
          go_wp2_with (first | (at_lookup; refine wl_look2 (K := KI) rfl (.tmp 26) (.tmp 28) 112 rfl Try.underlying112 zero114 (HJ.out.h1.alloc _) n.f1 rfl rfl ?_; rw [HO1.out]; simp only [Option.getD_some, Option.isSome_some]))
          go_roundg (gk - 1)
          case measure => have := HQ.out; omega
          case rel => exact ⟨i + 1, _, _, _, _, rfl, by omega, ⟨by have := HQ.out; omega⟩, HS3, ⟨HJ.out.below ((Below.refl _ _).alloc (Nat.le_refl _) _)⟩, ⟨HB.out.alloc (below_size HB.out) _⟩⟩
    · have hi : i = l0.length := by omega
      subst hi
      obtain ⟨rfl, rfl⟩ := Prod.mk.inj (show ((-1, 0) : Int × Int) = (r1, r2) by rw [← HS.out, List.drop_length]; rfl)
      clear HS
      go_wp2
      go_ret2
      exact ⟨rfl, HB.out⟩
theorem journal_Wrong.calls (A0 : Option Addr) (c0 : Nat) (l0 : List (S39)) (r1 : Int) (r2 : Int) (w : World) (hr0 : Kd.C k39 w A0 l0.length l0) (hc0 : l0.length ≤ c0) (h : journal_Wrong.f l0 = some (r1, r2)) :
    Calls Try.prog 67 #[.slice A0 l0.length c0] w fun e w' => e = .returned (.tuple #[.int .i64 r1, .int .i64 r2]) ∧ Below w.heap.size w w' := by
  unfold journal_Wrong.f at h
  by_cases hv : l0.length ≤ 1000 ∧ l0.all vld = true
  · rw [if_pos hv] at h
    exact wrong_yes A0 c0 l0 w hr0 hc0 hv.1 hv.2 r1 r2 (Option.some.inj h)
  · rw [if_neg hv] at h
    obtain ⟨rfl, rfl⟩ := Prod.mk.inj (Option.some.inj h)
    exact wrong_no A0 c0 l0 w hr0 hc0 hv
end Go.Proofs.Yteblpjnkinghoaa.J
namespace Go.Proofs.Yteblpjnkinghoaa.J
open Go.RowKit Go.Proofs.YteblpjnkinghoaaW.PrintWords Go.Proofs.YteblpjnkinghoaaW.PrintLast Go.Proofs.YteblpjnkinghoaaW.PrintMore
attribute [local go_sem] max2_int min2_int max_two min_two max_three min_three max_four min_four   -- for this text's walks alone
set_option linter.unusedVariables false
set_option linter.unusedSimpArgs false
/-! ### journal_right: function 40 -/
def journal_right.f (l0 : List (S39)) : Option (Int) := (journal_Wrong.f l0).bind fun bt145 => (if bt145.2 = 0 then (some bt145.2) else (if bt145.2 = 1 then (some bt145.2) else (some 9)))
set_option maxHeartbeats 8000000 in
set_option maxRecDepth 100000 in
theorem journal_right.calls (A0 : Option Addr) (c0 : Nat) (l0 : List (S39)) (r : Int) (w : World) (hr0 : Kd.C k39 w A0 l0.length l0) (hc0 : l0.length ≤ c0) (h : journal_right.f l0 = some r) :
    Calls Try.prog 40 #[.slice A0 l0.length c0] w fun e w' => e = .returned (.int .i64 r) ∧ Below w.heap.size w w' := by
  have HR0 := Aside0.mk hr0
  have HC0 := Aside0.mk hc0
  clear hr0 hc0
  have HB := Aside0.mk (Below.refl w.heap.size w)
  have H : ((journal_Wrong.f l0).bind fun bt145 => (if bt145.2 = 0 then (some bt145.2) else (if bt145.2 = 1 then (some bt145.2) else (some 9)))) = some r := h
  clear h
  replace H := Option.bind_eq_some_iff.mp H
  obtain ⟨⟨t145, t146⟩, A20, H⟩ := H
  replace H : (if t146 = 0 then (some t146) else (if t146 = 1 then (some t146) else (some 9))) = some r := H
  have A2 := Aside0.mk A20
  clear A20
  by_cases c3 : t146 = 0
  · rw [if_pos c3] at H
    have c3b0 : (t146 == 0) = true := beq_iff_eq.mpr c3
    have c3b1 : (t146 != 0) = false := bne_eq_false_iff_eq.mpr c3
    clear c3
    obtain rfl := Option.some.inj H
    go_enter Try.func40, Try.ntmps40
    go_wp2_with (first | ((with_reducible refine gate_callee (f := 67) rfl ?_); refine goesL_ (some 7) rfl rfl Try.func67 (by kernel_rfl) rfl #[.slice A0 l0.length c0] rfl (by (try simp only [List.map_toArray, List.map_cons, List.map_nil]); first | done | rfl | (simp only [List.length_drop, List.length_take]; rfl)) ?_; (with_reducible refine (journal_Wrong.calls _ _ l0 t145 t146 _ ?side1 ?side2 A2.out).mono ?_); (case side1 => repeat (first | exact HR0.out | (with_reducible refine Kd.C_alloc ?_ _) | (with_reducible refine Kd.C_drewN ?_ _) | (with_reducible refine Kd.C_drew ?_))); (case side2 => exact HC0.out); rintro e w4 ⟨rfl, hb⟩; refine ⟨_, rfl, ?_⟩; have n0_ := Aside0.mk (below_step (by repeat (first | (with_reducible first | exact HB.out | apply below_alloc | apply pw_below_drewN | apply below_drew1) | exact HB.out)) hb); clear HB; have HB := n0_; clear n0_; (try clear hb); (try clear hb2); (try clear hk); (try clear hi)))
    go_ret
    exact ⟨by first | rfl | (simp [errW_none, errW_some] <;> rfl) | (simp [*, errW_none, errW_some] <;> rfl), by repeat (first | (with_reducible first | exact HB.out | apply below_alloc | apply pw_below_drewN | apply below_drew1) | exact HB.out)⟩
  · rw [if_neg c3] at H
    have c3b0 : (t146 == 0) = false := beq_eq_false_iff_ne.mpr c3
    have c3b1 : (t146 != 0) = true := bne_iff_ne.mpr c3
    by_cases c5 : t146 = 1
    · rw [if_pos c5] at H
      have c5b0 : (t146 == 1) = true := beq_iff_eq.mpr c5
      have c5b1 : (t146 != 1) = false := bne_eq_false_iff_eq.mpr c5
      clear c5
      obtain rfl := Option.some.inj H
      go_enter Try.func40, Try.ntmps40
      go_wp2_with (first | ((with_reducible refine gate_callee (f := 67) rfl ?_); refine goesL_ (some 7) rfl rfl Try.func67 (by kernel_rfl) rfl #[.slice A0 l0.length c0] rfl (by (try simp only [List.map_toArray, List.map_cons, List.map_nil]); first | done | rfl | (simp only [List.length_drop, List.length_take]; rfl)) ?_; (with_reducible refine (journal_Wrong.calls _ _ l0 t145 t146 _ ?side1 ?side2 A2.out).mono ?_); (case side1 => repeat (first | exact HR0.out | (with_reducible refine Kd.C_alloc ?_ _) | (with_reducible refine Kd.C_drewN ?_ _) | (with_reducible refine Kd.C_drew ?_))); (case side2 => exact HC0.out); rintro e w6 ⟨rfl, hb⟩; refine ⟨_, rfl, ?_⟩; have n0_ := Aside0.mk (below_step (by repeat (first | (with_reducible first | exact HB.out | apply below_alloc | apply pw_below_drewN | apply below_drew1) | exact HB.out)) hb); clear HB; have HB := n0_; clear n0_; (try clear hb); (try clear hb2); (try clear hk); (try clear hi)))
      go_ret
      exact ⟨by first | rfl | (simp [errW_none, errW_some] <;> rfl) | (simp [*, errW_none, errW_some] <;> rfl), by repeat (first | (with_reducible first | exact HB.out | apply below_alloc | apply pw_below_drewN | apply below_drew1) | exact HB.out)⟩
    · rw [if_neg c5] at H
      have c5b0 : (t146 == 1) = false := beq_eq_false_iff_ne.mpr c5
      have c5b1 : (t146 != 1) = true := bne_iff_ne.mpr c5
      obtain rfl := Option.some.inj H
      go_enter Try.func40, Try.ntmps40
      go_wp2_with (first | ((with_reducible refine gate_callee (f := 67) rfl ?_); refine goesL_ (some 7) rfl rfl Try.func67 (by kernel_rfl) rfl #[.slice A0 l0.length c0] rfl (by (try simp only [List.map_toArray, List.map_cons, List.map_nil]); first | done | rfl | (simp only [List.length_drop, List.length_take]; rfl)) ?_; (with_reducible refine (journal_Wrong.calls _ _ l0 t145 t146 _ ?side1 ?side2 A2.out).mono ?_); (case side1 => repeat (first | exact HR0.out | (with_reducible refine Kd.C_alloc ?_ _) | (with_reducible refine Kd.C_drewN ?_ _) | (with_reducible refine Kd.C_drew ?_))); (case side2 => exact HC0.out); rintro e w7 ⟨rfl, hb⟩; refine ⟨_, rfl, ?_⟩; have n0_ := Aside0.mk (below_step (by repeat (first | (with_reducible first | exact HB.out | apply below_alloc | apply pw_below_drewN | apply below_drew1) | exact HB.out)) hb); clear HB; have HB := n0_; clear n0_; (try clear hb); (try clear hb2); (try clear hk); (try clear hi)))
      go_ret
      exact ⟨by first | rfl | (simp [errW_none, errW_some] <;> rfl) | (simp [*, errW_none, errW_some] <;> rfl), by repeat (first | (with_reducible first | exact HB.out | apply below_alloc | apply pw_below_drewN | apply below_drew1) | exact HB.out)⟩

end Go.Proofs.Yteblpjnkinghoaa.J
/- The contract of journal.Redo, for every slice of notes and every index. -/
namespace Go.Proofs.Yteblpjnkinghoaa.J
open Go.BigFrame Go.RowKit Go.Proofs.YteblpjnkinghoaaW.PrintWords Go.Proofs.YteblpjnkinghoaaW.PrintLast Go.Proofs.YteblpjnkinghoaaW.PrintMore Go.Proofs.YteblpjnkinghoaaW.Mw
def imgOf (n : S39) : S41 := ⟨n.f2, n.f3, n.f4⟩
/-- One note of Redo, from the last to the first. -/
def redoStep (st : (Int → Bool) × List S41) (n : S39) : (Int → Bool) × List S41 :=
  if n.f0 = 4 ∨ n.f0 = 5 then (fun u => if u = n.f1 then true else st.1 u, st.2)
  else if n.f0 = 7 ∨ n.f0 = 1 then (fun u => if u = n.f1 then false else st.1 u, st.2)
  else if n.f0 = 3 then (if st.1 n.f1 = true then (st.1, st.2 ++ [imgOf n]) else st)
  else st
def redoAll (l : List S39) : (Int → Bool) × List S41 := l.reverse.foldl redoStep (fun _ => false, [])
theorem redoAll_cons (n : S39) (l : List S39) : redoAll (n :: l) = redoStep (redoAll l) n := by
  unfold redoAll; rw [List.reverse_cons, List.foldl_append]; rfl
def journal_Redo.f (l0 : List (S39)) (a1 : Int) : Option ((List (S41)) × Int) :=
  (journal_right.f l0).bind fun e => if e = 0 then (if a1 < 0 ∨ (l0.length : Int) < a1 then some ([], 7) else some ((redoAll (l0.drop a1.toNat)).2.reverse, 0)) else some ([], e)
/-- What right answers. -/
def rightN (l : List S39) : Int := (journal_right.f l).getD 0
theorem zero4 (w : World) : (zeroValue 4).run Try.prog w = .ok (.bool false) w := by kernel_rfl
noncomputable def K3 : Keys Try.prog 3 Int := intKeys Try.prog 3 Try.underlying3
theorem redo_no (e : Int) (A0 : Option Addr) (c0 : Nat) (l0 : List (S39)) (a1 : Int) (w : World) (hr0 : Kd.C k39 w A0 l0.length l0) (hc0 : l0.length ≤ c0) (he : journal_right.f l0 = some e) (h : e ≠ 0) :
    Calls Try.prog 18 #[.slice A0 l0.length c0, .int .i64 a1] w fun r w' => r = .returned (.tuple #[.slice none 0 0, .int .i64 e]) ∧ Below w.heap.size w w' := by
  have HR0 := Aside0.mk hr0
  have HC0 := Aside0.mk hc0
  have HE := Aside0.mk he
  clear hr0 hc0 he
  have h1 : (e != 0) = true := bne_iff_ne.2 h
  clear h
  go_enter Try.func18, Try.ntmps18
  go_wp2_with (go_at_call 40; refine (journal_right.calls _ _ _ _ _ HR0.out HC0.out HE.out).mono ?_; rintro r w1 ⟨rfl, hb⟩)
  go_ret2
  exact ⟨rfl, hb⟩
theorem redo_range (A0 : Option Addr) (c0 : Nat) (l0 : List (S39)) (a1 : Int) (w : World) (hr0 : Kd.C k39 w A0 l0.length l0) (hc0 : l0.length ≤ c0) (he : journal_right.f l0 = some 0) (h : a1 < 0 ∨ (l0.length : Int) < a1) :
    Calls Try.prog 18 #[.slice A0 l0.length c0, .int .i64 a1] w fun r w' => r = .returned (.tuple #[.slice none 0 0, .int .i64 7]) ∧ Below w.heap.size w w' := by
  have HR0 := Aside0.mk hr0
  have HC0 := Aside0.mk hc0
  have HE := Aside0.mk he
  clear hr0 hc0 he
  by_cases h1 : a1 < 0
  · clear h
    go_enter Try.func18, Try.ntmps18
    go_wp2_with (go_at_call 40; refine (journal_right.calls _ _ _ _ _ HR0.out HC0.out HE.out).mono ?_; rintro r w1 ⟨rfl, hb⟩)
    go_ret2
    exact ⟨rfl, hb⟩
  · have h2 : (l0.length : Int) < a1 := by omega
    clear h
    go_enter Try.func18, Try.ntmps18
    go_wp2_with (go_at_call 40; refine (journal_right.calls _ _ _ _ _ HR0.out HC0.out HE.out).mono ?_; rintro r w1 ⟨rfl, hb⟩)
    go_ret2
    exact ⟨rfl, hb⟩
set_option maxHeartbeats 2000000 in
set_option maxRecDepth 100000 in
theorem redo_yes (A0 : Option Addr) (c0 : Nat) (l0 : List (S39)) (a1 : Int) (w : World) (hr0 : Kd.C k39 w A0 l0.length l0) (hc0 : l0.length ≤ c0) (he : journal_right.f l0 = some 0) (hl0 : 0 ≤ a1) (hl1 : a1 ≤ (l0.length : Int)) (hle : l0.length ≤ 1000) :
    Calls Try.prog 18 #[.slice A0 l0.length c0, .int .i64 a1] w fun r w' => ∃ v, r = .returned (.tuple #[v, .int .i64 0]) ∧ Kd.R k41 41 w' w.heap.size (fun _ => True) v (redoAll (l0.drop a1.toNat)).2.reverse ∧ Below w.heap.size w w' := by
  have HR0 := Aside0.mk hr0
  have HC0 := Aside0.mk hc0
  have HE := Aside0.mk he
  clear hr0 hc0 he
  have hmm := @run_makeMap Try.prog
  go_enter Try.func18, Try.ntmps18
  go_wp2_with (go_at_call 40; refine (journal_right.calls _ _ _ _ _ HR0.out HC0.out HE.out).mono ?_; rintro r w1 ⟨rfl, hb⟩)
  obtain ⟨b, hbe⟩ : ∃ b, b = w1.heap.size := ⟨_, rfl⟩
  have hB2 := hb.alloc hb.size (.map #[] 0)
  have hH2 := Holds.made K3 w1
  have hbb : w.heap.size ≤ b := by rw [hbe]; exact hb.size
  rw [← hbe] at hH2 ⊢
  have HBB := Aside0.mk hbb
  clear hbb hb hbe
  generalize w1.alloc (.map #[] 0) = w2 at hB2 hH2 ⊢
  have HB := Aside0.mk hB2
  have HH := Aside0.mk hH2
  clear hB2 hH2 hmm
  go_loopg [7, 9] (l0.length + 1 - a1.toNat) (fun kq v7 v9 w' => ∃ (i : Int) (c : Int → Bool) (out : List S41) (F : Int → Option Value), v9 = .int .i64 i ∧ a1 - 1 ≤ i ∧ i < l0.length ∧ Aside0 ((kq : Int) = i + 2 - a1) ∧ Aside0 ((c, out) = redoAll (l0.drop (i + 1).toNat)) ∧ Aside0 (out.length + (i + 1).toNat ≤ l0.length) ∧ Aside0 (Holds K3 w' b F) ∧ Aside0 (∀ u, (F u).getD (.bool false) = .bool (c u)) ∧ Aside0 (Kd.R k41 41 w' w.heap.size (fun k => k ≠ b) v7 out) ∧ Aside0 (Below w.heap.size w w'))
  case atStart => exact ⟨(l0.length : Int) - 1, fun _ => false, [], fun _ => none, rfl, by omega, by omega, ⟨by omega⟩, ⟨by rw [show ((l0.length : Int) - 1 + 1).toNat = l0.length by omega, List.drop_length]; rfl⟩, ⟨by simp⟩, HH, ⟨fun _ => rfl⟩, ⟨Kd.R_nil _ _ _ _ _⟩, HB⟩
  case round =>
    clear HB HH
    obtain ⟨i, c, out, F, rfl, hlo, hhi, HQ, HS, HL, HH, HF, HO, HB⟩ := hrel
    by_cases hlt : a1 ≤ i
    · obtain ⟨m, rfl⟩ : ∃ m : Nat, i = m := ⟨i.toNat, by omega⟩
      obtain ⟨ad, rfl, h0, h1, h2, h3, h4⟩ := at_T39 (Kd.C_below HR0.out HB.out) (m : Int) (by omega) (by omega)
      rw [Int.toNat_natCast] at h0 h1 h2 h3 h4
      have HS2 := Aside0.mk (show redoAll (l0.drop m) = redoStep (c, out) (rd_T39 l0 (m : Int)) by rw [drop_rd (by omega), redoAll_cons, show m + 1 = ((m : Int) + 1).toNat by omega, ← HS.out])
      generalize rd_T39 l0 (m : Int) = n at h0 h1 h2 h3 h4 HS2
      clear HS
      by_cases k4 : n.f0 = 4
      · have HS3 := Aside0.mk (HS2.out.trans (show redoStep (c, out) n = (fun u => if u = n.f1 then true else c u, out) by unfold redoStep; rw [if_pos (.inl k4)]))
        have q4 : (n.f0 == 4) = true := beq_iff_eq.2 k4
        clear k4 HS2
        go_wp2_with (first | (at_mapUpdate; refine wl_put (K := K3) rfl (.tmp 42) (.tmp 44) (.const (.bool true)) 66 rfl Try.underlying66 (HH.out.alloc _) n.f1 (.bool true) rfl rfl rfl ?_; intro w3 hH3 hg3))
        have HH3 := Aside0.mk hH3
        have HO3 := Aside0.mk (Kd.R_grown (Kd.R_alloc HO.out _) hg3 (fun k hk e => hk (Option.some.inj e)))
        have HB3 := Aside0.mk ((HB.out.alloc (below_size HB.out) _).grown hg3 (by have := below_size HB.out; simp; omega) (fun k e => by cases e; exact HBB.out))
        clear hH3 hg3
        go_wp2
        go_roundg (gk - 1)
        case measure => have := HQ.out; omega
        case rel => exact ⟨(m : Int) - 1, _, _, _, rfl, by omega, by omega, ⟨by have := HQ.out; omega⟩, ⟨by rw [show ((m : Int) - 1 + 1).toNat = m by omega, HS3.out]⟩, ⟨by have := HL.out; omega⟩, HH3, ⟨fun u => by show (if u = n.f1 then some (Value.bool true) else F u).getD _ = _; by_cases hu : u = n.f1 <;> simp [hu, HF.out]⟩, HO3, HB3⟩
      have q4 : (n.f0 == 4) = false := beq_eq_false_iff_ne.2 k4
      by_cases k5 : n.f0 = 5
      · have HS3 := Aside0.mk (HS2.out.trans (show redoStep (c, out) n = (fun u => if u = n.f1 then true else c u, out) by unfold redoStep; rw [if_pos (.inr k5)]))
        have q5 : (n.f0 == 5) = true := beq_iff_eq.2 k5
        clear k4 k5 HS2
        go_wp2_with (first | (at_mapUpdate; refine wl_put (K := K3) rfl (.tmp 42) (.tmp 44) (.const (.bool true)) 66 rfl Try.underlying66 (HH.out.alloc _) n.f1 (.bool true) rfl rfl rfl ?_; intro w3 hH3 hg3))
        have HH3 := Aside0.mk hH3
        have HO3 := Aside0.mk (Kd.R_grown (Kd.R_alloc HO.out _) hg3 (fun k hk e => hk (Option.some.inj e)))
        have HB3 := Aside0.mk ((HB.out.alloc (below_size HB.out) _).grown hg3 (by have := below_size HB.out; simp; omega) (fun k e => by cases e; exact HBB.out))
        clear hH3 hg3
        go_wp2
        go_roundg (gk - 1)
        case measure => have := HQ.out; omega
        case rel => exact ⟨(m : Int) - 1, _, _, _, rfl, by omega, by omega, ⟨by have := HQ.out; omega⟩, ⟨by rw [show ((m : Int) - 1 + 1).toNat = m by omega, HS3.out]⟩, ⟨by have := HL.out; omega⟩, HH3, ⟨fun u => by show (if u = n.f1 then some (Value.bool true) else F u).getD _ = _; by_cases hu : u = n.f1 <;> simp [hu, HF.out]⟩, HO3, HB3⟩
      have q5 : (n.f0 == 5) = false := beq_eq_false_iff_ne.2 k5
      by_cases k7 : n.f0 = 7
      · have HS3 := Aside0.mk (HS2.out.trans (show redoStep (c, out) n = (fun u => if u = n.f1 then false else c u, out) by unfold redoStep; rw [if_neg (by omega), if_pos (.inl k7)]))
        have q7 : (n.f0 == 7) = true := beq_iff_eq.2 k7
        clear k4 k5 k7 HS2
        go_wp2_with (first | (at_mapUpdate; refine wl_put (K := K3) rfl (.tmp 48) (.tmp 50) (.const (.bool false)) 66 rfl Try.underlying66 (HH.out.alloc _) n.f1 (.bool false) rfl rfl rfl ?_; intro w3 hH3 hg3))
        have HH3 := Aside0.mk hH3
        have HO3 := Aside0.mk (Kd.R_grown (Kd.R_alloc HO.out _) hg3 (fun k hk e => hk (Option.some.inj e)))
        have HB3 := Aside0.mk ((HB.out.alloc (below_size HB.out) _).grown hg3 (by have := below_size HB.out; simp; omega) (fun k e => by cases e; exact HBB.out))
        clear hH3 hg3
        go_wp2
        go_roundg (gk - 1)
        case measure => have := HQ.out; omega
        case rel => exact ⟨(m : Int) - 1, _, _, _, rfl, by omega, by omega, ⟨by have := HQ.out; omega⟩, ⟨by rw [show ((m : Int) - 1 + 1).toNat = m by omega, HS3.out]⟩, ⟨by have := HL.out; omega⟩, HH3, ⟨fun u => by show (if u = n.f1 then some (Value.bool false) else F u).getD _ = _; by_cases hu : u = n.f1 <;> simp [hu, HF.out]⟩, HO3, HB3⟩
      have q7 : (n.f0 == 7) = false := beq_eq_false_iff_ne.2 k7
      by_cases k1 : n.f0 = 1
      · have HS3 := Aside0.mk (HS2.out.trans (show redoStep (c, out) n = (fun u => if u = n.f1 then false else c u, out) by unfold redoStep; rw [if_neg (by omega), if_pos (.inr k1)]))
        have q1 : (n.f0 == 1) = true := beq_iff_eq.2 k1
        clear k4 k5 k7 k1 HS2
        go_wp2_with (first | (at_mapUpdate; refine wl_put (K := K3) rfl (.tmp 48) (.tmp 50) (.const (.bool false)) 66 rfl Try.underlying66 (HH.out.alloc _) n.f1 (.bool false) rfl rfl rfl ?_; intro w3 hH3 hg3))
        have HH3 := Aside0.mk hH3
        have HO3 := Aside0.mk (Kd.R_grown (Kd.R_alloc HO.out _) hg3 (fun k hk e => hk (Option.some.inj e)))
        have HB3 := Aside0.mk ((HB.out.alloc (below_size HB.out) _).grown hg3 (by have := below_size HB.out; simp; omega) (fun k e => by cases e; exact HBB.out))
        clear hH3 hg3
        go_wp2
        go_roundg (gk - 1)
        case measure => have := HQ.out; omega
        case rel => exact ⟨(m : Int) - 1, _, _, _, rfl, by omega, by omega, ⟨by have := HQ.out; omega⟩, ⟨by rw [show ((m : Int) - 1 + 1).toNat = m by omega, HS3.out]⟩, ⟨by have := HL.out; omega⟩, HH3, ⟨fun u => by show (if u = n.f1 then some (Value.bool false) else F u).getD _ = _; by_cases hu : u = n.f1 <;> simp [hu, HF.out]⟩, HO3, HB3⟩
      have q1 : (n.f0 == 1) = false := beq_eq_false_iff_ne.2 k1
      by_cases k3 : n.f0 = 3
      · have q3 : (n.f0 == 3) = true := beq_iff_eq.2 k3
        have HF1 := HF.out n.f1
        cases hc : c n.f1
        · have HS3 := Aside0.mk (HS2.out.trans (show redoStep (c, out) n = (c, out) by unfold redoStep; rw [if_neg (by omega), if_neg (by omega), if_pos k3, if_neg (show ¬ c n.f1 = true by rw [hc]; decide)]))
          rw [hc] at HF1
          have HF2 := Aside0.mk HF1
          clear k4 k5 k7 k1 k3 HS2 HF1 hc
          go_wp2_with (first | (at_lookup; refine wl_look (K := K3) rfl (.tmp 53) (.tmp 55) 66 rfl Try.underlying66 zero4 (HH.out.alloc _) n.f1 rfl rfl ?_; rw [HF2.out]))
          go_roundg (gk - 1)
          case measure => have := HQ.out; omega
          case rel => exact ⟨(m : Int) - 1, _, _, _, rfl, by omega, by omega, ⟨by have := HQ.out; omega⟩, ⟨by rw [show ((m : Int) - 1 + 1).toNat = m by omega, HS3.out]⟩, ⟨by have := HL.out; omega⟩, ⟨HH.out.alloc _⟩, HF, ⟨Kd.R_alloc HO.out _⟩, ⟨HB.out.alloc (below_size HB.out) _⟩⟩
        · have HS3 := Aside0.mk (HS2.out.trans (show redoStep (c, out) n = (c, out ++ [imgOf n]) by unfold redoStep; rw [if_neg (by omega), if_neg (by omega), if_pos k3, if_pos (show c n.f1 = true from hc)]))
          rw [hc] at HF1
          have HF2 := Aside0.mk HF1
          clear k4 k5 k7 k1 k3 HS2 HF1 hc
          have HV7 := Aside0.mk (show ∀ k, u7.ownBlock = some k → k ≠ b from HO.out.1)
          have hk := heap_alloc_new wr (.cells #[.int .i64 n.f0, .int .i64 n.f1, .string n.f2, .bool n.f3, .string n.f4] 39)
          have HO5 := Aside0.mk (Kd.R_alloc HO.out (.cells #[.int .i64 n.f0, .int .i64 n.f1, .string n.f2, .bool n.f3, .string n.f4] 39))
          have HB5 := Aside0.mk (HB.out.alloc (below_size HB.out) (.cells #[.int .i64 n.f0, .int .i64 n.f1, .string n.f2, .bool n.f3, .string n.f4] 39))
          have HH5 := Aside0.mk (HH.out.alloc (.cells #[.int .i64 n.f0, .int .i64 n.f1, .string n.f2, .bool n.f3, .string n.f4] 39))
          have hq2 := (blk_cell hk 2).trans rfl
          have hq3 := (blk_cell hk 3).trans rfl
          have hq4 := (blk_cell hk 4).trans rfl
          clear hk
          go_wp2_with (first | (at_lookup; refine wl_look (K := K3) rfl (.tmp 53) (.tmp 55) 66 rfl Try.underlying66 zero4 HH5.out n.f1 rfl rfl ?_; rw [HF2.out]; generalize wr.alloc (.cells #[.int .i64 n.f0, .int .i64 n.f1, .string n.f2, .bool n.f3, .string n.f4] 39) = w5 at HO5 HB5 HH5 hq2 hq3 hq4 ⊢) | (at_builtin; refine Kd.R_append k41 (w0 := w) w.heap.size rfl (.tmp 57) (.tmp 65) 22 41 (.agg #[(.string ⟨#[]⟩), (.bool false), (.string ⟨#[]⟩)]) 40 rfl Try.underlying22 info41 rfl (by decide) (by decide) u7 out (imgOf n) [.string n.f2, .bool n.f3, .string n.f4] (fun k => k ≠ b) (fun _ => False) rfl rfl ?aP (fun _ hk => hk.elim) ?aF ?aO ?aB ?aS ?aL ?_; (case aP => exact k41_mkM _ _ _ (imgOf n)); (case aF => exact (fun k hk => by have := HH5.out.lt; omega)); (case aO => exact HO5.out); (case aB => exact HB5.out); (case aS => exact below_size HB5.out); (case aL => have := HL.out; omega); intro v1 w3 ho hb3 hg3 _; have HO3 := Aside0.mk ho; have HB3 := Aside0.mk hb3; have HH3 := Aside0.mk (HH5.out.grown hg3 (fun e => HV7.out b e.symm rfl)); clear ho hb3 hg3))
          go_roundg (gk - 1)
          case measure => have := HQ.out; omega
          case rel => exact ⟨(m : Int) - 1, _, _, _, rfl, by omega, by omega, ⟨by have := HQ.out; omega⟩, ⟨by rw [show ((m : Int) - 1 + 1).toNat = m by omega, HS3.out]⟩, ⟨by have := HL.out; simp; omega⟩, HH3, HF, HO3, HB3⟩
      · have q3 : (n.f0 == 3) = false := beq_eq_false_iff_ne.2 k3
        have HS3 := Aside0.mk (HS2.out.trans (show redoStep (c, out) n = (c, out) by unfold redoStep; rw [if_neg (by omega), if_neg (by omega), if_neg k3]))
        clear k4 k5 k7 k1 k3 HS2
        go_wp2
        go_roundg (gk - 1)
        case measure => have := HQ.out; omega
        case rel => exact ⟨(m : Int) - 1, _, _, _, rfl, by omega, by omega, ⟨by have := HQ.out; omega⟩, ⟨by rw [show ((m : Int) - 1 + 1).toNat = m by omega, HS3.out]⟩, ⟨by have := HL.out; omega⟩, ⟨HH.out.alloc _⟩, HF, ⟨Kd.R_alloc HO.out _⟩, ⟨HB.out.alloc (below_size HB.out) _⟩⟩
    · have hi : i = a1 - 1 := by omega
      subst hi
      have HS' := Aside0.mk (show out = (redoAll (l0.drop a1.toNat)).2 by rw [show a1.toNat = (a1 - 1 + 1).toNat by omega, ← HS.out])
      clear HS
      have HV := Aside0.mk (rev_all out (by have := HL.out; omega))
      go_wp2_with (go_at_call 38; refine (api_Image.calls _ _ _ _ _ w _ HB.out HO.out HV.out).mono ?_; rintro r w3 ⟨rfl, ho, hb3, _⟩)
      go_ret2
      exact ⟨_, rfl, by rw [← HS'.out]; exact Kd.R_mono ho (fun _ _ => trivial), hb3⟩
theorem right_cases (l : List S39) : journal_right.f l = some (rightN l) ∧ (rightN l ≠ 1 → l.length ≤ 1000 ∧ l.all vld = true) := by
  unfold rightN journal_right.f journal_Wrong.f
  by_cases hv : l.length ≤ 1000 ∧ l.all vld = true
  · rw [if_pos hv]
    refine ⟨?_, fun _ => hv⟩
    simp only [Option.bind_some]
    split <;> first | rfl | (split <;> rfl)
  · rw [if_neg hv]
    refine ⟨rfl, fun h => ?_⟩
    simp at h
theorem journal_Redo.calls (A0 : Option Addr) (c0 : Nat) (l0 : List (S39)) (a1 : Int) (r1 : List (S41)) (r2 : Int) (w : World) (hr0 : Kd.C k39 w A0 l0.length l0) (hc0 : l0.length ≤ c0) (h : journal_Redo.f l0 a1 = some (r1, r2)) :
    Calls Try.prog 18 #[.slice A0 l0.length c0, .int .i64 a1] w fun e w' => ∃ v0_ : Value, e = .returned (.tuple #[v0_, .int .i64 r2]) ∧ Kd.R k41 41 w' w.heap.size (fun _ => True) v0_ r1 ∧ Below w.heap.size w w' := by
  obtain ⟨he, hle⟩ := right_cases l0
  unfold journal_Redo.f at h
  rw [he, Option.bind_some] at h
  by_cases h0 : rightN l0 = 0
  · rw [if_pos h0] at h
    rw [h0] at he
    by_cases hr : a1 < 0 ∨ (l0.length : Int) < a1
    · rw [if_pos hr] at h
      obtain ⟨rfl, rfl⟩ := Prod.mk.inj (Option.some.inj h)
      exact (redo_range A0 c0 l0 a1 w hr0 hc0 he hr).mono fun e w' ⟨h1, h2⟩ => ⟨_, h1, Kd.R_nil _ _ _ _ _, h2⟩
    · rw [if_neg hr] at h
      obtain ⟨rfl, rfl⟩ := Prod.mk.inj (Option.some.inj h)
      exact redo_yes A0 c0 l0 a1 w hr0 hc0 he (by omega) (by omega) (hle (by omega)).1
  · rw [if_neg h0] at h
    obtain ⟨rfl, rfl⟩ := Prod.mk.inj (Option.some.inj h)
    exact (redo_no _ A0 c0 l0 a1 w hr0 hc0 he h0).mono fun e w' ⟨h1, h2⟩ => ⟨_, h1, Kd.R_nil _ _ _ _ _, h2⟩
end Go.Proofs.Yteblpjnkinghoaa.J
namespace Go.Proofs.Yteblpjnkinghoaa.J
open Go.RowKit Go.Proofs.YteblpjnkinghoaaW.PrintWords Go.Proofs.YteblpjnkinghoaaW.PrintLast Go.Proofs.YteblpjnkinghoaaW.PrintMore
attribute [local go_sem] max2_int min2_int max_two min_two max_three min_three max_four min_four   -- for this text's walks alone
set_option linter.unusedVariables false
set_option linter.unusedSimpArgs false
/-! ### journal_State: function 14 -/
def journal_State.f (l0 : List (S41)) (l1 : List (S39)) : Option ((List (S41)) × Int) := (journal_ordered.f l0).bind fun t151 => (if t151 = true then ((journal_Redo.f l1 0).bind fun bt152 => (if bt152.2 = 0 then ((journal_Apply.f l0 bt152.1).bind fun bt156 => (some (bt156.1, bt156.2))) else (some (([] : List (S41)), bt152.2)))) else (some (([] : List (S41)), 1)))
set_option maxHeartbeats 8000000 in
set_option maxRecDepth 100000 in
theorem journal_State.calls (A0 : Option Addr) (c0 : Nat) (l0 : List (S41)) (A1 : Option Addr) (c1 : Nat) (l1 : List (S39)) (r1 : List (S41)) (r2 : Int) (w : World) (hr0 : Kd.C k41 w A0 l0.length l0) (hc0 : l0.length ≤ c0) (hr1 : Kd.C k39 w A1 l1.length l1) (hc1 : l1.length ≤ c1) (h : journal_State.f l0 l1 = some (r1, r2)) :
    Calls Try.prog 14 #[.slice A0 l0.length c0, .slice A1 l1.length c1] w fun e w' => ∃ v0_ : Value, e = .returned (.tuple #[v0_, .int .i64 r2]) ∧ Kd.R k41 41 w' w.heap.size (fun _ => True) v0_ r1 ∧ Below w.heap.size w w' := by
  have HR0 := Aside0.mk hr0
  have HC0 := Aside0.mk hc0
  clear hr0 hc0
  have HR1 := Aside0.mk hr1
  have HC1 := Aside0.mk hc1
  clear hr1 hc1
  have HB := Aside0.mk (Below.refl w.heap.size w)
  have H : ((journal_ordered.f l0).bind fun t151 => (if t151 = true then ((journal_Redo.f l1 0).bind fun bt152 => (if bt152.2 = 0 then ((journal_Apply.f l0 bt152.1).bind fun bt156 => (some (bt156.1, bt156.2))) else (some (([] : List (S41)), bt152.2)))) else (some (([] : List (S41)), 1)))) = some (r1, r2) := h
  clear h
  replace H := Option.bind_eq_some_iff.mp H
  obtain ⟨t151, A30, H⟩ := H
  replace H : (if t151 = true then ((journal_Redo.f l1 0).bind fun bt152 => (if bt152.2 = 0 then ((journal_Apply.f l0 bt152.1).bind fun bt156 => (some (bt156.1, bt156.2))) else (some (([] : List (S41)), bt152.2)))) else (some (([] : List (S41)), 1))) = some (r1, r2) := H
  have A3 := Aside0.mk A30
  clear A30
  by_cases c4 : t151 = true
  · subst c4
    have H1 : ((journal_Redo.f l1 0).bind fun bt152 => (if bt152.2 = 0 then ((journal_Apply.f l0 bt152.1).bind fun bt156 => (some (bt156.1, bt156.2))) else (some (([] : List (S41)), bt152.2)))) = some (r1, r2) := by rw [if_pos rfl] at H; exact H
    clear H
    have H := H1
    clear H1
    replace H := Option.bind_eq_some_iff.mp H
    obtain ⟨⟨t152, t153⟩, A50, H⟩ := H
    replace H : (if t153 = 0 then ((journal_Apply.f l0 t152).bind fun bt156 => (some (bt156.1, bt156.2))) else (some (([] : List (S41)), t153))) = some (r1, r2) := H
    have A5 := Aside0.mk A50
    clear A50
    by_cases c6 : t153 = 0
    · rw [if_pos c6] at H
      have c6b0 : (t153 == 0) = true := beq_iff_eq.mpr c6
      have c6b1 : (t153 != 0) = false := bne_eq_false_iff_eq.mpr c6
      clear c6
      replace H := Option.bind_eq_some_iff.mp H
      obtain ⟨⟨t156, t157⟩, A70, H⟩ := H
      replace H : (some (t156, t157)) = some (r1, r2) := H
      have A7 := Aside0.mk A70
      clear A70
      simp only [Option.some.injEq, Prod.mk.injEq] at H
      obtain ⟨rfl, rfl⟩ := H
      go_enter Try.func14, Try.ntmps14
      go_wp2_with (first | ((with_reducible refine gate_callee (f := 36) rfl ?_); refine goesL_ (some 9) rfl rfl Try.func36 (by kernel_rfl) rfl #[.slice A0 l0.length c0] rfl (by (try simp only [List.map_toArray, List.map_cons, List.map_nil]); first | done | rfl | (simp only [List.length_drop, List.length_take]; rfl)) ?_; (with_reducible refine (journal_ordered.calls _ _ l0 true _ ?side1 ?side2 A3.out).mono ?_); (case side1 => repeat (first | exact HR0.out | (with_reducible refine Kd.C_alloc ?_ _) | (with_reducible refine Kd.C_drewN ?_ _) | (with_reducible refine Kd.C_drew ?_))); (case side2 => exact HC0.out); rintro e w8 ⟨rfl, hb⟩; refine ⟨_, rfl, ?_⟩; have n0_ := Aside0.mk (below_step (by repeat (first | (with_reducible first | exact HB.out | apply below_alloc | apply pw_below_drewN | apply below_drew1) | exact HB.out)) hb); clear HB; have HB := n0_; clear n0_; (try clear hb); (try clear hb2); (try clear hk); (try clear hi)) | ((with_reducible refine gate_callee (f := 18) rfl ?_); refine goesL_ (some 13) rfl rfl Try.func18 (by kernel_rfl) rfl #[.slice A1 l1.length c1, .int .i64 0] rfl (by (try simp only [List.map_toArray, List.map_cons, List.map_nil]); first | done | rfl | (simp only [List.length_drop, List.length_take]; rfl)) ?_; (with_reducible refine (journal_Redo.calls _ _ l1 0 t152 t153 _ ?side1 ?side2 A5.out).mono ?_); (case side1 => repeat (first | exact (Kd.C_below HR1.out HB.out) | (with_reducible refine Kd.C_alloc ?_ _) | (with_reducible refine Kd.C_drewN ?_ _) | (with_reducible refine Kd.C_drew ?_))); (case side2 => exact HC1.out); rintro e w9 ⟨v154, rfl, ho0, hb⟩; refine ⟨_, rfl, ?_⟩; have n0_ := Aside0.mk (Kd.R_lower ho0 (below_size (by repeat (first | (with_reducible first | exact HB.out | apply below_alloc | apply pw_below_drewN | apply below_drew1) | exact HB.out)))); have n1_ := Aside0.mk (below_step (by repeat (first | (with_reducible first | exact HB.out | apply below_alloc | apply pw_below_drewN | apply below_drew1) | exact HB.out)) hb); clear HB; have HO155 := n0_; have HB := n1_; clear n0_ n1_; (try clear hb); (try clear hb2); (try clear hk); (try clear hi); (try clear ho0); obtain ⟨Ao10, co10, eo10⟩ := Kd.R_slice HO155.out; subst eo10) | ((with_reducible refine gate_callee (f := 20) rfl ?_); refine goesL_ (some 21) rfl rfl Try.func20 (by kernel_rfl) rfl #[.slice A0 l0.length c0, .slice Ao10 t152.length co10] rfl (by (try simp only [List.map_toArray, List.map_cons, List.map_nil]); first | done | rfl | (simp only [List.length_drop, List.length_take]; rfl)) ?_; (with_reducible refine (journal_Apply.calls _ _ l0 _ _ t152 t156 t157 _ ?side1 ?side2 ?side3 ?side4 A7.out).mono ?_); (case side1 => repeat (first | exact (Kd.C_below HR0.out HB.out) | (with_reducible refine Kd.C_alloc ?_ _) | (with_reducible refine Kd.C_drewN ?_ _) | (with_reducible refine Kd.C_drew ?_))); (case side2 => exact HC0.out); (case side3 => repeat (first | exact (Kd.R_reads' HO155.out).2.2 | (with_reducible refine Kd.C_alloc ?_ _) | (with_reducible refine Kd.C_drewN ?_ _) | (with_reducible refine Kd.C_drew ?_))); (case side4 => exact (Kd.R_reads' HO155.out).2.1); rintro e w11 ⟨v158, rfl, ho0, hb⟩; refine ⟨_, rfl, ?_⟩; have n0_ := Aside0.mk (Kd.R_elder' (by (with_reducible repeat (first | apply Kd.R_alloc | apply Kd.R_drewN | apply Kd.R_drew)); exact HO155.out) (Kd.R_base ho0) hb); have n1_ := Aside0.mk (Kd.R_lower (Kd.R_new' ho0 (Kd.R_lt (by (with_reducible repeat (first | apply Kd.R_alloc | apply Kd.R_drewN | apply Kd.R_drew)); exact HO155.out))) (below_size (by repeat (first | (with_reducible first | exact HB.out | apply below_alloc | apply pw_below_drewN | apply below_drew1) | exact HB.out)))); have n2_ := Aside0.mk (below_step (by repeat (first | (with_reducible first | exact HB.out | apply below_alloc | apply pw_below_drewN | apply below_drew1) | exact HB.out)) hb); clear HO155; clear HB; have HO155 := n0_; have HO159 := n1_; have HB := n2_; clear n0_ n1_ n2_; (try clear hb); (try clear hb2); (try clear hk); (try clear hi); (try clear ho0)))
      go_ret2
      exact ⟨_, by first | rfl | (simp [errW_none, errW_some] <;> rfl) | (simp [*, errW_none, errW_some] <;> rfl), by (with_reducible repeat (first | apply Kd.R_alloc | apply Kd.R_drewN | apply Kd.R_drew)); exact Kd.R_mono HO159.out (fun _ hk => trivial), by repeat (first | (with_reducible first | exact HB.out | apply below_alloc | apply pw_below_drewN | apply below_drew1) | exact HB.out)⟩
    · rw [if_neg c6] at H
      have c6b0 : (t153 == 0) = false := beq_eq_false_iff_ne.mpr c6
      have c6b1 : (t153 != 0) = true := bne_iff_ne.mpr c6
      simp only [Option.some.injEq, Prod.mk.injEq] at H
      obtain ⟨rfl, rfl⟩ := H
      go_enter Try.func14, Try.ntmps14
      go_wp2_with (first | ((with_reducible refine gate_callee (f := 36) rfl ?_); refine goesL_ (some 9) rfl rfl Try.func36 (by kernel_rfl) rfl #[.slice A0 l0.length c0] rfl (by (try simp only [List.map_toArray, List.map_cons, List.map_nil]); first | done | rfl | (simp only [List.length_drop, List.length_take]; rfl)) ?_; (with_reducible refine (journal_ordered.calls _ _ l0 true _ ?side1 ?side2 A3.out).mono ?_); (case side1 => repeat (first | exact HR0.out | (with_reducible refine Kd.C_alloc ?_ _) | (with_reducible refine Kd.C_drewN ?_ _) | (with_reducible refine Kd.C_drew ?_))); (case side2 => exact HC0.out); rintro e w12 ⟨rfl, hb⟩; refine ⟨_, rfl, ?_⟩; have n0_ := Aside0.mk (below_step (by repeat (first | (with_reducible first | exact HB.out | apply below_alloc | apply pw_below_drewN | apply below_drew1) | exact HB.out)) hb); clear HB; have HB := n0_; clear n0_; (try clear hb); (try clear hb2); (try clear hk); (try clear hi)) | ((with_reducible refine gate_callee (f := 18) rfl ?_); refine goesL_ (some 13) rfl rfl Try.func18 (by kernel_rfl) rfl #[.slice A1 l1.length c1, .int .i64 0] rfl (by (try simp only [List.map_toArray, List.map_cons, List.map_nil]); first | done | rfl | (simp only [List.length_drop, List.length_take]; rfl)) ?_; (with_reducible refine (journal_Redo.calls _ _ l1 0 t152 t153 _ ?side1 ?side2 A5.out).mono ?_); (case side1 => repeat (first | exact (Kd.C_below HR1.out HB.out) | (with_reducible refine Kd.C_alloc ?_ _) | (with_reducible refine Kd.C_drewN ?_ _) | (with_reducible refine Kd.C_drew ?_))); (case side2 => exact HC1.out); rintro e w13 ⟨v154, rfl, ho0, hb⟩; refine ⟨_, rfl, ?_⟩; have n0_ := Aside0.mk (Kd.R_lower ho0 (below_size (by repeat (first | (with_reducible first | exact HB.out | apply below_alloc | apply pw_below_drewN | apply below_drew1) | exact HB.out)))); have n1_ := Aside0.mk (below_step (by repeat (first | (with_reducible first | exact HB.out | apply below_alloc | apply pw_below_drewN | apply below_drew1) | exact HB.out)) hb); clear HB; have HO155 := n0_; have HB := n1_; clear n0_ n1_; (try clear hb); (try clear hb2); (try clear hk); (try clear hi); (try clear ho0)))
      go_ret2
      exact ⟨_, by first | rfl | (simp [errW_none, errW_some] <;> rfl) | (simp [*, errW_none, errW_some] <;> rfl), by first | exact Kd.R_nil _ _ _ _ _ | exact Kd.N_nil _ _ _ _ _ | exact Kd.V_nil _ _ _ _ _ | exact Kd.Q_nil _ _ _ _ _ | exact Kd.S_nil _ _ _ _ _, by repeat (first | (with_reducible first | exact HB.out | apply below_alloc | apply pw_below_drewN | apply below_drew1) | exact HB.out)⟩
  · replace c4 := Bool.eq_false_iff.mpr c4
    subst c4
    have H1 : (some (([] : List (S41)), 1)) = some (r1, r2) := by rw [if_neg (show ¬ (false = true) by decide)] at H; exact H
    clear H
    have H := H1
    clear H1
    simp only [Option.some.injEq, Prod.mk.injEq] at H
    obtain ⟨rfl, rfl⟩ := H
    go_enter Try.func14, Try.ntmps14
    go_wp2_with (first | ((with_reducible refine gate_callee (f := 36) rfl ?_); refine goesL_ (some 9) rfl rfl Try.func36 (by kernel_rfl) rfl #[.slice A0 l0.length c0] rfl (by (try simp only [List.map_toArray, List.map_cons, List.map_nil]); first | done | rfl | (simp only [List.length_drop, List.length_take]; rfl)) ?_; (with_reducible refine (journal_ordered.calls _ _ l0 false _ ?side1 ?side2 A3.out).mono ?_); (case side1 => repeat (first | exact HR0.out | (with_reducible refine Kd.C_alloc ?_ _) | (with_reducible refine Kd.C_drewN ?_ _) | (with_reducible refine Kd.C_drew ?_))); (case side2 => exact HC0.out); rintro e w14 ⟨rfl, hb⟩; refine ⟨_, rfl, ?_⟩; have n0_ := Aside0.mk (below_step (by repeat (first | (with_reducible first | exact HB.out | apply below_alloc | apply pw_below_drewN | apply below_drew1) | exact HB.out)) hb); clear HB; have HB := n0_; clear n0_; (try clear hb); (try clear hb2); (try clear hk); (try clear hi)))
    go_ret2
    exact ⟨_, by first | rfl | (simp [errW_none, errW_some] <;> rfl) | (simp [*, errW_none, errW_some] <;> rfl), by first | exact Kd.R_nil _ _ _ _ _ | exact Kd.N_nil _ _ _ _ _ | exact Kd.V_nil _ _ _ _ _ | exact Kd.Q_nil _ _ _ _ _ | exact Kd.S_nil _ _ _ _ _, by repeat (first | (with_reducible first | exact HB.out | apply below_alloc | apply pw_below_drewN | apply below_drew1) | exact HB.out)⟩

/-! ### ringworklaw25_awake: function 12 -/
def ringworklaw25_awake.f  : Option (Bool) := (journal_State.f ([] : List (S41)) (([(⟨1, 1, (⟨#[]⟩ : ByteArray), false, (⟨#[]⟩ : ByteArray)⟩ : S39), (⟨2, 1, (⟨#[120]⟩ : ByteArray), false, (⟨#[]⟩ : ByteArray)⟩ : S39), (⟨3, 1, (⟨#[120]⟩ : ByteArray), true, (⟨#[97]⟩ : ByteArray)⟩ : S39), (⟨5, 1, (⟨#[]⟩ : ByteArray), false, (⟨#[]⟩ : ByteArray)⟩ : S39)] : List (S39)))).bind fun bt163 => (if bt163.2 = 0 then (if (bt163.1.length : Int) = 1 then (if 0 < (bt163.1.length : Int) then (if ((rd_T41 bt163.1 0).f0).toList = ([120] : List UInt8) then (some (((rd_T41 bt163.1 0).f2).toList == ([97] : List UInt8))) else (some false)) else (none)) else (some false)) else (some false))
set_option maxHeartbeats 8000000 in
set_option maxRecDepth 100000 in
theorem ringworklaw25_awake.calls  (r : Bool) (w : World) (h : ringworklaw25_awake.f  = some r) :
    Calls Try.prog 12 #[] w fun e w' => e = .returned (.bool r) ∧ Below w.heap.size w w' := by
  have hu39 := Try.underlying39
  have HB := Aside0.mk (Below.refl w.heap.size w)
  have H : ((journal_State.f ([] : List (S41)) (([(⟨1, 1, (⟨#[]⟩ : ByteArray), false, (⟨#[]⟩ : ByteArray)⟩ : S39), (⟨2, 1, (⟨#[120]⟩ : ByteArray), false, (⟨#[]⟩ : ByteArray)⟩ : S39), (⟨3, 1, (⟨#[120]⟩ : ByteArray), true, (⟨#[97]⟩ : ByteArray)⟩ : S39), (⟨5, 1, (⟨#[]⟩ : ByteArray), false, (⟨#[]⟩ : ByteArray)⟩ : S39)] : List (S39)))).bind fun bt163 => (if bt163.2 = 0 then (if (bt163.1.length : Int) = 1 then (if 0 < (bt163.1.length : Int) then (if ((rd_T41 bt163.1 0).f0).toList = ([120] : List UInt8) then (some (((rd_T41 bt163.1 0).f2).toList == ([97] : List UInt8))) else (some false)) else (none)) else (some false)) else (some false))) = some r := h
  clear h
  obtain ⟨y160, hy160⟩ : ∃ y_ : List (S39), y_ = (([(⟨1, 1, (⟨#[]⟩ : ByteArray), false, (⟨#[]⟩ : ByteArray)⟩ : S39), (⟨2, 1, (⟨#[120]⟩ : ByteArray), false, (⟨#[]⟩ : ByteArray)⟩ : S39), (⟨3, 1, (⟨#[120]⟩ : ByteArray), true, (⟨#[97]⟩ : ByteArray)⟩ : S39), (⟨5, 1, (⟨#[]⟩ : ByteArray), false, (⟨#[]⟩ : ByteArray)⟩ : S39)] : List (S39))) := ⟨_, rfl⟩
  replace H : ((journal_State.f ([] : List (S41)) y160).bind fun bt163 => (if bt163.2 = 0 then (if (bt163.1.length : Int) = 1 then (if 0 < (bt163.1.length : Int) then (if ((rd_T41 bt163.1 0).f0).toList = ([120] : List UInt8) then (some (((rd_T41 bt163.1 0).f2).toList == ([97] : List UInt8))) else (some false)) else (none)) else (some false)) else (some false))) = some r := by first | (rw [hy160]; with_reducible exact H) | (have H2_ := (Option.bind_some _ _).symm.trans H; rw [hy160]; with_reducible exact H2_) | (have H2_ := (Option.bind_some _ _).symm.trans H; with_reducible exact H2_) | with_reducible exact H | (rw [hy160]; exact H) | exact H
  have Ny160 := Aside0.mk hy160
  clear hy160
  replace H := Option.bind_eq_some_iff.mp H
  obtain ⟨⟨t163, t164⟩, A10, H⟩ := H
  replace H : (if t164 = 0 then (if (t163.length : Int) = 1 then (if 0 < (t163.length : Int) then (if ((rd_T41 t163 0).f0).toList = ([120] : List UInt8) then (some (((rd_T41 t163 0).f2).toList == ([97] : List UInt8))) else (some false)) else (none)) else (some false)) else (some false)) = some r := H
  have A1 := Aside0.mk A10
  clear A10
  by_cases c2 : t164 = 0
  · rw [if_pos c2] at H
    have c2b0 : (t164 == 0) = true := beq_iff_eq.mpr c2
    have c2b1 : (t164 != 0) = false := bne_eq_false_iff_eq.mpr c2
    clear c2
    by_cases c3 : (t163.length : Int) = 1
    · rw [if_pos c3] at H
      have c3b0 : ((t163.length : Int) == 1) = true := beq_iff_eq.mpr c3
      have c3b1 : ((t163.length : Int) != 1) = false := bne_eq_false_iff_eq.mpr c3
      clear c3
      by_cases c4 : 0 < (t163.length : Int)
      · rw [if_pos c4] at H
        have c4b0 : decide (0 < (t163.length : Int)) = true := decide_eq_true c4
        have c4b1 : decide (0 < t163.length) = true := decide_eq_true (by omega)
        clear c4
        by_cases c5 : ((rd_T41 t163 0).f0).toList = ([120] : List UInt8)
        · rw [if_pos c5] at H
          have c5b0 : (((rd_T41 t163 0).f0).toList == ([120] : List UInt8)) = true := beq_iff_eq.mpr c5
          have c5b1 : (((rd_T41 t163 0).f0).toList != ([120] : List UInt8)) = false := bne_eq_false_iff_eq.mpr c5
          clear c5
          obtain rfl := Option.some.inj H
          go_enter Try.func12, Try.ntmps12
          go_wp2_with (first | ((with_reducible refine gate_dst (N := 8) rfl ?_); (try (refine gate_guard (by rfl) ?_; dsimp only)); refine Kd.R_lit k39 _ 39 ?hg (N := 8) ?hd (xs := ([(⟨1, 1, (⟨#[]⟩ : ByteArray), false, (⟨#[]⟩ : ByteArray)⟩ : S39), (⟨2, 1, (⟨#[120]⟩ : ByteArray), false, (⟨#[]⟩ : ByteArray)⟩ : S39), (⟨3, 1, (⟨#[120]⟩ : ByteArray), true, (⟨#[97]⟩ : ByteArray)⟩ : S39), (⟨5, 1, (⟨#[]⟩ : ByteArray), false, (⟨#[]⟩ : ByteArray)⟩ : S39)] : List (S39))) (inner := [.int .i64 1, .int .i64 1, .string (⟨#[]⟩ : ByteArray), .bool false, .string (⟨#[]⟩ : ByteArray), .int .i64 2, .int .i64 1, .string (⟨#[120]⟩ : ByteArray), .bool false, .string (⟨#[]⟩ : ByteArray), .int .i64 3, .int .i64 1, .string (⟨#[120]⟩ : ByteArray), .bool true, .string (⟨#[97]⟩ : ByteArray), .int .i64 5, .int .i64 1, .string (⟨#[]⟩ : ByteArray), .bool false, .string (⟨#[]⟩ : ByteArray)]) (ok := fun _ => True) (okp := fun _ => True) ?hr ?hp (fun _ hk => hk) trivial (Below.refl _ _) (Nat.le_refl _) (by simp) ?_; (case hd => rfl); (case hg => rfl); (case hr => first | (go_simp; done) | (go_simp; rfl)); (case hp => exact (Reps.c5 (show Kd.M k39 _ _ _ (⟨1, 1, (⟨#[]⟩ : ByteArray), false, (⟨#[]⟩ : ByteArray)⟩ : S39) [.int .i64 1, .int .i64 1, .string (⟨#[]⟩ : ByteArray), .bool false, .string (⟨#[]⟩ : ByteArray)] from (k39_mkM _ _ _ (⟨1, 1, (⟨#[]⟩ : ByteArray), false, (⟨#[]⟩ : ByteArray)⟩ : S39) )) (Reps.c5 (show Kd.M k39 _ _ _ (⟨2, 1, (⟨#[120]⟩ : ByteArray), false, (⟨#[]⟩ : ByteArray)⟩ : S39) [.int .i64 2, .int .i64 1, .string (⟨#[120]⟩ : ByteArray), .bool false, .string (⟨#[]⟩ : ByteArray)] from (k39_mkM _ _ _ (⟨2, 1, (⟨#[120]⟩ : ByteArray), false, (⟨#[]⟩ : ByteArray)⟩ : S39) )) (Reps.c5 (show Kd.M k39 _ _ _ (⟨3, 1, (⟨#[120]⟩ : ByteArray), true, (⟨#[97]⟩ : ByteArray)⟩ : S39) [.int .i64 3, .int .i64 1, .string (⟨#[120]⟩ : ByteArray), .bool true, .string (⟨#[97]⟩ : ByteArray)] from (k39_mkM _ _ _ (⟨3, 1, (⟨#[120]⟩ : ByteArray), true, (⟨#[97]⟩ : ByteArray)⟩ : S39) )) (Reps.c5 (show Kd.M k39 _ _ _ (⟨5, 1, (⟨#[]⟩ : ByteArray), false, (⟨#[]⟩ : ByteArray)⟩ : S39) [.int .i64 5, .int .i64 1, .string (⟨#[]⟩ : ByteArray), .bool false, .string (⟨#[]⟩ : ByteArray)] from (k39_mkM _ _ _ (⟨5, 1, (⟨#[]⟩ : ByteArray), false, (⟨#[]⟩ : ByteArray)⟩ : S39) )) (Reps.none _ _)))))); intro v161 w6 ho7 hb hg_ hnew_; clear hg_ hnew_; (first | rw [← Ny160.out] at ho7 | (simp only [Int.reduceToNat] at ho7; rw [← Ny160.out] at ho7)); have n0_ := Aside0.mk (Kd.R_lower ho7 (below_size (by repeat (first | (with_reducible first | exact HB.out | apply below_alloc | apply pw_below_drewN | apply below_drew1) | exact HB.out)))); have n1_ := Aside0.mk (below_step (by repeat (first | (with_reducible first | exact HB.out | apply below_alloc | apply pw_below_drewN | apply below_drew1) | exact HB.out)) hb); clear HB; have HO162 := n0_; have HB := n1_; clear n0_ n1_; clear hb ho7; obtain ⟨Ao8, co8, eo8⟩ := Kd.R_slice HO162.out; subst eo8) | ((with_reducible refine gate_callee (f := 14) rfl ?_); refine goesL_ (some 9) rfl rfl Try.func14 (by kernel_rfl) rfl #[.slice none 0 0, .slice Ao8 y160.length co8] rfl (by (try simp only [List.map_toArray, List.map_cons, List.map_nil]); first | done | rfl | (simp only [List.length_drop, List.length_take]; rfl)) ?_; (refine (journal_State.calls _ _ ([] : List (S41)) _ _ y160 t163 t164 _ ?side1 ?side2 ?side3 ?side4 A1.out).mono ?_); (case side1 => exact Kd.C_nil _ _); (case side2 => exact Nat.le_refl _); (case side3 => repeat (first | exact (Kd.R_reads' HO162.out).2.2 | (with_reducible refine Kd.C_alloc ?_ _) | (with_reducible refine Kd.C_drewN ?_ _) | (with_reducible refine Kd.C_drew ?_))); (case side4 => exact (Kd.R_reads' HO162.out).2.1); rintro e w9 ⟨v165, rfl, ho0, hb⟩; refine ⟨_, rfl, ?_⟩; have n0_ := Aside0.mk (Kd.R_below (by (with_reducible repeat (first | apply Kd.R_alloc | apply Kd.R_drewN | apply Kd.R_drew)); exact HO162.out) hb); have n1_ := Aside0.mk (Kd.R_lower ho0 (below_size (by repeat (first | (with_reducible first | exact HB.out | apply below_alloc | apply pw_below_drewN | apply below_drew1) | exact HB.out)))); have n2_ := Aside0.mk (below_step (by repeat (first | (with_reducible first | exact HB.out | apply below_alloc | apply pw_below_drewN | apply below_drew1) | exact HB.out)) hb); clear HO162; clear HB; have HO162 := n0_; have HO166 := n1_; have HB := n2_; clear n0_ n1_ n2_; (try clear hb); (try clear hb2); (try clear hk); (try clear hi); (try clear ho0); obtain ⟨Ao10, co10, eo10⟩ := Kd.R_slice HO166.out; subst eo10; have p167 : 0 ≤ (0 : Int) := (by omega); have q167 : 0 < (t163.length : Int) := of_decide_eq_true (by first | (with_reducible assumption) | assumption); obtain ⟨ad167, e167, hx167_0, hx167_1, hx167_2⟩ := at_T41 (Kd.R_reads' HO166.out).2.2 0 p167 q167; cases e167; have qi167 : (0 < t163.length) = True := eq_true (by omega); (try rw [show ((0 : Int)).toNat = 0 from rfl] at hx167_0); (try rw [show 0 * 3 = 0 from rfl] at hx167_0); (try rw [Addr.add_zero'] at hx167_0); (try rw [show ((0 : Int)).toNat = 0 from rfl] at hx167_1); (try rw [show 0 * 3 = 0 from rfl] at hx167_1); (try rw [Addr.add_zero'] at hx167_1); (try rw [show ((0 : Int)).toNat = 0 from rfl] at hx167_2); (try rw [show 0 * 3 = 0 from rfl] at hx167_2); (try rw [Addr.add_zero'] at hx167_2); replace p167 := eq_true p167; replace q167 := eq_true q167; have p168 : 0 ≤ (0 : Int) := (by omega); have q168 : 0 < (t163.length : Int) := of_decide_eq_true (by first | (with_reducible assumption) | assumption); obtain ⟨ad168, e168, hx168_0, hx168_1, hx168_2⟩ := at_T41 (Kd.R_reads' HO166.out).2.2 0 p168 q168; obtain rfl : ad167 = ad168 := (by injection e168); have qi168 : (0 < t163.length) = True := eq_true (by omega); (try rw [show ((0 : Int)).toNat = 0 from rfl] at hx168_0); (try rw [show 0 * 3 = 0 from rfl] at hx168_0); (try rw [Addr.add_zero'] at hx168_0); (try rw [show ((0 : Int)).toNat = 0 from rfl] at hx168_1); (try rw [show 0 * 3 = 0 from rfl] at hx168_1); (try rw [Addr.add_zero'] at hx168_1); (try rw [show ((0 : Int)).toNat = 0 from rfl] at hx168_2); (try rw [show 0 * 3 = 0 from rfl] at hx168_2); (try rw [Addr.add_zero'] at hx168_2); replace p168 := eq_true p168; replace q168 := eq_true q168))
          go_ret
          exact ⟨by first | rfl | (simp [errW_none, errW_some] <;> rfl) | (simp [*, errW_none, errW_some] <;> rfl), by repeat (first | (with_reducible first | exact HB.out | apply below_alloc | apply pw_below_drewN | apply below_drew1) | exact HB.out)⟩
        · rw [if_neg c5] at H
          have c5b0 : (((rd_T41 t163 0).f0).toList == ([120] : List UInt8)) = false := beq_eq_false_iff_ne.mpr c5
          have c5b1 : (((rd_T41 t163 0).f0).toList != ([120] : List UInt8)) = true := bne_iff_ne.mpr c5
          obtain rfl := Option.some.inj H
          go_enter Try.func12, Try.ntmps12
          go_wp2_with (first | ((with_reducible refine gate_dst (N := 8) rfl ?_); (try (refine gate_guard (by rfl) ?_; dsimp only)); refine Kd.R_lit k39 _ 39 ?hg (N := 8) ?hd (xs := ([(⟨1, 1, (⟨#[]⟩ : ByteArray), false, (⟨#[]⟩ : ByteArray)⟩ : S39), (⟨2, 1, (⟨#[120]⟩ : ByteArray), false, (⟨#[]⟩ : ByteArray)⟩ : S39), (⟨3, 1, (⟨#[120]⟩ : ByteArray), true, (⟨#[97]⟩ : ByteArray)⟩ : S39), (⟨5, 1, (⟨#[]⟩ : ByteArray), false, (⟨#[]⟩ : ByteArray)⟩ : S39)] : List (S39))) (inner := [.int .i64 1, .int .i64 1, .string (⟨#[]⟩ : ByteArray), .bool false, .string (⟨#[]⟩ : ByteArray), .int .i64 2, .int .i64 1, .string (⟨#[120]⟩ : ByteArray), .bool false, .string (⟨#[]⟩ : ByteArray), .int .i64 3, .int .i64 1, .string (⟨#[120]⟩ : ByteArray), .bool true, .string (⟨#[97]⟩ : ByteArray), .int .i64 5, .int .i64 1, .string (⟨#[]⟩ : ByteArray), .bool false, .string (⟨#[]⟩ : ByteArray)]) (ok := fun _ => True) (okp := fun _ => True) ?hr ?hp (fun _ hk => hk) trivial (Below.refl _ _) (Nat.le_refl _) (by simp) ?_; (case hd => rfl); (case hg => rfl); (case hr => first | (go_simp; done) | (go_simp; rfl)); (case hp => exact (Reps.c5 (show Kd.M k39 _ _ _ (⟨1, 1, (⟨#[]⟩ : ByteArray), false, (⟨#[]⟩ : ByteArray)⟩ : S39) [.int .i64 1, .int .i64 1, .string (⟨#[]⟩ : ByteArray), .bool false, .string (⟨#[]⟩ : ByteArray)] from (k39_mkM _ _ _ (⟨1, 1, (⟨#[]⟩ : ByteArray), false, (⟨#[]⟩ : ByteArray)⟩ : S39) )) (Reps.c5 (show Kd.M k39 _ _ _ (⟨2, 1, (⟨#[120]⟩ : ByteArray), false, (⟨#[]⟩ : ByteArray)⟩ : S39) [.int .i64 2, .int .i64 1, .string (⟨#[120]⟩ : ByteArray), .bool false, .string (⟨#[]⟩ : ByteArray)] from (k39_mkM _ _ _ (⟨2, 1, (⟨#[120]⟩ : ByteArray), false, (⟨#[]⟩ : ByteArray)⟩ : S39) )) (Reps.c5 (show Kd.M k39 _ _ _ (⟨3, 1, (⟨#[120]⟩ : ByteArray), true, (⟨#[97]⟩ : ByteArray)⟩ : S39) [.int .i64 3, .int .i64 1, .string (⟨#[120]⟩ : ByteArray), .bool true, .string (⟨#[97]⟩ : ByteArray)] from (k39_mkM _ _ _ (⟨3, 1, (⟨#[120]⟩ : ByteArray), true, (⟨#[97]⟩ : ByteArray)⟩ : S39) )) (Reps.c5 (show Kd.M k39 _ _ _ (⟨5, 1, (⟨#[]⟩ : ByteArray), false, (⟨#[]⟩ : ByteArray)⟩ : S39) [.int .i64 5, .int .i64 1, .string (⟨#[]⟩ : ByteArray), .bool false, .string (⟨#[]⟩ : ByteArray)] from (k39_mkM _ _ _ (⟨5, 1, (⟨#[]⟩ : ByteArray), false, (⟨#[]⟩ : ByteArray)⟩ : S39) )) (Reps.none _ _)))))); intro v161 w11 ho12 hb hg_ hnew_; clear hg_ hnew_; (first | rw [← Ny160.out] at ho12 | (simp only [Int.reduceToNat] at ho12; rw [← Ny160.out] at ho12)); have n0_ := Aside0.mk (Kd.R_lower ho12 (below_size (by repeat (first | (with_reducible first | exact HB.out | apply below_alloc | apply pw_below_drewN | apply below_drew1) | exact HB.out)))); have n1_ := Aside0.mk (below_step (by repeat (first | (with_reducible first | exact HB.out | apply below_alloc | apply pw_below_drewN | apply below_drew1) | exact HB.out)) hb); clear HB; have HO162 := n0_; have HB := n1_; clear n0_ n1_; clear hb ho12; obtain ⟨Ao13, co13, eo13⟩ := Kd.R_slice HO162.out; subst eo13) | ((with_reducible refine gate_callee (f := 14) rfl ?_); refine goesL_ (some 9) rfl rfl Try.func14 (by kernel_rfl) rfl #[.slice none 0 0, .slice Ao13 y160.length co13] rfl (by (try simp only [List.map_toArray, List.map_cons, List.map_nil]); first | done | rfl | (simp only [List.length_drop, List.length_take]; rfl)) ?_; (refine (journal_State.calls _ _ ([] : List (S41)) _ _ y160 t163 t164 _ ?side1 ?side2 ?side3 ?side4 A1.out).mono ?_); (case side1 => exact Kd.C_nil _ _); (case side2 => exact Nat.le_refl _); (case side3 => repeat (first | exact (Kd.R_reads' HO162.out).2.2 | (with_reducible refine Kd.C_alloc ?_ _) | (with_reducible refine Kd.C_drewN ?_ _) | (with_reducible refine Kd.C_drew ?_))); (case side4 => exact (Kd.R_reads' HO162.out).2.1); rintro e w14 ⟨v165, rfl, ho0, hb⟩; refine ⟨_, rfl, ?_⟩; have n0_ := Aside0.mk (Kd.R_below (by (with_reducible repeat (first | apply Kd.R_alloc | apply Kd.R_drewN | apply Kd.R_drew)); exact HO162.out) hb); have n1_ := Aside0.mk (Kd.R_lower ho0 (below_size (by repeat (first | (with_reducible first | exact HB.out | apply below_alloc | apply pw_below_drewN | apply below_drew1) | exact HB.out)))); have n2_ := Aside0.mk (below_step (by repeat (first | (with_reducible first | exact HB.out | apply below_alloc | apply pw_below_drewN | apply below_drew1) | exact HB.out)) hb); clear HO162; clear HB; have HO162 := n0_; have HO166 := n1_; have HB := n2_; clear n0_ n1_ n2_; (try clear hb); (try clear hb2); (try clear hk); (try clear hi); (try clear ho0); obtain ⟨Ao15, co15, eo15⟩ := Kd.R_slice HO166.out; subst eo15; have p167 : 0 ≤ (0 : Int) := (by omega); have q167 : 0 < (t163.length : Int) := of_decide_eq_true (by first | (with_reducible assumption) | assumption); obtain ⟨ad167, e167, hx167_0, hx167_1, hx167_2⟩ := at_T41 (Kd.R_reads' HO166.out).2.2 0 p167 q167; cases e167; have qi167 : (0 < t163.length) = True := eq_true (by omega); (try rw [show ((0 : Int)).toNat = 0 from rfl] at hx167_0); (try rw [show 0 * 3 = 0 from rfl] at hx167_0); (try rw [Addr.add_zero'] at hx167_0); (try rw [show ((0 : Int)).toNat = 0 from rfl] at hx167_1); (try rw [show 0 * 3 = 0 from rfl] at hx167_1); (try rw [Addr.add_zero'] at hx167_1); (try rw [show ((0 : Int)).toNat = 0 from rfl] at hx167_2); (try rw [show 0 * 3 = 0 from rfl] at hx167_2); (try rw [Addr.add_zero'] at hx167_2); replace p167 := eq_true p167; replace q167 := eq_true q167))
          go_ret
          exact ⟨by first | rfl | (simp [errW_none, errW_some] <;> rfl) | (simp [*, errW_none, errW_some] <;> rfl), by repeat (first | (with_reducible first | exact HB.out | apply below_alloc | apply pw_below_drewN | apply below_drew1) | exact HB.out)⟩
      · rw [if_neg c4] at H
        exact absurd H (by simp)
    · rw [if_neg c3] at H
      have c3b0 : ((t163.length : Int) == 1) = false := beq_eq_false_iff_ne.mpr c3
      have c3b1 : ((t163.length : Int) != 1) = true := bne_iff_ne.mpr c3
      obtain rfl := Option.some.inj H
      go_enter Try.func12, Try.ntmps12
      go_wp2_with (first | ((with_reducible refine gate_dst (N := 8) rfl ?_); (try (refine gate_guard (by rfl) ?_; dsimp only)); refine Kd.R_lit k39 _ 39 ?hg (N := 8) ?hd (xs := ([(⟨1, 1, (⟨#[]⟩ : ByteArray), false, (⟨#[]⟩ : ByteArray)⟩ : S39), (⟨2, 1, (⟨#[120]⟩ : ByteArray), false, (⟨#[]⟩ : ByteArray)⟩ : S39), (⟨3, 1, (⟨#[120]⟩ : ByteArray), true, (⟨#[97]⟩ : ByteArray)⟩ : S39), (⟨5, 1, (⟨#[]⟩ : ByteArray), false, (⟨#[]⟩ : ByteArray)⟩ : S39)] : List (S39))) (inner := [.int .i64 1, .int .i64 1, .string (⟨#[]⟩ : ByteArray), .bool false, .string (⟨#[]⟩ : ByteArray), .int .i64 2, .int .i64 1, .string (⟨#[120]⟩ : ByteArray), .bool false, .string (⟨#[]⟩ : ByteArray), .int .i64 3, .int .i64 1, .string (⟨#[120]⟩ : ByteArray), .bool true, .string (⟨#[97]⟩ : ByteArray), .int .i64 5, .int .i64 1, .string (⟨#[]⟩ : ByteArray), .bool false, .string (⟨#[]⟩ : ByteArray)]) (ok := fun _ => True) (okp := fun _ => True) ?hr ?hp (fun _ hk => hk) trivial (Below.refl _ _) (Nat.le_refl _) (by simp) ?_; (case hd => rfl); (case hg => rfl); (case hr => first | (go_simp; done) | (go_simp; rfl)); (case hp => exact (Reps.c5 (show Kd.M k39 _ _ _ (⟨1, 1, (⟨#[]⟩ : ByteArray), false, (⟨#[]⟩ : ByteArray)⟩ : S39) [.int .i64 1, .int .i64 1, .string (⟨#[]⟩ : ByteArray), .bool false, .string (⟨#[]⟩ : ByteArray)] from (k39_mkM _ _ _ (⟨1, 1, (⟨#[]⟩ : ByteArray), false, (⟨#[]⟩ : ByteArray)⟩ : S39) )) (Reps.c5 (show Kd.M k39 _ _ _ (⟨2, 1, (⟨#[120]⟩ : ByteArray), false, (⟨#[]⟩ : ByteArray)⟩ : S39) [.int .i64 2, .int .i64 1, .string (⟨#[120]⟩ : ByteArray), .bool false, .string (⟨#[]⟩ : ByteArray)] from (k39_mkM _ _ _ (⟨2, 1, (⟨#[120]⟩ : ByteArray), false, (⟨#[]⟩ : ByteArray)⟩ : S39) )) (Reps.c5 (show Kd.M k39 _ _ _ (⟨3, 1, (⟨#[120]⟩ : ByteArray), true, (⟨#[97]⟩ : ByteArray)⟩ : S39) [.int .i64 3, .int .i64 1, .string (⟨#[120]⟩ : ByteArray), .bool true, .string (⟨#[97]⟩ : ByteArray)] from (k39_mkM _ _ _ (⟨3, 1, (⟨#[120]⟩ : ByteArray), true, (⟨#[97]⟩ : ByteArray)⟩ : S39) )) (Reps.c5 (show Kd.M k39 _ _ _ (⟨5, 1, (⟨#[]⟩ : ByteArray), false, (⟨#[]⟩ : ByteArray)⟩ : S39) [.int .i64 5, .int .i64 1, .string (⟨#[]⟩ : ByteArray), .bool false, .string (⟨#[]⟩ : ByteArray)] from (k39_mkM _ _ _ (⟨5, 1, (⟨#[]⟩ : ByteArray), false, (⟨#[]⟩ : ByteArray)⟩ : S39) )) (Reps.none _ _)))))); intro v161 w16 ho17 hb hg_ hnew_; clear hg_ hnew_; (first | rw [← Ny160.out] at ho17 | (simp only [Int.reduceToNat] at ho17; rw [← Ny160.out] at ho17)); have n0_ := Aside0.mk (Kd.R_lower ho17 (below_size (by repeat (first | (with_reducible first | exact HB.out | apply below_alloc | apply pw_below_drewN | apply below_drew1) | exact HB.out)))); have n1_ := Aside0.mk (below_step (by repeat (first | (with_reducible first | exact HB.out | apply below_alloc | apply pw_below_drewN | apply below_drew1) | exact HB.out)) hb); clear HB; have HO162 := n0_; have HB := n1_; clear n0_ n1_; clear hb ho17; obtain ⟨Ao18, co18, eo18⟩ := Kd.R_slice HO162.out; subst eo18) | ((with_reducible refine gate_callee (f := 14) rfl ?_); refine goesL_ (some 9) rfl rfl Try.func14 (by kernel_rfl) rfl #[.slice none 0 0, .slice Ao18 y160.length co18] rfl (by (try simp only [List.map_toArray, List.map_cons, List.map_nil]); first | done | rfl | (simp only [List.length_drop, List.length_take]; rfl)) ?_; (refine (journal_State.calls _ _ ([] : List (S41)) _ _ y160 t163 t164 _ ?side1 ?side2 ?side3 ?side4 A1.out).mono ?_); (case side1 => exact Kd.C_nil _ _); (case side2 => exact Nat.le_refl _); (case side3 => repeat (first | exact (Kd.R_reads' HO162.out).2.2 | (with_reducible refine Kd.C_alloc ?_ _) | (with_reducible refine Kd.C_drewN ?_ _) | (with_reducible refine Kd.C_drew ?_))); (case side4 => exact (Kd.R_reads' HO162.out).2.1); rintro e w19 ⟨v165, rfl, ho0, hb⟩; refine ⟨_, rfl, ?_⟩; have n0_ := Aside0.mk (Kd.R_below (by (with_reducible repeat (first | apply Kd.R_alloc | apply Kd.R_drewN | apply Kd.R_drew)); exact HO162.out) hb); have n1_ := Aside0.mk (Kd.R_lower ho0 (below_size (by repeat (first | (with_reducible first | exact HB.out | apply below_alloc | apply pw_below_drewN | apply below_drew1) | exact HB.out)))); have n2_ := Aside0.mk (below_step (by repeat (first | (with_reducible first | exact HB.out | apply below_alloc | apply pw_below_drewN | apply below_drew1) | exact HB.out)) hb); clear HO162; clear HB; have HO162 := n0_; have HO166 := n1_; have HB := n2_; clear n0_ n1_ n2_; (try clear hb); (try clear hb2); (try clear hk); (try clear hi); (try clear ho0); obtain ⟨Ao20, co20, eo20⟩ := Kd.R_slice HO166.out; subst eo20))
      go_ret
      exact ⟨by first | rfl | (simp [errW_none, errW_some] <;> rfl) | (simp [*, errW_none, errW_some] <;> rfl), by repeat (first | (with_reducible first | exact HB.out | apply below_alloc | apply pw_below_drewN | apply below_drew1) | exact HB.out)⟩
  · rw [if_neg c2] at H
    have c2b0 : (t164 == 0) = false := beq_eq_false_iff_ne.mpr c2
    have c2b1 : (t164 != 0) = true := bne_iff_ne.mpr c2
    obtain rfl := Option.some.inj H
    go_enter Try.func12, Try.ntmps12
    go_wp2_with (first | ((with_reducible refine gate_dst (N := 8) rfl ?_); (try (refine gate_guard (by rfl) ?_; dsimp only)); refine Kd.R_lit k39 _ 39 ?hg (N := 8) ?hd (xs := ([(⟨1, 1, (⟨#[]⟩ : ByteArray), false, (⟨#[]⟩ : ByteArray)⟩ : S39), (⟨2, 1, (⟨#[120]⟩ : ByteArray), false, (⟨#[]⟩ : ByteArray)⟩ : S39), (⟨3, 1, (⟨#[120]⟩ : ByteArray), true, (⟨#[97]⟩ : ByteArray)⟩ : S39), (⟨5, 1, (⟨#[]⟩ : ByteArray), false, (⟨#[]⟩ : ByteArray)⟩ : S39)] : List (S39))) (inner := [.int .i64 1, .int .i64 1, .string (⟨#[]⟩ : ByteArray), .bool false, .string (⟨#[]⟩ : ByteArray), .int .i64 2, .int .i64 1, .string (⟨#[120]⟩ : ByteArray), .bool false, .string (⟨#[]⟩ : ByteArray), .int .i64 3, .int .i64 1, .string (⟨#[120]⟩ : ByteArray), .bool true, .string (⟨#[97]⟩ : ByteArray), .int .i64 5, .int .i64 1, .string (⟨#[]⟩ : ByteArray), .bool false, .string (⟨#[]⟩ : ByteArray)]) (ok := fun _ => True) (okp := fun _ => True) ?hr ?hp (fun _ hk => hk) trivial (Below.refl _ _) (Nat.le_refl _) (by simp) ?_; (case hd => rfl); (case hg => rfl); (case hr => first | (go_simp; done) | (go_simp; rfl)); (case hp => exact (Reps.c5 (show Kd.M k39 _ _ _ (⟨1, 1, (⟨#[]⟩ : ByteArray), false, (⟨#[]⟩ : ByteArray)⟩ : S39) [.int .i64 1, .int .i64 1, .string (⟨#[]⟩ : ByteArray), .bool false, .string (⟨#[]⟩ : ByteArray)] from (k39_mkM _ _ _ (⟨1, 1, (⟨#[]⟩ : ByteArray), false, (⟨#[]⟩ : ByteArray)⟩ : S39) )) (Reps.c5 (show Kd.M k39 _ _ _ (⟨2, 1, (⟨#[120]⟩ : ByteArray), false, (⟨#[]⟩ : ByteArray)⟩ : S39) [.int .i64 2, .int .i64 1, .string (⟨#[120]⟩ : ByteArray), .bool false, .string (⟨#[]⟩ : ByteArray)] from (k39_mkM _ _ _ (⟨2, 1, (⟨#[120]⟩ : ByteArray), false, (⟨#[]⟩ : ByteArray)⟩ : S39) )) (Reps.c5 (show Kd.M k39 _ _ _ (⟨3, 1, (⟨#[120]⟩ : ByteArray), true, (⟨#[97]⟩ : ByteArray)⟩ : S39) [.int .i64 3, .int .i64 1, .string (⟨#[120]⟩ : ByteArray), .bool true, .string (⟨#[97]⟩ : ByteArray)] from (k39_mkM _ _ _ (⟨3, 1, (⟨#[120]⟩ : ByteArray), true, (⟨#[97]⟩ : ByteArray)⟩ : S39) )) (Reps.c5 (show Kd.M k39 _ _ _ (⟨5, 1, (⟨#[]⟩ : ByteArray), false, (⟨#[]⟩ : ByteArray)⟩ : S39) [.int .i64 5, .int .i64 1, .string (⟨#[]⟩ : ByteArray), .bool false, .string (⟨#[]⟩ : ByteArray)] from (k39_mkM _ _ _ (⟨5, 1, (⟨#[]⟩ : ByteArray), false, (⟨#[]⟩ : ByteArray)⟩ : S39) )) (Reps.none _ _)))))); intro v161 w21 ho22 hb hg_ hnew_; clear hg_ hnew_; (first | rw [← Ny160.out] at ho22 | (simp only [Int.reduceToNat] at ho22; rw [← Ny160.out] at ho22)); have n0_ := Aside0.mk (Kd.R_lower ho22 (below_size (by repeat (first | (with_reducible first | exact HB.out | apply below_alloc | apply pw_below_drewN | apply below_drew1) | exact HB.out)))); have n1_ := Aside0.mk (below_step (by repeat (first | (with_reducible first | exact HB.out | apply below_alloc | apply pw_below_drewN | apply below_drew1) | exact HB.out)) hb); clear HB; have HO162 := n0_; have HB := n1_; clear n0_ n1_; clear hb ho22; obtain ⟨Ao23, co23, eo23⟩ := Kd.R_slice HO162.out; subst eo23) | ((with_reducible refine gate_callee (f := 14) rfl ?_); refine goesL_ (some 9) rfl rfl Try.func14 (by kernel_rfl) rfl #[.slice none 0 0, .slice Ao23 y160.length co23] rfl (by (try simp only [List.map_toArray, List.map_cons, List.map_nil]); first | done | rfl | (simp only [List.length_drop, List.length_take]; rfl)) ?_; (refine (journal_State.calls _ _ ([] : List (S41)) _ _ y160 t163 t164 _ ?side1 ?side2 ?side3 ?side4 A1.out).mono ?_); (case side1 => exact Kd.C_nil _ _); (case side2 => exact Nat.le_refl _); (case side3 => repeat (first | exact (Kd.R_reads' HO162.out).2.2 | (with_reducible refine Kd.C_alloc ?_ _) | (with_reducible refine Kd.C_drewN ?_ _) | (with_reducible refine Kd.C_drew ?_))); (case side4 => exact (Kd.R_reads' HO162.out).2.1); rintro e w24 ⟨v165, rfl, ho0, hb⟩; refine ⟨_, rfl, ?_⟩; have n0_ := Aside0.mk (Kd.R_below (by (with_reducible repeat (first | apply Kd.R_alloc | apply Kd.R_drewN | apply Kd.R_drew)); exact HO162.out) hb); have n1_ := Aside0.mk (Kd.R_lower ho0 (below_size (by repeat (first | (with_reducible first | exact HB.out | apply below_alloc | apply pw_below_drewN | apply below_drew1) | exact HB.out)))); have n2_ := Aside0.mk (below_step (by repeat (first | (with_reducible first | exact HB.out | apply below_alloc | apply pw_below_drewN | apply below_drew1) | exact HB.out)) hb); clear HO162; clear HB; have HO162 := n0_; have HO166 := n1_; have HB := n2_; clear n0_ n1_ n2_; (try clear hb); (try clear hb2); (try clear hk); (try clear hi); (try clear ho0)))
    go_ret
    exact ⟨by first | rfl | (simp [errW_none, errW_some] <;> rfl) | (simp [*, errW_none, errW_some] <;> rfl), by repeat (first | (with_reducible first | exact HB.out | apply below_alloc | apply pw_below_drewN | apply below_drew1) | exact HB.out)⟩

end Go.Proofs.Yteblpjnkinghoaa.J
/- The reader's walks: must, bytes, number. -/
set_option linter.unusedVariables false
set_option linter.unusedSimpArgs false
namespace Go.Proofs.Yteblpjnkinghoaa.J
open Go.RowKit Go.Proofs.YteblpjnkinghoaaW.PrintWords Go.Proofs.YteblpjnkinghoaaW.PrintLast Go.Proofs.YteblpjnkinghoaaW.PrintMore
/-- Worlds alike but for some blocks and for new ones. -/
structure But (S : Nat → Prop) (w w' : World) : Prop where
  os : w'.os = w.os
  tape : w'.tape = w.tape
  output : w'.output = w.output
  size : w.heap.size ≤ w'.heap.size
  block : ∀ k, k < w.heap.size → ¬ S k → w'.heap[k]? = w.heap[k]?
theorem But.refl (S : Nat → Prop) (w : World) : But S w w := ⟨rfl, rfl, rfl, Nat.le_refl _, fun _ _ _ => rfl⟩
theorem But.trans {S : Nat → Prop} {a b c : World} (h : But S a b) (k : But S b c) : But S a c :=
  ⟨k.os.trans h.os, k.tape.trans h.tape, k.output.trans h.output, Nat.le_trans h.size k.size, fun j hj hs => (k.block j (Nat.lt_of_lt_of_le hj h.size) hs).trans (h.block j hj hs)⟩
theorem But.of_below {S : Nat → Prop} {w w' : World} (h : Below w.heap.size w w') : But S w w' := ⟨h.os, h.tape, h.output, h.size, fun k hk _ => h.block k hk⟩
theorem But.drew {S : Nat → Prop} {a w : World} (h : But S a w) : But S a w.drew := ⟨h.os, h.tape, h.output, h.size, h.block⟩
theorem But.set {S : Nat → Prop} {a w : World} (h : But S a w) {p : Addr} (hp : S p.block) (v : Value) : But S a (w.setCell p v) := by
  refine ⟨?_, ?_, ?_, ?_, ?_⟩
  · simpa [World.setCell] using h.os
  · simpa [World.setCell] using h.tape
  · simpa [World.setCell] using h.output
  · simpa [World.setCell] using h.size
  · intro k hk hs
    rw [Below.heap_setCell w p v k (fun e => hs (e ▸ hp))]
    exact h.block k hk hs
theorem But.cell {S : Nat → Prop} {w w' : World} (h : But S w w') {p : Addr} (hp : p.block < w.heap.size) (hs : ¬ S p.block) : w'.cell? p = w.cell? p := World.cell?_of_block (w := w) (h.block p.block hp hs)
theorem But.frozen {S : Nat → Prop} {w w' : World} (h : But S w w') {p : Addr} (hp : p.block < w.heap.size) (hs : ¬ S p.block) : w'.frozen? p = w.frozen? p := World.frozen?_of_block (w := w) (h.block p.block hp hs)
theorem But.below {S : Nat → Prop} {B : Nat} {w w' : World} (h : But S w w') (hB : B ≤ w.heap.size) (hS : ∀ k, S k → B ≤ k) : Below B w w' :=
  ⟨h.os, h.tape, h.output, h.size, fun k hk => h.block k (Nat.lt_of_lt_of_le hk hB) (fun hs => by have := hS k hs; omega)⟩
theorem But.mono {S T : Nat → Prop} {w w' : World} (h : But S w w') (hST : ∀ k, k < w.heap.size → S k → T k) : But T w w' :=
  ⟨h.os, h.tape, h.output, h.size, fun k hk hs => h.block k hk (fun h' => hs (hST k hk h'))⟩

/-- The reader in block R: bytes and place. -/
structure Rd (R : Nat) (s : ByteArray) (i : Int) (w : World) : Prop where
  str : w.cell? ⟨R, 0, none⟩ = some (.string s)
  pos : w.cell? ⟨R, 1, none⟩ = some (.int .i64 i)
  fz : w.frozen? ⟨R, 1, none⟩ = false
theorem cell_lt {w : World} {p : Addr} {v : Value} (h : w.cell? p = some v) : p.block < w.heap.size := by
  refine Nat.lt_of_not_le fun hn => ?_
  simp [World.cell?, Array.getElem?_eq_none hn] at h
theorem Rd.lt {R : Nat} {s : ByteArray} {i : Int} {w : World} (h : Rd R s i w) : R < w.heap.size := cell_lt h.str
theorem Rd.past {R : Nat} {s : ByteArray} {i : Int} {w w' : World} (h : Rd R s i w) (hb : Below w.heap.size w w') : Rd R s i w' :=
  ⟨(hb.cell (p := ⟨R, 0, none⟩) h.lt).trans h.str, (hb.cell (p := ⟨R, 1, none⟩) h.lt).trans h.pos, (hb.frozen (p := ⟨R, 1, none⟩) h.lt).trans h.fz⟩

/-- What a panic of one's own ends a call with. -/
abbrev Dead (t : TypeId) : Ending := .panicked [{ v := .iface t (.agg #[]), recovered := false }]

theorem must_ok (w : World) : Calls Try.prog 91 #[.bool true] w fun e w' => e = .returned (.tuple #[]) ∧ w' = w := by
  go_enter Try.func91, Try.ntmps91
  go_wp2
  go_end0
  exact ⟨rfl, rfl⟩
theorem must_no (w : World) : Calls Try.prog 91 #[.bool false] w fun e w' => e = Dead 120 ∧ w' = w := by
  go_enter Try.func91, Try.ntmps91
  go_wp2
  exact ⟨rfl, rfl, rfl⟩
theorem Rd.set {R : Nat} {s : ByteArray} {i : Int} {w : World} (h : Rd R s i w) (j : Int) : Rd R s j (w.setCell ⟨R, 1, none⟩ (.int .i64 j)) := by
  refine ⟨?_, ?_, ?_⟩
  · exact (World.cell?_setCell_other _ _ _ _ (by simp)).trans h.str
  · exact World.cell?_setCell_same _ _ _ h.pos
  · rw [World.frozen?_setCell]
    exact h.fz
theorem bytes_ok (R : Nat) (s : ByteArray) (i n : Int) (w : World) (h : Rd R s i w) (hi : 0 ≤ i) (hn : 0 ≤ n) (hs : i + n ≤ (s.size : Int)) (hb : (s.size : Int) ≤ 1000000) :
    Calls Try.prog 93 #[.pointer (some ⟨R, 0, none⟩), .int .i64 n] w fun e w' => e = .returned (.string (s.extract i.toNat (i + n).toNat)) ∧ Rd R s (i + n) w' ∧ But (· = R) w w' := by
  have hstr := h.str
  have hpos := h.pos
  have hq1 := fun p : Past w => Past.cell hstr p
  have hq2 := fun p : Past w => Past.cell hpos p
  have hw : wrap64 (i + n) = i + n := by unfold wrap64; omega
  have hd : decide ((s.size : Int) < i + n) = false := decide_eq_false (by omega)
  go_enter Try.func93, Try.ntmps93
  go_wp2
  refine wp_region_past (by kernel_rfl) (by kernel_rfl) ?_
  repeat (go_big_quiet_step (fail))
  refine wpQuiet_nil ?_
  rintro _ ⟨p, rfl⟩
  have hb1 := p.h
  have h1 := h.past hb1
  generalize p.W = w1 at hb1 h1 ⊢
  clear hstr hpos hq1 hq2
  have hstr := h1.str
  have hpos := h1.pos
  have hfz := h1.fz
  go_wp2
  have h2 := h1.set (i + n)
  have hb2 : But (· = R) w (w1.setCell ⟨R, 1, none⟩ (.int .i64 (i + n))) := (But.of_below hb1).set (S := (· = R)) (p := ⟨R, 1, none⟩) rfl _
  generalize w1.setCell ⟨R, 1, none⟩ (.int .i64 (i + n)) = w2 at h2 hb2 ⊢
  clear hstr hpos hfz
  have hq1 := fun p : Past w2 => Past.cell h2.str p
  have hq2 := fun p : Past w2 => Past.cell h2.pos p
  have e1 : i + n - n = i := by omega
  have hw2 : wrap64 i = i := by unfold wrap64; omega
  refine wp_region_past (by kernel_rfl) (by kernel_rfl) ?_
  have hsl : ∀ p : Past w2, (Instr.slice 9 (.string s) (some (.int .i64 i)) (some (.int .i64 (i + n))) none).run Try.prog p.W = .ok (.string (s.extract i.toNat (i + n).toNat)) p.W := fun p => by
    rw [run_slice_string_if _ _ _ _ _ _ _ Try.underlying9, if_pos ⟨by omega, hs⟩, if_pos ⟨hi, by omega⟩]
  repeat (go_big_quiet_step (fail))
  refine wpQuiet_nil ?_
  rintro _ ⟨p, rfl⟩
  have hb3 := p.h
  have h3 := h2.past hb3
  generalize p.W = w3 at hb3 h3 ⊢
  go_wp2
  go_ret
  exact ⟨rfl, h3, hb2.trans (But.of_below hb3)⟩
theorem bytes_torn (R : Nat) (s : ByteArray) (i n : Int) (w : World) (h : Rd R s i w) (hi : 0 ≤ i) (hn : 0 ≤ n) (hs : (s.size : Int) < i + n) (hb : i ≤ 1000000) (hc : n ≤ 1000000) :
    Calls Try.prog 93 #[.pointer (some ⟨R, 0, none⟩), .int .i64 n] w fun e w' => e = Dead 119 ∧ Rd R s i w' ∧ But (· = R) w w' := by
  have hstr := h.str
  have hpos := h.pos
  have hq1 := fun p : Past w => Past.cell hstr p
  have hq2 := fun p : Past w => Past.cell hpos p
  have hw : wrap64 (i + n) = i + n := by unfold wrap64; omega
  have hd : decide ((s.size : Int) < i + n) = true := decide_eq_true hs
  go_enter Try.func93, Try.ntmps93
  go_wp2
  refine wp_region_past (by kernel_rfl) (by kernel_rfl) ?_
  repeat (go_big_quiet_step (fail))
  refine wpQuiet_nil ?_
  rintro _ ⟨p, rfl⟩
  have hb1 := p.h
  have h1 := h.past hb1
  generalize p.W = w1 at hb1 h1 ⊢
  go_wp2
  exact ⟨rfl, rfl, h1, But.of_below hb1⟩
theorem number_torn (R : Nat) (s : ByteArray) (i : Int) (w : World) (h : Rd R s i w) (hi : 0 ≤ i) (hs : (s.size : Int) ≤ i) (hb : i ≤ 1000000) :
    Calls Try.prog 92 #[.pointer (some ⟨R, 0, none⟩), .int .i64 1] w fun e w' => e = Dead 119 ∧ Rd R s i w' ∧ But (· = R) w w' := by
  go_enter Try.func92, Try.ntmps92
  go_wp2_with (go_at_call 93; refine (bytes_torn R s i 1 _ h hi (by omega) (by omega) hb (by omega)).mono ?_; rintro e w2 ⟨rfl, h2, hb2⟩)
  exact ⟨rfl, rfl, h2, hb2⟩
theorem one_byte (s : ByteArray) (i : Int) (hi : 0 ≤ i) (hs : i < (s.size : Int)) : (s.extract i.toNat (i + 1).toNat).size = 1 := by
  rw [ByteArray.size_extract]; omega
/-- A byte of a string, and the same among its data. -/
theorem bt_data (s : ByteArray) (k : Nat) (hk : k < s.size) : ((s.data.toList.getD k 0).toNat : Int) = bt s (k : Int) := by
  rw [← bt_at s (k : Int) (by simpa using hk)]
  have hk' : k < s.data.size := hk
  simp only [List.getD_eq_getElem?_getD, Array.getElem?_toList, Array.getElem?_eq_getElem hk', Option.getD_some, Int.toNat_natCast]
  rfl
theorem bt_extract (s : ByteArray) (a b k : Nat) (hk : a + k < b) (hb : b ≤ s.size) : bt (s.extract a b) (k : Int) = bt s ((a + k : Nat) : Int) := by
  have h1 : k < (s.extract a b).size := by rw [ByteArray.size_extract]; omega
  rw [← bt_at _ (k : Int) (by simpa using h1), ← bt_at s ((a + k : Nat) : Int) (by simp; omega)]
  simp only [ByteArray.getElem_extract, Int.toNat_natCast]
theorem wraps_i64 (n : Int) (h₀ : 0 ≤ n) (h₁ : n < 2 ^ 31) : IntKind.i64.wrap n = n := by rw [IntKind.wrap_i64]; omega
theorem i64_or8 {x y : Int} (hx₀ : 0 ≤ x) (hx : x % 256 = 0) (hx₁ : x < 2147483648) (h₀ : 0 ≤ y) (h₁ : y < 256) : Go.bits .or .i64 x y = x + y :=
  bits_join .i64 31 (by decide) wraps_i64 8 x y hx₀ hx hx₁ h₀ h₁ (by omega)
set_option maxRecDepth 100000 in
theorem number_ok (R : Nat) (s : ByteArray) (i : Int) (w : World) (h : Rd R s i w) (hi : 0 ≤ i) (hs : i < (s.size : Int)) (hb : (s.size : Int) ≤ 1000000) :
    Calls Try.prog 92 #[.pointer (some ⟨R, 0, none⟩), .int .i64 1] w fun e w' => e = .returned (.int .i64 (bt s i)) ∧ Rd R s (i + 1) w' ∧ But (· = R) w w' := by
  have hcv := fun (W : World) (t : ByteArray) => Lib.run_convert_string_bytes (P := Try.prog) W 9 53 5 t Try.underlying9 Try.underlying53 Try.underlying5
  have hsz := one_byte s i hi hs
  have hcell : ∀ W : World, (Lib.bytesWorld W 5 (s.extract i.toNat (i + 1).toNat)).cell? ⟨W.heap.size, 0, none⟩ = some (.int .u8 (bt s i)) := by
    intro W
    rw [Lib.bytesWorld_cell W 5 _ 0 (by omega), bt_data _ 0 (by omega), bt_extract s i.toNat (i + 1).toNat 0 (by omega) (by omega)]
    congr 3; omega
  have hrg := bt_range s i
  have hor : Go.bits .or .i64 0 (bt s i) = bt s i := by rw [i64_or8 (by omega) (by omega) (by omega) hrg.1 (by omega)]; omega
  go_enter Try.func92, Try.ntmps92
  go_wp2_with (go_at_call 93; refine (bytes_ok R s i 1 _ h hi (by omega) (by omega) hb).mono ?_; rintro e w2 ⟨rfl, h2, hb2⟩; generalize s.extract i.toNat (i + 1).toNat = t at hsz hcell ⊢; have hcell := hcell w2; have hold := fun a ha => Lib.bytesWorld_old w2 5 t a ha)
  have h3 : Below w2.heap.size w2 (Lib.bytesWorld w2 5 t) := ⟨rfl, rfl, rfl, by rw [Lib.bytesWorld_size]; omega, fun k hk => Lib.bytesWorld_at_old w2 5 t k hk⟩
  generalize Lib.bytesWorld w2 5 t = w3 at hcell h3 ⊢
  refine wp_loop_rounds 2 ?_
  rw [rounds_succ]
  go_wp2
  rw [rounds_succ]
  go_wp2
  go_ret
  have h4 : Below w2.heap.size w2 w3 := h3
  exact ⟨rfl, h2.past h3, hb2.trans (But.of_below h3)⟩
end Go.Proofs.Yteblpjnkinghoaa.J
/- The program's eight and Sum. -/
set_option linter.unusedVariables false
set_option linter.unusedSimpArgs false
namespace Go.Proofs.Yteblpjnkinghoaa.J
open Go.RowKit Go.Proofs.YteblpjnkinghoaaW.PrintWords Go.Proofs.YteblpjnkinghoaaW.PrintLast Go.Proofs.YteblpjnkinghoaaW.PrintMore
def eightL (n : Int) : List Int := [n / 72057594037927936 % 256, n / 281474976710656 % 256, n / 1099511627776 % 256, n / 4294967296 % 256, n / 16777216 % 256, n / 65536 % 256, n / 256 % 256, n % 256]
def eightS (n : Int) : ByteArray := strOfNums (eightL n)
set_option maxRecDepth 100000 in
theorem eight_calls (n : Int) (w : World) : Calls Try.prog 62 #[.int .u64 n] w fun e w' => e = .returned (.string (eightS n)) ∧ Below w.heap.size w w' := by
  have hcv : (convert 53 9 (.slice (some ⟨w.heap.size, 0, none⟩) 8 8)).run Try.prog (w.alloc (.cells #[.int .u8 (n / 72057594037927936 % 256), .int .u8 (n / 281474976710656 % 256), .int .u8 (n / 1099511627776 % 256), .int .u8 (n / 4294967296 % 256), .int .u8 (n / 16777216 % 256), .int .u8 (n / 65536 % 256), .int .u8 (n / 256 % 256), .int .u8 (n % 256)] 110)) = .ok (.string (eightS n)) (w.alloc (.cells #[.int .u8 (n / 72057594037927936 % 256), .int .u8 (n / 281474976710656 % 256), .int .u8 (n / 1099511627776 % 256), .int .u8 (n / 4294967296 % 256), .int .u8 (n / 16777216 % 256), .int .u8 (n / 65536 % 256), .int .u8 (n / 256 % 256), .int .u8 (n % 256)] 110)) := by
    refine run_convert_bytes_arg _ 53 5 Try.underlying53 Try.underlying5 w.heap.size 0 8 8 (eightL n) rfl (fun i hi => ?_) 9 Try.underlying9
    rw [World.cell?, heap_alloc_new]
    match i, hi with
    | 0, _ => rfl
    | 1, _ => rfl
    | 2, _ => rfl
    | 3, _ => rfl
    | 4, _ => rfl
    | 5, _ => rfl
    | 6, _ => rfl
    | 7, _ => rfl
  go_enter Try.func62, Try.ntmps62
  go_wp2
  refine wp_loop_rounds 9 ?_
  rw [rounds_succ]
  go_wp2
  rw [rounds_succ]
  go_wp2
  rw [rounds_succ]
  go_wp2
  rw [rounds_succ]
  go_wp2
  rw [rounds_succ]
  go_wp2
  rw [rounds_succ]
  go_wp2
  rw [rounds_succ]
  go_wp2
  rw [rounds_succ]
  go_wp2
  rw [rounds_succ]
  go_wp2
  go_ret
  exact ⟨rfl, (Below.refl _ _).alloc (Nat.le_refl _) _⟩
def sumStep (h b : Int) : Int := IntKind.u64.wrap (Go.bits .xor .u64 h (IntKind.u64.wrap b) * 1099511628211)
/-- The sum over the last k bytes. -/
def sumGo (t : ByteArray) : Nat → Int → Int
  | 0, h => h
  | k + 1, h => sumGo t k (sumStep h (bt t ((t.size : Int) - (k + 1 : Nat))))
def sumF (last : Int) (s : ByteArray) : Int := sumGo (eightS last ++ s) (eightS last ++ s).size 14695981039346656037
theorem eightS_size (n : Int) : (eightS n).size = 8 := by rw [eightS, strOfNums_size]; rfl
set_option maxRecDepth 100000 in
theorem Sum_calls (last : Int) (s : ByteArray) (hs : s.size ≤ 1000000) (w : World) : Calls Try.prog 30 #[.int .u64 last, .string s] w fun e w' => e = .returned (.int .u64 (sumF last s)) ∧ Below w.heap.size w w' := by
  have hcv := fun (W : World) (t : ByteArray) => Lib.run_convert_string_bytes (P := Try.prog) W 9 53 5 t Try.underlying9 Try.underlying53 Try.underlying5
  obtain ⟨r, hr⟩ : ∃ r, sumF last s = r := ⟨_, rfl⟩
  rw [hr]
  unfold sumF at hr
  have hsz : (eightS last ++ s).size ≤ 1000008 := by rw [ByteArray.size_append, eightS_size]; omega
  have hcell : ∀ (W : World) (j : Nat), j < (eightS last ++ s).size → (Lib.bytesWorld W 5 (eightS last ++ s)).cell? ⟨W.heap.size, j, none⟩ = some (.int .u8 (bt (eightS last ++ s) j)) := by
    intro W j hj
    rw [Lib.bytesWorld_cell W 5 _ j hj, bt_data _ j hj]
  have hno : (9223372036854775807 < (eightS last).size + s.size) = False := eq_false (by rw [eightS_size]; omega)
  have happ : (eightS last ++ s).size = (eightS last).size + s.size := ByteArray.size_append
  go_enter Try.func30, Try.ntmps30
  go_wp2_with (go_at_call 62; refine (eight_calls last _).mono ?_; rintro e w2 ⟨rfl, hb2⟩)
  have h3 : Below w.heap.size w (Lib.bytesWorld w2 5 (eightS last ++ s)) := below_step hb2 ⟨rfl, rfl, rfl, by rw [Lib.bytesWorld_size]; omega, fun k hk => Lib.bytesWorld_at_old w2 5 _ k hk⟩
  have hcell := hcell w2
  clear hcv hno hb2
  generalize w2.heap.size = g, Lib.bytesWorld w2 5 (eightS last ++ s) = w3 at hcell h3 ⊢
  generalize grownCap w2 ((eightS last).size + s.size) 0 5 = cp
  clear w2
  have hN : (eightS last).size + s.size = (eightS last ++ s).size := happ.symm
  have hNi : ((eightS last).size : Int) + (s.size : Int) = ((eightS last ++ s).size : Int) := by rw [happ]; push_cast; rfl
  rw [hN, hNi]
  clear hN hNi happ
  generalize eightS last ++ s = t at hr hsz hcell ⊢
  go_loopg [5, 14] (t.size + 1) (fun kq v5 v14 w' => ∃ (h : Int) (j : Nat), v5 = .int .u64 h ∧ v14 = .int .i64 (j : Int) ∧ j ≤ t.size ∧ kq = t.size - j + 1 ∧ sumGo t (t.size - j) h = r ∧ w' = w3)
  case atStart => exact ⟨14695981039346656037, 0, rfl, rfl, Nat.zero_le _, rfl, hr, rfl⟩
  case round =>
    obtain ⟨h, j, rfl, rfl, hj, rfl, hg, rfl⟩ := hrel
    by_cases hlt : j < t.size
    · have hd : decide ((j : Int) < (t.size : Int)) = true := decide_eq_true (by omega)
      have hc := hcell j hlt
      have hb0 : ((j : Int) < 0) = False := eq_false (by omega)
      have hb1 : ((t.size : Int) ≤ (j : Int)) = False := eq_false (by omega)
      have hbr := bt_range t j
      have hst : t.size - j = (t.size - (j + 1)) + 1 := by omega
      rw [hst, sumGo, show ((t.size : Int) - ((t.size - (j + 1) + 1 : Nat) : Int)) = (j : Int) by omega] at hg
      have hu : IntKind.u64.wrap (bt t j) = bt t j := by simp [IntKind.wrap, IntKind.bits, IntKind.signed]; omega
      unfold sumStep at hg
      rw [hu] at hg
      go_wp2
      go_roundg (t.size - (j + 1) + 1)
      case measure => omega
      case rel => exact ⟨_, j + 1, rfl, by push_cast; rfl, by omega, rfl, hg, rfl⟩
    · have hd : decide ((j : Int) < (t.size : Int)) = false := decide_eq_false (by omega)
      go_wp2
      go_ret
      rw [show t.size - j = 0 by omega, sumGo] at hg
      exact ⟨by rw [hg]; rfl, h3⟩
end Go.Proofs.Yteblpjnkinghoaa.J
/- The program's note: what stands at a place of bytes. -/
set_option linter.unusedVariables false
set_option linter.unusedSimpArgs false
namespace Go.Proofs.Yteblpjnkinghoaa.J
open Go.RowKit Go.Proofs.YteblpjnkinghoaaW.PrintWords Go.Proofs.YteblpjnkinghoaaW.PrintLast Go.Proofs.YteblpjnkinghoaaW.PrintMore
/-- How the reading of a note ends: too early, at something wrong, or with a note, its sum and where it ends. -/
inductive Out where
  | torn
  | wrong
  | ok (n : S39) (sum : Int) (fin : Int)
/-- The sum's bytes: m of them are still to come, of e's, from place i on. -/
def tailOut (s e : ByteArray) (n : S39) (sum : Int) (i : Int) : Nat → Out
  | 0 => .ok n sum (i + 8)
  | m + 1 => if (s.size : Int) ≤ i + (8 - (m + 1 : Nat)) then .torn else if bt s (i + (8 - (m + 1 : Nat))) = bt e (8 - (m + 1 : Nat)) then tailOut s e n sum i m else .wrong
def peek8 (s : ByteArray) (i last kd u k has t : Int) : Out :=
  tailOut s (eightS (sumF last (s.extract i.toNat (i + 8 + k + t).toNat))) ⟨kd, u, s.extract (i + 5).toNat (i + 5 + k).toNat, decide (has = 1), s.extract (i + 8 + k).toNat (i + 8 + k + t).toNat⟩
    (sumF last (s.extract i.toNat (i + 8 + k + t).toNat)) (i + 8 + k + t) 8
def peek7 (s : ByteArray) (i last kd u k has most t : Int) : Out :=
  if t ≤ most ∧ (kd = 6 → 0 < t) then (if i + 8 + k + t ≤ (s.size : Int) then peek8 s i last kd u k has t else .torn) else .wrong
def peek6 (s : ByteArray) (i last kd u k has most : Int) : Out :=
  if i + 6 + k < (s.size : Int) then (if bt s (i + 6 + k) ≤ most / 256 then (if i + 7 + k < (s.size : Int) then peek7 s i last kd u k has most (bt s (i + 6 + k) * 256 + bt s (i + 7 + k)) else .torn) else .wrong) else .torn
def peek5 (s : ByteArray) (i last kd u k has : Int) : Out :=
  if has = 0 ∨ has = 1 ∧ (kd = 2 ∨ kd = 3) then peek6 s i last kd u k has (if kd = 6 then 40 else if has = 1 then 4000 else 0) else .wrong
def peek4 (s : ByteArray) (i last kd u k : Int) : Out :=
  if k ≤ 40 ∧ ((kd = 2 ∨ kd = 3) ↔ 0 < k) then (if i + 5 + k < (s.size : Int) then peek5 s i last kd u k (bt s (i + 5 + k)) else .torn) else .wrong
def peek3 (s : ByteArray) (i last kd u : Int) : Out :=
  if u ≤ 1000 ∧ (kd = 6 ↔ u = 0) then (if i + 4 < (s.size : Int) then peek4 s i last kd u (bt s (i + 4)) else .torn) else .wrong
def peek2 (s : ByteArray) (i last kd : Int) : Out :=
  if i + 2 < (s.size : Int) then (if bt s (i + 2) ≤ 3 ∧ (kd = 6 → bt s (i + 2) = 0) then (if i + 3 < (s.size : Int) then peek3 s i last kd (bt s (i + 2) * 256 + bt s (i + 3)) else .torn) else .wrong) else .torn
def peek1 (s : ByteArray) (i last : Int) : Out :=
  if i + 1 < (s.size : Int) then (if 1 ≤ bt s (i + 1) ∧ bt s (i + 1) ≤ 7 then peek2 s i last (bt s (i + 1)) else .wrong) else .torn
def peek (s : ByteArray) (i last : Int) : Out :=
  if i < (s.size : Int) then (if bt s i = 74 then peek1 s i last else .wrong) else .torn
def NoteEnd (R : Nat) (s : ByteArray) (w : World) : Out → Ending → World → Prop
  | .torn, e, w' => e = Dead 119 ∧ (∃ p, Rd R s p w') ∧ But (· = R) w w'
  | .wrong, e, w' => e = Dead 120 ∧ (∃ p, Rd R s p w') ∧ But (· = R) w w'
  | .ok n sum fin, e, w' => e = .returned (.tuple #[.agg #[.int .i64 n.f0, .int .i64 n.f1, .string n.f2, .bool n.f3, .string n.f4], .int .u64 sum]) ∧ Rd R s fin w' ∧ But (· = R) w w'

/-- A note in block N. -/
structure Nt (N : Nat) (a b : Int) (c : ByteArray) (d : Bool) (e : ByteArray) (w : World) : Prop where
  c0 : w.cell? ⟨N, 0, none⟩ = some (.int .i64 a)
  c1 : w.cell? ⟨N, 1, none⟩ = some (.int .i64 b)
  c2 : w.cell? ⟨N, 2, none⟩ = some (.string c)
  c3 : w.cell? ⟨N, 3, none⟩ = some (.bool d)
  c4 : w.cell? ⟨N, 4, none⟩ = some (.string e)
  z0 : w.frozen? ⟨N, 0, none⟩ = false
  z1 : w.frozen? ⟨N, 1, none⟩ = false
  z2 : w.frozen? ⟨N, 2, none⟩ = false
  z3 : w.frozen? ⟨N, 3, none⟩ = false
  z4 : w.frozen? ⟨N, 4, none⟩ = false
theorem Nt.past {N : Nat} {a b : Int} {c : ByteArray} {d : Bool} {e : ByteArray} {S : Nat → Prop} {w w' : World} (h : Nt N a b c d e w) (hb : But S w w') (hn : ¬ S N) : Nt N a b c d e w' :=
  have hl : N < w.heap.size := cell_lt h.c0
  ⟨(hb.cell (p := ⟨N, 0, none⟩) hl hn).trans h.c0, (hb.cell (p := ⟨N, 1, none⟩) hl hn).trans h.c1, (hb.cell (p := ⟨N, 2, none⟩) hl hn).trans h.c2, (hb.cell (p := ⟨N, 3, none⟩) hl hn).trans h.c3, (hb.cell (p := ⟨N, 4, none⟩) hl hn).trans h.c4,
   (hb.frozen (p := ⟨N, 0, none⟩) hl hn).trans h.z0, (hb.frozen (p := ⟨N, 1, none⟩) hl hn).trans h.z1, (hb.frozen (p := ⟨N, 2, none⟩) hl hn).trans h.z2, (hb.frozen (p := ⟨N, 3, none⟩) hl hn).trans h.z3, (hb.frozen (p := ⟨N, 4, none⟩) hl hn).trans h.z4⟩
theorem Nt.new {N : Nat} {a b : Int} {c : ByteArray} {d : Bool} {e : ByteArray} {w : World} (h : w.heap[N]? = some (.cells #[.int .i64 a, .int .i64 b, .string c, .bool d, .string e] 39 (0, 0))) : Nt N a b c d e w :=
  ⟨(blk_cell h 0).trans rfl, (blk_cell h 1).trans rfl, (blk_cell h 2).trans rfl, (blk_cell h 3).trans rfl, (blk_cell h 4).trans rfl, blk_frozen h 0, blk_frozen h 1, blk_frozen h 2, blk_frozen h 3, blk_frozen h 4⟩
theorem Nt.s1 {N : Nat} {a b : Int} {c : ByteArray} {d : Bool} {e : ByteArray} {w : World} (h : Nt N a b c d e w) (x : Int) : Nt N a x c d e (w.setCell ⟨N, 1, none⟩ (.int .i64 x)) :=
  ⟨(World.cell?_setCell_other _ _ _ _ (by simp)).trans h.c0, World.cell?_setCell_same _ _ _ h.c1, (World.cell?_setCell_other _ _ _ _ (by simp)).trans h.c2, (World.cell?_setCell_other _ _ _ _ (by simp)).trans h.c3, (World.cell?_setCell_other _ _ _ _ (by simp)).trans h.c4,
   (World.frozen?_setCell _ _ _ _).trans h.z0, (World.frozen?_setCell _ _ _ _).trans h.z1, (World.frozen?_setCell _ _ _ _).trans h.z2, (World.frozen?_setCell _ _ _ _).trans h.z3, (World.frozen?_setCell _ _ _ _).trans h.z4⟩
theorem Nt.s2 {N : Nat} {a b : Int} {c : ByteArray} {d : Bool} {e : ByteArray} {w : World} (h : Nt N a b c d e w) (x : ByteArray) : Nt N a b x d e (w.setCell ⟨N, 2, none⟩ (.string x)) :=
  ⟨(World.cell?_setCell_other _ _ _ _ (by simp)).trans h.c0, (World.cell?_setCell_other _ _ _ _ (by simp)).trans h.c1, World.cell?_setCell_same _ _ _ h.c2, (World.cell?_setCell_other _ _ _ _ (by simp)).trans h.c3, (World.cell?_setCell_other _ _ _ _ (by simp)).trans h.c4,
   (World.frozen?_setCell _ _ _ _).trans h.z0, (World.frozen?_setCell _ _ _ _).trans h.z1, (World.frozen?_setCell _ _ _ _).trans h.z2, (World.frozen?_setCell _ _ _ _).trans h.z3, (World.frozen?_setCell _ _ _ _).trans h.z4⟩
theorem Nt.s3 {N : Nat} {a b : Int} {c : ByteArray} {d : Bool} {e : ByteArray} {w : World} (h : Nt N a b c d e w) (x : Bool) : Nt N a b c x e (w.setCell ⟨N, 3, none⟩ (.bool x)) :=
  ⟨(World.cell?_setCell_other _ _ _ _ (by simp)).trans h.c0, (World.cell?_setCell_other _ _ _ _ (by simp)).trans h.c1, (World.cell?_setCell_other _ _ _ _ (by simp)).trans h.c2, World.cell?_setCell_same _ _ _ h.c3, (World.cell?_setCell_other _ _ _ _ (by simp)).trans h.c4,
   (World.frozen?_setCell _ _ _ _).trans h.z0, (World.frozen?_setCell _ _ _ _).trans h.z1, (World.frozen?_setCell _ _ _ _).trans h.z2, (World.frozen?_setCell _ _ _ _).trans h.z3, (World.frozen?_setCell _ _ _ _).trans h.z4⟩
theorem Nt.s4 {N : Nat} {a b : Int} {c : ByteArray} {d : Bool} {e : ByteArray} {w : World} (h : Nt N a b c d e w) (x : ByteArray) : Nt N a b c d x (w.setCell ⟨N, 4, none⟩ (.string x)) :=
  ⟨(World.cell?_setCell_other _ _ _ _ (by simp)).trans h.c0, (World.cell?_setCell_other _ _ _ _ (by simp)).trans h.c1, (World.cell?_setCell_other _ _ _ _ (by simp)).trans h.c2, (World.cell?_setCell_other _ _ _ _ (by simp)).trans h.c3, World.cell?_setCell_same _ _ _ h.c4,
   (World.frozen?_setCell _ _ _ _).trans h.z0, (World.frozen?_setCell _ _ _ _).trans h.z1, (World.frozen?_setCell _ _ _ _).trans h.z2, (World.frozen?_setCell _ _ _ _).trans h.z3, (World.frozen?_setCell _ _ _ _).trans h.z4⟩
abbrev nil39 : Obj := .cells #[.int .i64 0, .int .i64 0, .string ⟨#[]⟩, .bool false, .string ⟨#[]⟩] 39
theorem far_ne {p : Addr} {N k : Nat} (h : ¬ p.block = N) : p ≠ ⟨N, k, none⟩ := fun e => h (by rw [e])
theorem Rd.far {R : Nat} {s : ByteArray} {i : Int} {w : World} (h : Rd R s i w) {p : Addr} (hp : ¬ p.block = R) (v : Value) : Rd R s i (w.setCell p v) :=
  ⟨(World.cell?_setCell_other _ _ _ _ (far_ne hp)).trans h.str, (World.cell?_setCell_other _ _ _ _ (far_ne hp)).trans h.pos, (World.frozen?_setCell _ _ _ _).trans h.fz⟩
theorem Nt.far {N : Nat} {a b : Int} {c : ByteArray} {d : Bool} {e : ByteArray} {w : World} (h : Nt N a b c d e w) {p : Addr} (hp : ¬ p.block = N) (v : Value) : Nt N a b c d e (w.setCell p v) :=
  ⟨(World.cell?_setCell_other _ _ _ _ (far_ne hp)).trans h.c0, (World.cell?_setCell_other _ _ _ _ (far_ne hp)).trans h.c1, (World.cell?_setCell_other _ _ _ _ (far_ne hp)).trans h.c2, (World.cell?_setCell_other _ _ _ _ (far_ne hp)).trans h.c3, (World.cell?_setCell_other _ _ _ _ (far_ne hp)).trans h.c4,
   (World.frozen?_setCell _ _ _ _).trans h.z0, (World.frozen?_setCell _ _ _ _).trans h.z1, (World.frozen?_setCell _ _ _ _).trans h.z2, (World.frozen?_setCell _ _ _ _).trans h.z3, (World.frozen?_setCell _ _ _ _).trans h.z4⟩
theorem But.new {S : Nat → Prop} {a w : World} (h : But S a w) {p : Addr} (hp : a.heap.size ≤ p.block) (v : Value) : But S a (w.setCell p v) := by
  refine ⟨?_, ?_, ?_, ?_, ?_⟩
  · simpa [World.setCell] using h.os
  · simpa [World.setCell] using h.tape
  · simpa [World.setCell] using h.output
  · simpa [World.setCell] using h.size
  · intro k hk hs
    rw [Below.heap_setCell w p v k (by omega)]
    exact h.block k hk hs
structure Zt (Z : Nat) (w : World) : Prop where
  blk : w.heap[Z]? = some nil39
theorem Zt.past {Z : Nat} {S : Nat → Prop} {w w' : World} (h : Zt Z w) (hb : But S w w') (hn : ¬ S Z) : Zt Z w' := ⟨(hb.block Z (blk_lt h.blk) hn).trans h.blk⟩
theorem Zt.far {Z : Nat} {w : World} (h : Zt Z w) {p : Addr} (hp : ¬ p.block = Z) (v : Value) : Zt Z (w.setCell p v) := ⟨(Below.heap_setCell w p v Z (fun e => hp e.symm)).trans h.blk⟩
set_option maxHeartbeats 8000000 in
set_option maxRecDepth 100000 in
theorem note_calls (R : Nat) (s : ByteArray) (i last : Int) (w : World) (h : Rd R s i w) (hi : 0 ≤ i) (hb : (s.size : Int) ≤ 100000) (hi2 : i ≤ s.size) :
    Calls Try.prog 87 #[.pointer (some ⟨R, 0, none⟩), .int .u64 last] w (NoteEnd R s w (peek s i last)) := by
  obtain ⟨o, ho⟩ : ∃ o, peek s i last = o := ⟨_, rfl⟩
  rw [ho]
  have hB0 : Below w.heap.size w (w.alloc nil39) := (Below.refl _ _).alloc (Nat.le_refl _) _
  have h0 := h.past hB0
  have hZ : Zt w.heap.size (w.alloc nil39) := ⟨heap_alloc_new _ _⟩
  have hRZ : ¬ w.heap.size = R := by have := h.lt; omega
  have hpos := h0.pos
  have HB := But.of_below (S := (· = R)) hB0
  unfold peek at ho
  go_enter Try.func87, Try.ntmps87
  go_upto_region 2 with (fail)
  generalize hz : w.heap.size = Z at hZ hRZ ⊢
  generalize hw1 : w.alloc nil39 = w1 at h0 hZ HB hpos ⊢
  clear hB0 hw1 hpos
  -- the mark
  by_cases c1 : i < (s.size : Int)
  rotate_left
  · rw [if_neg c1] at ho
    subst ho
    go_wp2_with (go_at_call 92; refine (number_torn R s i _ h0 hi (by omega) (by omega)).mono ?_; rintro e w2 ⟨rfl, h2, hb2⟩)
    exact ⟨rfl, rfl, ⟨_, h2⟩, HB.trans hb2⟩
  rw [if_pos c1] at ho
  by_cases c2 : bt s i = 74
  rotate_left
  · rw [if_neg c2] at ho
    subst ho
    have d2 : (bt s i == 74) = false := by simp [c2]
    go_wp2_with (first | (go_at_call 92; refine (number_ok R s i _ h0 hi c1 (by omega)).mono ?_; rintro e w1 ⟨rfl, h1, hB1⟩) | (go_at_call 91; (try rw [d2]); refine (must_no _).mono ?_; rintro e w2 ⟨rfl, rfl⟩))
    exact ⟨rfl, rfl, ⟨_, h1⟩, HB.trans hB1⟩
  rw [if_pos c2] at ho
  go_upto_region 3 with (first | (go_at_call 92; refine (number_ok R s i _ h0 hi c1 (by omega)).mono ?_; rintro e w1 ⟨rfl, h1, hB1⟩; rw [c2]) | (go_at_call 91; refine (must_ok _).mono ?_; rintro e w2 ⟨rfl, rfl⟩))
  have hZ2 := hZ.past hB1 hRZ
  have HB2 := HB.trans hB1
  clear hZ HB hB1 h0
  -- the kind
  unfold peek1 at ho
  obtain ⟨kd, hkd⟩ : ∃ kd, bt s (i + 1) = kd := ⟨_, rfl⟩
  have hkr := bt_range s (i + 1)
  rw [hkd] at ho hkr
  by_cases c3 : i + 1 < (s.size : Int)
  rotate_left
  · rw [if_neg c3] at ho
    subst ho
    go_wp2_with (go_at_call 92; refine (number_torn R s (i + 1) _ h1 (by omega) (by omega) (by omega)).mono ?_; rintro e w2 ⟨rfl, h2, hb2⟩)
    exact ⟨rfl, rfl, ⟨_, h2⟩, HB2.trans hb2⟩
  rw [if_pos c3] at ho
  go_upto_region 4 with (go_at_call 92; refine (number_ok R s (i + 1) _ h1 (by omega) c3 (by omega)).mono ?_; rintro e w3 ⟨rfl, h3, hB3⟩; rw [hkd])
  have hN : Nt w3.heap.size kd 0 ⟨#[]⟩ false ⟨#[]⟩ (w3.alloc (.cells #[.int .i64 kd, .int .i64 0, .string ⟨#[]⟩, .bool false, .string ⟨#[]⟩] 39)) := Nt.new (heap_alloc_new _ _)
  have hb4 := (Below.refl w3.heap.size w3).alloc (Nat.le_refl _) (.cells #[.int .i64 kd, .int .i64 0, .string ⟨#[]⟩, .bool false, .string ⟨#[]⟩] 39)
  have h4 := h3.past hb4
  rw [show i + 1 + 1 = i + 2 by omega] at h4
  have HB := (HB2.trans hB3).trans (But.of_below hb4)
  have hZ := (hZ2.past hB3 hRZ).past (But.of_below (S := (· = R)) hb4) hRZ
  have hRN : ¬ w3.heap.size = R := by have := h3.lt; omega
  have hNw : w.heap.size ≤ w3.heap.size := (HB2.trans hB3).size
  have hZN : ¬ Z = w3.heap.size := by have := blk_lt (hZ2.past hB3 hRZ).blk; omega
  generalize hn : w3.heap.size = N at hN hRN hZN hNw ⊢
  generalize w3.alloc (.cells #[.int .i64 kd, .int .i64 0, .string ⟨#[]⟩, .bool false, .string ⟨#[]⟩] 39) = w4 at h4 hN HB hZ ⊢
  clear hB3 hZ2 HB2 h3 hb4 h1 hn
  have hn0 := hN.c0
  by_cases c4 : 1 ≤ kd ∧ kd ≤ 7
  rotate_left
  · rw [if_neg c4] at ho
    subst ho
    by_cases c5 : 1 ≤ kd
    · have d4 : decide (1 ≤ kd) = true := decide_eq_true c5
      have d5 : decide (kd ≤ 7) = false := decide_eq_false (by omega)
      go_wp2_with (go_at_call 91; refine (must_no _).mono ?_; rintro e w5 ⟨rfl, rfl⟩)
      exact ⟨rfl, rfl, ⟨_, h4⟩, HB⟩
    · have d4 : decide (1 ≤ kd) = false := decide_eq_false c5
      go_wp2_with (go_at_call 91; refine (must_no _).mono ?_; rintro e w5 ⟨rfl, rfl⟩)
      exact ⟨rfl, rfl, ⟨_, h4⟩, HB⟩
  rw [if_pos c4] at ho
  have d4 : decide (1 ≤ kd) = true := decide_eq_true c4.1
  have d5 : decide (kd ≤ 7) = true := decide_eq_true c4.2
  go_upto_region 5 with (go_at_call 91; refine (must_ok _).mono ?_; rintro e w5 ⟨rfl, rfl⟩)
  -- pictured
  obtain ⟨P, hP⟩ : ∃ P : Bool, P = decide (kd = 2 ∨ kd = 3) := ⟨_, rfl⟩
  clear d4 d5
  go_cut [8] (fun v8 wc => v8 = .bool P ∧ wc = w5)
  case first =>
    by_cases c6 : kd = 2
    · have d6 : (kd == 2) = true := by simp [c6]
      go_wp2
      go_meet
      case rel => exact ⟨by simp [hP, c6], rfl⟩
    · have d6 : (kd == 2) = false := by simp [c6]
      go_wp2
      go_meet
      case rel => exact ⟨by simp [hP, c6]; rfl, rfl⟩
  replace hP := Aside0.mk hP
  obtain ⟨rfl, rfl⟩ := hcut
  -- the unit's high byte
  unfold peek2 at ho
  by_cases c7 : i + 2 < (s.size : Int)
  rotate_left
  · rw [if_neg c7] at ho
    subst ho
    go_wp2_with (go_at_call 92; refine (number_torn R s (i + 2) _ h4 (by omega) (by omega) (by omega)).mono ?_; rintro e w2 ⟨rfl, h2, hb2⟩)
    exact ⟨rfl, rfl, ⟨_, h2⟩, HB.trans hb2⟩
  rw [if_pos c7] at ho
  obtain ⟨hg, hhg⟩ : ∃ hg, bt s (i + 2) = hg := ⟨_, rfl⟩
  have hgr := bt_range s (i + 2)
  rw [hhg] at ho hgr
  go_upto_region 7 with (go_at_call 92; refine (number_ok R s (i + 2) _ h4 (by omega) c7 (by omega)).mono ?_; rintro e w6 ⟨rfl, h6, hB6⟩; rw [hhg])
  rw [show i + 2 + 1 = i + 3 by omega] at h6
  replace HB := HB.trans hB6
  replace hN := hN.past hB6 hRN
  replace hZ := hZ.past hB6 hRZ
  clear hB6 h4 hn0
  have hn0 := hN.c0
  by_cases c8 : hg ≤ 3 ∧ (kd = 6 → hg = 0)
  rotate_left
  · rw [if_neg c8] at ho
    subst ho
    by_cases c9 : hg ≤ 3
    · have d9 : decide (hg ≤ 3) = true := decide_eq_true c9
      have d10 : (kd != 6) = false := by have : kd = 6 := by omega
                                         simp [this]
      have d11 : (hg == 0) = false := by have : hg ≠ 0 := by omega
                                         simp [this]
      go_wp2_with (go_at_call 91; refine (must_no _).mono ?_; rintro e w7 ⟨rfl, rfl⟩)
      exact ⟨rfl, rfl, ⟨_, h6⟩, HB⟩
    · have d9 : decide (hg ≤ 3) = false := decide_eq_false c9
      go_wp2_with (go_at_call 91; refine (must_no _).mono ?_; rintro e w7 ⟨rfl, rfl⟩)
      exact ⟨rfl, rfl, ⟨_, h6⟩, HB⟩
  rw [if_pos c8] at ho
  have d9 : decide (hg ≤ 3) = true := decide_eq_true c8.1
  go_cut [8, 9] (fun v8 v9 wc => v8 = .bool P ∧ v9 = .int .i64 hg ∧ wc = w6)
  case first =>
    by_cases c10 : kd = 6
    · have d10 : (kd != 6) = false := by simp [c10]
      have d11 : (hg == 0) = true := by simp [c8.2 c10]
      go_wp2_with (go_at_call 91; refine (must_ok _).mono ?_; rintro e w7 ⟨rfl, rfl⟩)
      go_meet
      case rel => exact ⟨rfl, by simp [c8.2 c10], rfl⟩
    · have d10 : (kd != 6) = true := by simp [c10]
      go_wp2_with (go_at_call 91; refine (must_ok _).mono ?_; rintro e w7 ⟨rfl, rfl⟩)
      go_meet
      case rel => exact ⟨rfl, rfl, rfl⟩
  obtain ⟨rfl, rfl, rfl⟩ := hcut
  clear d9 hn0
  -- the unit's low byte
  by_cases c11 : i + 3 < (s.size : Int)
  rotate_left
  · rw [if_neg c11] at ho
    subst ho
    go_wp2_with (go_at_call 92; refine (number_torn R s (i + 3) _ h6 (by omega) (by omega) (by omega)).mono ?_; rintro e w2 ⟨rfl, h2, hb2⟩)
    exact ⟨rfl, rfl, ⟨_, h2⟩, HB.trans hb2⟩
  rw [if_pos c11] at ho
  obtain ⟨lo, hlo⟩ : ∃ lo, bt s (i + 3) = lo := ⟨_, rfl⟩
  have hlr := bt_range s (i + 3)
  rw [hlo] at ho hlr
  have hor : Go.bits .or .i64 (hg * 256) lo = hg * 256 + lo := i64_or8 (by omega) (by omega) (by omega) hlr.1 (by omega)
  go_upto_region 9 with (go_at_call 92; refine (number_ok R s (i + 3) _ h6 (by omega) c11 (by omega)).mono ?_; rintro e w7 ⟨rfl, h7, hB7⟩; rw [hlo]; have hN7 := hN.past hB7 hRN; have hn1 := hN7.c1; have hz1 := hN7.z1)
  rw [show i + 3 + 1 = i + 4 by omega] at h7
  have hNZ : ¬ N = Z := fun e => hZN e.symm
  have h8 := h7.far (p := ⟨N, 1, none⟩) hRN (.int .i64 (hg * 256 + lo))
  have HB8 := (HB.trans hB7).new (p := ⟨N, 1, none⟩) hNw (.int .i64 (hg * 256 + lo))
  have hZ8 := (hZ.past hB7 hRZ).far (p := ⟨N, 1, none⟩) hNZ (.int .i64 (hg * 256 + lo))
  have hN8 := hN7.s1 (hg * 256 + lo)
  have hur : 0 ≤ hg * 256 + lo ∧ hg * 256 + lo ≤ 1023 := by omega
  clear hor h7 hB7 hN7 hn1 hz1 HB hZ hN h6
  generalize hu : hg * 256 + lo = u at ho h8 HB8 hZ8 hN8 hur ⊢
  generalize w7.setCell ⟨N, 1, none⟩ (.int .i64 u) = w8 at h8 HB8 hZ8 hN8 ⊢
  unfold peek3 at ho
  have hn0 := hN8.c0
  have hn1 := hN8.c1
  by_cases c12 : u ≤ 1000 ∧ (kd = 6 ↔ u = 0)
  rotate_left
  · rw [if_neg c12] at ho
    subst ho
    by_cases cu : 1 ≤ u ∧ u ≤ 1000
    · have hU : journal_unit.f u = some true := by simp [journal_unit.f, cu.1, cu.2]
      have ck : kd = 6 := by omega
      have d10 : (kd != 6) = false := by simp [ck]
      have d12 : (kd == 6) = true := by simp [ck]
      have d13 : (u == 0) = false := by simp; omega
      clear ck cu
      go_wp2_with (first | (go_at_call 65; refine (journal_unit.calls _ true _ hU).mono ?_; rintro e w9 ⟨rfl, hd⟩; have hb9 := hd.below; have hN9 := hN8.past (But.of_below (S := (· = R)) hb9) hRN; have hn0 := hN9.c0; have hn1 := hN9.c1; have h9 := h8.past hb9) | (go_at_call 91; refine (must_no _).mono ?_; rintro e w10 ⟨rfl, rfl⟩))
      exact ⟨rfl, rfl, ⟨_, h9⟩, HB8.trans (But.of_below hb9)⟩
    · have hU : journal_unit.f u = some false := by
        unfold journal_unit.f
        split
        · simp; omega
        · rfl
      clear cu
      by_cases ck : kd = 6
      · have d12 : (kd == 6) = true := by simp [ck]
        have d13 : (u == 0) = false := by simp; omega
        clear ck
        go_wp2_with (first | (go_at_call 65; refine (journal_unit.calls _ false _ hU).mono ?_; rintro e w9 ⟨rfl, hd⟩; have hb9 := hd.below; have hN9 := hN8.past (But.of_below (S := (· = R)) hb9) hRN; have hn0 := hN9.c0; have hn1 := hN9.c1; have h9 := h8.past hb9) | (go_at_call 91; refine (must_no _).mono ?_; rintro e w10 ⟨rfl, rfl⟩))
        exact ⟨rfl, rfl, ⟨_, h9⟩, HB8.trans (But.of_below hb9)⟩
      · have d12 : (kd == 6) = false := by simp [ck]
        clear ck
        go_wp2_with (first | (go_at_call 65; refine (journal_unit.calls _ false _ hU).mono ?_; rintro e w9 ⟨rfl, hd⟩; have hb9 := hd.below; have hN9 := hN8.past (But.of_below (S := (· = R)) hb9) hRN; have hn0 := hN9.c0; have hn1 := hN9.c1; have h9 := h8.past hb9) | (go_at_call 91; refine (must_no _).mono ?_; rintro e w10 ⟨rfl, rfl⟩))
        exact ⟨rfl, rfl, ⟨_, h9⟩, HB8.trans (But.of_below hb9)⟩
  rw [if_pos c12] at ho
  go_cut [8, 9] (fun v8 v9 wc => v8 = .bool P ∧ v9 = .int .i64 hg ∧ Aside0 (Below w8.heap.size w8 wc))
  case first =>
    by_cases ck : kd = 6
    · have hu0 : u = 0 := c12.2.1 ck
      have hU : journal_unit.f u = some false := by rw [hu0]; rfl
      have d12 : (kd == 6) = true := by simp [ck]
      have d13 : (u == 0) = true := by simp [hu0]
      clear ck hu0
      go_wp2_with (first | (go_at_call 65; refine (journal_unit.calls _ false _ hU).mono ?_; rintro e w9 ⟨rfl, hd⟩; have hb9 := hd.below; have hN9 := hN8.past (But.of_below (S := (· = R)) hb9) hRN; have hn0 := hN9.c0; have hn1 := hN9.c1; have h9 := h8.past hb9) | (go_at_call 91; refine (must_ok _).mono ?_; rintro e w10 ⟨rfl, rfl⟩))
      go_meet
      case rel => exact ⟨rfl, rfl, ⟨hb9⟩⟩
    · have hU : journal_unit.f u = some true := by
        have : 1 ≤ u := by omega
        simp [journal_unit.f, this, c12.1]
      have d10 : (kd != 6) = true := by simp [ck]
      clear ck
      go_wp2_with (first | (go_at_call 65; refine (journal_unit.calls _ true _ hU).mono ?_; rintro e w9 ⟨rfl, hd⟩; have hb9 := hd.below; have hN9 := hN8.past (But.of_below (S := (· = R)) hb9) hRN; have hn0 := hN9.c0; have hn1 := hN9.c1; have h9 := h8.past hb9) | (go_at_call 91; refine (must_ok _).mono ?_; rintro e w10 ⟨rfl, rfl⟩))
      go_meet
      case rel => exact ⟨rfl, rfl, ⟨hb9⟩⟩
  obtain ⟨rfl, rfl, ⟨hb9⟩⟩ := hcut
  replace h8 := h8.past hb9
  have HB := HB8.trans (But.of_below hb9)
  have hZ := hZ8.past (But.of_below (S := (· = R)) hb9) hRZ
  have hN := hN8.past (But.of_below (S := (· = R)) hb9) hRN
  clear hb9 HB8 hZ8 hN8 hn0 hn1
  -- the key's length
  by_cases c13 : i + 4 < (s.size : Int)
  rotate_left
  · rw [if_neg c13] at ho
    subst ho
    go_wp2_with (go_at_call 92; refine (number_torn R s (i + 4) _ h8 (by omega) (by omega) (by omega)).mono ?_; rintro e w2 ⟨rfl, h2, hb2⟩)
    exact ⟨rfl, rfl, ⟨_, h2⟩, HB.trans hb2⟩
  rw [if_pos c13] at ho
  obtain ⟨k, hk⟩ : ∃ k, bt s (i + 4) = k := ⟨_, rfl⟩
  have hkr2 := bt_range s (i + 4)
  rw [hk] at ho hkr2
  go_upto_region 11 with (go_at_call 92; refine (number_ok R s (i + 4) _ h8 (by omega) c13 (by omega)).mono ?_; rintro e w9 ⟨rfl, h9, hB9⟩; rw [hk])
  rw [show i + 4 + 1 = i + 5 by omega] at h9
  replace HB := HB.trans hB9
  replace hN := hN.past hB9 hRN
  replace hZ := hZ.past hB9 hRZ
  clear hB9 h8
  unfold peek4 at ho
  by_cases c14 : k ≤ 40 ∧ ((kd = 2 ∨ kd = 3) ↔ 0 < k)
  rotate_left
  · rw [if_neg c14] at ho
    subst ho
    by_cases ck : k ≤ 40
    · have d14 : decide (k ≤ 40) = true := decide_eq_true ck
      have d15 : (P == decide (0 < k)) = false := by
        rw [hP.out]
        simp only [beq_eq_false_iff_ne, ne_eq, decide_eq_decide]
        exact fun hx => c14 ⟨ck, hx⟩
      clear ck
      go_wp2_with (go_at_call 91; refine (must_no _).mono ?_; rintro e w10 ⟨rfl, rfl⟩)
      exact ⟨rfl, rfl, ⟨_, h9⟩, HB⟩
    · have d14 : decide (k ≤ 40) = false := decide_eq_false ck
      clear ck
      go_wp2_with (go_at_call 91; refine (must_no _).mono ?_; rintro e w10 ⟨rfl, rfl⟩)
      exact ⟨rfl, rfl, ⟨_, h9⟩, HB⟩
  rw [if_pos c14] at ho
  have d14 : decide (k ≤ 40) = true := decide_eq_true c14.1
  have d15 : (P == decide (0 < k)) = true := by
    rw [hP.out]
    simp only [beq_iff_eq, decide_eq_decide]
    exact c14.2
  go_upto_region 12 with (go_at_call 91; refine (must_ok _).mono ?_; rintro e w10 ⟨rfl, rfl⟩)
  -- the key
  by_cases c15 : i + 5 + k ≤ (s.size : Int)
  rotate_left
  · rw [if_neg (by omega)] at ho
    subst ho
    go_wp2_with (go_at_call 93; refine (bytes_torn R s (i + 5) k _ h9 (by omega) (by omega) (by omega) (by omega) (by omega)).mono ?_; rintro e w2 ⟨rfl, h2, hb2⟩)
    exact ⟨rfl, rfl, ⟨_, h2⟩, HB.trans hb2⟩
  obtain ⟨key, hkey⟩ : ∃ key, s.extract (i + 5).toNat (i + 5 + k).toNat = key := ⟨_, rfl⟩
  go_upto_region 13 with (go_at_call 93; refine (bytes_ok R s (i + 5) k _ h9 (by omega) (by omega) c15 (by omega)).mono ?_; rintro e w11 ⟨rfl, h11, hB11⟩; rw [hkey]; have hN11 := hN.past hB11 hRN; have hn2 := hN11.c2; have hz2 := hN11.z2)
  have h12 := h11.far (p := ⟨N, 2, none⟩) hRN (.string key)
  replace HB := (HB.trans hB11).new (p := ⟨N, 2, none⟩) hNw (.string key)
  replace hZ := (hZ.past hB11 hRZ).far (p := ⟨N, 2, none⟩) hNZ (.string key)
  replace hN := hN11.s2 key
  clear h11 hB11 hN11 hn2 hz2 h9 d14 d15
  generalize w11.setCell ⟨N, 2, none⟩ (.string key) = w12 at h12 HB hZ hN ⊢
  -- whether it has
  by_cases c16 : i + 5 + k < (s.size : Int)
  rotate_left
  · rw [if_neg c16] at ho
    subst ho
    go_wp2_with (go_at_call 92; refine (number_torn R s (i + 5 + k) _ h12 (by omega) (by omega) (by omega)).mono ?_; rintro e w2 ⟨rfl, h2, hb2⟩)
    exact ⟨rfl, rfl, ⟨_, h2⟩, HB.trans hb2⟩
  rw [if_pos c16] at ho
  obtain ⟨hs, hhs⟩ : ∃ hs, bt s (i + 5 + k) = hs := ⟨_, rfl⟩
  have hsr := bt_range s (i + 5 + k)
  rw [hhs] at ho hsr
  go_upto_region 14 with (go_at_call 92; refine (number_ok R s (i + 5 + k) _ h12 (by omega) c16 (by omega)).mono ?_; rintro e w13 ⟨rfl, h13, hB13⟩; rw [hhs])
  rw [show i + 5 + k + 1 = i + 6 + k by omega] at h13
  replace HB := HB.trans hB13
  replace hN := hN.past hB13 hRN
  replace hZ := hZ.past hB13 hRZ
  clear hB13 h12
  unfold peek5 at ho
  by_cases c17 : hs = 0 ∨ hs = 1 ∧ (kd = 2 ∨ kd = 3)
  rotate_left
  · rw [if_neg c17] at ho
    subst ho
    have d16 : (hs == 0) = false := by simp; omega
    by_cases c1 : hs = 1
    · have d17 : (hs == 1) = true := by simp [c1]
      have d18 : P = false := by
        rw [hP.out]
        exact decide_eq_false (by omega)
      subst d18
      clear c1
      go_wp2_with (go_at_call 91; refine (must_no _).mono ?_; rintro e w10 ⟨rfl, rfl⟩)
      exact ⟨rfl, rfl, ⟨_, h13⟩, HB⟩
    · have d17 : (hs == 1) = false := by simp [c1]
      clear c1
      go_wp2_with (go_at_call 91; refine (must_no _).mono ?_; rintro e w10 ⟨rfl, rfl⟩)
      exact ⟨rfl, rfl, ⟨_, h13⟩, HB⟩
  rw [if_pos c17] at ho
  go_cut [8, 9, 10, 11] (fun v8 v9 v10 v11 wc => v11 = .int .i64 hs ∧ wc = w13)
  case first =>
    by_cases c1 : hs = 0
    · have d16 : (hs == 0) = true := by simp [c1]
      clear c1
      go_wp2_with (go_at_call 91; refine (must_ok _).mono ?_; rintro e w10 ⟨rfl, rfl⟩)
      go_meet
      case rel => exact ⟨by simp at d16; rw [d16], rfl⟩
    · have d16 : (hs == 0) = false := by simp [c1]
      have d17 : (hs == 1) = true := by simp; omega
      have d18 : P = true := by
        rw [hP.out]
        exact decide_eq_true (by omega)
      subst d18
      clear c1
      go_wp2_with (go_at_call 91; refine (must_ok _).mono ?_; rintro e w10 ⟨rfl, rfl⟩)
      go_meet
      case rel => exact ⟨by simp at d17; rw [d17], rfl⟩
  obtain ⟨rfl, rfl⟩ := hcut
  have hn3 := hN.c3
  have hz3 := hN.z3
  obtain ⟨H, hH⟩ : ∃ H, (hs == 1) = H := ⟨_, rfl⟩
  go_upto_block 0 with (fail)
  have h14 := h13.far (p := ⟨N, 3, none⟩) hRN (.bool H)
  replace HB := HB.new (p := ⟨N, 3, none⟩) hNw (.bool H)
  replace hZ := hZ.far (p := ⟨N, 3, none⟩) hNZ (.bool H)
  replace hN := hN.s3 H
  clear hn3 hz3 h13
  replace hH := Aside0.mk hH
  generalize wc.setCell ⟨N, 3, none⟩ (.bool H) = w14 at h14 HB hZ hN ⊢
  have hn0 := hN.c0
  have hn3 := hN.c3
  obtain ⟨most, hmost⟩ : ∃ m, (if kd = 6 then 40 else if hs = 1 then 4000 else (0 : Int)) = m := ⟨_, rfl⟩
  rw [hmost] at ho
  replace hmost := Aside0.mk hmost
  go_cut [8, 9, 10, 11, 12] (fun v8 v9 v10 v11 v12 wc => v12 = .int .i64 most ∧ wc = w14)
  case first =>
    by_cases ck : kd = 6
    · have d20 : (kd == 6) = true := by simp [ck]
      clear ck
      go_wp2
      go_meet
      case rel => exact ⟨by simp at d20; rw [← hmost.out, if_pos d20], rfl⟩
    · have d20 : (kd == 6) = false := by simp [ck]
      by_cases ch : hs = 1
      · have d21 : H = true := by rw [← hH.out]; simp [ch]
        subst d21
        have hm := hmost.out
        rw [if_neg ck, if_pos ch] at hm
        subst hm
        clear ck ch
        go_wp2
        go_meet
        case rel => exact ⟨rfl, rfl⟩
      · have d21 : H = false := by rw [← hH.out]; simp [ch]
        subst d21
        have hm := hmost.out
        rw [if_neg ck, if_neg ch] at hm
        subst hm
        clear ck ch
        go_wp2
        go_meet
        case rel => exact ⟨rfl, rfl⟩
  obtain ⟨rfl, rfl⟩ := hcut
  have hmr : 0 ≤ most ∧ most ≤ 4000 := by
    rw [← hmost.out]
    split
    · omega
    · split <;> omega
  clear hn0 hn3
  -- the text's length
  unfold peek6 at ho
  by_cases c18 : i + 6 + k < (s.size : Int)
  rotate_left
  · rw [if_neg c18] at ho
    subst ho
    go_wp2_with (go_at_call 92; refine (number_torn R s (i + 6 + k) _ h14 (by omega) (by omega) (by omega)).mono ?_; rintro e w2 ⟨rfl, h2, hb2⟩)
    exact ⟨rfl, rfl, ⟨_, h2⟩, HB.trans hb2⟩
  rw [if_pos c18] at ho
  obtain ⟨tg, htg⟩ : ∃ tg, bt s (i + 6 + k) = tg := ⟨_, rfl⟩
  have htgr := bt_range s (i + 6 + k)
  rw [htg] at ho htgr
  go_upto_region 22 with (go_at_call 92; refine (number_ok R s (i + 6 + k) _ h14 (by omega) c18 (by omega)).mono ?_; rintro e w15 ⟨rfl, h15, hB15⟩; rw [htg])
  rw [show i + 6 + k + 1 = i + 7 + k by omega] at h15
  replace HB := HB.trans hB15
  replace hN := hN.past hB15 hRN
  replace hZ := hZ.past hB15 hRZ
  clear hB15 h14
  by_cases c19 : tg ≤ most / 256
  rotate_left
  · rw [if_neg c19] at ho
    subst ho
    have d22 : decide (tg ≤ most / 256) = false := decide_eq_false c19
    go_wp2_with (go_at_call 91; refine (must_no _).mono ?_; rintro e w20 ⟨rfl, rfl⟩)
    exact ⟨rfl, rfl, ⟨_, h15⟩, HB⟩
  rw [if_pos c19] at ho
  have d22 : decide (tg ≤ most / 256) = true := decide_eq_true c19
  go_upto_region 23 with (go_at_call 91; refine (must_ok _).mono ?_; rintro e w20 ⟨rfl, rfl⟩)
  clear d22
  by_cases c20 : i + 7 + k < (s.size : Int)
  rotate_left
  · rw [if_neg c20] at ho
    subst ho
    go_wp2_with (go_at_call 92; refine (number_torn R s (i + 7 + k) _ h15 (by omega) (by omega) (by omega)).mono ?_; rintro e w2 ⟨rfl, h2, hb2⟩)
    exact ⟨rfl, rfl, ⟨_, h2⟩, HB.trans hb2⟩
  rw [if_pos c20] at ho
  obtain ⟨tl, htl⟩ : ∃ tl, bt s (i + 7 + k) = tl := ⟨_, rfl⟩
  have htlr := bt_range s (i + 7 + k)
  rw [htl] at ho htlr
  have hor : Go.bits .or .i64 (tg * 256) tl = tg * 256 + tl := i64_or8 (by omega) (by omega) (by omega) htlr.1 (by omega)
  go_upto_region 24 with (go_at_call 92; refine (number_ok R s (i + 7 + k) _ h15 (by omega) c20 (by omega)).mono ?_; rintro e w16 ⟨rfl, h16, hB16⟩; rw [htl])
  rw [show i + 7 + k + 1 = i + 8 + k by omega] at h16
  replace HB := HB.trans hB16
  replace hN := hN.past hB16 hRN
  replace hZ := hZ.past hB16 hRZ
  clear hB16 h15 hor
  have htr : 0 ≤ tg * 256 + tl ∧ tg * 256 + tl ≤ 65535 := by omega
  generalize ht : tg * 256 + tl = t at ho htr ⊢
  have hn0 := hN.c0
  unfold peek7 at ho
  by_cases c21 : t ≤ most ∧ (kd = 6 → 0 < t)
  rotate_left
  · rw [if_neg c21] at ho
    subst ho
    by_cases ck : t ≤ most
    · have d23 : decide (t ≤ most) = true := decide_eq_true ck
      have d24 : (kd != 6) = false := by simp; omega
      have d25 : decide (0 < t) = false := decide_eq_false (by omega)
      clear ck
      go_wp2_with (go_at_call 91; refine (must_no _).mono ?_; rintro e w20 ⟨rfl, rfl⟩)
      exact ⟨rfl, rfl, ⟨_, h16⟩, HB⟩
    · have d23 : decide (t ≤ most) = false := decide_eq_false ck
      clear ck
      go_wp2_with (go_at_call 91; refine (must_no _).mono ?_; rintro e w20 ⟨rfl, rfl⟩)
      exact ⟨rfl, rfl, ⟨_, h16⟩, HB⟩
  rw [if_pos c21] at ho
  have d23 : decide (t ≤ most) = true := decide_eq_true c21.1
  go_cut [8, 9, 10, 11, 12, 13] (fun v8 v9 v10 v11 v12 v13 wc => v13 = .int .i64 t ∧ wc = w16)
  case first =>
    by_cases ck : kd = 6
    · have d24 : (kd != 6) = false := by simp [ck]
      have d25 : decide (0 < t) = true := decide_eq_true (c21.2 ck)
      clear ck
      go_wp2_with (go_at_call 91; refine (must_ok _).mono ?_; rintro e w20 ⟨rfl, rfl⟩)
      go_meet
      case rel => exact ⟨rfl, rfl⟩
    · have d24 : (kd != 6) = true := by simp [ck]
      clear ck
      go_wp2_with (go_at_call 91; refine (must_ok _).mono ?_; rintro e w20 ⟨rfl, rfl⟩)
      go_meet
      case rel => exact ⟨rfl, rfl⟩
  obtain ⟨rfl, rfl⟩ := hcut
  clear d23 hn0
  -- the text
  by_cases c22 : i + 8 + k + t ≤ (s.size : Int)
  rotate_left
  · rw [if_neg c22] at ho
    subst ho
    go_wp2_with (go_at_call 93; refine (bytes_torn R s (i + 8 + k) t _ h16 (by omega) (by omega) (by omega) (by omega) (by omega)).mono ?_; rintro e w2 ⟨rfl, h2, hb2⟩)
    exact ⟨rfl, rfl, ⟨_, h2⟩, HB.trans hb2⟩
  rw [if_pos c22] at ho
  obtain ⟨text, htext⟩ : ∃ text, s.extract (i + 8 + k).toNat (i + 8 + k + t).toNat = text := ⟨_, rfl⟩
  go_upto_region 26 with (go_at_call 93; refine (bytes_ok R s (i + 8 + k) t _ h16 (by omega) (by omega) c22 (by omega)).mono ?_; rintro e w17 ⟨rfl, h17, hB17⟩; rw [htext]; have hN17 := hN.past hB17 hRN; have hn4 := hN17.c4; have hz4 := hN17.z4)
  have h18 := h17.far (p := ⟨N, 4, none⟩) hRN (.string text)
  replace HB := (HB.trans hB17).new (p := ⟨N, 4, none⟩) hNw (.string text)
  replace hZ := (hZ.past hB17 hRZ).far (p := ⟨N, 4, none⟩) hNZ (.string text)
  replace hN := hN17.s4 text
  clear h17 hB17 hN17 hn4 hz4 h16
  generalize w17.setCell ⟨N, 4, none⟩ (.string text) = w18 at h18 HB hZ hN ⊢
  -- the sum
  have hq1 := fun p : Past w18 => Past.cell h18.str p
  have hq2 := fun p : Past w18 => Past.cell h18.pos p
  obtain ⟨body, hbody⟩ : ∃ b, s.extract i.toNat (i + 8 + k + t).toNat = b := ⟨_, rfl⟩
  have hsl : ∀ p : Past w18, (Instr.slice 9 (.string s) (some (.int .i64 i)) (some (.int .i64 (i + 8 + k + t))) none).run Try.prog p.W = .ok (.string body) p.W := fun p => by
    rw [run_slice_string_if _ _ _ _ _ _ _ Try.underlying9, if_pos ⟨by omega, c22⟩, if_pos ⟨hi, by omega⟩, hbody]
  have hbs : body.size ≤ 1000000 := by rw [← hbody, ByteArray.size_extract]; omega
  refine wp_region_past (by kernel_rfl) (by kernel_rfl) ?_
  repeat (go_big_quiet_step (first | (go_at_call 30; exact Calls.past_of (Sum_calls last body hbs _))))
  refine wpQuiet_nil ?_
  rintro _ ⟨p, rfl⟩
  have hb19 := p.h
  have h19 := h18.past hb19
  replace HB := HB.trans (But.of_below hb19)
  replace hZ := hZ.past (But.of_below (S := (· = R)) hb19) hRZ
  replace hN := hN.past (But.of_below (S := (· = R)) hb19) hRN
  clear hq1 hq2 hsl h18
  generalize p.W = w19 at h19 hb19 HB hZ hN ⊢
  clear hb19
  unfold peek8 at ho
  rw [hbody, hkey, htext] at ho
  generalize hsum : sumF last body = sum at ho ⊢
  have hcv := fun (W : World) (t : ByteArray) => Lib.run_convert_string_bytes (P := Try.prog) W 9 53 5 t Try.underlying9 Try.underlying53 Try.underlying5
  have he8 := eightS_size sum
  go_wp2_with (go_at_call 62; refine (eight_calls sum _).mono ?_; rintro e w20 ⟨rfl, hb20⟩; generalize eightS sum = e8 at ho he8 ⊢)
  have hcell : ∀ j : Nat, j < 8 → (Lib.bytesWorld w20 5 e8).cell? ⟨w20.heap.size, j, none⟩ = some (.int .u8 (bt e8 j)) := by
    intro j hj
    rw [Lib.bytesWorld_cell w20 5 _ j (by omega), bt_data _ j (by omega)]
  have hb21 : Below w20.heap.size w20 (Lib.bytesWorld w20 5 e8) := ⟨rfl, rfl, rfl, by rw [Lib.bytesWorld_size]; omega, fun k hk => Lib.bytesWorld_at_old w20 5 _ k hk⟩
  have h21 := (h19.past hb20).past hb21
  replace HB := (HB.trans (But.of_below hb20)).trans (But.of_below hb21)
  replace hZ := (hZ.past (But.of_below (S := (· = R)) hb20) hRZ).past (But.of_below (S := (· = R)) hb21) hRZ
  replace hN := (hN.past (But.of_below (S := (· = R)) hb20) hRN).past (But.of_below (S := (· = R)) hb21) hRN
  have hgR : ¬ w20.heap.size = R := by have := (h19.past hb20).lt; omega
  clear hb20 hb21 h19 hcv
  generalize w20.heap.size = g, Lib.bytesWorld w20 5 e8 = w21 at hcell h21 HB hZ hN hgR ⊢
  -- the sum's bytes
  clear hbody htext
  generalize hq : i + 8 + k + t = q at ho h21 c22
  have hq0 : 0 ≤ q := by omega
  go_loopg [16, 166] 9 (fun kq v16 v166 wk => ∃ j : Nat, v166 = .int .i64 (j : Int) ∧ j ≤ 8 ∧ kq = 8 - j + 1 ∧ Aside0 (tailOut s e8 ⟨kd, u, key, decide (hs = 1), text⟩ sum q (8 - j) = o) ∧ Aside0 (Rd R s (q + j) wk) ∧ Aside0 (But (· = R) w wk) ∧ Aside0 (Zt Z wk) ∧ Aside0 (Nt N kd u key H text wk) ∧ Aside0 (∀ j : Nat, j < 8 → wk.cell? ⟨g, j, none⟩ = some (.int .u8 (bt e8 j))))
  case atStart => exact ⟨0, rfl, by omega, rfl, ⟨ho⟩, ⟨by simpa using h21⟩, ⟨HB⟩, ⟨hZ⟩, ⟨hN⟩, ⟨hcell⟩⟩
  case round =>
    obtain ⟨j, rfl, hj, rfl, ⟨ho⟩, ⟨h21⟩, ⟨HB⟩, ⟨hZ⟩, ⟨hN⟩, ⟨hcell⟩⟩ := hrel
    by_cases hlt : j < 8
    · have hd : decide ((j : Int) < 8) = true := decide_eq_true (by omega)
      have hc := hcell j hlt
      have hb0 : ((j : Int) < 0) = False := eq_false (by omega)
      have hb8 : ((8 : Int) ≤ (j : Int)) = False := eq_false (by omega)
      rw [show 8 - j = (8 - (j + 1)) + 1 by omega, tailOut, show (8 - ((8 - (j + 1) + 1 : Nat) : Int)) = (j : Int) by omega] at ho
      by_cases c30 : (s.size : Int) ≤ q + j
      · rw [if_pos c30] at ho
        subst ho
        go_wp2_with (go_at_call 93; refine (bytes_torn R s (q + j) 1 _ h21 (by omega) (by omega) (by omega) (by omega) (by omega)).mono ?_; rintro e w2 ⟨rfl, h2, hb2⟩)
        exact ⟨rfl, rfl, ⟨_, h2⟩, HB.trans hb2⟩
      · rw [if_neg c30] at ho
        have ht1 := one_byte s (q + j) (by omega) (by omega)
        have hbt := bt_extract s (q + j).toNat (q + j + 1).toNat 0 (by omega) (by omega)
        obtain ⟨b1, hb1⟩ : ∃ b, s.extract (q + j).toNat (q + j + 1).toNat = b := ⟨_, rfl⟩
        rw [hb1] at ht1 hbt
        rw [show (((q + j).toNat + 0 : Nat) : Int) = q + j by omega] at hbt
        have q7 : (0 < b1.size) = True := eq_true (by omega)
        have qi7 : (0 < (b1.size : Int)) = True := eq_true (by omega)
        have hx7 : ∀ h : 0 < b1.size, ((b1[0]'h).toNat : Int) = bt b1 0 := bt_at b1 0
        by_cases c31 : bt s (q + j) = bt e8 j
        · rw [if_pos c31] at ho
          have d31 : (bt b1 0 == bt e8 (j : Int)) = true := beq_iff_eq.mpr (hbt.trans c31)
          clear hbt c31
          go_wp2_with (first | (go_at_call 93; refine (bytes_ok R s (q + j) 1 _ h21 (by omega) (by omega) (by omega) (by omega)).mono ?_; rintro e w22 ⟨rfl, h22, hB22⟩; rw [hb1]) | (go_at_call 91; refine (must_ok _).mono ?_; rintro e w20 ⟨rfl, rfl⟩))
          go_roundg (8 - (j + 1) + 1)
          case measure => omega
          case rel =>
            refine ⟨j + 1, by push_cast; rfl, by omega, rfl, ⟨ho⟩, ⟨?_⟩, ⟨HB.trans hB22⟩, ⟨hZ.past hB22 hRZ⟩, ⟨hN.past hB22 hRN⟩, ⟨fun j hj => (hB22.cell (p := ⟨g, j, none⟩) (cell_lt (hcell j hj)) hgR).trans (hcell j hj)⟩⟩
            push_cast
            rw [← Int.add_assoc]
            exact h22
        · rw [if_neg c31] at ho
          subst ho
          have d31 : (bt b1 0 == bt e8 (j : Int)) = false := beq_eq_false_iff_ne.mpr (fun e => c31 (hbt.symm.trans e))
          clear hbt c31
          go_wp2_with (first | (go_at_call 93; refine (bytes_ok R s (q + j) 1 _ h21 (by omega) (by omega) (by omega) (by omega)).mono ?_; rintro e w22 ⟨rfl, h22, hB22⟩; rw [hb1]) | (go_at_call 91; refine (must_no _).mono ?_; rintro e w20 ⟨rfl, rfl⟩))
          exact ⟨rfl, rfl, ⟨_, h22⟩, HB.trans hB22⟩
    · have hd : decide ((j : Int) < 8) = false := decide_eq_false (by omega)
      rw [show 8 - j = 0 by omega, tailOut] at ho
      subst ho
      have hz0 : wr.cell? ⟨Z, 0, none⟩ = some (.int .i64 0) := (blk_cell hZ.blk 0).trans rfl
      have hz1 : wr.cell? ⟨Z, 1, none⟩ = some (.int .i64 0) := (blk_cell hZ.blk 1).trans rfl
      have hz2 : wr.cell? ⟨Z, 2, none⟩ = some (.string ⟨#[]⟩) := (blk_cell hZ.blk 2).trans rfl
      have hz3 : wr.cell? ⟨Z, 3, none⟩ = some (.bool false) := (blk_cell hZ.blk 3).trans rfl
      have hz4 : wr.cell? ⟨Z, 4, none⟩ = some (.string ⟨#[]⟩) := (blk_cell hZ.blk 4).trans rfl
      have hf0 := blk_frozen hZ.blk 0
      have hf1 := blk_frozen hZ.blk 1
      have hf2 := blk_frozen hZ.blk 2
      have hf3 := blk_frozen hZ.blk 3
      have hf4 := blk_frozen hZ.blk 4
      have hn0 := hN.c0
      have hn1 := hN.c1
      have hn2 := hN.c2
      have hn3 := hN.c3
      have hn4 := hN.c4
      go_wp2
      have hfin : (((((wr.setCell ⟨Z, 0, none⟩ (.int .i64 kd)).setCell ⟨Z, 1, none⟩ (.int .i64 u)).setCell ⟨Z, 2, none⟩ (.string key)).setCell ⟨Z, 3, none⟩ (.bool H)).setCell ⟨Z, 4, none⟩ (.string text)).heap[Z]? = some (.cells #[.int .i64 kd, .int .i64 u, .string key, .bool H, .string text] 39 (0, 0)) := by
        refine blk_put (cs := #[.int .i64 kd, .int .i64 u, .string key, .bool H, .string ⟨#[]⟩]) ?_ 4 _ rfl
        refine blk_put (cs := #[.int .i64 kd, .int .i64 u, .string key, .bool false, .string ⟨#[]⟩]) ?_ 3 _ rfl
        refine blk_put (cs := #[.int .i64 kd, .int .i64 u, .string ⟨#[]⟩, .bool false, .string ⟨#[]⟩]) ?_ 2 _ rfl
        refine blk_put (cs := #[.int .i64 kd, .int .i64 0, .string ⟨#[]⟩, .bool false, .string ⟨#[]⟩]) ?_ 1 _ rfl
        refine blk_put (cs := #[.int .i64 0, .int .i64 0, .string ⟨#[]⟩, .bool false, .string ⟨#[]⟩]) ?_ 0 _ rfl
        exact hZ.blk
      have hZw : w.heap.size ≤ Z := Nat.le_of_eq hz
      have hHd : H = decide (hs = 1) := by rw [← hH.out]; rfl
      rw [show q + (j : Int) = q + 8 by omega] at h21
      refine bodyPost_ret (results_list (rs := [.cell 4 39, .tmp 5]) rfl (by simp) (.cell Z 39 #[.int .i64 kd, .int .i64 u, .string key, .bool H, .string text] (0, 0) _ rfl hfin Try.underlying39 rfl (by kernel_rfl) (.tmp .nil))) rfl ?_
      refine ⟨by rw [← hHd]; rfl, ?_, ?_⟩
      · exact ((((h21.far (p := ⟨Z, 0, none⟩) hRZ _).far (p := ⟨Z, 1, none⟩) hRZ _).far (p := ⟨Z, 2, none⟩) hRZ _).far (p := ⟨Z, 3, none⟩) hRZ _).far (p := ⟨Z, 4, none⟩) hRZ _
      · exact ((((HB.new (p := ⟨Z, 0, none⟩) hZw _).new (p := ⟨Z, 1, none⟩) hZw _).new (p := ⟨Z, 2, none⟩) hZw _).new (p := ⟨Z, 3, none⟩) hZw _).new (p := ⟨Z, 4, none⟩) hZw _
end Go.Proofs.Yteblpjnkinghoaa.J
/- The program's next: a note, or how the reading ended. -/
set_option linter.unusedVariables false
set_option linter.unusedSimpArgs false
namespace Go.Proofs.Yteblpjnkinghoaa.J
open Go.RowKit Go.Proofs.YteblpjnkinghoaaW.PrintWords Go.Proofs.YteblpjnkinghoaaW.PrintLast Go.Proofs.YteblpjnkinghoaaW.PrintMore
/-- How a reading ended: a state in block E. -/
structure St (E : Nat) (used sum : Int) (torn : Bool) (e : Int) (w : World) : Prop where
  c0 : w.cell? ⟨E, 0, none⟩ = some (.int .i64 used)
  c1 : w.cell? ⟨E, 1, none⟩ = some (.int .u64 sum)
  c2 : w.cell? ⟨E, 2, none⟩ = some (.bool torn)
  c3 : w.cell? ⟨E, 3, none⟩ = some (.int .i64 e)
  z0 : w.frozen? ⟨E, 0, none⟩ = false
  z1 : w.frozen? ⟨E, 1, none⟩ = false
  z2 : w.frozen? ⟨E, 2, none⟩ = false
  z3 : w.frozen? ⟨E, 3, none⟩ = false
theorem as_torn (w : World) : (Instr.typeAssert (.iface 119 (.agg #[])) 20 119 true).run Try.prog w = .ok (.tuple #[.agg #[], .bool true]) w := by
  simp [Instr.typeAssert, run_underlying Try.underlying119]
theorem as_wrong (w : World) : (Instr.typeAssert (.iface 120 (.agg #[])) 20 120 true).run Try.prog w = .ok (.tuple #[.agg #[], .bool true]) w := by
  simp [Instr.typeAssert, run_underlying Try.underlying120]
theorem as_no (w : World) : (Instr.typeAssert (.iface 120 (.agg #[])) 20 119 true).run Try.prog w = .ok (.tuple #[.agg #[], .bool false]) w := by
  simp [Instr.typeAssert, run_underlying Try.underlying119]
theorem as_nil119 (w : World) : (Instr.typeAssert .nilIface 20 119 true).run Try.prog w = .ok (.tuple #[.agg #[], .bool false]) w := by
  simp [Instr.typeAssert, run_underlying Try.underlying119]
theorem as_nil120 (w : World) : (Instr.typeAssert .nilIface 20 120 true).run Try.prog w = .ok (.tuple #[.agg #[], .bool false]) w := by
  simp [Instr.typeAssert, run_underlying Try.underlying120]
set_option maxRecDepth 100000 in
theorem catch_torn (B E : Nat) (older : List PanicEntry) (w : World) (hB : w.cell? ⟨B, 0, none⟩ = some (.pointer (some ⟨E, 0, none⟩))) {x : Bool} (h2 : w.cell? ⟨E, 2, none⟩ = some (.bool x)) (hz : w.frozen? ⟨E, 2, none⟩ = false) :
    CallsD Try.prog 86 #[.pointer (some ⟨B, 0, none⟩)] (.panicking ({ v := .iface 119 (.agg #[]), recovered := false } :: older)) w fun e u' w' =>
      e = .returned (.tuple #[]) ∧ u' = .panicking ({ v := .iface 119 (.agg #[]), recovered := true } :: older) ∧ w' = w.setCell ⟨E, 2, none⟩ (.bool true) := by
  refine callsD_of_wpS Try.func86 rfl fun c₀ cs hu => ?_
  apply wpS_seq
  apply wpS_region
  simp [wpOpsS, go_sem, recoverD, hu, Try.ntmps86, Exit.thenS]
  have ha1 := fun w => as_torn w
  have ha2 := fun w => as_wrong w
  have ha3 := fun w => as_no w
  have ha4 := fun w => as_nil119 w
  have ha5 := fun w => as_nil120 w
  refine wpS_of_wp ?_
  simp only [Array.replicate, List.replicate, Array.setIfInBounds]
  go_wp2
  simp [bodyPostS, results, Try.results86]
set_option maxRecDepth 100000 in
theorem catch_wrong (B E : Nat) (older : List PanicEntry) (w : World) (hB : w.cell? ⟨B, 0, none⟩ = some (.pointer (some ⟨E, 0, none⟩))) {x : Int} (h2 : w.cell? ⟨E, 3, none⟩ = some (.int .i64 x)) (hz : w.frozen? ⟨E, 3, none⟩ = false) :
    CallsD Try.prog 86 #[.pointer (some ⟨B, 0, none⟩)] (.panicking ({ v := .iface 120 (.agg #[]), recovered := false } :: older)) w fun e u' w' =>
      e = .returned (.tuple #[]) ∧ u' = .panicking ({ v := .iface 120 (.agg #[]), recovered := true } :: older) ∧ w' = w.setCell ⟨E, 3, none⟩ (.int .i64 12) := by
  refine callsD_of_wpS Try.func86 rfl fun c₀ cs hu => ?_
  apply wpS_seq
  apply wpS_region
  simp [wpOpsS, go_sem, recoverD, hu, Try.ntmps86, Exit.thenS]
  have ha1 := fun w => as_torn w
  have ha2 := fun w => as_wrong w
  have ha3 := fun w => as_no w
  have ha4 := fun w => as_nil119 w
  have ha5 := fun w => as_nil120 w
  refine wpS_of_wp ?_
  simp only [Array.replicate, List.replicate, Array.setIfInBounds]
  go_wp2
  simp [bodyPostS, results, Try.results86]
set_option maxRecDepth 100000 in
theorem catch_idle (B E : Nat) (w : World) :
    CallsD Try.prog 86 #[.pointer (some ⟨B, 0, none⟩)] .returning w fun e u' w' =>
      e = .returned (.tuple #[]) ∧ u' = .returning ∧ w' = w := by
  refine callsD_of_wpS Try.func86 rfl fun c₀ cs hu => ?_
  apply wpS_seq
  apply wpS_region
  simp [wpOpsS, go_sem, recoverD, hu, Try.ntmps86, Exit.thenS]
  have ha1 := fun w => as_torn w
  have ha2 := fun w => as_wrong w
  have ha3 := fun w => as_no w
  have ha4 := fun w => as_nil119 w
  have ha5 := fun w => as_nil120 w
  refine wpS_of_wp ?_
  simp only [Array.replicate, List.replicate, Array.setIfInBounds]
  go_wp2
  cases c₀
  simp_all [bodyPostS, results, Try.results86]
theorem St.past {E : Nat} {used sum : Int} {t : Bool} {e : Int} {S : Nat → Prop} {w w' : World} (h : St E used sum t e w) (hb : But S w w') (hn : ¬ S E) : St E used sum t e w' :=
  have hl : E < w.heap.size := cell_lt h.c0
  ⟨(hb.cell (p := ⟨E, 0, none⟩) hl hn).trans h.c0, (hb.cell (p := ⟨E, 1, none⟩) hl hn).trans h.c1, (hb.cell (p := ⟨E, 2, none⟩) hl hn).trans h.c2, (hb.cell (p := ⟨E, 3, none⟩) hl hn).trans h.c3,
   (hb.frozen (p := ⟨E, 0, none⟩) hl hn).trans h.z0, (hb.frozen (p := ⟨E, 1, none⟩) hl hn).trans h.z1, (hb.frozen (p := ⟨E, 2, none⟩) hl hn).trans h.z2, (hb.frozen (p := ⟨E, 3, none⟩) hl hn).trans h.z3⟩
/-- What next finds when it comes to its statement: the variable that holds E in block B, the result in block Z. -/
structure At (R E B Z : Nat) (s : ByteArray) (i used sum : Int) (w : World) : Prop where
  rd : Rd R s i w
  st : St E used sum false 0 w
  bk : w.heap[B]? = some (.cells #[.pointer (some ⟨E, 0, none⟩)] 83 (0, 0))
  zt : w.heap[Z]? = some nil39
theorem next_start (R E : Nat) (s : ByteArray) (i used sum : Int) (w : World) (h : Rd R s i w) (hE : St E used sum false 0 w) :
    At R E w.heap.size (w.heap.size + 1) s i used sum ((w.alloc (.cells #[.pointer (some ⟨E, 0, none⟩)] 83)).alloc nil39) ∧ Below w.heap.size w ((w.alloc (.cells #[.pointer (some ⟨E, 0, none⟩)] 83)).alloc nil39) := by
  have hb : Below w.heap.size w ((w.alloc (.cells #[.pointer (some ⟨E, 0, none⟩)] 83)).alloc nil39) := ((Below.refl _ _).alloc (Nat.le_refl _) _).alloc (by simp) _
  refine ⟨⟨h.past hb, hE.past (But.of_below (S := fun _ => False) hb) (fun h => h), ?_, ?_⟩, hb⟩
  · exact (Below.heap_alloc _ _ _ (by simp)).trans (heap_alloc_new _ _)
  · have := heap_alloc_new (w.alloc (.cells #[.pointer (some ⟨E, 0, none⟩)] 83)) nil39
    rw [World.size_alloc] at this
    exact this
abbrev nilV : Value := .agg #[.int .i64 0, .int .i64 0, .string ⟨#[]⟩, .bool false, .string ⟨#[]⟩]
/-- The door of next where its body has died: the deferred closure marks the state, and next hands back nothing. -/
theorem next_leaf (T : Array Value) (R E B Z : Nat) (t : TypeId) (w w2 : World) (Rr : Ending → World → Prop) (w3 : World)
    (h4 : T.getD 4 undef = .pointer (some ⟨Z, 0, none⟩)) (h5 : T.getD 5 undef = .bool false) (hz : w3.heap[Z]? = some nil39)
    (hc : CallsD Try.prog 86 #[.pointer (some ⟨B, 0, none⟩)] (.panicking [{ v := .iface t (.agg #[]), recovered := false }]) w2 fun e u' w' => e = .returned (.tuple #[]) ∧ u' = .panicking [{ v := .iface t (.agg #[]), recovered := true }] ∧ w' = w3)
    (hr : Rr (.returned (.tuple #[nilV, .bool false])) w3) :
    Leaves Try.prog Try.f73 T Rr [{ target := .fn (.func 86) #[.pointer (some ⟨B, 0, none⟩)], args := #[] }] (.panicking [{ v := .iface t (.agg #[]), recovered := false }]) w2 := by
  refine leaves_cons (f := 86) (args := #[.pointer (some ⟨B, 0, none⟩)]) (by simp) (by simp [go_sem]) ?_
  refine hc.mono ?_
  rintro e u' w3' ⟨rfl, rfl, rfl⟩
  have hres := results_list (P := Try.prog) (fn := Try.f73) (tmps := T) (w := w3') (rs := [.cell 4 39, .tmp 5]) rfl (by simp) (.cell Z 39 #[.int .i64 0, .int .i64 0, .string ⟨#[]⟩, .bool false, .string ⟨#[]⟩] (0, 0) _ h4 hz Try.underlying39 rfl (by kernel_rfl) (.tmp .nil))
  rw [h5] at hres
  simp [Leaves, settle]
  exact ⟨_, hres, hr⟩
theorem St.set2 {E : Nat} {used sum : Int} {t : Bool} {e : Int} {w : World} (h : St E used sum t e w) (x : Bool) : St E used sum x e (w.setCell ⟨E, 2, none⟩ (.bool x)) :=
  ⟨(World.cell?_setCell_other _ _ _ _ (by simp)).trans h.c0, (World.cell?_setCell_other _ _ _ _ (by simp)).trans h.c1, World.cell?_setCell_same _ _ _ h.c2, (World.cell?_setCell_other _ _ _ _ (by simp)).trans h.c3,
   (World.frozen?_setCell _ _ _ _).trans h.z0, (World.frozen?_setCell _ _ _ _).trans h.z1, (World.frozen?_setCell _ _ _ _).trans h.z2, (World.frozen?_setCell _ _ _ _).trans h.z3⟩
theorem St.set3 {E : Nat} {used sum : Int} {t : Bool} {e : Int} {w : World} (h : St E used sum t e w) (x : Int) : St E used sum t x (w.setCell ⟨E, 3, none⟩ (.int .i64 x)) :=
  ⟨(World.cell?_setCell_other _ _ _ _ (by simp)).trans h.c0, (World.cell?_setCell_other _ _ _ _ (by simp)).trans h.c1, (World.cell?_setCell_other _ _ _ _ (by simp)).trans h.c2, World.cell?_setCell_same _ _ _ h.c3,
   (World.frozen?_setCell _ _ _ _).trans h.z0, (World.frozen?_setCell _ _ _ _).trans h.z1, (World.frozen?_setCell _ _ _ _).trans h.z2, (World.frozen?_setCell _ _ _ _).trans h.z3⟩
set_option maxHeartbeats 8000000 in
set_option maxRecDepth 100000 in
/-- next where note dies. -/
theorem next_dead (R E : Nat) (s : ByteArray) (i : Int) (used sum : Int) (w : World) (h : Rd R s i w) (hE : St E used sum false 0 w) (t : TypeId) (Rr : Ending → World → Prop)
    (hn : ∀ w', Rd R s i w' → Calls Try.prog 87 #[.pointer (some ⟨R, 0, none⟩), .int .u64 sum] w' fun e w'' => e = Dead t ∧ (∃ p, Rd R s p w'') ∧ But (· = R) w' w'')
    (hl : ∀ (B Z : Nat) (w1 w2 : World) (T : Array Value), ¬ B = R → ¬ B = E → ¬ Z = R → ¬ Z = E → w.heap.size ≤ B → w.heap.size ≤ Z → Below w.heap.size w w1 → At R E B Z s i used sum w1 → T.getD 4 undef = .pointer (some ⟨Z, 0, none⟩) → T.getD 5 undef = .bool false → But (· = R) w1 w2 →
      Leaves Try.prog Try.f73 T Rr [{ target := .fn (.func 86) #[.pointer (some ⟨B, 0, none⟩)], args := #[] }] (.panicking [{ v := .iface t (.agg #[]), recovered := false }]) w2) :
    Calls Try.prog 73 #[.pointer (some ⟨R, 0, none⟩), .pointer (some ⟨E, 0, none⟩)] w Rr := by
  have hmf : ∀ (fn : Fn) (first cap : Array Value) (w : World), (Instr.makeFunc fn first cap).run Try.prog w = .ok (.func fn first cap) w := fun _ _ _ _ => rfl
  obtain ⟨h1, hb1⟩ := next_start R E s i used sum w h hE
  go_enter_defers Try.func73, Try.ntmps73
  go_upto_region 2 with (fail)
  have hBR : ¬ w.heap.size = R := by have := h.lt; omega
  have hBE : ¬ w.heap.size = E := by have := cell_lt hE.c0; simp at this; omega
  have hZR : ¬ w.heap.size + 1 = R := by have := h.lt; omega
  have hZE : ¬ w.heap.size + 1 = E := by have := cell_lt hE.c0; simp at this; omega
  have hBw : w.heap.size ≤ w.heap.size := Nat.le_refl _
  have hZw : w.heap.size ≤ w.heap.size + 1 := by omega
  have hl1 := fun w2 T => hl w.heap.size (w.heap.size + 1) _ w2 T hBR hBE hZR hZE hBw hZw hb1 h1
  generalize w.heap.size = B, w.heap.size + 1 = Z, (w.alloc (.cells #[.pointer (some ⟨E, 0, none⟩)] 83)).alloc nil39 = w1 at h1 hl1 ⊢
  have hc3 : w1.drew.cell? ⟨B, 0, none⟩ = some (.pointer (some ⟨E, 0, none⟩)) := (blk_cell h1.bk 0).trans rfl
  have hc1 : w1.drew.cell? ⟨E, 1, none⟩ = some (.int .u64 sum) := h1.st.c1
  have hd1 : Rd R s i w1.drew := h1.rd.past (below_drew (Below.refl _ _))
  have hleaf : ∀ (T : Array Value) (w2 : World), T.getD 4 undef = .pointer (some ⟨Z, 0, none⟩) → T.getD 5 undef = .bool false → (∃ p, Rd R s p w2) → But (· = R) w1.drew w2 →
      Leaves Try.prog Try.f73 T Rr [{ target := .fn (.func 86) #[.pointer (some ⟨B, 0, none⟩)], args := #[] }] (.panicking [{ v := .iface t (.agg #[]), recovered := false }]) w2 :=
    fun T w2 e4 e5 _ hb2 => hl1 w2 T e4 e5 ((But.refl _ _).drew.trans hb2)
  clear hl hl1 h1 hmf hb1
  refine wp_region_any (by kernel_rfl) ?_
  change wpAny _ _ _ _ _ _ _ (World.drew _)
  refine wpAny_ready (rs := [0, 1, 2]) (by kernel_rfl) (by simp) ?_
  refine AllReady.cons rfl (fun K hK => ?_) ?_
  · go_simp
    refine hK _ _ ?_
    clear hK K
    refine wpAny_ready (rs := [1, 2]) (by kernel_rfl) (by simp) ?_
    refine AllReady.cons rfl (fun K hK => ?_) ?_
    · go_simp
      refine hK _ _ ?_
      clear hK K
      refine wpAny_ready (rs := [2]) (by kernel_rfl) (by simp) ?_
      refine AllReady.cons rfl (fun K hK => ?_) ?_
      · go_simp
        refine hK _ _ ?_
        clear hK K
        refine wpAny_ready (rs := [3]) (by kernel_rfl) (by simp) ?_
        refine AllReady.cons rfl (fun K hK => ?_) ?_
        · go_simp
          refine hK _ _ ?_
          clear hK K
          refine wpAny_ready (rs := [4]) (by kernel_rfl) (by simp) ?_
          refine AllReady.cons rfl (fun K hK => ?_) ?_
          · go_simp
            refine hK _ _ ?_
            clear hK K
            refine wpAny_ready (rs := [5]) (by kernel_rfl) (by simp) ?_
            refine AllReady.cons rfl (fun K hK => ?_) ?_
            · go_simp
              refine hK _ _ ?_
              clear hK K
              refine wpAny_ready (rs := [6]) (by kernel_rfl) (by simp) ?_
              refine AllReady.cons rfl (fun K hK => ?_) ?_
              · go_simp
                exact (hn _ hd1).mono fun e w2 h => by obtain ⟨rfl, h2, hb2⟩ := h; exact hleaf _ _ rfl rfl h2 hb2
              exact AllReady.nil
            exact AllReady.nil
          exact AllReady.nil
        exact AllReady.nil
      exact AllReady.nil
    refine AllReady.cons rfl (fun K hK => ?_) ?_
    · go_simp
      refine hK _ _ ?_
      clear hK K
      refine wpAny_ready (rs := [1, 3]) (by kernel_rfl) (by simp) ?_
      refine AllReady.cons rfl (fun K hK => ?_) ?_
      · go_simp
        refine hK _ _ ?_
        clear hK K
        refine wpAny_ready (rs := [3]) (by kernel_rfl) (by simp) ?_
        refine AllReady.cons rfl (fun K hK => ?_) ?_
        · go_simp
          refine hK _ _ ?_
          clear hK K
          refine wpAny_ready (rs := [4]) (by kernel_rfl) (by simp) ?_
          refine AllReady.cons rfl (fun K hK => ?_) ?_
          · go_simp
            refine hK _ _ ?_
            clear hK K
            refine wpAny_ready (rs := [5]) (by kernel_rfl) (by simp) ?_
            refine AllReady.cons rfl (fun K hK => ?_) ?_
            · go_simp
              refine hK _ _ ?_
              clear hK K
              refine wpAny_ready (rs := [6]) (by kernel_rfl) (by simp) ?_
              refine AllReady.cons rfl (fun K hK => ?_) ?_
              · go_simp
                exact (hn _ hd1).mono fun e w2 h => by obtain ⟨rfl, h2, hb2⟩ := h; exact hleaf _ _ rfl rfl h2 hb2
              exact AllReady.nil
            exact AllReady.nil
          exact AllReady.nil
        exact AllReady.nil
      refine AllReady.cons rfl (fun K hK => ?_) ?_
      · go_simp
        refine hK _ _ ?_
        clear hK K
        refine wpAny_ready (rs := [1, 4]) (by kernel_rfl) (by simp) ?_
        refine AllReady.cons rfl (fun K hK => ?_) ?_
        · go_simp
          refine hK _ _ ?_
          clear hK K
          refine wpAny_ready (rs := [4]) (by kernel_rfl) (by simp) ?_
          refine AllReady.cons rfl (fun K hK => ?_) ?_
          · go_simp
            refine hK _ _ ?_
            clear hK K
            refine wpAny_ready (rs := [5]) (by kernel_rfl) (by simp) ?_
            refine AllReady.cons rfl (fun K hK => ?_) ?_
            · go_simp
              refine hK _ _ ?_
              clear hK K
              refine wpAny_ready (rs := [6]) (by kernel_rfl) (by simp) ?_
              refine AllReady.cons rfl (fun K hK => ?_) ?_
              · go_simp
                exact (hn _ hd1).mono fun e w2 h => by obtain ⟨rfl, h2, hb2⟩ := h; exact hleaf _ _ rfl rfl h2 hb2
              exact AllReady.nil
            exact AllReady.nil
          exact AllReady.nil
        refine AllReady.cons rfl (fun K hK => ?_) ?_
        · go_simp
          refine hK _ _ ?_
          clear hK K
          refine wpAny_ready (rs := [1, 5]) (by kernel_rfl) (by simp) ?_
          refine AllReady.cons rfl (fun K hK => ?_) ?_
          · go_simp
            refine hK _ _ ?_
            clear hK K
            refine wpAny_ready (rs := [5]) (by kernel_rfl) (by simp) ?_
            refine AllReady.cons rfl (fun K hK => ?_) ?_
            · go_simp
              refine hK _ _ ?_
              clear hK K
              refine wpAny_ready (rs := [6]) (by kernel_rfl) (by simp) ?_
              refine AllReady.cons rfl (fun K hK => ?_) ?_
              · go_simp
                exact (hn _ hd1).mono fun e w2 h => by obtain ⟨rfl, h2, hb2⟩ := h; exact hleaf _ _ rfl rfl h2 hb2
              exact AllReady.nil
            exact AllReady.nil
          refine AllReady.cons rfl (fun K hK => ?_) ?_
          · go_simp
            refine hK _ _ ?_
            clear hK K
            refine wpAny_ready (rs := [1]) (by kernel_rfl) (by simp) ?_
            refine AllReady.cons rfl (fun K hK => ?_) ?_
            · go_simp
              refine hK _ _ ?_
              clear hK K
              refine wpAny_ready (rs := [6]) (by kernel_rfl) (by simp) ?_
              refine AllReady.cons rfl (fun K hK => ?_) ?_
              · go_simp
                exact (hn _ hd1).mono fun e w2 h => by obtain ⟨rfl, h2, hb2⟩ := h; exact hleaf _ _ rfl rfl h2 hb2
              exact AllReady.nil
            exact AllReady.nil
          exact AllReady.nil
        exact AllReady.nil
      exact AllReady.nil
    exact AllReady.nil
  refine AllReady.cons rfl (fun K hK => ?_) ?_
  · go_simp
    refine hK _ _ ?_
    clear hK K
    refine wpAny_ready (rs := [0, 2]) (by kernel_rfl) (by simp) ?_
    refine AllReady.cons rfl (fun K hK => ?_) ?_
    · go_simp
      refine hK _ _ ?_
      clear hK K
      refine wpAny_ready (rs := [2]) (by kernel_rfl) (by simp) ?_
      refine AllReady.cons rfl (fun K hK => ?_) ?_
      · go_simp
        refine hK _ _ ?_
        clear hK K
        refine wpAny_ready (rs := [3]) (by kernel_rfl) (by simp) ?_
        refine AllReady.cons rfl (fun K hK => ?_) ?_
        · go_simp
          refine hK _ _ ?_
          clear hK K
          refine wpAny_ready (rs := [4]) (by kernel_rfl) (by simp) ?_
          refine AllReady.cons rfl (fun K hK => ?_) ?_
          · go_simp
            refine hK _ _ ?_
            clear hK K
            refine wpAny_ready (rs := [5]) (by kernel_rfl) (by simp) ?_
            refine AllReady.cons rfl (fun K hK => ?_) ?_
            · go_simp
              refine hK _ _ ?_
              clear hK K
              refine wpAny_ready (rs := [6]) (by kernel_rfl) (by simp) ?_
              refine AllReady.cons rfl (fun K hK => ?_) ?_
              · go_simp
                exact (hn _ hd1).mono fun e w2 h => by obtain ⟨rfl, h2, hb2⟩ := h; exact hleaf _ _ rfl rfl h2 hb2
              exact AllReady.nil
            exact AllReady.nil
          exact AllReady.nil
        exact AllReady.nil
      exact AllReady.nil
    refine AllReady.cons rfl (fun K hK => ?_) ?_
    · go_simp
      refine hK _ _ ?_
      clear hK K
      refine wpAny_ready (rs := [0, 3]) (by kernel_rfl) (by simp) ?_
      refine AllReady.cons rfl (fun K hK => ?_) ?_
      · go_simp
        refine hK _ _ ?_
        clear hK K
        refine wpAny_ready (rs := [3]) (by kernel_rfl) (by simp) ?_
        refine AllReady.cons rfl (fun K hK => ?_) ?_
        · go_simp
          refine hK _ _ ?_
          clear hK K
          refine wpAny_ready (rs := [4]) (by kernel_rfl) (by simp) ?_
          refine AllReady.cons rfl (fun K hK => ?_) ?_
          · go_simp
            refine hK _ _ ?_
            clear hK K
            refine wpAny_ready (rs := [5]) (by kernel_rfl) (by simp) ?_
            refine AllReady.cons rfl (fun K hK => ?_) ?_
            · go_simp
              refine hK _ _ ?_
              clear hK K
              refine wpAny_ready (rs := [6]) (by kernel_rfl) (by simp) ?_
              refine AllReady.cons rfl (fun K hK => ?_) ?_
              · go_simp
                exact (hn _ hd1).mono fun e w2 h => by obtain ⟨rfl, h2, hb2⟩ := h; exact hleaf _ _ rfl rfl h2 hb2
              exact AllReady.nil
            exact AllReady.nil
          exact AllReady.nil
        exact AllReady.nil
      refine AllReady.cons rfl (fun K hK => ?_) ?_
      · go_simp
        refine hK _ _ ?_
        clear hK K
        refine wpAny_ready (rs := [0, 4]) (by kernel_rfl) (by simp) ?_
        refine AllReady.cons rfl (fun K hK => ?_) ?_
        · go_simp
          refine hK _ _ ?_
          clear hK K
          refine wpAny_ready (rs := [4]) (by kernel_rfl) (by simp) ?_
          refine AllReady.cons rfl (fun K hK => ?_) ?_
          · go_simp
            refine hK _ _ ?_
            clear hK K
            refine wpAny_ready (rs := [5]) (by kernel_rfl) (by simp) ?_
            refine AllReady.cons rfl (fun K hK => ?_) ?_
            · go_simp
              refine hK _ _ ?_
              clear hK K
              refine wpAny_ready (rs := [6]) (by kernel_rfl) (by simp) ?_
              refine AllReady.cons rfl (fun K hK => ?_) ?_
              · go_simp
                exact (hn _ hd1).mono fun e w2 h => by obtain ⟨rfl, h2, hb2⟩ := h; exact hleaf _ _ rfl rfl h2 hb2
              exact AllReady.nil
            exact AllReady.nil
          exact AllReady.nil
        refine AllReady.cons rfl (fun K hK => ?_) ?_
        · go_simp
          refine hK _ _ ?_
          clear hK K
          refine wpAny_ready (rs := [0, 5]) (by kernel_rfl) (by simp) ?_
          refine AllReady.cons rfl (fun K hK => ?_) ?_
          · go_simp
            refine hK _ _ ?_
            clear hK K
            refine wpAny_ready (rs := [5]) (by kernel_rfl) (by simp) ?_
            refine AllReady.cons rfl (fun K hK => ?_) ?_
            · go_simp
              refine hK _ _ ?_
              clear hK K
              refine wpAny_ready (rs := [6]) (by kernel_rfl) (by simp) ?_
              refine AllReady.cons rfl (fun K hK => ?_) ?_
              · go_simp
                exact (hn _ hd1).mono fun e w2 h => by obtain ⟨rfl, h2, hb2⟩ := h; exact hleaf _ _ rfl rfl h2 hb2
              exact AllReady.nil
            exact AllReady.nil
          refine AllReady.cons rfl (fun K hK => ?_) ?_
          · go_simp
            refine hK _ _ ?_
            clear hK K
            refine wpAny_ready (rs := [0, 6]) (by kernel_rfl) (by simp) ?_
            refine AllReady.cons rfl (fun K hK => ?_) ?_
            · go_simp
              refine hK _ _ ?_
              clear hK K
              refine wpAny_ready (rs := [6]) (by kernel_rfl) (by simp) ?_
              refine AllReady.cons rfl (fun K hK => ?_) ?_
              · go_simp
                exact (hn _ hd1).mono fun e w2 h => by obtain ⟨rfl, h2, hb2⟩ := h; exact hleaf _ _ rfl rfl h2 hb2
              exact AllReady.nil
            refine AllReady.cons rfl (fun K hK => ?_) ?_
            · go_simp
              exact (hn _ hd1).mono fun e w2 h => by obtain ⟨rfl, h2, hb2⟩ := h; exact hleaf _ _ rfl rfl h2 hb2
            exact AllReady.nil
          exact AllReady.nil
        exact AllReady.nil
      exact AllReady.nil
    exact AllReady.nil
  refine AllReady.cons rfl (fun K hK => ?_) ?_
  · go_simp
    refine hK _ _ ?_
    clear hK K
    refine wpAny_ready (rs := [0, 1, 3]) (by kernel_rfl) (by simp) ?_
    refine AllReady.cons rfl (fun K hK => ?_) ?_
    · go_simp
      refine hK _ _ ?_
      clear hK K
      refine wpAny_ready (rs := [1, 3]) (by kernel_rfl) (by simp) ?_
      refine AllReady.cons rfl (fun K hK => ?_) ?_
      · go_simp
        refine hK _ _ ?_
        clear hK K
        refine wpAny_ready (rs := [3]) (by kernel_rfl) (by simp) ?_
        refine AllReady.cons rfl (fun K hK => ?_) ?_
        · go_simp
          refine hK _ _ ?_
          clear hK K
          refine wpAny_ready (rs := [4]) (by kernel_rfl) (by simp) ?_
          refine AllReady.cons rfl (fun K hK => ?_) ?_
          · go_simp
            refine hK _ _ ?_
            clear hK K
            refine wpAny_ready (rs := [5]) (by kernel_rfl) (by simp) ?_
            refine AllReady.cons rfl (fun K hK => ?_) ?_
            · go_simp
              refine hK _ _ ?_
              clear hK K
              refine wpAny_ready (rs := [6]) (by kernel_rfl) (by simp) ?_
              refine AllReady.cons rfl (fun K hK => ?_) ?_
              · go_simp
                exact (hn _ hd1).mono fun e w2 h => by obtain ⟨rfl, h2, hb2⟩ := h; exact hleaf _ _ rfl rfl h2 hb2
              exact AllReady.nil
            exact AllReady.nil
          exact AllReady.nil
        exact AllReady.nil
      refine AllReady.cons rfl (fun K hK => ?_) ?_
      · go_simp
        refine hK _ _ ?_
        clear hK K
        refine wpAny_ready (rs := [1, 4]) (by kernel_rfl) (by simp) ?_
        refine AllReady.cons rfl (fun K hK => ?_) ?_
        · go_simp
          refine hK _ _ ?_
          clear hK K
          refine wpAny_ready (rs := [4]) (by kernel_rfl) (by simp) ?_
          refine AllReady.cons rfl (fun K hK => ?_) ?_
          · go_simp
            refine hK _ _ ?_
            clear hK K
            refine wpAny_ready (rs := [5]) (by kernel_rfl) (by simp) ?_
            refine AllReady.cons rfl (fun K hK => ?_) ?_
            · go_simp
              refine hK _ _ ?_
              clear hK K
              refine wpAny_ready (rs := [6]) (by kernel_rfl) (by simp) ?_
              refine AllReady.cons rfl (fun K hK => ?_) ?_
              · go_simp
                exact (hn _ hd1).mono fun e w2 h => by obtain ⟨rfl, h2, hb2⟩ := h; exact hleaf _ _ rfl rfl h2 hb2
              exact AllReady.nil
            exact AllReady.nil
          exact AllReady.nil
        refine AllReady.cons rfl (fun K hK => ?_) ?_
        · go_simp
          refine hK _ _ ?_
          clear hK K
          refine wpAny_ready (rs := [1, 5]) (by kernel_rfl) (by simp) ?_
          refine AllReady.cons rfl (fun K hK => ?_) ?_
          · go_simp
            refine hK _ _ ?_
            clear hK K
            refine wpAny_ready (rs := [5]) (by kernel_rfl) (by simp) ?_
            refine AllReady.cons rfl (fun K hK => ?_) ?_
            · go_simp
              refine hK _ _ ?_
              clear hK K
              refine wpAny_ready (rs := [6]) (by kernel_rfl) (by simp) ?_
              refine AllReady.cons rfl (fun K hK => ?_) ?_
              · go_simp
                exact (hn _ hd1).mono fun e w2 h => by obtain ⟨rfl, h2, hb2⟩ := h; exact hleaf _ _ rfl rfl h2 hb2
              exact AllReady.nil
            exact AllReady.nil
          refine AllReady.cons rfl (fun K hK => ?_) ?_
          · go_simp
            refine hK _ _ ?_
            clear hK K
            refine wpAny_ready (rs := [1]) (by kernel_rfl) (by simp) ?_
            refine AllReady.cons rfl (fun K hK => ?_) ?_
            · go_simp
              refine hK _ _ ?_
              clear hK K
              refine wpAny_ready (rs := [6]) (by kernel_rfl) (by simp) ?_
              refine AllReady.cons rfl (fun K hK => ?_) ?_
              · go_simp
                exact (hn _ hd1).mono fun e w2 h => by obtain ⟨rfl, h2, hb2⟩ := h; exact hleaf _ _ rfl rfl h2 hb2
              exact AllReady.nil
            exact AllReady.nil
          exact AllReady.nil
        exact AllReady.nil
      exact AllReady.nil
    refine AllReady.cons rfl (fun K hK => ?_) ?_
    · go_simp
      refine hK _ _ ?_
      clear hK K
      refine wpAny_ready (rs := [0, 3]) (by kernel_rfl) (by simp) ?_
      refine AllReady.cons rfl (fun K hK => ?_) ?_
      · go_simp
        refine hK _ _ ?_
        clear hK K
        refine wpAny_ready (rs := [3]) (by kernel_rfl) (by simp) ?_
        refine AllReady.cons rfl (fun K hK => ?_) ?_
        · go_simp
          refine hK _ _ ?_
          clear hK K
          refine wpAny_ready (rs := [4]) (by kernel_rfl) (by simp) ?_
          refine AllReady.cons rfl (fun K hK => ?_) ?_
          · go_simp
            refine hK _ _ ?_
            clear hK K
            refine wpAny_ready (rs := [5]) (by kernel_rfl) (by simp) ?_
            refine AllReady.cons rfl (fun K hK => ?_) ?_
            · go_simp
              refine hK _ _ ?_
              clear hK K
              refine wpAny_ready (rs := [6]) (by kernel_rfl) (by simp) ?_
              refine AllReady.cons rfl (fun K hK => ?_) ?_
              · go_simp
                exact (hn _ hd1).mono fun e w2 h => by obtain ⟨rfl, h2, hb2⟩ := h; exact hleaf _ _ rfl rfl h2 hb2
              exact AllReady.nil
            exact AllReady.nil
          exact AllReady.nil
        exact AllReady.nil
      refine AllReady.cons rfl (fun K hK => ?_) ?_
      · go_simp
        refine hK _ _ ?_
        clear hK K
        refine wpAny_ready (rs := [0, 4]) (by kernel_rfl) (by simp) ?_
        refine AllReady.cons rfl (fun K hK => ?_) ?_
        · go_simp
          refine hK _ _ ?_
          clear hK K
          refine wpAny_ready (rs := [4]) (by kernel_rfl) (by simp) ?_
          refine AllReady.cons rfl (fun K hK => ?_) ?_
          · go_simp
            refine hK _ _ ?_
            clear hK K
            refine wpAny_ready (rs := [5]) (by kernel_rfl) (by simp) ?_
            refine AllReady.cons rfl (fun K hK => ?_) ?_
            · go_simp
              refine hK _ _ ?_
              clear hK K
              refine wpAny_ready (rs := [6]) (by kernel_rfl) (by simp) ?_
              refine AllReady.cons rfl (fun K hK => ?_) ?_
              · go_simp
                exact (hn _ hd1).mono fun e w2 h => by obtain ⟨rfl, h2, hb2⟩ := h; exact hleaf _ _ rfl rfl h2 hb2
              exact AllReady.nil
            exact AllReady.nil
          exact AllReady.nil
        refine AllReady.cons rfl (fun K hK => ?_) ?_
        · go_simp
          refine hK _ _ ?_
          clear hK K
          refine wpAny_ready (rs := [0, 5]) (by kernel_rfl) (by simp) ?_
          refine AllReady.cons rfl (fun K hK => ?_) ?_
          · go_simp
            refine hK _ _ ?_
            clear hK K
            refine wpAny_ready (rs := [5]) (by kernel_rfl) (by simp) ?_
            refine AllReady.cons rfl (fun K hK => ?_) ?_
            · go_simp
              refine hK _ _ ?_
              clear hK K
              refine wpAny_ready (rs := [6]) (by kernel_rfl) (by simp) ?_
              refine AllReady.cons rfl (fun K hK => ?_) ?_
              · go_simp
                exact (hn _ hd1).mono fun e w2 h => by obtain ⟨rfl, h2, hb2⟩ := h; exact hleaf _ _ rfl rfl h2 hb2
              exact AllReady.nil
            exact AllReady.nil
          refine AllReady.cons rfl (fun K hK => ?_) ?_
          · go_simp
            refine hK _ _ ?_
            clear hK K
            refine wpAny_ready (rs := [0, 6]) (by kernel_rfl) (by simp) ?_
            refine AllReady.cons rfl (fun K hK => ?_) ?_
            · go_simp
              refine hK _ _ ?_
              clear hK K
              refine wpAny_ready (rs := [6]) (by kernel_rfl) (by simp) ?_
              refine AllReady.cons rfl (fun K hK => ?_) ?_
              · go_simp
                exact (hn _ hd1).mono fun e w2 h => by obtain ⟨rfl, h2, hb2⟩ := h; exact hleaf _ _ rfl rfl h2 hb2
              exact AllReady.nil
            refine AllReady.cons rfl (fun K hK => ?_) ?_
            · go_simp
              exact (hn _ hd1).mono fun e w2 h => by obtain ⟨rfl, h2, hb2⟩ := h; exact hleaf _ _ rfl rfl h2 hb2
            exact AllReady.nil
          exact AllReady.nil
        exact AllReady.nil
      exact AllReady.nil
    refine AllReady.cons rfl (fun K hK => ?_) ?_
    · go_simp
      refine hK _ _ ?_
      clear hK K
      refine wpAny_ready (rs := [0, 1, 4]) (by kernel_rfl) (by simp) ?_
      refine AllReady.cons rfl (fun K hK => ?_) ?_
      · go_simp
        refine hK _ _ ?_
        clear hK K
        refine wpAny_ready (rs := [1, 4]) (by kernel_rfl) (by simp) ?_
        refine AllReady.cons rfl (fun K hK => ?_) ?_
        · go_simp
          refine hK _ _ ?_
          clear hK K
          refine wpAny_ready (rs := [4]) (by kernel_rfl) (by simp) ?_
          refine AllReady.cons rfl (fun K hK => ?_) ?_
          · go_simp
            refine hK _ _ ?_
            clear hK K
            refine wpAny_ready (rs := [5]) (by kernel_rfl) (by simp) ?_
            refine AllReady.cons rfl (fun K hK => ?_) ?_
            · go_simp
              refine hK _ _ ?_
              clear hK K
              refine wpAny_ready (rs := [6]) (by kernel_rfl) (by simp) ?_
              refine AllReady.cons rfl (fun K hK => ?_) ?_
              · go_simp
                exact (hn _ hd1).mono fun e w2 h => by obtain ⟨rfl, h2, hb2⟩ := h; exact hleaf _ _ rfl rfl h2 hb2
              exact AllReady.nil
            exact AllReady.nil
          exact AllReady.nil
        refine AllReady.cons rfl (fun K hK => ?_) ?_
        · go_simp
          refine hK _ _ ?_
          clear hK K
          refine wpAny_ready (rs := [1, 5]) (by kernel_rfl) (by simp) ?_
          refine AllReady.cons rfl (fun K hK => ?_) ?_
          · go_simp
            refine hK _ _ ?_
            clear hK K
            refine wpAny_ready (rs := [5]) (by kernel_rfl) (by simp) ?_
            refine AllReady.cons rfl (fun K hK => ?_) ?_
            · go_simp
              refine hK _ _ ?_
              clear hK K
              refine wpAny_ready (rs := [6]) (by kernel_rfl) (by simp) ?_
              refine AllReady.cons rfl (fun K hK => ?_) ?_
              · go_simp
                exact (hn _ hd1).mono fun e w2 h => by obtain ⟨rfl, h2, hb2⟩ := h; exact hleaf _ _ rfl rfl h2 hb2
              exact AllReady.nil
            exact AllReady.nil
          refine AllReady.cons rfl (fun K hK => ?_) ?_
          · go_simp
            refine hK _ _ ?_
            clear hK K
            refine wpAny_ready (rs := [1]) (by kernel_rfl) (by simp) ?_
            refine AllReady.cons rfl (fun K hK => ?_) ?_
            · go_simp
              refine hK _ _ ?_
              clear hK K
              refine wpAny_ready (rs := [6]) (by kernel_rfl) (by simp) ?_
              refine AllReady.cons rfl (fun K hK => ?_) ?_
              · go_simp
                exact (hn _ hd1).mono fun e w2 h => by obtain ⟨rfl, h2, hb2⟩ := h; exact hleaf _ _ rfl rfl h2 hb2
              exact AllReady.nil
            exact AllReady.nil
          exact AllReady.nil
        exact AllReady.nil
      refine AllReady.cons rfl (fun K hK => ?_) ?_
      · go_simp
        refine hK _ _ ?_
        clear hK K
        refine wpAny_ready (rs := [0, 4]) (by kernel_rfl) (by simp) ?_
        refine AllReady.cons rfl (fun K hK => ?_) ?_
        · go_simp
          refine hK _ _ ?_
          clear hK K
          refine wpAny_ready (rs := [4]) (by kernel_rfl) (by simp) ?_
          refine AllReady.cons rfl (fun K hK => ?_) ?_
          · go_simp
            refine hK _ _ ?_
            clear hK K
            refine wpAny_ready (rs := [5]) (by kernel_rfl) (by simp) ?_
            refine AllReady.cons rfl (fun K hK => ?_) ?_
            · go_simp
              refine hK _ _ ?_
              clear hK K
              refine wpAny_ready (rs := [6]) (by kernel_rfl) (by simp) ?_
              refine AllReady.cons rfl (fun K hK => ?_) ?_
              · go_simp
                exact (hn _ hd1).mono fun e w2 h => by obtain ⟨rfl, h2, hb2⟩ := h; exact hleaf _ _ rfl rfl h2 hb2
              exact AllReady.nil
            exact AllReady.nil
          exact AllReady.nil
        refine AllReady.cons rfl (fun K hK => ?_) ?_
        · go_simp
          refine hK _ _ ?_
          clear hK K
          refine wpAny_ready (rs := [0, 5]) (by kernel_rfl) (by simp) ?_
          refine AllReady.cons rfl (fun K hK => ?_) ?_
          · go_simp
            refine hK _ _ ?_
            clear hK K
            refine wpAny_ready (rs := [5]) (by kernel_rfl) (by simp) ?_
            refine AllReady.cons rfl (fun K hK => ?_) ?_
            · go_simp
              refine hK _ _ ?_
              clear hK K
              refine wpAny_ready (rs := [6]) (by kernel_rfl) (by simp) ?_
              refine AllReady.cons rfl (fun K hK => ?_) ?_
              · go_simp
                exact (hn _ hd1).mono fun e w2 h => by obtain ⟨rfl, h2, hb2⟩ := h; exact hleaf _ _ rfl rfl h2 hb2
              exact AllReady.nil
            exact AllReady.nil
          refine AllReady.cons rfl (fun K hK => ?_) ?_
          · go_simp
            refine hK _ _ ?_
            clear hK K
            refine wpAny_ready (rs := [0, 6]) (by kernel_rfl) (by simp) ?_
            refine AllReady.cons rfl (fun K hK => ?_) ?_
            · go_simp
              refine hK _ _ ?_
              clear hK K
              refine wpAny_ready (rs := [6]) (by kernel_rfl) (by simp) ?_
              refine AllReady.cons rfl (fun K hK => ?_) ?_
              · go_simp
                exact (hn _ hd1).mono fun e w2 h => by obtain ⟨rfl, h2, hb2⟩ := h; exact hleaf _ _ rfl rfl h2 hb2
              exact AllReady.nil
            refine AllReady.cons rfl (fun K hK => ?_) ?_
            · go_simp
              exact (hn _ hd1).mono fun e w2 h => by obtain ⟨rfl, h2, hb2⟩ := h; exact hleaf _ _ rfl rfl h2 hb2
            exact AllReady.nil
          exact AllReady.nil
        exact AllReady.nil
      refine AllReady.cons rfl (fun K hK => ?_) ?_
      · go_simp
        refine hK _ _ ?_
        clear hK K
        refine wpAny_ready (rs := [0, 1, 5]) (by kernel_rfl) (by simp) ?_
        refine AllReady.cons rfl (fun K hK => ?_) ?_
        · go_simp
          refine hK _ _ ?_
          clear hK K
          refine wpAny_ready (rs := [1, 5]) (by kernel_rfl) (by simp) ?_
          refine AllReady.cons rfl (fun K hK => ?_) ?_
          · go_simp
            refine hK _ _ ?_
            clear hK K
            refine wpAny_ready (rs := [5]) (by kernel_rfl) (by simp) ?_
            refine AllReady.cons rfl (fun K hK => ?_) ?_
            · go_simp
              refine hK _ _ ?_
              clear hK K
              refine wpAny_ready (rs := [6]) (by kernel_rfl) (by simp) ?_
              refine AllReady.cons rfl (fun K hK => ?_) ?_
              · go_simp
                exact (hn _ hd1).mono fun e w2 h => by obtain ⟨rfl, h2, hb2⟩ := h; exact hleaf _ _ rfl rfl h2 hb2
              exact AllReady.nil
            exact AllReady.nil
          refine AllReady.cons rfl (fun K hK => ?_) ?_
          · go_simp
            refine hK _ _ ?_
            clear hK K
            refine wpAny_ready (rs := [1]) (by kernel_rfl) (by simp) ?_
            refine AllReady.cons rfl (fun K hK => ?_) ?_
            · go_simp
              refine hK _ _ ?_
              clear hK K
              refine wpAny_ready (rs := [6]) (by kernel_rfl) (by simp) ?_
              refine AllReady.cons rfl (fun K hK => ?_) ?_
              · go_simp
                exact (hn _ hd1).mono fun e w2 h => by obtain ⟨rfl, h2, hb2⟩ := h; exact hleaf _ _ rfl rfl h2 hb2
              exact AllReady.nil
            exact AllReady.nil
          exact AllReady.nil
        refine AllReady.cons rfl (fun K hK => ?_) ?_
        · go_simp
          refine hK _ _ ?_
          clear hK K
          refine wpAny_ready (rs := [0, 5]) (by kernel_rfl) (by simp) ?_
          refine AllReady.cons rfl (fun K hK => ?_) ?_
          · go_simp
            refine hK _ _ ?_
            clear hK K
            refine wpAny_ready (rs := [5]) (by kernel_rfl) (by simp) ?_
            refine AllReady.cons rfl (fun K hK => ?_) ?_
            · go_simp
              refine hK _ _ ?_
              clear hK K
              refine wpAny_ready (rs := [6]) (by kernel_rfl) (by simp) ?_
              refine AllReady.cons rfl (fun K hK => ?_) ?_
              · go_simp
                exact (hn _ hd1).mono fun e w2 h => by obtain ⟨rfl, h2, hb2⟩ := h; exact hleaf _ _ rfl rfl h2 hb2
              exact AllReady.nil
            exact AllReady.nil
          refine AllReady.cons rfl (fun K hK => ?_) ?_
          · go_simp
            refine hK _ _ ?_
            clear hK K
            refine wpAny_ready (rs := [0, 6]) (by kernel_rfl) (by simp) ?_
            refine AllReady.cons rfl (fun K hK => ?_) ?_
            · go_simp
              refine hK _ _ ?_
              clear hK K
              refine wpAny_ready (rs := [6]) (by kernel_rfl) (by simp) ?_
              refine AllReady.cons rfl (fun K hK => ?_) ?_
              · go_simp
                exact (hn _ hd1).mono fun e w2 h => by obtain ⟨rfl, h2, hb2⟩ := h; exact hleaf _ _ rfl rfl h2 hb2
              exact AllReady.nil
            refine AllReady.cons rfl (fun K hK => ?_) ?_
            · go_simp
              exact (hn _ hd1).mono fun e w2 h => by obtain ⟨rfl, h2, hb2⟩ := h; exact hleaf _ _ rfl rfl h2 hb2
            exact AllReady.nil
          exact AllReady.nil
        refine AllReady.cons rfl (fun K hK => ?_) ?_
        · go_simp
          refine hK _ _ ?_
          clear hK K
          refine wpAny_ready (rs := [0, 1]) (by kernel_rfl) (by simp) ?_
          refine AllReady.cons rfl (fun K hK => ?_) ?_
          · go_simp
            refine hK _ _ ?_
            clear hK K
            refine wpAny_ready (rs := [1]) (by kernel_rfl) (by simp) ?_
            refine AllReady.cons rfl (fun K hK => ?_) ?_
            · go_simp
              refine hK _ _ ?_
              clear hK K
              refine wpAny_ready (rs := [6]) (by kernel_rfl) (by simp) ?_
              refine AllReady.cons rfl (fun K hK => ?_) ?_
              · go_simp
                exact (hn _ hd1).mono fun e w2 h => by obtain ⟨rfl, h2, hb2⟩ := h; exact hleaf _ _ rfl rfl h2 hb2
              exact AllReady.nil
            exact AllReady.nil
          refine AllReady.cons rfl (fun K hK => ?_) ?_
          · go_simp
            refine hK _ _ ?_
            clear hK K
            refine wpAny_ready (rs := [0, 6]) (by kernel_rfl) (by simp) ?_
            refine AllReady.cons rfl (fun K hK => ?_) ?_
            · go_simp
              refine hK _ _ ?_
              clear hK K
              refine wpAny_ready (rs := [6]) (by kernel_rfl) (by simp) ?_
              refine AllReady.cons rfl (fun K hK => ?_) ?_
              · go_simp
                exact (hn _ hd1).mono fun e w2 h => by obtain ⟨rfl, h2, hb2⟩ := h; exact hleaf _ _ rfl rfl h2 hb2
              exact AllReady.nil
            refine AllReady.cons rfl (fun K hK => ?_) ?_
            · go_simp
              exact (hn _ hd1).mono fun e w2 h => by obtain ⟨rfl, h2, hb2⟩ := h; exact hleaf _ _ rfl rfl h2 hb2
            exact AllReady.nil
          exact AllReady.nil
        exact AllReady.nil
      exact AllReady.nil
    exact AllReady.nil
  exact AllReady.nil
end Go.Proofs.Yteblpjnkinghoaa.J
/- The program's next, whole. -/
set_option linter.unusedVariables false
set_option linter.unusedSimpArgs false
namespace Go.Proofs.Yteblpjnkinghoaa.J
open Go.RowKit Go.Proofs.YteblpjnkinghoaaW.PrintWords Go.Proofs.YteblpjnkinghoaaW.PrintLast Go.Proofs.YteblpjnkinghoaaW.PrintMore
/-- What next does: at the end of the bytes or at something wrong the state is marked; else the note and its sum. -/
def NextEnd (R E : Nat) (s : ByteArray) (used sum : Int) (w : World) : Out → Ending → World → Prop
  | .torn, e, w' => e = .returned (.tuple #[nilV, .bool false]) ∧ St E used sum true 0 w' ∧ But (fun b => b = R ∨ b = E) w w'
  | .wrong, e, w' => e = .returned (.tuple #[nilV, .bool false]) ∧ St E used sum false 12 w' ∧ But (fun b => b = R ∨ b = E) w w'
  | .ok n sm fin, e, w' => e = .returned (.tuple #[.agg #[.int .i64 n.f0, .int .i64 n.f1, .string n.f2, .bool n.f3, .string n.f4], .bool true]) ∧ St E used sm false 0 w' ∧ Rd R s fin w' ∧ But (fun b => b = R ∨ b = E) w w'

theorem next_torn (R E : Nat) (s : ByteArray) (i : Int) (used sum : Int) (w : World) (h : Rd R s i w) (hE : St E used sum false 0 w) (hER : ¬ E = R) (hi : 0 ≤ i) (hb : (s.size : Int) ≤ 100000) (hi2 : i ≤ s.size) (ho : peek s i sum = .torn) :
    Calls Try.prog 73 #[.pointer (some ⟨R, 0, none⟩), .pointer (some ⟨E, 0, none⟩)] w (NextEnd R E s used sum w .torn) := by
  refine next_dead R E s i used sum w h hE 119 _ (fun w' h' => ?_) ?_
  · have hn := note_calls R s i sum w' h' hi hb hi2
    rw [ho] at hn
    exact hn
  · intro B Z w1 w2 T hBR hBE hZR hZE hB hZ hb1 h1 h4 h5 hb2
    have hS := h1.st.past hb2 hER
    have hc3 : w1.cell? ⟨B, 0, none⟩ = some (.pointer (some ⟨E, 0, none⟩)) := (blk_cell h1.bk 0).trans rfl
    have hc3' := (hb2.cell (p := ⟨B, 0, none⟩) (blk_lt h1.bk) hBR).trans hc3
    refine next_leaf T R E B Z 119 w w2 _ (w2.setCell ⟨E, 2, none⟩ (.bool true)) h4 h5 ?_ (catch_torn B E [] w2 hc3' hS.c2 hS.z2) ⟨rfl, hS.set2 true, ?_⟩
    · rw [Below.heap_setCell _ _ _ _ hZE]
      exact (hb2.block Z (blk_lt h1.zt) hZR).trans h1.zt
    · exact ((But.of_below hb1).trans (hb2.mono fun k _ hk => Or.inl hk)).set (S := fun b => b = R ∨ b = E) (p := ⟨E, 2, none⟩) (Or.inr rfl) _
theorem next_wrong (R E : Nat) (s : ByteArray) (i : Int) (used sum : Int) (w : World) (h : Rd R s i w) (hE : St E used sum false 0 w) (hER : ¬ E = R) (hi : 0 ≤ i) (hb : (s.size : Int) ≤ 100000) (hi2 : i ≤ s.size) (ho : peek s i sum = .wrong) :
    Calls Try.prog 73 #[.pointer (some ⟨R, 0, none⟩), .pointer (some ⟨E, 0, none⟩)] w (NextEnd R E s used sum w .wrong) := by
  refine next_dead R E s i used sum w h hE 120 _ (fun w' h' => ?_) ?_
  · have hn := note_calls R s i sum w' h' hi hb hi2
    rw [ho] at hn
    exact hn
  · intro B Z w1 w2 T hBR hBE hZR hZE hB hZ hb1 h1 h4 h5 hb2
    have hS := h1.st.past hb2 hER
    have hc3 : w1.cell? ⟨B, 0, none⟩ = some (.pointer (some ⟨E, 0, none⟩)) := (blk_cell h1.bk 0).trans rfl
    have hc3' := (hb2.cell (p := ⟨B, 0, none⟩) (blk_lt h1.bk) hBR).trans hc3
    refine next_leaf T R E B Z 120 w w2 _ (w2.setCell ⟨E, 3, none⟩ (.int .i64 12)) h4 h5 ?_ (catch_wrong B E [] w2 hc3' hS.c3 hS.z3) ⟨rfl, hS.set3 12, ?_⟩
    · rw [Below.heap_setCell _ _ _ _ hZE]
      exact (hb2.block Z (blk_lt h1.zt) hZR).trans h1.zt
    · exact ((But.of_below hb1).trans (hb2.mono fun k _ hk => Or.inl hk)).set (S := fun b => b = R ∨ b = E) (p := ⟨E, 3, none⟩) (Or.inr rfl) _
theorem St.set1 {E : Nat} {used sum : Int} {t : Bool} {e : Int} {w : World} (h : St E used sum t e w) (x : Int) : St E used x t e (w.setCell ⟨E, 1, none⟩ (.int .u64 x)) :=
  ⟨(World.cell?_setCell_other _ _ _ _ (by simp)).trans h.c0, World.cell?_setCell_same _ _ _ h.c1, (World.cell?_setCell_other _ _ _ _ (by simp)).trans h.c2, (World.cell?_setCell_other _ _ _ _ (by simp)).trans h.c3,
   (World.frozen?_setCell _ _ _ _).trans h.z0, (World.frozen?_setCell _ _ _ _).trans h.z1, (World.frozen?_setCell _ _ _ _).trans h.z2, (World.frozen?_setCell _ _ _ _).trans h.z3⟩
theorem St.far {E : Nat} {used sum : Int} {t : Bool} {e : Int} {w : World} (h : St E used sum t e w) {p : Addr} (hp : ¬ p.block = E) (v : Value) : St E used sum t e (w.setCell p v) :=
  ⟨(World.cell?_setCell_other _ _ _ _ (far_ne hp)).trans h.c0, (World.cell?_setCell_other _ _ _ _ (far_ne hp)).trans h.c1, (World.cell?_setCell_other _ _ _ _ (far_ne hp)).trans h.c2, (World.cell?_setCell_other _ _ _ _ (far_ne hp)).trans h.c3,
   (World.frozen?_setCell _ _ _ _).trans h.z0, (World.frozen?_setCell _ _ _ _).trans h.z1, (World.frozen?_setCell _ _ _ _).trans h.z2, (World.frozen?_setCell _ _ _ _).trans h.z3⟩
/-- A note laid into a block that holds one. -/
def lay39 (w : World) (Z : Nat) (n : S39) : World := ((((w.setCell ⟨Z, 0, none⟩ (.int .i64 n.f0)).setCell ⟨Z, 1, none⟩ (.int .i64 n.f1)).setCell ⟨Z, 2, none⟩ (.string n.f2)).setCell ⟨Z, 3, none⟩ (.bool n.f3)).setCell ⟨Z, 4, none⟩ (.string n.f4)
theorem lay39_blk {w : World} {Z : Nat} {a b : Int} {c : ByteArray} {d : Bool} {e : ByteArray} (h : w.heap[Z]? = some (.cells #[.int .i64 a, .int .i64 b, .string c, .bool d, .string e] 39 (0, 0))) (n : S39) :
    (lay39 w Z n).heap[Z]? = some (.cells #[.int .i64 n.f0, .int .i64 n.f1, .string n.f2, .bool n.f3, .string n.f4] 39 (0, 0)) := by
  unfold lay39
  refine blk_put (cs := #[.int .i64 n.f0, .int .i64 n.f1, .string n.f2, .bool n.f3, .string e]) ?_ 4 _ rfl
  refine blk_put (cs := #[.int .i64 n.f0, .int .i64 n.f1, .string n.f2, .bool d, .string e]) ?_ 3 _ rfl
  refine blk_put (cs := #[.int .i64 n.f0, .int .i64 n.f1, .string c, .bool d, .string e]) ?_ 2 _ rfl
  refine blk_put (cs := #[.int .i64 n.f0, .int .i64 b, .string c, .bool d, .string e]) ?_ 1 _ rfl
  refine blk_put (cs := #[.int .i64 a, .int .i64 b, .string c, .bool d, .string e]) ?_ 0 _ rfl
  exact h
theorem lay39_rd {w : World} {Z : Nat} {R : Nat} {s : ByteArray} {i : Int} (h : Rd R s i w) (hZ : ¬ Z = R) (n : S39) : Rd R s i (lay39 w Z n) :=
  ((((h.far (p := ⟨Z, 0, none⟩) hZ _).far (p := ⟨Z, 1, none⟩) hZ _).far (p := ⟨Z, 2, none⟩) hZ _).far (p := ⟨Z, 3, none⟩) hZ _).far (p := ⟨Z, 4, none⟩) hZ _
theorem lay39_st {w : World} {Z E : Nat} {used sum : Int} {t : Bool} {e : Int} (h : St E used sum t e w) (hZ : ¬ Z = E) (n : S39) : St E used sum t e (lay39 w Z n) :=
  ((((h.far (p := ⟨Z, 0, none⟩) hZ _).far (p := ⟨Z, 1, none⟩) hZ _).far (p := ⟨Z, 2, none⟩) hZ _).far (p := ⟨Z, 3, none⟩) hZ _).far (p := ⟨Z, 4, none⟩) hZ _
theorem lay39_but {a w : World} {Z : Nat} {S : Nat → Prop} (h : But S a w) (hZ : a.heap.size ≤ Z) (n : S39) : But S a (lay39 w Z n) :=
  ((((h.new (p := ⟨Z, 0, none⟩) hZ _).new (p := ⟨Z, 1, none⟩) hZ _).new (p := ⟨Z, 2, none⟩) hZ _).new (p := ⟨Z, 3, none⟩) hZ _).new (p := ⟨Z, 4, none⟩) hZ _
set_option maxHeartbeats 8000000 in
set_option maxRecDepth 100000 in
theorem next_ok (R E : Nat) (s : ByteArray) (i : Int) (used sum : Int) (w : World) (h : Rd R s i w) (hE : St E used sum false 0 w) (hER : ¬ E = R) (hi : 0 ≤ i) (hb : (s.size : Int) ≤ 100000) (hi2 : i ≤ s.size) (n : S39) (sm fin : Int) (ho : peek s i sum = .ok n sm fin) :
    Calls Try.prog 73 #[.pointer (some ⟨R, 0, none⟩), .pointer (some ⟨E, 0, none⟩)] w (NextEnd R E s used sum w (.ok n sm fin)) := by
  have hn := fun w' h' => note_calls R s i sum w' h' hi hb hi2
  rw [ho] at hn
  obtain ⟨f0, f1, f2, f3, f4⟩ := n
  have hmf : ∀ (fn : Fn) (first cap : Array Value) (w : World), (Instr.makeFunc fn first cap).run Try.prog w = .ok (.func fn first cap) w := fun _ _ _ _ => rfl
  obtain ⟨h1, hb1⟩ := next_start R E s i used sum w h hE
  go_enter_defers Try.func73, Try.ntmps73
  go_upto_region 2 with (fail)
  have hBR : ¬ w.heap.size = R := by have := h.lt; omega
  have hBE : ¬ w.heap.size = E := by have := cell_lt hE.c0; simp at this; omega
  have hZR : ¬ w.heap.size + 1 = R := by have := h.lt; omega
  have hZE : ¬ w.heap.size + 1 = E := by have := cell_lt hE.c0; simp at this; omega
  have hEZ : ¬ E = w.heap.size + 1 := fun e => hZE e.symm
  have hZB : ¬ w.heap.size + 1 = w.heap.size := by omega
  have hZw0 : w.heap.size ≤ w.heap.size + 1 := by omega
  replace hb1 := But.of_below (S := fun b => b = R ∨ b = E) hb1
  obtain ⟨B, hB⟩ : ∃ B, w.heap.size = B := ⟨_, rfl⟩
  obtain ⟨Z, hZ⟩ : ∃ Z, w.heap.size + 1 = Z := ⟨_, rfl⟩
  have hZw : w.heap.size ≤ Z := by omega
  rw [hZ, hB] at h1 hZB
  rw [hB] at hBR hBE
  rw [hZ] at hZR hZE hEZ
  rw [hZ, hB]
  generalize (w.alloc (.cells #[.pointer (some ⟨E, 0, none⟩)] 83)).alloc nil39 = w1 at h1 hb1 ⊢
  clear hZw0
  have hc3 : w1.drew.cell? ⟨B, 0, none⟩ = some (.pointer (some ⟨E, 0, none⟩)) := (blk_cell h1.bk 0).trans rfl
  have hc1 : w1.drew.cell? ⟨E, 1, none⟩ = some (.int .u64 sum) := h1.st.c1
  have hd1 : Rd R s i w1.drew := h1.rd.past (below_drew (Below.refl _ _))
  refine wp_region_noPanic ?_
  go_region_with (go_at_call 87; refine (hn _ hd1).mono ?_; rintro e w2 ⟨rfl, h2, hb2⟩; have hc3' := (hb2.cell (p := ⟨B, 0, none⟩) (blk_lt h1.bk) hBR).trans hc3; have hzt : w2.heap[Z]? = some nil39 := (hb2.block Z (blk_lt h1.zt) hZR).trans h1.zt; have hS : St E used sum false 0 w2 := (h1.st.past (But.of_below (S := (· = R)) (below_drew (Below.refl _ _))) hER).past hb2 hER; have hz0 : w2.cell? ⟨Z, 0, none⟩ = some (.int .i64 0) := (blk_cell hzt 0).trans rfl; have hz1 : w2.cell? ⟨Z, 1, none⟩ = some (.int .i64 0) := (blk_cell hzt 1).trans rfl; have hz2 : w2.cell? ⟨Z, 2, none⟩ = some (.string ⟨#[]⟩) := (blk_cell hzt 2).trans rfl; have hz3 : w2.cell? ⟨Z, 3, none⟩ = some (.bool false) := (blk_cell hzt 3).trans rfl; have hz4 : w2.cell? ⟨Z, 4, none⟩ = some (.string ⟨#[]⟩) := (blk_cell hzt 4).trans rfl; have hf0 := blk_frozen hzt 0; have hf1 := blk_frozen hzt 1; have hf2 := blk_frozen hzt 2; have hf3 := blk_frozen hzt 3; have hf4 := blk_frozen hzt 4; have hs1 := hS.c1; have hsz := hS.z1)
  all_goals
    refine NoPanic.normal ?_
    have hzt3 := lay39_blk hzt ⟨f0, f1, f2, f3, f4⟩
    have h3 := lay39_rd h2 hZR ⟨f0, f1, f2, f3, f4⟩
    have hS3 := lay39_st hS hZE ⟨f0, f1, f2, f3, f4⟩
    have hb3 := lay39_but ((hb1.drew).trans (hb2.mono fun k _ hk => Or.inl hk)) hZw ⟨f0, f1, f2, f3, f4⟩
    have e3 : lay39 w2 Z ⟨f0, f1, f2, f3, f4⟩ = ((((w2.setCell ⟨Z, 0, none⟩ (.int .i64 f0)).setCell ⟨Z, 1, none⟩ (.int .i64 f1)).setCell ⟨Z, 2, none⟩ (.string f2)).setCell ⟨Z, 3, none⟩ (.bool f3)).setCell ⟨Z, 4, none⟩ (.string f4) := rfl
    rw [← e3]
    clear e3
    generalize lay39 w2 Z ⟨f0, f1, f2, f3, f4⟩ = w3 at hzt3 h3 hS3 hb3 ⊢
    replace h3 := h3.far (p := ⟨E, 1, none⟩) hER (.int .u64 sm)
    replace hS3 := hS3.set1 sm
    replace hb3 := hb3.set (S := fun b => b = R ∨ b = E) (p := ⟨E, 1, none⟩) (Or.inr rfl) (.int .u64 sm)
    replace hzt3 := (Below.heap_setCell w3 ⟨E, 1, none⟩ (.int .u64 sm) Z hZE).trans hzt3
    generalize w3.setCell ⟨E, 1, none⟩ (.int .u64 sm) = w4 at hzt3 h3 hS3 hb3 ⊢
    clear hc3' hzt hS hz0 hz1 hz2 hz3 hz4 hf0 hf1 hf2 hf3 hf4 hs1 hsz hb2 h2
    have hz0 : w4.cell? ⟨Z, 0, none⟩ = some (.int .i64 f0) := (blk_cell hzt3 0).trans rfl
    have hz1 : w4.cell? ⟨Z, 1, none⟩ = some (.int .i64 f1) := (blk_cell hzt3 1).trans rfl
    have hz2 : w4.cell? ⟨Z, 2, none⟩ = some (.string f2) := (blk_cell hzt3 2).trans rfl
    have hz3 : w4.cell? ⟨Z, 3, none⟩ = some (.bool f3) := (blk_cell hzt3 3).trans rfl
    have hz4 : w4.cell? ⟨Z, 4, none⟩ = some (.string f4) := (blk_cell hzt3 4).trans rfl
    have hf0 := blk_frozen hzt3 0
    have hf1 := blk_frozen hzt3 1
    have hf2 := blk_frozen hzt3 2
    have hf3 := blk_frozen hzt3 3
    have hf4 := blk_frozen hzt3 4
    go_wp2
    refine leaves_cons (f := 86) (args := #[.pointer (some ⟨B, 0, none⟩)]) (by simp) (by simp [go_sem]) ?_
    refine (catch_idle B E _).mono ?_
    rintro e u' w5 ⟨rfl, rfl, rfl⟩
    have e5 : lay39 w4 Z ⟨f0, f1, f2, f3, f4⟩ = ((((w4.setCell ⟨Z, 0, none⟩ (.int .i64 f0)).setCell ⟨Z, 1, none⟩ (.int .i64 f1)).setCell ⟨Z, 2, none⟩ (.string f2)).setCell ⟨Z, 3, none⟩ (.bool f3)).setCell ⟨Z, 4, none⟩ (.string f4) := rfl
    rw [← e5]
    have hzt5 := lay39_blk hzt3 ⟨f0, f1, f2, f3, f4⟩
    have h5 := lay39_rd h3 hZR ⟨f0, f1, f2, f3, f4⟩
    have hS5 := lay39_st hS3 hZE ⟨f0, f1, f2, f3, f4⟩
    have hb5 := lay39_but hb3 hZw ⟨f0, f1, f2, f3, f4⟩
    exact ⟨_, results_list (rs := [.cell 4 39, .tmp 5]) rfl (by simp) (.cell Z 39 #[.int .i64 f0, .int .i64 f1, .string f2, .bool f3, .string f4] (0, 0) _ rfl hzt5 Try.underlying39 rfl (by kernel_rfl) (.tmp .nil)), rfl, hS5, h5, hb5⟩
end Go.Proofs.Yteblpjnkinghoaa.J
