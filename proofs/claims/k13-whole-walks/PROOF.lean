import PyProof.Rows.All
import Wide.All
import OpenK.AllK
import Wide.FinOn
import HandS.ForMost
import HandS.More
import HandS.Exc
import HandS.ExcOwn
import HandS.WordsExc
import KE.KDictDisplayH
import KE.KDictCopyH
import KE.KDictKeyed
import HandS.Lambda
import HandS.SortKw
import KE.SortKeyHeap
import KE.DataMinMax
import HandS.Conv
import HandS.IsInst
import HandS.Property
import HandS.SortRule
import HandS.Iter
import HandS.Walk
import KE.GoesMore
import KE.GoesEnum
import KE.GoesNew
import KE.SortData
import HandS.ExcIs
import KE.KStateDown
import HandS.TryOnly
import HandS.EndTab
import HandS.HeadWalk
import HandS.Defaults
import HandS.Head0
import HandS.Head1
import HandS.Head2
import HandS.HeadEnd
import HandS.HeadHook1
import HandS.HeadHook2
import HandS.HeadHook3
import HandS.HeadHook4
import PySem.Challenge.RW_oldmap_k13_whole_walks
set_option autoImplicit false
/-! Walks on a grid, fewest paces, the least of the shortest walks: plain mathematics, no program in sight. -/
namespace Wk
abbrev Cell := Int × Int
/-- cells in order, strictly -/
def clt (a b : Cell) : Prop := a.1 < b.1 ∨ (a.1 = b.1 ∧ a.2 < b.2)
instance (a b : Cell) : Decidable (clt a b) := by unfold clt; exact inferInstance
theorem clt_irrefl (a : Cell) : ¬ clt a a := by unfold clt; omega
theorem clt_asymm {a b : Cell} (h : clt a b) : ¬ clt b a := by unfold clt at *; omega
theorem clt_trans {a b c : Cell} (h : clt a b) (k : clt b c) : clt a c := by unfold clt at *; omega
theorem clt_total {a b : Cell} (h : a ≠ b) : clt a b ∨ clt b a := by
  unfold clt
  by_cases h1 : a.1 = b.1
  · have h2 : a.2 ≠ b.2 := fun e => h (Prod.ext h1 e)
    omega
  · omega
/-- the four moves, as the program has them -/
def mvs : List Cell := [(-1, 0), (0, 1), (1, 0), (0, -1)]
def nb4 (c : Cell) : List Cell := mvs.map fun m => (c.1 + m.1, c.2 + m.2)
/-- the four cells beside, ascending -/
def nbA (c : Cell) : List Cell := [(c.1 - 1, c.2), (c.1, c.2 - 1), (c.1, c.2 + 1), (c.1 + 1, c.2)]
def nbs (L : Cell → Bool) (c : Cell) : List Cell := (nbA c).filter L
theorem nb4_eq (c : Cell) : nb4 c = [(c.1 - 1, c.2), (c.1, c.2 + 1), (c.1 + 1, c.2), (c.1, c.2 - 1)] := by
  simp [nb4, mvs]
  constructor <;> rfl
theorem nb4_perm (c : Cell) : (nb4 c).Perm (nbA c) := by
  rw [nb4_eq]
  unfold nbA
  refine List.Perm.cons _ ?_
  exact ((List.perm_append_comm (l₁ := [(c.1, c.2 + 1), (c.1 + 1, c.2)]) (l₂ := [(c.1, c.2 - 1)])))
theorem nbA_sorted (c : Cell) : (nbA c).Pairwise clt := by
  unfold nbA
  simp only [List.pairwise_cons, List.mem_cons, List.not_mem_nil, or_false, forall_eq_or_imp, forall_eq, false_imp_iff, implies_true, and_true, List.Pairwise.nil]
  unfold clt
  dsimp only
  refine ⟨⟨?_, ?_, ?_⟩, ⟨?_, ?_⟩, ?_⟩ <;> omega
theorem nbs_sorted (L : Cell → Bool) (c : Cell) : (nbs L c).Pairwise clt := (nbA_sorted c).filter L
theorem nbs_perm (L : Cell → Bool) (c : Cell) : ((nb4 c).filter L).Perm (nbs L c) := (nb4_perm c).filter L
def Adj (a b : Cell) : Prop := b ∈ nbA a
theorem adj_iff {a b : Cell} : Adj a b ↔ (b.1 = a.1 - 1 ∧ b.2 = a.2) ∨ (b.1 = a.1 ∧ b.2 = a.2 - 1) ∨ (b.1 = a.1 ∧ b.2 = a.2 + 1) ∨ (b.1 = a.1 + 1 ∧ b.2 = a.2) := by
  unfold Adj nbA
  simp only [List.mem_cons, List.not_mem_nil, or_false]
  constructor
  · rintro (h | h | h | h) <;> (rw [h]; simp)
  · rintro (⟨h, k⟩ | ⟨h, k⟩ | ⟨h, k⟩ | ⟨h, k⟩)
    · exact .inl (Prod.ext h k)
    · exact .inr (.inl (Prod.ext h k))
    · exact .inr (.inr (.inl (Prod.ext h k)))
    · exact .inr (.inr (.inr (Prod.ext h k)))
theorem Adj.symm {a b : Cell} (h : Adj a b) : Adj b a := by
  rw [adj_iff] at *
  omega
theorem mem_nbs {L : Cell → Bool} {a b : Cell} : b ∈ nbs L a ↔ Adj a b ∧ L b = true := by
  unfold nbs Adj
  rw [List.mem_filter]
theorem mem_nb4 {a b : Cell} : b ∈ nb4 a ↔ Adj a b := (nb4_perm a).mem_iff

/-! ### walks -/
inductive Walk (L : Cell → Bool) : Cell → Cell → List Cell → Prop where
  | one {a : Cell} : L a = true → Walk L a a [a]
  | step {a b c : Cell} {w : List Cell} : L a = true → Adj a b → Walk L b c w → Walk L a c (a :: w)
section
variable {L : Cell → Bool} {a b c s : Cell} {w w' : List Cell} {n m k : Nat}
theorem Walk.head (h : Walk L a b w) : ∃ r, w = a :: r := by
  cases h with
  | one _ => exact ⟨_, rfl⟩
  | step _ _ _ => exact ⟨_, rfl⟩
theorem Walk.la (h : Walk L a b w) : L a = true := by
  cases h with
  | one x => exact x
  | step x _ _ => exact x
theorem Walk.lb (h : Walk L a b w) : L b = true := by
  induction h with
  | one x => exact x
  | step _ _ _ ih => exact ih
theorem Walk.pos (h : Walk L a b w) : 0 < w.length := by
  obtain ⟨r, rfl⟩ := h.head
  exact Nat.succ_pos _
theorem Walk.snoc (h : Walk L a b w) (x : Adj b c) (l : L c = true) : Walk L a c (w ++ [c]) := by
  induction h with
  | one y => exact .step y x (.one l)
  | step y z _ ih => exact .step y z (ih x)
theorem Walk.unsnoc (h : Walk L a c w) : (w = [c] ∧ a = c) ∨ ∃ b w', w = w' ++ [c] ∧ Walk L a b w' ∧ Adj b c ∧ L c = true := by
  induction h with
  | one y => exact .inl ⟨rfl, rfl⟩
  | @step a b c w y z h ih =>
    right
    rcases ih with ⟨e, e2⟩ | ⟨d, w', e, h2, x, l⟩
    · subst e2
      subst e
      exact ⟨a, [a], rfl, .one y, z, h.lb⟩
    · subst e
      exact ⟨d, a :: w', rfl, .step y z h2, x, l⟩
theorem Walk.rev (h : Walk L a b w) : Walk L b a w.reverse := by
  induction h with
  | one y => exact .one y
  | step y z _ ih =>
    rw [List.reverse_cons]
    exact ih.snoc z.symm y
/-- n paces, and no fewer -/
def Di (L : Cell → Bool) (a b : Cell) (n : Nat) : Prop := (∃ w, Walk L a b w ∧ w.length = n + 1) ∧ ∀ w, Walk L a b w → n + 1 ≤ w.length
theorem Di.uniq (h : Di L a b n) (k : Di L a b m) : n = m := by
  obtain ⟨⟨w, x, e⟩, y⟩ := h
  obtain ⟨⟨w', x', e'⟩, y'⟩ := k
  have h1 := y _ x'
  have h2 := y' _ x
  omega
theorem Di.symm (h : Di L a b n) : Di L b a n := by
  obtain ⟨⟨w, x, e⟩, y⟩ := h
  refine ⟨⟨w.reverse, x.rev, by rw [List.length_reverse, e]⟩, fun w' x' => ?_⟩
  have := y _ x'.rev
  rwa [List.length_reverse] at this
theorem Di.zero (l : L a = true) : Di L a a 0 := ⟨⟨[a], .one l, rfl⟩, fun w h => h.pos⟩
theorem Di.eq_of_zero (h : Di L a b 0) : a = b := by
  obtain ⟨⟨w, x, e⟩, _⟩ := h
  cases x with
  | one _ => rfl
  | step _ _ z =>
    have := z.pos
    rw [List.length_cons] at e
    omega
/-- a walk gives a least number -/
theorem di_of_len : ∀ (n : Nat) (w : List Cell), Walk L a b w → w.length = n + 1 → ∃ m, m ≤ n ∧ Di L a b m := by
  intro n
  induction n using Nat.strongRecOn with
  | ind n ih =>
    intro w h e
    by_cases q : ∀ w', Walk L a b w' → n + 1 ≤ w'.length
    · exact ⟨n, Nat.le_refl _, ⟨w, h, e⟩, q⟩
    · obtain ⟨w', hw⟩ := Classical.not_forall.mp q
      obtain ⟨h', hn⟩ := Classical.not_imp.mp hw
      have p := h'.pos
      obtain ⟨m, hm, d⟩ := ih (w'.length - 1) (by omega) w' h' (by omega)
      exact ⟨m, by omega, d⟩
theorem di_of_walk (h : Walk L a b w) : ∃ m, m + 1 ≤ w.length ∧ Di L a b m := by
  have p := h.pos
  obtain ⟨m, hm, d⟩ := di_of_len (w.length - 1) w h (by omega)
  exact ⟨m, by omega, d⟩
theorem Di.next (h : Di L s b n) (x : Adj b c) (l : L c = true) : ∃ m, m ≤ n + 1 ∧ Di L s c m := by
  obtain ⟨⟨w, y, e⟩, _⟩ := h
  obtain ⟨m, hm, d⟩ := di_of_walk (y.snoc x l)
  rw [List.length_append, e] at hm
  exact ⟨m, by simpa using hm, d⟩
theorem Di.la (h : Di L a b n) : L a = true := by
  obtain ⟨⟨w, y, e⟩, _⟩ := h
  exact y.la
theorem Di.lb (h : Di L a b n) : L b = true := by
  obtain ⟨⟨w, y, e⟩, _⟩ := h
  exact y.lb
/-- the last pace -/
theorem Di.pred (h : Di L s c (n + 1)) : ∃ b, Di L s b n ∧ Adj b c ∧ L c = true := by
  obtain ⟨⟨w, y, e⟩, z⟩ := h
  rcases y.unsnoc with ⟨e1, e2⟩ | ⟨b, w', e1, y', x, l⟩
  · rw [e1] at e
    simp at e
  · rw [e1, List.length_append] at e
    have e' : w'.length = n + 1 := by simpa using e
    refine ⟨b, ⟨⟨w', y', e'⟩, fun w2 y2 => ?_⟩, x, l⟩
    have := z _ (y2.snoc x l)
    rw [List.length_append] at this
    simpa using this
/-- the first pace -/
theorem Di.succ (h : Di L a c (n + 1)) : ∃ b, b ∈ nbs L a ∧ Di L b c n := by
  obtain ⟨b, d, x, l⟩ := h.symm.pred
  exact ⟨b, mem_nbs.mpr ⟨x.symm, d.lb⟩, d.symm⟩
theorem Di.up : ∀ {n : Nat} {c : Cell}, Di L s c n → ∀ k, k ≤ n → ∃ b, Di L s b k := by
  intro n
  induction n with
  | zero =>
    intro c h k hk
    have : k = 0 := by omega
    subst this
    exact ⟨c, h⟩
  | succ n ih =>
    intro c h k hk
    by_cases e : k = n + 1
    · subst e
      exact ⟨c, h⟩
    · obtain ⟨b, d, _⟩ := h.pred
      exact ih d k (by omega)
end

/-! ### lists of cells in order -/
def llt : List Cell → List Cell → Bool
  | [], [] => false
  | [], _ :: _ => true
  | _ :: _, [] => false
  | a :: as, b :: bs => if a = b then llt as bs else decide (clt a b)
/-- not greater -/
def lle (v w : List Cell) : Prop := llt w v = false
theorem llt_irrefl : ∀ w, llt w w = false
  | [] => rfl
  | a :: w => by
    unfold llt
    rw [if_pos rfl]
    exact llt_irrefl w
theorem lle_refl (w : List Cell) : lle w w := llt_irrefl w
theorem llt_total : ∀ {v w : List Cell}, llt v w = false → llt w v = false → v = w
  | [], [], _, _ => rfl
  | [], _ :: _, h, _ => by unfold llt at h; cases h
  | _ :: _, [], _, h => by unfold llt at h; cases h
  | a :: v, b :: w, h, k => by
    unfold llt at h k
    by_cases e : a = b
    · subst e
      rw [if_pos rfl] at h k
      rw [llt_total h k]
    · rw [if_neg e] at h
      rw [if_neg (Ne.symm e)] at k
      rcases clt_total e with q | q
      · exact absurd q (of_decide_eq_false h)
      · exact absurd q (of_decide_eq_false k)
theorem lle_antisymm {v w : List Cell} (h : lle v w) (k : lle w v) : v = w := llt_total k h
theorem llt_asymm : ∀ {v w : List Cell}, llt v w = true → llt w v = false
  | [], [], h => by unfold llt at h; cases h
  | [], _ :: _, _ => rfl
  | _ :: _, [], h => by unfold llt at h; cases h
  | a :: v, b :: w, h => by
    unfold llt at h ⊢
    by_cases e : a = b
    · subst e
      rw [if_pos rfl] at h ⊢
      exact llt_asymm h
    · rw [if_neg e] at h
      rw [if_neg (Ne.symm e)]
      exact decide_eq_false (clt_asymm (of_decide_eq_true h))
theorem llt_trans : ∀ {u v w : List Cell}, llt u v = true → llt v w = true → llt u w = true
  | [], [], _, h, _ => by unfold llt at h; cases h
  | [], _ :: _, [], _, k => by unfold llt at k; cases k
  | [], _ :: _, _ :: _, _, _ => rfl
  | _ :: _, [], _, h, _ => by unfold llt at h; cases h
  | _ :: _, _ :: _, [], _, k => by unfold llt at k; cases k
  | a :: u, b :: v, c :: w, h, k => by
    unfold llt at h k ⊢
    by_cases e1 : a = b
    · subst e1
      rw [if_pos rfl] at h
      by_cases e2 : a = c
      · subst e2
        rw [if_pos rfl] at k ⊢
        exact llt_trans h k
      · rw [if_neg e2] at k ⊢
        exact k
    · rw [if_neg e1] at h
      have h1 := of_decide_eq_true h
      by_cases e2 : b = c
      · subst e2
        rw [if_neg e1]
        exact h
      · rw [if_neg e2] at k
        have h2 := of_decide_eq_true k
        have h3 := clt_trans h1 h2
        have e3 : a ≠ c := fun e => by
          subst e
          exact clt_irrefl _ h3
        rw [if_neg e3]
        exact decide_eq_true h3
theorem lle_trans {u v w : List Cell} (h : lle u v) (k : lle v w) : lle u w := by
  unfold lle at *
  cases q : llt w u with
  | false => rfl
  | true =>
    exfalso
    cases q2 : llt u v with
    | true =>
      have := llt_trans q q2
      rw [k] at this
      cases this
    | false =>
      have := llt_total q2 h
      subst this
      rw [k] at q
      cases q
/-- the end appended to two lists of one length -/
theorem lle_snoc {c : Cell} : ∀ {v w : List Cell}, v.length = w.length → lle v w → lle (v ++ [c]) (w ++ [c])
  | [], [], _, _ => lle_refl _
  | [], _ :: _, h, _ => by simp at h
  | _ :: _, [], h, _ => by simp at h
  | a :: v, b :: w, h, k => by
    unfold lle at *
    rw [List.cons_append, List.cons_append]
    unfold llt at k ⊢
    by_cases e : b = a
    · subst e
      rw [if_pos rfl] at k ⊢
      exact lle_snoc (by simpa using h) k
    · rw [if_neg e] at k ⊢
      exact k
theorem lle_cons {a : Cell} {v w : List Cell} (h : lle v w) : lle (a :: v) (a :: w) := by
  unfold lle at *
  unfold llt
  rw [if_pos rfl]
  exact h
theorem lle_head {a b : Cell} {v w : List Cell} (h : clt a b) : lle (a :: v) (b :: w) := by
  unfold lle llt
  rw [if_neg (fun e => by subst e; exact clt_irrefl _ h)]
  exact decide_eq_false (clt_asymm h)

/-! ### the least of the shortest walks -/
def Bs (L : Cell → Bool) (a b : Cell) (w : List Cell) : Prop := Walk L a b w ∧ (∀ w', Walk L a b w' → w.length ≤ w'.length) ∧ ∀ w', Walk L a b w' → w'.length = w.length → lle w w'
section
variable {L : Cell → Bool} {a b c s x y o : Cell} {w w' : List Cell} {n m k : Nat}
theorem Bs.uniq (h : Bs L a b w) (k : Bs L a b w') : w = w' := by
  obtain ⟨h1, h2, h3⟩ := h
  obtain ⟨k1, k2, k3⟩ := k
  have e : w.length = w'.length := Nat.le_antisymm (h2 _ k1) (k2 _ h1)
  exact lle_antisymm (h3 _ k1 e.symm) (k3 _ h1 e)
theorem Bs.di (h : Bs L a b w) : Di L a b (w.length - 1) := by
  obtain ⟨h1, h2, h3⟩ := h
  have p := h1.pos
  exact ⟨⟨w, h1, by omega⟩, fun w' x => by have := h2 _ x; omega⟩
theorem Bs.len (h : Bs L a b w) (d : Di L a b n) : w.length = n + 1 := by
  have p := h.1.pos
  have := h.di.uniq d
  omega
theorem Bs.self (l : L a = true) : Bs L a a [a] := ⟨.one l, fun _ h => h.pos, fun w' h e => by
  cases h with
  | one _ => exact lle_refl _
  | step _ _ z =>
    have := z.pos
    simp at e
    rw [e] at this
    simp at this⟩
/-- one more pace at the front: to the least of the cells beside that are nearer -/
theorem Bs.front (d : Di L x o (m + 1)) (hy : y ∈ nbs L x) (dy : Di L y o m) (least : ∀ z ∈ nbs L x, Di L z o m → z = y ∨ clt y z) (h : Bs L y o w) : Bs L x o (x :: w) := by
  have lw := h.len dy
  obtain ⟨h1, h2, h3⟩ := h
  refine ⟨.step d.la (mem_nbs.mp hy).1 h1, fun w' k => ?_, fun w' k e => ?_⟩
  · have := d.2 _ k
    rw [List.length_cons, lw]
    omega
  · cases k with
    | one _ =>
      simp at e
      rw [e] at lw
      simp at lw
    | @step _ z _ w2 lx ax k2 =>
      have e2 : w2.length = w.length := by simpa using e
      have hz : z ∈ nbs L x := mem_nbs.mpr ⟨ax, k2.la⟩
      obtain ⟨j, hj, dz⟩ := di_of_walk k2
      have ej : j = m := by
        have h5 : ∃ i, i ≤ j + 1 ∧ Di L o x i := dz.symm.next ax.symm d.la
        obtain ⟨i, hi, di⟩ := h5
        have := di.uniq d.symm
        omega
      subst ej
      rcases least z hz dz with q | q
      · subst q
        exact lle_cons (h3 _ k2 e2)
      · obtain ⟨r1, rfl⟩ := h1.head
        obtain ⟨r2, rfl⟩ := k2.head
        exact lle_cons (lle_head q)
/-- the least of some cells in order -/
theorem first_least {p : Cell → Bool} {l : List Cell} (h : l.Pairwise clt) {r : List Cell} (e : l.filter p = y :: r) : y ∈ l ∧ p y = true ∧ ∀ z ∈ l, p z = true → z = y ∨ clt y z := by
  have hm : y ∈ l.filter p := by rw [e]; exact List.mem_cons_self
  refine ⟨(List.mem_filter.mp hm).1, (List.mem_filter.mp hm).2, fun z hz pz => ?_⟩
  have hz' : z ∈ l.filter p := List.mem_filter.mpr ⟨hz, pz⟩
  rw [e] at hz'
  have hs : (l.filter p).Pairwise clt := h.filter p
  rw [e] at hs
  rcases List.mem_cons.mp hz' with q | q
  · exact .inl q
  · exact .inr ((List.pairwise_cons.mp hs).1 z q)
theorem bs_exists : ∀ {n : Nat} {x : Cell}, Di L x o n → ∃ w, Bs L x o w := by
  intro n
  induction n with
  | zero =>
    intro x d
    have := d.eq_of_zero
    subst this
    exact ⟨[x], Bs.self d.la⟩
  | succ n ih =>
    intro x d
    obtain ⟨b, hb, db⟩ := d.succ
    have : ∃ p : Cell → Bool, ∀ z, p z = true ↔ Di L z o n := ⟨fun z => @decide (Di L z o n) (Classical.propDecidable _), fun z => @decide_eq_true_iff _ (Classical.propDecidable _)⟩
    obtain ⟨p, hp⟩ := this
    cases e : (nbs L x).filter p with
    | nil =>
      have : b ∈ (nbs L x).filter p := List.mem_filter.mpr ⟨hb, (hp b).mpr db⟩
      rw [e] at this
      simp at this
    | cons y r =>
      obtain ⟨h1, h2, h3⟩ := first_least (nbs_sorted L x) e
      obtain ⟨w, hw⟩ := ih ((hp y).mp h2)
      exact ⟨x :: w, Bs.front d h1 ((hp y).mp h2) (fun z hz dz => h3 z hz ((hp z).mpr dz)) hw⟩
/-- one more pace at the end: the least over all that come before -/
theorem Bs.back {w : List Cell} {p : Cell} (d : Di L s c (k + 1)) (hp : Di L s p k) (x : Adj p c) (h : Bs L s p w) (least : ∀ q u, Di L s q k → Adj q c → Bs L s q u → lle (w ++ [c]) (u ++ [c])) : Bs L s c (w ++ [c]) := by
  have lw := h.len hp
  refine ⟨h.1.snoc x d.lb, fun w' y => ?_, fun w' y e => ?_⟩
  · have := d.2 _ y
    rw [List.length_append, lw]
    simpa using this
  · rw [List.length_append, lw] at e
    rcases y.unsnoc with ⟨e1, e2⟩ | ⟨q, u, e1, y', xq, l⟩
    · rw [e1] at e
      simp at e
    · subst e1
      have eu : u.length = k + 1 := by simpa using e
      have dq : Di L s q k := by
        obtain ⟨j, hj, dj⟩ := di_of_walk y'
        obtain ⟨i, hi, di⟩ := dj.next xq l
        have e3 := di.uniq d
        have : j = k := by omega
        subst this
        exact dj
      obtain ⟨v, hv⟩ := bs_exists (o := q) (x := s) dq
      have lv := hv.len dq
      refine lle_trans (least q v dq xq hv) (lle_snoc (by rw [lv, eu]) (hv.2.2 _ y' (by rw [lv, eu])))
end

/-! ### what the two functions give, as functions -/
open Classical in
noncomputable def dOf (L : Cell → Bool) (a b : Cell) : Option Nat := if h : ∃ n, Di L a b n then some h.choose else none
open Classical in
noncomputable def rOf (L : Cell → Bool) (a b : Cell) : Option (List Cell) := if h : ∃ w, Bs L a b w then some h.choose else none
section
variable {L : Cell → Bool} {a b : Cell} {w : List Cell} {n : Nat}
theorem dOf_some : dOf L a b = some n ↔ Di L a b n := by
  unfold dOf
  constructor
  · intro h
    split at h
    · rename_i q
      rw [← Option.some.inj h]
      exact q.choose_spec
    · cases h
  · intro d
    have q : ∃ n, Di L a b n := ⟨n, d⟩
    rw [dif_pos q, q.choose_spec.uniq d]
theorem dOf_none : dOf L a b = none ↔ ∀ n, ¬ Di L a b n := by
  cases h : dOf L a b with
  | none =>
    refine ⟨fun _ n d => ?_, fun _ => rfl⟩
    rw [dOf_some.mpr d] at h
    cases h
  | some m =>
    refine ⟨fun x => ?_, fun x => absurd (dOf_some.mp h) (x m)⟩
    cases x
theorem rOf_some : rOf L a b = some w ↔ Bs L a b w := by
  unfold rOf
  constructor
  · intro h
    split at h
    · rename_i q
      rw [← Option.some.inj h]
      exact q.choose_spec
    · cases h
  · intro d
    have q : ∃ w, Bs L a b w := ⟨w, d⟩
    rw [dif_pos q, q.choose_spec.uniq d]
theorem rOf_none : rOf L a b = none ↔ dOf L a b = none := by
  constructor
  · intro h
    rw [dOf_none]
    intro n d
    obtain ⟨w, hw⟩ := bs_exists d
    rw [rOf_some.mpr hw] at h
    cases h
  · intro h
    cases q : rOf L a b with
    | none => rfl
    | some w =>
      have := (rOf_some.mp q).di
      rw [dOf_some.mpr this] at h
      cases h
theorem dOf_symm : dOf L a b = dOf L b a := by
  cases h : dOf L a b with
  | none =>
    refine (dOf_none.mpr fun n d => ?_).symm
    exact dOf_none.mp h n d.symm
  | some n => exact (dOf_some.mpr (dOf_some.mp h).symm).symm
/-- the two answers agree -/
theorem dOf_rOf : dOf L a b = (rOf L a b).map fun w => w.length - 1 := by
  cases h : rOf L a b with
  | none => exact rOf_none.mp h
  | some w => exact dOf_some.mpr (rOf_some.mp h).di
theorem rOf_pos (h : rOf L a b = some w) : 0 < w.length := (rOf_some.mp h).1.pos
end
end Wk
set_option Elab.async false
set_option linter.all false
set_option maxRecDepth 100000
set_option maxHeartbeats 4000000
/-! further rules over the layer: x in o by the class's own __contains__; {k: v} with a tuple as its key; d.update(d2) with tuples as keys -/
namespace Wk
open PySem PySem.Spec PyProof.Rows L2
/-! ### x in o -/
def rInO (C : Addr) (sp : Sp) (E : XK) : R2 := fun x y H Q => ∃ a dx fs, y = .ref a ∧ H a = some (.ins C dx fs) ∧ sp [.ref a, x] H (fun v H' => ∃ b, v = .bl b ∧ Q (.bl b) H') E
def rNotInO (C : Addr) (sp : Sp) (E : XK) : R2 := fun x y H Q => ∃ a dx fs, y = .ref a ∧ H a = some (.ins C dx fs) ∧ sp [.ref a, x] H (fun v H' => ∃ b, v = .bl b ∧ Q (.bl (!b)) H') E
section
variable {X : Cx} {CX : CXT} {k : Nat} {C f : Addr} {fd : FuncData} {ps : List Str} {sp : Sp} {E : XK}
theorem op_inO (F : FnOk X.prog X.w X.K X.mg X.base CX k f fd ps sp) (hs : PySem.W.findIn X.K (.ref C) "__contains__" = some (some (.ref f))) (hf : PySem.W.isFn X.K (.ref f) = true) (hb : Binds X.K fd ps []) (hr : Room k X.A) (hx : Passes CX X E) :
    OpR X (compareOp .In) (rInO C sp E) := by
  intro pins s σ H x y v u Q I rx ry h
  obtain ⟨a, dx, fs, rfl, ha, hsp⟩ := h
  cases ry
  obtain ⟨mA, J, _⟩ := ins_get I.hok ha
  obtain ⟨od, J, _⟩ := J.look
  obtain ⟨m, hF⟩ := I.fr
  refine PySem.W.in_K hF I.ok.mod.kin J hs hf ?_
  refine thn (run_fn (us := [.ref a, v]) (vs := [.ref a, x]) (dvs := []) F hr hb .nil hx I (.cons rfl (.cons rx .nil)) hsp) fun r s' he => ?_
  obtain ⟨z, H', I', rz, hq⟩ := he
  obtain ⟨b, ez, q⟩ := hq
  subst ez
  obtain rfl : r = Value.bool b := rz
  exact wpAny_truthy_bool ⟨.bl b, H', I', rfl, q⟩
theorem op_notInO (F : FnOk X.prog X.w X.K X.mg X.base CX k f fd ps sp) (hs : PySem.W.findIn X.K (.ref C) "__contains__" = some (some (.ref f))) (hf : PySem.W.isFn X.K (.ref f) = true) (hb : Binds X.K fd ps []) (hr : Room k X.A) (hx : Passes CX X E) :
    OpR X (compareOp .NotIn) (rNotInO C sp E) := by
  intro pins s σ H x y v u Q I rx ry h
  obtain ⟨a, dx, fs, rfl, ha, hsp⟩ := h
  cases ry
  obtain ⟨mA, J, _⟩ := ins_get I.hok ha
  obtain ⟨od, J, _⟩ := J.look
  obtain ⟨m, hF⟩ := I.fr
  refine PySem.W.notIn_K hF I.ok.mod.kin J hs hf ?_
  refine thn (run_fn (us := [.ref a, v]) (vs := [.ref a, x]) (dvs := []) F hr hb .nil hx I (.cons rfl (.cons rx .nil)) hsp) fun r s' he => ?_
  obtain ⟨z, H', I', rz, hq⟩ := he
  obtain ⟨b, ez, q⟩ := hq
  subst ez
  obtain rfl : r = Value.bool b := rz
  exact wpAny_truthy_bool ⟨.bl (!b), H', I', rfl, q⟩
end
/-! ### {k: v} -/
section
variable {X : Cx} {ke ve : Expr} {tk tv : TE} {pos : Pos}
/-- what the one pair must be -/
def rDT1 (p : Addr) (Q : VK) (ps : List (V × V)) (H2 : Hp) : Prop := H2 p = some (.dT []) ∧ ∃ (b : Addr) (k : List L2.Key) (y : V), ps = [(.ref b, y)] ∧ H2 b = some (.tup (k.map kV)) ∧ Q (.ref p) (upd H2 p (.dT [(k, y)]))
def tDT1 (tk tv : TE) : TE := fun σ H Q => ∀ p, H p = none → tk σ (upd H p (.dT [])) fun x H1 => tv σ H1 fun y H2 => rDT1 p Q [(x, y)] H2
theorem pe_dT1 (hu : X.A.units + 1 < cLine) (hk : PE X ke tk) (hv : PE X ve tv) : PE X (.Dict [some ke] [ve] pos) (tDT1 tk tv) := by
  refine ⟨fun pins s σ H Q I h => ?_⟩
  have hn := I.hok.fresh (Nat.le_refl s.heap.objs.size)
  have I1 := I.laid (a := s.heap.objs.size) (o := .dT []) (h' := s.heap.push { cls := .type "dict", data := .dict #[] }) (t' := s.toks) (fun _ _ q => Heap.get?_push_of_some _ q) (Nat.le_refl _) (dt_empty s.heap I.big)
  have hu0 : (tupleKind (mixKind X.prog X.w)).room X.A := Nat.lt_of_succ_lt hu
  have go := (pps_cons (pos := pos) hk hv pps_nil).run pins _ σ _ (rDT1 s.heap.objs.size Q) I1 (h _ hn)
  have hshape : (evalEachOpt [some ke] X.env).zip ((evalEach [ve] X.env).map fun (v : Sem Value) => (do let x ← v; standAt pos; pure x : Sem Value)) = (pairTrees [some ke] [ve] X.env pos).map fun p => (some p.1, p.2) := rfl
  rw [arm_eval_Dict, hshape, dictDisplay_pairs (pairTrees [some ke] [ve] X.env pos) (by intro z; cases z) (show (1 : Nat) < 17 by decide)]
  refine wpAny_bind (wpAny_standAt (wpAny_bind (wpAny_subDictH (knd := tupleKind (mixKind X.prog X.w)) hu0 (show (1 : Nat) ≤ 15 by decide) (thn go fun ws s2 hh => ?_))))
  obtain ⟨ps, H2, I2, rel, hp, b, k, y, rfl, hb, q⟩ := hh
  obtain ⟨kx, vy, rfl, r1, r2⟩ : ∃ kx vy, ws = [(kx, vy)] ∧ RelV (.ref b) kx ∧ RelV y vy := by
    cases rel with
    | cons z t =>
      cases t
      exact ⟨_, _, rfl, z.1, z.2⟩
  obtain rfl : kx = Value.ref b := r1
  obtain ⟨_, hd, xs, kt, dd⟩ := dt_of I2.hok hp
  cases kt
  refine ⟨[(k, b, vy)], ⟨rfl, rfl, key_of I2.hok hb, trivial⟩, dd, fun h' tk dk hs => wpAny_pure ?_⟩
  obtain ⟨o, es, ep, h1, h2, h3, h4, h5, h6⟩ := dk
  refine ⟨.ref s.heap.objs.size, _, d_write (ob := .dT [(k, y)]) I2 (by rw [hp]; exact True.intro) hs ⟨o, h1⟩ ⟨by show 1 ≤ sizeLine; decide, hd, [(k, b, vy)], .cons ⟨rfl, ?_, r2⟩ .nil, o, es, ep, h1, h2, h3, h4, h6⟩, rfl, q⟩
  rw [upd_ne (ne_of hb hp (fun z => nomatch z))]
  exact hb
end
/-! ### d.update(d2) -/
def mergeT (kvs more : List (List L2.Key × V)) : List (List L2.Key × V) := more.foldl (fun acc kv => putK acc kv.1 kv.2) kvs
theorem KT.all {H : Hp} {more : List (List L2.Key × V)} {ys : List (List L2.Key × Addr × Value)} (r : KT H more ys) : ∀ {kvs : List (List L2.Key × V)} {xs : List (List L2.Key × Addr × Value)}, KT H kvs xs → KT H (mergeT kvs more) (storedAllH xs ys) := by
  unfold KT at r
  induction r with
  | nil => intro kvs xs q; exact q
  | @cons p q ps qs h t ih =>
    intro kvs xs z
    have e : KT H (putK kvs p.1 p.2) (storedH xs q.1 q.2.1 q.2.2) := by
      rw [← h.1]
      exact z.put p.1 h.2.1 h.2.2
    exact ih e
theorem length_mergeT : ∀ (more kvs : List (List L2.Key × V)), (mergeT kvs more).length ≤ kvs.length + more.length
  | [], kvs => Nat.le_refl _
  | p :: r, kvs => by
    have h1 := length_mergeT r (putK kvs p.1 p.2)
    have h2 := length_putK kvs p.1 p.2
    show (mergeT (putK kvs p.1 p.2) r).length ≤ _
    rw [List.length_cons]
    omega
def rUpdT : V → List V → Hp → VK → Prop := fun x vs H Q => ∃ d o kvs more, x = .ref d ∧ vs = [.ref o] ∧ H d = some (.dT kvs) ∧ H o = some (.dT more) ∧ d ≠ o ∧ kvs ≠ [] ∧ kvs.length + more.length ≤ sizeLine ∧ Q .non (upd H d (.dT (mergeT kvs more)))
theorem mt_updT {X : Cx} (hu : X.A.units + 2 < cLine) : MtM X "dict.update" rUpdT := by
  intro pins s σ H x vs v us Q I rx rv h
  obtain ⟨d, o, kvs, more, rfl, rfl, hd, ho, ne, hk, hz, q⟩ := h
  cases rx
  obtain ⟨u, rfl, ru⟩ := rv.one
  cases ru
  obtain ⟨z1, y1, xs, r1, d1⟩ := dt_of I.hok hd
  obtain ⟨z2, y2, ys, r2, d2⟩ := dt_of I.hok ho
  have e1 := Paired.length r1
  have e2 := Paired.length r2
  refine call_update_dictH (tupleKind_room_in1 (Nat.lt_of_succ_lt hu)) ne y2 d1 d2 (.inl fun e => hk ?_) (by omega) fun h' hd' ho' hs => ?_
  · rw [e, List.length_nil] at e1
    exact List.length_eq_zero_iff.mp e1
  · obtain ⟨ob, es, ep, h1, h2, h3, h4, h5, h6⟩ := hd'
    have hl : (mergeT kvs more).length ≤ sizeLine := Nat.le_trans (length_mergeT more kvs) hz
    refine ⟨.non, _, d_write (ob := .dT (mergeT kvs more)) (t' := s.toks) I (by rw [hd]; exact True.intro) hs ⟨ob, h1⟩ ⟨hl, y1, _, (KT.all r2 r1).keeps fun c ys ec => ?_, ob, es, ep, h1, h2, h3, h4, h6⟩, rfl, q⟩
    rw [upd_ne (ne_of ec hd (fun z => nomatch z))]
    exact ec
end Wk
set_option Elab.async false
set_option linter.all false
set_option maxRecDepth 100000
set_option maxHeartbeats 4000000
/-! further rules over the layer: min(a, b) of data; sorted(xs, key=lambda x: d[x]), the keys lists -/
namespace Wk
open PySem PySem.Spec PyProof.Rows L2
open PySem.W (EachIs sortingHeap_old copyHeap copyHeap_old copyHeap_at sorted_of_sort)
/-! ### min(a, b) -/
section
variable {prog : Program} {w : World} {A : Around} {E : Value → Shared → Prop} {s : Shared}
theorem min_two_data {a b : Value} {d e : PyData} {as bs : List Addr} {Q : Value → Shared → Prop} (hh : A.handled = none) (ra : Reads s.heap a d as) (rb : Reads s.heap b e bs) (ha : PySem.W.AlikeAll [d, e]) (hu : A.units + 1 + PyData.depthAll [d, e] < cLine)
    (h : ∀ h' tk, (∀ b o, s.heap.get? b = some o → h'.get? b = some o) → Q (if PySem.W.dataLt e d = true then b else a) { s with heap := h', toks := tk }) :
    wpAny (model prog w) A (call (.builtin "min") [a, b]) Q E s := by
  have hname : (toString "min" ++ toString ".loop" : String) = "min.loop" := by decide
  refine call_function_tree F.kind_min F.plain_min F.entry_min (F.args_min2 _ _) ?_
  show wpAny _ A.in1 (Builtin.Builtins.bindParams "min" ["key", "default"] 0 ⟨[], []⟩ >>= _) _ _ s
  refine wpAny_bind (wpAny_of_eq (show Builtin.Builtins.bindParams "min" ["key", "default"] 0 ⟨[], []⟩ = pure [none, none] from rfl) ?_)
  show wpAny _ A.in1 (newTuple [a, b] >>= _) _ _ s
  refine wpAny_bind (wpAny_newObj_type ?_)
  have k1 : ∀ c o, s.heap.get? c = some o → (s.heap.push { cls := .type "tuple", data := .seq #[a, b] }).get? c = some o := fun c o z => Heap.get?_push_of_some _ z
  have hT : (s.heap.push { cls := .type "tuple", data := .seq #[a, b] }).IsTuple s.heap.objs.size #[a, b] := ⟨_, Heap.get?_push_size _ rfl, rfl, 0, rfl⟩
  have hr : ReadsAll (s.heap.push { cls := .type "tuple", data := .seq #[a, b] }) (#[a, b] : Array Value).toList [d, e] (as ++ (bs ++ [])) := .cons (Reads.keeps k1 ra) (.cons (Reads.keeps k1 rb) .nil)
  refine wpAny_bind (PySem.W.iter_tupleW (A := A.in1) (s := { s with heap := s.heap.push { cls := .type "tuple", data := .seq #[a, b] } }) hh hT fun s2 es W st hfp hw hk => ?_)
  refine wpAny_bind (wpAny_newObj_type ?_)
  have hSf : s2.heap.objs.size ∉ [(s.heap.push { cls := .type "tuple", data := .seq #[a, b] }).objs.size, s.heap.objs.size] := fun hm => Nat.lt_irrefl _ (hfp _ hm)
  have hcmp := PySem.W.cmpIn_lt (prog := prog) (w := w) (A := A.in1) (s := { s with heap := s.heap.push { cls := .type "tuple", data := .seq #[a, b] } }) hr ha (by show A.units + 1 + _ < _; exact hu)
  rw [hname]
  refine wpAny_pure ⟨plainId_quiet F.plain_min_loop _, codeAny_min_loop_firstH W _ hw _ hcmp s2.heap.objs.size hSf (fresh_in hk) _ (by show 0 < 2; decide) (fun c o z => Heap.get?_push_of_some _ (hk c o z)) (W.frame 0 s2 _ s2.toks st (Nat.le_refl _) fun c _ o z => Heap.get?_push_of_some _ z) (Heap.get?_push_size _ rfl) fun v s' hP hm => ?_⟩
  obtain ⟨h', tk, rfl, hk'⟩ := PySem.W.moved_old (s := { s with heap := s.heap.push { cls := .type "tuple", data := .seq #[a, b] } }) es rfl (Moved.drop_new (tk := s2.toks) hm (Nat.le_refl _))
  have hv : v = if PySem.W.dataLt e d = true then b else a := by
    have hP' : (#[a, b] : Array Value)[argBest (fun i j => PySem.W.dataLt (([d, e] : List PyData).getD i .none) (([d, e] : List PyData).getD j .none)) 1]? = some v := hP
    by_cases q : PySem.W.dataLt e d = true
    · have e1 : argBest (fun i j => PySem.W.dataLt (([d, e] : List PyData).getD i .none) (([d, e] : List PyData).getD j .none)) 1 = 1 := by simp [argBest, q]
      rw [e1] at hP'
      rw [if_pos q]
      simpa using hP'.symm
    · have e1 : argBest (fun i j => PySem.W.dataLt (([d, e] : List PyData).getD i .none) (([d, e] : List PyData).getD j .none)) 1 = 0 := by simp [argBest, q]
      rw [e1] at hP'
      rw [if_neg q]
      simpa using hP'.symm
  rw [hv]
  exact h h' tk fun c o z => hk' c o (k1 c o z)
end
/-! ### sorted(xs, key=f), the keys data that may be lists, all of them older than lim -/
def KeyL (lim : Nat) (k : PyData) (s1 : Shared) (v : Value) (s2 : Shared) : Prop :=
  ∃ (h' : Heap) (tk : Nat) (as : List Addr), s2 = { s1 with heap := h', toks := tk } ∧ (∀ b o, s1.heap.get? b = some o → h'.get? b = some o) ∧ Reads h' v k as ∧ ∀ x ∈ as, x < lim
section
variable {prog : Program} {w : World} {A : Around} {E : Value → Shared → Prop} {s : Shared} {a kS : Addr} {b : Bool} {vs : List Value} {e1 : Nat} {lim : Nat} {P : PySem.Fin → Shared → Prop} {kz : List PyData}
theorem kl_rest {f : Value} {h1 : Heap} (kp : PySem.W.KeepsBut a h1 s.heap) (hkS : h1.get? kS = none) (nk : s.heap.get? kS = some (seqObj "list" #[] 0)) (na : s.heap.get? a = some (seqObj "list" #[] e1)) (hka : kS ≠ a)
    (hlen : kz.length = vs.length) (hZ : vs.length ≤ sizeLine) (hal : PySem.W.AllAlike kz) (hsk : PySem.W.Sortable kz) (hu : ∀ d, d ∈ kz → A.units + d.depth < cLine) (hl1 : lim ≤ a) (hl2 : lim ≤ kS)
    (turn : ∀ (i : Nat) (v : Value) (k : PyData), vs[i]? = some v → kz[i]? = some k → ∀ (h : Heap) (tk : Nat), PySem.W.KeepsBut a h1 h →
      wpAny (model prog w) A (call f [v]) (KeyL lim k { s with heap := h, toks := tk }) (fun _ _ => False) { s with heap := h, toks := tk })
    (h : ∀ h' tk out c, PySem.W.KeepsBut a h1 h' → h'.get? a = some (seqObj "list" (List.toArray out) c) → PySem.W.KeyedOut b kz vs out → P (.done (.ret .none)) { s with heap := h', toks := tk }) :
    wpAny (model prog w) A (ksk_rest a f b vs.toArray e1 (.ref kS)) P E s := by
  unfold ksk_rest
  refine wpAny_bind (wpAny_rule ?_)
  rw [← Array.forIn_toList]
  refine wpAny_bind (ksk_fold (fun i s' => ∃ (g : Heap) (tk : Nat) (kA : Array Value) (c : Nat), s' = { s with heap := g, toks := tk } ∧ PySem.W.KeepsBut a h1 g ∧ g.get? kS = some (seqObj "list" kA c) ∧ g.get? a = some (seqObj "list" #[] e1) ∧
      EachIs (fun v k => (∃ as, Reads g v k as ∧ ∀ x ∈ as, x < lim) ∧ PySem.W.alike k k = true) kA.toList (kz.take i)) vs 0 s ⟨s.heap, s.toks, #[], 0, rfl, kp, nk, na, by rw [List.take_zero]; exact EachIs.nil⟩ ?step ?done)
  case step =>
    rintro j x s' hx ⟨g, tk, kA, c, rfl, kp', nk', na', hk⟩
    simp only [Nat.zero_add] at hk ⊢
    have hj : j < kz.length := by rw [hlen]; exact (List.getElem?_eq_some_iff.mp hx).1
    have hkj : kz[j]? = some kz[j] := List.getElem?_eq_getElem hj
    have hkk : PySem.W.alike kz[j] kz[j] = true := hal _ (List.getElem_mem hj) _ (List.getElem_mem hj)
    have hz : kA.size ≤ vs.length := by
      have q := hk.length
      rw [Array.length_toList, List.length_take] at q
      omega
    refine wpAny_bind (wpAny_attempt (wpAny_mono (turn j x kz[j] hx hkj g tk kp') (fun v s2 he => ?_) fun _ _ z => z.elim))
    obtain ⟨g2, tk2, as, rfl, hg, hr, hlo⟩ := he
    dsimp only
    have nk2 := hg _ _ nk'
    have na2 := hg _ _ na'
    have sb := Heap.SameBut.update g2 kS (Obj.mapSeq (·.push v))
    obtain ⟨c2, hc2⟩ : ∃ c2, (g2.update kS (Obj.mapSeq (·.push v))).get? kS = some (seqObj "list" (kA.push v) c2) := ⟨_, get?_update_seq nk2 (·.push v)⟩
    have upS : ∀ (u : Value) (d : PyData), ((∃ as, Reads g2 u d as ∧ ∀ x ∈ as, x < lim) ∧ PySem.W.alike d d = true) → (∃ as, Reads (g2.update kS (Obj.mapSeq (·.push v))) u d as ∧ ∀ x ∈ as, x < lim) ∧ PySem.W.alike d d = true := fun u d ⟨⟨as, r, lo⟩, al⟩ =>
      ⟨⟨as, PySem.W.Reads.keepBut (a := kS) (fun c o hc q => (sb.2 c hc).trans q) (fun o q => by rw [nk2] at q; rw [← Option.some.inj q]) d u as al r (fun hm => Nat.lt_irrefl _ (Nat.lt_of_lt_of_le (lo _ hm) hl2)), lo⟩, al⟩
    refine wpAny_bind (listUpdate_at nk2 rfl ?_ (Nat.le_trans hz hZ) (Nat.le_trans (Nat.le_of_eq (Array.size_push ..)) (Nat.succ_le_succ (Nat.le_trans hz hZ))))
    refine wpAny_pure ⟨rfl, _, _, kA.push v, c2, rfl, (kp'.trans_all hg).same sb (.inr hkS), hc2, (sb.2 a hka.symm).trans na2, ?_⟩
    have ek : kz.take (j + 1) = kz.take j ++ [kz[j]] := by rw [List.take_add_one, hkj]; rfl
    have ea : (kA.push v).toList = kA.toList ++ [v] := by simp
    rw [ea, ek]
    refine PySem.W.each_snoc (R := fun (u : Value) (d : PyData) => (∃ as, Reads (g2.update kS (Obj.mapSeq (·.push v))) u d as ∧ ∀ x ∈ as, x < lim) ∧ PySem.W.alike d d = true) (upS v _ ⟨⟨as, hr, hlo⟩, hkk⟩) ?_
    exact hk.mono fun u d q => upS u d ⟨let ⟨as, r, lo⟩ := q.1; ⟨as, Reads.keeps hg r, lo⟩, q.2⟩
  case done =>
    rintro s' ⟨g, tk, kA, c, rfl, kp', nk', na', hk⟩
    have hk' : EachIs (fun v k => ∃ as, Reads g v k as) kA.toList kz := by
      rw [List.take_of_length_le (by omega)] at hk
      exact hk.mono fun v k q => let ⟨as, r, _⟩ := q.1; ⟨as, r⟩
    have hsz : kA.size = vs.length := by
      have q := hk'.length
      rw [Array.length_toList] at q
      omega
    refine wpAny_bind (listItems_at nk' rfl ?_)
    exact PySem.W.keyH_end (κ := PySem.W.dataKind g kz) (h₁ := h1) kp' hkS nk' na' hka (PySem.W.SortsAt.data (s := { s with heap := g, toks := tk }) hk' hal hsk hu) hsz hZ fun h3 tk3 c3 k3 n3 => h h3 tk3 _ c3 k3 n3 ⟨g, kA.toList, hal, rfl, hk'⟩
theorem kl_tree {f : Value} {n : Nat} (ho : s.heap.get? a = some (seqObj "list" vs.toArray n)) (hlen : kz.length = vs.length) (hZ : vs.length ≤ sizeLine) (hal : PySem.W.AllAlike kz) (hsk : PySem.W.Sortable kz) (hu : ∀ d, d ∈ kz → A.units + d.depth < cLine) (hl1 : lim ≤ a)
    (turn : ∀ (i : Nat) (v : Value) (k : PyData), vs[i]? = some v → kz[i]? = some k → ∀ (h : Heap) (tk : Nat), PySem.W.KeepsBut a s.heap h →
      wpAny (model prog w) A (call f [v]) (KeyL lim k { s with heap := h, toks := tk }) (fun _ _ => False) { s with heap := h, toks := tk })
    (h : ∀ h' tk out c, PySem.W.KeepsBut a s.heap h' → h'.get? a = some (seqObj "list" (List.toArray out) c) → PySem.W.KeyedOut b kz vs out → P (.done (.ret .none)) { s with heap := h', toks := tk }) :
    wpAny (model prog w) A (ksk_tree a f b) P E s := by
  have ha : a < s.heap.objs.size := Heap.lt_size ho
  obtain ⟨e1, ho1⟩ : ∃ e1, (s.heap.update a (Obj.mapSeq fun _ => (#[] : Array Value))).get? a = some (seqObj "list" #[] e1) := ⟨_, get?_update_seq ho fun _ => #[]⟩
  have hkS : ((s.heap.update a (Obj.mapSeq fun _ => (#[] : Array Value))).push (seqObj "tuple" vs.toArray 0)).objs.size = s.heap.objs.size + 1 := by rw [size_push', Heap.size_update]
  unfold ksk_tree
  refine wpAny_bind (listItems_at ho rfl (wpAny_bind (listUpdate_at ho rfl (wpAny_bind (seqEpoch_at ho1 rfl (wpAny_bind (wpAny_newTuple (wpAny_bind (wpAny_newList (wpAny_holding ?_) (Nat.zero_le _))) (by show vs.length ≤ _; exact hZ))))) (by rw [List.size_toArray]; exact hZ) (Nat.zero_le _))))
  refine kl_rest (kz := kz) (h1 := s.heap) (s := { s with heap := ((s.heap.update a (Obj.mapSeq fun _ => (#[] : Array Value))).push (seqObj "tuple" vs.toArray 0)).push (seqObj "list" #[] 0) })
    (kS := ((s.heap.update a (Obj.mapSeq fun _ => (#[] : Array Value))).push (seqObj "tuple" vs.toArray 0)).objs.size) (fun c o hc q => sortingHeap_old hc q) (Heap.get?_none_of_le (by rw [hkS]; exact Nat.le_succ _)) (Heap.get?_push_size _ rfl)
    (Heap.get?_push_of_some _ (Heap.get?_push_of_some _ ho1)) (by rw [hkS]; exact Nat.ne_of_gt (Nat.lt_succ_of_lt ha)) hlen hZ hal hsk hu hl1 (by rw [hkS]; exact Nat.le_trans hl1 (Nat.le_of_lt (Nat.lt_succ_of_lt ha))) turn h
end
section
variable {prog : Program} {w : World} {A : Around} {E : Value → Shared → Prop} {s : Shared} {β : Type} {vs : List Value} {bs : List β} {R : Value → β → Prop}
theorem sorted_key_lists {l : Addr} {f : Addr} {Q : Value → Shared → Prop} (k : β → PyData) (hl : s.heap.IsList l vs.toArray) (e : EachIs R vs bs) (hal : PySem.W.AllAlike (bs.map k)) (hk : PySem.W.Sortable (bs.map k)) (hL : bs.length ≤ sizeLine)
    (hu : ∀ x, x ∈ bs → A.units + 2 + (k x).depth < cLine)
    (turn : ∀ (v : Value) (x : β), R v x → x ∈ bs → ∀ (h : Heap) (tk : Nat), (∀ b o, s.heap.get? b = some o → h.get? b = some o) →
      wpAny (model prog w) A.in1.in1 (call (.ref f) [v]) (KeyL s.heap.objs.size (k x) { s with heap := h, toks := tk }) (fun _ _ => False) { s with heap := h, toks := tk })
    (h : ∀ out c h' tk, (∀ b o, s.heap.get? b = some o → h'.get? b = some o) → h'.get? (s.heap.objs.size + 1) = some (seqObj "list" (List.toArray out) c) → EachIs R out (bs.mergeSort (PySem.W.dataLe false k)) →
      Q (.ref (s.heap.objs.size + 1)) { s with heap := h', toks := tk }) :
    wpAny (model prog w) A (call (.builtin "sorted") [.ref l] [(Str.ofString "key", .ref f)]) Q E s := by
  have up : ∀ {g : Heap}, PySem.W.KeepsBut (s.heap.objs.size + 1) (copyHeap s.heap vs) g → ∀ b o, s.heap.get? b = some o → g.get? b = some o := fun {g} kp b o q =>
    kp b o (Nat.ne_of_lt (Nat.lt_succ_of_lt (Heap.lt_size q))) (copyHeap_old q)
  have hlen : (bs.map k).length = vs.length := by rw [List.length_map]; exact e.length.symm
  refine sorted_of_sort hl (by rw [e.length]; exact hL) (ksk_s1 _ _) (fun _ => ksk_l1 _ _) fun E' => ?_
  rw [ksk_t1]
  refine kl_tree (kz := bs.map k) (lim := s.heap.objs.size) (s := { s with heap := copyHeap s.heap vs }) (copyHeap_at s.heap vs) hlen (by rw [e.length]; exact hL) hal hk (PySem.W.bound_map (A := A.in1.in1) hu) (Nat.le_succ _)
    (fun i v d hv hd h tk kp => ?_) fun h' tk out c kp hD ko => ⟨rfl, h out c h' tk (up kp) hD (PySem.W.keyedOut_each k ko e)⟩
  rw [List.getElem?_map] at hd
  obtain ⟨x, hx, rfl⟩ := Option.map_eq_some_iff.mp hd
  exact turn v x (e.zip (v, x) (List.mem_of_getElem? (i := i) (by rw [List.getElem?_zip_eq_some]; exact ⟨hv, hx⟩))) (List.mem_of_getElem? hx) h tk (up kp)
end
mutual
theorem reads_lt {h : Heap} : ∀ {v : Value} {d : PyData} {as : List Addr}, Reads h v d as → ∀ x ∈ as, x < h.objs.size
  | _, _, _, .none, x, hx => by cases hx
  | _, _, _, .bool _, x, hx => by cases hx
  | _, _, _, .int _ _, x, hx => by cases hx
  | _, _, _, .str _ _, x, hx => by cases hx
  | _, _, _, .list h1 _ _ h4, x, hx => by
    rcases List.mem_cons.mp hx with e | hx
    · rw [e]
      exact Heap.lt_size h1
    · exact readsAll_lt h4 x hx
  | _, _, _, .tuple _ _ _ h4, x, hx => readsAll_lt h4 x hx
  | _, _, _, .dict h1 _ _ h4 h5, x, hx => by
    rcases List.mem_cons.mp hx with e | hx
    · rw [e]
      exact Heap.lt_size h1
    · rcases List.mem_append.mp hx with hx | hx
      · exact readsAll_lt h4 x hx
      · exact readsAll_lt h5 x hx
theorem readsAll_lt {h : Heap} : ∀ {vs : List Value} {ds : List PyData} {as : List Addr}, ReadsAll h vs ds as → ∀ x ∈ as, x < h.objs.size
  | _, _, _, .nil, x, hx => by cases hx
  | _, _, _, .cons h1 h2, x, hx => by
    rcases List.mem_append.mp hx with hx | hx
    · exact reads_lt h1 x hx
    · exact readsAll_lt h2 x hx
end
/-- a lambda of one parameter that looks up a captured dict -/
structure LamG (scope : Scope) (fo one : Str) : Prop where
  kind : scope.kind = .function
  co : scope.isCoroutine = false
  gen : scope.isGenerator = false
  nocell : ∀ y ∈ scope.names, y.2 ≠ .cell
  lf : scope.names.lookup fo = some .free
  lo : scope.names.lookup one = some .local
section
variable {X : Cx} {pins : List (Addr × Obj)} {σ : L2.St} {H : Hp} {s : Shared} {A : Around}
theorem lam_get (I : Inv X pins σ H s) {f c' cF d b : Addr} {fo one q : Str} {params : Arguments} {scope : Scope} {cl : List (Str × Addr)} {pm ctv : Value} {p1 p2 p3 : Pos} {kvs : List (List L2.Key × V)} {k : List L2.Key} {y : V}
    (S : LamG scope fo one) (hf : s.heap.get? f = some (PySem.W.kla_obj "<lambda>" q params (.Subscript (.Name fo p1) (.Name one p2) p3) scope cl pm c' ctv)) (hcode : s.heap.CodeRec (.ref c') q) (hdp : A.depth < recursionLimit) (hu : ∀ env, (A.deeper env).units + 1 < cLine)
    (hbind : ∀ v : Value, bindArgs (PySem.W.kla_fn "<lambda>" q params (.Subscript (.Name fo p1) (.Name one p2) p3) scope cl pm (.ref c') ctv) ⟨[v], []⟩ = pure [(one, v)])
    (hcl : cl.lookup fo = some cF) (hcell : s.heap.IsCell cF (some (.ref d))) (hD : H d = some (.dT kvs)) (hb : H b = some (.tup (k.map kV))) (hv : valV kvs k = some y)
    (hd1 : (fo == ("__debug__" : Str)) = false) (hd2 : (one == ("__debug__" : Str)) = false) (hd3 : (fo == ("__classdict__" : Str)) = false)
    (h : Heap) (tk : Nat) (kp : ∀ b o, s.heap.get? b = some o → h.get? b = some o) :
    wpAny (model X.prog X.w) A (call (.ref f) [.ref b]) (fun r s2 => ∃ (h' : Heap) (tk' : Nat), s2 = { s with heap := h', toks := tk' } ∧ (∀ b o, h.get? b = some o → h'.get? b = some o) ∧ RelV y r) (fun _ _ => False) { s with heap := h, toks := tk } := by
  have lim : h.NoLimit := I.nolimit.keeps kp
  have hc2 : h.CodeRec (.ref c') q := by
    obtain ⟨c, oc, vs, t, e, ho, hd, hn⟩ := hcode
    exact ⟨c, oc, vs, t, e, kp _ _ ho, hd, hn⟩
  refine wpAny_call (PySem.W.kla_callFunE (s := { s with heap := h, toks := tk }) hdp (kp _ _ hf) rfl S.co S.gen rfl hc2 ?_)
  rw [hbind]
  refine wpAny_pure (wpAny_newFunctionEnv (fun y hy => S.nocell y hy) (fun y hy => ?_) (fun h1 hns hsb => ⟨lim.fresh _ hsb, ?_⟩) S.kind)
  · rw [List.mem_singleton.mp hy]
    exact S.lo
  show codeAny _ _ (.expr _ (PySem.W.envX q scope h.objs.size f (.ref c') cl)) _ _
  have k1 : ∀ b o, h.get? b = some o → h1.get? b = some o := fun c o e => hsb.extBut c o (Nat.ne_of_lt (Heap.lt_size e)) (Heap.get?_push_of_some _ e)
  have k2 : ∀ b o, s.heap.get? b = some o → h1.get? b = some o := fun c o e => k1 c o (kp c o e)
  have I1 : Inv X pins σ H { s with heap := h1, toks := tk + 1 } := I.kept (t' := tk + 1) k2
  have hcell1 : h1.IsCell cF (some (.ref d)) := by
    obtain ⟨o, ho, hd⟩ := hcell
    exact ⟨o, k2 _ _ ho, hd⟩
  refine PySem.W.kla_codeExpr ?_
  refine subD_of PySem.F.slot_dict_getitem.lookup (fun _ _ => rfl) ?_
  refine wpAny_Name (wpAny_loadName_free (c := cF) (v := .ref d) S.kind S.lf hcl hcell1 ?_ hd3) hd1
  refine wpAny_Name (wpAny_loadName_local (m := fun x => ([(one, Value.ref b)] : List (Str × Value)).reverse.lookup x) (v := .ref b) S.kind S.lo hns (by simp [List.lookup]) ?_) hd2
  obtain ⟨z, hds, xs, rel, dd⟩ := dt_of I1.hok hD
  obtain ⟨w', hw, rw'⟩ := RelO.some_of (v := y) (o := (atKey xs k).map (·.2)) (by rw [← hv]; exact rel.val k)
  obtain ⟨p, hp, hp2⟩ := Option.map_eq_some_iff.mp hw
  refine ⟨dd.typeIs, wpAny_getItem_heap (tupleKind_room_in1 (hu _)) (key_of I1.hok hb) dd hp ?_⟩
  rw [hp2]
  exact ⟨h1, _, rfl, k1, rw'⟩
end
/-! ### sorted(xs, key=lambda x: d[x]) -/
section
variable {K : PySem.W.Frag} {H H' : Hp}
open LamX in
theorem SqL.extN (e : LamX.ExtN H H') {a : Addr} {xs : List V} (h : SqL K H a xs) : SqL K H' a xs := by
  rcases h with (h | ⟨o, h⟩) | h
  · exact .inl (.inl (e _ _ h (fun _ z => nomatch z)))
  · exact .inl (.inr ⟨o, e _ _ h (fun _ z => nomatch z)⟩)
  · exact .inr h
theorem SqT.extN (e : LamX.ExtN H H') {a : Addr} {xs : List V} (h : SqT K H a xs) : SqT K H' a xs := by
  rcases h with (h | ⟨o, h⟩) | h
  · exact .inl (.inl (e _ _ h (fun _ z => nomatch z)))
  · exact .inl (.inr ⟨o, e _ _ h (fun _ z => nomatch z)⟩)
  · exact .inr h
mutual
theorem dp_ext (e : LamX.ExtN H H') : ∀ (d : PyData) (v : V), Dp K H v d → Dp K H' v d
  | .none, _, h => by cases h; exact .non
  | .bool _, _, h => by cases h; exact .bl _
  | .int _, _, h => by cases h; exact .int _
  | .str _, _, h => by cases h; exact .str _
  | .list ds, _, h => by
    cases h with
    | lst a b => exact .lst (SqL.extN e a) (dpAll_ext e ds _ b)
  | .tuple ds, _, h => by
    cases h with
    | tup a b => exact .tup (SqT.extN e a) (dpAll_ext e ds _ b)
  | .dict _, _, h => by cases h
theorem dpAll_ext (e : LamX.ExtN H H') : ∀ (ds : List PyData) (vs : List V), DpAll K H vs ds → DpAll K H' vs ds
  | [], _, h => by cases h; exact .nil
  | d :: ds, _, h => by
    cases h with
    | cons a b => exact .cons (dp_ext e d _ a) (dpAll_ext e ds _ b)
end
end
/-- each item of xs is a key of the dict at d, its value there reads as k of it -/
def KeysIn (K : PySem.W.Frag) (H : Hp) (d : Addr) (xs : List V) (k : V → PyData) : Prop :=
  ∃ kvs : List (List L2.Key × V), H d = some (.dT kvs) ∧ ∀ x ∈ xs, ∃ (b : Addr) (kk : List L2.Key) (y : V), x = .ref b ∧ H b = some (.tup (kk.map kV)) ∧ valV kvs kk = some y ∧ Dp K H y (k x)
def SortOk (K : PySem.W.Frag) (T : List (Addr × Str)) (i : Nat) (σ : L2.St) (Q : VK) (x : V) (H0 : Hp) : Prop := ∃ (l d : Addr) (xs : List V) (k : V → PyData), x = .ref l ∧ SqL K H0 l xs ∧ σ[i]? = some (some (.ref d)) ∧ KeysIn K H0 d xs k ∧
  (∀ x ∈ xs, ∀ y ∈ xs, PySem.W.alike (k x) (k y) = true) ∧ (∀ x, ∃ ds, k x = .list ds) ∧ (∀ x ∈ xs, (k x).depth ≤ 50) ∧ LamX.Tabs T H0 ∧
  ∀ H1, LamX.ExtN H0 H1 → LamX.Tabs T H1 → ∀ p ys, H1 p = none → ys.Perm xs → Q (.ref p) (upd H1 p (.lst ys))
def tSortLam (K : PySem.W.Frag) (T : List (Addr × Str)) (i : Nat) (te : TE) : TE := fun σ H Q => te σ H (SortOk K T i σ Q)
def One (P : V → Hp → Prop) : List V → Hp → Prop
  | [x], H => P x H
  | _, _ => False
theorem One.of {P : V → Hp → Prop} : ∀ {vs : List V} {H : Hp}, One P vs H → ∃ x, vs = [x] ∧ P x H
  | [x], _, h => ⟨x, rfl, h⟩
  | [], _, h => h.elim
  | _ :: _ :: _, _, h => h.elim
theorem vals_each : ∀ {us : List Value} {xs : List V}, EachIs (fun u x => RelV x u) us xs → Vals xs us
  | _, _, .nil => .nil
  | _, _, .cons h t => .cons h (vals_each t)
theorem each_vals : ∀ {us : List Value} {xs : List V}, Vals xs us → EachIs (fun u x => RelV x u) us xs
  | _, _, .nil => .nil
  | _, _, .cons h t => .cons h (each_vals t)
section
variable {X : Cx} {T : List (Addr × Str)} {c P : Addr} {e : Expr} {te : TE} {i : Nat} {fo one : Str} {params : Arguments} {scope : Scope} {p p1 p2 p3 lpos kpos pos : Pos}
theorem pe_sortedLam (hg : Gl X "sorted") (hm : X.mg "sorted" = none) (ha : PA X [e] (tCons te tNil)) (hc : X.calm = true) (hr : Room 4 X.A) (TB : LamX.TabB X.base X.mg c P) (hcode : X.env.code = .ref c)
    (hmT : (P, X.env.qual ++ "<lambda>") ∈ T) (huT : ∀ p ∈ T, p.1 = P → p.2 = X.env.qual ++ "<lambda>") (hdef : defaultsOf params X.env = ([], [])) (S : LamG scope fo one)
    (hfree : ∀ y ∈ scope.names, y.2 = .free → X.env.scope.names.lookup y.1 = some .cell) (hN : X.N[i]? = some fo) (hfo : X.env.scope.names.lookup fo = some .cell)
    (hbind : ∀ (q : Str) (cl : List (Str × Addr)) (pm cv ctv v : Value), bindArgs (PySem.W.kla_fn "<lambda>" q params (.Subscript (.Name fo p1) (.Name one p2) p3) scope cl pm cv ctv) ⟨[v], []⟩ = pure [(one, v)])
    (hd1 : (fo == ("__debug__" : Str)) = false := by decide) (hd2 : (one == ("__debug__" : Str)) = false := by decide) (hd3 : (fo == ("__classdict__" : Str)) = false := by decide)
    (he : backTo pos (starEach [e] X.env) = (false, eval e X.env) :: backTo pos (starEach [] X.env) := by rfl) (hpl : (backTo pos (starEach [e] X.env)).any (·.1) = false := by rfl) :
    PE X (.Call (.Name "sorted" p) [e] [⟨some "key", .Lambda params (.Subscript (.Name fo p1) (.Name one p2) p3) scope lpos, kpos⟩] pos) (tSortLam X.K T i te) := by
  refine ⟨fun pins s σ H Q I h => ?_⟩
  refine wpAny_Call_Name_kw (ld_blt (u := .builtin "sorted") I hg hm boot_sorted ?_ (by decide) (by decide))
  refine PyProof.Rows.callWith_kw (thn (ha.run pos pins s σ H (One (SortOk X.K T i σ Q)) I h) fun us s1 hh => ?_) he hpl rfl rfl
  · obtain ⟨vs, H0, I0, rv, hone⟩ := hh
    obtain ⟨x, rfl, l, d, xs, k, rfl, hl, hd, hk, hal, hls, hdp, hT, q⟩ := hone.of
    obtain ⟨u, rfl, ru⟩ := vals1 rv
    obtain rfl : u = Value.ref l := ru
    show wpAny _ _ (evalAll [(do let v ← eval (.Lambda params (.Subscript (.Name fo p1) (.Name one p2) p3) scope lpos) X.env; standAt pos; pure v)]) _ _ s1
    have hfree' : ∀ y ∈ scope.names, y.2 = .free → ∃ c, X.env.cells.lookup y.1 = some c := fun y hy e => I.ok.has _ (.inl (hfree y hy e))
    refine wpAny_evalAll_cons (wpAny_bind (LamX.lam_make2 I0 TB hcode hmT huT hT hdef hfree' fun f c' pm' ctv H1 s' I1 eN T1 hf hfn hfr hco => wpAny_bind (wpAny_standAt (wpAny_pure (wpAny_evalAll_nil ?_)))))
    show wpAny _ _ (call (.builtin "sorted") [.ref l] [(Str.ofString "key", .ref f)]) _ _ s'
    have hl1 := SqL.extN eN hl
    obtain ⟨its, rits, hpl', hz⟩ := I1.list hl1
    obtain ⟨cF, hcl, hcell⟩ : ∃ cF, (cloFrom X.env.cells scope.names []).lookup fo = some cF ∧ s'.heap.IsCell cF (some (.ref d)) := by
      obtain ⟨m, hn, hlk⟩ := I1.loc
      obtain ⟨w', r, qq⟩ := hlk i fo (.ref d) hN hd (.inr (.inl hfo))
      obtain rfl : w' = Value.ref d := r
      have hm' : (fo, NameKind.free) ∈ scope.names := PySem.mem_of_lookup S.lf
      obtain ⟨c2, h2⟩ := mem_lookup (cloFrom_has (cells := X.env.cells) (acc := []) hm')
      refine ⟨c2, h2, ?_⟩
      rcases cloFrom_mem (PySem.mem_of_lookup h2) with hmm | ⟨_, h3⟩
      · cases hmm
      · rcases qq with ⟨k', _⟩ | ⟨_, c3, e', z⟩
        · have k' : X.env.scope.names.lookup fo = some .local := k'
          rw [hfo] at k'
          cases k'
        · rw [e'] at h3
          rw [h3]
          exact z
    obtain ⟨⟨oc, vs', t', hoc, hdc, hvc⟩, _, _⟩ := I1.hok c' _ hco
    have hrec : s'.heap.CodeRec (.ref c') (X.env.qual ++ "<lambda>") := ⟨c', oc, vs', t', rfl, hoc, hdc, hvc⟩
    refine sorted_key_lists (bs := xs) (R := fun u x => RelV x u) k hpl'.isList (each_vals rits) (fun a ha b hb => ?_) (.inr fun a ha => ?_) hz (fun x hx => ?_) (fun v x hR hx h tk kp => ?_) fun out cc h' tk kp ho hE => ?_
    · obtain ⟨x, hx, rfl⟩ := List.mem_map.mp ha
      obtain ⟨y, hy, rfl⟩ := List.mem_map.mp hb
      exact hal x hx y hy
    · obtain ⟨x, hx, rfl⟩ := List.mem_map.mp ha
      obtain ⟨ds, e⟩ := hls x
      rw [e]
      exact ⟨(fun z => nomatch z), (fun xs z => nomatch z)⟩
    · have := hr.un
      have := hdp x hx
      omega
    · obtain ⟨kvs, hD, hks⟩ := hk
      obtain ⟨b, kk, y, rfl, hb, hv, hdy⟩ := hks x hx
      obtain rfl : v = Value.ref b := hR
      refine wpAny_mono (lam_get (A := X.A.in1.in1) I1 S hf hrec ?_ ?_ (fun v => hbind _ _ _ _ _ v) hcl hcell (eN _ _ hD (fun ps z => nomatch z)) (eN _ _ hb (fun ps z => nomatch z)) hv hd1 hd2 hd3 h tk kp) ?_ (fun _ _ z => z)
      · have := hr.dp
        show X.A.depth < _
        omega
      · intro env
        have := hr.un
        show X.A.units + 1 + 1 + 3 + 1 < _
        omega
      · rintro r s2 ⟨h2, tk2, rfl, k2, rr⟩
        obtain ⟨as, hrd⟩ := Dp.reads I1 _ _ _ (dp_ext eN _ _ hdy) rr
        exact ⟨h2, tk2, as, rfl, k2, Reads.keeps (fun c o z => k2 c o (kp c o z)) hrd, reads_lt hrd⟩
    · have hp : s'.heap.objs.size ≤ s'.heap.objs.size + 1 := Nat.le_succ _
      have pm : (xs.mergeSort (PySem.W.dataLe false k)).Perm xs := List.mergeSort_perm _ _
      exact ⟨.ref (s'.heap.objs.size + 1), upd H1 _ (.lst (xs.mergeSort (PySem.W.dataLe false k))), I1.laid (t' := tk) kp hp ⟨by rw [pm.length_eq]; exact hz, out, cc, vals_each hE, ho⟩, rfl, q H1 eN T1 _ _ (I1.hok.fresh hp) pm⟩
end
end Wk
set_option Elab.async false
set_option linter.all false
set_option maxRecDepth 100000
set_option maxHeartbeats 4000000
namespace Wk
open PySem PySem.Spec PyProof.Rows L2
def top (i : Nat) : Stmt := PySem.Challenge.pw_oldmap_k13_whole_walks.main.body.getD i (.Pass ⟨0, 0, 0, 0⟩)
/-! ### the data: cells -/
def cD (c : Cell) : PyData := .tuple [.int c.1, .int c.2]
def csD (cs : List Cell) : PyData := .list (cs.map cD)
def kc (c : Cell) : List L2.Key := [.inl c.1, .inl c.2]
theorem kc_inj {c d : Cell} (h : kc c = kc d) : c = d := by
  unfold kc at h
  injection h with h1 h2
  injection h2 with h2 h3
  injection h1 with h1
  injection h2 with h2
  exact Prod.ext h1 h2
def CellAt (H : Hp) (v : V) (c : Cell) : Prop := ∃ a, v = .ref a ∧ H a = some (.tup [.int c.1, .int c.2])
theorem CellAt.key {H : Hp} {v : V} {c : Cell} (h : CellAt H v c) : ∃ a, v = .ref a ∧ H a = some (.tup ((kc c).map kV)) := h
/-- tuples stay -/
def Tups (H H' : Hp) : Prop := ∀ a xs, H a = some (.tup xs) → H' a = some (.tup xs)
theorem Tups.of {H H' : Hp} (h : Same H H') : Tups H H' := fun a _ e => h a _ e
theorem Tups.refl (H : Hp) : Tups H H := fun _ _ e => e
theorem Tups.trans {H H1 H2 : Hp} (a : Tups H H1) (b : Tups H1 H2) : Tups H H2 := fun c x e => b c x (a c x e)
theorem Tups.upd {H : Hp} {a : Addr} {o : HO} (h : H a = none ∨ ∃ xs, H a = some (.lst xs) ∨ ∃ kvs, H a = some (.dT kvs)) : Tups H (upd H a o) := fun b xs e => by
  rw [upd_ne (fun z => ?_)]
  · exact e
  · subst z
    rcases h with h | ⟨ys, h | ⟨kvs, h⟩⟩ <;> rw [e] at h <;> cases h
theorem CellAt.mono {H H' : Hp} {v : V} {c : Cell} (t : Tups H H') (h : CellAt H v c) : CellAt H' v c := by
  obtain ⟨a, e, h⟩ := h
  exact ⟨a, e, t _ _ h⟩
inductive Cells (H : Hp) : List V → List Cell → Prop where
  | nil : Cells H [] []
  | cons {v : V} {vs : List V} {c : Cell} {cs : List Cell} : CellAt H v c → Cells H vs cs → Cells H (v :: vs) (c :: cs)
theorem Cells.mono {H H' : Hp} {vs : List V} {cs : List Cell} (t : Tups H H') (h : Cells H vs cs) : Cells H' vs cs := by
  induction h with
  | nil => exact .nil
  | cons a b ih => exact .cons (a.mono t) ih
theorem Cells.length {H : Hp} {vs : List V} {cs : List Cell} (h : Cells H vs cs) : vs.length = cs.length := by
  induction h with
  | nil => rfl
  | cons a b ih => rw [List.length_cons, List.length_cons, ih]
theorem Cells.snoc {H : Hp} {vs : List V} {cs : List Cell} {v : V} {c : Cell} (h : Cells H vs cs) (k : CellAt H v c) : Cells H (vs ++ [v]) (cs ++ [c]) := by
  induction h with
  | nil => exact .cons k .nil
  | cons a b ih => exact .cons a ih
theorem Cells.append {H : Hp} {vs ws : List V} {cs ds : List Cell} (h : Cells H vs cs) (k : Cells H ws ds) : Cells H (vs ++ ws) (cs ++ ds) := by
  induction h with
  | nil => exact k
  | cons a b ih => exact .cons a ih
theorem Cells.get {H : Hp} {vs : List V} {cs : List Cell} (h : Cells H vs cs) : ∀ {i : Nat} {v : V}, vs[i]? = some v → ∃ c, cs[i]? = some c ∧ CellAt H v c := by
  induction h with
  | nil => intro i v e; simp at e
  | cons a b ih =>
    intro i v e
    cases i with
    | zero =>
      cases e
      exact ⟨_, rfl, a⟩
    | succ i => exact ih (i := i) (by simpa using e)
theorem Cells.at {H : Hp} {vs : List V} {cs : List Cell} (h : Cells H vs cs) : ∀ {i : Nat} {c : Cell}, cs[i]? = some c → ∃ v, vs[i]? = some v ∧ CellAt H v c := by
  induction h with
  | nil => intro i v e; simp at e
  | cons a b ih =>
    intro i v e
    cases i with
    | zero =>
      cases e
      exact ⟨_, rfl, a⟩
    | succ i => exact ih (i := i) (by simpa using e)
theorem Cells.mem {H : Hp} {vs : List V} {cs : List Cell} (h : Cells H vs cs) {v : V} (hv : v ∈ vs) : ∃ c ∈ cs, CellAt H v c := by
  obtain ⟨i, hi⟩ := List.getElem?_of_mem hv
  obtain ⟨c, hc, hh⟩ := h.get hi
  exact ⟨c, List.mem_of_getElem? hc, hh⟩
section
variable {K : PySem.W.Frag} {H : Hp}
theorem CellAt.dp {v : V} {c : Cell} (h : CellAt H v c) : Dp K H v (cD c) := by
  obtain ⟨a, rfl, h⟩ := h
  exact .tup (SqT.of h) (.cons (.int _) (.cons (.int _) .nil))
theorem Cells.dp {vs : List V} {cs : List Cell} (h : Cells H vs cs) : DpAll K H vs (cs.map cD) := by
  induction h with
  | nil => exact .nil
  | cons a b ih => exact .cons a.dp ih
end
theorem cD_eqv (c d : Cell) : PyData.eqv (cD c) (cD d) = decide (c = d) := by
  obtain ⟨a, b⟩ := c
  obtain ⟨a', b'⟩ := d
  have e : PyData.eqv (cD (a, b)) (cD (a', b')) = ((a == a') && ((b == b') && true)) := by simp only [cD, PyData.eqv, PyData.eqvAll]
  rw [e]
  by_cases h1 : a = a'
  · by_cases h2 : b = b'
    · subst h1 h2; simp
    · have : ((a, b) : Cell) ≠ (a', b') := fun z => h2 (Prod.mk.inj z).2
      rw [decide_eq_false this]; simp [h2]
  · have : ((a, b) : Cell) ≠ (a', b') := fun z => h1 (Prod.mk.inj z).1
    rw [decide_eq_false this]; simp [h1]
theorem csD_eqv : ∀ cs ds : List Cell, PyData.eqv (csD cs) (csD ds) = decide (cs = ds)
  | [], [] => by simp [csD, PyData.eqv, PyData.eqvAll]
  | [], d :: ds => by simp [csD, PyData.eqv, PyData.eqvAll]
  | c :: cs, [] => by simp [csD, PyData.eqv, PyData.eqvAll]
  | c :: cs, d :: ds => by
    have ih := csD_eqv cs ds
    have e : PyData.eqv (csD (c :: cs)) (csD (d :: ds)) = (PyData.eqv (cD c) (cD d) && PyData.eqv (csD cs) (csD ds)) := by simp only [csD, List.map_cons, PyData.eqv, PyData.eqvAll]
    rw [e, ih, cD_eqv]
    by_cases h1 : c = d
    · subst h1; simp
    · simp [h1]
theorem cD_depth (c : Cell) : (cD c).depth = 1 := by simp [cD, PyData.depth, PyData.depthAll]
theorem csD_depthAll : ∀ cs : List Cell, PyData.depthAll (cs.map cD) ≤ 1
  | [] => by simp [PyData.depthAll]
  | z :: zs => by
    have h1 := csD_depthAll zs
    have h2 := cD_depth z
    simp only [List.map_cons, PyData.depthAll]
    omega
theorem cD_lay (c : Cell) : (cD c).canLay0 = true := by simp [cD, PyData.canLay0, PyData.canLayAll0]
theorem csD_lay : ∀ cs : List Cell, PyData.canLayAll0 (cs.map cD) = true
  | [] => by simp [PyData.canLayAll0]
  | z :: zs => by simp [PyData.canLayAll0, cD_lay z, csD_lay zs]
theorem cD_shaped (c : Cell) : SeqAt.shaped (cD c) = true := by
  have h := cD_depth c
  show ((cD c).canLay0 && decide ((cD c).depth ≤ 64)) = true
  rw [Bool.and_eq_true]
  exact ⟨cD_lay c, decide_eq_true (by omega)⟩
theorem csD_depth (cs : List Cell) : (csD cs).depth ≤ 2 := by
  have := csD_depthAll cs
  simp only [csD, PyData.depth]
  omega
theorem csD_shaped (cs : List Cell) : SeqAt.shaped (csD cs) = true := by
  have h1 := csD_depth cs
  show ((csD cs).canLay0 && decide ((csD cs).depth ≤ 64)) = true
  rw [Bool.and_eq_true]
  exact ⟨by simp only [csD, PyData.canLay0]; exact csD_lay cs, decide_eq_true (by omega)⟩
def isD (ns : List Int) : PyData := .list (ns.map .int)
theorem isD_shaped (ns : List Int) : SeqAt.shaped (isD ns) = true := by
  have l : ∀ ns : List Int, PyData.canLayAll0 (ns.map PyData.int) = true := fun ns => by
    induction ns with
    | nil => simp [PyData.canLayAll0]
    | cons a r ih => simp [PyData.canLayAll0, PyData.canLay0, ih]
  have d : ∀ ns : List Int, PyData.depthAll (ns.map PyData.int) = 0 := fun ns => by
    induction ns with
    | nil => simp [PyData.depthAll]
    | cons a r ih => simp [PyData.depthAll, PyData.depth, ih]
  show ((isD ns).canLay0 && decide ((isD ns).depth ≤ 64)) = true
  rw [Bool.and_eq_true]
  refine ⟨by simp only [isD, PyData.canLay0]; exact l ns, decide_eq_true ?_⟩
  simp only [isD, PyData.depth]
  rw [d ns]
  omega
theorem dpAll_ints {K : PySem.W.Frag} {H : Hp} : ∀ ns : List Int, DpAll K H (ns.map V.int) (ns.map PyData.int)
  | [] => .nil
  | n :: r => .cons (.int n) (dpAll_ints r)
theorem eqv_nil (ds : List PyData) : PyData.eqv (.list ds) (.list []) = ds.isEmpty := by
  cases ds with
  | nil => simp [PyData.eqv, PyData.eqvAll]
  | cons a r => simp [PyData.eqv, PyData.eqvAll]
/-! ### x == [], x != [] -/
def rNil (K : PySem.W.Frag) (neg : Bool) : R2 := fun x y H Q => ∃ ds p, y = .ref p ∧ H p = some (.lst []) ∧ Dp K H x (.list ds) ∧ SeqAt.shaped (.list ds) = true ∧ Q (.bl (if neg = true then !ds.isEmpty else ds.isEmpty)) H
theorem dp_same {K : PySem.W.Frag} {H H' : Hp} (e : Same H H') {v : V} {d : PyData} (h : Dp K H v d) : Dp K H' v d := dp_ext (fun b o z _ => e b o z) d v h
theorem same_new {H : Hp} {p : Addr} {o : HO} (h : H p = none) : Same H (upd H p o) := fun b u e => by
  rw [upd_ne (ne_of_none e h)]
  exact e
section
variable {X : Cx}
theorem op_eqNil (hu : X.A.units + 64 < cLine) : OpR X (compareOp .Eq) (rNil X.K false) := by
  intro pins s σ H x y v u Q I rx ry h
  obtain ⟨ds, p, rfl, hp, hd, hs, q⟩ := h
  refine op_eqD hu pins s σ H x _ v u Q I rx ry ⟨_, .list [], hd, .lst (SqL.of hp) .nil, hs, by decide, ?_⟩
  rw [eqv_nil]
  exact q
theorem op_neNil (hu : X.A.units + 64 < cLine) : OpR X (compareOp .NotEq) (rNil X.K true) := by
  intro pins s σ H x y v u Q I rx ry h
  obtain ⟨ds, p, rfl, hp, hd, hs, q⟩ := h
  refine op_neD hu pins s σ H x _ v u Q I rx ry ⟨_, .list [], hd, .lst (SqL.of hp) .nil, hs, by decide, ?_⟩
  rw [eqv_nil]
  exact q
end
/-! ### the box -/
def BoxAt (H : Hp) (b l : Addr) : Prop := ∃ (z : Int) (ns : List Int), H b = some (.lst [.ref l, .int z]) ∧ H l = some (.lst (ns.map V.int)) ∧ ns.length ≤ 63
/-- all but the box's two lists stays -/
def Keep (b l : Addr) (H H' : Hp) : Prop := ∀ a o, a ≠ b → a ≠ l → H a = some o → H' a = some o
theorem Keep.refl (b l : Addr) (H : Hp) : Keep b l H H := fun _ _ _ _ e => e
theorem Keep.trans {b l : Addr} {H H1 H2 : Hp} (x : Keep b l H H1) (y : Keep b l H1 H2) : Keep b l H H2 := fun a o h1 h2 e => y a o h1 h2 (x a o h1 h2 e)
theorem Keep.of {b l : Addr} {H H1 : Hp} (x : Same H H1) : Keep b l H H1 := fun a o _ _ e => x a o e
theorem BoxAt.ne {H : Hp} {b l : Addr} (h : BoxAt H b l) : l ≠ b := by
  obtain ⟨z, ns, h1, h2, _⟩ := h
  intro e
  rw [e, h1] at h2
  injection h2 with h2
  injection h2 with h2
  cases ns with
  | nil => cases h2
  | cons a r =>
    rw [List.map_cons] at h2
    injection h2 with h2 _
    cases h2
theorem BoxAt.same {H H' : Hp} {b l : Addr} (h : BoxAt H b l) (e : Same H H') : BoxAt H' b l := by
  obtain ⟨z, ns, h1, h2, h3⟩ := h
  exact ⟨z, ns, e _ _ h1, e _ _ h2, h3⟩
def spTake : Sp := fun vs H Q _ => ∃ (b l : Addr) (m : Int), vs = [.ref b, .int m] ∧ BoxAt H b l ∧ 0 < m ∧ m < 2 ^ 30 ∧ ∀ (H' : Hp) (r : Int), 0 ≤ r → r < m → Keep b l H H' → BoxAt H' b l → Q (.int r) H'
abbrev sTake : Stmt := top 25
structure TT0 (mg : Str → Option Value) : Prop where
  int : mg "int" = none
  len : mg "len" = none
theorem scTake : FnScope ["_law_box", "_law_many", "_law_figure"] ["_law_box", "_law_many"] (defScope sTake) := ⟨rfl, rfl, rfl, by decide +kernel, rfl, by decide +kernel, by decide +kernel⟩
section
variable {P : Program} {w : World} {K : PySem.W.Frag} {mg : Str → Option Value} {base : Heap}
theorem atI0 {v : V} {xs : List V} : atI (v :: xs) 0 = some v := by
  simp [atI, ixN]
theorem atI1 {v u : V} {xs : List V} : atI (v :: u :: xs) 1 = some u := by
  have h : (1 : Int) < ((xs.length : Int) + 1 + 1) := by omega
  simp [atI, ixN, h]
theorem ixN0 {n : Nat} : ixN (n + 1) 0 = some 0 := by
  have h : (0 : Int) < ((n : Int) + 1) := by omega
  simp [ixN, h]
theorem ok_take {f : Addr} {fd : FuncData} (F : Fun K "_law_take" "_law_take" sTake f fd) (T : TT0 mg) : FnOk P w K mg base (L2.CX P w) 1 f fd ["_law_box", "_law_many"] spTake := by
  refine F.okX scTake (fun vs H Q E h => ?_) (fun cdv A outer s H vs Q E hr h => ?_)
  · obtain ⟨b, l, m, rfl, _⟩ := h
    rfl
  · obtain ⟨b, l, m, rfl, hB, m0, m1, q⟩ := h
    have hu := hu_of hr
    have hu64 : (A.deeper (envOfC "_law_take" (defScope sTake) s.heap.objs.size f cdv)).units + 64 < cLine := by have := hr.un; omega
    obtain ⟨z, ns, h1, h2, h3⟩ := id hB
    have lb := hB.ne
    refine ⟨_, PSs.nox (pss_cons (ps_if (pt_cmpR (op_eqNil hu64) (pe_ix ix_list (pv 0) pe_int (fun _ _ => rfl)) (pe_lst pa_nil) (nomark _))
        (pss_cons (ps_asg (pe_op op_mod (pe_callTy call_int1 (by rfl) T.int (by decide +kernel) (pa_cons (pe_op op_mul (pe_ix ix_list (pv 0) pe_int (fun _ _ => rfl)) pe_int) pa_nil)) pe_int) (pg_sub (pv 0) pe_int set_list))
          (pss_one (ps_ret (pe_op op_mod (pe_callTy call_int1 (by rfl) T.int (by decide +kernel) (pa_cons (pe_op op_fdiv (pe_ix ix_list (pv 0) pe_int (fun _ _ => rfl)) pe_int) pa_nil)) (pv 1))))) pss_nil)
      (pss_cons (ps_set (i := 2) scTake.nd rfl (Or.inl rfl) (pe_ix ix_list (pe_ix ix_list (pv 0) pe_int (fun _ _ => rfl)) pe_int (fun _ _ => rfl)))
      (pss_cons (ps_asg (pe_op op_fdiv (pv 2) (pv 1)) (pg_sub (pe_ix ix_list (pv 0) pe_int (fun _ _ => rfl)) pe_int set_list))
      (pss_cons (ps_if (PW.pt (pw_or (pt_cmpR op_eq (pe_ix ix_list (pe_ix ix_list (pv 0) pe_int (fun _ _ => rfl)) pe_int (fun _ _ => rfl)) pe_int (nomark _)) (pw_or1 (pt_cmpR op_eq (pe_ix ix_list (pe_ix ix_list (pv 0) pe_int (fun _ _ => rfl)) pe_int (fun _ _ => rfl)) (pe_un un_neg pe_int) (nomark _)))))
        (pss_one (ps_expr (pe_bm PySem.F.plainAttrs_list PySem.F.slot_list_pop PySem.F.type_list_pop mt_popAt (pe_ix ix_list (pv 0) pe_int (fun _ _ => rfl)) (pa_cons pe_int pa_nil)))) pss_nil)
      (pss_one (ps_ret (pe_op op_mod (pv 2) (pv 1)))))))), ?_⟩
    have nbl : b ≠ l := lb.symm
    refine ⟨_, rfl, b, _, 0, _, rfl, rfl, SqL.of h1, atI0, Nat.zero_le _, fun p hp => ⟨ns.map .int, p, rfl, upd_same, dp_same (same_new hp) (.lst (SqL.of h2) (dpAll_ints ns)), isD_shaped ns, _, rfl, ?_⟩⟩
    have s1 : Same H (upd H p (.lst [])) := same_new hp
    have g1 := s1 _ _ h1
    have g2 := s1 _ _ h2
    cases ns with
    | nil =>
      refine ite2 (fun _ => ?_) (fun c => absurd rfl c)
      refine ⟨_, rfl, b, _, 1, _, rfl, rfl, SqL.of g1, atI1, _, _, rfl, rfl, .inr (by decide), .inl ⟨_, rfl, _, _, rfl, rfl, (by show (0 : Int) < 2147483647; decide), ?_⟩⟩
      refine ⟨_, rfl, b, _, 1, 1, rfl, rfl, g1, (by simp [ixN]), ?_⟩
      refine ⟨_, rfl, b, _, 1, _, rfl, rfl, SqL.of upd_same, (by rw [show ([V.ref l, V.int z].set 1 (V.int (z * 48271 % 2147483647))) = [V.ref l, V.int (z * 48271 % 2147483647)] from rfl]; exact atI1), _, _, rfl, rfl, (by constructor <;> decide), .inl ⟨_, rfl, _, rfl, _, _, rfl, rfl, m0, ?_⟩⟩
      refine q _ _ (Int.emod_nonneg _ (by omega)) (Int.emod_lt_of_pos _ m0) (fun a o na nl e => ?_) ⟨_, [], upd_same, ?_, by simp⟩
      · rw [upd_ne na]
        exact s1 _ _ e
      · rw [upd_ne lb]
        exact g2
    | cons n ns =>
      refine ite2 (fun c => absurd c (by simp)) (fun _ => ?_)
      refine ⟨_, rfl, b, _, 0, _, rfl, rfl, SqL.of g1, atI0, l, _, 0, _, rfl, rfl, SqL.of g2, atI0, ?_⟩
      refine ⟨_, rfl, _, rfl, _, _, rfl, rfl, ⟨m0, m1⟩, _, rfl, b, _, 0, _, rfl, rfl, SqL.of g1, atI0, l, _, 0, 0, rfl, rfl, g2, ixN0, ?_⟩
      have k1 : upd (upd H p (.lst [])) l (.lst (((n :: ns).map V.int).set 0 (V.int (n / m)))) b = some (.lst [.ref l, .int z]) := by
        rw [upd_ne nbl]
        exact g1
      have k2 : upd (upd H p (.lst [])) l (.lst (((n :: ns).map V.int).set 0 (V.int (n / m)))) l = some (.lst (((n / m) :: ns).map V.int)) := by
        rw [upd_same]
        rfl
      have kk : Keep b l H (upd (upd H p (.lst [])) l (.lst (((n :: ns).map V.int).set 0 (V.int (n / m))))) := fun a o na nl e => by
        rw [upd_ne nl]
        exact s1 _ _ e
      have fin : ∀ H2 : Hp, Keep b l H H2 → BoxAt H2 b l → Q (.int (n % m)) H2 := fun H2 x y => q _ _ (Int.emod_nonneg _ (by omega)) (Int.emod_lt_of_pos _ m0) x y
      have rest : ∀ (H2 : Hp), Keep b l H H2 → BoxAt H2 b l → (tRet (tOp (rI (fun _ j => 0 < j) fun i j => .int (i % j)) (tVar 2) (tVar 1))) { nx := fun _ H' => Q .non H', rt := Q } [some (.ref b), some (.int m), some (.int n)] H2 := fun H2 x y => ⟨_, rfl, _, rfl, _, _, rfl, rfl, m0, fin H2 x y⟩
      have popped : ∃ (l' : Addr) (xs : List V) (i : Int) (k : Nat) (y : V), V.ref l = .ref l' ∧ [V.int 0] = [.int i] ∧ upd (upd H p (.lst [])) l (.lst (((n :: ns).map V.int).set 0 (V.int (n / m)))) l' = some (.lst xs) ∧ -(2 ^ 63) ≤ i ∧ i < 2 ^ 63 ∧ seqIndex? i xs.length = some k ∧ xs[k]? = some y ∧
          (fun _ H3 => (tRet (tOp (rI (fun _ j => 0 < j) fun i j => .int (i % j)) (tVar 2) (tVar 1))) { nx := fun _ H' => Q .non H', rt := Q } [some (.ref b), some (.int m), some (.int n)] H3) y (upd (upd (upd H p (.lst [])) l (.lst (((n :: ns).map V.int).set 0 (V.int (n / m))))) l' (.lst (xs.eraseIdx k))) := by
        refine ⟨l, _, 0, 0, _, rfl, rfl, k2, by decide, by decide, ?_, rfl, rest _ (fun a o na nl e => ?_) ⟨z, ns, ?_, ?_, ?_⟩⟩
        · simp [seqIndex?]
        · rw [upd_ne nl, upd_ne nl]
          exact s1 _ _ e
        · rw [upd_ne nbl]
          exact k1
        · rw [upd_same]
          rfl
        · rw [List.length_cons] at h3; omega
      refine ⟨_, rfl, b, _, 0, _, rfl, rfl, SqL.of k1, atI0, l, _, 0, _, rfl, rfl, SqL.of k2, atI0, rfl, _, rfl, ite2 (fun _ => ?_) fun _ => ?_⟩
      · refine ite2 (fun _ => ?_) (fun c => absurd rfl c)
        exact ⟨_, rfl, b, _, 0, _, rfl, rfl, SqL.of k1, atI0, .inl ⟨rfl, _, SqL.of k2⟩, popped⟩
      · refine ⟨_, rfl, b, _, 0, _, rfl, rfl, SqL.of k1, atI0, l, _, 0, _, rfl, rfl, SqL.of k2, atI0, _, rfl, rfl, _, rfl, ite2 (fun _ => ?_) fun _ => ?_⟩
        · exact ⟨_, rfl, b, _, 0, _, rfl, rfl, SqL.of k1, atI0, .inl ⟨rfl, _, SqL.of k2⟩, popped⟩
        · exact rest _ kk ⟨z, (n / m) :: ns, k1, k2, h3⟩
end
end Wk
set_option Elab.async false
set_option linter.all false
set_option maxRecDepth 100000
set_option maxHeartbeats 4000000
namespace Wk
open PySem PySem.Spec PyProof.Rows L2
/-! ### the map -/
def inB (rows : List Str) (c : Cell) : Bool := decide (0 ≤ c.1 ∧ c.1 < rows.length) && decide (0 ≤ c.2 ∧ c.2 < (rows.headD ⟨#[]⟩).length)
def signN (rows : List Str) (c : Cell) : Nat := if inB rows c = true then ((rows.getD c.1.toNat ⟨#[]⟩).cps.getD c.2.toNat 126) else 126
def landB (rows : List Str) (c : Cell) : Bool := !decide (signN rows c = 126)
structure Rect (rows : List Str) (w : Nat) : Prop where
  h0 : 0 < rows.length
  h6 : rows.length ≤ 6
  w0 : 0 < w
  w6 : w ≤ 6
  len : ∀ z ∈ rows, z.length = w
  ch : ∀ z ∈ rows, ∀ c ∈ z.cps.toList, c = 46 ∨ c = 126 ∨ (65 ≤ c ∧ c ≤ 90)
theorem Rect.head {rows : List Str} {w : Nat} (R : Rect rows w) : ∃ z, rows[0]? = some z ∧ rows.headD ⟨#[]⟩ = z ∧ z.length = w := by
  cases rows with
  | nil => exact absurd R.h0 (by simp)
  | cons z r => exact ⟨z, rfl, rfl, R.len z (by simp)⟩
theorem Rect.hw {rows : List Str} {w : Nat} (R : Rect rows w) : (rows.headD ⟨#[]⟩).length = w := by
  obtain ⟨z, _, e, h⟩ := R.head
  rw [e]; exact h
def RowsAt (H : Hp) (r : Addr) (rows : List Str) : Prop := H r = some (.tup (rows.map V.str))
theorem RowsAt.mono {H H' : Hp} {r : Addr} {rows : List Str} (t : Tups H H') (h : RowsAt H r rows) : RowsAt H' r rows := t _ _ h
/-! ### _law_begun -/
abbrev sBegun : Stmt := top 24
structure TT1 (mg : Str → Option Value) : Prop extends TT0 mg where
  list : mg "list" = none
  range : mg "range" = none
  sorted : mg "sorted" = none
  min : mg "min" = none
  isinstance : mg "isinstance" = none
  enumerate : mg "enumerate" = none
  bool : mg "bool" = none
  str : mg "str" = none
  tuple : mg "tuple" = none
def spBegun (K : PySem.W.Frag) : Sp := fun vs H Q _ => ∃ (a : Addr) (ns : List Int), vs = [.ref a] ∧ SqL K H a (ns.map V.int) ∧ ns.length ≤ 63 ∧ ∀ (H' : Hp) (b l : Addr), Same H H' → H b = none → H l = none → BoxAt H' b l → Q (.ref b) H'
theorem scBegun : FnScope ["_law_script", "_law_stirred", "_law_cell"] ["_law_script"] (defScope sBegun) := ⟨rfl, rfl, rfl, by decide +kernel, rfl, by decide +kernel, by decide +kernel⟩
section
variable {P : Program} {w : World} {K : PySem.W.Frag} {mg : Str → Option Value} {base : Heap}
theorem ok_begun {f : Addr} {fd : FuncData} (F : Fun K "_law_begun" "_law_begun" sBegun f fd) (T : TT1 mg) : FnOk P w K mg base (L2.CX P w) 1 f fd ["_law_script"] (spBegun K) := by
  refine F.okX scBegun (fun vs H Q E h => ?_) (fun cdv A outer s H vs Q E hr h => ?_)
  · obtain ⟨b, ns, rfl, _⟩ := h
    rfl
  · obtain ⟨a, ns, rfl, hS, hl, q⟩ := h
    refine ⟨_, PSs.nox (pss_cons (ps_set (i := 1) scBegun.nd rfl (Or.inl rfl) pe_int)
      (pss_cons (ps_for PassesOwn.never rfl (pi_list (pv 0)) (pg_name (i := 2) scBegun.nd rfl (Or.inl rfl))
        (pss_one (ps_set (i := 1) scBegun.nd rfl (Or.inl rfl) (pe_op op_mod (pe_callTy call_int1 (by rfl) T.int (by decide +kernel) (pa_cons (pe_op op_add (pe_op op_add (pe_op op_mul (pv 1) pe_int) (pe_op op_mul (pv 2) pe_int)) pe_int) pa_nil)) pe_int))))
      (pss_one (ps_ret (pe_lst (pa_cons (pe_callTy call_list_of (by rfl) T.list (by decide +kernel) (pa_cons (pv 0) pa_nil))
        (pa_cons (pe_op op_mul (pv 1) (pe_callTy call_int1 (by rfl) T.int (by decide +kernel) (pa_cons (pe_cmpR op_gt (pe_callB call_len_seq (by rfl) T.len PySem.boot_len (pa_cons (pv 0) pa_nil)) pe_int (nomark _)) pa_nil))) pa_nil))))))), ?_⟩
    refine ⟨_, rfl, a, rfl, ⟨_, hS⟩, for_list (K := K) (a := a) (xs := ns.map V.int) (fun i σ H' => ∃ (z : Int) (v : Option V), σ = [some (.ref a), some (.int z), v] ∧ H' = H) ⟨0, none, rfl, rfl⟩ (fun i σ H' _ ⟨_, _, _, e⟩ => by rw [e]; exact hS) ?_ ?_⟩
    · rintro i y σ H' hi ⟨z, v, rfl, rfl⟩
      obtain ⟨u, rfl⟩ : ∃ u, y = V.int u := by
        rw [List.getElem?_map] at hi
        cases e : ns[i]? with
        | none => rw [e] at hi; cases hi
        | some u => rw [e] at hi; exact ⟨u, (Option.some.inj hi).symm⟩
      refine ⟨_, rfl, _, _, rfl, rfl, .inr (by decide), _, rfl, _, _, rfl, rfl, .inr (by decide), _, _, rfl, rfl, _, _, rfl, rfl, .inl ⟨_, rfl, _, _, rfl, rfl, (by show (0 : Int) < 2147483647; decide), ?_⟩⟩
      exact ⟨_, _, rfl, rfl⟩
    · rintro σ H' ⟨z, v, rfl, rfl⟩
      refine ⟨_, rfl, a, _, rfl, .inl hS, fun l hl0 => ?_⟩
      have sL : Same H' (upd H' l (.lst (ns.map V.int))) := same_new hl0
      refine ⟨_, rfl, _, rfl, a, _, rfl, .inl (sL.seq hS), _, _, rfl, rfl, .inr ⟨_, rfl, _, _, rfl, rfl, ?_, (by show 2 ≤ sizeLine; decide), fun b hb => ?_⟩⟩
      · right
        by_cases c : decide ((2 : Int) < ((ns.map V.int).length : Int)) = true
        · rw [c]; decide
        · rw [Bool.not_eq_true] at c; rw [c]; decide
      · refine q _ b l (sL.trans (same_new hb)) (sL.free hb) hl0 ⟨_, ns, upd_same, ?_, hl⟩
        have nlb : l ≠ b := fun e => by
          rw [← e, upd_same] at hb
          cases hb
        rw [upd_ne nlb, upd_same]
/-! ### _law_sign -/
end
abbrev sSign : Stmt := top 28
def spSign : Sp := fun vs H Q _ => ∃ (r : Addr) (rows : List Str) (wd : Nat) (v : V) (c : Cell), vs = [.ref r, v] ∧ RowsAt H r rows ∧ Rect rows wd ∧ CellAt H v c ∧ Q (.str ⟨#[signN rows c]⟩) H
theorem scSign : FnScope ["_law_rows_here", "_law_cell"] ["_law_rows_here", "_law_cell"] (defScope sSign) := ⟨rfl, rfl, rfl, by decide +kernel, rfl, by decide +kernel, by decide +kernel⟩
theorem tilde : ("~" : Str) = ⟨#[126]⟩ := by decide
theorem atIn {α : Type} {xs : List α} {i : Int} {v : α} (h0 : 0 ≤ i) (h : xs[i.toNat]? = some v) : atI xs i = some v := by
  have e : i = (i.toNat : Int) := (Int.toNat_of_nonneg h0).symm
  rw [e]
  exact atI_nat h
theorem signN_in {rows : List Str} {c : Cell} (h : inB rows c = true) : signN rows c = ((rows.getD c.1.toNat ⟨#[]⟩).cps.getD c.2.toNat 126) := if_pos h
theorem signN_out {rows : List Str} {c : Cell} (h : ¬ inB rows c = true) : signN rows c = 126 := if_neg h
/-- what a cell on the map finds -/
theorem Rect.find {rows : List Str} {wd : Nat} (R : Rect rows wd) {c : Cell} (h0 : 0 ≤ c.1) (h1 : c.1 < rows.length) (h2 : 0 ≤ c.2) (h3 : c.2 < wd) : ∃ z, rows[c.1.toNat]? = some z ∧ z ∈ rows ∧ z.length = wd ∧ z.cps[c.2.toNat]? = some (signN rows c) := by
  have hi : c.1.toNat < rows.length := by omega
  have hz : rows[c.1.toNat]? = some rows[c.1.toNat] := List.getElem?_eq_getElem hi
  have hm : rows[c.1.toNat] ∈ rows := List.getElem_mem hi
  have hl := R.len _ hm
  have hb : inB rows c = true := by
    unfold inB
    rw [Bool.and_eq_true, decide_eq_true_eq, decide_eq_true_eq, R.hw]
    exact ⟨⟨h0, h1⟩, h2, by omega⟩
  refine ⟨_, hz, hm, hl, ?_⟩
  rw [signN_in hb, List.getD_eq_getElem?_getD, hz, Option.getD_some]
  have hk : c.2.toNat < rows[c.1.toNat].cps.size := by
    have : rows[c.1.toNat].cps.size = wd := hl
    omega
  rw [Array.getD_eq_getD_getElem?, Array.getElem?_eq_getElem hk, Option.getD_some]
theorem Rect.out {rows : List Str} {wd : Nat} (R : Rect rows wd) {c : Cell} (h : ¬ (0 ≤ c.1 ∧ c.1 < rows.length) ∨ ¬ (0 ≤ c.2 ∧ c.2 < wd)) : signN rows c = 126 := by
  refine signN_out fun hb => ?_
  unfold inB at hb
  rw [Bool.and_eq_true, decide_eq_true_eq, decide_eq_true_eq, R.hw] at hb
  rcases h with h | h
  · exact h hb.1
  · exact h hb.2
theorem mapstr {rows : List Str} {i : Nat} {z : Str} (h : rows[i]? = some z) : (rows.map V.str)[i]? = some (.str z) := by
  rw [List.getElem?_map, h]
  rfl
theorem line6 {n : Nat} (h : n ≤ 6) : n ≤ sizeLine := Nat.le_trans h (by decide)
section
variable {P : Program} {w : World} {K : PySem.W.Frag} {mg : Str → Option Value} {base : Heap}
theorem ok_sign {f : Addr} {fd : FuncData} (F : Fun K "_law_sign" "_law_sign" sSign f fd) (T : TT1 mg) : FnOk P w K mg base (L2.CX P w) 1 f fd ["_law_rows_here", "_law_cell"] spSign := by
  refine F.okX scSign (fun vs H Q E h => ?_) (fun cdv A outer s H vs Q E hr h => ?_)
  · obtain ⟨r, rows, wd, v, c, rfl, _⟩ := h
    rfl
  · obtain ⟨r, rows, wd, v, c, rfl, hR, R, ⟨b, rfl, hc⟩, q⟩ := h
    have hu := hu_of hr
    refine ⟨_, PSs.nox (pss_cons (ps_if (PW.pt (pw_or (pt_not (pt_chain op_le op_lt pe_int (pe_ix ix_tup (pv 1) pe_int (fun _ _ => rfl)) (pe_callB call_len_seq (by rfl) T.len PySem.boot_len (pa_cons (pv 0) pa_nil))))
        (pw_or1 (pt_not (pt_chain op_le op_lt pe_int (pe_ix ix_tup (pv 1) pe_int (fun _ _ => rfl)) (pe_callB call_len_str (by rfl) T.len PySem.boot_len (pa_cons (pe_ix ix_tup (pv 0) pe_int (fun _ _ => rfl)) pa_nil)))))))
        (pss_one (ps_ret pe_str)) pss_nil)
      (pss_one (ps_ret (pe_item_str (pe_ix ix_tup (pv 0) (pe_ix ix_tup (pv 1) pe_int (fun _ _ => rfl)) (fun _ _ => rfl)) (pe_ix ix_tup (pv 1) pe_int (fun _ _ => rfl)) (fun _ _ => rfl))))), ?_⟩
    obtain ⟨z0, e0, _, l0⟩ := R.head
    have hw0 : (z0.length : Int) = (wd : Int) := by rw [l0]
    have out : (¬ (0 ≤ c.1 ∧ c.1 < rows.length) ∨ ¬ (0 ≤ c.2 ∧ c.2 < wd)) → Q (.str "~") H := fun h => by
      rw [tilde, ← R.out h]
      exact q
    have fin : 0 ≤ c.1 → c.1 < rows.length → 0 ≤ c.2 → c.2 < wd → (tRet (tOp (fun x y H Q => ∃ z i c, x = .str z ∧ y = .int i ∧ 0 ≤ i ∧ i < 2 ^ 63 ∧ i < z.length ∧ z.cps[i.toNat]? = some c ∧ Q (.str ⟨#[c]⟩) H) (tOp (rIxT K) (tVar 0) (tOp (rIxT K) (tVar 1) (tC (.int 0)))) (tOp (rIxT K) (tVar 1) (tC (.int 1))))) { nx := fun _ H' => Q .non H', rt := Q } [some (.ref r), some (.ref b)] H := fun h1 h2 h3 h4 => by
      obtain ⟨z, ez, _, lz, es⟩ := R.find h1 h2 h3 h4
      have h6 := R.w6
      have lz' : (z.length : Int) = wd := by rw [lz]
      exact ⟨_, rfl, _, rfl, b, _, _, _, rfl, rfl, SqT.of hc, atI0, r, _, c.1, _, rfl, rfl, SqT.of hR, atIn h1 (mapstr ez), _, rfl, b, _, _, _, rfl, rfl, SqT.of hc, atI1, z, c.2, _, rfl, rfl, h3, by omega, by omega, es, q⟩
    refine ⟨_, rfl, b, _, 0, _, rfl, rfl, SqT.of hc, atI0, _, _, rfl, rfl, _, rfl, ?_⟩
    refine ite2 (fun h1 => ?_) (fun h1 => ?_)
    · refine ⟨_, rfl, r, _, rfl, .inr (SqT.of hR), _, _, rfl, rfl, _, rfl, ?_⟩
      rw [List.length_map]
      have h1' : 0 ≤ c.1 := of_decide_eq_true h1
      refine ite2 (fun h2 => ?_) (fun h2 => ?_)
      · refine ite2 (fun _ => out (.inl fun z => ?_)) (fun z => absurd rfl z)
        rw [Bool.not_eq_true', decide_eq_false_iff_not] at h2
        exact h2 z.2
      · rw [Bool.not_eq_true', decide_eq_false_iff_not, Classical.not_not] at h2
        refine ⟨_, rfl, b, _, _, _, rfl, rfl, SqT.of hc, atI1, _, _, rfl, rfl, _, rfl, ?_⟩
        refine ite2 (fun h3 => ?_) (fun h3 => ?_)
        · refine ⟨_, rfl, r, _, 0, _, rfl, rfl, SqT.of hR, atIn (by decide) (mapstr e0), _, rfl, by rw [l0]; exact line6 R.w6, _, _, rfl, rfl, _, rfl, ?_⟩
          rw [hw0]
          have h3' : 0 ≤ c.2 := of_decide_eq_true h3
          refine ite2 (fun h4 => ?_) (fun h4 => ?_)
          · rw [Bool.not_eq_true', decide_eq_false_iff_not] at h4
            exact out (.inr fun z => h4 z.2)
          · rw [Bool.not_eq_true', decide_eq_false_iff_not, Classical.not_not] at h4
            exact fin h1' h2 h3' h4
        · refine ⟨_, rfl, ite2 (fun _ => out (.inr fun z => h3 (decide_eq_true z.1))) (fun z => absurd rfl z)⟩
    · refine ⟨_, rfl, ite2 (fun _ => ite2 (fun _ => out (.inl fun z => h1 (decide_eq_true z.1))) (fun z => absurd rfl z)) (fun z => absurd rfl z)⟩
end
/-! ### _law_next -/
abbrev sNext : Stmt := top 29
def spNext : Sp := fun vs H Q _ => ∃ (v : V) (c : Cell) (i : Nat), vs = [v, .int i] ∧ CellAt H v c ∧ i < 4 ∧ ∀ (H' : Hp) (p : Addr) (d : Cell), Same H H' → (nb4 c)[i]? = some d → H' p = some (.tup [.int d.1, .int d.2]) → Q (.ref p) H'
theorem scNext : FnScope ["_law_cell", "_law_facing", "_law_down", "_law_right"] ["_law_cell", "_law_facing"] (defScope sNext) := ⟨rfl, rfl, rfl, by decide +kernel, rfl, by decide +kernel, by decide +kernel⟩
section
variable {P : Program} {w : World} {K : PySem.W.Frag} {mg : Str → Option Value} {base : Heap}
theorem ok_next {f : Addr} {fd : FuncData} (F : Fun K "_law_next" "_law_next" sNext f fd) (T : TT1 mg) : FnOk P w K mg base (L2.CX P w) 1 f fd ["_law_cell", "_law_facing"] spNext := by
  refine F.okX scNext (fun vs H Q E h => ?_) (fun cdv A outer s H vs Q E hr h => ?_)
  · obtain ⟨v, c, i, rfl, _⟩ := h
    rfl
  · obtain ⟨v, c, i, rfl, ⟨b, rfl, hc⟩, hi, q⟩ := h
    have hu := hu_of hr
    refine ⟨_, PSs.nox (pss_cons (ps_asg (pe_ix ix_list (pe_lst (pa_cons (pe_tup (pa_cons (pe_un un_neg pe_int) (pa_cons pe_int pa_nil))) (pa_cons (pe_tup (pa_cons pe_int (pa_cons pe_int pa_nil))) (pa_cons (pe_tup (pa_cons pe_int (pa_cons pe_int pa_nil))) (pa_cons (pe_tup (pa_cons pe_int (pa_cons (pe_un un_neg pe_int) pa_nil))) pa_nil)))))
        (pe_op op_mod (pe_callTy call_int1 (by rfl) T.int (by decide +kernel) (pa_cons (pv 1) pa_nil)) pe_int) (fun _ _ => rfl)) (pg_tup rfl (pgs_cons (pg_name (i := 2) scNext.nd rfl (Or.inl rfl)) (pgs_cons (pg_name (i := 3) scNext.nd rfl (Or.inl rfl)) pgs_nil))))
      (pss_one (ps_ret (pe_tup (pa_cons (pe_op op_add (pe_ix ix_tup (pv 0) pe_int (fun _ _ => rfl)) (pv 2)) (pa_cons (pe_op op_add (pe_ix ix_tup (pv 0) pe_int (fun _ _ => rfl)) (pv 3)) pa_nil)))))), ?_⟩
    have two : 2 ≤ sizeLine := by decide
    refine ⟨_, rfl, two, fun t1 n1 => ⟨two, fun t2 n2 => ⟨two, fun t3 n3 => ⟨_, rfl, two, fun t4 n4 => ⟨(by show 4 ≤ sizeLine; decide), fun t5 n5 => ?_⟩⟩⟩⟩⟩
    have a1 : ∀ {x : Addr} {u : HO} {H0 H1 : Hp}, Same H0 H1 → H0 x = some u → H1 x = some u := fun e h => e _ _ h
    have s1 : Same H (upd H t1 (.tup [.int (-1), .int 0])) := same_new n1
    have s2 := same_new (o := .tup [.int 0, .int 1]) n2
    have s3 := same_new (o := .tup [.int 1, .int 0]) n3
    have s4 := same_new (o := .tup [.int 0, .int (-1)]) n4
    have s5 := same_new (o := .lst [V.ref t1, V.ref t2, V.ref t3, V.ref t4]) n5
    have sAll := s1.trans (s2.trans (s3.trans (s4.trans s5)))
    have key : ∀ (t : Addr) (m : Cell), (upd (upd (upd (upd (upd H t1 (.tup [.int (-1), .int 0])) t2 (.tup [.int 0, .int 1])) t3 (.tup [.int 1, .int 0])) t4 (.tup [.int 0, .int (-1)])) t5 (.lst [V.ref t1, V.ref t2, V.ref t3, V.ref t4])) t = some (.tup [.int m.1, .int m.2]) →
        (nb4 c)[i]? = some (c.1 + m.1, c.2 + m.2) → atI [V.ref t1, V.ref t2, V.ref t3, V.ref t4] ((i : Int) % 4) = some (.ref t) → _ := fun t m ht hm ha =>
      (⟨_, rfl, .inl ⟨_, rfl, _, _, rfl, rfl, (by show (0 : Int) < 4; decide), t5, _, _, _, rfl, rfl, SqL.of upd_same, ha, t, _, rfl, SqT.of ht, rfl, _, _, rfl, _, _, rfl, rfl,
        _, rfl, b, _, _, _, rfl, rfl, SqT.of (sAll _ _ hc), atI0, _, rfl, _, _, rfl, rfl, _, rfl, b, _, _, _, rfl, rfl, SqT.of (sAll _ _ hc), atI1, _, rfl, _, _, rfl, rfl, two, fun p hp => q _ p (c.1 + m.1, c.2 + m.2) (sAll.trans (same_new hp)) hm upd_same⟩⟩ :
        tOp (rIxL K) (fun σ H Q => Q (.ref t5) H) (tOp (rI (fun _ j => 0 < j) fun i j => .int (i % j)) (tCB (fun xs H Q => (∃ i, xs = [.int i] ∧ Q (.int i) H) ∨ ∃ k, xs = [.bl k] ∧ Q (.int (if k then 1 else 0)) H) (tCons (tVar 1) tNil)) (tC (.int 4))) [some (.ref b), some (.int i), none, none]
          (upd (upd (upd (upd (upd H t1 (.tup [.int (-1), .int 0])) t2 (.tup [.int 0, .int 1])) t3 (.tup [.int 1, .int 0])) t4 (.tup [.int 0, .int (-1)])) t5 (.lst [V.ref t1, V.ref t2, V.ref t3, V.ref t4]))
          (fun x H1 => gTup K 2 (gCons (gName 2) (gCons (gName 3) gNil)) x [some (.ref b), some (.int i), none, none] H1 (fun σ2 H2 => (tRet (tTup (tCons (tOp (rI0 fun i j => .int (i + j)) (tOp (rIxT K) (tVar 0) (tC (.int 0))) (tVar 2)) (tCons (tOp (rI0 fun i j => .int (i + j)) (tOp (rIxT K) (tVar 0) (tC (.int 1))) (tVar 3)) tNil)))) { nx := fun _ H' => Q .non H', rt := Q } σ2 H2)))
    have hi4 : i = 0 ∨ i = 1 ∨ i = 2 ∨ i = 3 := by omega
    rcases hi4 with rfl | rfl | rfl | rfl
    · exact key t1 (-1, 0) (s5 _ _ (s4 _ _ (s3 _ _ (s2 _ _ upd_same)))) rfl rfl
    · exact key t2 (0, 1) (s5 _ _ (s4 _ _ (s3 _ _ upd_same))) rfl rfl
    · exact key t3 (1, 0) (s5 _ _ (s4 _ _ upd_same)) rfl rfl
    · exact key t4 (0, -1) (s5 _ _ upd_same) rfl rfl
end
end Wk
set_option Elab.async false
set_option linter.all false
set_option maxRecDepth 100000
set_option maxHeartbeats 4000000
namespace Wk
open PySem PySem.Spec PyProof.Rows L2
structure DF (K : PySem.W.Frag) (mg : Str → Option Value) (x : Str) (st : Stmt) (ps : List Str) (f : Addr) (fd : FuncData) : Prop where
  F : Fun K x x st f fd
  m : mg x = some (.ref f)
  b : L2.Binds K fd ps []
theorem TL.joinL_one : ∀ cs : List Nat, TL.joinL [] (cs.map fun c => [c]) = cs
  | [] => rfl
  | [c] => rfl
  | c :: d :: r => by
    have ih := TL.joinL_one (d :: r)
    show [c] ++ ([] ++ TL.joinL [] ((d :: r).map fun c => [c])) = c :: d :: r
    rw [ih]
    rfl
theorem str_ext {x y : Str} (h : x.cps.toList = y.cps.toList) : x = y := by
  obtain ⟨⟨a⟩⟩ := x
  obtain ⟨⟨b⟩⟩ := y
  have : a = b := h
  rw [this]
def oneS (c : Nat) : Str := ⟨#[c]⟩
theorem join_one (cs : List Nat) : Txt.join ("" : Str) (cs.map oneS) = ⟨cs.toArray⟩ := by
  refine str_ext ?_
  rw [TL.join_eq]
  have h := TL.tl_join ("" : Str) (cs.map oneS)
  have e1 : TL.tl ("" : Str) = [] := by decide
  rw [e1, List.map_map] at h
  have e2 : (TL.tl ∘ oneS) = fun c => [c] := by
    funext c
    rfl
  rw [e2, TL.joinL_one] at h
  exact h
theorem sum_one : ∀ cs : List Nat, ((cs.map oneS).map (·.length)).sum = cs.length
  | [] => rfl
  | c :: r => by
    have ih := sum_one r
    have e : (oneS c).length = 1 := rfl
    rw [List.map_cons, List.map_cons, List.sum_cons, ih, e, List.length_cons]
    omega
theorem pe_joinK {X : Cx} {o e : Expr} {to te : TE} (K : PySem.W.Frag) (hK : X.K = K) {apos pos : Pos} (ho : PE X o to) (he : PE X e te) (hs : starEach [e] X.env = [(false, eval e X.env)] := by rfl) (hbase : attributeBase o "join" X.env (eval o X.env) = eval o X.env := by rfl) (hline : (apos.endLine == pos.line) = true := by rfl) :
    PE X (.Call (.Attribute o "join" apos) [e] [] pos) (tM1 (fun x xs H Q => ∃ a p, ∃ ys : List Str, x = .str a ∧ xs = [.ref p] ∧ (SqL K H p (ys.map V.str) ∨ SqT K H p (ys.map V.str)) ∧
      (ys.map (·.length)).sum + ys.length * a.length ≤ 16777216 ∧ Q (.str (Txt.join a ys)) H) to te) := by
  subst hK
  exact pe_join ho he hs hbase hline
theorem ix_tupK {X : Cx} (K : PySem.W.Frag) (hK : X.K = K) : IxR X (rIxT K) := by
  subst hK
  exact ix_tup
theorem ix_listK {X : Cx} (K : PySem.W.Frag) (hK : X.K = K) : IxR X (rIxL K) := by
  subst hK
  exact ix_list
abbrev sRows : Stmt := top 27
abbrev nRows : List Str := ["_law_box", "_law_most", "_law_height", "_law_width", "_law_signs", "_law_row", "_law_column"]
theorem scRows : FnScope nRows ["_law_box", "_law_most"] (defScope sRows) := ⟨rfl, rfl, rfl, by decide +kernel, rfl, by decide +kernel, by decide +kernel⟩
def spRows : Sp := fun vs H Q _ => ∃ (b l : Addr), vs = [.ref b, .int 6] ∧ BoxAt H b l ∧ ∀ (H' : Hp) (r : Addr) (rows : List Str) (wd : Nat), Rect rows wd → Keep b l H H' → BoxAt H' b l → RowsAt H' r rows → H r = none → Q (.ref r) H'
theorem yes_of {σ : L2.St} {H : Hp} {A B : Hp → Prop} (h : A H) : tYes σ H (fun b H3 => if b = true then A H3 else B H3) := by
  show if true = true then A H else B H
  rw [if_pos rfl]
  exact h
def okC (c : Nat) : Prop := c = 46 ∨ c = 126 ∨ (65 ≤ c ∧ c ≤ 90)
/-- the signs that a row's are drawn from -/
def SignsOk (z : Str) : Prop := 0 < z.length ∧ z.length ≤ 20 ∧ ∀ c ∈ z.cps.toList, okC c
def signsB (z : Str) : Bool := decide (0 < z.length) && decide (z.length ≤ 20) && z.cps.toList.all fun c => decide (c = 46) || decide (c = 126) || (decide (65 ≤ c) && decide (c ≤ 90))
theorem signs_of {z : Str} (h : signsB z = true) : SignsOk z := by
  unfold signsB at h
  simp only [Bool.and_eq_true, Bool.or_eq_true, decide_eq_true_eq, List.all_eq_true] at h
  obtain ⟨⟨h1, h2⟩, h3⟩ := h
  refine ⟨h1, h2, fun c hc => ?_⟩
  rcases h3 c hc with (h | h) | h
  · exact .inl h
  · exact .inr (.inl h)
  · exact .inr (.inr h)
theorem signs4 {r : Int} (h0 : 0 ≤ r) (h4 : r < 4) : ∃ z, atI [V.str "....~~ABK", V.str "...........~AB", V.str "..~~~~A", V.str "ABKTZ....~"] r = some (.str z) ∧ SignsOk z := by
  have : r = 0 ∨ r = 1 ∨ r = 2 ∨ r = 3 := by omega
  rcases this with rfl | rfl | rfl | rfl
  · exact ⟨_, rfl, signs_of (by decide)⟩
  · exact ⟨_, rfl, signs_of (by decide)⟩
  · exact ⟨_, rfl, signs_of (by decide)⟩
  · exact ⟨_, rfl, signs_of (by decide)⟩
theorem Keep.get {b l : Addr} {H H' : Hp} (k : Keep b l H H') (hB : BoxAt H b l) {a : Addr} {o : HO} (h : H a = some o) (n : ∀ xs, o ≠ .lst xs) : H' a = some o := by
  obtain ⟨z, ns, h1, h2, _⟩ := hB
  refine k a o (fun e => ?_) (fun e => ?_) h
  · rw [e, h1] at h
    exact n _ (Option.some.inj h).symm
  · rw [e, h2] at h
    exact n _ (Option.some.inj h).symm
theorem BoxAt.off {b l p : Addr} {H : Hp} (hB : BoxAt H b l) (h : H p = none) : p ≠ b ∧ p ≠ l := by
  obtain ⟨z, ns, h1, h2, _⟩ := hB
  exact ⟨(fun e => by rw [e, h1] at h; cases h), (fun e => by rw [e, h2] at h; cases h)⟩
theorem BoxAt.upd {b l p : Addr} {H : Hp} {o : HO} (hB : BoxAt H b l) (n1 : p ≠ b) (n2 : p ≠ l) : BoxAt (upd H p o) b l := by
  obtain ⟨z, ns, h1, h2, h3⟩ := hB
  exact ⟨z, ns, by rw [upd_ne n1.symm]; exact h1, by rw [upd_ne n2.symm]; exact h2, h3⟩
/-- one more written into a list that is new since H -/
theorem Keep.put {b l p : Addr} {H H' : Hp} {o : HO} (k : Keep b l H H') (hp : H p = none) : Keep b l H (upd H' p o) := fun a u n1 n2 e => by
  rw [upd_ne (ne_of_none e hp)]
  exact k a u n1 n2 e
def compR (e : Expr) : Expr × Scope := match e with
  | .ListComp elt _ sc _ => (elt, sc)
  | _ => (.Constant .none 0 ⟨0, 0, 0, 0⟩, { kind := .function, names := [], isGenerator := false, isCoroutine := false, more := [] })
section
variable {P : Program} {w : World} {K : PySem.W.Frag} {mg : Str → Option Value} {base : Heap}
theorem ok_rows {f ft : Addr} {fd fdt : FuncData} (D : DF K mg "_law_rows" sRows ["_law_box", "_law_most"] f fd) (Dt : DF K mg "_law_take" sTake ["_law_box", "_law_many"] ft fdt) (T : TT1 mg) : FnOk P w K mg base (L2.CX P w) 2 f fd ["_law_box", "_law_most"] spRows := by
  have GT : FnOk P w K mg base (L2.CX P w) 1 ft fdt ["_law_box", "_law_many"] spTake := ok_take Dt.F T.toTT0
  refine D.F.okX scRows (fun vs H Q E h => ?_) (fun cdv A outer s H vs Q E hr h => ?_)
  · obtain ⟨b, l, rfl, _⟩ := h
    rfl
  · obtain ⟨b, l, rfl, hB, q⟩ := h
    have hu := hu_of hr
    refine ⟨_, PSs.nox (pss_cons (ps_asg (pe_tup (pa_cons (pe_op op_add pe_int (pe_call GT hr (by rfl) Dt.m Dt.F.kp Dt.b .nil passL (pa_cons (pv 0) (pa_cons (pv 1) pa_nil)))) (pa_cons (pe_op op_add pe_int (pe_call GT hr (by rfl) Dt.m Dt.F.kp Dt.b .nil passL (pa_cons (pv 0) (pa_cons (pv 1) pa_nil)))) pa_nil)))
        (pg_tup rfl (pgs_cons (pg_name (i := 2) scRows.nd rfl (Or.inl rfl)) (pgs_cons (pg_name (i := 3) scRows.nd rfl (Or.inr rfl)) pgs_nil))))
      (pss_cons (ps_asg (pe_ix ix_list (pe_lst (pa_cons pe_str (pa_cons pe_str (pa_cons pe_str (pa_cons pe_str pa_nil))))) (pe_call GT hr (by rfl) Dt.m Dt.F.kp Dt.b .nil passL (pa_cons (pv 0) (pa_cons pe_int pa_nil))) (fun _ _ => rfl)) (pg_name (i := 4) scRows.nd rfl (Or.inr rfl)))
      (pss_one (ps_ret (pe_tupleOf (by rfl) T.tuple (pe_lc (own := [("_law_row", 5)]) (g := gName 5) (tt := tYes) rfl scRows.nd (pi_range1 (by rfl) T.range (pa_cons (pv 2) pa_nil)) (blkOk_by (N := nRows) (sc := defScope sRows) (by decide +kernel))
        (fun _ _ _ _ _ => pg_name (i := 5) scRows.nd rfl (Or.inl rfl)) (fun _ _ _ _ _ => pts_nil)
        (fun _ _ _ _ _ => pe_joinK K rfl pe_str (pe_lc (own := [("_law_column", 6)]) (g := gName 6) (tt := tYes) rfl scRows.nd (pi_range1 (by rfl) T.range (pa_cons (pv 3) pa_nil)) (blkOk_by (N := nRows) (by rfl))
          (fun _ _ _ _ _ => pg_name (i := 6) scRows.nd rfl (Or.inl rfl)) (fun _ _ _ _ _ => pts_nil)
          (fun _ _ _ _ _ => pe_item_str (pv 4) (pe_call GT hr (by rfl) Dt.m Dt.F.kp Dt.b .nil passL (pa_cons (pv 0) (pa_cons (pe_callB call_len_str (by rfl) T.len PySem.boot_len (pa_cons (pv 4) pa_nil)) pa_nil))) (fun _ _ => rfl)))))))))), ?_⟩
    have lt30 : ((4 : Int)) < 2 ^ 30 := by decide
    refine ⟨_, rfl, _, rfl, b, l, 6, rfl, hB, by decide, by decide, fun H1 r1 a1 a2 k1 B1 => ⟨_, _, rfl, rfl, _, rfl, _, rfl, b, l, 6, rfl, B1, by decide, by decide, fun H2 r2 a3 a4 k2 B2 => ⟨_, _, rfl, rfl, (by show 2 ≤ sizeLine; decide), fun t ht => ?_⟩⟩⟩
    have s2 : Same H2 (upd H2 t (.tup [.int (1 + r1), .int (1 + r2)])) := same_new ht
    have B3 := B2.same s2
    have k3 : Keep b l H (upd H2 t (.tup [.int (1 + r1), .int (1 + r2)])) := (k1.trans k2).trans (Keep.of s2)
    refine ⟨t, _, rfl, SqT.of upd_same, rfl, _, _, rfl, _, _, rfl, rfl, (by show 4 ≤ sizeLine; decide), fun g hg => ⟨_, rfl, b, l, 4, rfl, B3.same (same_new hg), by decide, by decide, fun H4 r3 a5 a6 k4 B4 => ?_⟩⟩
    obtain ⟨sg, hsg, hso⟩ := signs4 a5 a6
    have gne := B3.off hg
    have k5 : Keep b l H H4 := (k3.trans (Keep.of (same_new hg))).trans k4
    refine ⟨g, _, r3, _, rfl, rfl, SqL.of (k4 g _ gne.1 gne.2 upd_same), hsg, ?_⟩
    refine ⟨_, rfl, 1 + r1, rfl, by omega, by omega, fun D hD => lc_range (lo := 0) (n := (1 + r1).toNat) (fun i H' => ∃ rows : List Str, H' D = some (.lst (rows.map V.str)) ∧ rows.length = i ∧ (∀ z ∈ rows, (z.length : Int) = 1 + r2 ∧ ∀ c ∈ z.cps.toList, okC c) ∧ Keep b l H4 H' ∧ BoxAt H' b l)
      ⟨[], upd_same, rfl, by simp, Keep.of (same_new hD), B4.same (same_new hD)⟩ ?_ ?_⟩
    · rintro i H5 hi ⟨rows, hd, hl, hok, k6, B5⟩
      have Dne := B4.off hD
      refine ⟨rfl, yes_of ?_⟩
      refine ⟨⟨_, rfl⟩, _, rfl, 1 + r2, rfl, by omega, by omega, fun D2 hD2 => lc_range (lo := 0) (n := (1 + r2).toNat) (fun j H' => ∃ cs : List Nat, H' D2 = some (.lst ((cs.map oneS).map V.str)) ∧ cs.length = j ∧ (∀ c ∈ cs, okC c) ∧ Keep b l H5 H' ∧ BoxAt H' b l)
        ⟨[], upd_same, rfl, by simp, Keep.of (same_new hD2), B5.same (same_new hD2)⟩ ?_ ?_⟩
      · rintro j H6 hj ⟨cs, hd2, hl2, hok2, k7, B6⟩
        have D2ne := B5.off hD2
        refine ⟨rfl, yes_of ?_⟩
        have hs1 := hso.1
        have hs2 := hso.2.1
        refine ⟨_, rfl, _, rfl, _, rfl, sg, rfl, Nat.le_trans hs2 (by decide), b, l, _, rfl, B6, by omega, by omega, fun H7 r4 a7 a8 k8 B7 => ?_⟩
        have hk : r4.toNat < sg.cps.size := by
          have : sg.cps.size = sg.length := rfl
          omega
        refine ⟨sg, r4, sg.cps[r4.toNat], rfl, rfl, a7, by omega, a8, Array.getElem?_eq_getElem hk, _, k8 _ _ D2ne.1 D2ne.2 hd2, ?_, cs ++ [sg.cps[r4.toNat]], ?_, ?_, ?_, ?_, ?_⟩
        · rw [List.length_map, List.length_map, hl2]
          exact Nat.lt_of_lt_of_le (show j < 10 by omega) (by decide)
        · rw [upd_same, List.map_append, List.map_append]
          rfl
        · rw [List.length_append, hl2]
          rfl
        · intro c hc
          rcases List.mem_append.mp hc with hc | hc
          · exact hok2 c hc
          · rw [List.mem_singleton.mp hc]
            exact hso.2.2 _ (by rw [Array.mem_toList_iff]; exact Array.getElem_mem hk)
        · exact (k7.trans k8).put hD2
        · exact B7.upd D2ne.1 D2ne.2
      · rintro H6 ⟨cs, hd2, hl2, hok2, k7, B6⟩
        have D2ne := B5.off hD2
        have hd' := k7 _ _ Dne.1 Dne.2 hd
        refine ⟨_, D2, cs.map oneS, rfl, rfl, .inl (SqL.of hd2), ?_, _, hd', ?_, rows ++ [⟨cs.toArray⟩], ?_, ?_, ?_, ?_, ?_⟩
        · rw [sum_one]
          have e : ("" : Str).length = 0 := by decide
          rw [e]
          omega
        · rw [List.length_map, hl]
          exact Nat.lt_of_lt_of_le (show i < 10 by omega) (by decide)
        · rw [upd_same, List.map_append, join_one]
          rfl
        · rw [List.length_append, hl]
          rfl
        · intro z hz
          rcases List.mem_append.mp hz with hz | hz
          · exact hok z hz
          · rw [List.mem_singleton.mp hz]
            refine ⟨?_, fun c hc => hok2 c (by simpa using hc)⟩
            show ((cs.toArray.size : Nat) : Int) = 1 + r2
            rw [List.size_toArray, hl2]
            omega
        · exact (k6.trans k7).put hD
        · exact B6.upd Dne.1 Dne.2
    · rintro H5 ⟨rows, hd, hl, hok, k6, B5⟩
      refine .inl ⟨D, _, rfl, SqL.of hd, fun p hp => ?_⟩
      have R : Rect rows (1 + r2).toNat := ⟨by omega, by omega, by omega, by omega, fun z hz => by have := (hok z hz).1; omega, fun z hz => (hok z hz).2⟩
      refine q _ p rows _ R ((k5.trans k6).trans (Keep.of (same_new hp))) (B5.same (same_new hp)) upd_same ?_
      cases e : H p with
      | none => rfl
      | some o =>
        have pne := B5.off hp
        have := (k5.trans k6) p o pne.1 pne.2 e
        rw [hp] at this
        cases this
end
end Wk
set_option Elab.async false
set_option linter.all false
set_option maxRecDepth 100000
set_option maxHeartbeats 4000000
namespace PySem
open Sem (wp)
open AutoSeq1 (wpAny_loadPart')
theorem wk_meets_enum {v : Value} {o : Obj} {H : Heap → Prop} (B : Begins v o H) :
    Meets (Builtin.«enumerate.__new__» ⟨[.type "enumerate", v], []⟩) (fun _ R s => H s.heap ∧
      R (.ok (.ret (.ref (s.heap.push o).objs.size))) { s with heap := (s.heap.push o).push { cls := .type "enumerate", data := .fields #[.none, .bool false, .ref s.heap.objs.size, rawInt 0, .none, .none] } }) :=
  .of_wp fun prog w A R s h => by
    obtain ⟨hp, g, d, tk, os⟩ := s; obtain ⟨h1, h⟩ := h
    have hsub := sub_enumerate
    have q1 : ∀ {A' : Around} {E : Value → Shared → Prop} {Q : Value → Shared → Prop}, Q (.ref hp.objs.size) ⟨hp.push o, g, d, tk, os⟩ → wpAny (model prog w) A' (pyIter v) Q E ⟨hp, g, d, tk, os⟩ :=
      fun q => B.iter prog w _ _ ⟨hp, g, d, tk, os⟩ _ h1 q
    wp_walk using q1
    refine wpAny_stack_any fun st => wpAny_pure ?_
    split
    · rename_i c _ _ _ _ _
      cases (c == Value.type "enumerate")
      · wp_walk using q1
        exact ⟨_, rfl, h⟩
      · wp_walk using q1
        exact ⟨_, rfl, h⟩
    · wp_walk using q1
      exact ⟨_, rfl, h⟩
section
variable {prog : Program} {w : World} {A : Around} {E : Value → Shared → Prop} {s : Shared}
theorem wk_enum_begins {v : Value} {o : Obj} {H : Heap → Prop} {Q : Value → Shared → Prop} (B : Begins v o H) (h1 : H s.heap)
    (h : ∀ h', IsEnum h' (s.heap.objs.size + 1) s.heap.objs.size 0 .none → h'.get? s.heap.objs.size = some o → h'.objs.size = s.heap.objs.size + 2 →
      (∀ b o, s.heap.get? b = some o → h'.get? b = some o) → Q (.ref (s.heap.objs.size + 1)) { s with heap := h' }) :
    wpAny (model prog w) A (call (.type "enumerate") [v]) Q E s := by
  refine callType_new F.called_enumerate (by decide) (F.typeCall_enumerate_1 _) (F.newCall_enumerate_1 _) (fun obj => F.args_object_init_2 obj _) F.entry_enumerate_new
    (wk_meets_enum B) ⟨h1, ?_⟩
  have hz : (s.heap.push o).objs.size = s.heap.objs.size + 1 := Heap.size_push ..
  show _ ∧ _
  rw [hz]
  have he : IsEnum ((s.heap.push o).push { cls := .type "enumerate", data := .fields #[.none, .bool false, .ref s.heap.objs.size, rawInt 0, .none, .none] }) (s.heap.objs.size + 1) s.heap.objs.size 0 .none := by
    have := Heap.get?_push_size (s.heap.push o) (o := { cls := .type "enumerate", data := .fields #[.none, .bool false, .ref s.heap.objs.size, rawInt 0, .none, .none] }) rfl
    rw [hz] at this; exact this
  refine ⟨⟨_, he, rfl⟩, h _ he (Heap.get?_push_of_some _ (Heap.get?_push_size _ B.free)) (by rw [Heap.size_push, hz]) fun b o x => Heap.get?_push_of_some _ (Heap.get?_push_of_some _ x)⟩
end
end PySem
namespace Wk
open PySem PySem.Spec PyProof.Rows L2
/-- the tuple at a, each item in a new pair -/
def ItEt (K : PySem.W.Frag) (a : Addr) : It :=
  ⟨fun i H => ∃ (xs : List V) (x : V), SqT K H a xs ∧ xs[i]? = some x, fun i H v H' => ∃ T x, v = .ref T ∧ H T = none ∧ H' = upd H T (.tup [.int (i : Nat), x]) ∧ ∀ xs, SqT K H a xs → xs[i]? = some x, fun i H => ∃ xs : List V, SqT K H a xs ∧ i = xs.length⟩
/-- the text x, each sign in a new pair -/
def ItEs (x : Str) : It :=
  ⟨fun i _ => i < x.cps.size, fun i H v H' => ∃ T c, v = .ref T ∧ H T = none ∧ H' = upd H T (.tup [.int (i : Nat), .str ⟨#[c]⟩]) ∧ x.cps[i]? = some c, fun i _ => i = x.cps.size⟩
theorem turn_enumS {P : Program} {w : World} {K : PySem.W.Frag} {elts : List Expr} {kk : Nat} {tpos : Pos} (x : Str) (t : Tok) (e it : Addr) :
    Turn P w K (.Tuple elts kk tpos) (ItEs x) [e, it] e (fun i h => (∃ old, IsEnum h e it ((i : Nat) : Int) old) ∧ h.IsStrIter it (strIterType x) x t i ∧ e ≠ it) where
  mem := by simp
  obj := fun i h st b hb => by
    obtain ⟨⟨old, he⟩, ⟨o, ho, hc, hd⟩, _⟩ := st
    have e' : b = e ∨ b = it := by simpa using hb
    rcases e' with z | z
    · rw [z]; exact ⟨_, he, fun v q => nomatch q⟩
    · rw [z]; exact ⟨o, ho, fun v q => by rw [hd] at q; cases q⟩
  keep := fun i h h' st k => let ⟨⟨old, he⟩, hi, hne⟩ := st; ⟨⟨old, k e (by simp) _ he⟩, let ⟨o, ho, r⟩ := hi; ⟨o, k it (by simp) _ ho, r⟩, hne⟩
  item := by
    intro X hP hw hK hc i pins s σ H E I hf st hg
    subst hP hw hK
    obtain ⟨⟨old, he⟩, hit, hne⟩ := st
    have hg : i < x.cps.size := hg
    have hel : e < s.heap.objs.size := Heap.lt_size he
    have hil : it < s.heap.objs.size := by obtain ⟨_, q, _⟩ := hit; exact Heap.lt_size q
    refine wpAny_pyNext_enum_itemD (Draws.text (A := X.A.in1) (I.ok.hd hc) it x t) he hit hg hne (by simpa using hne) fun y h' tk hP ho hit' hT hsz hk => ?_
    obtain ⟨c, u, hcu, rfl⟩ := hP
    refine ⟨_, rfl, wpAny_letOwnedTupleGo_enum (s := { s with heap := h', toks := tk + 1 }) ho fun h'' he' sb => ?_⟩
    have hT2 : h''.get? s.heap.objs.size = some { cls := .type "tuple", data := .seq #[.int i tk, .str ⟨#[c]⟩ u] } := (sb.2 _ (Nat.ne_of_gt hel)).trans hT
    have new : ObjOk X.prog X.w (upd H s.heap.objs.size (.tup [.int (i : Nat), .str ⟨#[c]⟩])) h'' s.heap.objs.size (.tup [.int (i : Nat), .str ⟨#[c]⟩]) :=
      ⟨by show 2 ≤ sizeLine; decide, [.int i tk, .str ⟨#[c]⟩ u], .cons ⟨_, rfl⟩ (.cons ⟨_, rfl⟩ .nil), ⟨_, hT2, rfl, _, rfl⟩⟩
    have I1 : Inv X pins σ (upd H s.heap.objs.size (.tup [.int (i : Nat), .str ⟨#[c]⟩])) { s with heap := h'', toks := tk + 1 } :=
      I.turnedNew (ch := [e, it]) (fun b ob hb q => (sb.2 b (fun z => hb (by simp [z]))).trans (hk b ob (fun z => hb (by simp [z])) (fun z => hb (by simp [z])) q)) hf (Nat.le_refl _) new
    refine ⟨.ref s.heap.objs.size, _, I1, rfl, ⟨_, c, rfl, I.hok.fresh (Nat.le_refl _), rfl, hcu⟩, ⟨⟨.str ⟨#[c]⟩ u, ?_⟩, let ⟨o, ho, r⟩ := hit'; ⟨o, (sb.2 it (Ne.symm hne)).trans ho, r⟩, hne⟩, fun b hb => ?_⟩
    · have e1 : ((i + 1 : Nat) : Int) = (i : Int) + 1 := by omega
      rw [e1]; exact he'
    · have hb' : b < s.heap.objs.size := by
        have e' : b = e ∨ b = it := by simpa using hb
        rcases e' with z | z
        · rw [z]; exact hel
        · rw [z]; exact hil
      rw [upd_ne (Nat.ne_of_lt hb')]
      exact (hf b hb).1
  done := by
    intro X hP hw hK hc i pins s σ H E I hf st hg
    subst hP hw hK
    obtain ⟨⟨old, he⟩, hit, hne⟩ := st
    have hg : i = x.cps.size := hg
    subst hg
    obtain ⟨f0, f1, f2, f3, f4, f5⟩ := hf it (by simp)
    exact wpAny_pyNext_enum_endD (Draws.text (A := X.A.in1) (I.ok.hd hc) it x t) he hit fun h' eb => ⟨rfl, I.turned (t' := s.toks) (fun b o hb q => eb b o hb q) f0 f1 f3 f4 f5⟩
  self := fun A i s Q E st h => let ⟨⟨_, he⟩, _⟩ := st; wpAny_pyIter_enum he h
theorem turn_enumT {P : Program} {w : World} {K : PySem.W.Frag} {elts : List Expr} {kk : Nat} {tpos : Pos} (a e it : Addr) :
    Turn P w K (.Tuple elts kk tpos) (ItEt K a) [e, it] e (fun i h => (∃ old, IsEnum h e it ((i : Nat) : Int) old) ∧ h.IsTupleIter it a i ∧ e ≠ it ∧ a ≠ it ∧ e ≠ a) where
  mem := by simp
  obj := fun i h st b hb => by
    obtain ⟨⟨old, he⟩, ⟨o, ho, hc, hd⟩, _⟩ := st
    have e' : b = e ∨ b = it := by simpa using hb
    rcases e' with z | z
    · rw [z]; exact ⟨_, he, fun v q => nomatch q⟩
    · rw [z]; exact ⟨o, ho, fun v q => by rw [hd] at q; cases q⟩
  keep := fun i h h' st k => let ⟨⟨old, he⟩, hi, hne⟩ := st; ⟨⟨old, k e (by simp) _ he⟩, hi.at fun o q => k it (by simp) o q, hne⟩
  item := by
    intro X hP hw hK hc i pins s σ H E I hf st hg
    subst hP hw hK
    obtain ⟨⟨old, he⟩, hit, hne, hai, hea⟩ := st
    obtain ⟨xs, x, hq, hx⟩ := hg
    obtain ⟨its, rv, p, hz⟩ := I.tuple hq
    obtain ⟨u, hu, ru⟩ := rv.get hx
    have hel : e < s.heap.objs.size := Heap.lt_size he
    have hil : it < s.heap.objs.size := by obtain ⟨_, q, _⟩ := hit; exact Heap.lt_size q
    have hil2 : i < its.toArray.size := by
      have := (List.getElem?_eq_some_iff.mp hu).1
      simpa using this
    refine wpAny_pyNext_enum_itemD (Draws.tuple (A := X.A.in1) (I.ok.hd hc) it a hai its.toArray) he ⟨hit, p⟩ hil2 hne (by simp [hne, hea]) fun y h' tk hP ho hit' hT hsz hk => ?_
    obtain rfl : y = u := by
      have hP : its.toArray[i]? = some y := hP
      rw [List.getElem?_toArray, hu] at hP
      exact (Option.some.inj hP).symm
    refine ⟨_, rfl, wpAny_letOwnedTupleGo_enum (s := { s with heap := h', toks := tk + 1 }) ho fun h'' he' sb => ?_⟩
    have hT2 : h''.get? s.heap.objs.size = some { cls := .type "tuple", data := .seq #[.int i tk, y] } := (sb.2 _ (Nat.ne_of_gt hel)).trans hT
    have new : ObjOk X.prog X.w (upd H s.heap.objs.size (.tup [.int (i : Nat), x])) h'' s.heap.objs.size (.tup [.int (i : Nat), x]) :=
      ⟨by show 2 ≤ sizeLine; decide, [.int i tk, y], .cons ⟨_, rfl⟩ (.cons ru .nil), ⟨_, hT2, rfl, _, rfl⟩⟩
    have I1 : Inv X pins σ (upd H s.heap.objs.size (.tup [.int (i : Nat), x])) { s with heap := h'', toks := tk + 1 } :=
      I.turnedNew (ch := [e, it]) (fun b ob hb q => (sb.2 b (fun z => hb (by simp [z]))).trans (hk b ob (fun z => hb (by simp [z])) (fun z => hb (by simp [z])) q)) hf (Nat.le_refl _) new
    refine ⟨.ref s.heap.objs.size, _, I1, rfl, ⟨_, x, rfl, I.hok.fresh (Nat.le_refl _), rfl, fun ys hy => by rw [I.tuple_inj hy hq]; exact hx⟩, ⟨⟨y, ?_⟩, hit'.1.at fun o q => (sb.2 it (Ne.symm hne)).trans q, hne, hai, hea⟩, fun b hb => ?_⟩
    · have e1 : ((i + 1 : Nat) : Int) = (i : Int) + 1 := by omega
      rw [e1]; exact he'
    · have hb' : b < s.heap.objs.size := by
        have e' : b = e ∨ b = it := by simpa using hb
        rcases e' with z | z
        · rw [z]; exact hel
        · rw [z]; exact hil
      rw [upd_ne (Nat.ne_of_lt hb')]
      exact (hf b hb).1
  done := by
    intro X hP hw hK hc i pins s σ H E I hf st hg
    subst hP hw hK
    obtain ⟨⟨old, he⟩, hit, hne, hai, hea⟩ := st
    obtain ⟨xs, hq, rfl⟩ := hg
    obtain ⟨its, rv, p, hz⟩ := I.tuple hq
    have hl := rv.length
    obtain ⟨f0, f1, f2, f3, f4, f5⟩ := hf it (by simp)
    have hit2 : s.heap.IsTupleIter it a its.toArray.size := by
      rw [List.size_toArray, ← hl]
      exact hit
    exact wpAny_pyNext_enum_endD (Draws.tuple (A := X.A.in1) (I.ok.hd hc) it a hai its.toArray) he ⟨hit2, p⟩ fun h' eb => ⟨rfl, I.turned (t' := s.toks) (fun b o hb q => eb b o hb q) f0 f1 f3 f4 f5⟩
  self := fun A i s Q E st h => let ⟨⟨_, he⟩, _⟩ := st; wpAny_pyIter_enum he h
def iEnumT (K : PySem.W.Frag) (ta : TA) : TI := fun σ H R => ta σ H fun vs H1 => ∃ a xs, vs = [.ref a] ∧ SqT K H1 a xs ∧ R (ItEt K a) H1
def iEnumS (ta : TA) : TI := fun σ H R => ta σ H fun vs H1 => ∃ z, vs = [.str z] ∧ R (ItEs z) H1
section
variable {X : Cx} {e : Expr} {ta : TA} {p pos tpos : Pos} {elts : List Expr} {kk : Nat}
theorem pi_enumT (hg : Gl X "enumerate") (hm : X.mg "enumerate" = none) (ha : PA X [e] ta) (hs : starEach [e] X.env = [(false, eval e X.env)] := by rfl) :
    PI X (.Tuple elts kk tpos) (.Call (.Name "enumerate" p) [e] [] pos) (iEnumT X.K ta) := by
  refine ⟨fun pins s σ H R I h => ?_⟩
  refine Call_ (ld_blt I hg hm boot_enumerate (PyProof.Rows.callWith_type1 (thn (ha.run pos pins s σ H _ I h) fun us s1 ⟨vs, H1, I1, r1, q1⟩ => ?_) hs rfl))
  obtain ⟨a, xs, ex, hq, q⟩ := q1
  subst ex
  cases r1 with
  | cons r rr =>
    cases rr
    cases r
    obtain ⟨its, rv, p', hz⟩ := I1.tuple hq
    have hal : a < s1.heap.objs.size := by obtain ⟨o, ho, _⟩ := p'; exact Heap.lt_size ho
    refine wk_enum_begins (begins_tuple a its.toArray) p' fun h' he hit hsz hk => wpAny_pyIter_enum he ?_
    have I2 : Inv X pins σ H1 { s1 with heap := h' } := I1.kept (t' := s1.toks) hk
    refine ⟨s1.heap.objs.size + 1, [s1.heap.objs.size + 1, s1.heap.objs.size], _, _, H1, rfl, I2, turn_enumT a (s1.heap.objs.size + 1) s1.heap.objs.size, ⟨⟨.none, he⟩, ⟨_, hit, rfl, rfl⟩, Nat.succ_ne_self _, Nat.ne_of_lt hal, Nat.ne_of_gt (Nat.lt_succ_of_lt hal)⟩, fun b hb => ?_, q⟩
    have e' : b = s1.heap.objs.size + 1 ∨ b = s1.heap.objs.size := by simpa using hb
    have hle : s1.heap.objs.size ≤ b := by
      rcases e' with z | z
      · rw [z]; exact Nat.le_add_right _ _
      · rw [z]; exact Nat.le_refl _
    exact I1.fpOk hle (I1.hok.fresh hle)
theorem pi_enumS (hg : Gl X "enumerate") (hm : X.mg "enumerate" = none) (ha : PA X [e] ta) (hs : starEach [e] X.env = [(false, eval e X.env)] := by rfl) :
    PI X (.Tuple elts kk tpos) (.Call (.Name "enumerate" p) [e] [] pos) (iEnumS ta) := by
  refine ⟨fun pins s σ H R I h => ?_⟩
  refine Call_ (ld_blt I hg hm boot_enumerate (PyProof.Rows.callWith_type1 (thn (ha.run pos pins s σ H _ I h) fun us s1 ⟨vs, H1, I1, r1, q1⟩ => ?_) hs rfl))
  obtain ⟨z, ex, q⟩ := q1
  subst ex
  cases r1 with
  | cons r rr =>
    cases rr
    obtain ⟨t, rfl⟩ := r
    refine wk_enum_begins (begins_text z t) trivial fun h' he hit hsz hk => wpAny_pyIter_enum he ?_
    have I2 : Inv X pins σ H1 { s1 with heap := h' } := I1.kept (t' := s1.toks) hk
    refine ⟨s1.heap.objs.size + 1, [s1.heap.objs.size + 1, s1.heap.objs.size], _, _, H1, rfl, I2, turn_enumS z t (s1.heap.objs.size + 1) s1.heap.objs.size, ⟨⟨.none, he⟩, ⟨_, hit, rfl, rfl⟩, Nat.succ_ne_self _⟩, fun b hb => ?_, q⟩
    have e' : b = s1.heap.objs.size + 1 ∨ b = s1.heap.objs.size := by simpa using hb
    have hle : s1.heap.objs.size ≤ b := by
      rcases e' with z | z
      · rw [z]; exact Nat.le_add_right _ _
      · rw [z]; exact Nat.le_refl _
    exact I1.fpOk hle (I1.hok.fresh hle)
end
theorem walk_enumT {K : PySem.W.Frag} {a : Addr} {xs : List V} : L2.Walk (ItEt K a) xs.length (fun H => SqT K H a xs) (fun i H v H' => ∃ T x, v = .ref T ∧ H T = none ∧ H' = upd H T (.tup [.int (i : Nat), x]) ∧ xs[i]? = some x) :=
  ⟨fun i _ hi q => ⟨xs, xs[i], q, by simp [hi]⟩, fun _ q => ⟨xs, q, rfl⟩, fun _ _ _ _ _ q ⟨T, x, h1, h2, h3, h4⟩ => ⟨T, x, h1, h2, h3, h4 xs q⟩⟩
theorem walk_enumS {z : Str} : L2.Walk (ItEs z) z.cps.size (fun _ => True) (fun i H v H' => ∃ T c, v = .ref T ∧ H T = none ∧ H' = upd H T (.tup [.int (i : Nat), .str ⟨#[c]⟩]) ∧ z.cps[i]? = some c) :=
  ⟨fun i _ hi _ => hi, fun _ _ => rfl, fun _ _ _ _ _ _ y => y⟩
/-- what is never come to -/
theorem pss_dead {X : Cx} {sts : List Stmt} : PSs X sts (fun _ _ _ => False) := ⟨fun _ _ _ _ _ _ h => h.elim⟩
theorem pe_dead {X : Cx} {e : Expr} : PE X e (fun _ _ _ => False) := ⟨fun _ _ _ _ _ _ h => h.elim⟩
end Wk
set_option Elab.async false
set_option linter.all false
set_option maxRecDepth 100000
set_option maxHeartbeats 4000000
namespace Wk
open PySem PySem.Spec PyProof.Rows L2
theorem pe_gs {X : Cx} {x z : Str} {t : Tok} {pos : Pos} (hg : Gl X x) (hm : X.mg x = some (.str z t)) (hd : (x == ("__debug__" : Str)) = false := by decide) : PE X (.Name x pos) (tC (.str z)) := pe_glob hg hm ⟨_, rfl⟩ hd
theorem pe_gi {X : Cx} {x : Str} {i : Int} {t : Tok} {pos : Pos} (hg : Gl X x) (hm : X.mg x = some (.int i t)) (hd : (x == ("__debug__" : Str)) = false := by decide) : PE X (.Name x pos) (tC (.int i)) := pe_glob hg hm ⟨_, rfl⟩ hd
def letters : Str := "ABCDEFGHIJKLMNOPQRSTUVWXYZ"
structure IslT (K : PySem.W.Frag) (mg : Str → Option Value) (C : Addr) : Prop extends TT1 mg where
  cl : Cls K C
  nR : NoAttr K C "own_rows"
  mgC : mg "Island" = some (.ref C)
  water : ∃ t, mg "WATER" = some (.str "~" t)
  land : ∃ t, mg "LAND" = some (.str "." t)
  lett : ∃ t, mg "LETTERS" = some (.str letters t)
  maxs : ∃ t, mg "MAX_SIZE" = some (.int 12 t)
abbrev iInit : Stmt := inClass (top 15) 0
abbrev iCells : Stmt := inClass (top 15) 4
abbrev iHas : Stmt := inClass (top 15) 9
def IslAt (C : Addr) (H : Hp) (p : Addr) (rows : List Str) : Prop := ∃ dx r, H p = some (.ins C dx [(("own_rows" : Str), .ref r)]) ∧ RowsAt H r rows
theorem lk_own (r : Addr) : List.lookup ("own_rows" : Str) [(("own_rows" : Str), V.ref r)] = some (.ref r) := by simp [List.lookup]
theorem putF_own (r : Addr) : putF "own_rows" (.ref r) [] = [(("own_rows" : Str), V.ref r)] := rfl
theorem IslAt.same {C : Addr} {H H' : Hp} {p : Addr} {rows : List Str} (h : IslAt C H p rows) (e : Same H H') : IslAt C H' p rows := by
  obtain ⟨dx, r, h1, h2⟩ := h
  exact ⟨dx, r, e _ _ h1, e _ _ h2⟩
/-! ### __contains__ -/
def spHas (C : Addr) : Sp := fun vs H Q _ => ∃ (p : Addr) (rows : List Str) (wd : Nat) (v : V) (c : Cell), vs = [.ref p, v] ∧ IslAt C H p rows ∧ Rect rows wd ∧ CellAt H v c ∧ Q (.bl (landB rows c)) H
theorem scHas : FnScope ["self", "cell", "row", "column"] ["self", "cell"] (defScope iHas) := ⟨rfl, rfl, rfl, by decide +kernel, rfl, by decide +kernel, by decide +kernel⟩
section
variable {P : Program} {w : World} {K : PySem.W.Frag} {mg : Str → Option Value} {base : Heap}
theorem ok_has {C f : Addr} {fd : FuncData} (F : Fun K "__contains__" "Island.__contains__" iHas f fd) (T : IslT K mg C) : FnOk P w K mg base (L2.CX P w) 1 f fd ["self", "cell"] (spHas C) := by
  refine F.okX scHas (fun vs H Q E h => ?_) (fun cdv A outer s H vs Q E hr h => ?_)
  · obtain ⟨p, rows, wd, v, c, rfl, _⟩ := h
    rfl
  · obtain ⟨p, rows, wd, v, c, rfl, ⟨dx, r, hp, hR⟩, R, ⟨b, rfl, hc⟩, q⟩ := h
    have hu := hu_of hr
    obtain ⟨tw, mW⟩ := T.water
    refine ⟨_, PSs.nox (pss_cons (ps_asg (pv 1) (pg_tup rfl (pgs_cons (pg_name (i := 2) scHas.nd rfl (Or.inl rfl)) (pgs_cons (pg_name (i := 3) scHas.nd rfl (Or.inl rfl)) pgs_nil))))
      (pss_cons (ps_if (PW.pt (pw_or (pt_not (pt_chain op_le op_lt pe_int (pv 2) (pe_callB call_len_seq (by rfl) T.len PySem.boot_len (pa_cons (pe_fld (pv 0) rfl) pa_nil))))
        (pw_or1 (pt_not (pt_chain op_le op_lt pe_int (pv 3) (pe_callB call_len_str (by rfl) T.len PySem.boot_len (pa_cons (pe_ix ix_tup (pe_fld (pv 0) rfl) pe_int (fun _ _ => rfl)) pa_nil)))))))
        (pss_one (ps_ret pe_bl)) pss_nil)
      (pss_one (ps_ret (pe_cmpR op_ne (pe_item_str (pe_ix ix_tup (pe_fld (pv 0) rfl) (pv 2) (fun _ _ => rfl)) (pv 3) (fun _ _ => rfl)) (pe_gs (by rfl) mW) (nomark _)))))), ?_⟩
    obtain ⟨z0, e0, _, l0⟩ := R.head
    have hw0 : (z0.length : Int) = (wd : Int) := by rw [l0]
    have out : (¬ (0 ≤ c.1 ∧ c.1 < rows.length) ∨ ¬ (0 ≤ c.2 ∧ c.2 < wd)) → Q (.bl false) H := fun h => by
      have e : landB rows c = false := by unfold landB; rw [R.out h]; rfl
      rw [← e]
      exact q
    refine ⟨_, rfl, b, _, rfl, SqT.of hc, rfl, _, _, rfl, _, _, rfl, rfl, ?_⟩
    refine ⟨_, rfl, _, _, rfl, rfl, _, rfl, ?_⟩
    refine ite2 (fun h1 => ?_) (fun h1 => ?_)
    · refine ⟨_, rfl, p, C, dx, _, _, rfl, hp, T.cl, T.nR, lk_own r, r, _, rfl, .inr (SqT.of hR), _, _, rfl, rfl, _, rfl, ?_⟩
      rw [List.length_map]
      have h1' : 0 ≤ c.1 := of_decide_eq_true h1
      refine ite2 (fun h2 => ?_) (fun h2 => ?_)
      · refine ite2 (fun _ => out (.inl fun z => ?_)) (fun z => absurd rfl z)
        rw [Bool.not_eq_true', decide_eq_false_iff_not] at h2
        exact h2 z.2
      · rw [Bool.not_eq_true', decide_eq_false_iff_not, Classical.not_not] at h2
        refine ⟨_, rfl, _, _, rfl, rfl, _, rfl, ?_⟩
        refine ite2 (fun h3 => ?_) (fun h3 => ?_)
        · refine ⟨_, rfl, p, C, dx, _, _, rfl, hp, T.cl, T.nR, lk_own r, r, _, 0, _, rfl, rfl, SqT.of hR, atIn (by decide) (mapstr e0), _, rfl, by rw [l0]; exact line6 R.w6, _, _, rfl, rfl, _, rfl, ?_⟩
          rw [hw0]
          have h3' : 0 ≤ c.2 := of_decide_eq_true h3
          refine ite2 (fun h4 => ?_) (fun h4 => ?_)
          · rw [Bool.not_eq_true', decide_eq_false_iff_not] at h4
            exact out (.inr fun z => h4 z.2)
          · rw [Bool.not_eq_true', decide_eq_false_iff_not, Classical.not_not] at h4
            obtain ⟨z, ez, _, lz, es⟩ := R.find h1' h2 h3' h4
            have h6 := R.w6
            have lz' : (z.length : Int) = wd := by rw [lz]
            refine ⟨_, rfl, p, C, dx, _, _, rfl, hp, T.cl, T.nR, lk_own r, _, rfl, r, _, c.1, _, rfl, rfl, SqT.of hR, atIn h1' (mapstr ez), _, rfl, z, c.2, _, rfl, rfl, h3', by omega, by omega, es, rfl, ?_⟩
            have e : (!decide (V.str ⟨#[signN rows c]⟩ = V.str "~")) = landB rows c := by
              unfold landB
              rw [tilde]
              congr 1
              by_cases hs : signN rows c = 126
              · rw [hs]; rfl
              · rw [decide_eq_false hs, decide_eq_false]
                intro z
                injection z with z
                injection z with z
                exact hs (by simpa using z)
            rw [e]
            exact q
        · refine ⟨_, rfl, ite2 (fun _ => out (.inr fun z => h3 (decide_eq_true z.1))) (fun z => absurd rfl z)⟩
    · refine ⟨_, rfl, ite2 (fun _ => ite2 (fun _ => out (.inl fun z => h1 (decide_eq_true z.1))) (fun z => absurd rfl z)) (fun z => absurd rfl z)⟩
end
theorem signs_all : ((("." : Str) ++ "~") ++ letters).cps.toList = [46, 126, 65, 66, 67, 68, 69, 70, 71, 72, 73, 74, 75, 76, 77, 78, 79, 80, 81, 82, 83, 84, 85, 86, 87, 88, 89, 90] := by decide
theorem signs_in {c : Nat} (h : c = 46 ∨ c = 126 ∨ (65 ≤ c ∧ c ≤ 90)) : c ∈ ((("." : Str) ++ "~") ++ letters).cps.toList := by
  rw [signs_all]
  simp only [List.mem_cons, List.not_mem_nil, or_false]
  omega
theorem dec_int {a b : Int} (h : decide (V.int a = V.int b) = true) : a = b := by
  have h := of_decide_eq_true h
  injection h
/-! ### __init__ -/
abbrev nInit : List Str := ["self", "rows", "row", "text", "column", "sign"]
theorem scInit : FnScope nInit ["self", "rows"] (defScope iInit) := ⟨rfl, rfl, rfl, by decide +kernel, rfl, by decide +kernel, by decide +kernel⟩
def spInit (C : Addr) : Sp := fun vs H Q _ => ∃ (p dx r : Addr) (rows : List Str) (wd : Nat), vs = [.ref p, .ref r] ∧ H p = some (.ins C dx []) ∧ RowsAt H r rows ∧ Rect rows wd ∧
  ∀ H' : Hp, (∀ b o, b ≠ p → H b = some o → H' b = some o) → H' p = some (.ins C dx [(("own_rows" : Str), .ref r)]) → Q .non H'
section
variable {P : Program} {w : World} {K : PySem.W.Frag} {mg : Str → Option Value} {base : Heap}
theorem ok_init {C f : Addr} {fd : FuncData} (F : Fun K "__init__" "Island.__init__" iInit f fd) (T : IslT K mg C) : FnOk P w K mg base (L2.CX P w) 1 f fd ["self", "rows"] (spInit C) := by
  refine F.okX scInit (fun vs H Q E h => ?_) (fun cdv A outer s H vs Q E hr h => ?_)
  · obtain ⟨p, dx, r, rows, wd, rfl, _⟩ := h
    rfl
  · obtain ⟨p, dx, r, rows, wd, rfl, hp, hR, R, q⟩ := h
    have hu := hu_of hr
    obtain ⟨tw, mW⟩ := T.water
    obtain ⟨tl, mL⟩ := T.land
    obtain ⟨tt, mT⟩ := T.lett
    obtain ⟨tm, mM⟩ := T.maxs
    refine ⟨_, PSs.nox (pss_cons (ps_if (PW.pt (pw_or (pt_cmpR op_eq (pe_callB call_len_seq (by rfl) T.len PySem.boot_len (pa_cons (pv 1) pa_nil)) pe_int (nomark _)) (pw_or1 (pt_cmpR op_eq (pe_ix ix_tup (pv 1) pe_int (fun _ _ => rfl)) pe_str (nomark _))))) pss_dead pss_nil)
      (pss_cons (ps_for PassesOwn.never rfl (pi_enumT (by rfl) T.enumerate (pa_cons (pv 1) pa_nil)) (pg_tup rfl (pgs_cons (pg_name (i := 2) scInit.nd rfl (Or.inl rfl)) (pgs_cons (pg_name (i := 3) scInit.nd rfl (Or.inl rfl)) pgs_nil)))
        (pss_cons (ps_if (pt_cmpR op_eq (pv 2) (pe_gi (by rfl) mM) (nomark _)) pss_dead pss_nil)
        (pss_cons (ps_for PassesOwn.never rfl (pi_enumS (by rfl) T.enumerate (pa_cons (pv 3) pa_nil)) (pg_tup rfl (pgs_cons (pg_name (i := 4) scInit.nd rfl (Or.inl rfl)) (pgs_cons (pg_name (i := 5) scInit.nd rfl (Or.inl rfl)) pgs_nil)))
          (pss_one (ps_if (PW.pt (pw_or (pt_cmpR op_eq (pv 4) (pe_callB (call_min2 rfl) (by rfl) T.min (by decide +kernel) (pa_cons (pe_gi (by rfl) mM) (pa_cons (pe_callB call_len_str (by rfl) T.len PySem.boot_len (pa_cons (pe_ix ix_tup (pv 1) pe_int (fun _ _ => rfl)) pa_nil)) pa_nil))) (nomark _))
            (pw_or1 (pt_cmpR op_notIn_sign (pv 5) (pe_op op_add_str (pe_op op_add_str (pe_gs (by rfl) mL) (pe_gs (by rfl) mW)) (pe_gs (by rfl) mT)) (by rfl))))) pss_dead pss_nil)))
        (pss_one (ps_if (pt_cmpR op_lt (pe_callB call_len_str (by rfl) T.len PySem.boot_len (pa_cons (pv 3) pa_nil)) (pe_callB call_len_str (by rfl) T.len PySem.boot_len (pa_cons (pe_ix ix_tup (pv 1) pe_int (fun _ _ => rfl)) pa_nil)) (nomark _)) pss_dead pss_nil)))))
      (pss_one (ps_fld (pv 0) (pv 1) rfl)))), ?_⟩
    obtain ⟨z0, e0, _, l0⟩ := R.head
    have h6 := R.w6
    have hw := R.w0
    have m0 : atI (rows.map V.str) 0 = some (.str z0) := atIn (by decide) (mapstr e0)
    have lz0 : z0.length ≤ sizeLine := by rw [l0]; exact line6 h6
    have RR : ∀ {H' : Hp}, Same H H' → SqT K H' r (rows.map V.str) := fun e => SqT.of (e _ _ hR)
    refine ⟨_, rfl, r, _, rfl, .inr (SqT.of hR), rfl, _, rfl, ?_⟩
    refine ite2 (fun c => ?_) (fun _ => ?_)
    · have h0 := R.h0
      rw [List.length_map] at c
      have := dec_int c
      omega
    · refine ⟨_, rfl, r, _, 0, _, rfl, rfl, SqT.of hR, m0, rfl, _, rfl, ?_⟩
      refine ite2 (fun c => ?_) (fun _ => ?_)
      · have c := of_decide_eq_true c
        injection c with c
        have : z0.length = 0 := by rw [c]; decide
        omega
      · refine ⟨_, rfl, r, _, rfl, SqT.of hR, for_it walk_enumT (fun i σ H' => ∃ v2 v3 v4 v5, σ = [some (V.ref p), some (V.ref r), v2, v3, v4, v5] ∧ Same H H') ⟨_, _, _, _, rfl, Same.refl H⟩ (fun i σ H' _ ⟨_, _, _, _, _, e⟩ => RR e) ?_ ?_⟩
        · rintro i x σ H1 H2 hi ⟨v2, v3, v4, v5, rfl, e1⟩ ⟨t1, y, rfl, ht1, rfl, hy⟩
          rw [List.length_map] at hi
          have hrz : rows[i]? = some rows[i] := List.getElem?_eq_getElem hi
          have hm : rows[i] ∈ rows := List.getElem_mem hi
          rw [mapstr hrz] at hy
          obtain rfl := Option.some.inj hy
          have lz := R.len _ hm
          have s2 : Same H (upd H1 t1 (.tup [.int (i : Nat), .str rows[i]])) := e1.trans (same_new ht1)
          have lzz : rows[i].length ≤ sizeLine := by rw [lz]; exact line6 h6
          refine ⟨t1, _, rfl, SqT.of upd_same, rfl, _, _, rfl, _, _, rfl, rfl, ?_⟩
          refine ⟨_, rfl, rfl, _, rfl, ite2 (fun c => ?_) (fun _ => ?_)⟩
          · have := dec_int c
            have := R.h6
            omega
          · refine ⟨_, rfl, _, rfl, for_it walk_enumS (fun j σ H' => ∃ v4 v5, σ = [some (V.ref p), some (V.ref r), some (.int i), some (.str rows[i]), v4, v5] ∧ Same H H') ⟨_, _, rfl, s2⟩ (fun _ _ _ _ _ => trivial) ?_ ?_⟩
            · rintro j x σ H3 H4 hj ⟨v4, v5, rfl, e3⟩ ⟨t2, ch, rfl, ht2, rfl, hch⟩
              have s4 : Same H (upd H3 t2 (.tup [.int (j : Nat), .str ⟨#[ch]⟩])) := e3.trans (same_new ht2)
              refine ⟨t2, _, rfl, SqT.of upd_same, rfl, _, _, rfl, _, _, rfl, rfl, ?_⟩
              refine ⟨_, rfl, _, rfl, r, _, 0, _, rfl, rfl, RR s4, m0, z0, rfl, lz0, _, _, rfl, rfl, _, rfl, ite2 (fun c => ?_) (fun _ => ?_)⟩
              · have c := dec_int c
                have hj2 : rows[i].cps.size = wd := lz
                split at c <;> omega
              · refine ⟨_, rfl, _, _, rfl, rfl, by decide, _, _, rfl, rfl, by decide, ch, _, rfl, rfl, _, rfl, ite2 (fun c => ?_) (fun _ => ?_)⟩
                · have hc2 := R.ch _ hm ch (by rw [Array.mem_toList_iff]; exact Array.mem_of_getElem? hch)
                  have := signs_in hc2
                  rw [Bool.not_eq_true', decide_eq_false_iff_not] at c
                  exact c this
                · exact ⟨_, _, rfl, s4⟩
            · rintro σ H3 ⟨v4, v5, rfl, e3⟩
              refine ⟨_, rfl, _, rfl, lzz, _, rfl, r, _, 0, _, rfl, rfl, RR e3, m0, z0, rfl, lz0, _, _, rfl, rfl, _, rfl, ite2 (fun c => ?_) (fun _ => ?_)⟩
              · have c := of_decide_eq_true c
                omega
              · exact ⟨_, _, _, _, rfl, e3⟩
        · rintro σ H1 ⟨v2, v3, v4, v5, rfl, e1⟩
          refine ⟨_, rfl, _, rfl, p, C, dx, _, rfl, e1 _ _ hp, T.cl, T.nR, (by show 0 < 1000; decide), ?_⟩
          refine q _ (fun b o nb e => ?_) ?_
          · rw [upd_ne nb]
            exact e1 _ _ e
          · rw [upd_same]
            rfl
end
end Wk
set_option Elab.async false
set_option linter.all false
set_option maxRecDepth 100000
set_option maxHeartbeats 4000000
namespace Wk
open PySem PySem.Spec PyProof.Rows L2
theorem pg_tupK {X : Cx} {pos : Pos} (K : PySem.W.Frag) (hK : X.K = K) {es : List Expr} {k : Nat} {t : TGs} {n : Nat} (hc : X.calm = true) (h : PGs X es t)
    (hn : (assignEach es X.env).length = n := by rfl) (hst : (assignEach es X.env).findIdx? (·.1) = none := by rfl) : PG X (.Tuple es k pos) (gTup K n t) := by
  subst hK
  exact pg_tup hc h hn hst
abbrev nCells : List Str := ["self", "found", "row", "text", "column", "sign"]
theorem scCells : FnScope nCells ["self"] (defScope iCells) := ⟨rfl, rfl, rfl, by decide +kernel, rfl, by decide +kernel, by decide +kernel⟩
def ListAt (H : Hp) (q : Addr) (cs : List Cell) : Prop := ∃ vs, H q = some (.lst vs) ∧ Cells H vs cs
def spCells (C : Addr) : Sp := fun vs H Q _ => ∃ (p : Addr) (rows : List Str) (wd : Nat), vs = [.ref p] ∧ IslAt C H p rows ∧ Rect rows wd ∧
  ∀ (H' : Hp) (q : Addr) (cs : List Cell), Same H H' → H q = none → ListAt H' q cs → (∀ c ∈ cs, landB rows c = true) → cs.length ≤ 36 → Q (.ref q) H'
section
variable {P : Program} {w : World} {K : PySem.W.Frag} {mg : Str → Option Value} {base : Heap}
theorem ok_cells {C f : Addr} {fd : FuncData} (F : Fun K "cells" "Island.cells" iCells f fd) (T : IslT K mg C) : FnOk P w K mg base (L2.CX P w) 1 f fd ["self"] (spCells C) := by
  refine F.okX scCells (fun vs H Q E h => ?_) (fun cdv A outer s H vs Q E hr h => ?_)
  · obtain ⟨p, rows, wd, rfl, _⟩ := h
    rfl
  · obtain ⟨p, rows, wd, rfl, ⟨dx, r, hp, hR⟩, R, q⟩ := h
    have hu := hu_of hr
    obtain ⟨tw, mW⟩ := T.water
    refine ⟨_, PSs.nox (pss_cons (ps_set (i := 1) scCells.nd rfl (Or.inl rfl) (pe_lst pa_nil))
      (pss_cons (ps_for PassesOwn.never rfl (pi_enumT (by rfl) T.enumerate (pa_cons (pe_fld (pv 0) rfl) pa_nil)) (pg_tup rfl (pgs_cons (pg_name (i := 2) scCells.nd rfl (Or.inr rfl)) (pgs_cons (pg_name (i := 3) scCells.nd rfl (Or.inl rfl)) pgs_nil)))
        (pss_one (ps_expr (pe_bm PySem.F.plainAttrs_list PySem.F.slot_list_extend PySem.F.type_list_extend mt_extend (pv 1) (pa_cons
          (pe_lc (own := [("column", 4), ("sign", 5)]) (g := gTup K 2 (gCons (gName 4) (gCons (gName 5) gNil))) (tt := tTest (tOp rNe (tVar 5) (tC (.str "~")))) rfl scCells.nd (pi_enumS (by rfl) T.enumerate (pa_cons (pv 3) pa_nil)) (blkOk_by (N := nCells) (sc := defScope iCells) (by decide +kernel))
            (fun _ _ _ _ _ => pg_tupK K rfl rfl (pgs_cons (pg_name (i := 4) scCells.nd rfl (Or.inl rfl)) (pgs_cons (pg_name (i := 5) scCells.nd rfl (Or.inl rfl)) pgs_nil)))
            (fun _ _ _ _ _ => pts_one (pt_cmpR op_ne (pv 5) (pe_gs (by rfl) mW) (nomark _)))
            (fun _ _ _ _ _ => pe_tup (pa_cons (pv 2) (pa_cons (pv 4) pa_nil)))) pa_nil)))))
      (pss_one (ps_ret (pv 1))))), ?_⟩
    have two : 2 ≤ sizeLine := by decide
    have h6 := R.w6
    have h6' := R.h6
    refine ⟨Nat.zero_le _, fun D hD => ?_⟩
    have sD : Same H (upd H D (.lst [])) := same_new hD
    have pD : p ≠ D := ne_of_none hp hD
    refine ⟨_, rfl, p, C, dx, _, _, rfl, sD _ _ hp, T.cl, T.nR, lk_own r, r, _, rfl, SqT.of (sD _ _ hR),
      for_it walk_enumT (fun i σ H' => ∃ v2 v3 vs cs, σ = [some (V.ref p), some (V.ref D), v2, v3, none, none] ∧ H' D = some (.lst vs) ∧ Cells H' vs cs ∧ (∀ c ∈ cs, landB rows c = true) ∧ cs.length ≤ i * 6 ∧ Same H H')
        ⟨_, _, [], [], rfl, upd_same, .nil, by simp, Nat.zero_le _, sD⟩ (fun i σ H' _ ⟨_, _, _, _, _, _, _, _, _, e⟩ => SqT.of (e _ _ hR)) ?_ ?_⟩
    · rintro i x σ H1 H2 hi ⟨v2, v3, vs, cs, rfl, hd, hcs, hland, hlen, e1⟩ ⟨t1, y, rfl, ht1, rfl, hy⟩
      rw [List.length_map] at hi
      have hrz : rows[i]? = some rows[i] := List.getElem?_eq_getElem hi
      have hm : rows[i] ∈ rows := List.getElem_mem hi
      rw [mapstr hrz] at hy
      obtain rfl := Option.some.inj hy
      have lz := R.len _ hm
      have sn := same_new (o := .tup [.int (i : Nat), .str rows[i]]) ht1
      have hd2 := sn _ _ hd
      refine ⟨t1, _, rfl, SqT.of upd_same, rfl, _, _, rfl, _, _, rfl, rfl, ?_⟩
      refine ⟨_, rfl, .inl ⟨rfl, _, .inl (.inl hd2)⟩, _, rfl, _, rfl, fun D2 hD2 => lc_it walk_enumS (fun j H' => ∃ ws ds, H' D2 = some (.lst ws) ∧ Cells H' ws ds ∧ (∀ c ∈ ds, landB rows c = true) ∧ ds.length ≤ j ∧ Same (upd H1 t1 (.tup [.int (i : Nat), .str rows[i]])) H')
        ⟨[], [], upd_same, .nil, by simp, Nat.zero_le _, same_new hD2⟩ (fun _ _ _ _ => trivial) ?_ ?_⟩
      · rintro j x H3 H4 hj ⟨ws, ds, hw, hds, hl2, hn2, e3⟩ ⟨t2, ch, rfl, ht2, rfl, hch⟩
        have s4 := same_new (o := .tup [.int (j : Nat), .str ⟨#[ch]⟩]) ht2
        have hj2 : j < wd := by
          have : rows[i].cps.size = wd := lz
          omega
        obtain ⟨z, ez, _, _, es⟩ := R.find (c := ((i : Int), (j : Int))) (by simp) (by simp; omega) (by simp) (by simp; omega)
        have e1' : z = rows[i] := by
          have ez : rows[((i : Int)).toNat]? = some z := ez
          rw [Int.toNat_natCast, hrz] at ez
          exact (Option.some.inj ez).symm
        have es : z.cps[((j : Int)).toNat]? = some (signN rows ((i : Int), (j : Int))) := es
        rw [Int.toNat_natCast, e1', hch] at es
        have es := Option.some.inj es
        refine ⟨t2, _, rfl, SqT.of upd_same, rfl, _, _, rfl, _, _, rfl, rfl, rfl, ?_⟩
        refine ⟨_, rfl, rfl, _, rfl, ite2 (fun c => ?_) (fun c => ?_)⟩
        · refine ⟨_, rfl, _, rfl, two, fun t3 ht3 => ?_⟩
          have s5 := same_new (o := .tup [.int (i : Nat), .int (0 + (j : Nat))]) ht3
          have s5 := same_new (o := .tup [V.int (i : Nat), V.int (j : Nat)]) ht3
          have hw5 := s5 _ _ (s4 _ _ hw)
          have t3ne : t3 ≠ D2 := (ne_of_none (s4 _ _ hw) ht3).symm
          refine ⟨ws, hw5, ?_, ws ++ [V.ref t3], ds ++ [((i : Int), (j : Int))], upd_same, ?_, ?_, ?_, fun b o e => ?_⟩
          · rw [hds.length]
            exact Nat.lt_of_le_of_lt (show ds.length ≤ 6 by omega) (by decide)
          · refine Cells.mono (Tups.upd (.inr ⟨_, .inl hw5⟩)) ((hds.mono ((Tups.of s4).trans (Tups.of s5))).snoc ⟨t3, rfl, upd_same⟩)
          · intro c' hc'
            rcases List.mem_append.mp hc' with hc' | hc'
            · exact hl2 c' hc'
            · rw [List.mem_singleton.mp hc']
              unfold landB
              rw [← es]
              rw [Bool.not_eq_true', decide_eq_false_iff_not] at c ⊢
              intro z
              refine c ?_
              rw [z, tilde]
          · rw [List.length_append, List.length_singleton]
            omega
          · rw [upd_ne (ne_of_none e hD2)]
            exact s5 _ _ (s4 _ _ (e3 _ _ e))
        · exact ⟨ws, ds, s4 _ _ hw, hds.mono (Tups.of s4), hl2, by omega, e3.trans s4⟩
      · rintro H3 ⟨ws, ds, hw, hds, hl2, hn2, e3⟩
        have hd3 := e3 _ _ hd2
        have hsz : rows[i].cps.size = wd := lz
        refine ⟨D, D2, vs, ws, rfl, rfl, hd3, hw, ?_, _, _, vs ++ ws, cs ++ ds, rfl, upd_same, ?_, ?_, ?_, fun b o e => ?_⟩
        · rw [hcs.length, hds.length]
          exact Nat.le_trans (show cs.length + ds.length ≤ 100 by omega) (by decide)
        · exact Cells.mono (Tups.upd (.inr ⟨_, .inl hd3⟩)) ((hcs.mono ((Tups.of sn).trans (Tups.of e3))).append hds)
        · intro c hc
          rcases List.mem_append.mp hc with hc | hc
          · exact hland c hc
          · exact hl2 c hc
        · rw [List.length_append]
          omega
        · rw [upd_ne (ne_of_none e hD)]
          exact e3 _ _ (sn _ _ (e1 _ _ e))
    · rintro σ H1 ⟨v2, v3, vs, cs, rfl, hd, hcs, hland, hlen, e1⟩
      rw [List.length_map] at hlen
      exact ⟨_, rfl, q _ D cs e1 hD ⟨vs, hd, hcs⟩ hland (by omega)⟩
end
end Wk
set_option Elab.async false
set_option linter.all false
set_option maxRecDepth 100000
set_option maxHeartbeats 4000000
namespace Wk
open PySem PySem.Spec PyProof.Rows L2
/-! ### facts -/
structure UnkT (K : PySem.W.Frag) (mg : Str → Option Value) (CU : Addr) : Prop where
  q : PySem.W.excIn K CU [.type "ValueError", .type "Exception", .type "BaseException", .type "object"] "ValueError.__new__" = true
  g : mg "UnknownCell" = some (.ref CU)
  k : PySem.W.keepIn K (.ref CU) = true
  b : PySem.W.subIn K (.ref CU) (.type "BaseException") = some true
  t : PySem.W.typeIn K (.ref CU) = some (.type "type")
/-- a def of the class -/
structure MF (K : PySem.W.Frag) (C : Addr) (x qual : Str) (st : Stmt) (ps : List Str) (f : Addr) (fd : FuncData) : Prop where
  F : Fun K x qual st f fd
  b : L2.Binds K fd ps []
structure HasT (K : PySem.W.Frag) (C f : Addr) (fd : FuncData) : Prop extends MF K C "__contains__" "Island.__contains__" iHas ["self", "cell"] f fd where
  s : PySem.W.findIn K (.ref C) "__contains__" = some (some (.ref f))
  i : PySem.W.isFn K (.ref f) = true
def TupK (K : PySem.W.Frag) (a : Addr) (xs : List V) : Prop := ∃ (o : Obj) (its : Array Value) (n : Nat), K.lookup a = some o ∧ o.cls = .type "tuple" ∧ o.data = .seq its n ∧ its.size ≤ sizeLine ∧ Vals xs its.toList
theorem TupK.sq {K : PySem.W.Frag} {a : Addr} {xs : List V} (h : TupK K a xs) (H : Hp) : SqT K H a xs := .inr h
def MovesT (K : PySem.W.Frag) (mg : Str → Option Value) : Prop := ∃ (aM : Addr) (ms : List V), mg "MOVES" = some (.ref aM) ∧ TupK K aM ms ∧ ms.length = 4 ∧ ∀ (i : Nat) (m : Cell) (x : V), mvs[i]? = some m → ms[i]? = some x → ∃ a, x = .ref a ∧ TupK K a [.int m.1, .int m.2]
/-! ### validate_cell -/
abbrev sVal : Stmt := top 16
def spVal (C CU : Addr) : Sp := fun vs H Q E => ∃ (p : Addr) (rows : List Str) (wd : Nat) (v : V) (c : Cell), vs = [.ref p, v] ∧ IslAt C H p rows ∧ Rect rows wd ∧ CellAt H v c ∧ (landB rows c = true → Q .non H) ∧ (landB rows c = false → E (.ref CU) none H)
theorem scVal : FnScope ["island", "cell"] ["island", "cell"] (defScope sVal) := ⟨rfl, rfl, rfl, by decide +kernel, rfl, by decide +kernel, by decide +kernel⟩
section
variable {P : Program} {w : World} {K : PySem.W.Frag} {mg : Str → Option Value} {base : Heap}
theorem ok_val {C CU f fh : Addr} {fd fdh : FuncData} (F : Fun K "validate_cell" "validate_cell" sVal f fd) (T : IslT K mg C) (U : UnkT K mg CU) (M : HasT K C fh fdh) : FnOk P w K mg base (L2.CX P w) 2 f fd ["island", "cell"] (spVal C CU) := by
  have GH : FnOk P w K mg base (L2.CX P w) 1 fh fdh ["self", "cell"] (spHas C) := ok_has M.F T
  refine F.okX scVal (fun vs H Q E h => ?_) (fun cdv A outer s H vs Q E hr h => ?_)
  · obtain ⟨p, rows, wd, v, c, rfl, _⟩ := h
    rfl
  · obtain ⟨p, rows, wd, v, c, rfl, hI, R, hc, q1, q2⟩ := h
    refine ⟨_, pss_one (ps_if (pt_cmpR (op_notInO GH M.s M.i M.b hr passL) (pv 1) (pv 0) (by rfl)) (pss_one (ps_raise rfl (takes_of rfl rfl rfl rfl) (pmk_own PySem.F.excBase_ValueError U.q U.g U.k (raises_own U.b U.t) rfl))) pss_nil), ?_⟩
    obtain ⟨dx, r, hp, hR⟩ := id hI
    refine ⟨_, rfl, _, rfl, p, dx, _, rfl, hp, p, rows, wd, v, c, rfl, hI, R, hc, _, rfl, _, rfl, ite2 (fun z => ?_) (fun z => ?_)⟩
    · exact q2 (by simpa using z)
    · exact q1 (by simpa using z)
end
/-! ### neighbors -/
abbrev sNb : Stmt := top 19
abbrev nNb : List Str := ["island", "cell", "some", "down", "right", "other"]
def spNb (C : Addr) : Sp := fun vs H Q _ => ∃ (p : Addr) (rows : List Str) (wd : Nat) (v : V) (c : Cell), vs = [.ref p, v] ∧ IslAt C H p rows ∧ Rect rows wd ∧ CellAt H v c ∧
  ∀ (H' : Hp) (q : Addr), Same H H' → H q = none → ListAt H' q (nbs (landB rows) c) → Q (.ref q) H'
theorem scNb : FnScope nNb ["island", "cell"] (defScope sNb) := ⟨rfl, rfl, rfl, by decide +kernel, rfl, by decide +kernel, by decide +kernel⟩
def kOf (H : Hp) : V → Cell
  | .ref a => (match H a with
    | some (.tup [.int i, .int j]) => (i, j)
    | _ => (0, 0))
  | _ => (0, 0)
theorem CellAt.kOf {H : Hp} {v : V} {c : Cell} (h : CellAt H v c) : kOf H v = c := by
  obtain ⟨a, rfl, h⟩ := h
  unfold Wk.kOf
  simp only [h]
theorem cells_map {H : Hp} {vs : List V} {cs : List Cell} (h : Cells H vs cs) : vs.map (kOf H) = cs := by
  induction h with
  | nil => rfl
  | cons a b ih => rw [List.map_cons, ih, a.kOf]
theorem cells_of {H : Hp} : ∀ {vs : List V}, (∀ v ∈ vs, CellAt H v (kOf H v)) → Cells H vs (vs.map (kOf H))
  | [], _ => .nil
  | v :: vs, h => .cons (h v (by simp)) (cells_of fun u hu => h u (by simp [hu]))
theorem sorted_one : ∀ {l m : List Cell}, l.Pairwise (fun a b => ¬ clt b a) → m.Pairwise clt → l.Perm m → l = m
  | l, [], _, _, h => h.eq_nil
  | [], y :: m, _, _, h => absurd h.length_eq (by simp)
  | x :: l, y :: m, hl, hm, h => by
    have e : x = y := by
      rcases List.mem_cons.mp (h.mem_iff.mp (List.mem_cons_self (a := x) (l := l))) with e | hx
      · exact e
      · rcases List.mem_cons.mp (h.mem_iff.mpr (List.mem_cons_self (a := y) (l := m))) with e | hy
        · exact e.symm
        · exact absurd ((List.pairwise_cons.mp hm).1 x hx) ((List.pairwise_cons.mp hl).1 y hy)
    subst e
    rw [sorted_one (List.pairwise_cons.mp hl).2 (List.pairwise_cons.mp hm).2 h.cons_inv]
theorem take_more {α : Type} {l : List α} {i : Nat} {x : α} (h : l[i]? = some x) : l.take (i + 1) = l.take i ++ [x] := by
  rw [List.take_add_one, h]
  rfl
section
variable {P : Program} {w : World} {K : PySem.W.Frag} {mg : Str → Option Value} {base : Heap}
theorem ok_nb {C f fh : Addr} {fd fdh : FuncData} (F : Fun K "neighbors" "neighbors" sNb f fd) (T : IslT K mg C) (MV : MovesT K mg) (M : HasT K C fh fdh) : FnOk P w K mg base (L2.CX P w) 2 f fd ["island", "cell"] (spNb C) := by
  have GH : FnOk P w K mg base (L2.CX P w) 1 fh fdh ["self", "cell"] (spHas C) := ok_has M.F T
  refine F.okX scNb (fun vs H Q E h => ?_) (fun cdv A outer s H vs Q E hr h => ?_)
  · obtain ⟨p, rows, wd, v, c, rfl, _⟩ := h
    rfl
  · obtain ⟨p, rows, wd, v, c, rfl, hI, R, hc, q⟩ := h
    obtain ⟨aM, ms, gM, tM, l4, hM⟩ := MV
    have hu := hu_of hr
    refine ⟨_, PSs.nox (pss_cons (ps_setLc (i := 2) (own := [("down", 3), ("right", 4)]) (g := gTup K 2 (gCons (gName 3) (gCons (gName 4) gNil))) (tt := tYes) rfl scNb.nd rfl rfl (sw_true rfl rfl rfl (by decide +kernel)) (pi_tup (pe_glob (v := .ref aM) (by rfl) gM rfl)) (blkOk_by (N := nNb) (sc := defScope sNb) (by decide +kernel))
          (fun _ _ _ _ _ => pg_tupK K rfl rfl (pgs_cons (pg_name (i := 3) scNb.nd rfl (Or.inl rfl)) (pgs_cons (pg_name (i := 4) scNb.nd rfl (Or.inl rfl)) pgs_nil)))
          (fun _ _ _ _ _ => pts_nil)
          (fun _ _ _ _ _ => pe_tup (pa_cons (pe_op op_add (pe_ix (ix_tupK K rfl) (pv 1) pe_int (fun _ _ => rfl)) (pv 3)) (pa_cons (pe_op op_add (pe_ix (ix_tupK K rfl) (pv 1) pe_int (fun _ _ => rfl)) (pv 4)) pa_nil))))
      (pss_one (ps_ret (pe_callB cr_sortedPO (by rfl) T.sorted (by decide +kernel) (pa_cons
        (pe_lc (own := [("other", 5)]) (g := gName 5) (tt := tTest (tOp (rInO C (spHas C) E0) (tVar 5) (tVar 0))) rfl scNb.nd (pi_list (pv 2)) (blkOk_by (N := nNb) (sc := defScope sNb) (by decide +kernel))
          (fun _ _ _ _ _ => pg_name (i := 5) scNb.nd rfl (Or.inl rfl))
          (fun _ _ _ _ _ => pts_one (pt_cmpR (op_inO GH M.s M.i M.b hr passL) (pv 5) (pv 0) (by rfl)))
          (fun _ _ _ _ _ => pv 5)) pa_nil))))), ?_⟩
    have two : 2 ≤ sizeLine := by decide
    obtain ⟨b, rfl, hb⟩ := id hc
    obtain ⟨dx, r, hp, hR⟩ := id hI
    refine ⟨aM, rfl, ⟨_, tM.sq _⟩, fun D hD => lc_tup (K := K) (a := aM) (xs := ms) (fun i H' => ∃ vs, H' D = some (.lst vs) ∧ Cells H' vs ((nb4 c).take i) ∧ Same H H') ⟨[], upd_same, .nil, same_new hD⟩ (fun _ _ _ _ => tM.sq _) ?_ ?_⟩
    · rintro i x H1 hi ⟨vs, hd, hcs, e1⟩
      have il : i < 4 := by
        have := (List.getElem?_eq_some_iff.mp hi).1
        omega
      have hmi : mvs[i]? = some (mvs[i]'il) := List.getElem?_eq_getElem il
      obtain ⟨a, rfl, ta⟩ := hM i _ x hmi hi
      have hnb : (nb4 c)[i]? = some (c.1 + (mvs[i]'il).1, c.2 + (mvs[i]'il).2) := by
        unfold nb4
        rw [List.getElem?_map, hmi]
        rfl
      refine ⟨a, _, rfl, ta.sq _, rfl, _, _, rfl, _, _, rfl, rfl, rfl, yes_of ?_⟩
      refine ⟨_, rfl, b, _, _, _, rfl, rfl, SqT.of (e1 _ _ hb), atI0, _, rfl, _, _, rfl, rfl, _, rfl, b, _, _, _, rfl, rfl, SqT.of (e1 _ _ hb), atI1, _, rfl, _, _, rfl, rfl, two, fun t ht => ?_⟩
      have s5 := same_new (o := .tup [V.int (c.1 + (mvs[i]'il).1), V.int (c.2 + (mvs[i]'il).2)]) ht
      have hd5 := s5 _ _ hd
      refine ⟨vs, hd5, ?_, vs ++ [V.ref t], upd_same, ?_, fun u o e => ?_⟩
      · rw [hcs.length, List.length_take]
        exact Nat.lt_of_le_of_lt (show min i (nb4 c).length ≤ 10 by omega) (by decide)
      · rw [take_more hnb]
        exact Cells.mono (Tups.upd (.inr ⟨_, .inl hd5⟩)) ((hcs.mono (Tups.of s5)).snoc ⟨t, rfl, upd_same⟩)
      · rw [upd_ne (ne_of_none e hD)]
        exact s5 _ _ (e1 _ _ e)
    · rintro H1 ⟨vs, hd, hcs, e1⟩
      rw [l4, show (nb4 c).take 4 = nb4 c from rfl] at hcs
      refine ⟨_, rfl, D, rfl, ⟨_, SqL.of hd⟩, fun D2 hD2 => lc_list (K := K) (a := D) (xs := vs) (fun i H' => ∃ ws, H' D2 = some (.lst ws) ∧ Cells H' ws (((nb4 c).take i).filter (landB rows)) ∧ Same H1 H') ⟨[], upd_same, .nil, same_new hD2⟩ (fun _ _ _ ⟨_, _, _, e⟩ => SqL.of (e _ _ hd)) ?_ ?_⟩
      · rintro i x H2 hi ⟨ws, hw, hws, e2⟩
        obtain ⟨d, hdi, hxd⟩ := hcs.get hi
        have hx2 := hxd.mono (Tups.of e2)
        have hl : ws.length < sizeLine := by
          rw [hws.length]
          refine Nat.lt_of_le_of_lt (Nat.le_trans (List.length_filter_le _ _) ?_) (show 10 < sizeLine by decide)
          rw [List.length_take]
          have : (nb4 c).length = 4 := rfl
          omega
        refine ⟨rfl, _, rfl, _, rfl, p, dx, _, rfl, e2 _ _ (e1 _ _ hp), p, rows, wd, x, d, rfl, (hI.same e1).same e2, R, hx2, _, rfl, _, rfl, ite2 (fun z => ?_) (fun z => ?_)⟩
        · refine ⟨_, rfl, ws, hw, hl, ws ++ [x], upd_same, ?_, fun u o e => ?_⟩
          · rw [take_more hdi, List.filter_append, List.filter_cons_of_pos z]
            exact Cells.mono (Tups.upd (.inr ⟨_, .inl hw⟩)) (hws.snoc hx2)
          · rw [upd_ne (ne_of_none e hD2)]
            exact e2 _ _ e
        · refine ⟨ws, hw, ?_, e2⟩
          rw [take_more hdi, List.filter_append, List.filter_cons_of_neg z]
          simpa using hws
      · rintro H2 ⟨ws, hw, hws, e2⟩
        have e4 : (nb4 c).take vs.length = nb4 c := by
          rw [hcs.length]
          exact List.take_length
        rw [e4] at hws
        refine ⟨D2, ws, kOf H2, rfl, SqL.of hw, fun x hx => ?_, fun ys o hs hst ho => ?_⟩
        · obtain ⟨d, _, hd'⟩ := hws.mem hx
          rw [hd'.kOf]
          obtain ⟨t, e, ht⟩ := hd'
          exact ⟨t, e, ht⟩
        · have hall : ∀ y ∈ ys, CellAt H2 y (kOf H2 y) := fun y hy => by
            obtain ⟨d, _, hd'⟩ := hws.mem (hst.perm.mem_iff.mp hy)
            rw [hd'.kOf]
            exact hd'
          have hys := cells_of hall
          have hperm : (ys.map (kOf H2)).Perm (nbs (landB rows) c) := by
            refine (hst.perm.map _).trans ?_
            rw [cells_map hws]
            exact nbs_perm _ _
          have hsrt : (ys.map (kOf H2)).Pairwise (fun a b => ¬ clt b a) := by
            refine List.pairwise_map.mpr (List.Pairwise.imp (fun {a b} h => ?_) hs)
            exact SrtO.lexB_no.mp h
          have he := sorted_one hsrt (nbs_sorted _ _) hperm
          rw [he] at hys
          refine q _ o (e1.trans (e2.trans (same_new ho))) ((e1.trans e2).free ho) ⟨ys, upd_same, hys.mono (Tups.upd (.inl ho))⟩
end
end Wk
set_option linter.all false
namespace Wk
/-! ### the going out by levels -/
theorem nodup_le {α : Type} [DecidableEq α] : ∀ {l m : List α}, l.Nodup → (∀ x ∈ l, x ∈ m) → l.length ≤ m.length
  | [], _, _, _ => Nat.zero_le _
  | x :: l, m, hn, hs => by
    have hx : x ∈ m := hs x (by simp)
    have h1 := List.nodup_cons.mp hn
    have ih := nodup_le (l := l) (m := m.erase x) h1.2 fun y hy => (List.mem_erase_of_ne (fun e => h1.1 (by rw [← e]; exact hy))).mpr (hs y (by simp [hy]))
    rw [List.length_erase_of_mem hx] at ih
    have : 0 < m.length := List.length_pos_of_mem hx
    rw [List.length_cons]
    omega
/-- all the places that there may be -/
def places : List Cell := (List.range 6).flatMap fun (i : Nat) => (List.range 6).map fun (j : Nat) => (((i : Nat) : Int), ((j : Nat) : Int))
theorem places_len : places.length = 36 := by decide
theorem mem_places {c : Cell} (h0 : 0 ≤ c.1) (h1 : c.1 < 6) (h2 : 0 ≤ c.2) (h3 : c.2 < 6) : c ∈ places := by
  unfold places
  rw [List.mem_flatMap]
  refine ⟨c.1.toNat, List.mem_range.mpr (by omega), ?_⟩
  rw [List.mem_map]
  refine ⟨c.2.toNat, List.mem_range.mpr (by omega), ?_⟩
  refine Prod.ext ?_ ?_
  · show ((c.1.toNat : Nat) : Int) = c.1
    omega
  · show ((c.2.toNat : Nat) : Int) = c.2
    omega
variable {L : Cell → Bool} {s : Cell}
/-- what is found when the cells at k are the level -/
structure Lv (L : Cell → Bool) (s : Cell) (k : Nat) (fs : List (Cell × Nat)) (lev : List Cell) : Prop where
  nd : (fs.map (·.1)).Nodup
  fd : ∀ c n, (c, n) ∈ fs ↔ Di L s c n ∧ n ≤ k
  lv : ∀ c, c ∈ lev ↔ Di L s c k
/-- in the midst of a level: those of done are gone through -/
structure Md (L : Cell → Bool) (s : Cell) (k : Nat) (fs : List (Cell × Nat)) (lat : List Cell) (done : Cell → Prop) : Prop where
  nd : (fs.map (·.1)).Nodup
  fd : ∀ c n, (c, n) ∈ fs ↔ (Di L s c n ∧ n ≤ k) ∨ (n = k + 1 ∧ c ∈ lat)
  la : ∀ c ∈ lat, Di L s c (k + 1)
  dn : ∀ o, done o → Di L s o (k + 1) → o ∈ lat
theorem Lv.start (l : L s = true) : Lv L s 0 [(s, 0)] [s] := by
  refine ⟨by simp, fun c n => ?_, fun c => ?_⟩
  · rw [List.mem_singleton, Prod.mk.injEq]
    constructor
    · rintro ⟨rfl, rfl⟩
      exact ⟨Di.zero l, Nat.le_refl _⟩
    · rintro ⟨h, hn⟩
      have : n = 0 := by omega
      subst this
      exact ⟨h.eq_of_zero.symm, rfl⟩
  · rw [List.mem_singleton]
    constructor
    · rintro rfl
      exact Di.zero l
    · exact fun h => h.eq_of_zero.symm
theorem Lv.go {k : Nat} {fs : List (Cell × Nat)} {lev : List Cell} (h : Lv L s k fs lev) : Md L s k fs [] fun _ => False :=
  ⟨h.nd, fun c n => by rw [h.fd]; simp, fun c hc => (by simp at hc), fun o z => z.elim⟩
theorem Md.weak {k : Nat} {fs : List (Cell × Nat)} {lat : List Cell} {p q : Cell → Prop} (h : Md L s k fs lat p) (w : ∀ o, q o → Di L s o (k + 1) → p o) : Md L s k fs lat q :=
  ⟨h.nd, h.fd, h.la, fun o z d => h.dn o (w o z d) d⟩
/-- o, beside a cell of the level, is new -/
theorem Md.add {k : Nat} {fs : List (Cell × Nat)} {lat : List Cell} {p : Cell → Prop} {here o : Cell} (h : Md L s k fs lat p) (hh : Di L s here k) (x : o ∈ nbs L here) (new : o ∉ fs.map (·.1)) : Md L s k (fs ++ [(o, k + 1)]) (lat ++ [o]) fun c => p c ∨ c = o := by
  obtain ⟨ha, hl⟩ := mem_nbs.mp x
  obtain ⟨m, hm, hd⟩ := hh.next ha hl
  have no : ∀ n, (o, n) ∉ fs := fun n z => new (List.mem_map.mpr ⟨_, z, rfl⟩)
  have hk : m = k + 1 := by
    by_cases e : m ≤ k
    · exact absurd ((h.fd o m).mpr (.inl ⟨hd, e⟩)) (no m)
    · omega
  subst hk
  refine ⟨?_, fun c n => ?_, fun c hc => ?_, fun c hc d => ?_⟩
  · rw [List.map_append, List.nodup_append]
    refine ⟨h.nd, by simp, fun a ha b hb => ?_⟩
    have : b = o := by simpa using hb
    rw [this]
    exact fun e => new (by rw [← e]; exact ha)
  · rw [List.mem_append, h.fd, List.mem_singleton, List.mem_append, List.mem_singleton, Prod.mk.injEq]
    constructor
    · rintro ((z | ⟨z1, z2⟩) | ⟨z1, z2⟩)
      · exact .inl z
      · exact .inr ⟨z1, .inl z2⟩
      · exact .inr ⟨z2, .inr z1⟩
    · rintro (z | ⟨z1, z2 | z2⟩)
      · exact .inl (.inl z)
      · exact .inl (.inr ⟨z1, z2⟩)
      · exact .inr ⟨z2, z1⟩
  · rcases List.mem_append.mp hc with hc | hc
    · exact h.la c hc
    · rw [List.mem_singleton.mp hc]
      exact hd
  · rcases hc with hc | hc
    · exact List.mem_append.mpr (.inl (h.dn c hc d))
    · exact List.mem_append.mpr (.inr (by rw [hc]; simp))
/-- o is known -/
theorem Md.skip {k : Nat} {fs : List (Cell × Nat)} {lat : List Cell} {p : Cell → Prop} {o : Cell} (h : Md L s k fs lat p) (old : o ∈ fs.map (·.1)) : Md L s k fs lat fun c => p c ∨ c = o := by
  refine ⟨h.nd, h.fd, h.la, fun c hc d => ?_⟩
  rcases hc with hc | hc
  · exact h.dn c hc d
  · subst hc
    obtain ⟨⟨c', n⟩, hm, e⟩ := List.mem_map.mp old
    have e : c' = c := e
    subst e
    rcases (h.fd c' n).mp hm with ⟨d2, hn⟩ | ⟨_, z⟩
    · have := d.uniq d2
      omega
    · exact z
theorem Md.close {k : Nat} {fs : List (Cell × Nat)} {lat lev : List Cell} (hl : ∀ c, c ∈ lev ↔ Di L s c k) (h : Md L s k fs lat fun o => ∃ here ∈ lev, o ∈ nbs L here) : Lv L s (k + 1) fs lat := by
  have hla : ∀ c, c ∈ lat ↔ Di L s c (k + 1) := fun c => ⟨h.la c, fun d => by
    obtain ⟨b, hb, ha, l⟩ := d.pred
    exact h.dn c ⟨b, (hl b).mpr hb, mem_nbs.mpr ⟨ha, l⟩⟩ d⟩
  refine ⟨h.nd, fun c n => ?_, hla⟩
  rw [h.fd]
  constructor
  · rintro (⟨d, hn⟩ | ⟨rfl, z⟩)
    · exact ⟨d, by omega⟩
    · exact ⟨h.la c z, Nat.le_refl _⟩
  · rintro ⟨d, hn⟩
    by_cases e : n ≤ k
    · exact .inl ⟨d, e⟩
    · have : n = k + 1 := by omega
      subst this
      exact .inr ⟨rfl, (hla c).mpr d⟩
/-- the end: an empty level -/
theorem Lv.stop {k : Nat} {fs : List (Cell × Nat)} (h : Lv L s k fs []) : ∀ c n, (c, n) ∈ fs ↔ Di L s c n := fun c n => by
  rw [h.fd]
  refine ⟨fun z => z.1, fun z => ⟨z, ?_⟩⟩
  by_cases e : n ≤ k
  · exact e
  · obtain ⟨b, hb⟩ := z.up k (by omega)
    exact absurd ((h.lv b).mpr hb) (by simp)
theorem fs_len {fs : List (Cell × Nat)} (hU : ∀ c, L c = true → c ∈ places) (nd : (fs.map (·.1)).Nodup) (hd : ∀ c n, (c, n) ∈ fs → Di L s c n) : fs.length ≤ 36 := by
  have h := nodup_le (m := places) nd fun c hc => by
    obtain ⟨⟨c', n⟩, hm, e⟩ := List.mem_map.mp hc
    have e : c' = c := e
    subst e
    exact hU _ (hd _ _ hm).lb
  rw [List.length_map, places_len] at h
  exact h
theorem Md.len {k : Nat} {fs : List (Cell × Nat)} {lat : List Cell} {p : Cell → Prop} (hU : ∀ c, L c = true → c ∈ places) (h : Md L s k fs lat p) : fs.length ≤ 36 :=
  fs_len hU h.nd fun c n hm => by
    rcases (h.fd c n).mp hm with ⟨d, _⟩ | ⟨rfl, z⟩
    · exact d
    · exact h.la c z
/-- the first entry of c -/
def look (fs : List (Cell × Nat)) (c : Cell) : Option Nat := (fs.find? fun p => decide (p.1 = c)).map (·.2)
theorem look_some {fs : List (Cell × Nat)} {c : Cell} {n : Nat} (nd : (fs.map (·.1)).Nodup) (h : (c, n) ∈ fs) : look fs c = some n := by
  induction fs with
  | nil => simp at h
  | cons p r ih =>
    unfold look
    rw [List.map_cons, List.nodup_cons] at nd
    rcases List.mem_cons.mp h with e | h
    · rw [List.find?_cons_of_pos (by rw [← e]; simp), ← e]
      rfl
    · rw [List.find?_cons_of_neg (by
        intro z
        have z := of_decide_eq_true z
        exact nd.1 (List.mem_map.mpr ⟨_, h, z.symm⟩))]
      exact ih nd.2 h
theorem look_none {fs : List (Cell × Nat)} {c : Cell} (h : c ∉ fs.map (·.1)) : look fs c = none := by
  unfold look
  rw [Option.map_eq_none_iff, List.find?_eq_none]
  intro p hp z
  exact h (List.mem_map.mpr ⟨p, hp, of_decide_eq_true z⟩)
theorem look_mem {fs : List (Cell × Nat)} {c : Cell} {n : Nat} (h : look fs c = some n) : (c, n) ∈ fs := by
  unfold look at h
  obtain ⟨p, hp, e⟩ := Option.map_eq_some_iff.mp h
  have h1 := List.find?_some hp
  have h2 := List.mem_of_find?_eq_some hp
  have h1 := of_decide_eq_true h1
  have : p = (c, n) := Prod.ext h1 e
  rw [← this]
  exact h2
end Wk
set_option Elab.async false
set_option linter.all false
set_option maxRecDepth 100000
set_option maxHeartbeats 4000000
namespace Wk
open PySem PySem.Spec PyProof.Rows L2
theorem land_places {rows : List Str} {wd : Nat} (R : Rect rows wd) {c : Cell} (h : landB rows c = true) : c ∈ places := by
  have hb : inB rows c = true := by
    by_cases e : inB rows c = true
    · exact e
    · unfold landB at h
      rw [signN_out e] at h
      simp at h
  unfold inB at hb
  rw [Bool.and_eq_true, decide_eq_true_eq, decide_eq_true_eq, R.hw] at hb
  have h1 := R.h6
  have h2 := R.w6
  exact mem_places hb.1.1 (by omega) hb.2.1 (by omega)
/-! ### the dict of distances -/
def fkv (fs : List (Cell × Nat)) : List (List L2.Key × V) := fs.map fun p => (kc p.1, V.int p.2)
theorem fkv_val (c : Cell) : ∀ fs : List (Cell × Nat), valV (fkv fs) (kc c) = (look fs c).map fun n => V.int n
  | [] => rfl
  | p :: r => by
    have ih := fkv_val c r
    unfold valV look fkv at ih ⊢
    rw [List.map_cons]
    by_cases e : p.1 = c
    · rw [List.find?_cons_of_pos (by simp [e]), List.find?_cons_of_pos (by simp [e])]
      rfl
    · have e2 : kc p.1 ≠ kc c := fun z => e (kc_inj z)
      rw [List.find?_cons_of_neg (by simp [e2]), List.find?_cons_of_neg (by simp [e])]
      exact ih
theorem fkv_put {fs : List (Cell × Nat)} {c : Cell} {n : Nat} (h : c ∉ fs.map (·.1)) : putK (fkv fs) (kc c) (.int n) = fkv (fs ++ [(c, n)]) := by
  unfold putK
  rw [if_neg]
  · unfold fkv
    rw [List.map_append]
    rfl
  · intro z
    obtain ⟨x, hx, e⟩ := List.any_eq_true.mp z
    obtain ⟨p, hp, rfl⟩ := List.mem_map.mp hx
    exact h (List.mem_map.mpr ⟨p, hp, kc_inj (of_decide_eq_true e)⟩)
theorem fkv_len (fs : List (Cell × Nat)) : (fkv fs).length = fs.length := by
  unfold fkv
  rw [List.length_map]
theorem look_isSome {fs : List (Cell × Nat)} {c : Cell} : (look fs c).isSome = true ↔ c ∈ fs.map (·.1) := by
  constructor
  · intro h
    obtain ⟨n, hn⟩ := Option.isSome_iff_exists.mp h
    exact List.mem_map.mpr ⟨_, look_mem hn, rfl⟩
  · intro h
    cases e : look fs c with
    | some n => rfl
    | none =>
      unfold look at e
      rw [Option.map_eq_none_iff, List.find?_eq_none] at e
      obtain ⟨p, hp, e2⟩ := List.mem_map.mp h
      exact absurd (decide_eq_true e2) (e p hp)
/-- the state of the going out: H the start -/
structure DSt (H H' : Hp) (d lv la : Addr) (vs ws : List V) (lev lat : List Cell) (fs : List (Cell × Nat)) : Prop where
  same : Same H H'
  hd : H' d = some (.dT (fkv fs))
  hl : H' lv = some (.lst vs)
  cs : Cells H' vs lev
  ha : H' la = some (.lst ws)
  ws : Cells H' ws lat
theorem DSt.on {H H1 H2 : Hp} {d lv la : Addr} {vs ws : List V} {lev lat : List Cell} {fs : List (Cell × Nat)} (h : DSt H H1 d lv la vs ws lev lat fs) (e : Same H1 H2) : DSt H H2 d lv la vs ws lev lat fs :=
  ⟨h.same.trans e, e _ _ h.hd, e _ _ h.hl, h.cs.mono (Tups.of e), e _ _ h.ha, h.ws.mono (Tups.of e)⟩
theorem DSt.da {H H1 : Hp} {d lv la : Addr} {vs ws : List V} {lev lat : List Cell} {fs : List (Cell × Nat)} (h : DSt H H1 d lv la vs ws lev lat fs) : d ≠ la ∧ d ≠ lv :=
  ⟨ne_of h.hd h.ha (fun z => nomatch z), ne_of h.hd h.hl (fun z => nomatch z)⟩
theorem DSt.tups {H H1 : Hp} {d lv la : Addr} {vs ws us : List V} {lev lat : List Cell} {fs : List (Cell × Nat)} {kvs : List (List L2.Key × V)} (h : DSt H H1 d lv la vs ws lev lat fs) : Tups H1 (upd (upd H1 d (.dT kvs)) la (.lst us)) :=
  (Tups.upd (.inr ⟨[], .inr ⟨_, h.hd⟩⟩)).trans (Tups.upd (.inr ⟨_, .inl (by rw [upd_ne h.da.1.symm]; exact h.ha)⟩))
theorem DSt.add {H H1 : Hp} {d lv la : Addr} {vs ws : List V} {lev lat : List Cell} {fs : List (Cell × Nat)} {y : V} {o : Cell} {n : Nat} (h : DSt H H1 d lv la vs ws lev lat fs) (nla : lv ≠ la) (d0 : H d = none) (a0 : H la = none) (ho : CellAt H1 y o) (new : o ∉ fs.map (·.1)) :
    DSt H (upd (upd H1 d (.dT (putK (fkv fs) (kc o) (.int n)))) la (.lst (ws ++ [y]))) d lv la vs (ws ++ [y]) lev (lat ++ [o]) (fs ++ [(o, n)]) := by
  have ht : Tups H1 (upd (upd H1 d (.dT (putK (fkv fs) (kc o) (.int n)))) la (.lst (ws ++ [y]))) := h.tups
  refine ⟨fun b u e => ?_, ?_, ?_, h.cs.mono ht, upd_same, (h.ws.mono ht).snoc (ho.mono ht)⟩
  · rw [upd_ne (ne_of_none e a0), upd_ne (ne_of_none e d0)]
    exact h.same _ _ e
  · rw [upd_ne h.da.1, upd_same, fkv_put new]
  · rw [upd_ne nla, upd_ne h.da.2.symm]
    exact h.hl
/-! ### distances -/
abbrev sDis : Stmt := top 20
abbrev nDis : List Str := ["island", "cell", "found", "level", "later", "here", "other"]
theorem scDis : FnScope nDis ["island", "cell"] (defScope sDis) := ⟨rfl, rfl, rfl, by decide +kernel, rfl, by decide +kernel, by decide +kernel⟩
def spDis (C : Addr) : Sp := fun vs H Q _ => ∃ (p : Addr) (rows : List Str) (wd : Nat) (v : V) (c : Cell), vs = [.ref p, v] ∧ IslAt C H p rows ∧ Rect rows wd ∧ CellAt H v c ∧ landB rows c = true ∧
  ∀ (H' : Hp) (d : Addr) (fs : List (Cell × Nat)), Same H H' → H d = none → H' d = some (.dT (fkv fs)) → (fs.map (·.1)).Nodup → (∀ o n, (o, n) ∈ fs ↔ Di (landB rows) c o n) → Q (.ref d) H'
structure NbT (K : PySem.W.Frag) (mg : Str → Option Value) (f : Addr) (fd : FuncData) (fh : Addr) (fdh : FuncData) (C : Addr) : Prop extends DF K mg "neighbors" sNb ["island", "cell"] f fd where
  mv : MovesT K mg
  has : HasT K C fh fdh
section
variable {P : Program} {w : World} {K : PySem.W.Frag} {mg : Str → Option Value} {base : Heap}
theorem ok_dis {C f fh fn : Addr} {fd fdh fdn : FuncData} (F : Fun K "distances" "distances" sDis f fd) (T : IslT K mg C) (N : NbT K mg fn fdn fh fdh C) : FnOk P w K mg base (L2.CX P w) 3 f fd ["island", "cell"] (spDis C) := by
  have GN : FnOk P w K mg base (L2.CX P w) 2 fn fdn ["island", "cell"] (spNb C) := ok_nb N.F T N.mv N.has
  refine F.okX scDis (fun vs H Q E h => ?_) (fun cdv A outer s H vs Q E hr h => ?_)
  · obtain ⟨p, rows, wd, v, c, rfl, _⟩ := h
    rfl
  · obtain ⟨p, rows, wd, v, c, rfl, hI, R, hc, hland, q⟩ := h
    have hu := hu_of hr
    have hu64 : (A.deeper (envOfC "distances" (defScope sDis) s.heap.objs.size f cdv)).units + 64 < cLine := by have := hr.un; omega
    refine ⟨_, PSs.nox (pss_cons (ps_par (i := 2) (j := 3) rfl scDis.nd rfl rfl (by decide) rfl rfl (pa_cons (pe_dT1 hu (pv 1) pe_int) (pa_cons (pe_lst (pa_cons (pv 1) pa_nil)) pa_nil)) (by rfl))
      (pss_cons (ps_while PassesOwn.never (pt_cmpR (op_neNil hu64) (pv 3) (pe_lst pa_nil) (nomark _))
        (pss_cons (ps_set (i := 4) scDis.nd rfl (Or.inl rfl) (pe_lst pa_nil))
        (pss_cons (ps_for PassesOwn.never rfl (pi_list (pv 3)) (pg_name (i := 5) scDis.nd rfl (Or.inl rfl))
          (pss_one (ps_for PassesOwn.never rfl (pi_list (pe_call GN hr (by rfl) N.m N.F.kp N.b .nil passL (pa_cons (pv 0) (pa_cons (pv 5) pa_nil)))) (pg_name (i := 6) scDis.nd rfl (Or.inl rfl))
            (pss_one (ps_if (pt_cmp (pc_dnotin hu (pv 6) (pv 2)))
              (pss_cons (ps_dput hu (pv 2) (pv 6) (pe_op op_add (pe_dget hu (pv 2) (pv 5) (fun _ _ => rfl)) pe_int) rfl)
              (pss_one (ps_expr (pe_bm PySem.F.plainAttrs_list PySem.F.slot_list_append PySem.F.type_list_append mt_append (pv 4) (pa_cons (pv 6) pa_nil))))) pss_nil)))))
        (pss_one (ps_set (i := 3) scDis.nd rfl (Or.inl rfl) (pv 4))))))
      (pss_one (ps_ret (pv 2))))), ?_⟩
    have hU : ∀ o, landB rows o = true → o ∈ places := fun o ho => land_places R ho
    obtain ⟨b, rfl, hb⟩ := id hc
    refine fun d hd => ⟨_, rfl, upd_same, b, kc c, .int 0, rfl, same_new hd _ _ hb, _, rfl, (by show 1 ≤ sizeLine; decide), fun l hl => ⟨_, _, rfl, ?_⟩⟩
    have sd : Same H (upd (upd H d (.dT [])) d (.dT [(kc c, V.int 0)])) := fun u o e => by
      have := ne_of_none e hd
      rw [upd_ne this, upd_ne this]
      exact e
    have sl := same_new (o := .lst [V.ref b]) hl
    refine ⟨fun m σ H' => ∃ (k : Nat) (fs : List (Cell × Nat)) (lev : List Cell) (lv : Addr) (vs : List V) (v4 v5 v6 : Option V), m = 2 * (37 - fs.length) + min vs.length 1 ∧ σ = [some (V.ref p), some (V.ref b), some (V.ref d), some (V.ref lv), v4, v5, v6] ∧ Same H H' ∧ H' d = some (.dT (fkv fs)) ∧ H' lv = some (.lst vs) ∧ Cells H' vs lev ∧ Lv (landB rows) c k fs lev,
      ⟨_, 0, [(c, 0)], [c], l, [V.ref b], none, none, none, rfl, rfl, sd.trans sl, sl _ _ upd_same, upd_same, .cons ⟨b, rfl, sl _ _ (sd _ _ hb)⟩ .nil, Lv.start hland⟩, ?_⟩
    rintro m σ H1 ⟨k, fs, lev, lv, vs, v4, v5, v6, rfl, rfl, e1, hd1, hl1, hcs, hLv⟩
    refine ⟨_, rfl, Nat.zero_le _, fun pp hpp => ⟨_, pp, rfl, upd_same, dp_same (same_new hpp) (.lst (SqL.of hl1) hcs.dp), csD_shaped lev, _, rfl, ?_⟩⟩
    have sp := same_new (o := .lst []) hpp
    refine ite2 (fun z => ?_) (fun z => ?_)
    · have hne : lev ≠ [] := by
        intro e
        rw [e] at z
        simp at z
      refine ⟨fun σ' H' => ∃ m', m' < _ ∧ _, fun σ' H' h => h, Nat.zero_le _, fun la hla => ⟨_, rfl, lv, rfl, ⟨_, SqL.of (same_new hla _ _ (sp _ _ hl1))⟩, ?_⟩⟩
      have sa := same_new (o := .lst []) hla
      have nla : lv ≠ la := ne_of_none (sp _ _ hl1) hla
      have d0 : H d = none := hd
      have a0 : H la = none := (e1.trans sp).free hla
      refine for_list (K := K) (a := lv) (xs := vs) (fun i σ H' => ∃ (fs' : List (Cell × Nat)) (lat : List Cell) (ws : List V) (v5 v6 : Option V), σ = [some (V.ref p), some (V.ref b), some (V.ref d), some (V.ref lv), some (V.ref la), v5, v6] ∧ DSt H H' d lv la vs ws lev lat fs' ∧
          Md (landB rows) c k fs' lat (fun o => ∃ here ∈ lev.take i, o ∈ nbs (landB rows) here) ∧ fs'.length = fs.length + lat.length)
        ⟨fs, [], [], v5, v6, rfl, ⟨(e1.trans sp).trans sa, sa _ _ (sp _ _ hd1), sa _ _ (sp _ _ hl1), hcs.mono (Tups.of (sp.trans sa)), upd_same, .nil⟩, hLv.go.weak (fun o ⟨h, hm, _⟩ _ => by simp at hm), rfl⟩ (fun i σ H' _ ⟨_, _, _, _, _, _, S, _⟩ => SqL.of S.hl) ?_ ?_
      · rintro i x σ H4 hi ⟨fs', lat, ws, v5', v6', rfl, S, hM, hlen⟩
        obtain ⟨here, hh, hx⟩ := S.cs.get hi
        have dh : Di (landB rows) c here k := (hLv.lv here).mp (List.mem_of_getElem? hh)
        refine ⟨_, rfl, _, rfl, p, rows, wd, x, here, rfl, hI.same S.same, R, hx, fun H5 nl e5 nl0 ⟨ns, hnl, hns⟩ => ⟨nl, rfl, ⟨_, SqL.of hnl⟩, ?_⟩⟩
        have n1 : nl ≠ la := (ne_of_none S.ha nl0).symm
        have n2 : nl ≠ d := (ne_of_none S.hd nl0).symm
        refine for_list (K := K) (a := nl) (xs := ns) (fun j σ H' => ∃ (fs' : List (Cell × Nat)) (lat : List Cell) (ws : List V) (v6 : Option V), σ = [some (V.ref p), some (V.ref b), some (V.ref d), some (V.ref lv), some (V.ref la), some x, v6] ∧ DSt H H' d lv la vs ws lev lat fs' ∧
            H' nl = some (.lst ns) ∧ Cells H' ns (nbs (landB rows) here) ∧ Md (landB rows) c k fs' lat (fun o => (∃ here ∈ lev.take i, o ∈ nbs (landB rows) here) ∨ o ∈ (nbs (landB rows) here).take j) ∧ fs'.length = fs.length + lat.length)
          ⟨fs', lat, ws, v6', rfl, S.on e5, hnl, hns, hM.weak (fun o z _ => z.elim id (fun z => by simp at z)), hlen⟩ (fun j σ H' _ ⟨_, _, _, _, _, _, h, _⟩ => SqL.of h) ?_ ?_
        · rintro j y σ H6 hj ⟨fs2, lat2, ws2, v6'', rfl, S2, hnl2, hns2, hM2, hlen2⟩
          obtain ⟨o, ho, hy⟩ := hns2.get hj
          obtain ⟨yb, rfl, hyb⟩ := id hy
          obtain ⟨xb, rfl, hxb⟩ := id (hx.mono (fun a xs e => e5 a _ e))
          have hx6 : CellAt H6 (V.ref xb) here := by
            obtain ⟨v', hv', hc'⟩ := S2.cs.at hh
            rw [hi] at hv'
            cases hv'
            exact hc'
          have om := List.mem_of_getElem? ho
          refine ⟨_, rfl, _, rfl, d, _, rfl, DGet.t (k := kc o) S2.hd hyb, _, rfl, ?_⟩
          rw [fkv_val]
          refine ite2 (fun z => ?_) (fun z => ?_)
          · have new : o ∉ fs2.map (·.1) := fun hm => by
              rw [← look_isSome] at hm
              obtain ⟨n, hn⟩ := Option.isSome_iff_exists.mp hm
              rw [hn] at z
              cases z
            have hlk : valV (fkv fs2) (kc here) = some (V.int k) := by
              rw [fkv_val, look_some hM2.nd ((hM2.fd here k).mpr (.inl ⟨dh, Nat.le_refl _⟩))]
              rfl
            have hxk : H6 xb = some (.tup ((kc here).map kV)) := by
              obtain ⟨a', ea, ha'⟩ := hx6
              cases ea
              exact ha'
            have hl2 := hM2.len hU
            refine ⟨_, rfl, _, rfl, d, .int k, rfl, by rw [← hlk]; exact DGet.t S2.hd hxk, _, _, rfl, rfl, _, rfl, _, rfl, d, _, rfl, DPut.t (k := kc o) S2.hd hyb (by rw [fkv_len]; exact Nat.lt_of_le_of_lt hl2 (by decide)), ?_⟩
            have hla2 : upd H6 d (.dT (putK (fkv fs2) (kc o) (.int (k + 1)))) la = some (.lst ws2) := by
              rw [upd_ne S2.da.1.symm]
              exact S2.ha
            refine ⟨_, rfl, .inl ⟨rfl, _, SqL.of hla2⟩, _, rfl, la, ws2, _, rfl, rfl, hla2, ?_, ?_⟩
            · rw [S2.ws.length]
              exact Nat.lt_of_le_of_lt (show lat2.length ≤ 36 by omega) (by decide)
            · refine ⟨fs2 ++ [(o, k + 1)], lat2 ++ [o], ws2 ++ [V.ref yb], _, rfl, S2.add nla d0 a0 hy new, ?_, hns2.mono S2.tups, ?_, ?_⟩
              · rw [upd_ne n1, upd_ne n2]
                exact hnl2
              · refine (hM2.add dh om new).weak (fun u hu _ => ?_)
                rcases hu with hu | hu
                · exact .inl (.inl hu)
                · rw [take_more ho] at hu
                  rcases List.mem_append.mp hu with hu | hu
                  · exact .inl (.inr hu)
                  · exact .inr (by simpa using hu)
              · rw [List.length_append, List.length_append, hlen2]
                simp only [List.length_singleton]
                omega
          · have old : o ∈ fs2.map (·.1) := by
              by_cases e : o ∈ fs2.map (·.1)
              · exact e
              · exfalso
                apply z
                rw [look_none e]
                rfl
            refine ⟨fs2, lat2, ws2, _, rfl, S2, hnl2, hns2, (hM2.skip old).weak (fun u hu _ => ?_), hlen2⟩
            rcases hu with hu | hu
            · exact .inl (.inl hu)
            · rw [take_more ho] at hu
              rcases List.mem_append.mp hu with hu | hu
              · exact .inl (.inr hu)
              · exact .inr (by simpa using hu)
        · rintro σ H6 ⟨fs2, lat2, ws2, v6'', rfl, S2, hnl2, hns2, hM2, hlen2⟩
          refine ⟨fs2, lat2, ws2, _, _, rfl, S2, hM2.weak (fun u hu _ => ?_), hlen2⟩
          obtain ⟨h', hm, hn⟩ := hu
          rw [take_more hh] at hm
          rcases List.mem_append.mp hm with hm | hm
          · exact .inl ⟨h', hm, hn⟩
          · refine .inr ?_
            rw [List.mem_singleton.mp hm] at hn
            rw [hns2.length, List.take_length]
            exact hn
      · rintro σ H4 ⟨fs', lat, ws, v5', v6', rfl, S, hM, hlen⟩
        have hl2 := hM.len hU
        have hvl : vs.length = lev.length := S.cs.length
        rw [hvl, List.take_length] at hM
        have hpos : 0 < lev.length := List.length_pos_iff.mpr hne
        have hwl := S.ws.length
        refine ⟨_, rfl, 2 * (37 - fs'.length) + min ws.length 1, ?_, k + 1, fs', lat, la, ws, _, _, _, rfl, rfl, S.same, S.hd, S.ha, S.ws, hM.close hLv.lv⟩
        omega
    · have he : lev = [] := by
        cases lev with
        | nil => rfl
        | cons a r => exact absurd rfl z
      subst he
      exact ⟨_, rfl, q _ d fs (e1.trans sp) hd (sp _ _ hd1) hLv.nd hLv.stop⟩
end
end Wk
set_option linter.all false
namespace Wk
variable {L : Cell → Bool}
theorem look_dOf {fs : List (Cell × Nat)} {a b : Cell} (nd : (fs.map (·.1)).Nodup) (hf : ∀ o n, (o, n) ∈ fs ↔ Di L a o n) : look fs b = dOf L a b := by
  cases e : dOf L a b with
  | some n => exact look_some nd ((hf b n).mpr (dOf_some.mp e))
  | none =>
    cases e2 : look fs b with
    | none => rfl
    | some n => exact absurd ((hf b n).mp (look_mem e2)) (dOf_none.mp e n)
theorem di_short {fs : List (Cell × Nat)} {a b : Cell} {n : Nat} (hU : ∀ c, L c = true → c ∈ places) (nd : (fs.map (·.1)).Nodup) (hf : ∀ o n, (o, n) ∈ fs ↔ Di L a o n) (h : Di L a b n) : n < 36 := by
  have h1 := nodup_le (l := List.range (n + 1)) (m := fs.map (·.2)) List.nodup_range fun k hk => by
    have hk := List.mem_range.mp hk
    obtain ⟨c, hc⟩ := h.up k (by omega)
    exact List.mem_map.mpr ⟨_, (hf c k).mpr hc, rfl⟩
  have h2 := fs_len hU nd fun c n hm => (hf c n).mp hm
  rw [List.length_range, List.length_map] at h1
  omega
/-- one pace of the route -/
theorem route_step {x o y : Cell} {m : Nat} {w : List Cell} {r : List Cell} (d : Di L x o (m + 1)) (h : Bs L x o w) (e : (nbs L x).filter (fun c => decide (dOf L o c = some m)) = y :: r) : Di L y o m ∧ ∃ w', Bs L y o w' ∧ w = x :: w' := by
  obtain ⟨h1, h2, h3⟩ := first_least (nbs_sorted L x) e
  have h2 := of_decide_eq_true h2
  have dy : Di L y o m := (dOf_some.mp h2).symm
  obtain ⟨w', hw'⟩ := bs_exists dy
  refine ⟨dy, w', hw', h.uniq (Bs.front d h1 dy (fun z hz dz => h3 z hz (decide_eq_true (dOf_some.mpr dz.symm))) hw')⟩
theorem route_some {x o : Cell} {m : Nat} (d : Di L x o (m + 1)) : ∃ y r, (nbs L x).filter (fun c => decide (dOf L o c = some m)) = y :: r := by
  obtain ⟨b, hb, db⟩ := d.succ
  have hm : b ∈ (nbs L x).filter (fun c => decide (dOf L o c = some m)) := List.mem_filter.mpr ⟨hb, decide_eq_true (dOf_some.mpr db.symm)⟩
  cases e : (nbs L x).filter (fun c => decide (dOf L o c = some m)) with
  | nil => rw [e] at hm; simp at hm
  | cons y r => exact ⟨y, r, rfl⟩
/-- beside a cell that is reached, all is reached -/
theorem nb_far {x o c : Cell} {n : Nat} (d : Di L x o n) (hc : c ∈ nbs L x) : ∃ m, dOf L o c = some m := by
  obtain ⟨ha, hl⟩ := mem_nbs.mp hc
  obtain ⟨m, _, h⟩ := d.symm.next ha hl
  exact ⟨m, dOf_some.mpr h⟩
end Wk
set_option Elab.async false
set_option linter.all false
set_option maxRecDepth 100000
set_option maxHeartbeats 4000000
namespace Wk
open PySem PySem.Spec PyProof.Rows L2
def dV : Option Nat → V
  | some n => .int n
  | none => .non
structure ValT (K : PySem.W.Frag) (mg : Str → Option Value) (f : Addr) (fd : FuncData) (CU : Addr) : Prop extends DF K mg "validate_cell" sVal ["island", "cell"] f fd where
  U : UnkT K mg CU
abbrev sDst : Stmt := top 21
theorem scDst : FnScope ["island", "one", "other"] ["island", "one", "other"] (defScope sDst) := ⟨rfl, rfl, rfl, by decide +kernel, rfl, by decide +kernel, by decide +kernel⟩
def spDst (C CU : Addr) : Sp := fun vs H Q E => ∃ (p : Addr) (rows : List Str) (wd : Nat) (u v : V) (a b : Cell), vs = [.ref p, u, v] ∧ IslAt C H p rows ∧ Rect rows wd ∧ CellAt H u a ∧ CellAt H v b ∧
  (landB rows a = true → landB rows b = true → ∀ H', Same H H' → Q (dV (dOf (landB rows) a b)) H') ∧ (landB rows a = false → E (.ref CU) none H) ∧ (landB rows a = true → landB rows b = false → E (.ref CU) none H)
section
variable {P : Program} {w : World} {K : PySem.W.Frag} {mg : Str → Option Value} {base : Heap}
theorem ok_dst {C CU f fh fn fv fi : Addr} {fd fdh fdn fdv fdi : FuncData} (F : Fun K "distance" "distance" sDst f fd) (T : IslT K mg C) (N : NbT K mg fn fdn fh fdh C) (VT : ValT K mg fv fdv CU) (DT : DF K mg "distances" sDis ["island", "cell"] fi fdi) :
    FnOk P w K mg base (L2.CX P w) 4 f fd ["island", "one", "other"] (spDst C CU) := by
  have GV : FnOk P w K mg base (L2.CX P w) 2 fv fdv ["island", "cell"] (spVal C CU) := ok_val VT.F T VT.U N.has
  have GD : FnOk P w K mg base (L2.CX P w) 3 fi fdi ["island", "cell"] (spDis C) := ok_dis DT.F T N
  refine F.okX scDst (fun vs H Q E h => ?_) (fun cdv A outer s H vs Q E hr h => ?_)
  · obtain ⟨p, rows, wd, u, v, a, b, rfl, _⟩ := h
    rfl
  · obtain ⟨p, rows, wd, u, v, a, b, rfl, hI, R, ha, hb, q, q1, q2⟩ := h
    have hu := hu_of hr
    refine ⟨_, pss_cons (ps_expr (pe_call GV (hr.mono (by decide)) (by rfl) VT.m VT.F.kp VT.b .nil (passes_call (takes_of rfl rfl rfl rfl) (fun _ _ _ _ h => h)) (pa_cons (pv 0) (pa_cons (pv 1) pa_nil))))
      (pss_cons (ps_expr (pe_call GV (hr.mono (by decide)) (by rfl) VT.m VT.F.kp VT.b .nil (passes_call (takes_of rfl rfl rfl rfl) (fun _ _ _ _ h => h)) (pa_cons (pv 0) (pa_cons (pv 2) pa_nil))))
      (pss_one (ps_ret (pe_dget2 hu (pe_call GD hr (by rfl) DT.m DT.F.kp DT.b .nil passL (pa_cons (pv 0) (pa_cons (pv 1) pa_nil))) (pv 2) pe_non ⟨by rfl, by rfl, by rfl, by rfl⟩)))), ?_⟩
    refine ⟨_, rfl, _, rfl, p, rows, wd, u, a, rfl, hI, R, ha, fun la => ⟨_, rfl, _, rfl, p, rows, wd, v, b, rfl, hI, R, hb, fun lb => ?_, fun lb => q2 la lb⟩, q1⟩
    refine ⟨_, rfl, _, rfl, p, rows, wd, u, a, rfl, hI, R, ha, la, fun H' d fs e1 d0 hd nd hf => ⟨d, rfl, .inr ⟨_, .inl hd⟩, _, rfl, ?_⟩⟩
    obtain ⟨bb, rfl, hbb⟩ := hb.mono (Tups.of e1)
    refine ⟨_, DGet.t (k := kc b) hd hbb, ?_⟩
    rw [fkv_val, look_dOf nd hf]
    have := q la lb H' e1
    cases e : dOf (landB rows) a b with
    | some n => rw [e] at this; exact this
    | none => rw [e] at this; exact this
end
theorem atI_last {xs : List V} {n : Nat} {v : V} (hn : xs.length = n + 1) (h : xs[n]? = some v) : atI xs (-1) = some v := by
  have h1 : ¬ (0 : Int) ≤ -1 := by decide
  have h2 : -((n + 1 : Nat) : Int) ≤ -1 := by omega
  have h3 : (-1 + ((n + 1 : Nat) : Int)).toNat = n := by omega
  unfold atI
  rw [hn]
  unfold ixN
  rw [if_neg h1, if_pos h2, h3]
  exact h
theorem Cells.last {H : Hp} {vs : List V} {pre : List Cell} {x : Cell} (h : Cells H vs (pre ++ [x])) : ∃ y, atI vs (-1) = some y ∧ CellAt H y x := by
  have hl := h.length
  rw [List.length_append, List.length_singleton] at hl
  obtain ⟨y, hy, hc⟩ := h.at (i := pre.length) (c := x) (by simp)
  exact ⟨y, atI_last hl hy, hc⟩
/-! ### route -/
abbrev sRt : Stmt := top 22
abbrev nRt : List Str := ["island", "one", "other", "far", "found", "cell"]
theorem scRt : FnScope nRt ["island", "one", "other"] (defScope sRt) := ⟨rfl, rfl, rfl, by decide +kernel, rfl, by decide +kernel, by decide +kernel⟩
def spRt (C CU : Addr) : Sp := fun vs H Q E => ∃ (p : Addr) (rows : List Str) (wd : Nat) (u v : V) (a b : Cell), vs = [.ref p, u, v] ∧ IslAt C H p rows ∧ Rect rows wd ∧ CellAt H u a ∧ CellAt H v b ∧
  (landB rows a = true → landB rows b = true → ∀ H', Same H H' → (rOf (landB rows) a b = none → Q .non H') ∧ ∀ w q, rOf (landB rows) a b = some w → H q = none → ListAt H' q w → Q (.ref q) H') ∧ (landB rows a = false → E (.ref CU) none H) ∧ (landB rows a = true → landB rows b = false → E (.ref CU) none H)
section
variable {P : Program} {w : World} {K : PySem.W.Frag} {mg : Str → Option Value} {base : Heap}
theorem ok_rt {C CU f fh fn fv fi : Addr} {fd fdh fdn fdv fdi : FuncData} (F : Fun K "route" "route" sRt f fd) (T : IslT K mg C) (N : NbT K mg fn fdn fh fdh C) (VT : ValT K mg fv fdv CU) (DT : DF K mg "distances" sDis ["island", "cell"] fi fdi) :
    FnOk P w K mg base (L2.CX P w) 4 f fd ["island", "one", "other"] (spRt C CU) := by
  have GV : FnOk P w K mg base (L2.CX P w) 2 fv fdv ["island", "cell"] (spVal C CU) := ok_val VT.F T VT.U N.has
  have GD : FnOk P w K mg base (L2.CX P w) 3 fi fdi ["island", "cell"] (spDis C) := ok_dis DT.F T N
  have GN : FnOk P w K mg base (L2.CX P w) 2 fn fdn ["island", "cell"] (spNb C) := ok_nb N.F T N.mv N.has
  refine F.okX scRt (fun vs H Q E h => ?_) (fun cdv A outer s H vs Q E hr h => ?_)
  · obtain ⟨p, rows, wd, u, v, a, b, rfl, _⟩ := h
    rfl
  · obtain ⟨p, rows, wd, u, v, a, b, rfl, hI, R, ha, hb, q, q1, q2⟩ := h
    have hu := hu_of hr
    have hu64 : (A.deeper (envOfC "route" (defScope sRt) s.heap.objs.size f cdv)).units + 64 < cLine := by have := hr.un; omega
    refine ⟨_, pss_cons (ps_expr (pe_call GV (hr.mono (by decide)) (by rfl) VT.m VT.F.kp VT.b .nil (passes_call (takes_of rfl rfl rfl rfl) (fun _ _ _ _ h => h)) (pa_cons (pv 0) (pa_cons (pv 1) pa_nil))))
      (pss_cons (ps_expr (pe_call GV (hr.mono (by decide)) (by rfl) VT.m VT.F.kp VT.b .nil (passes_call (takes_of rfl rfl rfl rfl) (fun _ _ _ _ h => h)) (pa_cons (pv 0) (pa_cons (pv 2) pa_nil))))
      (PSs.nox (pss_cons (ps_set (i := 3) scRt.nd rfl (Or.inr rfl) (pe_call GD hr (by rfl) DT.m DT.F.kp DT.b .nil passL (pa_cons (pv 0) (pa_cons (pv 2) pa_nil))))
      (pss_cons (ps_if (pt_cmp (pc_dnotin hu (pv 1) (pv 3))) (pss_one (ps_ret pe_non)) pss_nil)
      (pss_cons (ps_set (i := 4) scRt.nd rfl (Or.inr rfl) (pe_lst (pa_cons (pv 1) pa_nil)))
      (pss_cons (ps_while PassesOwn.never (pt_cmpR (op_neD hu64) (pe_ix ix_list (pv 4) (pe_un un_neg pe_int) (fun _ _ => rfl)) (pv 2) (nomark _))
        (pss_one (ps_expr (pe_bm PySem.F.plainAttrs_list PySem.F.slot_list_append PySem.F.type_list_append mt_append (pv 4) (pa_cons
          (pe_ix ix_list (pe_lc (own := [("cell", 5)]) (g := gName 5) (tt := tTest (tOp rEq (tDGet (tVar 3) (tVar 5)) (tOp (rI0 fun i j => .int (i - j)) (tDGet (tVar 3) (tOp (rIxL K) (tVar 4) (tUn (rU fun i => .int (-i)) (tC (.int 1))))) (tC (.int 1))))) rfl scRt.nd
            (pi_list (pe_call GN (hr.mono (by decide)) (by rfl) N.m N.F.kp N.b .nil passL (pa_cons (pv 0) (pa_cons (pe_ix ix_list (pv 4) (pe_un un_neg pe_int) (fun _ _ => rfl)) pa_nil))))
            (blkOk_by (N := nRt) (sc := defScope sRt) (by decide +kernel))
            (fun _ _ _ _ _ => pg_name (i := 5) scRt.nd rfl (Or.inl rfl))
            (fun _ _ _ _ _ => pts_one (pt_cmpR op_eq (pe_dget hu (pv 3) (pv 5) (fun _ _ => rfl)) (pe_op op_sub (pe_dget hu (pv 3) (pe_ix (ix_listK K rfl) (pv 4) (pe_un un_neg pe_int) (fun _ _ => rfl)) (fun _ _ => rfl)) pe_int) (nomark _)))
            (fun _ _ _ _ _ => pv 5)) pe_int (fun _ _ => rfl)) pa_nil)))))
      (pss_one (ps_ret (pv 4))))))))), ?_⟩
    have hU : ∀ o, landB rows o = true → o ∈ places := fun o ho => land_places R ho
    refine ⟨_, rfl, _, rfl, p, rows, wd, u, a, rfl, hI, R, ha, fun la => ⟨_, rfl, _, rfl, p, rows, wd, v, b, rfl, hI, R, hb, fun lb => ?_, fun lb => q2 la lb⟩, q1⟩
    refine ⟨_, rfl, _, rfl, p, rows, wd, v, b, rfl, hI, R, hb, lb, fun H1 d fs e1 d0 hd nd hf => ?_⟩
    obtain ⟨aa, rfl, haa⟩ := ha.mono (Tups.of e1)
    have haC : CellAt H1 (V.ref aa) a := ⟨aa, rfl, haa⟩
    refine ⟨_, rfl, _, rfl, d, _, rfl, DGet.t (k := kc a) hd haa, _, rfl, ?_⟩
    rw [fkv_val, look_dOf nd hf]
    refine ite2 (fun z => ?_) (fun z => ?_)
    · have hn : dOf (landB rows) b a = none := by
        cases e : dOf (landB rows) b a with
        | none => rfl
        | some n =>
          rw [e] at z
          cases z
      exact (q la lb H1 e1).1 (rOf_none.mpr (by rw [dOf_symm]; exact hn))
    · obtain ⟨n0, hn0⟩ : ∃ n0, dOf (landB rows) b a = some n0 := by
        cases e : dOf (landB rows) b a with
        | none =>
          rw [e] at z
          exact absurd rfl z
        | some n => exact ⟨n, rfl⟩
      have dn0 := dOf_some.mp hn0
      have h36 := di_short hU nd hf dn0
      obtain ⟨Wr, hWr⟩ := bs_exists dn0.symm
      refine ⟨_, rfl, (by show 1 ≤ sizeLine; decide), fun g hg => ?_⟩
      have sg := same_new (o := .lst [V.ref aa]) hg
      refine ⟨fun m σ H' => ∃ (pre : List Cell) (x : Cell) (w' : List Cell) (vs : List V), σ = [some (V.ref p), some (V.ref aa), some v, some (V.ref d), some (V.ref g), none] ∧ Same H1 H' ∧ H' g = some (.lst vs) ∧ Cells H' vs (pre ++ [x]) ∧ Di (landB rows) x b m ∧ Bs (landB rows) x b w' ∧ pre ++ w' = Wr ∧ pre.length + m = n0,
        ⟨n0, [], a, Wr, [V.ref aa], rfl, sg, upd_same, .cons (haC.mono (Tups.of sg)) .nil, dn0.symm, hWr, rfl, by simp⟩, ?_⟩
      rintro m σ H2 ⟨pre, x, w', vs, rfl, e2, hgl, hcs, dx, hbs, hw, hlen⟩
      obtain ⟨y, hy, hyx⟩ := hcs.last
      have hb2 := hb.mono ((Tups.of e1).trans (Tups.of e2))
      refine ⟨_, rfl, _, rfl, g, vs, _, y, rfl, rfl, SqL.of hgl, hy, _, rfl, cD x, cD b, hyx.dp, hb2.dp, cD_shaped _, cD_shaped _, _, rfl, ?_⟩
      rw [cD_eqv]
      refine ite2 (fun z => ?_) (fun z => ?_)
      · have hxb : x ≠ b := by simpa using z
        cases m with
        | zero => exact absurd dx.eq_of_zero hxb
        | succ m =>
          obtain ⟨y1, r1, hf1⟩ := route_some dx
          obtain ⟨dy1, w2, hb3, ew⟩ := route_step dx hbs hf1
          have hvl : vs.length = pre.length + 1 := by
            rw [hcs.length, List.length_append, List.length_singleton]
          refine ⟨fun σ' H' => ∃ m', m' < m + 1 ∧ _, fun σ' H' h => h, _, rfl, .inl ⟨rfl, _, SqL.of hgl⟩, _, rfl, _, rfl, _, rfl, g, vs, _, y, rfl, rfl, SqL.of hgl, hy, p, rows, wd, y, x, rfl, (hI.same e1).same e2, R, hyx, fun H3 nl e3 nl0 ⟨ns, hnl, hns⟩ => ⟨nl, rfl, ⟨_, SqL.of hnl⟩, fun D hD => ?_⟩⟩
          refine lc_list (K := K) (a := nl) (xs := ns) (fun j H' => ∃ ws, H' D = some (.lst ws) ∧ Cells H' ws (((nbs (landB rows) x).take j).filter (fun c => decide (dOf (landB rows) b c = some m))) ∧ Same H3 H') ⟨[], upd_same, .nil, same_new hD⟩ (fun _ _ _ ⟨_, _, _, e⟩ => SqL.of (e _ _ hnl)) ?_ ?_
          · rintro j y2 H4 hj ⟨ws, hw4, hws, e4⟩
            obtain ⟨c2, hc2, hy2⟩ := hns.get hj
            obtain ⟨m2, hm2⟩ := nb_far dx (List.mem_of_getElem? hc2)
            have e24 : Same H2 H4 := e3.trans e4
            have hd4 := e24 _ _ (e2 _ _ hd)
            obtain ⟨b2, rfl, hb2'⟩ := hy2.mono (Tups.of e4)
            have hy2C : CellAt H4 (V.ref b2) c2 := ⟨b2, rfl, hb2'⟩
            obtain ⟨by_, eby, hby⟩ := hyx.mono (Tups.of e24)
            have v1 : valV (fkv fs) (kc c2) = some (V.int m2) := by
              rw [fkv_val, look_dOf nd hf, hm2]
              rfl
            have v2 : valV (fkv fs) (kc x) = some (V.int (m + 1 : Nat)) := by
              rw [fkv_val, look_dOf nd hf, dOf_some.mpr dx.symm]
              rfl
            refine ⟨rfl, _, rfl, _, rfl, d, .int m2, rfl, by rw [← v1]; exact DGet.t hd4 hb2', _, rfl, _, rfl, _, rfl, g, vs, _, y, rfl, rfl, SqL.of (e24 _ _ hgl), hy, d, .int (m + 1 : Nat), rfl, by rw [← v2, eby]; exact DGet.t hd4 hby, _, _, rfl, rfl, rfl, _, rfl, ?_⟩
            have hlw : ws.length < sizeLine := by
              rw [hws.length]
              refine Nat.lt_of_le_of_lt (Nat.le_trans (List.length_filter_le _ _) ?_) (show 10 < sizeLine by decide)
              rw [List.length_take]
              have : (nbs (landB rows) x).length ≤ 4 := by
                unfold nbs
                exact Nat.le_trans (List.length_filter_le _ _) (by unfold nbA; simp)
              omega
            refine ite2 (fun z => ?_) (fun z => ?_)
            · have hm : m2 = m := by
                have := dec_int z
                omega
              subst hm
              refine ⟨_, rfl, ws, hw4, hlw, ws ++ [V.ref b2], upd_same, ?_, fun o u e => ?_⟩
              · rw [take_more hc2, List.filter_append, List.filter_cons_of_pos (by exact decide_eq_true hm2)]
                exact Cells.mono (Tups.upd (.inr ⟨_, .inl hw4⟩)) (hws.snoc hy2C)
              · rw [upd_ne (ne_of_none e hD)]
                exact e4 _ _ e
            · refine ⟨ws, hw4, ?_, e4⟩
              rw [take_more hc2, List.filter_append, List.filter_cons_of_neg]
              · simpa using hws
              · intro z2
                have z2 := of_decide_eq_true z2
                rw [hm2] at z2
                have z2 := Option.some.inj z2
                subst z2
                refine z (decide_eq_true ?_)
                congr 1
                omega
          · rintro H4 ⟨ws, hw4, hws, e4⟩
            rw [hns.length, List.take_length, hf1] at hws
            obtain ⟨yv, hyv, hyc⟩ := hws.at (i := 0) (c := y1) rfl
            have e24 : Same H2 H4 := e3.trans e4
            have hg4 := e24 _ _ hgl
            refine ⟨D, ws, 0, yv, rfl, rfl, SqL.of hw4, atIn (by decide) hyv, g, vs, yv, rfl, rfl, hg4, ?_, m, Nat.lt_succ_self m, pre ++ [x], y1, w2, vs ++ [yv], rfl, fun o u' e => ?_, upd_same, ?_, dy1, hb3, ?_, ?_⟩
            · rw [hvl]
              exact Nat.lt_of_le_of_lt (show pre.length + 1 ≤ 40 by omega) (by decide)
            · rw [upd_ne (ne_of_none e hg)]
              exact e24 _ _ (e2 _ _ e)
            · exact Cells.mono (Tups.upd (.inr ⟨_, .inl hg4⟩)) ((hcs.mono (Tups.of e24)).snoc hyc)
            · rw [← hw, ew, List.append_assoc]
              rfl
            · rw [List.length_append, List.length_singleton]
              omega
      · have hxb : x = b := by simpa using z
        subst hxb
        have e5 := hbs.uniq (Bs.self lb)
        subst e5
        have hR : rOf (landB rows) a x = some Wr := rOf_some.mpr hWr
        refine ⟨_, rfl, (q la lb H2 (e1.trans e2)).2 Wr g hR (e1.free hg) ⟨vs, hgl, ?_⟩⟩
        rw [← hw]
        exact hcs
end
end Wk
set_option linter.all false
namespace Wk
variable {L : Cell → Bool} {s : Cell}
/-! ### the law's own going out, with the routes -/
def keys (fs : List (Cell × Nat)) : List Cell := fs.map (·.1)
def putA (fs : List (Cell × Nat)) (c : Cell) (a : Nat) : List (Cell × Nat) := if c ∈ keys fs then fs.map (fun e => if e.1 = c then (e.1, a) else e) else fs ++ [(c, a)]
theorem keys_putA {fs : List (Cell × Nat)} {c : Cell} {a : Nat} : keys (putA fs c a) = if c ∈ keys fs then keys fs else keys fs ++ [c] := by
  unfold putA
  split
  · unfold keys
    rw [List.map_map]
    refine List.map_congr_left fun e _ => ?_
    show (if e.1 = c then (e.1, a) else e).1 = e.1
    split <;> rfl
  · unfold keys
    rw [List.map_append]
    rfl
theorem mem_putA {fs : List (Cell × Nat)} {c d : Cell} {a n : Nat} (h : (d, n) ∈ putA fs c a) : (d = c ∧ n = a) ∨ (d ≠ c ∧ (d, n) ∈ fs) := by
  unfold putA at h
  split at h
  · obtain ⟨e, he, ee⟩ := List.mem_map.mp h
    split at ee
    · rename_i hc
      have h1 := (Prod.mk.inj ee).1
      have h2 := (Prod.mk.inj ee).2
      exact .inl ⟨h1.symm.trans hc, h2.symm⟩
    · rename_i hc
      subst ee
      exact .inr ⟨hc, he⟩
  · rename_i hc
    rcases List.mem_append.mp h with h | h
    · refine .inr ⟨fun e => hc ?_, h⟩
      rw [← e]
      exact List.mem_map.mpr ⟨_, h, rfl⟩
    · have h := List.mem_singleton.mp h
      exact .inl ⟨(Prod.mk.inj h).1, (Prod.mk.inj h).2⟩
theorem nodup_putA {fs : List (Cell × Nat)} {c : Cell} {a : Nat} (h : (keys fs).Nodup) : (keys (putA fs c a)).Nodup := by
  rw [keys_putA]
  split
  · exact h
  · rename_i hc
    rw [List.nodup_append]
    refine ⟨h, by simp, fun x hx y hy => ?_⟩
    rw [List.mem_singleton.mp hy]
    exact fun e => hc (by rw [← e]; exact hx)
/-- w goes to c over a cell at k, and is least of those that are gone through -/
def Best (L : Cell → Bool) (s : Cell) (k : Nat) (done : Cell → Cell → Prop) (c : Cell) (w : List Cell) : Prop :=
  (∃ q u, Di L s q k ∧ Adj q c ∧ Bs L s q u ∧ w = u ++ [c]) ∧ ∀ q u, done q c → Di L s q k → Adj q c → Bs L s q u → lle w (u ++ [c])
structure RM (L : Cell → Bool) (s : Cell) (k : Nat) (P : Nat → List Cell → Prop) (lr : List (Cell × Nat)) (done : Cell → Cell → Prop) : Prop where
  nd : (keys lr).Nodup
  ks : ∀ c a, (c, a) ∈ lr → Di L s c (k + 1) ∧ ∃ w, P a w ∧ Best L s k done c w
  dn : ∀ q o, done q o → Adj q o → Di L s q k → Di L s o (k + 1) → o ∈ keys lr
structure RLv (L : Cell → Bool) (s : Cell) (k : Nat) (P : Nat → List Cell → Prop) (fr : List (Cell × Nat)) (lev : List Cell) : Prop where
  nd : (keys fr).Nodup
  fd : ∀ c, c ∈ keys fr ↔ ∃ n, n ≤ k ∧ Di L s c n
  ws : ∀ c a, (c, a) ∈ fr → ∃ w, P a w ∧ Bs L s c w
  lv : ∀ c, c ∈ lev ↔ Di L s c k
theorem RM.mono {k : Nat} {P P' : Nat → List Cell → Prop} {lr : List (Cell × Nat)} {done done' : Cell → Cell → Prop} (h : RM L s k P lr done) (hp : ∀ a w, P a w → P' a w) (hd : ∀ q o, done' q o → Adj q o → Di L s q k → done q o) : RM L s k P' lr done' :=
  ⟨h.nd, fun c a m => by
    obtain ⟨h1, w, h2, h3, h4⟩ := h.ks c a m
    exact ⟨h1, w, hp _ _ h2, h3, fun q u d dq aq b => h4 q u (hd q c d aq dq) dq aq b⟩, fun q o d aq dq do_ => h.dn q o (hd q o d aq dq) aq dq do_⟩
theorem RLv.mono {k : Nat} {P P' : Nat → List Cell → Prop} {fr : List (Cell × Nat)} {lev : List Cell} (h : RLv L s k P fr lev) (hp : ∀ a w, P a w → P' a w) : RLv L s k P' fr lev :=
  ⟨h.nd, h.fd, fun c a m => by
    obtain ⟨w, h1, h2⟩ := h.ws c a m
    exact ⟨w, hp _ _ h1, h2⟩, h.lv⟩
theorem RM.none {k : Nat} {P : Nat → List Cell → Prop} : RM L s k P [] fun _ _ => False := ⟨by simp [keys], fun c a m => by simp at m, fun _ _ z => z.elim⟩
theorem RLv.start {P : Nat → List Cell → Prop} {a : Nat} (l : L s = true) (h : P a [s]) : RLv L s 0 P [(s, a)] [s] := by
  refine ⟨by simp [keys], fun c => ?_, fun c a' m => ?_, fun c => ?_⟩
  · show c ∈ [s] ↔ _
    rw [List.mem_singleton]
    constructor
    · rintro rfl
      exact ⟨0, Nat.le_refl _, Di.zero l⟩
    · rintro ⟨n, hn, d⟩
      have : n = 0 := by omega
      subst this
      exact d.eq_of_zero.symm
  · have m := List.mem_singleton.mp m
    rw [(Prod.mk.inj m).1, (Prod.mk.inj m).2]
    exact ⟨[s], h, Bs.self l⟩
  · rw [List.mem_singleton]
    constructor
    · rintro rfl
      exact Di.zero l
    · exact fun h => h.eq_of_zero.symm
/-- a cell beside one of the level that is not found yet -/
theorem RLv.fresh {k : Nat} {P : Nat → List Cell → Prop} {fr : List (Cell × Nat)} {lev : List Cell} (h : RLv L s k P fr lev) {here o : Cell} (dh : Di L s here k) (ha : Adj here o) (l : L o = true) (new : o ∉ keys fr) : Di L s o (k + 1) := by
  obtain ⟨m, hm, d⟩ := dh.next ha l
  by_cases e : m ≤ k
  · exact absurd ((h.fd o).mpr ⟨m, e, d⟩) new
  · have : m = k + 1 := by omega
    rw [← this]
    exact d
theorem RLv.known {k : Nat} {P : Nat → List Cell → Prop} {fr : List (Cell × Nat)} {lev : List Cell} (h : RLv L s k P fr lev) {o : Cell} (hk : o ∈ keys fr) : ¬ Di L s o (k + 1) := fun d => by
  obtain ⟨n, hn, d2⟩ := (h.fd o).mp hk
  have := d.uniq d2
  omega
/-- nothing to be done for (here, o) -/
theorem RM.skip {k : Nat} {P : Nat → List Cell → Prop} {lr : List (Cell × Nat)} {done : Cell → Cell → Prop} {here o : Cell} (h : RM L s k P lr done) (no : ¬ Di L s o (k + 1)) : RM L s k P lr fun q c => done q c ∨ (q = here ∧ c = o) := by
  refine ⟨h.nd, fun c a m => ?_, fun q c d aq dq dc => ?_⟩
  · obtain ⟨h1, w, h2, h3, h4⟩ := h.ks c a m
    refine ⟨h1, w, h2, h3, fun q u d dq aq b => ?_⟩
    rcases d with d | ⟨_, d⟩
    · exact h4 q u d dq aq b
    · exact absurd (by rw [← d]; exact h1) no
  · rcases d with d | ⟨_, d⟩
    · exact h.dn q c d aq dq dc
    · exact absurd (by rw [← d]; exact dc) no
theorem RM.put {k : Nat} {P : Nat → List Cell → Prop} {lr : List (Cell × Nat)} {done : Cell → Cell → Prop} {here o : Cell} {u w : List Cell} {a : Nat} (h : RM L s k P lr done) (dh : Di L s here k) (ha : Adj here o) (d : Di L s o (k + 1)) (hu : Bs L s here u) (hP : P a w)
    (hw : ∃ q v, Di L s q k ∧ Adj q o ∧ Bs L s q v ∧ w = v ++ [o]) (l1 : lle w (u ++ [o])) (l3 : o ∈ keys lr → ∃ w', Best L s k done o w' ∧ lle w w') :
    RM L s k P (putA lr o a) fun q c => done q c ∨ (q = here ∧ c = o) := by
  refine ⟨nodup_putA h.nd, fun c b m => ?_, fun q c dd aq dq dc => ?_⟩
  · rcases mem_putA m with ⟨rfl, rfl⟩ | ⟨hc, m⟩
    · refine ⟨d, w, hP, hw, fun q v dd dq aq b => ?_⟩
      rcases dd with dd | ⟨e, _⟩
      · obtain ⟨w', hb, hl⟩ := l3 (h.dn q c dd aq dq d)
        exact lle_trans hl (hb.2 q v dd dq aq b)
      · subst e
        rw [b.uniq hu]
        exact l1
    · obtain ⟨h1, w', h2, h3, h4⟩ := h.ks c b m
      refine ⟨h1, w', h2, h3, fun q v dd dq aq b => ?_⟩
      rcases dd with dd | ⟨_, e⟩
      · exact h4 q v dd dq aq b
      · exact absurd e hc
  · rw [keys_putA]
    rcases dd with dd | ⟨_, e⟩
    · have := h.dn q c dd aq dq dc
      split
      · exact this
      · exact List.mem_append.mpr (.inl this)
    · rw [e]
      split
      · assumption
      · simp
theorem RM.close {k : Nat} {P : Nat → List Cell → Prop} {fr lr : List (Cell × Nat)} {lev : List Cell} (hL : RLv L s k P fr lev) (h : RM L s k P lr fun q o => q ∈ lev ∧ Adj q o) : RLv L s (k + 1) P (fr ++ lr) (keys lr) := by
  have hk : ∀ c, c ∈ keys lr ↔ Di L s c (k + 1) := fun c => by
    constructor
    · intro hc
      obtain ⟨⟨c', a⟩, hm, e⟩ := List.mem_map.mp hc
      have e : c' = c := e
      subst e
      exact (h.ks _ _ hm).1
    · intro d
      obtain ⟨b, hb, ha, l⟩ := d.pred
      exact h.dn b c ⟨(hL.lv b).mpr hb, ha⟩ ha hb d
  have ek : keys (fr ++ lr) = keys fr ++ keys lr := by
    unfold keys
    rw [List.map_append]
  refine ⟨?_, fun c => ?_, fun c a m => ?_, hk⟩
  · rw [ek, List.nodup_append]
    refine ⟨hL.nd, h.nd, fun x hx y hy e => ?_⟩
    subst e
    exact hL.known hx ((hk x).mp hy)
  · rw [ek, List.mem_append, hL.fd, hk]
    constructor
    · rintro (⟨n, hn, d⟩ | d)
      · exact ⟨n, by omega, d⟩
      · exact ⟨k + 1, Nat.le_refl _, d⟩
    · rintro ⟨n, hn, d⟩
      by_cases e : n ≤ k
      · exact .inl ⟨n, e, d⟩
      · have : n = k + 1 := by omega
        rw [this] at d
        exact .inr d
  · rcases List.mem_append.mp m with m | m
    · exact hL.ws c a m
    · obtain ⟨d, w, h1, ⟨q, u, h2, h3, h4, rfl⟩, h6⟩ := h.ks c a m
      exact ⟨_, h1, Bs.back d h2 h3 h4 fun q' u' dq' aq' b' => h6 q' u' ⟨(hL.lv q').mpr dq', aq'⟩ dq' aq' b'⟩
theorem RLv.stop {k : Nat} {P : Nat → List Cell → Prop} {fr : List (Cell × Nat)} (h : RLv L s k P fr []) : ∀ c, c ∈ keys fr ↔ ∃ n, Di L s c n := fun c => by
  rw [h.fd]
  constructor
  · rintro ⟨n, _, d⟩
    exact ⟨n, d⟩
  · rintro ⟨n, d⟩
    by_cases e : n ≤ k
    · exact ⟨n, e, d⟩
    · obtain ⟨b, hb⟩ := d.up k (by omega)
      exact absurd ((h.lv b).mpr hb) (by simp)
theorem keys_len {fr : List (Cell × Nat)} (hU : ∀ c, L c = true → c ∈ places) (nd : (keys fr).Nodup) (hd : ∀ c, c ∈ keys fr → ∃ n, Di L s c n) : fr.length ≤ 36 := by
  have h := nodup_le (m := places) nd fun c hc => by
    obtain ⟨n, d⟩ := hd c hc
    exact hU _ d.lb
  unfold keys at h
  rw [List.length_map, places_len] at h
  exact h
theorem RM.len {k : Nat} {P : Nat → List Cell → Prop} {lr : List (Cell × Nat)} {done : Cell → Cell → Prop} (hU : ∀ c, L c = true → c ∈ places) (h : RM L s k P lr done) : lr.length ≤ 36 :=
  keys_len hU h.nd fun c hc => by
    obtain ⟨⟨c', a⟩, hm, e⟩ := List.mem_map.mp hc
    have e : c' = c := e
    subst e
    exact ⟨_, (h.ks _ _ hm).1⟩
theorem RLv.len {k : Nat} {P : Nat → List Cell → Prop} {fr : List (Cell × Nat)} {lev : List Cell} (hU : ∀ c, L c = true → c ∈ places) (h : RLv L s k P fr lev) : fr.length ≤ 36 :=
  keys_len hU h.nd fun c hc => by
    obtain ⟨n, _, d⟩ := (h.fd c).mp hc
    exact ⟨n, d⟩
theorem RLv.klt {k : Nat} {P : Nat → List Cell → Prop} {fr : List (Cell × Nat)} {lev : List Cell} (hU : ∀ c, L c = true → c ∈ places) (h : RLv L s k P fr lev) {c : Cell} (d : Di L s c k) : k < 36 := by
  have h1 := nodup_le (l := List.range (k + 1)) (m := (keys fr).map fun c => (dOf L s c).getD 0) List.nodup_range fun i hi => by
    have hi := List.mem_range.mp hi
    obtain ⟨b, hb⟩ := d.up i (by omega)
    refine List.mem_map.mpr ⟨b, (h.fd b).mpr ⟨i, by omega, hb⟩, ?_⟩
    rw [dOf_some.mpr hb]
    rfl
  have h2 := h.len hU
  unfold keys at h1
  rw [List.length_range, List.length_map, List.length_map] at h1
  omega
end Wk
set_option Elab.async false
set_option linter.all false
set_option maxRecDepth 100000
set_option maxHeartbeats 4000000
namespace Wk
open PySem PySem.Spec PyProof.Rows L2
theorem alike_cells : ∀ v w : List Cell, PySem.W.alike (csD v) (csD w) = true
  | [], w => by simp [csD, PySem.W.alike, PySem.W.alikeAll]
  | c :: v, [] => by simp [csD, PySem.W.alike, PySem.W.alikeAll]
  | c :: v, d :: w => by
    have ih := alike_cells v w
    simp only [csD, PySem.W.alike, List.map_cons, PySem.W.alikeAll] at ih ⊢
    rw [ih]
    simp [cD, PySem.W.alike, PySem.W.alikeAll]
theorem rowLt_cells : ∀ v w : List Cell, PySem.W.rowLt (v.map cD) (w.map cD) = llt v w
  | [], [] => PyProof.Rows.lex_irrefl _
  | [], d :: w => by
    have e : PySem.W.rowLt [] (cD d :: w.map cD) = true := by
      unfold PySem.W.rowLt
      simp only [PySem.W.keyToksAll]
      rw [PyProof.Rows.lex_diff (O := PyProof.Rows.itemOrd) (by simp)]
      rfl
    exact e
  | c :: v, [] => by
    have e : PySem.W.rowLt (cD c :: v.map cD) [] = false := by
      unfold PySem.W.rowLt
      simp only [PySem.W.keyToksAll]
      rw [PyProof.Rows.lex_diff (O := PyProof.Rows.itemOrd) (by simp)]
      rfl
    exact e
  | c :: v, d :: w => by
    have ih := rowLt_cells v w
    have e : PySem.W.rowLt (cD c :: v.map cD) (cD d :: w.map cD) = if PyData.eqv (cD c) (cD d) = true then PySem.W.rowLt (v.map cD) (w.map cD) else PySem.W.dataLt (cD c) (cD d) := PySem.W.dataLt_cons (by simp [cD, PySem.W.alike, PySem.W.alikeAll]) _ _
    rw [List.map_cons, List.map_cons, e, cD_eqv, ih]
    have e2 : PySem.W.dataLt (cD c) (cD d) = decide (clt c d) := by
      show PySem.W.dataLt (.tuple [.int c.1, .int c.2]) (.tuple [.int d.1, .int d.2]) = _
      rw [PySem.W.dataLt_ii]
      rfl
    rw [e2]
    show _ = (if c = d then llt v w else decide (clt c d))
    by_cases h : c = d
    · simp [h]
    · simp [h]
theorem dataLt_cells (v w : List Cell) : PySem.W.dataLt (csD v) (csD w) = llt v w := by
  unfold csD
  rw [PySem.W.dataLt_list]
  exact rowLt_cells v w
/-! ### min(a, b) of two lists of cells -/
def rMinC (K : PySem.W.Frag) : List V → Hp → VK → Prop := fun xs H Q => ∃ x y v w, xs = [x, y] ∧ Dp K H x (csD v) ∧ Dp K H y (csD w) ∧ Q (if llt w v = true then y else x) H
theorem cr_minC {X : Cx} (hc : X.calm = true) (hu : X.A.units + 64 < cLine) : CallR X (.builtin "min") (rMinC X.K) := by
  intro pins s σ H xs us Q I r h
  obtain ⟨x, y, v, w, rfl, dx, dy, q⟩ := h
  obtain ⟨ux, uy, rfl, rx, ry⟩ := vals2 r
  obtain ⟨as, r1⟩ := Dp.reads I _ _ _ dx rx
  obtain ⟨bs, r2⟩ := Dp.reads I _ _ _ dy ry
  have d1 := csD_depth v
  have d2 := csD_depth w
  refine min_two_data (d := csD v) (e := csD w) (I.ok.hd hc) r1 r2 ⟨fun a ha b hb => ?_, fun a ha => ?_⟩ ?_ fun h' tk k => ?_
  · simp only [List.mem_cons, List.not_mem_nil, or_false] at ha hb
    rcases ha with rfl | rfl <;> rcases hb with rfl | rfl <;> exact alike_cells _ _
  · simp only [List.mem_cons, List.not_mem_nil, or_false] at ha
    rcases ha with rfl | rfl <;> exact fun z => nomatch z
  · simp only [PyData.depthAll]
    omega
  · rw [dataLt_cells]
    have I2 : Inv X pins σ H { s with heap := h', toks := tk } := I.kept k
    by_cases c : llt w v = true
    · rw [if_pos c] at q ⊢
      exact ⟨y, H, I2, ry, q⟩
    · rw [if_neg c] at q ⊢
      exact ⟨x, H, I2, rx, q⟩
end Wk
set_option Elab.async false
set_option linter.all false
set_option maxRecDepth 100000
set_option maxHeartbeats 4000000
namespace Wk
open PySem PySem.Spec PyProof.Rows L2
/-- a def whose code object is told -/
theorem okCode {P : Program} {w : World} {K : PySem.W.Frag} {mg : Str → Option Value} {base : Heap} {x qual : Str} {st : Stmt} {f : Addr} {fd : FuncData} {N ps : List Str} {k : Nat} {sp : Sp} (F : Fun K x qual st f fd) (S : FnScope N ps (defScope st)) (len : ∀ vs H Q E, sp vs H Q E → vs.length = ps.length)
    (hbody : ∀ (A : Around) (outer : List Env) (s : Shared) (H : Hp) (vs : List V) (Q : VK) (E : XK), Room k (A.deeper (envOfC qual (defScope st) s.heap.objs.size f fd.code)) → sp vs H Q E →
      ∃ t, PSs (cxOf (L2.CX P w) P w K mg base N qual (defScope st) f fd.code A outer s H E) (defBody st) t ∧ t { nx := fun _ H' => Q .non H', rt := Q } (start N vs) H) : FnOk P w K mg base (L2.CX P w) (k + 1) f fd ps sp := by
  obtain ⟨oc, od, kV, doc, pm, an, cdv, ct, osl, rfl, lk, hcd⟩ := F.ex
  exact fn_of lk hcd S len fun A outer s H vs Q E hr hsp => hbody A outer s H vs Q E hr hsp
def lamQ (qual : Str) (st : Stmt) : Str := (envOfC qual (defScope st) 0 0 .none).qual ++ "<lambda>"
/-! ### the dict of routes -/
def frk (fr : List (Cell × Nat)) : List (List L2.Key × V) := fr.map fun e => (kc e.1, V.ref e.2)
theorem frk_val (c : Cell) : ∀ fr : List (Cell × Nat), valV (frk fr) (kc c) = (look fr c).map fun a => V.ref a
  | [] => rfl
  | p :: r => by
    have ih := frk_val c r
    unfold valV look frk at ih ⊢
    rw [List.map_cons]
    by_cases e : p.1 = c
    · rw [List.find?_cons_of_pos (by simp [e]), List.find?_cons_of_pos (by simp [e])]
      rfl
    · have e2 : kc p.1 ≠ kc c := fun z => e (kc_inj z)
      rw [List.find?_cons_of_neg (by simp [e2]), List.find?_cons_of_neg (by simp [e])]
      exact ih
theorem frk_any {fr : List (Cell × Nat)} {c : Cell} : ((frk fr).any fun kv => decide (kv.1 = kc c)) = true ↔ c ∈ keys fr := by
  rw [List.any_eq_true]
  constructor
  · rintro ⟨x, hx, e⟩
    obtain ⟨p, hp, rfl⟩ := List.mem_map.mp hx
    exact List.mem_map.mpr ⟨p, hp, kc_inj (of_decide_eq_true e)⟩
  · intro h
    obtain ⟨p, hp, e⟩ := List.mem_map.mp h
    exact ⟨_, List.mem_map.mpr ⟨p, hp, rfl⟩, decide_eq_true (by rw [e])⟩
theorem frk_put {fr : List (Cell × Nat)} {c : Cell} {a : Nat} : putK (frk fr) (kc c) (.ref a) = frk (putA fr c a) := by
  unfold putK putA
  by_cases h : c ∈ keys fr
  · rw [if_pos (frk_any.mpr h), if_pos h]
    unfold frk
    rw [List.map_map, List.map_map]
    refine List.map_congr_left fun e _ => ?_
    show (if kc e.1 = kc c then (kc e.1, V.ref a) else (kc e.1, V.ref e.2)) = _
    by_cases hc : e.1 = c
    · rw [if_pos (by rw [hc])]
      show _ = (fun e : Cell × Nat => (kc e.1, V.ref e.2)) (if e.1 = c then (e.1, a) else e)
      rw [if_pos hc]
    · rw [if_neg (fun z => hc (kc_inj z))]
      show _ = (fun e : Cell × Nat => (kc e.1, V.ref e.2)) (if e.1 = c then (e.1, a) else e)
      rw [if_neg hc]
  · rw [if_neg (fun z => h (frk_any.mp z)), if_neg h]
    unfold frk
    rw [List.map_append]
    rfl
theorem putA_new {fr : List (Cell × Nat)} {c : Cell} {a : Nat} (h : c ∉ keys fr) : putA fr c a = fr ++ [(c, a)] := if_neg h
theorem frk_merge : ∀ (lr fr : List (Cell × Nat)), (keys lr).Nodup → (∀ c ∈ keys lr, c ∉ keys fr) → mergeT (frk fr) (frk lr) = frk (fr ++ lr)
  | [], fr, _, _ => by
    rw [List.append_nil]
    rfl
  | e :: lr, fr, nd, ds => by
    have h1 := List.nodup_cons.mp nd
    have e1 : mergeT (frk fr) (frk (e :: lr)) = mergeT (putK (frk fr) (kc e.1) (.ref e.2)) (frk lr) := rfl
    rw [e1, frk_put, putA_new (ds e.1 (by simp [keys])), frk_merge lr (fr ++ [(e.1, e.2)]) h1.2 fun c hc => ?_]
    · rw [List.append_assoc]
      rfl
    · have : keys (fr ++ [(e.1, e.2)]) = keys fr ++ [e.1] := by
        unfold keys
        rw [List.map_append]
        rfl
      rw [this, List.mem_append, List.mem_singleton]
      rintro (z | z)
      · exact ds c (by simp only [keys, List.map_cons, List.mem_cons]; exact .inr hc) z
      · rw [z] at hc
        exact h1.1 hc
theorem frk_keys {H : Hp} : ∀ {lr : List (Cell × Nat)} {bs : List Addr}, IsKeys H (frk lr) bs → Cells H (bs.map V.ref) (keys lr)
  | [], _, h => by
    cases h
    exact .nil
  | e :: lr, _, h => by
    cases h with
    | cons h1 h2 => exact .cons ⟨_, rfl, h1⟩ (frk_keys h2)
theorem frk_len (fr : List (Cell × Nat)) : (frk fr).length = fr.length := by
  unfold frk
  rw [List.length_map]
theorem look_keys {fr : List (Cell × Nat)} {c : Cell} : (look fr c).isSome = true ↔ c ∈ keys fr := look_isSome
/-! ### what stays -/
/-- all but dicts with tuples as keys -/
def Kd (H H' : Hp) : Prop := ∀ a o, H a = some o → (∀ kvs, o ≠ .dT kvs) → H' a = some o
theorem Kd.of {H H' : Hp} (e : Same H H') : Kd H H' := fun a o h _ => e a o h
theorem Kd.trans {H H1 H2 : Hp} (a : Kd H H1) (b : Kd H1 H2) : Kd H H2 := fun c o h n => b c o (a c o h n) n
theorem Kd.upd {H : Hp} {d : Addr} {kvs : List (List L2.Key × V)} {o : HO} (h : H d = some (.dT kvs)) : Kd H (upd H d o) := fun a u e n => by
  rw [upd_ne (fun z => ?_)]
  · exact e
  · rw [z, h] at e
    exact n kvs (Option.some.inj e).symm
theorem Tabs.kd {T : List (Addr × Str)} {H H' : Hp} (t : LamX.Tabs T H) (k : Kd H H') : LamX.Tabs T H' := fun p hp => by
  obtain ⟨ps, h1, h2, h3⟩ := t p hp
  refine ⟨ps, k _ _ h1 (fun _ z => nomatch z), h2, fun pos cv hc => ?_⟩
  obtain ⟨c, e1, e2⟩ := h3 pos cv hc
  refine ⟨c, e1, k _ _ e2 (fun _ z => ?_)⟩
  unfold LamX.CodeO at z
  cases z
/-- lists and tuples -/
structure LT (H H' : Hp) : Prop where
  t : Tups H H'
  l : ∀ a xs, H a = some (.lst xs) → H' a = some (.lst xs)
theorem LT.kd {H H' : Hp} (k : Kd H H') : LT H H' := ⟨fun a _ e => k a _ e (fun _ z => nomatch z), fun a _ e => k a _ e (fun _ z => nomatch z)⟩
theorem LT.ext {H H' : Hp} (k : LamX.ExtN H H') : LT H H' := ⟨fun a _ e => k a _ e (fun _ z => nomatch z), fun a _ e => k a _ e (fun _ z => nomatch z)⟩
theorem LT.of {H H' : Hp} (e : Same H H') : LT H H' := LT.kd (Kd.of e)
theorem ListAt.lt {H H' : Hp} {a : Addr} {cs : List Cell} (k : LT H H') (h : ListAt H a cs) : ListAt H' a cs := by
  obtain ⟨vs, h1, h2⟩ := h
  exact ⟨vs, k.l _ _ h1, h2.mono k.t⟩
/-- nothing of H stands at d (but a table) -/
def Off (H : Hp) (d : Addr) : Prop := ∀ u, H d = some u → ∃ ps, u = .tbl ps
theorem Off.new {H : Hp} {d : Addr} (h : H d = none) : Off H d := fun u e => by
  rw [h] at e
  cases e
theorem Off.of {H H1 : Hp} {d : Addr} (e : LamX.ExtN H H1) (h : H1 d = none) : Off H d := fun u z => by
  by_cases q : ∃ ps, u = .tbl ps
  · exact q
  · have := e d u z (fun ps w => q ⟨ps, w⟩)
    rw [h] at this
    cases this
theorem ExtN.put {H H' : Hp} {d : Addr} {o : HO} (e : LamX.ExtN H H') (h : Off H d) : LamX.ExtN H (upd H' d o) := fun a u z n => by
  rw [upd_ne (fun w => ?_)]
  · exact e a u z n
  · rw [w] at z
    obtain ⟨ps, q⟩ := h u z
    exact n ps q
theorem ExtN.same {H H1 H2 : Hp} (e : LamX.ExtN H H1) (k : Same H1 H2) : LamX.ExtN H H2 := fun a u z n => k _ _ (e a u z n)
/-! ### _law_routes -/
abbrev sRts : Stmt := top 31
abbrev nRts : List Str := ["_law_rows_here", "_law_cell", "_law_level", "_law_later", "_law_here", "_law_facing", "_law_other", "_law_way", "_law_found"]
theorem scRts : FnScope nRts ["_law_rows_here", "_law_cell"] (defScope sRts) := ⟨rfl, rfl, rfl, by decide +kernel, rfl, by decide +kernel, by decide +kernel⟩
def spRts (T : List (Addr × Str)) : Sp := fun vs H Q _ => ∃ (r : Addr) (rows : List Str) (wd : Nat) (v : V) (c : Cell), vs = [.ref r, v] ∧ RowsAt H r rows ∧ Rect rows wd ∧ CellAt H v c ∧ landB rows c = true ∧ LamX.Tabs T H ∧
  ∀ (H' : Hp) (d : Addr) (fr : List (Cell × Nat)), LamX.ExtN H H' → LamX.Tabs T H' → H d = none → H' d = some (.dT (frk fr)) → (keys fr).Nodup → (∀ o a, (o, a) ∈ fr → ∃ u, ListAt H' a u ∧ Bs (landB rows) c o u) → (∀ o, o ∈ keys fr ↔ ∃ n, Di (landB rows) c o n) → Q (.ref d) H'
/-- the code object and the table of a def that makes a lambda -/
structure TabF (K : PySem.W.Frag) (mg : Str → Option Value) (base : Heap) (T : List (Addr × Str)) (qual : Str) (st : Stmt) (fd : FuncData) (c P : Addr) : Prop where
  code : fd.code = .ref c
  tb : LamX.TabB base mg c P
  mem : (P, lamQ qual st) ∈ T
  one : ∀ p ∈ T, p.1 = P → p.2 = lamQ qual st
theorem free_one {y : Str × NameKind} {a b : Str} {ns : List (Str × NameKind)} (hy : y ∈ [(a, NameKind.local), (b, NameKind.free)]) (e : y.2 = .free) (h : ns.lookup b = some .cell) : ns.lookup y.1 = some .cell := by
  have : y = (a, NameKind.local) ∨ y = (b, NameKind.free) := by simpa using hy
  rcases this with rfl | rfl
  · cases e
  · exact h
section
variable {P : Program} {w : World} {K : PySem.W.Frag} {mg : Str → Option Value} {base : Heap}
theorem ok_rts {Tl : List (Addr × Str)} {f fx fs c Pt : Addr} {fd fdx fds : FuncData} (D : DF K mg "_law_routes" sRts ["_law_rows_here", "_law_cell"] f fd) (T : TT1 mg) (DX : DF K mg "_law_next" sNext ["_law_cell", "_law_facing"] fx fdx) (DS : DF K mg "_law_sign" sSign ["_law_rows_here", "_law_cell"] fs fds)
    (TF : TabF K mg base Tl "_law_routes" sRts fd c Pt) : FnOk P w K mg base (L2.CX P w) 5 f fd ["_law_rows_here", "_law_cell"] (spRts Tl) := by
  have GX : FnOk P w K mg base (L2.CX P w) 1 fx fdx ["_law_cell", "_law_facing"] spNext := ok_next DX.F T
  have GS : FnOk P w K mg base (L2.CX P w) 1 fs fds ["_law_rows_here", "_law_cell"] spSign := ok_sign DS.F T
  refine okCode D.F scRts (fun vs H Q E h => ?_) (fun A outer s H vs Q E hr h => ?_)
  · obtain ⟨r, rows, wd, v, c, rfl, _⟩ := h
    rfl
  · obtain ⟨r, rows, wd, v, s0, rfl, hR, R, hc, hland, hT, q⟩ := h
    have hu := hu_of hr
    have hu64 : (A.deeper (envOfC "_law_routes" (defScope sRts) s.heap.objs.size f fd.code)).units + 64 < cLine := by have := hr.un; omega
    have hu2 : (A.deeper (envOfC "_law_routes" (defScope sRts) s.heap.objs.size f fd.code)).units + 2 < cLine := by have := hr.un; omega
    refine ⟨_, PSs.nox (pss_cons (ps_asg (pe_tup (pa_cons (pe_dT1 hu (pv 1) (pe_lst (pa_cons (pv 1) pa_nil))) (pa_cons (pe_lst (pa_cons (pv 1) pa_nil)) pa_nil))) (pg_tup rfl (pgs_cons (pg_name (i := 8) scRts.nd rfl (Or.inr rfl)) (pgs_cons (pg_name (i := 2) scRts.nd rfl (Or.inl rfl)) pgs_nil))))
      (pss_cons (ps_while PassesOwn.never (pt_cmpR (op_neNil hu64) (pv 2) (pe_lst pa_nil) (nomark _))
        (pss_cons (ps_set (i := 3) scRts.nd rfl (Or.inl rfl) pe_dnewT)
        (pss_cons (ps_for PassesOwn.never rfl (pi_list (pe_sortedLam (T := Tl) (i := 8) (by rfl) T.sorted (pa_cons (pv 2) pa_nil) rfl hr TF.tb TF.code TF.mem TF.one rfl ⟨rfl, rfl, rfl, by decide +kernel, by rfl, by rfl⟩ (fun y hy e => free_one hy e rfl) (by rfl) (by rfl) (fun _ _ _ _ _ _ => by rfl))) (pg_name (i := 4) scRts.nd rfl (Or.inl rfl))
          (pss_one (ps_for PassesOwn.never rfl (pi_range1 (by rfl) T.range (pa_cons pe_int pa_nil)) (pg_name (i := 5) scRts.nd rfl (Or.inl rfl))
            (pss_cons (ps_set (i := 6) scRts.nd rfl (Or.inl rfl) (pe_call GX (hr.mono (by decide)) (by rfl) DX.m DX.F.kp DX.b .nil passL (pa_cons (pv 4) (pa_cons (pv 5) pa_nil))))
            (pss_one (ps_if (PW.pt (pw_and (pt_cmpR op_ne (pe_call GS (hr.mono (by decide)) (by rfl) DS.m DS.F.kp DS.b .nil passL (pa_cons (pv 0) (pa_cons (pv 6) pa_nil))) pe_str (nomark _)) (pw_and1 (pt_cmp (pc_dnotin hu (pv 6) (pv 8))))))
              (pss_cons (ps_set (i := 7) scRts.nd rfl (Or.inl rfl) (pe_op op_cat (pe_dget hu (pv 8) (pv 4) (fun _ _ => rfl)) (pe_lst (pa_cons (pv 6) pa_nil))))
              (pss_one (ps_dput hu (pv 3) (pv 6) (pe_callB (cr_minC rfl hu64) (by rfl) T.min (by decide +kernel) (pa_cons (pv 7) (pa_cons (pe_dget2 hu (pv 3) (pv 6) (pv 7) ⟨by rfl, by rfl, by rfl, by rfl⟩) pa_nil))) rfl))) pss_nil))))))
        (pss_cons (ps_expr (pe_bm PySem.F.plainAttrs_dict PySem.F.slot_dict_update PySem.F.type_dict_update (mt_updT hu2) (pv 8) (pa_cons (pv 3) pa_nil)))
        (pss_one (ps_set (i := 2) scRts.nd rfl (Or.inl rfl) (pe_callTy (call_list_dT rfl) (by rfl) T.list (by decide +kernel) (pa_cons (pv 3) pa_nil))))))))
      (pss_one (ps_ret (pv 8))))), ?_⟩
    have hU : ∀ o, landB rows o = true → o ∈ places := fun o ho => land_places R ho
    have two : 2 ≤ sizeLine := by decide
    have one : 1 ≤ sizeLine := by decide
    obtain ⟨vb, rfl, hvb⟩ := id hc
    refine fun d hd => ⟨_, rfl, _, rfl, one, fun a0 ha0 => ?_⟩
    have da0 : d ≠ a0 := ne_of_none (o := .dT []) upd_same ha0
    have hd2 : upd (upd H d (.dT [])) a0 (.lst [V.ref vb]) d = some (.dT []) := by
      rw [upd_ne da0, upd_same]
    have s1 : Same H (upd H d (.dT [])) := same_new hd
    have s2 := same_new (o := .lst [V.ref vb]) ha0
    have e2 : LamX.ExtN H (upd (upd H d (.dT [])) a0 (.lst [V.ref vb])) := ExtN.same (ExtN.same (LamX.ExtN.refl H) s1) s2
    refine ⟨hd2, vb, kc s0, .ref a0, rfl, s2 _ _ (s1 _ _ hvb), _, rfl, one, fun l hl => ⟨two, fun t ht => ⟨t, _, rfl, SqT.of upd_same, rfl, _, _, rfl, _, _, rfl, rfl, ?_⟩⟩⟩
    have s4 := same_new (o := .lst [V.ref vb]) hl
    have s5 := same_new (o := .tup [V.ref d, V.ref l]) ht
    have s45 := s4.trans s5
    have e3 := ExtN.put (o := .dT [(kc s0, V.ref a0)]) e2 (Off.new hd)
    have e5 := ExtN.same e3 s45
    have k3 : Kd H _ := (Kd.of (s1.trans s2)).trans ((Kd.upd (o := .dT [(kc s0, V.ref a0)]) hd2).trans (Kd.of s45))
    have t5 := Tabs.kd hT k3
    have l0 : upd (upd (upd H d (.dT [])) a0 (.lst [V.ref vb])) d (.dT [(kc s0, V.ref a0)]) a0 = some (.lst [V.ref vb]) := by
      rw [upd_ne da0.symm, upd_same]
    have cc : CellAt (upd (upd (upd (upd (upd H d (.dT [])) a0 (.lst [V.ref vb])) d (.dT [(kc s0, V.ref a0)])) l (.lst [V.ref vb])) t (.tup [V.ref d, V.ref l])) (V.ref vb) s0 := hc.mono (LT.ext e5).t
    refine ⟨fun m σ H' => ∃ (k : Nat) (fr : List (Cell × Nat)) (lev : List Cell) (lv : Addr) (vs : List V) (v3 v4 v5 v6 v7 : Option V), m = 2 * (37 - fr.length) + min vs.length 1 ∧ σ = [some (V.ref r), some (V.ref vb), some (V.ref lv), v3, v4, v5, v6, v7, some (V.ref d)] ∧
        LamX.ExtN H H' ∧ LamX.Tabs Tl H' ∧ H' d = some (.dT (frk fr)) ∧ H' lv = some (.lst vs) ∧ Cells H' vs lev ∧ RLv (landB rows) s0 k (ListAt H') fr lev,
      ⟨_, 0, [(s0, a0)], [s0], l, [V.ref vb], none, none, none, none, none, rfl, rfl, e5, t5, s45 _ _ upd_same, s5 _ _ upd_same, .cons cc .nil, RLv.start hland ⟨[V.ref vb], s45 _ _ l0, .cons cc .nil⟩⟩, ?_⟩
    rintro m σ H1 ⟨k, fr, lev, lv, vs, v3, v4, v5, v6, v7, rfl, rfl, x1, t1, hd1, hl1, hcs, hLv⟩
    refine ⟨_, rfl, Nat.zero_le _, fun pp hpp => ⟨_, pp, rfl, upd_same, dp_same (same_new hpp) (.lst (SqL.of hl1) hcs.dp), csD_shaped lev, _, rfl, ?_⟩⟩
    have sp := same_new (o := .lst []) hpp
    refine ite2 (fun z => ?_) (fun z => ?_)
    · have hne : lev ≠ [] := by
        intro e
        rw [e] at z
        simp at z
      refine ⟨fun σ' H' => ∃ m', m' < _ ∧ _, fun σ' H' h => h, fun la hla => ?_⟩
      have sa := same_new (o := .dT []) hla
      have spa := sp.trans sa
      have hd2' := spa _ _ hd1
      have ndl : d ≠ la := ne_of_none (sp _ _ hd1) hla
      have offla : Off H la := Off.of (ExtN.same x1 sp) hla
      have hcs2 := hcs.mono (Tups.of spa)
      have hLv2 := hLv.mono (fun a w h => ListAt.lt (LT.of spa) h)
      have t2 := Tabs.kd t1 (Kd.of spa)
      have x2 := ExtN.same x1 spa
      refine ⟨_, rfl, lv, d, vs, fun x => csD ((rOf (landB rows) s0 (kOf (upd (upd H1 pp (.lst [])) la (.dT [])) x)).getD []), rfl, SqL.of (spa _ _ hl1), rfl, ⟨frk fr, hd2', fun x hx => ?_⟩, fun _ _ _ _ => alike_cells _ _, fun x => ⟨_, rfl⟩, fun _ _ => Nat.le_trans (csD_depth _) (by decide), t2, fun H3 e3' T3 p ys hp perm => ⟨p, rfl, ⟨_, SqL.of upd_same⟩, ?_⟩⟩
      · obtain ⟨c, hcl, hxc⟩ := hcs2.mem hx
        obtain ⟨b, rfl, hb⟩ := id hxc
        have hck : c ∈ keys fr := (hLv2.fd c).mpr ⟨k, Nat.le_refl _, (hLv2.lv c).mp hcl⟩
        obtain ⟨⟨c', a⟩, hm, ec⟩ := List.mem_map.mp hck
        have ec : c' = c := ec
        subst ec
        obtain ⟨u, ⟨us, hus, huc⟩, hbu⟩ := hLv2.ws _ _ hm
        refine ⟨b, kc c', .ref a, rfl, hb, ?_, ?_⟩
        · rw [frk_val, look_some hLv2.nd hm]
          rfl
        · show Dp K _ (V.ref a) (csD ((rOf (landB rows) s0 (kOf _ (V.ref b))).getD []))
          rw [hxc.kOf, rOf_some.mpr hbu]
          exact .lst (SqL.of hus) huc.dp
      · have s4' := same_new (o := .lst ys) hp
        have x4 : LamX.ExtN H (upd H3 p (.lst ys)) := ExtN.same (x2.trans e3') s4'
        have t4 := Tabs.kd T3 (Kd.of s4')
        have lt24 : LT (upd (upd H1 pp (.lst [])) la (.dT [])) (upd H3 p (.lst ys)) := LT.ext (ExtN.same e3' s4')
        have hd4 := s4' _ _ (e3' _ _ hd2' (fun _ z => nomatch z))
        have hla4 := s4' _ _ (e3' _ _ (upd_same (H := upd H1 pp (.lst [])) (a := la) (o := .dT [])) (fun _ z => nomatch z))
        have hcs4 := hcs2.mono lt24.t
        have hys : Cells (upd H3 p (.lst ys)) ys (ys.map (kOf (upd H3 p (.lst ys)))) := cells_of fun y hy => by
          obtain ⟨c, _, hc'⟩ := hcs4.mem (perm.mem_iff.mp hy)
          rw [hc'.kOf]
          exact hc'
        generalize hyc : ys.map (kOf (upd H3 p (.lst ys))) = yc at hys
        have pmem : ∀ q, q ∈ yc ↔ q ∈ lev := fun q => by
          have h1 := (perm.map (kOf (upd H3 p (.lst ys)))).mem_iff (a := q)
          rw [hyc, cells_map hcs4] at h1
          exact h1
        have np : p ≠ d ∧ p ≠ la := ⟨(ne_of_none (e3' _ _ hd2' (fun _ z => nomatch z)) hp).symm, (ne_of_none (e3' _ _ (upd_same (H := upd H1 pp (.lst [])) (a := la) (o := .dT [])) (fun _ z => nomatch z)) hp).symm⟩
        refine for_list (K := K) (a := p) (xs := ys) (fun i σ H' => ∃ (lr : List (Cell × Nat)) (v4 v5 v6 v7 : Option V), σ = [some (V.ref r), some (V.ref vb), some (V.ref lv), some (V.ref la), v4, v5, v6, v7, some (V.ref d)] ∧ LamX.ExtN H H' ∧ LamX.Tabs Tl H' ∧ H' d = some (.dT (frk fr)) ∧ H' la = some (.dT (frk lr)) ∧
            H' p = some (.lst ys) ∧ Cells H' ys yc ∧ RLv (landB rows) s0 k (ListAt H') fr lev ∧ RM (landB rows) s0 k (ListAt H') lr (fun q o => q ∈ yc.take i ∧ Adj q o))
          ⟨[], _, _, _, _, rfl, x4, t4, hd4, hla4, upd_same, hys, hLv2.mono (fun a w h => ListAt.lt lt24 h), RM.none.mono (fun _ _ h => h) (fun q o h _ _ => by simp at h)⟩ (fun i σ H' _ ⟨_, _, _, _, _, _, _, _, _, _, h, _⟩ => SqL.of h) ?_ ?_
        · rintro i x σ H6 hi ⟨lr, v4', v5', v6', v7', rfl, x6, t6, hd6, hla6, hp6, hy6, hL6, hM6⟩
          obtain ⟨here, hh, hx⟩ := hy6.get hi
          have dh : Di (landB rows) s0 here k := (hL6.lv here).mp ((pmem here).mp (List.mem_of_getElem? hh))
          have hk36 := hL6.klt hU dh
          refine ⟨4, rfl, by decide, by decide, for_range (lo := 0) (n := 4) (fun j σ H' => ∃ (lr : List (Cell × Nat)) (v5 v6 v7 : Option V), σ = [some (V.ref r), some (V.ref vb), some (V.ref lv), some (V.ref la), some x, v5, v6, v7, some (V.ref d)] ∧ LamX.ExtN H H' ∧ LamX.Tabs Tl H' ∧ H' d = some (.dT (frk fr)) ∧ H' la = some (.dT (frk lr)) ∧
            H' p = some (.lst ys) ∧ Cells H' ys yc ∧ RLv (landB rows) s0 k (ListAt H') fr lev ∧ RM (landB rows) s0 k (ListAt H') lr (fun q o => (q ∈ yc.take i ∧ Adj q o) ∨ (q = here ∧ o ∈ (nb4 here).take j)))
            ⟨lr, _, _, _, rfl, x6, t6, hd6, hla6, hp6, hy6, hL6, hM6.mono (fun _ _ h => h) (fun q o h _ _ => h.elim id (fun z => by simp at z))⟩ ?_ ?_⟩
          · rintro j σ H7 hj ⟨lr, v5', v6', v7', rfl, x7, t7, hd7, hla7, hp7, hy7, hL7, hM7⟩
            obtain ⟨xv, hxv, hx7⟩ := hy7.at hh
            rw [hi] at hxv
            obtain rfl := Option.some.inj hxv
            refine ⟨_, rfl, _, rfl, x, here, j, by rw [Int.zero_add]; rfl, hx7, hj, fun H8 ob oc e8 hnb ho8 => ?_⟩
            have ado : Adj here oc := mem_nb4.mp (List.mem_of_getElem? hnb)
            have x8 := ExtN.same x7 e8
            have t8 := Tabs.kd t7 (Kd.of e8)
            have hd8 := e8 _ _ hd7
            have hla8 := e8 _ _ hla7
            have hp8 := e8 _ _ hp7
            have hy8 := hy7.mono (Tups.of e8)
            have hL8 := hL7.mono (fun a w h => ListAt.lt (LT.of e8) h)
            have hM8 := hM7.mono (fun a w h => ListAt.lt (LT.of e8) h) (fun q o h _ _ => h)
            have more : ∀ q o, ((q ∈ yc.take i ∧ Adj q o) ∨ (q = here ∧ o ∈ (nb4 here).take (j + 1))) → ((q ∈ yc.take i ∧ Adj q o) ∨ (q = here ∧ o ∈ (nb4 here).take j)) ∨ (q = here ∧ o = oc) := fun q o h => by
              rcases h with h | ⟨h1, h2⟩
              · exact .inl (.inl h)
              · rw [take_more hnb] at h2
                rcases List.mem_append.mp h2 with h2 | h2
                · exact .inl (.inr ⟨h1, h2⟩)
                · exact .inr ⟨h1, by simpa using h2⟩
            have skip : ¬ Di (landB rows) s0 oc (k + 1) → ∃ (lr : List (Cell × Nat)) (v5 v6 v7 : Option V), [some (V.ref r), some (V.ref vb), some (V.ref lv), some (V.ref la), some x, some (V.int (0 + (j : Nat))), some (V.ref ob), v7', some (V.ref d)] = [some (V.ref r), some (V.ref vb), some (V.ref lv), some (V.ref la), some x, v5, v6, v7, some (V.ref d)] ∧ LamX.ExtN H H8 ∧ LamX.Tabs Tl H8 ∧ H8 d = some (.dT (frk fr)) ∧ H8 la = some (.dT (frk lr)) ∧
                H8 p = some (.lst ys) ∧ Cells H8 ys yc ∧ RLv (landB rows) s0 k (ListAt H8) fr lev ∧ RM (landB rows) s0 k (ListAt H8) lr (fun q o => (q ∈ yc.take i ∧ Adj q o) ∨ (q = here ∧ o ∈ (nb4 here).take (j + 1))) := fun no =>
              ⟨lr, _, _, _, rfl, x8, t8, hd8, hla8, hp8, hy8, hL8, (hM8.skip (here := here) no).mono (fun _ _ h => h) (fun q o h _ _ => more q o h)⟩
            refine ⟨_, rfl, _, rfl, r, rows, wd, _, oc, rfl, hR.mono (LT.ext x8).t, R, ⟨ob, rfl, ho8⟩, rfl, _, rfl, ite2 (fun z1 => ?_) (fun z1 => ?_)⟩
            · have hlo : landB rows oc = true := by
                unfold landB
                rw [Bool.not_eq_true', decide_eq_false_iff_not] at z1 ⊢
                intro z2
                refine z1 ?_
                rw [z2, tilde]
              refine ⟨_, rfl, _, rfl, d, _, rfl, DGet.t (k := kc oc) hd8 ho8, _, rfl, ?_⟩
              rw [frk_val]
              refine ite2 (fun z2 => ?_) (fun z2 => ?_)
              · have new : oc ∉ keys fr := fun hm => by
                  rw [← look_keys] at hm
                  obtain ⟨n, hn⟩ := Option.isSome_iff_exists.mp hm
                  rw [hn] at z2
                  cases z2
                have doc := hL8.fresh dh ado hlo new
                have hhk : here ∈ keys fr := (hL8.fd here).mpr ⟨k, Nat.le_refl _, dh⟩
                obtain ⟨⟨here', ah⟩, hm, eh⟩ := List.mem_map.mp hhk
                have eh : here' = here := eh
                subst eh
                obtain ⟨u, ⟨us, hus, huc⟩, hbu⟩ := hL8.ws _ _ hm
                obtain ⟨xb, rfl, hxb⟩ := id (hx7.mono (Tups.of e8))
                have hval : valV (frk fr) (kc here') = some (V.ref ah) := by
                  rw [frk_val, look_some hL8.nd hm]
                  rfl
                have hul : us.length = k + 1 := by rw [huc.length, hbu.len dh]
                refine ⟨_, rfl, _, rfl, d, .ref ah, rfl, by rw [← hval]; exact DGet.t hd8 hxb, _, rfl, one, fun q1 hq1 => ?_⟩
                have s9 := same_new (o := .lst [V.ref ob]) hq1
                refine ⟨ah, q1, us, [V.ref ob], rfl, rfl, s9 _ _ hus, upd_same, ?_, fun wa hwa => ?_⟩
                · rw [hul]
                  exact Nat.le_trans (show k + 1 + 1 ≤ 40 by omega) (by decide)
                · have s10 := s9.trans (same_new (o := .lst (us ++ [V.ref ob])) hwa)
                  generalize hH10 : upd (upd H8 q1 (.lst [V.ref ob])) wa (.lst (us ++ [V.ref ob])) = H10 at s10
                  have hw10 : H10 wa = some (.lst (us ++ [V.ref ob])) := by rw [← hH10]; exact upd_same
                  have ho10 := s10 _ _ ho8
                  have hoC : CellAt H10 (V.ref ob) oc := ⟨ob, rfl, ho10⟩
                  have hwL : ListAt H10 wa (u ++ [oc]) := ⟨_, hw10, (huc.mono (Tups.of s10)).snoc hoC⟩
                  have hla10 := s10 _ _ hla8
                  have hM10 := hM8.mono (fun a w h => ListAt.lt (LT.of s10) h) (fun q o h _ _ => h)
                  have hdpw : Dp K H10 (V.ref wa) (csD (u ++ [oc])) := by
                    obtain ⟨ws', h1, h2⟩ := hwL
                    exact .lst (SqL.of h1) h2.dp
                  have fin : ∀ (a2 : Addr) (w2 : List Cell), ListAt H10 a2 w2 → (∃ q v, Di (landB rows) s0 q k ∧ Adj q oc ∧ Bs (landB rows) s0 q v ∧ w2 = v ++ [oc]) → lle w2 (u ++ [oc]) →
                      (oc ∈ keys lr → ∃ w', Best (landB rows) s0 k (fun q o => (q ∈ yc.take i ∧ Adj q o) ∨ (q = here' ∧ o ∈ (nb4 here').take j)) oc w' ∧ lle w2 w') → 
                      ∃ (lr' : List (Cell × Nat)) (v5 v6 v7 : Option V), [some (V.ref r), some (V.ref vb), some (V.ref lv), some (V.ref la), some (V.ref xb), some (V.int (0 + (j : Nat))), some (V.ref ob), some (V.ref wa), some (V.ref d)] = [some (V.ref r), some (V.ref vb), some (V.ref lv), some (V.ref la), some (V.ref xb), v5, v6, v7, some (V.ref d)] ∧ LamX.ExtN H (upd H10 la (.dT (putK (frk lr) (kc oc) (.ref a2)))) ∧ LamX.Tabs Tl (upd H10 la (.dT (putK (frk lr) (kc oc) (.ref a2)))) ∧ (upd H10 la (.dT (putK (frk lr) (kc oc) (.ref a2)))) d = some (.dT (frk fr)) ∧ (upd H10 la (.dT (putK (frk lr) (kc oc) (.ref a2)))) la = some (.dT (frk lr')) ∧
                        (upd H10 la (.dT (putK (frk lr) (kc oc) (.ref a2)))) p = some (.lst ys) ∧ Cells (upd H10 la (.dT (putK (frk lr) (kc oc) (.ref a2)))) ys yc ∧ RLv (landB rows) s0 k (ListAt (upd H10 la (.dT (putK (frk lr) (kc oc) (.ref a2))))) fr lev ∧ RM (landB rows) s0 k (ListAt (upd H10 la (.dT (putK (frk lr) (kc oc) (.ref a2))))) lr' (fun q o => (q ∈ yc.take i ∧ Adj q o) ∨ (q = here' ∧ o ∈ (nb4 here').take (j + 1))) := by
                    intro a2 w2 h1 h2 h3 h4
                    have kd11 : Kd H10 (upd H10 la (.dT (putK (frk lr) (kc oc) (.ref a2)))) := Kd.upd hla10
                    have lt11 := LT.kd kd11
                    refine ⟨putA lr oc a2, _, _, _, rfl, ExtN.put (ExtN.same x8 s10) offla, Tabs.kd (Tabs.kd t8 (Kd.of s10)) kd11, ?_, ?_, ?_, (hy8.mono (Tups.of s10)).mono lt11.t, (hL8.mono (fun a w h => ListAt.lt (LT.of s10) h)).mono (fun a w h => ListAt.lt lt11 h), ?_⟩
                    · rw [upd_ne ndl]
                      exact s10 _ _ hd8
                    · rw [upd_same, frk_put]
                    · rw [upd_ne np.2]
                      exact s10 _ _ hp8
                    · exact (hM10.put dh ado doc hbu h1 h2 h3 h4).mono (fun a w h => ListAt.lt lt11 h) (fun q o h _ _ => more q o h)
                  have hwB : ∃ q v, Di (landB rows) s0 q k ∧ Adj q oc ∧ Bs (landB rows) s0 q v ∧ u ++ [oc] = v ++ [oc] := ⟨_, _, dh, ado, hbu, rfl⟩
                  have hlen10 : (frk lr).length < sizeLine := by
                    rw [frk_len]
                    exact Nat.lt_of_le_of_lt (hM10.len hU) (by decide)
                  refine ⟨_, rfl, _, rfl, la, rfl, .inr ⟨_, .inl hla10⟩, _, rfl, _, rfl, _, DGet.t (k := kc oc) hla10 ho10, ?_⟩
                  rw [frk_val]
                  cases el : look lr oc with
                  | none =>
                    refine ⟨_, _, u ++ [oc], u ++ [oc], rfl, hdpw, hdpw, ?_⟩
                    have e0 : (if llt (u ++ [oc]) (u ++ [oc]) = true then ((none : Option Nat).map fun a => V.ref a).getD (V.ref wa) else V.ref wa) = V.ref wa := by
                      rw [llt_irrefl]
                      rfl
                    rw [e0]
                    refine ⟨_, rfl, _, rfl, la, _, rfl, DPut.t (k := kc oc) hla10 ho10 hlen10, fin wa _ hwL hwB (lle_refl _) (fun hm => ?_)⟩
                    rw [← look_keys, el] at hm
                    cases hm
                  | some a' =>
                    obtain ⟨_, w', hw', hbest⟩ := hM10.ks _ _ (look_mem el)
                    have hdp' : Dp K H10 (V.ref a') (csD w') := by
                      obtain ⟨ws', h1, h2⟩ := hw'
                      exact .lst (SqL.of h1) h2.dp
                    refine ⟨_, _, u ++ [oc], w', rfl, hdpw, hdp', ?_⟩
                    by_cases cl : llt w' (u ++ [oc]) = true
                    · rw [if_pos cl]
                      exact ⟨_, rfl, _, rfl, la, _, rfl, DPut.t (k := kc oc) hla10 ho10 hlen10, fin a' w' hw' hbest.1 (llt_asymm cl) (fun _ => ⟨w', hbest, lle_refl _⟩)⟩
                    · rw [if_neg cl]
                      exact ⟨_, rfl, _, rfl, la, _, rfl, DPut.t (k := kc oc) hla10 ho10 hlen10, fin wa _ hwL hwB (lle_refl _) (fun _ => ⟨w', hbest, by unfold lle; simpa using cl⟩)⟩
              · refine skip (hL8.known ?_)
                by_cases e : oc ∈ keys fr
                · exact e
                · exfalso
                  apply z2
                  rw [look_none e]
                  rfl
            · refine ite2 (fun z => absurd z (by decide)) (fun _ => skip fun dd => ?_)
              have := dd.lb
              unfold landB at this
              rw [Bool.not_eq_true', decide_eq_false_iff_not] at this
              refine z1 ?_
              rw [Bool.not_eq_true', decide_eq_false_iff_not]
              intro z2
              injection z2 with z2
              rw [tilde] at z2
              injection z2 with z2
              exact this (by simpa using z2)
          · rintro σ H7 ⟨lr, v5', v6', v7', rfl, x7, t7, hd7, hla7, hp7, hy7, hL7, hM7⟩
            refine ⟨lr, _, _, _, _, rfl, x7, t7, hd7, hla7, hp7, hy7, hL7, hM7.mono (fun _ _ h => h) (fun q o h _ _ => ?_)⟩
            obtain ⟨h1, h2⟩ := h
            rw [take_more hh] at h1
            rcases List.mem_append.mp h1 with h1 | h1
            · exact .inl ⟨h1, h2⟩
            · refine .inr ?_
              have h1 : q = here := by simpa using h1
              subst h1
              exact ⟨rfl, mem_nb4.mpr h2⟩
        · rintro σ H6 ⟨lr, v4', v5', v6', v7', rfl, x6, t6, hd6, hla6, hp6, hy6, hL6, hM6⟩
          have ey : yc.take ys.length = yc := by
            rw [hy6.length]
            exact List.take_length
          rw [ey] at hM6
          have hC := RM.close hL6 (hM6.mono (fun _ _ h => h) (fun q o h _ _ => ⟨(pmem q).mpr h.1, h.2⟩))
          have hfl := hL6.len hU
          have hcl := hC.len hU
          have hs0 : s0 ∈ keys fr := (hL6.fd s0).mpr ⟨0, Nat.zero_le _, Di.zero hland⟩
          have hdis : ∀ c ∈ keys lr, c ∉ keys fr := fun c hc hf => hL6.known hf ((hC.lv c).mp hc)
          refine ⟨_, rfl, .inr (.inr (.inl ⟨rfl, .inr ⟨_, hd6⟩⟩)), _, rfl, d, la, frk fr, frk lr, rfl, rfl, hd6, hla6, ndl, ?_, ?_, ?_⟩
          · intro e
            unfold frk at e
            rw [List.map_eq_nil_iff] at e
            rw [e] at hs0
            simp [keys] at hs0
          · rw [frk_len, frk_len]
            rw [List.length_append] at hcl
            exact Nat.le_trans hcl (by decide)
          · have kd7 : Kd H6 (upd H6 d (.dT (mergeT (frk fr) (frk lr)))) := Kd.upd hd6
            have hla7 : upd H6 d (.dT (mergeT (frk fr) (frk lr))) la = some (.dT (frk lr)) := by
              rw [upd_ne ndl.symm]
              exact hla6
            refine ⟨_, rfl, la, frk lr, rfl, .inl hla7, fun l2 bs hl2 hkeys => ?_⟩
            have s8 := same_new (o := .lst (bs.map V.ref)) hl2
            have hkc := frk_keys hkeys
            have hbl : (bs.map V.ref).length = lr.length := by
              rw [hkc.length]
              unfold keys
              rw [List.length_map]
            have hvl : 0 < vs.length := by
              rw [hcs.length]
              exact List.length_pos_iff.mpr hne
            rw [List.length_append] at hcl
            refine ⟨2 * (37 - (fr ++ lr).length) + min (bs.map V.ref).length 1, ?_, k + 1, fr ++ lr, keys lr, l2, bs.map V.ref, _, _, _, _, _, rfl, rfl, ExtN.same (ExtN.put x6 (Off.new hd)) s8, Tabs.kd (Tabs.kd t6 kd7) (Kd.of s8), s8 _ _ ?_, upd_same, hkc.mono (Tups.of s8), (hC.mono (fun a w h => ListAt.lt (LT.kd kd7) h)).mono (fun a w h => ListAt.lt (LT.of s8) h)⟩
            · rw [hbl, List.length_append]
              omega
            · rw [upd_same, frk_merge lr fr hM6.nd hdis]
    · have he : lev = [] := by
        cases lev with
        | nil => rfl
        | cons a r => exact absurd rfl z
      subst he
      exact ⟨_, rfl, q _ d fr (ExtN.same x1 sp) (Tabs.kd t1 (Kd.of sp)) hd (sp _ _ hd1) hLv.nd (fun o a hm => by
        obtain ⟨u, h1, h2⟩ := hLv.ws o a hm
        exact ⟨u, ListAt.lt (LT.of sp) h1, h2⟩) hLv.stop⟩
end
end Wk
set_option Elab.async false
set_option linter.all false
set_option maxRecDepth 100000
set_option maxHeartbeats 4000000
namespace Wk
open PySem PySem.Spec PyProof.Rows L2
/-! ### _law_alike -/
inductive AlV (H : Hp) : Nat → V → V → Prop where
  | non (n : Nat) : AlV H n .non .non
  | int (n : Nat) (i : Int) : AlV H n (.int i) (.int i)
  | tup {n : Nat} {a b : Addr} {xs ys : List V} : H a = some (.tup xs) → H b = some (.tup ys) → xs.length = ys.length → xs.length ≤ 100 → (∀ (i : Nat) (x y : V), xs[i]? = some x → ys[i]? = some y → AlV H n x y) → AlV H (n + 1) (.ref a) (.ref b)
  | lst {n : Nat} {a b : Addr} {xs ys : List V} : H a = some (.lst xs) → H b = some (.lst ys) → xs.length = ys.length → xs.length ≤ 100 → (∀ (i : Nat) (x y : V), xs[i]? = some x → ys[i]? = some y → AlV H n x y) → AlV H (n + 1) (.ref a) (.ref b)
structure KitL (tn : String) : Prop where
  b : kitB tn "bool" = some false
  i : kitB tn "int" = some false
  s : kitB tn "str" = some false
  t : ∃ r, kitB tn "tuple" = some r
  l : ∃ r, kitB tn "list" = some r
theorem kitL_list : KitL "list" := ⟨by decide +kernel, by decide +kernel, by decide +kernel, ⟨false, by decide +kernel⟩, ⟨true, by decide +kernel⟩⟩
theorem kitL_tuple : KitL "tuple" := ⟨by decide +kernel, by decide +kernel, by decide +kernel, ⟨true, by decide +kernel⟩, ⟨false, by decide +kernel⟩⟩
def spA : Nat → Sp
  | 0 => fun _ _ _ _ => False
  | n + 1 => fun vs H Q _ => ∃ x y, vs = [x, y] ∧ AlV H n x y ∧ Q (.bl true) H
theorem isi_of {K : PySem.W.Frag} {H : Hp} {Q : VK} {x : V} {a b : String} {r : Bool} (ty : TyOf K H x (.type a)) (h : kitB a b = some r) (q : Q (.bl r) H) : rIsi K [x, .ty b] H Q := ⟨x, .ty b, .type a, .type b, r, rfl, .ty _, .base ty, kit_ty h, q⟩
def rIxS (K : PySem.W.Frag) : R2 := fun x y H Q => rIxL K x y H Q ∨ rIxT K x y H Q
theorem ix_seq {X : Cx} : IxR X (rIxS X.K) := by
  intro value slice pins s σ H x y v u Q I rx ry h hs
  rcases h with h | h
  · exact ix_list value slice pins s σ H x y v u Q I rx ry h hs
  · exact ix_tup value slice pins s σ H x y v u Q I rx ry h hs
theorem AlV.split {K : PySem.W.Frag} {H : Hp} {n : Nat} {x y : V} (h : AlV H n x y) : (x = .non ∧ y = .non) ∨ (∃ i, x = .int i ∧ y = .int i) ∨
    ∃ (m : Nat) (a b : Addr) (xs ys : List V) (tn : String), n = m + 1 ∧ x = .ref a ∧ y = .ref b ∧ KitL tn ∧ TyOf K H (.ref a) (.type tn) ∧ TyOf K H (.ref b) (.type tn) ∧ (SqL K H a xs ∨ SqT K H a xs) ∧ (SqL K H b ys ∨ SqT K H b ys) ∧ xs.length = ys.length ∧ xs.length ≤ 100 ∧ ∀ (i : Nat) (x y : V), xs[i]? = some x → ys[i]? = some y → AlV H m x y := by
  cases h with
  | non => exact .inl ⟨rfl, rfl⟩
  | int _ i => exact .inr (.inl ⟨i, rfl, rfl⟩)
  | tup h1 h2 h3 h4 h5 => exact .inr (.inr ⟨_, _, _, _, _, _, rfl, rfl, rfl, kitL_tuple, .tup h1, .tup h2, .inr (SqT.of h1), .inr (SqT.of h2), h3, h4, h5⟩)
  | lst h1 h2 h3 h4 h5 => exact .inr (.inr ⟨_, _, _, _, _, _, rfl, rfl, rfl, kitL_list, .lst h1, .lst h2, .inl (SqL.of h1), .inl (SqL.of h2), h3, h4, h5⟩)
abbrev sAl : Stmt := top 26
theorem scAl : FnScope ["_law_found", "_law_due", "_law_k"] ["_law_found", "_law_due"] (defScope sAl) := ⟨rfl, rfl, rfl, by decide +kernel, rfl, by decide +kernel, by decide +kernel⟩
section
variable {P : Program} {w : World} {K : PySem.W.Frag} {mg : Str → Option Value} {base : Heap}
theorem ok_al0 {f : Addr} {fd : FuncData} : FnOk P w K mg base (L2.CX P w) 1 f fd ["_law_found", "_law_due"] (spA 0) := ⟨fun _ _ _ _ h => h.elim, fun _ _ _ _ _ _ _ _ _ _ _ _ _ h => h.elim⟩
theorem ok_alS {f : Addr} {fd : FuncData} {n : Nat} (D : DF K mg "_law_alike" sAl ["_law_found", "_law_due"] f fd) (T : TT1 mg) (GA : FnOk P w K mg base (L2.CX P w) (n + 1) f fd ["_law_found", "_law_due"] (spA n)) : FnOk P w K mg base (L2.CX P w) (n + 2) f fd ["_law_found", "_law_due"] (spA (n + 1)) := by
  refine D.F.okX scAl (fun vs H Q E h => ?_) (fun cdv A outer s H vs Q E hr h => ?_)
  · obtain ⟨x, y, rfl, _⟩ := h
    rfl
  · obtain ⟨x, y, rfl, hal, q⟩ := h
    refine ⟨_, PSs.nox (pss_cons (ps_if (pt_cmpR op_isN (pv 1) pe_non (nomark _)) (pss_one (ps_ret (pe_cmpR op_isN (pv 0) pe_non (nomark _)))) pss_nil)
      (pss_cons (ps_if (pt_val (pe_callB call_isi (by rfl) T.isinstance (by decide +kernel) (pa_cons (pv 1) (pa_cons (pe_bltn (v := .ty "bool") (by rfl) T.bool (by decide +kernel) rfl) pa_nil)))) pss_dead pss_nil)
      (pss_cons (ps_if (pt_val (pe_callB call_isi (by rfl) T.isinstance (by decide +kernel) (pa_cons (pv 1) (pa_cons (pe_bltn (v := .ty "int") (by rfl) T.int (by decide +kernel) rfl) pa_nil))))
        (pss_one (ps_ret (pe_and (pe_callB call_isi (by rfl) T.isinstance (by decide +kernel) (pa_cons (pv 0) (pa_cons (pe_bltn (v := .ty "int") (by rfl) T.int (by decide +kernel) rfl) pa_nil)))
          (pe_and (pe_not (pe_callB call_isi (by rfl) T.isinstance (by decide +kernel) (pa_cons (pv 0) (pa_cons (pe_bltn (v := .ty "bool") (by rfl) T.bool (by decide +kernel) rfl) pa_nil)))) (pe_one (pe_cmpR op_eq (pv 0) (pv 1) (nomark _))))))) pss_nil)
      (pss_cons (ps_if (pt_val (pe_callB call_isi (by rfl) T.isinstance (by decide +kernel) (pa_cons (pv 1) (pa_cons (pe_bltn (v := .ty "str") (by rfl) T.str (by decide +kernel) rfl) pa_nil)))) pss_dead pss_nil)
      (pss_cons (ps_if (PW.pt (pw_or (pt_cmpR op_ne (pe_callB call_isi (by rfl) T.isinstance (by decide +kernel) (pa_cons (pv 1) (pa_cons (pe_bltn (v := .ty "tuple") (by rfl) T.tuple (by decide +kernel) rfl) pa_nil))) (pe_callB call_isi (by rfl) T.isinstance (by decide +kernel) (pa_cons (pv 0) (pa_cons (pe_bltn (v := .ty "tuple") (by rfl) T.tuple (by decide +kernel) rfl) pa_nil))) (nomark _))
          (pw_or1 (pt_cmpR op_ne (pe_callB call_isi (by rfl) T.isinstance (by decide +kernel) (pa_cons (pv 1) (pa_cons (pe_bltn (v := .ty "list") (by rfl) T.list (by decide +kernel) rfl) pa_nil))) (pe_callB call_isi (by rfl) T.isinstance (by decide +kernel) (pa_cons (pv 0) (pa_cons (pe_bltn (v := .ty "list") (by rfl) T.list (by decide +kernel) rfl) pa_nil))) (nomark _))))) pss_dead pss_nil)
      (pss_cons (ps_if (pt_cmpR op_ne (pe_callB call_len_seq (by rfl) T.len PySem.boot_len (pa_cons (pv 0) pa_nil)) (pe_callB call_len_seq (by rfl) T.len PySem.boot_len (pa_cons (pv 1) pa_nil)) (nomark _)) pss_dead pss_nil)
      (pss_cons (ps_for PassesOwn.never rfl (pi_range1 (by rfl) T.range (pa_cons (pe_callB call_len_seq (by rfl) T.len PySem.boot_len (pa_cons (pv 1) pa_nil)) pa_nil)) (pg_name (i := 2) scAl.nd rfl (Or.inl rfl))
        (pss_one (ps_if (pt_not (pt_val (pe_call GA hr (by rfl) D.m D.F.kp D.b .nil passL (pa_cons (pe_ix ix_seq (pv 0) (pv 2) (fun _ _ => rfl)) (pa_cons (pe_ix ix_seq (pv 1) (pv 2) (fun _ _ => rfl)) pa_nil))))) pss_dead pss_nil)))
      (pss_one (ps_ret pe_bl))))))))), ?_⟩
    have dn : decide (V.non = V.non) = true := decide_eq_true rfl
    rcases AlV.split (K := K) hal with ⟨rfl, rfl⟩ | ⟨i, rfl, rfl⟩ | ⟨m, a, b, xs, ys, tn, rfl, rfl, rfl, kt, ta, tb, sa, sb, hl, h100, hitems⟩
    · exact ⟨_, rfl, rfl, _, rfl, ite2 (fun _ => ⟨_, rfl, rfl, by rw [dn]; exact q⟩) (fun c => absurd dn c)⟩
    · refine ⟨_, rfl, rfl, _, rfl, ite2 (fun c => absurd (of_decide_eq_true c) (fun z => nomatch z)) fun _ => ?_⟩
      refine ⟨_, rfl, _, _, _, _, false, rfl, .ty _, .base (.int i), kit_ty (by decide +kernel), ⟨_, rfl, ite2 (fun c => nomatch c) fun _ => ?_⟩⟩
      refine ⟨_, rfl, _, _, _, _, true, rfl, .ty _, .base (.int i), kit_ty (by decide +kernel), ⟨_, rfl, ite2 (fun _ => ?_) (fun c => absurd rfl c)⟩⟩
      refine ⟨_, rfl, _, _, _, _, true, rfl, .ty _, .base (.int i), kit_ty (by decide +kernel), ⟨_, rfl, ite2 (fun _ => ?_) (fun c => absurd rfl c)⟩⟩
      refine ⟨_, rfl, _, _, _, _, false, rfl, .ty _, .base (.int i), kit_ty (by decide +kernel), ⟨_, rfl, _, rfl, ite2 (fun _ => ?_) (fun c => absurd rfl c)⟩⟩
      refine ⟨_, rfl, _, rfl, rfl, ?_⟩
      rw [decide_eq_true rfl]
      exact q
    · obtain ⟨rt, kt1⟩ := kt.t
      obtain ⟨rl, kt2⟩ := kt.l
      have ix : ∀ {a : Addr} {xs : List V} {i : Nat} {v : V} {Q : VK}, (SqL K H a xs ∨ SqT K H a xs) → xs[i]? = some v → Q v H → rIxS K (.ref a) (.int (0 + (i : Nat))) H Q := fun {a xs i v Q} h hv hq => by
        rw [Int.zero_add]
        rcases h with h | h
        · exact .inl ⟨a, xs, _, v, rfl, rfl, h, atI_nat hv, hq⟩
        · exact .inr ⟨a, xs, _, v, rfl, rfl, h, atI_nat hv, hq⟩
      refine ⟨_, rfl, rfl, _, rfl, ite2 (fun c => absurd (of_decide_eq_true c) (fun z => nomatch z)) fun _ => ?_⟩
      refine ⟨_, rfl, _, _, _, _, _, rfl, .ty _, .base tb, kit_ty kt.b, ⟨_, rfl, ite2 (fun c => nomatch c) fun _ => ?_⟩⟩
      refine ⟨_, rfl, _, _, _, _, _, rfl, .ty _, .base tb, kit_ty kt.i, ⟨_, rfl, ite2 (fun c => nomatch c) fun _ => ?_⟩⟩
      refine ⟨_, rfl, _, _, _, _, _, rfl, .ty _, .base tb, kit_ty kt.s, ⟨_, rfl, ite2 (fun c => nomatch c) fun _ => ?_⟩⟩
      have neb : ∀ r : Bool, ¬ (!decide (V.bl r = V.bl r)) = true := fun r z => by
        rw [decide_eq_true rfl] at z
        cases z
      refine ⟨_, rfl, _, _, _, _, _, rfl, .ty _, .base tb, kit_ty kt1, ⟨_, rfl, _, _, _, _, _, rfl, .ty _, .base ta, kit_ty kt1, ⟨rfl, _, rfl, ite2 (fun c => absurd c (neb _)) fun _ => ?_⟩⟩⟩
      refine ⟨_, rfl, _, _, _, _, _, rfl, .ty _, .base tb, kit_ty kt2, ⟨_, rfl, _, _, _, _, _, rfl, .ty _, .base ta, kit_ty kt2, ⟨rfl, _, rfl, ite2 (fun c => absurd c (neb _)) fun _ => ?_⟩⟩⟩
      refine ⟨_, rfl, a, xs, rfl, sa, _, rfl, b, ys, rfl, sb, rfl, _, rfl, ite2 (fun c => ?_) fun _ => ?_⟩
      · rw [hl, decide_eq_true rfl] at c
        cases c
      · refine ⟨_, rfl, b, ys, rfl, sb, _, rfl, by omega, by omega, for_range (lo := 0) (n := ys.length) (fun i σ H' => ∃ v, σ = [some (.ref a), some (.ref b), v] ∧ H' = H) ⟨none, rfl, rfl⟩ ?_ ?_⟩
        · rintro i σ H' hi ⟨v, rfl, rfl⟩
          have e1 : xs[i]? = some (xs[i]'(by omega)) := List.getElem?_eq_getElem (by omega)
          have e2 : ys[i]? = some (ys[i]'hi) := List.getElem?_eq_getElem hi
          exact ⟨_, rfl, _, rfl, ix sa e1 ⟨_, rfl, _, rfl, ix sb e2 ⟨_, _, rfl, hitems i _ _ e1 e2, _, rfl, ite2 (fun c => nomatch c) fun _ => ⟨_, rfl, rfl⟩⟩⟩⟩
        · rintro σ H' ⟨v, rfl, rfl⟩
          exact q
end
end Wk
set_option Elab.async false
set_option linter.all false
set_option maxRecDepth 100000
set_option maxHeartbeats 4000000
namespace Wk
open PySem PySem.Spec PyProof.Rows L2
/-! ### xs.count(x) -/
def rCountD (K : PySem.W.Frag) : V → List V → Hp → VK → Prop := fun x xs H Q => ∃ (a : Addr) (y : V) (d : PyData) (ds : List PyData), x = V.ref a ∧ xs = [y] ∧ Dp K H (V.ref a) (.list ds) ∧ Dp K H y d ∧ SeqAt.shaped (.list ds) = true ∧ SeqAt.shaped d = true ∧ Q (.int (ds.countP fun z => PyData.eqv z d : Nat)) H
theorem countP_map {α β : Type} (f : α → β) (p : β → Bool) : ∀ l : List α, (l.map f).countP p = l.countP fun x => p (f x)
  | [] => rfl
  | a :: r => by
    rw [List.map_cons, List.countP_cons, List.countP_cons, countP_map f p r]
theorem mt_countD {X : Cx} (K : PySem.W.Frag) (hK : X.K = K) (hu : X.A.units + 65 < cLine) : MtR X "list.count" (rCountD K) := by
  subst hK
  intro pins s σ H x xs v us Q I rx rxs h
  obtain ⟨a, y, d, ds, rfl, rfl, hl, hy, sl, sd, q⟩ := h
  cases rx
  obtain ⟨uy, rfl, ry⟩ := rxs.one
  obtain ⟨bs, r1⟩ := Dp.reads I d y uy hy ry
  have hxs : PyData.canLayAll0 ds = true := SeqAt.canLay_of_shaped sl
  have hroom : X.A.units + 1 + min (PyData.depthAll ds) d.depth < cLine := by
    have h1 := SeqAt.depth_of_shaped sd
    have : min (PyData.depthAll ds) d.depth ≤ d.depth := Nat.min_le_right _ _
    omega
  cases hl with
  | lst hs ha =>
    obtain ⟨its, rv, ⟨⟨cls, dd, data, sls⟩, n, ho, hc, hdn, hdt⟩, hlen⟩ := I.list hs
    simp only at hc hdt
    subst hc hdt
    obtain ⟨as, h4⟩ := Dp.readsAll I ds _ its ha rv
    have hmap : its.map (SeqAt.readOf s.heap) = ds := SeqAt.readsAll_map ds its as hxs h4
    refine call_meets PySem.F.slot_list_count ⟨_, ho, rfl⟩ PySem.F.entry_list_count (PySem.F.args_list_count_2 _ _)
      (SeqAt.list_countAt a its.toArray n dd sls uy (fun u => PyData.eqv (SeqAt.readOf s.heap u) d)) ⟨ho, SeqAt.items_eqAt (vs := its.toArray) (show ReadsAll s.heap its.toArray.toList ds as from h4) r1 hxs (SeqAt.canLay_of_shaped sd) hroom, ?_⟩
    have ec : its.toArray.toList.countP (fun u => PyData.eqv (SeqAt.readOf s.heap u) d) = ds.countP fun z => PyData.eqv z d := by
      rw [← hmap, countP_map]
    refine ⟨.int (ds.countP fun z => PyData.eqv z d : Nat), H, I.tok _, ⟨s.toks, ?_⟩, q⟩
    show Value.int ((its.toArray.toList.countP (fun u => PyData.eqv (SeqAt.readOf s.heap u) d) : Nat) : Int) s.toks = _
    rw [ec]
theorem mt_indexK {X : Cx} (K : PySem.W.Frag) (hK : X.K = K) : MtR X "list.index" (rIndex K) := by
  subst hK
  exact mt_index
theorem pe_bmK {X : Cx} (K : PySem.W.Frag) (hK : X.K = K) {o e : Expr} {es : List Expr} {to : TE} {t : TA} {name : Str} {apos cpos : Pos} {T id : String} {r : V → List V → Hp → VK → Prop} (pa : PlainAttrs T) (slot : Slot T name id) (hty : typeOf (.builtin id) = pure (.type "method_descriptor")) (hm : MtR X id r) (ho : PE X o to) (ha : PA X (e :: es) t)
    (hbase : attributeBase o name X.env (eval o X.env) = eval o X.env := by rfl)
    (hfew : ((backTo cpos (starEach (e :: es) X.env)).all (fun x => !x.1) && (backToKw cpos (keywordEach [] X.env)).all (fun x => x.1.isSome) && decide ((e :: es).length + ([] : List Keyword).length + (if ([] : List Keyword).isEmpty = true then 0 else 1) < 30)) = true := by rfl)
    (hline : (apos.endLine == cpos.line) = true := by rfl) (hs : starEach (e :: es) X.env = (false, eval e X.env) :: starEach es X.env := by rfl) (hplain : ((backTo cpos (starEach es X.env)).any fun x => x.1) = false := by rfl) :
    PE X (.Call (.Attribute o name apos) (e :: es) [] cpos) (tBM K T r to t) := by
  subst hK
  exact pe_bm pa slot hty hm ho ha hbase hfew hline hs hplain
theorem pss_when {X : Cx} {c : Prop} {sts : List Stmt} {t : TS} (h : c → PSs X sts t) : PSs X sts (fun D σ H => c ∧ t D σ H) := ⟨fun pins s σ H D I hh => (h hh.1).run pins s σ H D I hh.2⟩
theorem pss_len {X : Cx} {n : Nat} {sts : List Stmt} {t : TS} (hn : X.N.length = n) (h : PSs X sts t) : PSs X sts (fun D σ H => σ.length = n → t D σ H) := ⟨fun pins s σ H D I hh => h.run pins s σ H D I (hh (I.len.trans hn))⟩
/-! ### _law_error -/
abbrev sErr : Stmt := top 30
abbrev nErr : List Str := ["_law_work", "error", "_law_kinds", "_law_names", "_law_name"]
theorem scErr : FnScope nErr ["_law_work"] (defScope sErr) := ⟨rfl, rfl, rfl, by decide +kernel, rfl, by decide +kernel, by decide +kernel⟩
def OneK (K : PySem.W.Frag) (mg : Str → Option Value) (CU : Addr) (x : Str) (c : Addr) (b : Bool) : Prop := mg x = some (.ref c) ∧ PySem.W.kitOne K (.ref CU) (.ref c) = some b
structure ErrT (K : PySem.W.Frag) (mg : Str → Option Value) (CU : Addr) : Prop where
  x : ExcC K CU
  m : ∃ CM, mg "MapError" = some (.ref CM) ∧ PySem.W.exmOne K (.ref CU) (.ref CM) = some true
  c : ∃ c1 c2 c3 c4 c5 c6, OneK K mg CU "InvalidIsland" c1 false ∧ OneK K mg CU "InvalidMap" c2 false ∧ OneK K mg CU "InvalidNumber" c3 false ∧ OneK K mg CU "NoBeginning" c4 false ∧ OneK K mg CU "NoWay" c5 false ∧ OneK K mg CU "TooMany" c6 false
  u : PySem.W.kitOne K (.ref CU) (.ref CU) = some true
  v : PySem.W.kitOne K (.ref CU) (.type "ValueError") = some true
  mv : mg "ValueError" = none
def tIsE (K : PySem.W.Frag) (CU a : Addr) (c : V) : TE := tCB (rIsE K CU a) (tCons (tVar 1) (tCons (tC c) tNil))
def tErr (K : PySem.W.Frag) (CU c1 c2 c3 c4 c5 c6 a : Addr) : TS :=
  tSeq (tAsg (tLst (tCons (tIsE K CU a (.ref c1)) (tCons (tIsE K CU a (.ref c2)) (tCons (tIsE K CU a (.ref c3)) tNil)))) (gName 2))
  (tSeq (tAsg (tOp rCat (tVar 2) (tLst (tCons (tIsE K CU a (.ref c4)) (tCons (tIsE K CU a (.ref c5)) (tCons (tIsE K CU a (.ref c6)) tNil))))) (gName 2))
  (tSeq (tAsg (tOp rCat (tVar 2) (tLst (tCons (tIsE K CU a (.ref CU)) tNil))) (gName 2))
  (tSeq (tAsg (tLst (tCons (tC (.str "InvalidIsland")) (tCons (tC (.str "InvalidMap")) (tCons (tC (.str "InvalidNumber")) (tCons (tC (.str "NoBeginning")) (tCons (tC (.str "NoWay")) (tCons (tC (.str "TooMany")) (tCons (tC (.str "UnknownCell")) tNil)))))))) (gName 3))
  (tSeq (tIfS (tOr (tTest (tOp rNe (tBM K "list" (rCountD K) (tVar 2) (tCons (tC (.bl true)) tNil)) (tC (.int 1)))) (tNot (tB (tIsE K CU a (.ty "ValueError"))))) (fun _ _ _ => False) tNext)
  (tSeq (tAsg (tOp (rIxL K) (tVar 3) (tBM K "list" (rIndex K) (tVar 2) (tCons (tC (.bl true)) tNil))) (gName 4))
  (tSeq (tIfS (tTest (tOp rEq (tVar 4) (tC (.str "InvalidIsland")))) (fun _ _ _ => False) tNext)
  (tRet (tIf (tTest (tOp rEq (tVar 4) (tC (.str "InvalidMap")))) (fun _ _ _ => False) (tVar 4)))))))))
def TErr (CU : Addr) : (XK → Hp → VK → Prop) → Hp → VK → Prop := fun tl H Q => tl (fun cls d H' => cls = .ref CU ∧ d = none ∧ ∀ H'', Same H' H'' → Q (.str "UnknownCell") H'') H (fun _ H' => Q (.str "") H')
theorem err_gives {X : Cx} {CU : Addr} {k : Nat} {q : Str} {g : Addr} {cdg : Value} (T : TT1 X.mg) (U : UnkT X.K X.mg CU) (E : ErrT X.K X.mg CU) (hr : Room (k + 1) X.A) : LamX.GivesTo X nErr "_law_error" (defScope sErr) g cdg (defBody sErr) "_law_work" q (TErr CU) := by
  intro f c' s H Q tl act hc h
  obtain ⟨CM, mM, eM⟩ := E.m
  obtain ⟨c1, c2, c3, c4, c5, c6, o1, o2, o3, o4, o5, o6⟩ := E.c
  have hu64 : (X.A.deeper (envOfC "_law_error" (defScope sErr) s.heap.objs.size g cdg)).units + 65 < cLine := by have := (hr.deeper (envOfC "_law_error" (defScope sErr) s.heap.objs.size g cdg)).un; omega
  refine ⟨_, pss_cons (ps_try_as (X := (cxOf C8.CX0 X.prog X.w X.K X.mg X.base nErr "_law_error" (defScope sErr) g cdg X.A X.stack s H C8.E0).nox) (i := 1) (c := .ref CM) (Wout := fun _ _ _ _ => False)
      (tb := fun W D σ H => ∃ Ech : XK, (∀ cls d σ' H', Ech cls d H' → W cls d σ' H') ∧ σ[0]? = some (some (.ref f)) ∧ H c' = some (LamX.CodeO c' q) ∧ tl Ech H (fun _ H' => D.nx σ H'))
      (ts := fun a cls d D σ H => σ.length = 5 → ((cls = .ref CU ∧ d = none) ∧ tErr X.K CU c1 c2 c3 c4 c5 c6 a D σ H))
      rfl rfl scErr.nd rfl rfl ⟨rfl, by decide, .inl mM⟩ LamX.takes0 (fun W pn xe tk _ => ?_) (fun a oe cls d pn hz hf => ?_)) (pss_one (ps_ret pe_str)), ?_⟩
  · refine ⟨fun pins s' σ H' D I h' => ?_⟩
    obtain ⟨Ech, hW, h1, h2, h3⟩ := h'
    have hp := fun p1 p2 => act W pn xe Ech p1 p2 tk hW
    exact (pss_one (ps_expr (hp _ _))).run pins s' σ H' D I ⟨h1, h2, h3⟩
  · refine pss_len rfl (pss_when fun hcd => ?_)
    obtain ⟨rfl, rfl⟩ := hcd
    have cE := call_isE (X := (cxOf C8.CX0 X.prog X.w X.K X.mg X.base nErr "_law_error" (defScope sErr) g cdg X.A X.stack s H C8.E0).nox) (a := a) (D := CU) (oe := oe) (pn := pn) E.x hz hf
    refine pss_cons (ps_set (i := 2) scErr.nd rfl (Or.inl rfl) (pe_lst (pa_cons (pe_callB cE (by rfl) T.isinstance (by decide +kernel) (pa_cons (pv 1) (pa_cons (pe_glob (v := .ref c1) (by rfl) o1.1 rfl) pa_nil))) (pa_cons (pe_callB cE (by rfl) T.isinstance (by decide +kernel) (pa_cons (pv 1) (pa_cons (pe_glob (v := .ref c2) (by rfl) o2.1 rfl) pa_nil)))
        (pa_cons (pe_callB cE (by rfl) T.isinstance (by decide +kernel) (pa_cons (pv 1) (pa_cons (pe_glob (v := .ref c3) (by rfl) o3.1 rfl) pa_nil))) pa_nil)))))
      (pss_cons (ps_set (i := 2) scErr.nd rfl (Or.inl rfl) (pe_op op_cat (pv 2) (pe_lst (pa_cons (pe_callB cE (by rfl) T.isinstance (by decide +kernel) (pa_cons (pv 1) (pa_cons (pe_glob (v := .ref c4) (by rfl) o4.1 rfl) pa_nil))) (pa_cons (pe_callB cE (by rfl) T.isinstance (by decide +kernel) (pa_cons (pv 1) (pa_cons (pe_glob (v := .ref c5) (by rfl) o5.1 rfl) pa_nil)))
        (pa_cons (pe_callB cE (by rfl) T.isinstance (by decide +kernel) (pa_cons (pv 1) (pa_cons (pe_glob (v := .ref c6) (by rfl) o6.1 rfl) pa_nil))) pa_nil))))))
      (pss_cons (ps_set (i := 2) scErr.nd rfl (Or.inl rfl) (pe_op op_cat (pv 2) (pe_lst (pa_cons (pe_callB cE (by rfl) T.isinstance (by decide +kernel) (pa_cons (pv 1) (pa_cons (pe_glob (v := .ref CU) (by rfl) U.g rfl) pa_nil))) pa_nil))))
      (pss_cons (ps_set (i := 3) scErr.nd rfl (Or.inl rfl) (pe_lst (pa_cons pe_str (pa_cons pe_str (pa_cons pe_str (pa_cons pe_str (pa_cons pe_str (pa_cons pe_str (pa_cons pe_str pa_nil)))))))))
      (pss_cons (ps_if (PW.pt (pw_or (pt_cmpR op_ne (pe_bmK X.K (by rfl) PySem.F.plainAttrs_list PySem.F.slot_list_count PySem.F.type_list_count (mt_countD X.K (by rfl) hu64) (pv 2) (pa_cons pe_bl pa_nil)) pe_int (nomark _))
          (pw_or1 (pt_not (pt_val (pe_callB cE (by rfl) T.isinstance (by decide +kernel) (pa_cons (pv 1) (pa_cons (pe_bltn (v := .ty "ValueError") (by rfl) E.mv (by decide +kernel) rfl) pa_nil)))))))) pss_dead pss_nil)
      (pss_cons (ps_set (i := 4) scErr.nd rfl (Or.inl rfl) (pe_ix (ix_listK X.K (by rfl)) (pv 3) (pe_bmK X.K (by rfl) PySem.F.plainAttrs_list PySem.F.slot_list_index PySem.F.type_list_index (mt_indexK X.K (by rfl)) (pv 2) (pa_cons pe_bl pa_nil)) (fun _ _ => rfl)))
      (pss_cons (ps_if (pt_cmpR op_eq (pv 4) pe_str (nomark _)) pss_dead pss_nil)
      (pss_one (ps_ret (pe_ifExp (pt_cmpR op_eq (pv 4) pe_str (nomark _)) pe_dead (pv 4))))))))))
  · refine ⟨fun cls d H' => cls = .ref CU ∧ d = none ∧ ∀ H'', Same H' H'' → Q (.str "UnknownCell") H'', ?_, rfl, hc, h⟩
    rintro cls d σ' H' ⟨rfl, rfl, hq⟩
    refine ⟨true, eM, fun _ a ha hlen => ⟨⟨rfl, rfl⟩, ?_⟩, fun z => nomatch z⟩
    obtain ⟨s0, s1, s2, s3, s4, rfl⟩ : ∃ s0 s1 s2 s3 s4, σ' = [s0, s1, s2, s3, s4] := by
      rw [List.length_set] at hlen
      match σ', hlen with
      | [a, b, c, d, e], _ => exact ⟨a, b, c, d, e, rfl⟩
    refine ⟨_, rfl, _, .ref c1, false, rfl, (fun _ r => r), o1.2, _, rfl, _, .ref c2, false, rfl, (fun _ r => r), o2.2, _, rfl, _, .ref c3, false, rfl, (fun _ r => r), o3.2, (by show 3 ≤ sizeLine; decide), fun l1 n1 => ?_⟩
    refine ⟨_, rfl, _, rfl, _, .ref c4, false, rfl, (fun _ r => r), o4.2, _, rfl, _, .ref c5, false, rfl, (fun _ r => r), o5.2, _, rfl, _, .ref c6, false, rfl, (fun _ r => r), o6.2, (by show 3 ≤ sizeLine; decide), fun l2 n2 => ?_⟩
    have e1 := same_new (o := .lst [V.bl false, V.bl false, V.bl false]) n1
    have e2 := same_new (o := .lst [V.bl false, V.bl false, V.bl false]) n2
    refine ⟨l1, l2, _, _, rfl, rfl, e2 _ _ upd_same, upd_same, (by show 6 ≤ sizeLine; decide), fun l3 n3 => ?_⟩
    have e3 := same_new (o := .lst ([V.bl false, V.bl false, V.bl false] ++ [V.bl false, V.bl false, V.bl false])) n3
    refine ⟨_, rfl, _, rfl, _, .ref CU, true, rfl, (fun _ r => r), E.u, (by show 1 ≤ sizeLine; decide), fun l4 n4 => ?_⟩
    have e4 := same_new (o := .lst [V.bl true]) n4
    refine ⟨l3, l4, _, _, rfl, rfl, e4 _ _ upd_same, upd_same, (by show 7 ≤ sizeLine; decide), fun l5 n5 => ?_⟩
    have e5 := same_new (o := .lst (([V.bl false, V.bl false, V.bl false] ++ [V.bl false, V.bl false, V.bl false]) ++ [V.bl true])) n5
    refine ⟨(by show 7 ≤ sizeLine; decide), fun l6 n6 => ?_⟩
    have e6 := same_new (o := .lst [V.str "InvalidIsland", V.str "InvalidMap", V.str "InvalidNumber", V.str "NoBeginning", V.str "NoWay", V.str "TooMany", V.str "UnknownCell"]) n6
    have h5 := e6 _ _ (upd_same (a := l5) (o := .lst (([V.bl false, V.bl false, V.bl false] ++ [V.bl false, V.bl false, V.bl false]) ++ [V.bl true])))
    have dp5 := Dp.lst (K := X.K) (SqL.of h5) (DpAll.cons (.bl false) (.cons (.bl false) (.cons (.bl false) (.cons (.bl false) (.cons (.bl false) (.cons (.bl false) (.cons (.bl true) .nil)))))))
    have sh : SeqAt.shaped (.list [.bool false, .bool false, .bool false, .bool false, .bool false, .bool false, .bool true]) = true := by decide
    refine ⟨_, rfl, .inl ⟨rfl, _, SqL.of h5⟩, l5, .bl true, .bool true, _, rfl, rfl, dp5, .bl true, sh, by decide, rfl, _, rfl, ite2 (fun z => ?_) fun _ => ?_⟩
    · have : (List.countP (fun z => PyData.eqv z (.bool true)) [.bool false, .bool false, .bool false, .bool false, .bool false, .bool false, .bool true]) = 1 := by decide
      rw [this] at z
      rw [Bool.not_eq_true', decide_eq_false_iff_not] at z
      exact z rfl
    · refine ⟨_, rfl, .ty "ValueError", .type "ValueError", true, rfl, (fun _ r => r), E.v, _, rfl, ite2 (fun z => nomatch z) fun _ => ?_⟩
      refine ⟨_, rfl, _, rfl, .inl ⟨rfl, _, SqL.of h5⟩, l5, _, .bl true, 6, .bl true, rfl, rfl, SqL.of h5, rfl, rfl, rfl, rfl, fun m z' hm hz => ?_, l6, _, 6, .str "UnknownCell", rfl, rfl, SqL.of upd_same, rfl, ?_⟩
      · have : m = 0 ∨ m = 1 ∨ m = 2 ∨ m = 3 ∨ m = 4 ∨ m = 5 := by omega
        rcases this with rfl | rfl | rfl | rfl | rfl | rfl <;> (cases hz; rfl)
      · have ne1 : ¬ decide (V.str "UnknownCell" = V.str "InvalidIsland") = true := fun z => by
          have z := of_decide_eq_true z
          injection z with z
          exact absurd z (by decide)
        have ne2 : ¬ decide (V.str "UnknownCell" = V.str "InvalidMap") = true := fun z => by
          have z := of_decide_eq_true z
          injection z with z
          exact absurd z (by decide)
        refine ⟨_, rfl, rfl, _, rfl, ite2 (fun z => absurd z ne1) fun _ => ?_⟩
        refine ⟨_, rfl, rfl, _, rfl, ite2 (fun z => absurd z ne2) fun _ => ⟨_, rfl, hq _ ?_⟩⟩
        exact e1.trans (e2.trans (e3.trans (e4.trans (e5.trans e6))))
end Wk
set_option Elab.async false
set_option linter.all false
set_option maxRecDepth 100000
set_option maxHeartbeats 4000000
namespace Wk
open PySem PySem.Spec PyProof.Rows L2
theorem Tabs.keep {T : List (Addr × Str)} {H H' : Hp} {b l : Addr} (t : LamX.Tabs T H) (hB : BoxAt H b l) (k : Keep b l H H') : LamX.Tabs T H' := fun p hp => by
  obtain ⟨ps, h1, h2, h3⟩ := t p hp
  refine ⟨ps, k.get hB h1 (fun _ z => nomatch z), h2, fun pos cv hc => ?_⟩
  obtain ⟨c, e1, e2⟩ := h3 pos cv hc
  refine ⟨c, e1, k.get hB e2 (fun _ z => ?_)⟩
  unfold LamX.CodeO at z
  cases z
theorem Cells.keep {H H' : Hp} {b l : Addr} {vs : List V} {cs : List Cell} (h : Cells H vs cs) (hB : BoxAt H b l) (k : Keep b l H H') : Cells H' vs cs := h.mono fun a xs e => k.get hB e (fun _ z => nomatch z)
/-- what stands while the law runs: the box, the island, its rows, the list of its cells, the tables -/
structure LSt (T : List (Addr × Str)) (C p r q b l : Addr) (rows : List Str) (cv : List V) (cs : List Cell) (H : Hp) : Prop where
  box : BoxAt H b l
  isl : IslAt C H p rows
  row : RowsAt H r rows
  cel : H q = some (.lst cv)
  cls : Cells H cv cs
  tab : LamX.Tabs T H
theorem LSt.same {T : List (Addr × Str)} {C p r q b l : Addr} {rows : List Str} {cv : List V} {cs : List Cell} {H H' : Hp} (h : LSt T C p r q b l rows cv cs H) (e : Same H H') : LSt T C p r q b l rows cv cs H' :=
  ⟨h.box.same e, h.isl.same e, e _ _ h.row, e _ _ h.cel, h.cls.mono (Tups.of e), h.tab.ext e⟩
theorem LSt.ext {T : List (Addr × Str)} {C p r q b l : Addr} {rows : List Str} {cv : List V} {cs : List Cell} {H H' : Hp} (h : LSt T C p r q b l rows cv cs H) (e : LamX.ExtN H H') (t : LamX.Tabs T H') : LSt T C p r q b l rows cv cs H' := by
  obtain ⟨z, ns, b1, b2, b3⟩ := h.box
  obtain ⟨dx, r', i1, i2⟩ := h.isl
  exact ⟨⟨z, ns, e _ _ b1 (fun _ z => nomatch z), e _ _ b2 (fun _ z => nomatch z), b3⟩, ⟨dx, r', e _ _ i1 (fun _ z => nomatch z), e _ _ i2 (fun _ z => nomatch z)⟩, e _ _ h.row (fun _ z => nomatch z), e _ _ h.cel (fun _ z => nomatch z), h.cls.mono (LT.ext e).t, t⟩
theorem LSt.keep {T : List (Addr × Str)} {C p r q b l : Addr} {rows : List Str} {cv : List V} {cs : List Cell} {H H' : Hp} (h : LSt T C p r q b l rows cv cs H) (n1 : q ≠ b) (n2 : q ≠ l) (k : Keep b l H H') (hB : BoxAt H' b l) : LSt T C p r q b l rows cv cs H' := by
  obtain ⟨dx, r', i1, i2⟩ := h.isl
  exact ⟨hB, ⟨dx, r', k.get h.box i1 (fun _ z => nomatch z), k.get h.box i2 (fun _ z => nomatch z)⟩, k.get h.box h.row (fun _ z => nomatch z), k _ _ n1 n2 h.cel, h.cls.keep h.box k, Tabs.keep h.tab h.box k⟩
theorem LSt.put {T : List (Addr × Str)} {C p r q b l l1 : Addr} {rows : List Str} {cv xs ys : List V} {cs : List Cell} {H : Hp} (h : LSt T C p r q b l rows cv cs H) (hl : H l1 = some (.lst xs)) (n1 : l1 ≠ b) (n2 : l1 ≠ l) (n3 : l1 ≠ q) : LSt T C p r q b l rows cv cs (upd H l1 (.lst ys)) := by
  have k : ∀ a o, H a = some o → (∀ zs, o ≠ .lst zs) → upd H l1 (.lst ys) a = some o := fun a o e n => by
    rw [upd_ne (fun z => ?_)]
    · exact e
    · rw [z, hl] at e
      exact n xs (Option.some.inj e).symm
  obtain ⟨dx, r', i1, i2⟩ := h.isl
  refine ⟨h.box.upd n1 n2, ⟨dx, r', k _ _ i1 (fun _ z => nomatch z), k _ _ i2 (fun _ z => nomatch z)⟩, k _ _ h.row (fun _ z => nomatch z), ?_, h.cls.mono fun a ts e => k _ _ e (fun _ z => nomatch z), fun p hp => ?_⟩
  · rw [upd_ne n3.symm]
    exact h.cel
  · obtain ⟨ps, h1, h2, h3⟩ := h.tab p hp
    refine ⟨ps, k _ _ h1 (fun _ z => nomatch z), h2, fun pos cv hc => ?_⟩
    obtain ⟨c, e1, e2⟩ := h3 pos cv hc
    refine ⟨c, e1, k _ _ e2 (fun _ z => ?_)⟩
    unfold LamX.CodeO at z
    cases z
theorem alv_cells {H : Hp} {a b : Addr} {u : List Cell} (h1 : ListAt H a u) (h2 : ListAt H b u) (hl : u.length ≤ 100) : AlV H 2 (.ref a) (.ref b) := by
  obtain ⟨xs, a1, a2⟩ := h1
  obtain ⟨ys, b1, b2⟩ := h2
  refine .lst a1 b1 (a2.length.trans b2.length.symm) (by rw [a2.length]; exact hl) fun i x y hx hy => ?_
  obtain ⟨c, hc, cx⟩ := a2.get hx
  obtain ⟨c', hc', cy⟩ := b2.get hy
  rw [hc] at hc'
  obtain rfl := Option.some.inj hc'
  obtain ⟨ax, rfl, hax⟩ := cx
  obtain ⟨ay, rfl, hay⟩ := cy
  refine .tup hax hay rfl (by show 2 ≤ 100; decide) fun j x y hx hy => ?_
  rw [hx] at hy
  obtain rfl := Option.some.inj hy
  have : j = 0 ∨ j = 1 := by
    have := (List.getElem?_eq_some_iff.mp hx).1
    have this : j < 2 := this
    omega
  rcases this with rfl | rfl
  · cases hx
    exact .int _ _
  · cases hx
    exact .int _ _
theorem reach_lt {L : Cell → Bool} {s c : Cell} {n : Nat} {fr : List (Cell × Nat)} (hU : ∀ c, L c = true → c ∈ places) (nd : (keys fr).Nodup) (hk : ∀ o, o ∈ keys fr ↔ ∃ n, Di L s o n) (d : Di L s c n) : n < 36 := by
  have h1 := nodup_le (l := List.range (n + 1)) (m := (keys fr).map fun c => (dOf L s c).getD 0) List.nodup_range fun i hi => by
    have hi := List.mem_range.mp hi
    obtain ⟨b, hb⟩ := d.up i (by omega)
    refine List.mem_map.mpr ⟨b, (hk b).mpr ⟨i, hb⟩, ?_⟩
    rw [dOf_some.mpr hb]
    rfl
  have h2 := keys_len hU nd fun c hc => (hk c).mp hc
  unfold keys at h1
  rw [List.length_range, List.length_map, List.length_map] at h1
  omega
theorem scal_dV (o : Option Nat) : scal (dV o) (dV o) = true := by
  cases o <;> rfl
theorem Rect.wrong1 {rows : List Str} {wd : Nat} (R : Rect rows wd) : landB rows (-1, 0) = false := by
  unfold landB
  rw [R.out (.inl (fun z => by have z1 : (0 : Int) ≤ -1 := z.1; omega))]
  rfl
theorem Rect.wrong2 {rows : List Str} {wd : Nat} (R : Rect rows wd) : landB rows (0, (wd : Int)) = false := by
  unfold landB
  rw [R.out (.inr (fun z => by have z1 : (wd : Int) < (wd : Int) := z.2; omega))]
  rfl
abbrev sLaw : Stmt := top 32
abbrev nLaw : List Str := ["_law_script", "_law_box", "_law_rows_here", "_law_cells", "_law_turn", "_law_routes_here", "_law_other", "_law_due", "_law_errors", "_law_island", "_law_one", "_law_wrong"]
theorem scLaw : FnScope nLaw ["_law_script"] (defScope sLaw) := ⟨rfl, rfl, rfl, by decide +kernel, rfl, by decide +kernel, by decide +kernel⟩
def spLaw (K : PySem.W.Frag) (T : List (Addr × Str)) : Sp := fun vs H Q _ => ∃ (a : Addr) (ns : List Int), vs = [.ref a] ∧ SqL K H a (ns.map V.int) ∧ ns.length ≤ 63 ∧ LamX.Tabs T H ∧ ∀ H', Q (.bl true) H'
theorem len_le : ∀ {n : Nat}, n ≤ 60 → n ≤ sizeLine := fun h => Nat.le_trans h (by decide)
section
variable {P : Program} {w : World} {K : PySem.W.Frag} {mg : Str → Option Value} {base : Heap}
theorem ok_law {Tl : List (Addr × Str)} {C CU fL fI fC pC fh fn fv fi fd_ fr fb ft fw fs fx fe fo fa cL PL cR PR : Addr} {fdL fdI fdC fdh fdn fdv fdi fdd fdr fdb fdt fdw fds fdx fde fdo fda : FuncData}
    (DL : DF K mg "law" sLaw ["_law_script"] fL fdL) (IT : IslT K mg C) (MkI : Mk K C fI) (FI : MF K C "__init__" "Island.__init__" iInit ["self", "rows"] fI fdI) (FC : MF K C "cells" "Island.cells" iCells ["self"] fC fdC) (PC : PropOf K C "cells" pC fC)
    (N : NbT K mg fn fdn fh fdh C) (VT : ValT K mg fv fdv CU) (DT : DF K mg "distances" sDis ["island", "cell"] fi fdi) (Dd : DF K mg "distance" sDst ["island", "one", "other"] fd_ fdd) (Dr : DF K mg "route" sRt ["island", "one", "other"] fr fdr)
    (Db : DF K mg "_law_begun" sBegun ["_law_script"] fb fdb) (Dt : DF K mg "_law_take" sTake ["_law_box", "_law_many"] ft fdt) (Dw : DF K mg "_law_rows" sRows ["_law_box", "_law_most"] fw fdw) (Ds : DF K mg "_law_sign" sSign ["_law_rows_here", "_law_cell"] fs fds) (Dx : DF K mg "_law_next" sNext ["_law_cell", "_law_facing"] fx fdx)
    (De : DF K mg "_law_error" sErr ["_law_work"] fe fde) (Do : DF K mg "_law_routes" sRts ["_law_rows_here", "_law_cell"] fo fdo) (Da : DF K mg "_law_alike" sAl ["_law_found", "_law_due"] fa fda) (ET : ErrT K mg CU)
    (TL : TabF K mg base Tl "law" sLaw fdL cL PL) (TR : TabF K mg base Tl "_law_routes" sRts fdo cR PR) : FnOk P w K mg base (L2.CX P w) 7 fL fdL ["_law_script"] (spLaw K Tl) := by
  have T := IT.toTT1
  have GI : FnOk P w K mg base (L2.CX P w) 1 fI fdI ["self", "rows"] (spInit C) := ok_init FI.F IT
  have GC : FnOk P w K mg base (L2.CX P w) 1 fC fdC ["self"] (spCells C) := ok_cells FC.F IT
  have GB : FnOk P w K mg base (L2.CX P w) 1 fb fdb ["_law_script"] (spBegun K) := ok_begun Db.F T
  have GT : FnOk P w K mg base (L2.CX P w) 1 ft fdt ["_law_box", "_law_many"] spTake := ok_take Dt.F T.toTT0
  have GW : FnOk P w K mg base (L2.CX P w) 2 fw fdw ["_law_box", "_law_most"] spRows := ok_rows Dw Dt T
  have GD : FnOk P w K mg base (L2.CX P w) 4 fd_ fdd ["island", "one", "other"] (spDst C CU) := ok_dst Dd.F IT N VT DT
  have GR : FnOk P w K mg base (L2.CX P w) 4 fr fdr ["island", "one", "other"] (spRt C CU) := ok_rt Dr.F IT N VT DT
  have GO : FnOk P w K mg base (L2.CX P w) 5 fo fdo ["_law_rows_here", "_law_cell"] (spRts Tl) := ok_rts Do T Dx Ds TR
  have GA : FnOk P w K mg base (L2.CX P w) 4 fa fda ["_law_found", "_law_due"] (spA 3) := ok_alS Da T (ok_alS Da T (ok_alS Da T ok_al0))
  have bE := De.b
  have kE := De.F.kp
  have mE := De.m
  obtain ⟨oc, od, kV, doc, pm, an, cdv, ct, osl, rfl, lkE, hcdE⟩ := De.F.ex
  refine okCode DL.F scLaw (fun vs H Q E h => ?_) (fun A outer s H vs Q E hr h => ?_)
  · obtain ⟨a, ns, rfl, _⟩ := h
    rfl
  · obtain ⟨a, ns, rfl, hS, hl63, hT, q⟩ := h
    have hu := hu_of hr
    have hu64 : (A.deeper (envOfC "law" (defScope sLaw) s.heap.objs.size fL fdL.code)).units + 64 < cLine := by have := hr.un; omega
    have r1 : Room 1 (A.deeper (envOfC "law" (defScope sLaw) s.heap.objs.size fL fdL.code)) := hr.mono (by decide)
    have r2 : Room 2 (A.deeper (envOfC "law" (defScope sLaw) s.heap.objs.size fL fdL.code)) := hr.mono (by decide)
    have r4 : Room 4 (A.deeper (envOfC "law" (defScope sLaw) s.heap.objs.size fL fdL.code)) := hr.mono (by decide)
    have r5 : Room 5 (A.deeper (envOfC "law" (defScope sLaw) s.heap.objs.size fL fdL.code)) := hr.mono (by decide)
    have mkLam : ∀ {params : Arguments} {body : Expr} {scope : Scope} {t : XK → TE} {p lpos pos : Pos}, LamX.LamS (defScope sLaw) scope → defaultsOf params (cxOf (L2.CX P w) P w K mg base nLaw "law" (defScope sLaw) fL fdL.code A outer s H E).nox.env = ([], []) →
        (∀ (q : Str) (cl : List (Str × Addr)) (pm cv ctv : Value), bindArgs (PySem.W.kla_fn "<lambda>" q params body scope cl pm cv ctv) ⟨[], []⟩ = pure []) →
        (∀ (A' : Around) (outer' : List Env) (s' : Shared) (H' : Hp) (E' : XK) (f c' : Addr), Room 4 (A'.deeper (LamX.lamEnv (cxOf (L2.CX P w) P w K mg base nLaw "law" (defScope sLaw) fL fdL.code A outer s H E).nox scope s'.heap.objs.size f c')) →
          PE (LamX.lamCx (cxOf (L2.CX P w) P w K mg base nLaw "law" (defScope sLaw) fL fdL.code A outer s H E).nox A' outer' s' H' E' scope f c') body (t E')) →
        PE (cxOf (L2.CX P w) P w K mg base nLaw "law" (defScope sLaw) fL fdL.code A outer s H E).nox (.Call (.Name "_law_error" p) [.Lambda params body scope lpos] [] pos) (LamX.tLam Tl (TErr CU) t) := by
      intro params body scope t p lpos pos hL hdef hbind hbody
      have hG : LamX.GivesTo (cxOf (L2.CX P w) P w K mg base nLaw "law" (defScope sLaw) fL fdL.code A outer s H E).nox nErr "_law_error" (defScope sErr) fe cdv (defBody sErr) "_law_work" ((cxOf (L2.CX P w) P w K mg base nLaw "law" (defScope sLaw) fL fdL.code A outer s H E).nox.env.qual ++ "<lambda>") (TErr CU) :=
        err_gives (X := (cxOf (L2.CX P w) P w K mg base nLaw "law" (defScope sLaw) fL fdL.code A outer s H E).nox) (k := 5) T VT.U ET hr
      exact LamX.pe_lamcall (X := (cxOf (L2.CX P w) P w K mg base nLaw "law" (defScope sLaw) fL fdL.code A outer s H E).nox) (k := 4) rfl mE kE lkE hcdE bE scErr rfl (Or.inl rfl) hG TL.tb TL.code TL.mem TL.one hr hL hdef hbind hbody
    refine ⟨_, PSs.nox (pss_cons (ps_set (i := 1) scLaw.nd rfl (Or.inl rfl) (pe_call GB r1 (by rfl) Db.m Db.F.kp Db.b .nil passL (pa_cons (pv 0) pa_nil)))
      (pss_cons (ps_set (i := 2) scLaw.nd rfl (Or.inl rfl) (pe_call GW r2 (by rfl) Dw.m Dw.F.kp Dw.b .nil passL (pa_cons (pv 1) (pa_cons pe_int pa_nil))))
      (pss_cons (ps_set (i := 9) scLaw.nd rfl (Or.inr rfl) (pe_make MkI GI r2 (by rfl) IT.mgC FI.b .nil passL (pa_cons (pv 2) pa_nil)))
      (pss_cons (ps_set (i := 3) scLaw.nd rfl (Or.inl rfl) (pe_prop (pv 9) IT.cl PC GC r2 FC.b .nil passL rfl))
      (pss_cons (ps_for PassesOwn.never rfl (pi_range1 (by rfl) T.range (pa_cons (pe_op op_mul pe_int (pe_callTy call_int1 (by rfl) T.int (by decide +kernel) (pa_cons (pe_cmpR (op_neNil hu64) (pv 3) (pe_lst pa_nil) (nomark _)) pa_nil))) pa_nil)) (pg_name (i := 4) scLaw.nd rfl (Or.inl rfl))
        (pss_cons (ps_set (i := 10) scLaw.nd rfl (Or.inr rfl) (pe_ix ix_list (pv 3) (pe_call GT r1 (by rfl) Dt.m Dt.F.kp Dt.b .nil passL (pa_cons (pv 1) (pa_cons (pe_callB call_len_seq (by rfl) T.len PySem.boot_len (pa_cons (pv 3) pa_nil)) pa_nil))) (fun _ _ => rfl)))
        (pss_cons (ps_set (i := 5) scLaw.nd rfl (Or.inl rfl) (pe_call GO r5 (by rfl) Do.m Do.F.kp Do.b .nil passL (pa_cons (pv 2) (pa_cons (pv 10) pa_nil))))
        (pss_cons (ps_for PassesOwn.never rfl (pi_list (pv 3)) (pg_name (i := 6) scLaw.nd rfl (Or.inl rfl))
          (pss_cons (ps_set (i := 7) scLaw.nd rfl (Or.inl rfl) (pe_dget2 hu (pv 5) (pv 6) pe_non ⟨by rfl, by rfl, by rfl, by rfl⟩))
          (pss_cons (ps_if (pt_not (pt_val (pe_call GA r4 (by rfl) Da.m Da.F.kp Da.b .nil passL (pa_cons (pe_call GD r4 (by rfl) Dd.m Dd.F.kp Dd.b .nil passL (pa_cons (pv 9) (pa_cons (pv 10) (pa_cons (pv 6) pa_nil)))) (pa_cons (pe_ifExp (pt_cmpR op_notN (pv 7) pe_non (nomark _)) (pe_op op_sub (pe_callB call_len_seq (by rfl) T.len PySem.boot_len (pa_cons (pv 7) pa_nil)) pe_int) pe_non) pa_nil))))) pss_dead pss_nil)
          (pss_cons (ps_if (pt_not (pt_val (pe_call GA r4 (by rfl) Da.m Da.F.kp Da.b .nil passL (pa_cons (pe_call GR r4 (by rfl) Dr.m Dr.F.kp Dr.b .nil passL (pa_cons (pv 9) (pa_cons (pv 10) (pa_cons (pv 6) pa_nil)))) (pa_cons (pv 7) pa_nil))))) pss_dead pss_nil)
          (pss_one (ps_if (pt_cmpR op_ne (pe_call GD r4 (by rfl) Dd.m Dd.F.kp Dd.b .nil passL (pa_cons (pv 9) (pa_cons (pv 6) (pa_cons (pv 10) pa_nil)))) (pe_call GD r4 (by rfl) Dd.m Dd.F.kp Dd.b .nil passL (pa_cons (pv 9) (pa_cons (pv 10) (pa_cons (pv 6) pa_nil)))) (nomark _)) pss_dead pss_nil))))))
        (pss_one (ps_for PassesOwn.never rfl (pi_tup (pe_tup (pa_cons (pe_tup (pa_cons (pe_un un_neg pe_int) (pa_cons pe_int pa_nil))) (pa_cons (pe_tup (pa_cons pe_int (pa_cons (pe_callB call_len_str (by rfl) T.len PySem.boot_len (pa_cons (pe_ix ix_tup (pv 2) pe_int (fun _ _ => rfl)) pa_nil)) pa_nil))) pa_nil)))) (pg_name (i := 11) scLaw.nd rfl (Or.inr rfl))
          (pss_cons (ps_set (i := 8) scLaw.nd rfl (Or.inl rfl) (pe_lst (pa_cons
            (mkLam (t := fun E => tCall (spDst C CU) [] E (tCons (tVar 9) (tCons (tVar 10) (tCons (tVar 11) tNil)))) (LamX.lamS_by (sc := defScope sLaw) (by decide +kernel)) rfl (fun _ _ _ _ _ => by rfl)
              (fun A outer s H E f c' hr2 => pe_call GD hr2 (by rfl) Dd.m Dd.F.kp Dd.b .nil (passes_call (takes_of rfl rfl rfl rfl) (fun _ _ _ _ h => h)) (pa_cons (pv 9) (pa_cons (pv 10) (pa_cons (pv 11) pa_nil))))) pa_nil)))
          (pss_cons (ps_expr (pe_bm PySem.F.plainAttrs_list PySem.F.slot_list_append PySem.F.type_list_append mt_append (pv 8) (pa_cons
            (mkLam (t := fun E => tCall (spRt C CU) [] E (tCons (tVar 9) (tCons (tVar 11) (tCons (tVar 10) tNil)))) (LamX.lamS_by (sc := defScope sLaw) (by decide +kernel)) rfl (fun _ _ _ _ _ => by rfl)
              (fun A outer s H E f c' hr2 => pe_call GR hr2 (by rfl) Dr.m Dr.F.kp Dr.b .nil (passes_call (takes_of rfl rfl rfl rfl) (fun _ _ _ _ h => h)) (pa_cons (pv 9) (pa_cons (pv 11) (pa_cons (pv 10) pa_nil))))) pa_nil)))
          (pss_one (ps_if (pt_cmpR (op_neD hu64) (pv 8) (pe_op op_rep (pe_lst (pa_cons pe_str pa_nil)) pe_int) (nomark _)) pss_dead pss_nil))))))))))
      (pss_one (ps_ret pe_bl))))))), ?_⟩
    have two : 2 ≤ sizeLine := by decide
    refine ⟨_, rfl, a, ns, rfl, hS, hl63, fun H1 b l e1 b0 l0 B1 => ?_⟩
    have t1 := hT.ext e1
    refine ⟨_, rfl, b, l, rfl, B1, fun H2 r rows wd R k2 B2 hR r0 => ?_⟩
    have t2 := Tabs.keep t1 B1 k2
    have hU : ∀ o, landB rows o = true → o ∈ places := fun o ho => land_places R ho
    refine ⟨_, rfl, fun x dx nx ndx nex => ?_⟩
    have s2 : Same H2 (upd (upd H2 dx (.own x)) x (.ins C dx [])) := fun u o e => by
      rw [upd_ne (ne_of_none e nx), upd_ne (ne_of_none e ndx)]
      exact e
    refine ⟨x, dx, r, rows, wd, rfl, upd_same, s2 _ _ hR, R, fun H3 k3 hx => ⟨rfl, ?_⟩⟩
    have s3 : Same H2 H3 := fun u o e => k3 u o (ne_of_none e nx) (s2 _ _ e)
    have hI3 : IslAt C H3 x rows := ⟨dx, r, hx, s3 _ _ hR⟩
    have B3 := B2.same s3
    refine ⟨_, rfl, x, dx, _, rfl, hx, x, rows, wd, rfl, hI3, R, fun H4 qa cs e4 q0 hlst hland h36 => ?_⟩
    obtain ⟨cv, hq, hcs⟩ := hlst
    obtain ⟨qb, ql⟩ := B3.off q0
    have L4 : LSt Tl C x r qa b l rows cv cs H4 := ⟨B3.same e4, hI3.same e4, e4 _ _ (s3 _ _ hR), hq, hcs, (t2.ext s3).ext e4⟩
    refine ⟨_, rfl, Nat.zero_le _, fun pp hpp => ⟨_, pp, rfl, upd_same, dp_same (same_new hpp) (.lst (SqL.of hq) hcs.dp), csD_shaped cs, .inr ⟨_, rfl, _, _, rfl, rfl, .inl ⟨by decide, by decide⟩, _, rfl, ?_⟩⟩⟩
    have L5 := L4.same (same_new (o := .lst []) hpp)
    have hcv : cv.length = cs.length := hcs.length
    generalize hkk : (if (true : Bool) = true then !(cs.map cD).isEmpty else (cs.map cD).isEmpty) = kk
    refine ⟨by cases kk <;> decide, by cases kk <;> decide, for_range (lo := 0) (fun i σ H' => ∃ v4 v5 v6 v7 v8 v10 v11, σ = [some (V.ref a), some (V.ref b), some (V.ref r), some (V.ref qa), v4, v5, v6, v7, v8, some (V.ref x), v10, v11] ∧ LSt Tl C x r qa b l rows cv cs H')
      ⟨_, _, _, _, _, _, _, rfl, L5⟩ ?_ ?_⟩
    · rintro i σ H6 hi ⟨v4, v5, v6, v7, v8, v10, v11, rfl, L6⟩
      have hpos : 0 < cs.length := by
        cases cs with
        | nil =>
          have : kk = false := by rw [← hkk]; rfl
          rw [this] at hi
          exact absurd (show i < 0 from hi) (Nat.not_lt_zero i)
        | cons c r => simp
      refine ⟨_, rfl, _, rfl, _, rfl, qa, cv, rfl, .inl (SqL.of L6.cel), b, l, _, rfl, L6.box, by omega, by omega, fun H7 rr a0 am k7 B7 => ?_⟩
      have L7 := L6.keep qb ql k7 B7
      have hrr : rr.toNat < cs.length := by omega
      obtain ⟨v1, hv1, cv1⟩ := L7.cls.at (i := rr.toNat) (List.getElem?_eq_getElem hrr)
      generalize hc1 : cs[rr.toNat] = c1 at cv1
      have land1 : landB rows c1 = true := hland c1 (by rw [← hc1]; exact List.getElem_mem hrr)
      refine ⟨qa, cv, rr, v1, rfl, rfl, SqL.of L7.cel, atIn a0 hv1, ?_⟩
      refine ⟨_, rfl, _, rfl, r, rows, wd, v1, c1, rfl, L7.row, R, cv1, land1, L7.tab, fun H8 d fr e8 T8 d0 hd nd hws hks => ?_⟩
      have L8 := L7.ext e8 T8
      have cv8 := cv1.mono (LT.ext e8).t
      refine ⟨_, rfl, qa, rfl, ⟨_, SqL.of L8.cel⟩, for_list (K := K) (a := qa) (xs := cv) (fun j σ H' => ∃ v6 v7, σ = [some (V.ref a), some (V.ref b), some (V.ref r), some (V.ref qa), some (V.int (0 + (i : Nat))), some (V.ref d), v6, v7, v8, some (V.ref x), some v1, v11] ∧ Same H8 H')
        ⟨_, _, rfl, Same.refl _⟩ (fun _ _ _ _ ⟨_, _, _, e⟩ => SqL.of (e _ _ L8.cel)) ?_ ?_⟩
      · rintro j y σ H9 hj ⟨v6', v7', rfl, e9⟩
        obtain ⟨c2, hc2, hy⟩ := L8.cls.get hj
        have land2 : landB rows c2 = true := hland c2 (List.mem_of_getElem? hc2)
        have hy9 := hy.mono (Tups.of e9)
        obtain ⟨yb, rfl, hyb⟩ := id hy9
        have nof : ∀ {H' : Hp}, landB rows c1 = false → E0 (.ref CU) none H' := fun h => by rw [land1] at h; cases h
        have nof2 : ∀ {H' : Hp}, landB rows c2 = false → E0 (.ref CU) none H' := fun h => by rw [land2] at h; cases h
        have nn : ¬ (!decide (V.non = V.non)) = true := fun z => by
          rw [decide_eq_true rfl] at z
          cases z
        have rn : ∀ a : Addr, (!decide (V.ref a = V.non)) = true := fun a => by
          rw [decide_eq_false (fun z => nomatch z)]
          rfl
        -- the last of the three
        have last : ∀ (v7 : V) (H12 : Hp), Same H8 H12 → _ := fun v7 H12 e12 =>
          (⟨_, rfl, _, rfl, _, rfl, x, rows, wd, V.ref yb, v1, c2, c1, rfl, L8.isl.same e12, R, hy.mono (Tups.of e12), cv8.mono (Tups.of e12), fun _ _ H13 e13 => ⟨_, rfl, _, rfl, _, rfl, x, rows, wd, v1, V.ref yb, c1, c2, rfl, (L8.isl.same e12).same e13, R, (cv8.mono (Tups.of e12)).mono (Tups.of e13), (hy.mono (Tups.of e12)).mono (Tups.of e13), fun _ _ H14 e14 =>
              ⟨by rw [dOf_symm]; exact scal_dV _, _, rfl, ite2 (fun z => by
                rw [dOf_symm, decide_eq_true rfl] at z
                cases z) fun _ => ⟨_, _, rfl, (e12.trans e13).trans e14⟩⟩, nof, fun _ => nof2⟩, nof2, fun _ => nof⟩ :
            (tIfS (tTest (tOp rNe (tCall (spDst C CU) [] E0 (tCons (tVar 9) (tCons (tVar 6) (tCons (tVar 10) tNil)))) (tCall (spDst C CU) [] E0 (tCons (tVar 9) (tCons (tVar 10) (tCons (tVar 6) tNil)))))) (fun _ _ _ => False) tNext)
              { nx := fun σ H' => ∃ v6 v7, σ = [some (V.ref a), some (V.ref b), some (V.ref r), some (V.ref qa), some (V.int (0 + (i : Nat))), some (V.ref d), v6, v7, v8, some (V.ref x), some v1, v11] ∧ Same H8 H', rt := Q, bk := fun _ _ => False, ct := fun σ H' => ∃ v6 v7, σ = [some (V.ref a), some (V.ref b), some (V.ref r), some (V.ref qa), some (V.int (0 + (i : Nat))), some (V.ref d), v6, v7, v8, some (V.ref x), some v1, v11] ∧ Same H8 H' }
              [some (V.ref a), some (V.ref b), some (V.ref r), some (V.ref qa), some (V.int (0 + (i : Nat))), some (V.ref d), some (V.ref yb), some v7, v8, some (V.ref x), some v1, v11] H12)
        refine ⟨_, rfl, d, rfl, .inr ⟨_, .inl (e9 _ _ hd)⟩, _, rfl, _, DGet.t (k := kc c2) (e9 _ _ hd) hyb, ?_⟩
        rw [frk_val]
        cases el : look fr c2 with
        | none =>
          have hno : c2 ∉ keys fr := fun hm => by
            rw [← look_keys, el] at hm
            cases hm
          have hdn : dOf (landB rows) c1 c2 = none := dOf_none.mpr fun n dd => hno ((hks c2).mpr ⟨n, dd⟩)
          have hrn : rOf (landB rows) c1 c2 = none := rOf_none.mpr hdn
          refine ⟨_, rfl, _, rfl, _, rfl, x, rows, wd, v1, V.ref yb, c1, c2, rfl, L8.isl.same e9, R, cv8.mono (Tups.of e9), hy9, fun _ _ H10 e10 => ?_, nof, fun _ => nof2⟩
          rw [hdn]
          refine ⟨_, rfl, rfl, _, rfl, ite2 (fun z => absurd z nn) fun _ => ?_⟩
          refine ⟨_, _, rfl, .non _, _, rfl, ite2 (fun z => nomatch z) fun _ => ?_⟩
          refine ⟨_, rfl, _, rfl, _, rfl, x, rows, wd, v1, V.ref yb, c1, c2, rfl, (L8.isl.same e9).same e10, R, (cv8.mono (Tups.of e9)).mono (Tups.of e10), hy9.mono (Tups.of e10), fun _ _ H11 e11 => ⟨fun _ => ?_, fun w' q' h => by rw [hrn] at h; cases h⟩, nof, fun _ => nof2⟩
          refine ⟨_, rfl, _, _, rfl, .non _, _, rfl, ite2 (fun z => nomatch z) fun _ => ?_⟩
          exact last _ H11 ((e9.trans e10).trans e11)
        | some a2 =>
          obtain ⟨u, hu1, hu2⟩ := hws _ _ (look_mem el)
          have hru : rOf (landB rows) c1 c2 = some u := rOf_some.mpr hu2
          have hdu : dOf (landB rows) c1 c2 = some (u.length - 1) := by rw [dOf_rOf, hru]; rfl
          have hup := rOf_pos hru
          have hu36 := reach_lt hU nd hks (dOf_some.mp hdu)
          obtain ⟨us, hus, huc⟩ := id hu1
          have hul := huc.length
          refine ⟨_, rfl, _, rfl, _, rfl, x, rows, wd, v1, V.ref yb, c1, c2, rfl, L8.isl.same e9, R, cv8.mono (Tups.of e9), hy9, fun _ _ H10 e10 => ?_, nof, fun _ => nof2⟩
          rw [hdu]
          have e810 := e9.trans e10
          refine ⟨_, rfl, rfl, _, rfl, ite2 (fun _ => ?_) (fun z => absurd (rn a2) z)⟩
          refine ⟨_, rfl, a2, us, rfl, .inl (SqL.of (e810 _ _ hus)), _, _, rfl, rfl, ?_⟩
          have ei : V.int ((us.length : Nat) - 1 : Int) = dV (some (u.length - 1)) := by
            show V.int _ = V.int _
            congr 1
            omega
          have hAl : AlV H10 2 (dV (some (u.length - 1))) (V.int ((us.length : Nat) - 1 : Int)) := by
            rw [ei]
            exact AlV.int 2 _
          refine ⟨_, _, rfl, hAl, _, rfl, ite2 (fun z => nomatch z) fun _ => ?_⟩
          refine ⟨_, rfl, _, rfl, _, rfl, x, rows, wd, v1, V.ref yb, c1, c2, rfl, L8.isl.same e810, R, cv8.mono (Tups.of e810), hy9.mono (Tups.of e10), fun _ _ H11 e11 => ⟨(fun h => by rw [hru] at h; cases h), fun w' q' h hq0 hql => ?_⟩, nof, fun _ => nof2⟩
          rw [hru] at h
          obtain rfl := Option.some.inj h
          have e811 := e810.trans e11
          refine ⟨_, rfl, _, _, rfl, alv_cells hql (ListAt.lt (LT.of e811) hu1) (by omega), _, rfl, ite2 (fun z => nomatch z) fun _ => ?_⟩
          exact last _ H11 e811
      · rintro σ H9 ⟨v6', v7', rfl, e9⟩
        have L9 := L8.same e9
        have cv9 := cv8.mono (Tups.of e9)
        obtain ⟨z0, ez0, _, lz0⟩ := R.head
        have hwd := R.w6
        refine ⟨_, rfl, two, fun w1 n1 => ?_⟩
        have s10 := same_new (o := .tup [V.int (-1), V.int 0]) n1
        refine ⟨_, rfl, r, _, 0, _, rfl, rfl, SqT.of (s10 _ _ L9.row), atIn (by decide) (mapstr ez0), z0, rfl, by rw [lz0]; exact line6 hwd, two, fun w2 n2 => ⟨two, fun w3 n3 => ⟨w3, rfl, ⟨_, SqT.of upd_same⟩, ?_⟩⟩⟩
        have s11 := same_new (o := .tup [V.int 0, V.int (z0.length : Nat)]) n2
        have s12 := same_new (o := .tup [V.ref w1, V.ref w2]) n3
        have s9 := s10.trans (s11.trans s12)
        have cw1 : CellAt (upd (upd (upd H9 w1 (.tup [V.int (-1), V.int 0])) w2 (.tup [V.int 0, V.int (z0.length : Nat)])) w3 (.tup [V.ref w1, V.ref w2])) (V.ref w1) (-1, 0) := ⟨w1, rfl, s12 _ _ (s11 _ _ upd_same)⟩
        have cw2 : CellAt (upd (upd (upd H9 w1 (.tup [V.int (-1), V.int 0])) w2 (.tup [V.int 0, V.int (z0.length : Nat)])) w3 (.tup [V.ref w1, V.ref w2])) (V.ref w2) (0, (wd : Int)) := ⟨w2, rfl, by rw [← lz0]; exact s12 _ _ upd_same⟩
        refine for_it (walk_tup (K := K) (a := w3) (xs := [V.ref w1, V.ref w2])) (fun j σ H' => ∃ v6 v7 v8 v11, σ = [some (V.ref a), some (V.ref b), some (V.ref r), some (V.ref qa), some (V.int (0 + (i : Nat))), some (V.ref d), v6, v7, v8, some (V.ref x), some v1, v11] ∧ LSt Tl C x r qa b l rows cv cs H' ∧ H' w3 = some (.tup [V.ref w1, V.ref w2]) ∧ CellAt H' (V.ref w1) (-1, 0) ∧ CellAt H' (V.ref w2) (0, (wd : Int)) ∧ CellAt H' v1 c1)
          ⟨_, _, _, _, rfl, L9.same s9, upd_same, cw1, cw2, cv9.mono (Tups.of s9)⟩ (fun _ _ _ _ ⟨_, _, _, _, _, _, h, _⟩ => SqT.of h) ?_ ?_
        · rintro j wv σ H13 H14 hj ⟨v6'', v7'', v8', v11', rfl, L13, hw3, h1, h2, h3⟩ ⟨rfl, hwv⟩
          obtain ⟨tw, cw, rfl, htw, hlw⟩ : ∃ tw cw, wv = V.ref tw ∧ CellAt H14 (V.ref tw) cw ∧ landB rows cw = false := by
            have hj2 : j < 2 := hj
            have : j = 0 ∨ j = 1 := by omega
            rcases this with rfl | rfl
            · cases hwv
              exact ⟨w1, _, rfl, h1, R.wrong1⟩
            · cases hwv
              exact ⟨w2, _, rfl, h2, R.wrong2⟩
          have noland : ∀ {A : Prop}, landB rows cw = true → A := fun h => by rw [hlw] at h; cases h
          have land1' : ∀ {A : Prop}, landB rows c1 = false → A := fun h => by rw [land1] at h; cases h
          refine ⟨L13.tab, fun H15 e15 T15 => ?_⟩
          have L15 := L13.ext e15 T15
          have lt15 := LT.ext e15
          refine ⟨_, rfl, _, rfl, _, rfl, x, rows, wd, v1, V.ref tw, c1, cw, rfl, L15.isl, R, h3.mono lt15.t, htw.mono lt15.t, fun _ h => noland h, fun h => land1' h, fun _ _ => ⟨rfl, rfl, fun H16 e16 => ⟨(by show 1 ≤ sizeLine; decide), fun l1 nl1 => ?_⟩⟩⟩
          have L16 := L15.same e16
          have s17 := same_new (o := .lst [V.str "UnknownCell"]) nl1
          have L17 := L16.same s17
          obtain ⟨m1, m2⟩ := L16.box.off nl1
          have m3 : l1 ≠ qa := (ne_of_none L16.cel nl1).symm
          have k17 : LT H14 (upd H16 l1 (.lst [V.str "UnknownCell"])) := LT.ext (ExtN.same e15 (e16.trans s17))
          refine ⟨_, rfl, .inl ⟨rfl, _, SqL.of upd_same⟩, L17.tab, fun H18 e18 T18 => ?_⟩
          have L18 := L17.ext e18 T18
          have lt18 := LT.ext e18
          refine ⟨_, rfl, _, rfl, _, rfl, x, rows, wd, V.ref tw, v1, cw, c1, rfl, L18.isl, R, (htw.mono k17.t).mono lt18.t, (h3.mono k17.t).mono lt18.t, fun h _ => noland h, fun _ => ⟨rfl, rfl, fun H19 e19 => ?_⟩, fun h => noland h⟩
          have L19 := L18.same e19
          have hl19 : H19 l1 = some (.lst [V.str "UnknownCell"]) := e19 _ _ (lt18.l _ _ upd_same)
          refine ⟨l1, _, _, rfl, rfl, hl19, (by show 1 < sizeLine; decide), ?_⟩
          have L20 := L19.put (ys := [V.str "UnknownCell"] ++ [V.str "UnknownCell"]) hl19 m1 m2 m3
          refine ⟨_, rfl, (by show 1 ≤ sizeLine; decide), fun l2 nl2 => ⟨l2, 2, _, rfl, rfl, upd_same, by decide, by decide, (by show 1 * 2 ≤ sizeLine; decide), fun l3 nl3 => ?_⟩⟩
          have s21 := same_new (o := .lst [V.str "UnknownCell"]) nl2
          have s22 := same_new (o := .lst (List.replicate (2 : Int).toNat [V.str "UnknownCell"]).flatten) nl3
          have dU : PyData.eqv (.list [.str "UnknownCell", .str "UnknownCell"]) (.list [.str "UnknownCell", .str "UnknownCell"]) = true := by decide +kernel
          have shU : SeqAt.shaped (.list [.str "UnknownCell", .str "UnknownCell"]) = true := by decide +kernel
          refine ⟨.list [.str "UnknownCell", .str "UnknownCell"], .list [.str "UnknownCell", .str "UnknownCell"], .lst (SqL.of (s22 _ _ (s21 _ _ upd_same))) (.cons (.str _) (.cons (.str _) .nil)), .lst (SqL.of upd_same) (.cons (.str _) (.cons (.str _) .nil)), shU, shU, _, rfl, ite2 (fun z => ?_) fun _ => ?_⟩
          · rw [dU] at z
            cases z
          · have s2122 := s21.trans s22
            have tput : Tups H19 (upd H19 l1 (.lst ([V.str "UnknownCell"] ++ [V.str "UnknownCell"]))) := Tups.upd (.inr ⟨_, .inl hl19⟩)
            have tall : Tups H14 _ := k17.t.trans (lt18.t.trans ((Tups.of e19).trans (tput.trans (Tups.of s2122))))
            exact ⟨_, _, _, _, rfl, L20.same s2122, tall _ _ hw3, h1.mono tall, h2.mono tall, h3.mono tall⟩
        · rintro σ H13 ⟨v6'', v7'', v8', v11', rfl, L13, hw3, h1, h2, h3⟩
          exact ⟨_, _, _, _, _, _, _, rfl, L13⟩
    · rintro σ H6 ⟨v4, v5, v6, v7, v8, v10, v11, rfl, L6⟩
      exact q _
end
end Wk
set_option Elab.async false
set_option linter.all false
set_option maxRecDepth 100000
set_option maxHeartbeats 0
namespace Wk
open PySem PySem.Spec PyProof.Rows L2
/-! ### the head: what the top leaves, by names -/
def dOfT (x : Str) (i : Nat) : He.DefD := ⟨(x, none), x, x, defArgs (top i), defBody (top i), defScope (top i), [], []⟩
def dMeth (m q : Str) (st : Stmt) : He.DefD := ⟨("Island", some m), m, q, defArgs st, defBody st, defScope st, [], []⟩
def hFn : List He.DefD := [dOfT "law" 32, dOfT "_law_begun" 24, dOfT "_law_take" 25, dOfT "_law_alike" 26, dOfT "_law_rows" 27, dOfT "_law_sign" 28, dOfT "_law_next" 29, dOfT "_law_error" 30, dOfT "_law_routes" 31,
  dOfT "validate_cell" 16, dOfT "neighbors" 19, dOfT "distances" 20, dOfT "distance" 21, dOfT "route" 22, dMeth "__init__" "Island.__init__" iInit, dMeth "__contains__" "Island.__contains__" iHas]
def hFa : List He.Fa := [.glo "law", .glo "_law_begun", .glo "_law_take", .glo "_law_alike", .glo "_law_rows", .glo "_law_sign", .glo "_law_next", .glo "_law_error", .glo "_law_routes", .glo "validate_cell", .glo "neighbors", .glo "distances", .glo "distance", .glo "route",
  .glo "Island", .glo "UnknownCell", .glo "MapError", .glo "InvalidIsland", .glo "InvalidMap", .glo "InvalidNumber", .glo "NoBeginning", .glo "NoWay", .glo "TooMany", .glo "MOVES",
  .free "int", .free "len", .free "list", .free "range", .free "sorted", .free "min", .free "isinstance", .free "enumerate", .free "bool", .free "str", .free "tuple", .free "ValueError",
  .str "WATER" "~", .str "LAND" ".", .str "LETTERS" letters, .int "MAX_SIZE" 12, .cls "Island", .noat "Island" "own_rows", .mkr "Island", .meth "Island" "__contains__", .exc "UnknownCell", .exm "UnknownCell" "MapError" true]
def cellsP (K : PySem.W.Frag) : Addr := He.ma K (He.ga K "Island") "cells"
def cellsG (K : PySem.W.Frag) : Addr := match PySem.W.recIn K (cellsP K) "property" with
  | some (.ref g :: _) => g
  | _ => 0
def propB (K : PySem.W.Frag) : Bool := He.eqO (PySem.W.findIn K (.ref (He.ga K "Island")) "cells") (some (some (.ref (cellsP K)))) && (He.eqO (PySem.W.specialIn K (.ref (cellsP K)) "__get__") (some (some (.builtin "property.__get__"))) && (decide (PySem.W.takesIn K (.ref (cellsP K)) = some true) &&
  ((match PySem.W.recIn K (cellsP K) "property" with
    | some (.ref _ :: _) => true
    | _ => false) && (PySem.W.keepIn K (.ref (cellsG K)) && (match K.lookup (cellsG K) with
    | some ⟨_, _, .func fd, _⟩ => PySem.W.codeIn K fd.code "Island.cells" && He.dflB K fd.defaults []
    | _ => false)))))
def tupA (K : PySem.W.Frag) (a : Addr) (vs : List V) : Bool := match K.lookup a with
  | some ⟨.type c, _, .seq its _, _⟩ => decide (c = "tuple") && (decide (its.size ≤ sizeLine) && He.relAll vs its.toList)
  | _ => false
def mvAt (K : PySem.W.Frag) (i : Nat) : Addr := match K.lookup (He.ga K "MOVES") with
  | some ⟨_, _, .seq its _, _⟩ => (match its.toList[i]? with
    | some (.ref a) => a
    | _ => 0)
  | _ => 0
def movesB (K : PySem.W.Frag) : Bool := tupA K (He.ga K "MOVES") [.ref (mvAt K 0), .ref (mvAt K 1), .ref (mvAt K 2), .ref (mvAt K 3)] && (tupA K (mvAt K 0) [.int (-1), .int 0] && (tupA K (mvAt K 1) [.int 0, .int 1] && (tupA K (mvAt K 2) [.int 1, .int 0] && tupA K (mvAt K 3) [.int 0, .int (-1)])))
def excB (K : PySem.W.Frag) (D : Addr) : Bool := He.eqO (PySem.W.findIn K (.ref D) "__getattribute__") (some (some (.builtin "BaseException.__getattribute__"))) && (He.eqO (PySem.W.findIn K (.ref D) "__getattr__") (some none) && (decide (PySem.W.subIn K (.ref D) (.type "BaseException") = some true) && (PySem.W.hasDictIn K D &&
  (He.eqO (PySem.W.findIn K (.ref D) "__class__") (some (some (.builtin "object.__class__"))) && (He.eqO (PySem.W.specialIn K (.builtin "object.__class__") "__get__") (some (some (.builtin "getset_descriptor.__get__"))) && (decide (PySem.W.takesIn K (.builtin "object.__class__") = some true) && decide (PySem.W.mroIn K D (.type "object") = some true)))))))
def kitN (K : PySem.W.Frag) (c : Value) (b : Bool) : Bool := decide (PySem.W.kitOne K (.ref (He.ga K "UnknownCell")) c = some b)
def kindsB (K : PySem.W.Frag) : Bool := kitN K (.ref (He.ga K "InvalidIsland")) false && (kitN K (.ref (He.ga K "InvalidMap")) false && (kitN K (.ref (He.ga K "InvalidNumber")) false && (kitN K (.ref (He.ga K "NoBeginning")) false && (kitN K (.ref (He.ga K "NoWay")) false && (kitN K (.ref (He.ga K "TooMany")) false &&
  (kitN K (.ref (He.ga K "UnknownCell")) true && kitN K (.type "ValueError") true))))))
def pRts : He.Defn := ("_law_routes", none)
def pLaw : He.Defn := ("law", none)
def apartB (K : PySem.W.Frag) : Bool := !decide ((He.cT K pRts).2 = (He.cT K pLaw).2)
def hEx (K : PySem.W.Frag) : Bool := propB K && (movesB K && (excB K (He.ga K "UnknownCell") && (kindsB K && apartB K)))
def hTf : List He.Defn := [pRts, pLaw]
abbrev hR : PySem.W.OpenRow := PySem.W.OpenLaw.row PySem.Challenge.rw_oldmap_k13_whole_walks
/-! ### the Hook: with the getter of a property -/
def fnA (K : PySem.W.Frag) (a : Addr) : He.FnW := match K.lookup a with
  | some ⟨_, _, .func fd, _⟩ => some (fd.name, fd.qualname, fd.params, fd.body, fd.scope, fd.globals, fd.closure, fd.builtins)
  | _ => none
def getV : He.FnW := some ("cells", "Island.cells", defArgs iCells, .stmts (defBody iCells), defScope iCells, mainGlobals, [], builtinsNs)
abbrev AlY : Type := He.AlX × He.FnW
def obsY (g : Addr → Option Obj) : AlY := (He.obsX 5 hFa hFn [] hTf hEx g, fnA (He.frT g (He.asD g 5)) (cellsG (He.frT g (He.asD g 5))))
structure SaysY (w : World) (h : Heap) (K : PySem.W.Frag) : Prop where
  x : He.SaysX hFa hFn [] hTf hEx w h K
  g : fnA K (cellsG K) = getV
def hHk : PySem.W.Hook where
  α := AlY
  obs := fun s => obsY s.heap.get?
  val := fun w => (He.valX hFn [] w, getV)
  says := fun w h => ∃ K : PySem.W.Frag, K.In h ∧ SaysY w h K
  of := fun _ _ e => ⟨_, He.frT_in, He.saysX_of (congrArg (fun z : AlY => z.1) e), congrArg (fun z : AlY => z.2) e⟩
  keeps := fun _ _ _ ⟨K, hK, c⟩ k => ⟨K, PySem.W.Frag.In.keeps hK k, ⟨c.x.t, c.x.more, c.x.hd, c.x.out, fun p hp => k _ _ (c.x.empty p hp)⟩, c.g⟩
def hOb (s : PySem.W.SharedT) : AlY := obsY (HandSHeadRun.getT s)
theorem obsY_eq {g : Addr → Option Obj} {s : Shared} (h : ∀ a, g a = s.heap.get? a) : obsY g = hHk.obs s := by
  have e : g = s.heap.get? := funext h
  rw [e] <;> rfl
theorem hOb_eq (s : PySem.W.SharedT) : hOb s = hHk.obs s.abs := obsY_eq (HandSHeadRun.getT_eq s)
def hNames : List Str := ["_wall", "MapError", "InvalidIsland", "InvalidMap", "InvalidNumber", "UnknownCell", "NoBeginning", "NoWay", "TooMany", "LAND", "WATER", "LETTERS", "MAX_SIZE", "Island", "validate_cell", "MOVES", "neighbors", "distances", "distance", "route", "_law_begun", "_law_take", "_law_alike", "_law_rows", "_law_sign", "_law_next", "_law_error", "_law_routes"]
theorem hRun (w : World) : HandSHeadRun.RunEq hR (PySem.W.view hR.prog [32]) hHk hOb 4000 hNames w := by
  intro os
  kernel_rfl
end Wk
set_option Elab.async false
set_option linter.all false
set_option maxRecDepth 100000
set_option maxHeartbeats 4000000
namespace Wk
open PySem PySem.Spec PyProof.Rows L2
section
variable {K : PySem.W.Frag} {h : Heap} {mg : Str → Option Value}
theorem fun_of {x qual : Str} {st : Stmt} {f : Addr} {fd : FuncData} (F : FunD K x qual (defArgs st) (defBody st) (defScope st) [] [] f fd) : Fun K x qual st f fd := by
  obtain ⟨oc, od, dV, kV, doc, pm, an, cdv, ct, osl, e, lk, hcd, hd, _⟩ := F.ex
  rcases hd with ⟨_, rfl⟩ | ⟨ne, _⟩
  · exact ⟨⟨oc, od, kV, doc, pm, an, cdv, ct, osl, e, lk, hcd⟩, F.kp⟩
  · exact absurd rfl ne
theorem tupA_ok {a : Addr} {vs : List V} (hh : tupA K a vs = true) : TupK K a vs := by
  unfold tupA at hh
  cases q : K.lookup a with
  | none =>
    rw [q] at hh
    cases hh
  | some o =>
    obtain ⟨oc, od, dt, osl⟩ := o
    rw [q] at hh
    cases oc with
    | type c =>
      cases dt with
      | seq its n =>
        obtain ⟨h1, h2⟩ := He.ba (show (decide (c = "tuple") && (decide (its.size ≤ sizeLine) && He.relAll vs its.toList)) = true from hh)
        obtain ⟨h3, h4⟩ := He.ba h2
        exact ⟨_, its, n, q, congrArg Value.type (of_decide_eq_true h1), rfl, of_decide_eq_true h3, He.relAll_ok h4⟩
      | _ => cases hh
    | _ => cases dt <;> cases hh
theorem moves_ok (X : K.In h) (G : h.Ns mainGlobals mg) (hh : movesB K = true) (hg : mg "MOVES" = some (.ref (He.ga K "MOVES"))) : MovesT K mg := by
  unfold movesB at hh
  obtain ⟨h0, hh⟩ := He.ba hh
  obtain ⟨h1, hh⟩ := He.ba hh
  obtain ⟨h2, hh⟩ := He.ba hh
  obtain ⟨h3, h4⟩ := He.ba hh
  refine ⟨_, _, hg, tupA_ok h0, rfl, fun i m x hm hx => ?_⟩
  have : i < 4 := (List.getElem?_eq_some_iff.mp hm).1
  have hi : i = 0 ∨ i = 1 ∨ i = 2 ∨ i = 3 := by omega
  rcases hi with rfl | rfl | rfl | rfl
  · cases hm; cases hx; exact ⟨_, rfl, tupA_ok h1⟩
  · cases hm; cases hx; exact ⟨_, rfl, tupA_ok h2⟩
  · cases hm; cases hx; exact ⟨_, rfl, tupA_ok h3⟩
  · cases hm; cases hx; exact ⟨_, rfl, tupA_ok h4⟩
theorem excC_ok {D : Addr} (hh : excB K D = true) : ExcC K D := by
  unfold excB at hh
  obtain ⟨h0, hh⟩ := He.ba hh
  obtain ⟨h1, hh⟩ := He.ba hh
  obtain ⟨h2, hh⟩ := He.ba hh
  obtain ⟨h3, hh⟩ := He.ba hh
  obtain ⟨h4, hh⟩ := He.ba hh
  obtain ⟨h5, hh⟩ := He.ba hh
  obtain ⟨h6, h7⟩ := He.ba hh
  exact ⟨He.eqO_ok h0, He.eqO_ok h1, of_decide_eq_true h2, h3, He.eqO_ok h4, He.eqO_ok h5, of_decide_eq_true h6, of_decide_eq_true h7⟩
theorem prop_ok (hh : propB K = true) (hg : fnA K (cellsG K) = getV) : PropOf K (He.ga K "Island") "cells" (cellsP K) (cellsG K) ∧ ∃ fd, Fun K "cells" "Island.cells" iCells (cellsG K) fd := by
  unfold propB at hh
  obtain ⟨h0, hh⟩ := He.ba hh
  obtain ⟨h1, hh⟩ := He.ba hh
  obtain ⟨h2, hh⟩ := He.ba hh
  obtain ⟨h3, hh⟩ := He.ba hh
  obtain ⟨h4, h5⟩ := He.ba hh
  refine ⟨⟨He.eqO_ok h0, He.eqO_ok h1, of_decide_eq_true h2, ?_⟩, ?_⟩
  · unfold cellsG
    cases q : PySem.W.recIn K (cellsP K) "property" with
    | none =>
      rw [q] at h3
      cases h3
    | some l =>
      rw [q] at h3
      cases l with
      | nil => cases h3
      | cons v r =>
        cases v with
        | ref g => exact ⟨r, rfl⟩
        | _ => cases h3
  · unfold fnA at hg
    cases q : K.lookup (cellsG K) with
    | none =>
      rw [q] at h5
      cases h5
    | some o =>
      obtain ⟨oc, od, dt, osl⟩ := o
      rw [q] at h5 hg
      cases dt with
      | func fd =>
        obtain ⟨n1, n2, n3, n4, n5, n6, n7, n8, n9, n10, n11, n12, n13, n14, n15⟩ := fd
        have e2 : (some (n1, n2, n3, n4, n5, n6, n7, n15) : He.FnW) = some (("cells" : Str), ("Island.cells" : Str), defArgs iCells, FuncBody.stmts (defBody iCells), defScope iCells, mainGlobals, [], builtinsNs) := hg
        simp only [Option.some.injEq, Prod.mk.injEq] at e2
        obtain ⟨e1, e2, e3, e4, e5, e6, e7, e8⟩ := e2
        subst e1 e2 e3 e4 e5 e6 e7 e8
        have c3 : (PySem.W.codeIn K n13 "Island.cells" && He.dflB K n8 []) = true := h5
        obtain ⟨k1, k2⟩ := He.ba c3
        rcases He.dflB_ok k2 with ⟨_, e⟩ | ⟨ne, _⟩
        · subst e
          exact ⟨_, ⟨oc, od, n9, n10, n11, n12, n13, n14, osl, rfl, q, k1⟩, h4⟩
        · exact absurd rfl ne
      | _ => cases h5
theorem cx_false {P : Program} {w : World} {H : Hp} {s : Shared} {e : Value} {s' : Shared} (hh : L2.CX P w [] H s (fun _ _ _ => False) e s') : False := by
  obtain ⟨_, _, _, _, _, _, _, _, _, _, _, _, z⟩ := hh
  exact z.elim
/-- the code object of a def that makes a lambda -/
theorem code_of {x : Str} {st : Stmt} {fd : FuncData} (F : Fun K x x st (He.ga K x) fd) : fd.code = .ref (He.codeOf K (x, none)) := by
  obtain ⟨oc, od, kV, doc, pm, an, cdv, ct, osl, rfl, lk, hcd⟩ := F.ex
  obtain ⟨c, hc⟩ := He.codeIn_ref hcd
  have e : (PySem.W.fnOf x x (defArgs st) (defBody st) (defScope st) .none kV doc pm an cdv ct).code = .ref c := hc
  have := He.codeOf_eq (K := K) (p := (x, none)) lk e
  rw [this]
  exact e
end
section
variable {K : PySem.W.Frag} {h : Heap} {mg : Str → Option Value}
theorem law_at {w : World} {fa : Addr} (X : K.In h) (G : h.Ns mainGlobals mg) (hfa : mg ("law" : Str) = some (.ref fa)) (c : SaysY w h K) :
    LamX.LawAtS PySem.Challenge.rw_oldmap_k13_whole_walks w K (L2.CX (PySem.Challenge.rw_oldmap_k13_whole_walks).prog w) 7 63 "_law_script" mg fa h := by
  have d := c.x.t.d
  have more := c.x.more
  unfold hEx at more
  obtain ⟨mP, more⟩ := He.ba more
  obtain ⟨mM, more⟩ := He.ba more
  obtain ⟨mE, more⟩ := He.ba more
  obtain ⟨mK, mA⟩ := He.ba more
  have glo : ∀ (i : Nat) (x : Str), hFa[i]? = some (.glo x) → mg x = some (.ref (He.ga K x)) := fun i x hx => He.glo_ok X G (d.fact i hx)
  have fre : ∀ (i : Nat) (x : Str), hFa[i]? = some (.free x) → mg x = none := fun i x hx => He.free_ok X G (d.fact i hx)
  have e0 := hfa.symm.trans (glo 0 "law" rfl)
  cases e0
  obtain ⟨fd0, F0⟩ := d.def_ 0 (d := dOfT "law" 32) rfl
  obtain ⟨fd1, F1⟩ := d.def_ 1 (d := dOfT "_law_begun" 24) rfl
  obtain ⟨fd2, F2⟩ := d.def_ 2 (d := dOfT "_law_take" 25) rfl
  obtain ⟨fd3, F3⟩ := d.def_ 3 (d := dOfT "_law_alike" 26) rfl
  obtain ⟨fd4, F4⟩ := d.def_ 4 (d := dOfT "_law_rows" 27) rfl
  obtain ⟨fd5, F5⟩ := d.def_ 5 (d := dOfT "_law_sign" 28) rfl
  obtain ⟨fd6, F6⟩ := d.def_ 6 (d := dOfT "_law_next" 29) rfl
  obtain ⟨fd7, F7⟩ := d.def_ 7 (d := dOfT "_law_error" 30) rfl
  obtain ⟨fd8, F8⟩ := d.def_ 8 (d := dOfT "_law_routes" 31) rfl
  obtain ⟨fd9, F9⟩ := d.def_ 9 (d := dOfT "validate_cell" 16) rfl
  obtain ⟨fd10, F10⟩ := d.def_ 10 (d := dOfT "neighbors" 19) rfl
  obtain ⟨fd11, F11⟩ := d.def_ 11 (d := dOfT "distances" 20) rfl
  obtain ⟨fd12, F12⟩ := d.def_ 12 (d := dOfT "distance" 21) rfl
  obtain ⟨fd13, F13⟩ := d.def_ 13 (d := dOfT "route" 22) rfl
  obtain ⟨fd14, F14⟩ := d.def_ 14 (d := dMeth "__init__" "Island.__init__" iInit) rfl
  obtain ⟨fd15, F15⟩ := d.def_ 15 (d := dMeth "__contains__" "Island.__contains__" iHas) rfl
  have G0 : Fun K "law" "law" sLaw (He.ga K "law") fd0 := fun_of F0
  have G1 : Fun K "_law_begun" "_law_begun" sBegun (He.ga K "_law_begun") fd1 := fun_of F1
  have G2 : Fun K "_law_take" "_law_take" sTake (He.ga K "_law_take") fd2 := fun_of F2
  have G3 : Fun K "_law_alike" "_law_alike" sAl (He.ga K "_law_alike") fd3 := fun_of F3
  have G4 : Fun K "_law_rows" "_law_rows" sRows (He.ga K "_law_rows") fd4 := fun_of F4
  have G5 : Fun K "_law_sign" "_law_sign" sSign (He.ga K "_law_sign") fd5 := fun_of F5
  have G6 : Fun K "_law_next" "_law_next" sNext (He.ga K "_law_next") fd6 := fun_of F6
  have G7 : Fun K "_law_error" "_law_error" sErr (He.ga K "_law_error") fd7 := fun_of F7
  have G8 : Fun K "_law_routes" "_law_routes" sRts (He.ga K "_law_routes") fd8 := fun_of F8
  have G9 : Fun K "validate_cell" "validate_cell" sVal (He.ga K "validate_cell") fd9 := fun_of F9
  have G10 : Fun K "neighbors" "neighbors" sNb (He.ga K "neighbors") fd10 := fun_of F10
  have G11 : Fun K "distances" "distances" sDis (He.ga K "distances") fd11 := fun_of F11
  have G12 : Fun K "distance" "distance" sDst (He.ga K "distance") fd12 := fun_of F12
  have G13 : Fun K "route" "route" sRt (He.ga K "route") fd13 := fun_of F13
  have G14 : Fun K "__init__" "Island.__init__" iInit (He.ma K (He.ga K "Island") "__init__") fd14 := fun_of F14
  have G15 : Fun K "__contains__" "Island.__contains__" iHas (He.ma K (He.ga K "Island") "__contains__") fd15 := fun_of F15
  obtain ⟨PC, fdC, FC⟩ := prop_ok mP c.g
  have mH := He.meth_ok (d.fact 43 (f := .meth "Island" "__contains__") rfl)
  obtain ⟨x1, x2, x3, x4⟩ := He.exc_ok (d.fact 44 (f := .exc "UnknownCell") rfl)
  have IT : IslT K mg (He.ga K "Island") :=
    { int := fre 24 "int" rfl, len := fre 25 "len" rfl, list := fre 26 "list" rfl, range := fre 27 "range" rfl, sorted := fre 28 "sorted" rfl, min := fre 29 "min" rfl, isinstance := fre 30 "isinstance" rfl, enumerate := fre 31 "enumerate" rfl, bool := fre 32 "bool" rfl, str := fre 33 "str" rfl, tuple := fre 34 "tuple" rfl,
      cl := He.cls_ok (d.fact 40 (f := .cls "Island") rfl), nR := He.noat_ok (d.fact 41 (f := .noat "Island" "own_rows") rfl), mgC := glo 14 "Island" rfl, water := He.str_ok X G (d.fact 36 (f := .str "WATER" "~") rfl), land := He.str_ok X G (d.fact 37 (f := .str "LAND" ".") rfl), lett := He.str_ok X G (d.fact 38 (f := .str "LETTERS" letters) rfl), maxs := He.int_ok X G (d.fact 39 (f := .int "MAX_SIZE" 12) rfl) }
  have HT : HasT K (He.ga K "Island") (He.ma K (He.ga K "Island") "__contains__") fd15 := ⟨⟨G15, G15.binds fun _ _ _ _ _ _ us hl => match us, hl with | [_, _], _ => rfl⟩, mH.at_, mH.fn⟩
  have NT : NbT K mg (He.ga K "neighbors") fd10 (He.ma K (He.ga K "Island") "__contains__") fd15 (He.ga K "Island") := ⟨⟨G10, glo 10 "neighbors" rfl, G10.binds fun _ _ _ _ _ _ us hl => match us, hl with | [_, _], _ => rfl⟩, moves_ok X G mM (glo 23 "MOVES" rfl), HT⟩
  have UT : UnkT K mg (He.ga K "UnknownCell") := ⟨x1, glo 15 "UnknownCell" rfl, x2, x3, x4⟩
  have VT : ValT K mg (He.ga K "validate_cell") fd9 (He.ga K "UnknownCell") := ⟨⟨G9, glo 9 "validate_cell" rfl, G9.binds fun _ _ _ _ _ _ us hl => match us, hl with | [_, _], _ => rfl⟩, UT⟩
  unfold kindsB at mK
  obtain ⟨k1, mK⟩ := He.ba mK
  obtain ⟨k2, mK⟩ := He.ba mK
  obtain ⟨k3, mK⟩ := He.ba mK
  obtain ⟨k4, mK⟩ := He.ba mK
  obtain ⟨k5, mK⟩ := He.ba mK
  obtain ⟨k6, mK⟩ := He.ba mK
  obtain ⟨k7, k8⟩ := He.ba mK
  have ET : ErrT K mg (He.ga K "UnknownCell") := ⟨excC_ok mE, ⟨_, glo 16 "MapError" rfl, He.exm_ok (d.fact 45 (f := .exm "UnknownCell" "MapError" true) rfl)⟩,
    ⟨_, _, _, _, _, _, ⟨glo 17 "InvalidIsland" rfl, of_decide_eq_true k1⟩, ⟨glo 18 "InvalidMap" rfl, of_decide_eq_true k2⟩, ⟨glo 19 "InvalidNumber" rfl, of_decide_eq_true k3⟩, ⟨glo 20 "NoBeginning" rfl, of_decide_eq_true k4⟩, ⟨glo 21 "NoWay" rfl, of_decide_eq_true k5⟩, ⟨glo 22 "TooMany" rfl, of_decide_eq_true k6⟩⟩, of_decide_eq_true k7, of_decide_eq_true k8, fre 35 "ValueError" rfl⟩
  have nPP : (He.cT K pRts).2 ≠ (He.cT K pLaw).2 := by
    unfold apartB at mA
    simpa using mA
  refine ⟨fd0, [He.cT K pRts, He.cT K pLaw], spLaw K [((He.cT K pRts).2, lamQ "_law_routes" sRts), ((He.cT K pLaw).2, lamQ "law" sLaw)], fun p hp => ?_, fun p hp => ?_, fun p hp => ?_, ?_, ?_, ?_⟩
  · simp only [List.mem_cons, List.not_mem_nil, or_false] at hp
    rcases hp with rfl | rfl
    · exact c.x.empty pRts (by simp [hTf])
    · exact c.x.empty pLaw (by simp [hTf])
  · simp only [List.mem_cons, List.not_mem_nil, or_false] at hp
    rcases hp with rfl | rfl
    · exact c.x.out pRts (by simp [hTf])
    · exact c.x.out pLaw (by simp [hTf])
  · simp only [List.mem_cons, List.not_mem_nil, or_false] at hp
    rcases hp with rfl | rfl
    · exact PySem.W.codeHd_of_K X (c.x.hd pRts (by simp [hTf]))
    · exact PySem.W.codeHd_of_K X (c.x.hd pLaw (by simp [hTf]))
  · intro s u
    exact FunD.bindsA (ps := ["_law_script"]) F0 (fun _ _ _ _ _ _ us hl => match us, hl with | [_], _ => rfl) s [u] rfl
  · intro H a ns hl _ hT hS
    refine ⟨a, ns, rfl, hS, hl, fun p hp => ?_, fun _ => rfl⟩
    simp only [List.mem_cons, List.not_mem_nil, or_false] at hp
    rcases hp with rfl | rfl
    · exact LamX.TabS.nil (hT (He.cT K pRts) (by simp))
    · exact LamX.TabS.nil (hT (He.cT K pLaw) (by simp))
  · intro base KB NB TB
    have T1 : TabF K mg base [((He.cT K pRts).2, lamQ "_law_routes" sRts), ((He.cT K pLaw).2, lamQ "law" sLaw)] "_law_routes" sRts fd8 (He.cT K pRts).1 (He.cT K pRts).2 := ⟨code_of G8, TB (He.cT K pRts) (by simp), by simp, fun p hp e => by
      simp only [List.mem_cons, List.not_mem_nil, or_false] at hp
      rcases hp with rfl | rfl
      · rfl
      · exact absurd e.symm nPP⟩
    have T2 : TabF K mg base [((He.cT K pRts).2, lamQ "_law_routes" sRts), ((He.cT K pLaw).2, lamQ "law" sLaw)] "law" sLaw fd0 (He.cT K pLaw).1 (He.cT K pLaw).2 := ⟨code_of G0, TB (He.cT K pLaw) (by simp), by simp, fun p hp e => by
      simp only [List.mem_cons, List.not_mem_nil, or_false] at hp
      rcases hp with rfl | rfl
      · exact absurd e nPP
      · rfl⟩
    exact ok_law ⟨G0, glo 0 "law" rfl, G0.binds fun _ _ _ _ _ _ us hl => match us, hl with | [_], _ => rfl⟩ IT (He.mkr_ok (d.fact 42 (f := .mkr "Island") rfl)) ⟨G14, G14.binds fun _ _ _ _ _ _ us hl => match us, hl with | [_, _], _ => rfl⟩ ⟨FC, FC.binds fun _ _ _ _ _ _ us hl => match us, hl with | [_], _ => rfl⟩ PC NT VT
      ⟨G11, glo 11 "distances" rfl, G11.binds fun _ _ _ _ _ _ us hl => match us, hl with | [_, _], _ => rfl⟩ ⟨G12, glo 12 "distance" rfl, G12.binds fun _ _ _ _ _ _ us hl => match us, hl with | [_, _, _], _ => rfl⟩ ⟨G13, glo 13 "route" rfl, G13.binds fun _ _ _ _ _ _ us hl => match us, hl with | [_, _, _], _ => rfl⟩
      ⟨G1, glo 1 "_law_begun" rfl, G1.binds fun _ _ _ _ _ _ us hl => match us, hl with | [_], _ => rfl⟩ ⟨G2, glo 2 "_law_take" rfl, G2.binds fun _ _ _ _ _ _ us hl => match us, hl with | [_, _], _ => rfl⟩ ⟨G4, glo 4 "_law_rows" rfl, G4.binds fun _ _ _ _ _ _ us hl => match us, hl with | [_, _], _ => rfl⟩
      ⟨G5, glo 5 "_law_sign" rfl, G5.binds fun _ _ _ _ _ _ us hl => match us, hl with | [_, _], _ => rfl⟩ ⟨G6, glo 6 "_law_next" rfl, G6.binds fun _ _ _ _ _ _ us hl => match us, hl with | [_, _], _ => rfl⟩ ⟨G7, glo 7 "_law_error" rfl, G7.binds fun _ _ _ _ _ _ us hl => match us, hl with | [_], _ => rfl⟩
      ⟨G8, glo 8 "_law_routes" rfl, G8.binds fun _ _ _ _ _ _ us hl => match us, hl with | [_, _], _ => rfl⟩ ⟨G3, glo 3 "_law_alike" rfl, G3.binds fun _ _ _ _ _ _ us hl => match us, hl with | [_, _], _ => rfl⟩ ET T2 T1
end
end Wk
open PySem PySem.W PySem.Calls PyProof.Rows
theorem PySem.Challenge.cw_oldmap_k13_whole_walks_holds : PySem.Challenge.rw_oldmap_k13_whole_walks.Holds := by
  w_on; o_law
  refine HandSHeadRun.head_any (r := OpenLaw.row PySem.Challenge.rw_oldmap_k13_whole_walks) (q := view (OpenLaw.row PySem.Challenge.rw_oldmap_k13_whole_walks).prog [32]) (H := Wk.hHk) (ob := Wk.hOb) (M := 4000) (loose := Wk.hNames) (d := HandSHeadRun.topDef (OpenLaw.row PySem.Challenge.rw_oldmap_k13_whole_walks).prog 32) (kwd := []) Wk.hOb_eq
    (by kernel_rfl) (fun s => by kernel_rfl) Wk.hRun (by kernel_rfl) (by kernel_rfl) (by kernel_rfl) (by rfl) (by first | assumption | decide +kernel) (by decide +kernel) ⟨rfl, rfl, rfl, rfl, rfl, by decide +kernel⟩ ?hw ?hc
  case hw => w_witness2
  case hc =>
    refine LamX.walk_ofTsE (l := PySem.Challenge.rw_oldmap_k13_whole_walks) (n := 63) (k := 7) (x := "_law_script") (CX := fun w => L2.CX (PySem.Challenge.rw_oldmap_k13_whole_walks).prog w) rfl (by decide) (by kernel_rfl) ⟨rfl, by decide, by decide⟩ ?F (fun _ _ _ _ _ z => Wk.cx_false z)
    intro w mg fa h Y G hmg0
    obtain ⟨K, KX, c⟩ := Y
    have hmg : mg ("law" : PySem.Str) = some (.ref fa) := by
      have e : (HandSHeadRun.topDef (OpenLaw.row PySem.Challenge.rw_oldmap_k13_whole_walks).prog 32).name = ("law" : PySem.Str) := by kernel_rfl
      rw [← e]
      exact hmg0
    exact ⟨K, KX, Wk.law_at KX G hmg c⟩
