import PyProof.Rows.All
import CaCanal
import Wide.All
import OpenK.AllK
import Wide.FinOn
import Open.SpecLaws
import KE.OsGo
import HandS.ForSpec
import HandS.ForMost
import HandS.Walk
import HandS.Zip
import HandS.TupAny
import HandS.TupMul
import HandS.SetFor
import HandS.ExcInit
import HandS.ExcInitHot
import HandS.SuiteRaise
import HandS.ExcField
import HandS.ExcCtx
import HandS.CallRecv
import HandS.Flow
import HandS.Small
import HandS.TupSets
import KE.SortData
import KE.KDictKeyed
import KE.KDictWalk
import KE.GoesEnum
import KE.KTupSum
import HandS.TupLen
import PySem.Challenge.RW_canallocks_s01_answers
section
set_option autoImplicit false
/-! the heap of the specification as a list of its items; the order as the order of rows of numbers -/
namespace Cm
open CaCanal

def opNums (o : Op) : List Nat := [o.1, o.2.1, o.2.2]
def flat (l : List Op) : List Nat := l.flatMap opNums
def ikey (x : Item) : List Nat := x.used :: x.many :: flat x.path.reverse
def Wf (x : Item) : Prop := x.many = x.path.length

theorem flat_cons (o : Op) (l : List Op) : flat (o :: l) = o.1 :: o.2.1 :: o.2.2 :: flat l := rfl
theorem flat_nil : flat [] = [] := rfl
theorem op_eq {o p : Op} (h1 : o.1 = p.1) (h2 : o.2.1 = p.2.1) (h3 : o.2.2 = p.2.2) : o = p := by
  obtain ⟨a, b, c⟩ := o
  obtain ⟨a', b', c'⟩ := p
  simp only at h1 h2 h3
  subst h1 h2 h3
  rfl
theorem flat_inj : ∀ {l m : List Op}, flat l = flat m → l = m
  | [], [], _ => rfl
  | [], p :: m, h => by rw [flat_cons, flat_nil] at h; cases h
  | o :: l, [], h => by rw [flat_cons, flat_nil] at h; cases h
  | o :: l, p :: m, h => by
    rw [flat_cons, flat_cons] at h
    simp only [List.cons.injEq] at h
    rw [op_eq h.1 h.2.1 h.2.2.1, flat_inj h.2.2.2]
theorem pathBefore_flat : ∀ l m : List Op, l.length = m.length → pathBefore l m = decide (flat l < flat m)
  | [], [], _ => by simp [pathBefore, flat]
  | [], _ :: _, h => by simp at h
  | _ :: _, [], h => by simp at h
  | o :: l, p :: m, h => by
    have ih := pathBefore_flat l m (by simpa using h)
    rw [pathBefore, ih, flat_cons, flat_cons]
    simp only [opBefore, List.cons_lt_cons_iff]
    have e : (o == p) = decide (o.1 = p.1 ∧ o.2.1 = p.2.1 ∧ o.2.2 = p.2.2) := by
      by_cases c : o = p
      · subst c
        simp
      · rw [beq_eq_false_iff_ne.mpr c]
        symm
        rw [decide_eq_false_iff_not]
        exact fun q => c (op_eq q.1 q.2.1 q.2.2)
    rw [e, Bool.eq_iff_iff]
    simp only [Bool.or_eq_true, Bool.and_eq_true, decide_eq_true_eq, beq_iff_eq]
    constructor
    · rintro ((h | ⟨h1, h | ⟨h2, h3⟩⟩) | ⟨⟨h1, h2, h3⟩, h4⟩)
      · exact .inl h
      · exact .inr ⟨h1, .inl h⟩
      · exact .inr ⟨h1, .inr ⟨h2, .inl h3⟩⟩
      · exact .inr ⟨h1, .inr ⟨h2, .inr ⟨h3, h4⟩⟩⟩
    · rintro (h | ⟨h1, h | ⟨h2, h | ⟨h3, h4⟩⟩⟩)
      · exact .inl (.inl h)
      · exact .inl (.inr ⟨h1, .inl h⟩)
      · exact .inl (.inr ⟨h1, .inr ⟨h2, h⟩⟩)
      · exact .inr ⟨⟨h1, h2, h3⟩, h4⟩
theorem before_eq {x y : Item} (hx : Wf x) (hy : Wf y) : x.before y = decide (ikey x < ikey y) := by
  have hx' : x.many = x.path.length := hx
  have hy' : y.many = y.path.length := hy
  unfold Item.before ikey
  rw [Bool.eq_iff_iff]
  simp only [Bool.or_eq_true, Bool.and_eq_true, decide_eq_true_eq, beq_iff_eq, List.cons_lt_cons_iff]
  constructor
  · rintro (h | ⟨h1, h | ⟨h2, h3⟩⟩)
    · exact .inl h
    · exact .inr ⟨h1, .inl h⟩
    · rw [pathBefore_flat _ _ (by simp; omega)] at h3
      exact .inr ⟨h1, .inr ⟨h2, of_decide_eq_true h3⟩⟩
  · rintro (h | ⟨h1, h | ⟨h2, h3⟩⟩)
    · exact .inl h
    · exact .inr ⟨h1, .inl h⟩
    · refine .inr ⟨h1, .inr ⟨h2, ?_⟩⟩
      rw [pathBefore_flat _ _ (by simp; omega)]
      exact decide_eq_true h3
theorem lt_tri {a b : List Nat} (h : ¬ a < b) (h' : ¬ b < a) : a = b := List.le_antisymm (List.not_lt.mp h') (List.not_lt.mp h)

/-! ### the heap -/
def items : Heap → List Item
  | .leaf => []
  | .node x l r => x :: (items l ++ items r)
def Ord : Heap → Prop
  | .leaf => True
  | .node x l r => (∀ y ∈ items l ++ items r, ¬ ikey y < ikey x) ∧ Ord l ∧ Ord r
def WfH (h : Heap) : Prop := ∀ x ∈ items h, Wf x

theorem merge_items : ∀ (f : Nat) (a b : Heap), (items a).length + (items b).length ≤ f → (items (Heap.merge f a b)).Perm (items a ++ items b)
  | 0, a, b, h => by
    have hb : items b = [] := List.length_eq_zero_iff.mp (by omega)
    show (items a).Perm _
    rw [hb, List.append_nil]
  | f + 1, .leaf, b, h => by
    show (items b).Perm _
    exact List.Perm.refl _
  | f + 1, .node x l r, .leaf, h => by
    show (items (.node x l r)).Perm _
    simp [items]
  | f + 1, .node x l r, .node y m s, h => by
    have h' : (items (.node x l r)).length + (items (.node y m s)).length ≤ f + 1 := h
    simp only [items, List.length_cons, List.length_append] at h'
    rw [Heap.merge]
    split
    · have ih := merge_items f (.node x l r) s (by simp only [items, List.length_cons, List.length_append]; omega)
      show (y :: (items (Heap.merge f (.node x l r) s) ++ items m)).Perm _
      refine ((ih.append_right (items m)).cons y).trans ?_
      simp only [items]
      letI : DecidableEq Item := fun a b => Classical.propDecidable (a = b)
      rw [List.perm_iff_count]
      intro a
      simp only [List.count_cons, List.count_append, List.cons_append]
      omega
    · have ih := merge_items f r (.node y m s) (by simp only [items, List.length_cons, List.length_append]; omega)
      show (x :: (items (Heap.merge f r (.node y m s)) ++ items l)).Perm _
      refine ((ih.append_right (items l)).cons x).trans ?_
      simp only [items]
      letI : DecidableEq Item := fun a b => Classical.propDecidable (a = b)
      rw [List.perm_iff_count]
      intro a
      simp only [List.count_cons, List.count_append, List.cons_append]
      omega
theorem mem_merge {f : Nat} {a b : Heap} (h : (items a).length + (items b).length ≤ f) {y : Item} : y ∈ items (Heap.merge f a b) ↔ y ∈ items a ∨ y ∈ items b := by
  rw [(merge_items f a b h).mem_iff, List.mem_append]
theorem lt_of_lt_of_nlt {a b c : List Nat} (h : a < b) (h' : ¬ c < b) : a < c := by
  by_cases e : b = c
  · exact e ▸ h
  · exact List.lt_trans h (Classical.byContradiction fun q => e (lt_tri q h'))
theorem nlt_trans {a b c : List Nat} (h : ¬ b < a) (h' : ¬ c < b) : ¬ c < a := fun q => by
  by_cases e : b = c
  · exact h (e ▸ q)
  · exact h (List.lt_trans (Classical.byContradiction fun z => e (lt_tri z h')) q)
theorem merge_ord : ∀ (f : Nat) (a b : Heap), (items a).length + (items b).length ≤ f → WfH a → WfH b → Ord a → Ord b → Ord (Heap.merge f a b)
  | 0, a, b, h, _, _, oa, _ => oa
  | f + 1, .leaf, b, h, _, _, _, ob => ob
  | f + 1, .node x l r, .leaf, h, _, _, oa, _ => oa
  | f + 1, .node x l r, .node y m s, h, wa, wb, oa, ob => by
    have h' : (items (.node x l r)).length + (items (.node y m s)).length ≤ f + 1 := h
    simp only [items, List.length_cons, List.length_append] at h'
    have hx : Wf x := wa x (by simp [items])
    have hy : Wf y := wb y (by simp [items])
    rw [Heap.merge]
    split
    · rename_i c
      rw [before_eq hy hx] at c
      have c := of_decide_eq_true c
      have hz : (items (.node x l r)).length + (items s).length ≤ f := by simp only [items, List.length_cons, List.length_append]; omega
      have ws : WfH s := fun z hz => wb z (by simp [items, hz])
      have ih := merge_ord f (.node x l r) s hz wa ws oa ob.2.2
      refine ⟨fun z hzm => ?_, ih, ob.2.1⟩
      rcases List.mem_append.mp hzm with q | q
      · rcases (mem_merge hz).mp q with q | q
        · have q2 : z = x ∨ z ∈ items l ++ items r := by simpa [items] using q
          rcases q2 with q2 | q2
          · rw [q2]; exact List.lt_asymm c
          · exact nlt_trans (List.lt_asymm c) (oa.1 z q2)
        · exact ob.1 z (List.mem_append.mpr (.inr q))
      · exact ob.1 z (List.mem_append.mpr (.inl q))
    · rename_i c
      rw [before_eq hy hx] at c
      have c : ¬ ikey y < ikey x := fun q => c (decide_eq_true q)
      have hz : (items r).length + (items (.node y m s)).length ≤ f := by simp only [items, List.length_cons, List.length_append]; omega
      have wr : WfH r := fun z hz => wa z (by simp [items, hz])
      have ih := merge_ord f r (.node y m s) hz wr wb oa.2.2 ob
      refine ⟨fun z hzm => ?_, ih, oa.2.1⟩
      rcases List.mem_append.mp hzm with q | q
      · rcases (mem_merge hz).mp q with q | q
        · exact oa.1 z (List.mem_append.mpr (.inr q))
        · have q2 : z = y ∨ z ∈ items m ++ items s := by simpa [items] using q
          rcases q2 with q2 | q2
          · rw [q2]; exact c
          · exact nlt_trans c (ob.1 z q2)
      · exact oa.1 z (List.mem_append.mpr (.inl q))
theorem put_items {h : Heap} {x : Item} (hs : (items h).length + 1 ≤ FUEL) : (items (h.put x)).Perm (x :: items h) := by
  refine (merge_items FUEL h (.node x .leaf .leaf) (by simpa [items] using hs)).trans ?_
  show (items h ++ [x]).Perm _
  exact List.perm_append_comm
theorem put_ord {h : Heap} {x : Item} (hs : (items h).length + 1 ≤ FUEL) (wh : WfH h) (wx : Wf x) (oh : Ord h) : Ord (h.put x) :=
  merge_ord FUEL h (.node x .leaf .leaf) (by simpa [items] using hs) wh (fun y hy => by
    have : y = x := by simpa [items] using hy
    rw [this]; exact wx) oh ⟨fun y hy => by simp [items] at hy, trivial, trivial⟩
theorem wf_perm {h : Heap} {l : List Item} (p : (items h).Perm l) (w : ∀ x ∈ l, Wf x) : WfH h := fun x hx => w x (p.mem_iff.mp hx)

/-! ### the tree -/
theorem has_put (t : Tree) (n m : Nat) : (t.put n).has m = (decide (m = n) || t.has m) := by
  induction t with
  | leaf =>
    show (if m = n then true else if m < n then false else false) = _
    by_cases e : m = n
    · simp [e]
    · simp [e, Tree.has]
  | node k l r il ir =>
    rw [Tree.put]
    by_cases e1 : n = k
    · rw [if_pos e1, Tree.has]
      by_cases e : m = k
      · simp [e]
      · have e2 : m ≠ n := fun q => e (q.trans e1)
        simp [e, e2]
    · rw [if_neg e1]
      by_cases e2 : n < k
      · rw [if_pos e2, Tree.has, Tree.has, il]
        by_cases e : m = k
        · simp [e]
        · rw [if_neg e, if_neg e]
          by_cases e3 : m < k
          · rw [if_pos e3, if_pos e3]
          · rw [if_neg e3, if_neg e3]
            have : m ≠ n := by omega
            simp [this]
      · rw [if_neg e2, Tree.has, Tree.has, ir]
        by_cases e : m = k
        · simp [e]
        · rw [if_neg e, if_neg e]
          by_cases e3 : m < k
          · rw [if_pos e3, if_pos e3]
            have : m ≠ n := by omega
            simp [this]
          · rw [if_neg e3, if_neg e3]
end Cm
end
section
set_option autoImplicit false
/-! canals that are well formed; a stand's number; what an operation leaves -/
namespace Cm
open CaCanal

structure GoodK (K : Canal) : Prop where
  np : K.pounds.length ≤ 6
  nl : K.locks.length = K.pounds.length - 1
  hi : ∀ p ∈ K.pounds, p.high ≤ 1000
  vol : ∀ l ∈ K.locks, 1 ≤ l.volume ∧ l.volume ≤ 100
  room : ∀ l ∈ K.locks, 1 ≤ l.room ∧ l.room ≤ 4
structure Good (K : Canal) (s : Stand) : Prop where
  w : s.water.length = K.pounds.length
  f : s.full.length = K.locks.length
  b : s.boats.length = 4
  lev : ∀ i, i < K.pounds.length → (K.pound i).low ≤ s.water.getD i 0 ∧ s.water.getD i 0 ≤ (K.pound i).high
  at_ : ∀ x ∈ s.boats, x = 0 ∨ (x % 2 = 1 ∧ x / 2 < K.pounds.length) ∨ (x % 2 = 0 ∧ x ≠ 0 ∧ x / 2 - 1 < K.locks.length)

theorem getD_mem {α : Type} {l : List α} {i : Nat} {d : α} (h : i < l.length) : l.getD i d ∈ l := by
  rw [List.getD_eq_getElem?_getD, List.getElem?_eq_getElem h]
  exact List.getElem_mem h
theorem getD_set {α : Type} {l : List α} {i j : Nat} {x d : α} (h : i < l.length) : (l.set i x).getD j d = if i = j then x else l.getD j d := by
  simp only [List.getD_eq_getElem?_getD, List.getElem?_set]
  by_cases e : i = j
  · subst e; simp [h]
  · simp [e]
theorem Good.boat {K : Canal} {s : Stand} (g : Good K s) (k : GoodK K) {x : Nat} (h : x ∈ s.boats) : x ≤ 12 := by
  have := k.np
  have := k.nl
  rcases g.at_ x h with e | ⟨e1, e2⟩ | ⟨e1, e2, e3⟩ <;> omega
theorem Good.wat {K : Canal} {s : Stand} (g : Good K s) (k : GoodK K) {x : Nat} (h : x ∈ s.water) : x ≤ 1000 := by
  obtain ⟨i, hi, e⟩ := List.mem_iff_getElem.mp h
  have h1 := g.lev i (by rw [← g.w]; exact hi)
  have h2 : s.water.getD i 0 = x := by rw [List.getD_eq_getElem?_getD, List.getElem?_eq_getElem hi]; exact e
  have h3 : K.pound i ∈ K.pounds := getD_mem (by rw [← g.w]; exact hi)
  have := k.hi _ h3
  omega

/-! ### the number of a stand -/
theorem fold_inj {B : Nat} : ∀ (l m : List Nat) (a b : Nat), l.length = m.length → (∀ x ∈ l, x < B) → (∀ x ∈ m, x < B) → l.foldl (fun n x => n * B + x) a = m.foldl (fun n x => n * B + x) b → a = b ∧ l = m
  | [], [], a, b, _, _, _, h => ⟨h, rfl⟩
  | [], _ :: _, _, _, h, _, _, _ => by simp at h
  | _ :: _, [], _, _, h, _, _, _ => by simp at h
  | x :: l, y :: m, a, b, h, hl, hm, e => by
    obtain ⟨e1, e2⟩ := fold_inj l m (a * B + x) (b * B + y) (by simpa using h) (fun z hz => hl z (List.mem_cons_of_mem _ hz)) (fun z hz => hm z (List.mem_cons_of_mem _ hz)) e
    have hx := hl x List.mem_cons_self
    have hy := hm y List.mem_cons_self
    have hB : 0 < B := by omega
    have d1 : (a * B + x) / B = a := by rw [Nat.add_comm, Nat.add_mul_div_right _ _ hB, Nat.div_eq_of_lt hx, Nat.zero_add]
    have d2 : (b * B + y) / B = b := by rw [Nat.add_comm, Nat.add_mul_div_right _ _ hB, Nat.div_eq_of_lt hy, Nat.zero_add]
    have m1 : (a * B + x) % B = x := by rw [Nat.add_comm, Nat.add_mul_mod_self_right, Nat.mod_eq_of_lt hx]
    have m2 : (b * B + y) % B = y := by rw [Nat.add_comm, Nat.add_mul_mod_self_right, Nat.mod_eq_of_lt hy]
    rw [e1] at d1 m1
    exact ⟨d1.symm.trans d2, by rw [m1.symm.trans m2, e2]⟩
theorem toNat_inj : ∀ {l m : List Bool}, l.map Bool.toNat = m.map Bool.toNat → l = m
  | [], [], _ => rfl
  | [], _ :: _, h => by simp at h
  | _ :: _, [], h => by simp at h
  | x :: l, y :: m, h => by
    simp only [List.map_cons, List.cons.injEq] at h
    rw [toNat_inj h.2]
    cases x <;> cases y <;> simp_all
theorem number_inj {K : Canal} {s t : Stand} (k : GoodK K) (gs : Good K s) (gt : Good K t) (h : number s = number t) : s = t := by
  have hb : ∀ {u : Stand}, Good K u → ∀ x ∈ u.boats ++ (u.full.map Bool.toNat ++ u.water), x < MOST + 1 := fun {u} gu x hx => by
    show x < 1001
    rcases List.mem_append.mp hx with q | q
    · have := gu.boat k q
      omega
    · rcases List.mem_append.mp q with q | q
      · obtain ⟨b, _, rfl⟩ := List.mem_map.mp q
        cases b <;> simp
      · have := gu.wat k q
        omega
  have hl : (s.boats ++ (s.full.map Bool.toNat ++ s.water)).length = (t.boats ++ (t.full.map Bool.toNat ++ t.water)).length := by
    simp only [List.length_append, List.length_map, gs.b, gt.b, gs.f, gt.f, gs.w, gt.w]
  obtain ⟨_, e⟩ := fold_inj _ _ 0 0 hl (hb gs) (hb gt) h
  obtain ⟨e1, e2⟩ := List.append_inj e (by rw [gs.b, gt.b])
  obtain ⟨e3, e4⟩ := List.append_inj e2 (by simp [gs.f, gt.f])
  have e5 := toNat_inj e3
  obtain ⟨w, f, b⟩ := s
  obtain ⟨w', f', b'⟩ := t
  simp only at e1 e4 e5
  rw [e1, e4, e5]

/-! ### poured -/
theorem poured_length : ∀ (ps : List Pound) (ws : List Nat) (i q : Nat), (poured ps ws i q).1.length = ws.length
  | [], ws, i, q => by simp [poured]
  | _ :: _, [], i, q => by simp [poured]
  | p :: ps, w :: ws, 0, q => by
    show (_ :: (poured ps ws 0 _).1).length = _
    simp [poured_length ps ws]
  | p :: ps, w :: ws, i + 1, q => by
    show (_ :: (poured ps ws i _).1).length = _
    simp [poured_length ps ws]
theorem poured_lev : ∀ (ps : List Pound) (ws : List Nat) (i q : Nat), ws.length = ps.length →
    (∀ j, j < ps.length → (ps.getD j ⟨0, 0⟩).low ≤ ws.getD j 0 ∧ ws.getD j 0 ≤ (ps.getD j ⟨0, 0⟩).high) →
    ∀ j, j < ps.length → (ps.getD j ⟨0, 0⟩).low ≤ (poured ps ws i q).1.getD j 0 ∧ (poured ps ws i q).1.getD j 0 ≤ (ps.getD j ⟨0, 0⟩).high
  | [], ws, i, q, h, hl, j, hj => by simp at hj
  | _ :: _, [], i, q, h, hl, j, hj => by simp at h
  | p :: ps, w :: ws, 0, q, h, hl, j, hj => by
    show (_ ∧ (min p.high (w + q) :: (poured ps ws 0 (w + q - min p.high (w + q))).1).getD j 0 ≤ _)
    cases j with
    | zero =>
      have := hl 0 (by simp)
      simp only [List.getD_cons_zero] at this ⊢
      show p.low ≤ min p.high (w + q) ∧ _
      omega
    | succ j =>
      have ih := poured_lev ps ws 0 (w + q - min p.high (w + q)) (by simpa using h) (fun j hj => by simpa using hl (j + 1) (by simpa using hj)) j (by simpa using hj)
      simpa [poured] using ih
  | p :: ps, w :: ws, i + 1, q, h, hl, j, hj => by
    cases j with
    | zero => simpa [poured] using hl 0 (by simp)
    | succ j =>
      have ih := poured_lev ps ws i q (by simpa using h) (fun j hj => by simpa using hl (j + 1) (by simpa using hj)) j (by simpa using hj)
      simpa [poured] using ih

/-! ### operations -/
theorem set_at {l : List Nat} {i x : Nat} {P : Nat → Prop} (h : ∀ y ∈ l, P y) (hx : P x) : ∀ y ∈ l.set i x, P y := fun y hy => by
  rcases List.mem_or_eq_of_mem_set hy with q | q
  · exact h y q
  · exact q ▸ hx
theorem at_lt {s : Stand} {b : Nat} (h : s.at_ b ≠ 0) : b < s.boats.length := by
  refine Classical.byContradiction fun q => h ?_
  unfold Stand.at_
  rw [List.getD_eq_getElem?_getD, List.getElem?_eq_none (by omega)]
  rfl
theorem at_mem {s : Stand} {b : Nat} (h : s.at_ b ≠ 0) : s.at_ b ∈ s.boats := getD_mem (at_lt h)
theorem done_good {K : Canal} {s t : Stand} {o : Op} {n : Nat} (k : GoodK K) (g : Good K s) (h : done K s o = .so t n) : Good K t ∧ t ≠ s := by
  obtain ⟨kd, a, b⟩ := o
  have hnl := k.nl
  unfold done at h
  split at h
  · -- fill
    unfold filled at h
    split at h
    · cases h
    split at h
    · cases h
    dsimp only at h
    split at h
    · cases h
    cases h
    rename_i h1 h2 h3
    simp only at h1 h2 h3
    have hf : a < s.full.length := by rw [g.f]; omega
    have hw : a < s.water.length := by rw [g.w]; omega
    refine ⟨⟨by simp [g.w], by simp [g.f], g.b, fun i hi => ?_, g.at_⟩, fun e => ?_⟩
    · show _ ≤ (s.water.set a _).getD i 0 ∧ (s.water.set a _).getD i 0 ≤ _
      rw [getD_set hw]
      have := g.lev i hi
      split
      · rename_i e
        subst e
        omega
      · exact this
    · have e1 : s.full.set a true = s.full := congrArg Stand.full e
      have e2 : (s.full.set a true).getD a false = true := by rw [getD_set hf]; simp
      rw [e1] at e2
      exact h2 e2
  split at h
  · -- empty
    unfold emptied at h
    split at h
    · cases h
    split at h
    · cases h
    cases h
    rename_i h1 h2
    simp only at h1 h2
    have hf : a < s.full.length := by rw [g.f]; omega
    refine ⟨⟨by simp [poured_length, g.w], by simp [g.f], g.b, fun i hi => poured_lev K.pounds s.water (a + 1) _ g.w (fun j hj => g.lev j hj) i hi, g.at_⟩, fun e => ?_⟩
    have e1 : s.full.set a false = s.full := congrArg Stand.full e
    have e2 : (s.full.set a false).getD a false = false := by rw [getD_set hf]; simp
    rw [e1] at e2
    exact h2 e2
  split at h
  · -- enter
    unfold entered at h
    split at h
    · cases h
    split at h
    · cases h
    split at h
    · cases h
    split at h
    · cases h
    cases h
    rename_i h1 h2 h3 h4
    simp only [not_or, Nat.not_le] at h1 h2
    have hb : b < K.locks.length := h1.2
    have ha : s.at_ a ≠ 0 := h1.1
    refine ⟨⟨g.w, g.f, by simp [g.b], g.lev, set_at g.at_ (.inr (.inr ?_))⟩, fun e => ?_⟩
    · show (2 + 2 * b) % 2 = 0 ∧ 2 + 2 * b ≠ 0 ∧ (2 + 2 * b) / 2 - 1 < K.locks.length
      omega
    · have e1 : s.boats.set a (inLock b) = s.boats := congrArg Stand.boats e
      have e2 : (s.boats.set a (inLock b)).getD a 0 = inLock b := by rw [getD_set (at_lt h1.1)]; simp
      rw [e1] at e2
      have e3 : s.at_ a = inLock b := e2
      unfold inPound at h2
      unfold inLock at e3
      omega
  split at h
  · -- leave
    unfold left at h
    split at h
    · cases h
    split at h
    · cases h
    cases h
    rename_i h1 h2
    simp only at h1 h2
    have hm := g.at_ _ (at_mem h1)
    have h1' : s.at_ a ≠ 0 := h1
    have h2' : ¬ s.at_ a % 2 = 1 := h2
    have hl : s.at_ a / 2 - 1 < K.locks.length := by omega
    refine ⟨⟨g.w, g.f, by simp [g.b], g.lev, set_at g.at_ (.inr (.inl ?_))⟩, fun e => ?_⟩
    · unfold inPound
      dsimp only
      split <;> omega
    · have e1 : s.boats.set a _ = s.boats := congrArg Stand.boats e
      have e2 := getD_set (l := s.boats) (i := a) (j := a) (x := inPound (if s.full.getD (s.at_ a / 2 - 1) false = true then s.at_ a / 2 - 1 else s.at_ a / 2 - 1 + 1)) (d := 0) (at_lt h1)
      rw [if_pos rfl] at e2
      simp only at e1
      rw [e1] at e2
      have e3 : s.at_ a = inPound _ := e2
      unfold inPound at e3
      omega
  · cases h
theorem onward_mem {K : Canal} {s : Stand} {y : Op × Stand} (h : y ∈ onward K s) : ∃ n, done K s y.1 = .so y.2 n := by
  obtain ⟨o, _, e⟩ := List.mem_filterMap.mp h
  cases q : done K s o with
  | no w => rw [q] at e; cases e
  | so t n =>
    rw [q] at e
    cases e
    exact ⟨n, q⟩
theorem onward_length {K : Canal} (k : GoodK K) (s : Stand) : (onward K s).length ≤ 34 := by
  have hl : K.locks.length ≤ 5 := by
    have := k.np
    have := k.nl
    omega
  refine Nat.le_trans (List.length_filterMap_le ..) ?_
  simp only [List.length_append, List.length_map, List.length_range, List.length_flatMap]
  have e : List.map (fun (x : Nat) => K.locks.length) (List.range BOATS) = [K.locks.length, K.locks.length, K.locks.length, K.locks.length] := rfl
  rw [e]
  show K.locks.length + (K.locks.length + (List.sum [K.locks.length, K.locks.length, K.locks.length, K.locks.length] + 4)) ≤ 34
  simp only [List.sum_cons, List.sum_nil]
  omega
end Cm
end
section
set_option autoImplicit false
/-! the search: one look at the heap's first item, told over the list of what waits -/
namespace Cm
open CaCanal

/-- t is come to from s by the operations p (the last first) -/
def RunR (K : Canal) (s : Stand) : List Op → Stand → Prop
  | [], t => t = s
  | o :: p, t => ∃ u n, RunR K s p u ∧ done K u o = .so t n
theorem RunR.det {K : Canal} {s : Stand} : ∀ {p : List Op} {t u : Stand}, RunR K s p t → RunR K s p u → t = u
  | [], _, _, h, h' => h.trans h'.symm
  | o :: p, t, u, ⟨a, n, h1, h2⟩, ⟨b, m, h3, h4⟩ => by
    have e := RunR.det h1 h3
    subst e
    rw [h2] at h4
    cases h4
    rfl
theorem RunR.good {K : Canal} {s : Stand} (k : GoodK K) (g : Good K s) : ∀ {p : List Op} {t : Stand}, RunR K s p t → Good K t
  | [], _, h => h ▸ g
  | _ :: _, _, ⟨_, _, h1, h2⟩ => (done_good k (RunR.good k g h1) h2).1
/-- an item that stands for a row of operations from s0 -/
def IOk (K : Canal) (s0 : Stand) (x : Item) : Prop := Wf x ∧ RunR K s0 x.path x.stand
theorem item_eq {K : Canal} {s0 : Stand} {x y : Item} (hx : IOk K s0 x) (hy : IOk K s0 y) (h : ikey x = ikey y) : x = y := by
  unfold ikey at h
  simp only [List.cons.injEq] at h
  have e := flat_inj h.2.2
  have e2 : x.path = y.path := by rw [← List.reverse_reverse x.path, e, List.reverse_reverse]
  have hx2 := hx.2
  rw [e2] at hx2
  have e3 := RunR.det hx2 hy.2
  obtain ⟨a, b, c, d⟩ := x
  obtain ⟨a', b', c', d'⟩ := y
  simp only at h e2 e3
  rw [h.1, h.2.1, e2, e3]
def inS (S : List Stand) (t : Stand) : Bool := S.any fun u => decide (number u = number t)

structure Sim (K : Canal) (s0 : Stand) (S : List Stand) (P : List Item) (f left : Nat) (h : Heap) (T : Tree) : Prop where
  perm : (items h).Perm P
  ord : Ord h
  ok : ∀ x ∈ P, IOk K s0 x
  many : ∀ x ∈ P, x.many ≤ S.length
  sg : ∀ t ∈ S, Good K t
  tree : ∀ n, T.has n = S.any fun u => decide (number u = n)
  left_ : left + S.length = 4000
  fuel : P.length + 34 * left < f
  top : f ≤ FUEL
theorem Sim.has {K : Canal} {s0 : Stand} {S : List Stand} {P : List Item} {f l : Nat} {h : Heap} {T : Tree} (m : Sim K s0 S P f l h T) (t : Stand) : T.has (number t) = inS S t := m.tree _
theorem inS_iff {K : Canal} {S : List Stand} {t : Stand} (k : GoodK K) (g : Good K t) (gs : ∀ u ∈ S, Good K u) : inS S t = true ↔ t ∈ S := by
  unfold inS
  rw [List.any_eq_true]
  constructor
  · rintro ⟨u, hu, e⟩
    rw [← number_inj k (gs u hu) g (of_decide_eq_true e)]
    exact hu
  · intro h
    exact ⟨t, h, decide_eq_true rfl⟩
theorem Sim.of_perm {K : Canal} {s0 : Stand} {S : List Stand} {P P' : List Item} {f l : Nat} {h : Heap} {T : Tree} (m : Sim K s0 S P f l h T) (p : P.Perm P') : Sim K s0 S P' f l h T :=
  ⟨m.perm.trans p, m.ord, fun x hx => m.ok x (p.mem_iff.mpr hx), fun x hx => m.many x (p.mem_iff.mpr hx), m.sg, m.tree, m.left_, by rw [← p.length_eq]; exact m.fuel, m.top⟩
def start0 (s0 : Stand) : Item := ⟨0, 0, [], s0⟩
theorem sim_start {K : Canal} {s0 : Stand} : Sim K s0 [] [start0 s0] FUEL STANDS (.node (start0 s0) .leaf .leaf) .leaf where
  perm := by simp [items]
  ord := ⟨fun y hy => by simp [items] at hy, trivial, trivial⟩
  ok := fun x hx => by
    rw [List.mem_singleton.mp hx]
    exact ⟨rfl, rfl⟩
  many := fun x hx => by
    rw [List.mem_singleton.mp hx]
    exact Nat.zero_le _
  sg := fun t ht => by simp at ht
  tree := fun n => rfl
  left_ := rfl
  fuel := by show 1 + 34 * 4000 < 1000000; omega
  top := Nat.le_refl _

section
variable {K : Canal} {s0 : Stand} {S : List Stand} {P : List Item} {f l : Nat} {h : Heap} {T : Tree} {x0 : Item} {w : Bool} {g : List Nat}
theorem sim_pop (m : Sim K s0 S (x0 :: P) f l h T) (hmin : ∀ y ∈ P, ¬ ikey y < ikey x0) : ∃ f' a b, f = f' + 1 ∧ h = .node x0 a b ∧ (items (Heap.merge FUEL a b)).Perm P ∧ Ord (Heap.merge FUEL a b) := by
  have hf := m.fuel
  have ht := m.top
  simp only [List.length_cons] at hf
  cases h with
  | leaf =>
    have := m.perm.length_eq
    simp [items] at this
  | node x a b =>
    have hlen := m.perm.length_eq
    simp only [items, List.length_cons, List.length_append] at hlen
    have hx : x ∈ x0 :: P := m.perm.mem_iff.mp (by simp [items])
    have h0 : x0 ∈ items (.node x a b) := m.perm.mem_iff.mpr List.mem_cons_self
    have e : x = x0 := by
      have i1 : ¬ ikey x0 < ikey x := by
        have h0' : x0 = x ∨ x0 ∈ items a ++ items b := by simpa [items] using h0
        rcases h0' with q | q
        · rw [q]; exact List.lt_irrefl _
        · exact m.ord.1 _ q
      have i2 : ¬ ikey x < ikey x0 := by
        rcases List.mem_cons.mp hx with q | q
        · rw [q]; exact List.lt_irrefl _
        · exact hmin _ q
      exact item_eq (m.ok x hx) (m.ok x0 List.mem_cons_self) (lt_tri i2 i1)
    subst e
    have hz : (items a).length + (items b).length ≤ FUEL := by omega
    have wf : ∀ y ∈ items (.node x a b), Wf y := fun y hy => (m.ok y (m.perm.mem_iff.mp hy)).1
    refine ⟨f - 1, a, b, by omega, rfl, ?_, merge_ord FUEL a b hz (fun y hy => wf y (by simp [items, hy])) (fun y hy => wf y (by simp [items, hy])) m.ord.2.1 m.ord.2.2⟩
    refine (merge_items FUEL a b hz).trans ?_
    exact (List.perm_cons x).mp m.perm
theorem sim_empty (m : Sim K s0 S [] f l h T) : seek K w g f l h T = .none := by
  have hf := m.fuel
  cases h with
  | node x a b =>
    have := m.perm.length_eq
    simp [items] at this
  | leaf =>
    cases f with
    | zero => simp at hf
    | succ f => rfl
theorem sim_skip (m : Sim K s0 S (x0 :: P) f l h T) (hmin : ∀ y ∈ P, ¬ ikey y < ikey x0) (hs : inS S x0.stand = true) : ∃ f' h', Sim K s0 S P f' l h' T ∧ seek K w g f' l h' T = seek K w g f l h T := by
  obtain ⟨f', a, b, rfl, rfl, p, o⟩ := sim_pop m hmin
  have hf := m.fuel
  have ht := m.top
  simp only [List.length_cons] at hf
  refine ⟨f', Heap.merge FUEL a b, ⟨p, o, fun x hx => m.ok x (List.mem_cons_of_mem _ hx), fun x hx => m.many x (List.mem_cons_of_mem _ hx), m.sg, m.tree, m.left_, by omega, by omega⟩, ?_⟩
  symm
  rw [seek.eq_def]
  dsimp only
  rw [if_pos (by rw [m.has, hs])]
theorem sim_plan (m : Sim K s0 S (x0 :: P) f l h T) (hmin : ∀ y ∈ P, ¬ ikey y < ikey x0) (hs : inS S x0.stand = false) (hg : meets g x0.stand = true) : seek K w g f l h T = .plan x0.used x0.path.reverse := by
  obtain ⟨f', a, b, rfl, rfl, p, o⟩ := sim_pop m hmin
  rw [seek.eq_def]
  dsimp only
  rw [if_neg (by rw [m.has, hs]; exact Bool.false_ne_true), if_pos hg]
theorem sim_many (m : Sim K s0 S (x0 :: P) f l h T) (hmin : ∀ y ∈ P, ¬ ikey y < ikey x0) (hs : inS S x0.stand = false) (hg : ¬ meets g x0.stand = true) (hl : S.length = 4000) : seek K w g f l h T = .many := by
  obtain ⟨f', a, b, rfl, rfl, p, o⟩ := sim_pop m hmin
  have : l = 0 := by have := m.left_; omega
  subst this
  rw [seek.eq_def]
  dsimp only
  rw [if_neg (by rw [m.has, hs]; exact Bool.false_ne_true), if_neg hg]
/-- what waits newly behind x0 -/
def fresh (K : Canal) (w : Bool) (S : List Stand) (x0 : Item) : List Item :=
  ((onward K x0.stand).filter fun y => !inS S y.2).map fun y => ⟨x0.used + uses K w y.1, x0.many + 1, y.1 :: x0.path, y.2⟩
theorem put_all {K : Canal} {w : Bool} {x0 : Item} {T : Tree} : ∀ (L : List (Op × Stand)) (a : Heap), (items a).length + L.length ≤ FUEL → WfH a → Ord a → Wf x0 →
    let r := L.foldl (fun (a : Heap) (y : Op × Stand) => if T.has (number y.2) = true then a else a.put ⟨x0.used + uses K w y.1, x0.many + 1, y.1 :: x0.path, y.2⟩) a
    (items r).Perm (((L.filter fun y => !T.has (number y.2)).map fun y => (⟨x0.used + uses K w y.1, x0.many + 1, y.1 :: x0.path, y.2⟩ : Item)) ++ items a) ∧ Ord r
  | [], a, _, _, o, _ => ⟨List.Perm.refl _, o⟩
  | y :: L, a, hz, wa, o, wx => by
    simp only [List.length_cons] at hz
    rw [List.foldl_cons]
    by_cases c : T.has (number y.2) = true
    · rw [if_pos c, List.filter_cons_of_neg (by simp [c])]
      exact put_all L a (by omega) wa o wx
    · rw [if_neg c, List.filter_cons_of_pos (by simp [c])]
      have wy : Wf (⟨x0.used + uses K w y.1, x0.many + 1, y.1 :: x0.path, y.2⟩ : Item) := by
        show x0.many + 1 = x0.path.length + 1
        rw [show x0.many = x0.path.length from wx]
      have p := put_items (h := a) (x := ⟨x0.used + uses K w y.1, x0.many + 1, y.1 :: x0.path, y.2⟩) (by omega)
      have o2 := put_ord (h := a) (x := ⟨x0.used + uses K w y.1, x0.many + 1, y.1 :: x0.path, y.2⟩) (by omega) wa wy o
      have w2 : WfH (a.put ⟨x0.used + uses K w y.1, x0.many + 1, y.1 :: x0.path, y.2⟩) := wf_perm p fun z hz => by
        rcases List.mem_cons.mp hz with q | q
        · rw [q]; exact wy
        · exact wa z q
      obtain ⟨p2, o3⟩ := put_all L _ (by rw [p.length_eq, List.length_cons]; omega) w2 o2 wx
      refine ⟨p2.trans ?_, o3⟩
      rw [List.map_cons]
      exact ((List.Perm.append_left _ p).trans List.perm_middle)
theorem sim_settle (k : GoodK K) (g0 : Good K s0) (m : Sim K s0 S (x0 :: P) f l h T) (hmin : ∀ y ∈ P, ¬ ikey y < ikey x0) (hs : inS S x0.stand = false) (hg : ¬ meets g x0.stand = true) (hl : S.length ≠ 4000) :
    ∃ f' l' h' T', f' < f ∧ Sim K s0 (S ++ [x0.stand]) (fresh K w (S ++ [x0.stand]) x0 ++ P) f' l' h' T' ∧ seek K w g f' l' h' T' = seek K w g f l h T := by
  obtain ⟨f', a, b, rfl, rfl, p, o⟩ := sim_pop m hmin
  have hf := m.fuel
  have ht := m.top
  have hl2 := m.left_
  simp only [List.length_cons] at hf
  obtain ⟨l', rfl⟩ : ∃ l', l = l' + 1 := ⟨l - 1, by omega⟩
  have ok0 := m.ok x0 List.mem_cons_self
  have gx := RunR.good k g0 ok0.2
  have hon := onward_length k x0.stand
  have wr : WfH (Heap.merge FUEL a b) := wf_perm p fun z hz => (m.ok z (List.mem_cons_of_mem _ hz)).1
  obtain ⟨p2, o2⟩ := put_all (K := K) (w := w) (x0 := x0) (T := T) (onward K x0.stand) (Heap.merge FUEL a b) (by rw [p.length_eq]; omega) wr o ok0.1
  have ef : ((onward K x0.stand).filter fun y => !T.has (number y.2)) = (onward K x0.stand).filter fun y => !inS (S ++ [x0.stand]) y.2 := by
    refine List.filter_congr fun y hy => ?_
    obtain ⟨n, hd⟩ := onward_mem hy
    obtain ⟨gy, ne⟩ := done_good k gx hd
    rw [m.has]
    unfold inS
    rw [List.any_append]
    have : decide (number x0.stand = number y.2) = false := decide_eq_false fun q => ne (number_inj k gx gy q).symm
    simp [this]
  refine ⟨f', l', _, T.put (number x0.stand), Nat.lt_succ_self _, ⟨?_, o2, fun z hz => ?_, fun z hz => ?_, fun t ht => ?_, fun n => ?_, ?_, ?_, by omega⟩, ?_⟩
  · refine p2.trans ?_
    rw [ef]
    exact List.Perm.append_left _ p
  · rcases List.mem_append.mp hz with q | q
    · obtain ⟨y, hy, rfl⟩ := List.mem_map.mp q
      obtain ⟨n, hd⟩ := onward_mem (List.mem_filter.mp hy).1
      refine ⟨?_, x0.stand, n, ok0.2, hd⟩
      show x0.many + 1 = x0.path.length + 1
      rw [show x0.many = x0.path.length from ok0.1]
    · exact m.ok z (List.mem_cons_of_mem _ q)
  · rw [List.length_append, List.length_singleton]
    rcases List.mem_append.mp hz with q | q
    · obtain ⟨y, hy, rfl⟩ := List.mem_map.mp q
      have := m.many x0 List.mem_cons_self
      show x0.many + 1 ≤ _
      omega
    · have := m.many z (List.mem_cons_of_mem _ q)
      omega
  · rcases List.mem_append.mp ht with q | q
    · exact m.sg t q
    · rw [List.mem_singleton.mp q]; exact gx
  · rw [has_put, m.tree, List.any_append]
    simp only [List.any_cons, List.any_nil, Bool.or_false]
    rw [Bool.or_comm]
    congr 1
    exact decide_eq_decide.mpr eq_comm
  · rw [List.length_append, List.length_singleton]; omega
  · rw [List.length_append]
    have : (fresh K w (S ++ [x0.stand]) x0).length ≤ 34 := by
      unfold fresh
      rw [List.length_map]
      exact Nat.le_trans (List.length_filter_le ..) hon
    omega
  · rw [seek, if_neg (by rw [m.has, hs]; exact Bool.false_ne_true), if_neg hg]
end
end Cm
end
section
set_option autoImplicit false
/-! what waits, by what it uses and how many operations it has -/
namespace Cm
open CaCanal

abbrev Ent := List Op × Stand
abbrev WL := List ((Nat × Nat) × List Ent)
def entItem (k : Nat × Nat) (e : Ent) : Item := ⟨k.1, k.2, e.1.reverse, e.2⟩
def wItems (W : WL) : List Item := W.flatMap fun e => e.2.map (entItem e.1)
def waitAt (W : WL) (k : Nat × Nat) (e : Ent) : WL := if (W.any fun p => decide (p.1 = k)) = true then W.map (fun p => if p.1 = k then (p.1, p.2 ++ [e]) else p) else W ++ [(k, [e])]
def keyLt (a b : Nat × Nat) : Prop := a.1 < b.1 ∨ (a.1 = b.1 ∧ a.2 < b.2)
theorem ikey_ent (k : Nat × Nat) (e : Ent) : ikey (entItem k e) = k.1 :: k.2 :: flat e.1 := by
  unfold ikey entItem
  rw [List.reverse_reverse]
theorem keyLt_ikey {a b : Nat × Nat} {e e' : Ent} (h : keyLt a b) : ¬ ikey (entItem b e') < ikey (entItem a e) := by
  rw [ikey_ent, ikey_ent]
  simp only [List.cons_lt_cons_iff]
  unfold keyLt at h
  rintro (q | ⟨q1, q | ⟨q2, _⟩⟩) <;> omega
theorem sameKey_ikey {k : Nat × Nat} {e e' : Ent} (h : ¬ flat e'.1 < flat e.1) : ¬ ikey (entItem k e') < ikey (entItem k e) := by
  rw [ikey_ent, ikey_ent]
  simp only [List.cons_lt_cons_iff]
  rintro (q | ⟨q1, q | ⟨q2, q⟩⟩)
  · omega
  · omega
  · exact h q
theorem waitAt_keys {W : WL} {k : Nat × Nat} {e : Ent} : (waitAt W k e).map (·.1) = if (W.any fun p => decide (p.1 = k)) = true then W.map (·.1) else W.map (·.1) ++ [k] := by
  unfold waitAt
  split
  · rw [List.map_map]
    refine List.map_congr_left fun p _ => ?_
    simp only [Function.comp]
    split <;> rfl
  · rw [List.map_append]; rfl
theorem any_key {W : WL} {k : Nat × Nat} : (W.any fun p => decide (p.1 = k)) = true ↔ k ∈ W.map (·.1) := by
  rw [List.any_eq_true, List.mem_map]
  constructor
  · rintro ⟨p, h1, h2⟩; exact ⟨p, h1, of_decide_eq_true h2⟩
  · rintro ⟨p, h1, h2⟩; exact ⟨p, h1, decide_eq_true h2⟩
theorem waitAt_nodup {W : WL} {k : Nat × Nat} {e : Ent} (h : (W.map (·.1)).Nodup) : ((waitAt W k e).map (·.1)).Nodup := by
  rw [waitAt_keys]
  split
  · exact h
  · rename_i c
    rw [any_key] at c
    rw [List.nodup_append]
    refine ⟨h, by simp, fun a ha b hb q => ?_⟩
    rw [List.mem_singleton.mp hb] at q
    exact c (q ▸ ha)
theorem waitAt_mem {W : WL} {k : Nat × Nat} {e : Ent} {q : Nat × Nat} (h : q ∈ (waitAt W k e).map (·.1)) : q = k ∨ q ∈ W.map (·.1) := by
  rw [waitAt_keys] at h
  split at h
  · exact .inr h
  · rcases List.mem_append.mp h with h | h
    · exact .inr h
    · exact .inl (List.mem_singleton.mp h)
theorem waitAt_ne {W : WL} {k : Nat × Nat} {e : Ent} (h : ∀ p ∈ W, p.2 ≠ []) : ∀ p ∈ waitAt W k e, p.2 ≠ [] := fun p hp => by
  unfold waitAt at hp
  split at hp
  · obtain ⟨q, hq, rfl⟩ := List.mem_map.mp hp
    split
    · simp
    · exact h q hq
  · rcases List.mem_append.mp hp with hp | hp
    · exact h p hp
    · rw [List.mem_singleton.mp hp]; simp
theorem map_other {W : WL} {k : Nat × Nat} {e : Ent} (h : ¬ k ∈ W.map (·.1)) : W.map (fun p => if p.1 = k then (p.1, p.2 ++ [e]) else p) = W := by
  refine (List.map_congr_left fun p hp => ?_).trans (List.map_id W)
  rw [if_neg fun q => h (List.mem_map.mpr ⟨p, hp, q⟩)]
  rfl
theorem wItems_cons (p : (Nat × Nat) × List Ent) (W : WL) : wItems (p :: W) = p.2.map (entItem p.1) ++ wItems W := rfl
theorem wItems_append (W W' : WL) : wItems (W ++ W') = wItems W ++ wItems W' := by
  unfold wItems
  rw [List.flatMap_append]
theorem waitAt_map : ∀ {W : WL} {k : Nat × Nat} {e : Ent}, (W.map (·.1)).Nodup → k ∈ W.map (·.1) → (wItems (W.map (fun p => if p.1 = k then (p.1, p.2 ++ [e]) else p))).Perm (entItem k e :: wItems W)
  | [], k, e, _, h => by simp at h
  | p :: W, k, e, hn, h => by
    rw [List.map_cons, List.nodup_cons] at hn
    rw [List.map_cons]
    by_cases c : p.1 = k
    · rw [if_pos c, map_other (c ▸ hn.1), wItems_cons, wItems_cons]
      simp only [List.map_append, List.map_cons, List.map_nil, List.append_assoc, List.cons_append, List.nil_append]
      rw [c]
      exact List.perm_middle
    · rw [if_neg c, wItems_cons, wItems_cons]
      have hm : k ∈ W.map (·.1) := by
        rcases List.mem_cons.mp h with q | q
        · exact absurd q.symm c
        · exact q
      exact ((waitAt_map hn.2 hm).append_left _).trans List.perm_middle
theorem waitAt_items {W : WL} {k : Nat × Nat} {e : Ent} (hn : (W.map (·.1)).Nodup) : (wItems (waitAt W k e)).Perm (entItem k e :: wItems W) := by
  unfold waitAt
  split
  · rename_i c
    exact waitAt_map hn (any_key.mp c)
  · rw [wItems_append]
    show (wItems W ++ [entItem k e]).Perm _
    exact List.perm_append_comm
/-- a key's row is taken out -/
theorem pop_items : ∀ {W : WL} {k : Nat × Nat} {B : List Ent}, (W.map (·.1)).Nodup → (k, B) ∈ W → (wItems W).Perm (B.map (entItem k) ++ wItems (W.filter fun p => decide (p.1 ≠ k)))
  | [], k, B, _, h => by simp at h
  | p :: W, k, B, hn, h => by
    rw [List.map_cons, List.nodup_cons] at hn
    by_cases c : p.1 = k
    · have hk : ¬ k ∈ W.map (·.1) := c ▸ hn.1
      have e : p = (k, B) := by
        rcases List.mem_cons.mp h with q | q
        · exact q.symm
        · exact absurd (List.mem_map.mpr ⟨_, q, rfl⟩) hk
      rw [List.filter_cons_of_neg (by simp [c])]
      have e2 : W.filter (fun p => decide (p.1 ≠ k)) = W := List.filter_eq_self.mpr fun q hq => decide_eq_true fun z => hk (List.mem_map.mpr ⟨q, hq, z⟩)
      rw [e2, e, wItems_cons]
    · have h' : (k, B) ∈ W := by
        rcases List.mem_cons.mp h with q | q
        · exact absurd (by rw [← q]) c
        · exact q
      rw [List.filter_cons_of_pos (by simp [c]), wItems_cons, wItems_cons]
      have ih := pop_items hn.2 h'
      refine (ih.append_left _).trans ?_
      rw [← List.append_assoc, ← List.append_assoc]
      exact List.perm_append_comm.append_right _
def addAll (K : Canal) (w : Bool) (S : List Stand) (k : Nat × Nat) (row : List Op) (W : WL) (L : List (Op × Stand)) : WL :=
  L.foldl (fun W y => if inS S y.2 = true then W else waitAt W (k.1 + uses K w y.1, k.2 + 1) (row ++ [y.1], y.2)) W
section
variable {K : Canal} {w : Bool} {S : List Stand} {k : Nat × Nat} {row : List Op}
theorem addAll_snoc (W : WL) (L : List (Op × Stand)) (y : Op × Stand) : addAll K w S k row W (L ++ [y]) = if inS S y.2 = true then addAll K w S k row W L else waitAt (addAll K w S k row W L) (k.1 + uses K w y.1, k.2 + 1) (row ++ [y.1], y.2) := by
  unfold addAll
  rw [List.foldl_append]
  rfl
structure WOk (k : Nat × Nat) (W : WL) : Prop where
  nd : (W.map (·.1)).Nodup
  ne : ∀ p ∈ W, p.2 ≠ []
  gt : ∀ q ∈ W.map (·.1), keyLt k q
theorem WOk.wait {k q : Nat × Nat} {W : WL} {e : Ent} (h : WOk k W) (hq : keyLt k q) : WOk k (waitAt W q e) :=
  ⟨waitAt_nodup h.nd, waitAt_ne h.ne, fun z hz => by
    rcases waitAt_mem hz with e | e
    · exact e ▸ hq
    · exact h.gt z e⟩
theorem addAll_ok : ∀ (L : List (Op × Stand)) {W : WL}, WOk k W → WOk k (addAll K w S k row W L)
  | [], _, h => h
  | y :: L, W, h => by
    show WOk k (addAll K w S k row (if inS S y.2 = true then W else waitAt W _ _) L)
    split
    · exact addAll_ok L h
    · exact addAll_ok L (h.wait (by unfold keyLt; simp only; omega))
theorem addAll_items : ∀ (L : List (Op × Stand)) {W : WL}, (W.map (·.1)).Nodup →
    (wItems (addAll K w S k row W L)).Perm (((L.filter fun y => !inS S y.2).map fun y => (⟨k.1 + uses K w y.1, k.2 + 1, y.1 :: row.reverse, y.2⟩ : Item)) ++ wItems W)
  | [], W, _ => List.Perm.refl _
  | y :: L, W, h => by
    show (wItems (addAll K w S k row (if inS S y.2 = true then W else waitAt W _ _) L)).Perm _
    by_cases c : inS S y.2 = true
    · rw [if_pos c, List.filter_cons_of_neg (by simp [c])]
      exact addAll_items L h
    · rw [if_neg c, List.filter_cons_of_pos (by simp [c])]
      refine (addAll_items L (waitAt_nodup h)).trans ?_
      refine (List.Perm.append_left _ (waitAt_items h)).trans ?_
      rw [List.map_cons]
      have e : entItem (k.1 + uses K w y.1, k.2 + 1) (row ++ [y.1], y.2) = ⟨k.1 + uses K w y.1, k.2 + 1, y.1 :: row.reverse, y.2⟩ := by
        unfold entItem
        simp
      rw [e]
      exact List.perm_middle
/-- the state between two looks: S come to, B the rest of the row that is looked through, W what waits -/
structure Look (K : Canal) (s0 : Stand) (w : Bool) (g : List Nat) (S : List Stand) (k : Nat × Nat) (B : List Ent) (W : WL) (f : Nat) : Prop where
  ok : WOk k W
  srt : B.Pairwise fun e e' => ¬ flat e'.1 < flat e.1
  sim : ∃ l h T, Sim K s0 S (B.map (entItem k) ++ wItems W) f l h T ∧ seek K w g f l h T = best K w g s0
theorem Look.min {s0 : Stand} {g : List Nat} {e : Ent} {B : List Ent} {W : WL} {f : Nat} (h : Look K s0 w g S k (e :: B) W f) : ∀ y ∈ B.map (entItem k) ++ wItems W, ¬ ikey y < ikey (entItem k e) := fun y hy => by
  rcases List.mem_append.mp hy with q | q
  · obtain ⟨e', he, rfl⟩ := List.mem_map.mp q
    exact sameKey_ikey (List.rel_of_pairwise_cons h.srt he)
  · obtain ⟨p, hp, hq⟩ := List.mem_flatMap.mp q
    obtain ⟨e', _, rfl⟩ := List.mem_map.mp hq
    exact keyLt_ikey (h.ok.gt p.1 (List.mem_map.mpr ⟨p, hp, rfl⟩))
variable {s0 : Stand} {g : List Nat} {e : Ent} {B : List Ent} {W : WL} {f : Nat}
/-- what is known of the entry that is looked at -/
theorem Look.ent (kk : GoodK K) (g0 : Good K s0) (h : Look K s0 w g S k (e :: B) W f) : k.2 = e.1.length ∧ Good K e.2 ∧ k.2 ≤ S.length ∧ S.length ≤ 4000 ∧ (∀ t ∈ S, Good K t) := by
  obtain ⟨l, hh, T, m, _⟩ := h.sim
  have o := m.ok (entItem k e) (by simp)
  have q : k.2 = (e.1.reverse).length := o.1
  have z := m.left_
  exact ⟨by simpa using q, RunR.good kk g0 o.2, m.many (entItem k e) (by simp), by omega, m.sg⟩
theorem Look.skip (h : Look K s0 w g S k (e :: B) W f) (hs : inS S e.2 = true) : ∃ f', f' < f ∧ Look K s0 w g S k B W f' := by
  have hm := h.min
  obtain ⟨l, hh, T, m, q⟩ := h.sim
  have hf := m.fuel
  obtain ⟨f', a, b, rfl, rfl, p, o⟩ := sim_pop (x0 := entItem k e) m hm
  have ht := m.top
  simp only [List.map_cons, List.cons_append, List.length_cons] at hf
  have m2 : Sim K s0 S (B.map (entItem k) ++ wItems W) f' l (Heap.merge FUEL a b) T := ⟨p, o, fun x hx => m.ok x (List.mem_cons_of_mem _ hx), fun x hx => m.many x (List.mem_cons_of_mem _ hx), m.sg, m.tree, m.left_, by omega, by omega⟩
  refine ⟨f', Nat.lt_succ_self _, h.ok, (List.pairwise_cons.mp h.srt).2, l, _, T, m2, ?_⟩
  rw [← q]
  symm
  rw [seek.eq_def]
  dsimp only
  rw [if_pos (by rw [m.has]; exact hs)]
theorem Look.plan (h : Look K s0 w g S k (e :: B) W f) (hs : inS S e.2 = false) (hg : meets g e.2 = true) : best K w g s0 = .plan k.1 e.1 := by
  have hm := h.min
  obtain ⟨l, hh, T, m, q⟩ := h.sim
  have z := sim_plan (x0 := entItem k e) (w := w) (g := g) m hm hs hg
  rw [← q, z]
  show Found.plan k.1 (e.1.reverse).reverse = _
  rw [List.reverse_reverse]
theorem Look.many (h : Look K s0 w g S k (e :: B) W f) (hs : inS S e.2 = false) (hg : ¬ meets g e.2 = true) (hl : S.length = 4000) : best K w g s0 = .many := by
  have hm := h.min
  obtain ⟨l, hh, T, m, q⟩ := h.sim
  rw [← q]
  exact sim_many (x0 := entItem k e) m hm hs hg hl
theorem Look.settle (kk : GoodK K) (g0 : Good K s0) (h : Look K s0 w g S k (e :: B) W f) (hs : inS S e.2 = false) (hg : ¬ meets g e.2 = true) (hl : S.length ≠ 4000) :
    ∃ f', f' < f ∧ Look K s0 w g (S ++ [e.2]) k B (addAll K w (S ++ [e.2]) k e.1 W (onward K e.2)) f' := by
  have hm := h.min
  obtain ⟨l, hh, T, m, q⟩ := h.sim
  have hf := m.fuel
  obtain ⟨f1, a, b, e1, e2, _, _⟩ := sim_pop (x0 := entItem k e) m hm
  obtain ⟨f', l', h', T', lt, m2, q2⟩ := sim_settle (x0 := entItem k e) (w := w) (g := g) kk g0 m hm hs hg hl
  have pm : (fresh K w (S ++ [(entItem k e).stand]) (entItem k e) ++ (B.map (entItem k) ++ wItems W)).Perm (B.map (entItem k) ++ wItems (addAll K w (S ++ [e.2]) k e.1 W (onward K e.2))) := by
    refine List.Perm.trans ?_ (List.Perm.append_left _ (addAll_items (onward K e.2) h.ok.nd).symm)
    rw [← List.append_assoc, ← List.append_assoc]
    exact List.perm_append_comm.append_right _
  exact ⟨f', lt, addAll_ok _ h.ok, (List.pairwise_cons.mp h.srt).2, l', h', T', m2.of_perm pm, q2.trans q⟩
/-- ahead of a look through a row: nothing is in hand -/
structure Wait (K : Canal) (s0 : Stand) (w : Bool) (g : List Nat) (S : List Stand) (W : WL) (f : Nat) : Prop where
  nd : (W.map (·.1)).Nodup
  ne : ∀ p ∈ W, p.2 ≠ []
  sim : ∃ l h T, Sim K s0 S (wItems W) f l h T ∧ seek K w g f l h T = best K w g s0
theorem wait_start : Wait K s0 w g [] [((0, 0), [([], s0)])] FUEL :=
  ⟨by simp, fun p hp => by rw [List.mem_singleton.mp hp]; simp, STANDS, _, _, sim_start, rfl⟩
theorem Wait.none (h : Wait K s0 w g S [] f) : best K w g s0 = .none := by
  obtain ⟨l, hh, T, m, q⟩ := h.sim
  rw [← q]
  exact sim_empty m
theorem Look.wait (h : Look K s0 w g S k [] W f) : Wait K s0 w g S W f := ⟨h.ok.nd, h.ok.ne, h.sim⟩
/-- the entries that wait are rows of operations of their key's length -/
theorem Wait.ent (kk : GoodK K) (g0 : Good K s0) (h : Wait K s0 w g S W f) {B : List Ent} (hB : (k, B) ∈ W) (he : e ∈ B) : k.2 = e.1.length ∧ Good K e.2 := by
  obtain ⟨l, hh, T, m, _⟩ := h.sim
  have o := m.ok (entItem k e) (List.mem_flatMap.mpr ⟨(k, B), hB, List.mem_map.mpr ⟨e, he, rfl⟩⟩)
  have q : k.2 = (e.1.reverse).length := o.1
  exact ⟨by simpa using q, RunR.good kk g0 o.2⟩
theorem Wait.small (h : Wait K s0 w g S W f) : (wItems W).length < 1000000 := by
  obtain ⟨l, hh, T, m, _⟩ := h.sim
  have h1 := m.fuel
  have h2 := m.top
  have h3 : FUEL = 1000000 := rfl
  omega
theorem Look.small (h : Look K s0 w g S k B W f) : B.length + (wItems W).length < 1000000 := by
  obtain ⟨l, hh, T, m, _⟩ := h.sim
  have h1 := m.fuel
  have h2 := m.top
  have h3 : FUEL = 1000000 := rfl
  rw [List.length_append, List.length_map] at h1
  omega
theorem keyLt_tri {a b : Nat × Nat} (h : ¬ keyLt a b) (h' : ¬ keyLt b a) : a = b := by
  unfold keyLt at h h'
  obtain ⟨a1, a2⟩ := a
  obtain ⟨b1, b2⟩ := b
  simp only at h h'
  rw [Prod.mk.injEq]
  omega
/-- the row with the least key, in order, is looked through next -/
theorem Wait.take (h : Wait K s0 w g S W f) {B B' : List Ent} (hB : (k, B) ∈ W) (hmin : ∀ q ∈ W.map (·.1), ¬ keyLt q k) (p : B'.Perm B) (hs : B'.Pairwise fun e e' => ¬ flat e'.1 < flat e.1) :
    Look K s0 w g S k B' (W.filter fun p => decide (p.1 ≠ k)) f := by
  refine ⟨⟨?_, fun q hq => h.ne q (List.mem_filter.mp hq).1, fun q hq => ?_⟩, hs, ?_⟩
  · exact List.Sublist.nodup (List.Sublist.map _ List.filter_sublist) h.nd
  · obtain ⟨z, hz, rfl⟩ := List.mem_map.mp hq
    obtain ⟨h1, h2⟩ := List.mem_filter.mp hz
    have h3 := hmin z.1 (List.mem_map.mpr ⟨z, h1, rfl⟩)
    exact Classical.byContradiction fun c => of_decide_eq_true h2 (keyLt_tri h3 c)
  · obtain ⟨l, hh, T, m, q⟩ := h.sim
    refine ⟨l, hh, T, m.of_perm ((pop_items h.nd hB).trans (List.Perm.append_right _ (p.map _).symm)), q⟩
end
end Cm
end
section
set_option Elab.async false
set_option linter.all false
set_option maxRecDepth 100000
set_option maxHeartbeats 2000000
/-! own rules: enumerate of a tuple, zip of a list and a tuple, a chain of three comparisons, x[k] op= e, tuple.count, list.extend of a tuple, sum of a tuple -/
namespace Cn
open PySem PySem.Spec PyProof.Rows L2

/-! ### walks that hand out new tuples -/
theorem turn_ofT {P : Program} {w : World} {K : PySem.W.Frag} {elts : List Expr} {kk : Nat} {tpos : Pos} {J : It} {fp : List Addr} {it : Addr} {tn : Nat → Heap → Prop} (mem : it ∈ fp)
    (obj : ∀ i h, tn i h → ∀ b ∈ fp, ∃ o, h.get? b = some o ∧ ∀ v, o.data ≠ .cell v) (keep : ∀ i h h', tn i h → (∀ b ∈ fp, ∀ o, h.get? b = some o → h'.get? b = some o) → tn i h')
    (walk : ∀ (X : Cx), X.prog = P → X.w = w → X.K = K → X.calm = true → ∀ (i : Nat) (pins : List (Addr × Obj)) (s : Shared) (σ : L2.St) (H : Hp), Inv X pins σ H s → tn i s.heap → (J.go i H ∨ J.stop i H) →
      ∃ (fpW wr : List Addr) (n : Nat) (Pt : Nat → Array Value → Prop) (S : Nat → Heap → Prop) (Mid : Nat → Addr → Heap → Prop), WalksT P w X.A it fpW wr n Pt S Mid ∧ S i s.heap ∧ (∀ b ∈ wr, b ∈ fp) ∧ (∀ h, S (i + 1) h → tn (i + 1) h) ∧
        (J.go i H → i < n ∧ ∀ vals, Pt i vals → ∃ xs, Vals xs vals.toList ∧ xs.length ≤ sizeLine ∧ ∀ T, H T = none → J.yld i H (.ref T) (upd H T (.tup xs))) ∧ (J.stop i H → i = n))
    (self : ∀ (A : Around) (i : Nat) (s : Shared) (Q : Value → Shared → Prop) (E : Value → Shared → Prop), tn i s.heap → Q (.ref it) s → wpAny (model P w) A (pyIter (.ref it)) Q E s) :
    Turn P w K (.Tuple elts kk tpos) J fp it tn where
  mem := mem
  obj := obj
  keep := keep
  item := by
    intro X hP hw hK hc i pins s σ H E I hf st hg
    obtain ⟨fpW, wr, n, Pt, S, Mid, W, hS, sub, hT, hgo, _⟩ := walk X hP hw hK hc i pins s σ H I st (.inl hg)
    obtain ⟨hi, hy⟩ := hgo hg
    refine W.item i s _ E hi hS fun T vals h' tk hPt hsz hIT hMid hk => ?_
    obtain ⟨xs, rv, hl, yl⟩ := hy vals hPt
    refine ⟨_, rfl, W.go elts kk tpos i T { s with heap := h', toks := tk } _ _ hMid fun h'' hst'' hk'' => ?_⟩
    have hT2 : h''.IsTuple T vals := hIT.at fun o e => hk'' T o (W.apart i T h' hMid) e
    subst hP hw hK
    have new : ObjOk X.prog X.w (upd H T (.tup xs)) h'' T (.tup xs) := ⟨hl, vals.toList, rv, by rw [Array.toArray_toList]; exact hT2⟩
    have I1 : Inv X pins σ (upd H T (.tup xs)) { s with heap := h'', toks := tk } :=
      I.turnedNew (t' := tk) (ch := wr) (fun b o hb e => hk'' b o hb (hk b o hb e)) (fun b hb => hf b (sub b hb)) hsz new
    refine ⟨.ref T, _, I1, rfl, yl T (I.hok.fresh hsz), hT h'' hst'', fun b hb => ?_⟩
    have hlt : b < s.heap.objs.size := by
      obtain ⟨o, e, _⟩ := obj i s.heap st b hb
      exact Heap.lt_size e
    rw [upd_ne (Nat.ne_of_lt (Nat.lt_of_lt_of_le hlt hsz))]
    exact (hf b hb).1
  done := by
    intro X hP hw hK hc i pins s σ H E I hf st hg
    obtain ⟨fpW, wr, n, Pt, S, Mid, W, hS, sub, hT, _, hstop⟩ := walk X hP hw hK hc i pins s σ H I st (.inr hg)
    have e := hstop hg
    subst e
    refine W.done s _ E hS fun h' tk hk => ⟨rfl, ?_⟩
    exact I.turnedL (t' := tk) (ch := wr) (fun b o hb e => hk b o hb e) (fun b hb => hf b (sub b hb))
  self := self

/-! ### enumerate(tuple) -/
theorem meets_enumerate_newB1 {v : Value} {o : Obj} {H : Heap → Prop} (B : Begins v o H) :
    Meets (Builtin.«enumerate.__new__» ⟨[.type "enumerate", v], []⟩) (fun _ R s => H s.heap ∧
      R (.ok (.ret (.ref (s.heap.push o).objs.size))) { s with heap := (s.heap.push o).push { cls := .type "enumerate", data := .fields #[.none, .bool false, .ref s.heap.objs.size, rawInt 0, .none, .none] } }) :=
  .of_wp fun prog w A R s h => by
    obtain ⟨hp, g, d, tk, os⟩ := s; obtain ⟨h1, h⟩ := h
    have hsub := sub_enumerate
    have q1 : ∀ {A' : Around} {E : Value → Shared → Prop} {Q : Value → Shared → Prop}, Q (.ref hp.objs.size) ⟨hp.push o, g, d, tk, os⟩ → wpAny (model prog w) A' (pyIter v) Q E ⟨hp, g, d, tk, os⟩ :=
      fun q => B.iter prog w _ _ ⟨hp, g, d, tk, os⟩ _ h1 q
    wp_walk using q1
    refine wpAny_stack_any fun st => wpAny_pure ?_
    split
    · rename_i c _ _ _ _ _
      cases (c == Value.type "enumerate")
      · wp_walk using q1
        exact ⟨_, rfl, h⟩
      · wp_walk using q1
        exact ⟨_, rfl, h⟩
    · wp_walk using q1
      exact ⟨_, rfl, h⟩
theorem enum_begins1 {prog : Program} {w : World} {A : Around} {E : Value → Shared → Prop} {s : Shared} {v : Value} {o : Obj} {H : Heap → Prop} {Q : Value → Shared → Prop} (B : Begins v o H) (h1 : H s.heap)
    (h : ∀ h', IsEnum h' (s.heap.objs.size + 1) s.heap.objs.size 0 .none → h'.get? s.heap.objs.size = some o → h'.objs.size = s.heap.objs.size + 2 →
      (∀ b o, s.heap.get? b = some o → h'.get? b = some o) → Q (.ref (s.heap.objs.size + 1)) { s with heap := h' }) :
    wpAny (model prog w) A (call (.type "enumerate") [v]) Q E s := by
  refine callType_new F.called_enumerate (by decide) (F.typeCall_enumerate_1 _) (F.newCall_enumerate_1 _) (fun obj => F.args_object_init_2 obj _) F.entry_enumerate_new
    (meets_enumerate_newB1 B) ⟨h1, ?_⟩
  have hz : (s.heap.push o).objs.size = s.heap.objs.size + 1 := Heap.size_push ..
  show _ ∧ _
  rw [hz]
  have he : IsEnum ((s.heap.push o).push { cls := .type "enumerate", data := .fields #[.none, .bool false, .ref s.heap.objs.size, rawInt 0, .none, .none] }) (s.heap.objs.size + 1) s.heap.objs.size 0 .none := by
    have := Heap.get?_push_size (s.heap.push o) (o := { cls := .type "enumerate", data := .fields #[.none, .bool false, .ref s.heap.objs.size, rawInt 0, .none, .none] }) rfl
    rw [hz] at this; exact this
  refine ⟨⟨_, he, rfl⟩, h _ he (Heap.get?_push_of_some _ (Heap.get?_push_size _ B.free)) (by rw [Heap.size_push, hz]) fun b o x => Heap.get?_push_of_some _ (Heap.get?_push_of_some _ x)⟩
/-- the tuple at a as it stands at each turn, each item in a new pair -/
def IteT (K : PySem.W.Frag) (a : Addr) : It :=
  ⟨fun i H => ∃ (xs : List V) (x : V), SqT K H a xs ∧ xs[i]? = some x, fun i H v H' => ∃ T x, v = .ref T ∧ H T = none ∧ H' = upd H T (.tup [.int (i : Nat), x]) ∧ ∀ xs, SqT K H a xs → xs[i]? = some x, fun i H => ∃ xs : List V, SqT K H a xs ∧ xs.length = i⟩
theorem turn_enumT {P : Program} {w : World} {K : PySem.W.Frag} {elts : List Expr} {kk : Nat} {tpos : Pos} (a e it : Addr) :
    Turn P w K (.Tuple elts kk tpos) (IteT K a) [e, it] e (fun i h => (∃ old, IsEnum h e it ((i : Nat) : Int) old) ∧ h.IsTupleIter it a i ∧ e ≠ it ∧ a ≠ it ∧ e ≠ a) := by
  refine turn_ofT (by simp) (fun i h st b hb => ?_) (fun i h h' st k => ?_) ?_ ?_
  · obtain ⟨⟨old, he⟩, ⟨o, ho, hc, hd⟩, _⟩ := st
    have e' : b = e ∨ b = it := by simpa using hb
    rcases e' with z | z
    · rw [z]; exact ⟨_, he, fun v q => nomatch q⟩
    · rw [z]; exact ⟨o, ho, fun v q => by rw [hd] at q; cases q⟩
  · obtain ⟨⟨old, he⟩, hi, hne⟩ := st
    exact ⟨⟨old, k e (by simp) _ he⟩, hi.at fun o q => k it (by simp) o q, hne⟩
  · intro X hP hw hK hc i pins s σ H I st hg
    subst hP hw hK
    obtain ⟨⟨old, he⟩, hit, hne, hai, hea⟩ := st
    have hq : ∃ xs, SqT X.K H a xs := by
      rcases hg with ⟨xs, _, h, _⟩ | ⟨xs, h, _⟩
      · exact ⟨xs, h⟩
      · exact ⟨xs, h⟩
    obtain ⟨xs, hq⟩ := hq
    obtain ⟨its, rv, p, hz⟩ := I.tuple hq
    have W := WalksT.enumFrom (prog := X.prog) (w := X.w) (A := X.A) 0 (Draws.tuple (prog := X.prog) (w := X.w) (A := X.A.in1) (show X.A.in1.handled = none from I.ok.hd hc) it a hai its.toArray) e hne (by
      intro hm
      have hm' : e = it ∨ e = a := by simpa using hm
      rcases hm' with z | z
      · exact hne z
      · exact hea z) (by simp)
    refine ⟨_, _, _, _, _, _, W, ⟨⟨old, by rw [Int.zero_add]; exact he⟩, hit, p⟩, fun b hb => hb, fun h hS => ?_, fun go => ?_, fun stop => ?_⟩
    · obtain ⟨⟨o2, h1⟩, h2, _⟩ := hS
      exact ⟨⟨o2, by rw [Int.zero_add] at h1; exact h1⟩, h2, hne, hai, hea⟩
    · obtain ⟨ys, y, hy, hy2⟩ := go
      have ey := I.tuple_inj hy hq
      subst ey
      have hl := rv.length
      obtain ⟨hlt, hget⟩ := List.getElem?_eq_some_iff.mp hy2
      refine ⟨by rw [List.size_toArray, ← hl]; exact hlt, fun vals hP => ?_⟩
      obtain ⟨t, x, hx, rfl⟩ := hP
      obtain ⟨u, hu, ru⟩ := rv.get hy2
      have e2 : u = x := by
        have : its[i]? = some x := by simpa using hx
        rw [hu] at this
        exact Option.some.inj this
      subst e2
      refine ⟨[.int (i : Nat), y], .cons ⟨t, by rw [Int.zero_add]⟩ (.cons ru .nil), by show 2 ≤ sizeLine; decide, fun T hT => ⟨T, y, rfl, hT, rfl, fun zs hzs => ?_⟩⟩
      rw [I.tuple_inj hzs hq]
      exact hy2
    · obtain ⟨ys, hy, hy2⟩ := stop
      rw [I.tuple_inj hy hq] at hy2
      rw [List.size_toArray, ← rv.length, hy2]
  · intro A i s Q E st h
    obtain ⟨⟨_, he⟩, _⟩ := st
    exact wpAny_pyIter_enum he h
def iEnumT (K : PySem.W.Frag) (ta : TA) : TI := fun σ H R => ta σ H fun vs H1 => ∃ a xs, vs = [.ref a] ∧ SqT K H1 a xs ∧ R (IteT K a) H1
theorem pi_enumT {X : Cx} {e : Expr} {ta : TA} {p pos tpos : Pos} {elts : List Expr} {kk : Nat} (hg : Gl X "enumerate") (hm : X.mg "enumerate" = none) (ha : PA X [e] ta) (hs : starEach [e] X.env = [(false, eval e X.env)] := by rfl) :
    PI X (.Tuple elts kk tpos) (.Call (.Name "enumerate" p) [e] [] pos) (iEnumT X.K ta) := by
  refine ⟨fun pins s σ H R I h => ?_⟩
  refine Call_ (ld_blt I hg hm boot_enumerate (PyProof.Rows.callWith_type1 (thn (ha.run pos pins s σ H _ I h) fun us s1 ⟨vs, H1, I1, r1, q1⟩ => ?_) hs rfl))
  obtain ⟨a, xs, ex, hq, q⟩ := q1
  subst ex
  cases r1 with
  | cons r rr =>
    cases rr
    cases r
    obtain ⟨its, rv, p', hz⟩ := I1.tuple hq
    have hlt : a < s1.heap.objs.size := p'.lt
    refine enum_begins1 (begins_tuple a its.toArray) (show s1.heap.IsTuple a its.toArray from p') fun h' he hit hsz hk => wpAny_pyIter_enum he ?_
    have I2 : Inv X pins σ H1 { s1 with heap := h' } := I1.kept (t' := s1.toks) hk
    refine ⟨s1.heap.objs.size + 1, [s1.heap.objs.size + 1, s1.heap.objs.size], _, _, H1, rfl, I2, turn_enumT a (s1.heap.objs.size + 1) s1.heap.objs.size, ⟨⟨.none, he⟩, ⟨_, hit, rfl, rfl⟩, Nat.succ_ne_self _, Nat.ne_of_lt hlt, Nat.ne_of_gt (Nat.lt_succ_of_lt hlt)⟩, fun b hb => ?_, q⟩
    have e' : b = s1.heap.objs.size + 1 ∨ b = s1.heap.objs.size := by simpa using hb
    have hle : s1.heap.objs.size ≤ b := by
      rcases e' with z | z
      · rw [z]; exact Nat.le_add_right _ _
      · rw [z]; exact Nat.le_refl _
    exact I1.fpOk hle (I1.hok.fresh hle)
theorem walk_enumT {K : PySem.W.Frag} {a : Addr} {xs : List V} : Walk (IteT K a) xs.length (fun H => SqT K H a xs) (YPair (fun i => some (.int (i : Nat))) (fun i => xs[i]?)) := by
  refine ⟨fun i _ hi q => ⟨xs, xs[i], q, by simp [hi]⟩, fun _ q => ⟨xs, q, rfl⟩, fun i H v H' _ q y => ?_⟩
  obtain ⟨T, x, h1, h2, h3, h4⟩ := y
  exact ⟨T, .int (i : Nat), x, h1, h2, h3, rfl, h4 xs q⟩
end Cn
end
section
set_option Elab.async false
set_option linter.all false
set_option maxRecDepth 100000
set_option maxHeartbeats 2000000
namespace Cn
open PySem PySem.Spec PyProof.Rows L2
/-! ### zip(list, tuple) -/
def ItzLT (K : PySem.W.Frag) (a b : Addr) : It :=
  ⟨fun i H => ∃ (xs ys : List V) (x y : V), SqL K H a xs ∧ SqT K H b ys ∧ xs[i]? = some x ∧ ys[i]? = some y,
    fun i H v H' => ∃ T x y, v = .ref T ∧ H T = none ∧ H' = upd H T (.tup [x, y]) ∧ (∀ xs, SqL K H a xs → xs[i]? = some x) ∧ ∀ ys, SqT K H b ys → ys[i]? = some y,
    fun i H => ∃ xs ys : List V, SqL K H a xs ∧ SqT K H b ys ∧ min xs.length ys.length = i⟩
theorem turn_zipLT {P : Program} {w : World} {K : PySem.W.Frag} {elts : List Expr} {kk : Nat} {tpos : Pos} {a b z TI TO i1 i2 : Addr} (D : ZipSep2 z TI TO i1 i2 [i1, a] [i2, b]) (ha : a ≠ i1) (hb : b ≠ i2) :
    Turn P w K (.Tuple elts kk tpos) (ItzLT K a b) [z, TI, TO, i1, i2] z (fun i h => IsZip h z TI TO .none ∧ IsTupOf2 h TI (.ref i1) (.ref i2) ∧ (∃ x y, IsTupOf2 h TO x y) ∧ h.IsListIter i1 a i ∧ h.IsTupleIter i2 b i) := by
  refine turn_ofT (by simp) (fun i h st c hc => ?_) (fun i h h' st k => ?_) ?_ ?_
  · obtain ⟨hz, hTI, ⟨x, y, hTO⟩, ⟨o1, e1, _, d1⟩, ⟨o2, e2, _, d2⟩⟩ := st
    have e' : c = z ∨ c = TI ∨ c = TO ∨ c = i1 ∨ c = i2 := by simpa using hc
    rcases e' with q | q | q | q | q
    · rw [q]; exact ⟨_, hz, fun v q => nomatch q⟩
    · rw [q]; exact ⟨_, hTI, fun v q => nomatch q⟩
    · rw [q]; exact ⟨_, hTO, fun v q => nomatch q⟩
    · rw [q]; exact ⟨o1, e1, fun v q => by rw [d1] at q; cases q⟩
    · rw [q]; exact ⟨o2, e2, fun v q => by rw [d2] at q; cases q⟩
  · obtain ⟨hz, hTI, ⟨x, y, hTO⟩, h1, h2⟩ := st
    exact ⟨k z (by simp) _ hz, k TI (by simp) _ hTI, ⟨x, y, k TO (by simp) _ hTO⟩, h1.at fun o q => k i1 (by simp) o q, h2.at fun o q => k i2 (by simp) o q⟩
  · intro X hP hw hK hc i pins s σ H I st hg
    subst hP hw hK
    obtain ⟨hz, hTI, hTO, h1, h2⟩ := st
    have hq : ∃ xs ys, SqL X.K H a xs ∧ SqT X.K H b ys := by
      rcases hg with ⟨xs, ys, _, _, h, h', _⟩ | ⟨xs, ys, h, h', _⟩
      · exact ⟨xs, ys, h, h'⟩
      · exact ⟨xs, ys, h, h'⟩
    obtain ⟨xs, ys, hqx, hqy⟩ := hq
    obtain ⟨its, rv, p, _⟩ := I.list hqx
    obtain ⟨its2, rv2, p2, _⟩ := I.tuple hqy
    have hh : X.A.in1.handled = none := I.ok.hd hc
    have W := WalksT.zipD2 (prog := X.prog) (w := X.w) (A := X.A) D (Draws.list (prog := X.prog) (w := X.w) (A := X.A.in1) hh i1 a ha its.toArray) (Draws.tuple (prog := X.prog) (w := X.w) (A := X.A.in1) hh i2 b hb its2.toArray)
    refine ⟨_, _, _, _, _, _, W, ⟨hz, hTI, hTO, ⟨h1, p.isList⟩, h2, p2⟩, fun c hcm => ?_, fun h hS => ?_, fun go => ?_, fun stop => ?_⟩
    · have e' : c = z ∨ c = TO ∨ c = i1 ∨ c = i2 := by simpa using hcm
      rcases e' with q | q | q | q <;> simp [q]
    · obtain ⟨g1, g2, g3, g4, g5⟩ := hS
      exact ⟨g1, g2, g3, g4.1, g5.1⟩
    · obtain ⟨zs, ws, x, y, hx, hy, ex, ey⟩ := go
      have e1 := I.list_inj hx hqx
      have e2 := I.tuple_inj hy hqy
      subst e1 e2
      have hl := rv.length
      have hl2 := rv2.length
      obtain ⟨hlt, _⟩ := List.getElem?_eq_some_iff.mp ex
      obtain ⟨hlt2, _⟩ := List.getElem?_eq_some_iff.mp ey
      refine ⟨by rw [List.size_toArray, List.size_toArray]; omega, fun vals hP => ?_⟩
      obtain ⟨x1, x2, h3, h4, rfl⟩ := hP
      obtain ⟨u, hu, ru⟩ := rv.get ex
      obtain ⟨u2, hu2, ru2⟩ := rv2.get ey
      have e3 : u = x1 := by
        have : its[i]? = some x1 := by simpa using h3
        rw [hu] at this
        exact Option.some.inj this
      have e4 : u2 = x2 := by
        have : its2[i]? = some x2 := by simpa using h4
        rw [hu2] at this
        exact Option.some.inj this
      subst e3 e4
      refine ⟨[x, y], .cons ru (.cons ru2 .nil), by show 2 ≤ sizeLine; decide, fun T hT => ⟨T, x, y, rfl, hT, rfl, fun l hl => ?_, fun l hl => ?_⟩⟩
      · rw [I.list_inj hl hqx]; exact ex
      · rw [I.tuple_inj hl hqy]; exact ey
    · obtain ⟨zs, ws, hx, hy, e⟩ := stop
      rw [I.list_inj hx hqx, I.tuple_inj hy hqy] at e
      rw [List.size_toArray, List.size_toArray, ← rv.length, ← rv2.length, e]
  · intro A i s Q E st h
    exact wpAny_pyIter_zip st.1 h
def iZipLT (K : PySem.W.Frag) (ta : TA) : TI := fun σ H R => ta σ H fun vs H1 => ∃ a b xs ys, vs = [.ref a, .ref b] ∧ SqL K H1 a xs ∧ SqT K H1 b ys ∧ R (ItzLT K a b) H1
theorem pi_zipLT {X : Cx} {e e2 : Expr} {ta : TA} {p pos tpos : Pos} {elts : List Expr} {kk : Nat} (hg : Gl X "zip") (hm : X.mg "zip" = none) (ha : PA X [e, e2] ta)
    (hs : starEach [e, e2] X.env = (false, eval e X.env) :: starEach [e2] X.env := by rfl) (hpl : (backTo pos (starEach [e2] X.env)).any (·.1) = false := by rfl) :
    PI X (.Tuple elts kk tpos) (.Call (.Name "zip" p) [e, e2] [] pos) (iZipLT X.K ta) := by
  refine ⟨fun pins s σ H R I h => ?_⟩
  refine Call_ (ld_blt I hg hm PyProof.Rows.boot_zip (PyProof.Rows.callWith_type1 (thn (ha.run pos pins s σ H _ I h) fun us s1 ⟨vs, H1, I1, r1, q1⟩ => ?_) hs hpl))
  obtain ⟨a, b, xs, ys, ex, hqx, hqy, q⟩ := q1
  subst ex
  cases r1 with
  | cons r rr =>
    cases rr with
    | cons r' rr =>
      cases rr
      cases r
      cases r'
      obtain ⟨its, rv, p1, _⟩ := I1.list hqx
      obtain ⟨its2, rv2, p2, _⟩ := I1.tuple hqy
      have hla : a < s1.heap.objs.size := p1.lt
      have hlb : b < s1.heap.objs.size := p2.lt
      refine zip_begins2 (begins_list a its.toArray) (begins_tuple b its2.toArray) p1.isList (show s1.heap.IsTuple b its2.toArray from p2) fun h' hz hTI hTO g1 g2 hsz hk => wpAny_pyIter_zip hz ?_
      have I2 : Inv X pins σ H1 { s1 with heap := h' } := I1.kept (t' := s1.toks) hk
      refine ⟨s1.heap.objs.size + 4, [s1.heap.objs.size + 4, s1.heap.objs.size + 2, s1.heap.objs.size + 3, s1.heap.objs.size, s1.heap.objs.size + 1], _, _, H1, rfl, I2,
        turn_zipLT (zip_sep2 (N := s1.heap.objs.size) (fp1 := [a]) (fp2 := [b]) (fun c hc => by rw [List.mem_singleton.mp hc]; exact hla) (fun c hc => by rw [List.mem_singleton.mp hc]; exact hlb)) (Nat.ne_of_lt hla) (Nat.ne_of_lt (Nat.lt_succ_of_lt hlb)),
        ⟨hz, hTI, ⟨_, _, hTO⟩, ⟨_, g1, rfl, rfl⟩, ⟨_, g2, rfl, rfl⟩⟩, fun c hcm => ?_, q⟩
      have e' : c = s1.heap.objs.size + 4 ∨ c = s1.heap.objs.size + 2 ∨ c = s1.heap.objs.size + 3 ∨ c = s1.heap.objs.size ∨ c = s1.heap.objs.size + 1 := by simpa using hcm
      have hle : s1.heap.objs.size ≤ c := by
        rcases e' with z | z | z | z | z
        · rw [z]; exact Nat.le_add_right _ _
        · rw [z]; exact Nat.le_add_right _ _
        · rw [z]; exact Nat.le_add_right _ _
        · rw [z]; exact Nat.le_refl _
        · rw [z]; exact Nat.le_add_right _ _
      exact I1.fpOk hle (I1.hok.fresh hle)
theorem walk_zipLT {K : PySem.W.Frag} {a b : Addr} {xs ys : List V} {n : Nat} (hn : n = min xs.length ys.length) : Walk (ItzLT K a b) n (fun H => SqL K H a xs ∧ SqT K H b ys) (YPair (fun i => xs[i]?) (fun i => ys[i]?)) := by
  subst hn
  refine ⟨fun i _ hi q => ?_, fun _ q => ⟨xs, ys, q.1, q.2, rfl⟩, fun i H v H' _ q y => ?_⟩
  · have h1 : i < xs.length := by omega
    have h2 : i < ys.length := by omega
    exact ⟨xs, ys, xs[i], ys[i], q.1, q.2, by simp [h1], by simp [h2]⟩
  · obtain ⟨T, x, z, h1, h2, h3, h4, h5⟩ := y
    exact ⟨T, x, z, h1, h2, h3, h4 xs q.1, h5 ys q.2⟩
/-! ### a chain of three comparisons -/
def tChain3 (r r' r'' : R2) (ta tb tc td : TE) : TE := fun σ H Q => ta σ H fun x H1 => tb σ H1 fun y H2 => r x y H2 fun z H3 => ∃ k, z = .bl k ∧
  (if k = true then tc σ H3 fun w' H4 => r' y w' H4 fun z' H5 => ∃ k', z' = .bl k' ∧ (if k' = true then td σ H5 fun u' H6 => r'' w' u' H6 Q else Q (.bl false) H5) else Q (.bl false) H3)
section
variable {X : Cx} {a b c d : Expr} {ta tb tc td : TE} {pos : Pos}
theorem pe_chain3 {op op' op'' : CmpOp} {r r' r'' : R2} (ho : OpR X (compareOp op) r) (ho' : OpR X (compareOp op') r') (ho'' : OpR X (compareOp op'') r'') (ha : PE X a ta) (hb : PE X b tb) (hc : PE X c tc) (hd : PE X d td)
    (hm : lastMarks [op, op', op''] [b, c, d] = false := by with_unfolding_all rfl) : PE X (.Compare a [op, op', op''] [b, c, d] pos) (tChain3 r r' r'' ta tb tc td) := by
  refine ⟨fun pins s σ H Q I h => ?_⟩
  refine Compare_chain (thn (ha.run pins s σ H _ I h) fun v s1 ⟨x, H1, I1, r1, q1⟩ => chain_link (thn (hb.run pins s1 σ H1 _ I1 q1) fun u s2 ⟨y, H2, I2, r2, q2⟩ =>
    thn (ho pins s2 σ H2 x y v u _ I2 r1 r2 q2) fun d' s3 ⟨z, H3, I3, r3, k, e, q3⟩ => ?_)) hm
  subst e
  cases r3
  refine wpAny_truthy_bool ?_
  cases k with
  | false => exact ite_ff ⟨.bl false, H3, I3, rfl, q3⟩
  | true =>
    refine ite_tt (chain_link (thn (hc.run pins s3 σ H3 _ I3 q3) fun w' s4 ⟨z', H4, I4, r4, q4⟩ => thn (ho' pins s4 σ H4 y z' u w' _ I4 r2 r4 q4) fun d2 s5 ⟨z5, H5, I5, r5, k5, e5, q5⟩ => ?_))
    subst e5
    cases r5
    refine wpAny_truthy_bool ?_
    cases k5 with
    | false => exact ite_ff ⟨.bl false, H5, I5, rfl, q5⟩
    | true => exact ite_tt (chain_last (thn (hd.run pins s5 σ H5 _ I5 q5) fun w6 s6 ⟨z6, H6, I6, r6, q6⟩ => ho'' pins s6 σ H6 z' z6 w' w6 Q I6 r4 r6 q6))
end
/-! ### values -/
open PySem.AutoSeq1 in
theorem ext_list_tuple (l : Addr) (items : Array Value) (n : Nat) (b : Addr) (items2 : Array Value) (n2 : Nat) (dd : Option Addr) (sl : Array (Option Value)) (hs0 : ¬(!items.isEmpty && Builtin.List.listTooLong (items.size + items2.size)) = true) (hs1 : items.size ≤ sizeLine) (hs2 : items.size + items2.size ≤ sizeLine + 1) :
    Meets (Builtin.«list.extend» ⟨[.ref l, .ref b], []⟩) (fun _ R s => s.heap.get? l = some { cls := .type "list", dict := none, data := .seq items n, slots := #[] } ∧ s.heap.get? b = some { cls := .type "tuple", dict := dd, data := .seq items2 n2, slots := sl } ∧ R (.ok (.ret Value.none)) { s with heap := s.heap.update l (Obj.mapSeq fun x => x ++ items2), toks := s.toks }) :=
  .of_wp fun prog w A R s h => by
    obtain ⟨hp, g, d, tk, os⟩ := s; obtain ⟨hl, hb, h⟩ := h; have f1 := idx_int; have f2 := PySem.AutoSeq1.sub_tuple_tuple; have f3 := PySem.AutoSeq1.sub_list_list; have f4 := PySem.AutoSeq1.sub_tuple_list; have f5 := PySem.AutoSeq1.sub_list_tuple;
    have hz' : (items ++ items2).size ≤ sizeLine + 1 := by rw [Array.size_append]; exact hs2
    wp_walk using (wpAny_updateSeq hl rfl (hz := hs1) (_hz' := hz')), wpAny_loadPart' hl, wpAny_loadPart' hb; exact ⟨_, rfl, h⟩
section
variable {X : Cx}
/-- x[k], by values, of a list, k from 0 on -/
def rGetL (K : PySem.W.Frag) : R2 := fun x y H Q => ∃ (p : Addr) (xs : List V) (j : Nat) (v : V), x = .ref p ∧ y = .int (j : Int) ∧ SqL K H p xs ∧ xs[j]? = some v ∧ Q v H
theorem get_list : PGet X (rGetL X.K) := by
  intro pins s σ H x y v u Q I rx ry h
  obtain ⟨p, xs, j, z, rfl, rfl, hq, he, q⟩ := h
  cases rx
  obtain ⟨t, rfl⟩ := ry
  obtain ⟨its, r, pl, hz⟩ := I.list hq
  obtain ⟨w, ew, rw'⟩ := r.get he
  have hn := line63
  have hl := r.length
  obtain ⟨hlt, _⟩ := List.getElem?_eq_some_iff.mp he
  refine wpAny_getItem_list pl.isList (x := w) (by omega) (by omega) ?_ ⟨z, H, I, rw', q⟩
  have e1 : (j : Int).toNat = j := Int.toNat_natCast j
  rw [e1]
  simpa using ew
/-- t.count(k), a tuple of ints -/
def rCntT (K : PySem.W.Frag) : V → List V → Hp → VK → Prop := fun x xs H Q => ∃ (p : Addr) (ns : List Int) (k : Int), x = .ref p ∧ xs = [.int k] ∧ SqT K H p (ns.map V.int) ∧ Q (.int (ns.count k : Nat)) H
theorem mt_tcount : MtR X "tuple.count" (rCntT X.K) := by
  intro pins s σ H x xs v us Q I rx rxs h
  obtain ⟨p, ns, k, rfl, rfl, hs, q⟩ := h
  cases rx
  obtain ⟨u, rfl, ru⟩ := rxs.one
  obtain ⟨t, rfl⟩ := ru
  obtain ⟨its, rv, ⟨⟨cls, dd, data, sl⟩, ho, hc, n, hd⟩, hlen⟩ := I.tuple hs
  simp only at hc hd
  subst hc hd
  have hi := ints_of_vals rv
  refine call_meets PySem.F.slot_tuple_count ⟨_, ho, rfl⟩ PySem.F.entry_tuple_count (PySem.F.args_tuple_count_2 _ _)
    (SeqAt.tuple_countAt p its.toArray n dd sl (.int k t) (eqk k)) ⟨ho, fun y hy => (eqk_gives hi y (by simpa using hy)).at _ _, ?_⟩
  have ec : its.toArray.toList.countP (eqk k) = ns.count k := eqk_count hi
  refine ⟨.int (ns.count k : Nat), H, I.tok _, ⟨s.toks, ?_⟩, q⟩
  show Value.int ((its.toArray.toList.countP (eqk k) : Nat) : Int) s.toks = Value.int ((ns.count k : Nat) : Int) s.toks
  rw [ec]
/-- xs.extend(t), t a tuple -/
def rExtT (K : PySem.W.Frag) : V → List V → Hp → VK → Prop := fun x vs H Q => ∃ l b xs zs, x = .ref l ∧ vs = [.ref b] ∧ H l = some (.lst xs) ∧ SqT K H b zs ∧ xs.length + zs.length ≤ sizeLine ∧ Q .non (upd H l (.lst (xs ++ zs)))
theorem mt_extT : MtM X "list.extend" (rExtT X.K) := by
  intro pins s σ H x vs v us Q I rx rv h
  obtain ⟨l, b, xs, zs, rfl, rfl, hH, hB, hz, q⟩ := h
  cases rx
  obtain ⟨u, rfl, ru⟩ := rv.one
  cases ru
  obtain ⟨z, its, n, r, hl, e⟩ := I.lstM hH
  obtain ⟨its2, r2, ⟨⟨cls, dd, data, sl⟩, e2, hc, n2, hd⟩, hl2⟩ := I.tuple hB
  simp only at hc hd
  subst hc hd
  have hl3 := r2.length
  have hsz : its.toArray.size + its2.toArray.size ≤ sizeLine := by rw [List.size_toArray, List.size_toArray]; omega
  have hlong : ¬ (!its.toArray.isEmpty && Builtin.List.listTooLong (its.toArray.size + its2.toArray.size)) = true := by
    rw [notLongL hsz, Bool.and_false]
    exact Bool.false_ne_true
  refine call_meets F.slot_list_extend ⟨_, e, rfl⟩ F.entry_list_extend (F.args_list_extend_2 _ _)
    (ext_list_tuple l its.toArray n b its2.toArray n2 dd sl hlong (by rw [List.size_toArray]; omega) (by omega)) ⟨e, e2, ?_⟩
  refine ⟨.non, _, I.lset (its' := its ++ its2) hH e (by simp) (r.append r2) ?_, rfl, q⟩
  rw [List.length_append]
  omega
def rSumT (K : PySem.W.Frag) : List V → Hp → VK → Prop := fun vs H Q => ∃ (a : Addr) (ns : List Int), vs = [V.ref a] ∧ SqT K H a (ns.map V.int) ∧ Q (.int ns.sum) H
theorem cr_sumT (hc : X.calm = true) : CallR X (.builtin "sum") (rSumT X.K) := by
  intro pins s σ H vs us Q I r h
  obtain ⟨a, ns, rfl, hs, q⟩ := h
  obtain ⟨its, rv, hl, _⟩ := I.tuple hs
  rw [Vals.ref1 r]
  have hi := rv.ints
  obtain ⟨xs, e⟩ := hi.allInts.items
  have hn : numsOf (intItems xs).toList = ns := by rw [← e]; exact hi.numsOf
  rw [nums_intItems] at hn
  have ht : s.heap.IsTuple a its.toArray := hl
  rw [e] at ht
  refine PySem.W.ktm_sumG (I.ok.hd hc) ht fun h' tk t' hk => ⟨.int ns.sum, H, I.kept hk, ⟨t', ?_⟩, q⟩
  rw [preSum_eq, List.take_of_length_le (by simp), hn]
/-- a name of the module that stands for a whole number -/
theorem pe_globI {x : Str} {n : Int} {pos : Pos} (hg : Gl X x) (hm : ∃ t, X.mg x = some (.int n t)) (hd : (x == ("__debug__" : Str)) = false := by decide) : PE X (.Name x pos) (tC (.int n)) := by
  obtain ⟨t, e⟩ := hm
  exact pe_glob hg e ⟨t, rfl⟩ hd
end
end Cn
end
section
set_option Elab.async false
set_option linter.all false
set_option maxRecDepth 100000
set_option maxHeartbeats 2000000
namespace Cn
open PySem PySem.Spec PyProof.Rows L2
/-! ### keys that are tuples of numbers, truth values and such tuples -/
mutual
inductive KeyV (H : Hp) : V → NestedKey → Prop
  | int (i : Int) : KeyV H (.int i) (.num i)
  | bl (b : Bool) : KeyV H (.bl b) (.num (if b = true then 1 else 0))
  | tup {a : Addr} {vs : List V} {ks : List NestedKey} : Rd H a (.tup vs) → KeyVs H vs ks → KeyV H (.ref a) (.tup ks)
inductive KeyVs (H : Hp) : List V → List NestedKey → Prop
  | nil : KeyVs H [] []
  | cons {v : V} {vs : List V} {k : NestedKey} {ks : List NestedKey} : KeyV H v k → KeyVs H vs ks → KeyVs H (v :: vs) (k :: ks)
end
/-- all tuples stand -/
def Tups (H H' : Hp) : Prop := ∀ b xs, Rd H b (.tup xs) → Rd H' b (.tup xs)
theorem Tups.refl (H : Hp) : Tups H H := fun _ _ h => h
theorem Tups.trans {H H1 H2 : Hp} (a : Tups H H1) (b : Tups H1 H2) : Tups H H2 := fun c xs h => b c xs (a c xs h)
theorem Tups.of_same {H H' : Hp} (s : Same H H') : Tups H H' := fun b xs h => by
  rcases h with h | ⟨o, h⟩
  · exact .inl (s b _ h)
  · exact .inr ⟨o, s b _ h⟩
/-- no tuple, nothing that is locked -/
def NoT (u : HO) : Prop := (∀ ys, u ≠ .tup ys) ∧ ∀ o v, u ≠ .frz o v
theorem rd_upd {H : Hp} {a b : Addr} {o u : HO} {xs : List V} (h : Rd H b (.tup xs)) (ha : H a = some o) (n : NoT o) : Rd (upd H a u) b (.tup xs) := by
  have hb : b ≠ a := fun z => by
    rw [z] at h
    rcases h with h | ⟨ob, h⟩
    · rw [ha] at h
      exact n.1 _ (Option.some.inj h)
    · rw [ha] at h
      exact n.2 _ _ (Option.some.inj h)
  rcases h with h | ⟨ob, h⟩
  · exact .inl (by rw [upd_ne hb]; exact h)
  · exact .inr ⟨ob, by rw [upd_ne hb]; exact h⟩
theorem tups_upd {H : Hp} {a : Addr} {o u : HO} (ha : H a = some o) (n : NoT o) : Tups H (upd H a u) := fun _ _ h => rd_upd h ha n
theorem tups_new {H : Hp} {a : Addr} {u : HO} (ha : H a = none) : Tups H (upd H a u) := Tups.of_same fun b o h => by
  rw [upd_ne (ne_of_none h ha)]
  exact h
mutual
theorem KeyV.at {H H' : Hp} (t : Tups H H') : ∀ (k : NestedKey) (v : V), KeyV H v k → KeyV H' v k
  | .none, _, h => by cases h
  | .text _, _, h => by cases h
  | .num _, _, h => by
    cases h with
    | int => exact .int _
    | bl b => exact .bl b
  | .tup ks, _, h => by
    cases h with
    | tup h1 h2 => exact .tup (t _ _ h1) (KeyVs.at t ks _ h2)
theorem KeyVs.at {H H' : Hp} (t : Tups H H') : ∀ (ks : List NestedKey) (vs : List V), KeyVs H vs ks → KeyVs H' vs ks
  | [], _, h => by cases h; exact .nil
  | k :: ks, _, h => by
    cases h with
    | cons h1 h2 => exact .cons (KeyV.at t k _ h1) (KeyVs.at t ks _ h2)
end
mutual
theorem KeyV.is {P : Program} {w : World} {H : Hp} {h : Heap} (ok : HOk P w H h) : ∀ (k : NestedKey) (v : V) (u : Value), KeyV H v k → RelV v u → NestedIs h k u
  | .none, _, _, x, _ => by cases x
  | .text _, _, _, x, _ => by cases x
  | .num _, _, _, x, r => by
    cases x with
    | int => obtain ⟨t, rfl⟩ := r; exact .int _ t
    | bl b => cases r; exact .bool rfl
  | .tup ks, _, _, x, r => by
    cases x with
    | tup h1 h2 =>
      cases r
      obtain ⟨_, its, rv, o, ho, hc, n, hd⟩ := (show ObjOk P w H h _ (.tup _) from h1.ok ok)
      exact .tup ho hc hd (by simpa using KeyVs.is ok ks _ its h2 rv)
theorem KeyVs.is {P : Program} {w : World} {H : Hp} {h : Heap} (ok : HOk P w H h) : ∀ (ks : List NestedKey) (vs : List V) (us : List Value), KeyVs H vs ks → Vals vs us → NestedAll h ks us
  | [], _, _, x, r => by cases x; cases r; exact .nil
  | k :: ks, _, _, x, r => by
    cases x with
    | cons h1 h2 =>
      cases r with
      | cons r1 r2 => exact .cons (KeyV.is ok k _ _ h1 r1) (KeyVs.is ok ks _ _ h2 r2)
end
/-! ### dicts with such keys -/
abbrev NE := NestedKey × Addr × Value
def ndO (P : Program) (w : World) (a : Addr) (xs : List NE) : HO := .ext fun h => ∃ o es ep, h.get? a = some o ∧ o.ExactDict ∧ o.data = .dict es ep ∧ es.toList = xs.map (entryOfKey (nestedKind P w)) ∧ (xs.map (·.1)).Nodup
/-- F: what is known of the items of the keys' tuples -/
def PK (F : List V → Prop) (H : Hp) : List (NestedKey × V) → List NE → Prop := Paired fun p q => p.1 = q.1 ∧ KeyV H (.ref q.2.1) p.1 ∧ p.1.depth ≤ 8 ∧ RelV p.2 q.2.2 ∧ ∃ vs, Rd H q.2.1 (.tup vs) ∧ F vs
/-- at a: a dict of these keys and values, in the order of insertion -/
def ND (P : Program) (w : World) (F : List V → Prop) (H : Hp) (a : Addr) (kvs : List (NestedKey × V)) : Prop := kvs.length ≤ sizeLine ∧ (a == sysModules) = false ∧ ∃ xs, H a = some (ndO P w a xs) ∧ PK F H kvs xs
theorem PK.at {F : List V → Prop} {H H' : Hp} (t : Tups H H') {kvs : List (NestedKey × V)} {xs : List NE} (h : PK F H kvs xs) : PK F H' kvs xs := Paired.mapP h fun _ _ z => ⟨z.1, z.2.1.at t, z.2.2.1, z.2.2.2.1, z.2.2.2.2.choose, t _ _ z.2.2.2.2.choose_spec.1, z.2.2.2.2.choose_spec.2⟩
theorem ndO_no {P : Program} {w : World} {a : Addr} {xs : List NE} : NoT (ndO P w a xs) := by
  refine ⟨fun ys z => ?_, fun o v z => ?_⟩
  · have z2 : HO.ext _ = HO.tup ys := z
    cases z2
  · have z2 : HO.ext _ = HO.frz o v := z
    cases z2
theorem ND.at {P : Program} {w : World} {F : List V → Prop} {H H' : Hp} {a : Addr} {kvs : List (NestedKey × V)} (n : ND P w F H a kvs) (e : H' a = H a) (t : Tups H H') : ND P w F H' a kvs := by
  obtain ⟨z, hd, xs, ha, p⟩ := n
  exact ⟨z, hd, xs, e.trans ha, p.at t⟩
theorem ND.there {P : Program} {w : World} {F : List V → Prop} {H : Hp} {a : Addr} {kvs : List (NestedKey × V)} (n : ND P w F H a kvs) : ∃ o, H a = some o ∧ Mut (some o) ∧ NoT o := by
  obtain ⟨_, _, xs, ha, _⟩ := n
  exact ⟨_, ha, trivial, ndO_no⟩
theorem nd_ok {P : Program} {w : World} {H : Hp} {h : Heap} {a : Addr} {xs : List NE} (m : h.DictOfH (nestedKind P w) a xs) : ObjOk P w H h a (ndO P w a xs) := by
  obtain ⟨o, es, ep, ho, hx, hd, he, _, hn⟩ := m
  exact ⟨⟨o, es, ep, ho, hx, hd, he, hn⟩, ⟨o, ho⟩, fun h1 h2 x k => by
    obtain ⟨o, es, ep, ho, r⟩ := x
    exact ⟨o, es, ep, k o ho, r⟩⟩
theorem PK.get {F : List V → Prop} {H : Hp} : ∀ {kvs : List (NestedKey × V)} {xs : List NE}, PK F H kvs xs → ∀ x ∈ xs, KeyV H (.ref x.2.1) x.1 ∧ x.1.depth ≤ 8
  | _, _, .nil, x, h => by simp at h
  | _, _, .cons z t, x, h => by
    rcases List.mem_cons.mp h with e | m
    · rw [e, ← z.1]; exact ⟨z.2.1, z.2.2.1⟩
    · exact PK.get t x m
theorem PK.val {F : List V → Prop} {H : Hp} {k : NestedKey} : ∀ {kvs : List (NestedKey × V)} {xs : List NE}, PK F H kvs xs → RelO (valV kvs k) ((atKey xs k).map (·.2))
  | _, _, .nil => trivial
  | _, _, .cons (a := p) (b := q) (l₁ := kvs) (l₂ := xs) z t => by
    have ih := PK.val (k := k) t
    by_cases e : p.1 = k
    · have e2 : q.1 = k := z.1.symm.trans e
      have h1 : valV (p :: kvs) k = some p.2 := by simp [valV, e]
      have h2 : atKey (q :: xs) k = some q.2 := by simp [atKey, e2]
      rw [h1, h2]
      exact z.2.2.2.1
    · have e2 : ¬ q.1 = k := fun y => e (z.1.trans y)
      have h1 : valV (p :: kvs) k = valV kvs k := by simp [valV, e]
      have h2 : atKey (q :: xs) k = atKey xs k := by simp [atKey, e2]
      rw [h1, h2]
      exact ih
theorem PK.any {F : List V → Prop} {H : Hp} {k : NestedKey} {kvs : List (NestedKey × V)} {xs : List NE} (h : PK F H kvs xs) : (valV kvs k).isSome = (atKey xs k).isSome := by
  have q := h.val (k := k)
  cases e1 : valV kvs k <;> cases e2 : atKey xs k <;> rw [e1, e2] at q <;> first | rfl | exact q.elim
theorem PK.put {F : List V → Prop} {H : Hp} {k : NestedKey} {b : Addr} {d : V} {u : Value} (hk : KeyV H (.ref b) k) (hd : k.depth ≤ 8) (hF : ∃ vs, Rd H b (.tup vs) ∧ F vs) (r : RelV d u) {kvs : List (NestedKey × V)} {xs : List NE} (h : PK F H kvs xs) : PK F H (putK kvs k d) (storedH xs k b u) := by
  have hany := h.any (k := k)
  unfold putK storedH
  rw [valV_any, hany]
  by_cases c : (atKey xs k).isSome = true
  · rw [if_pos c, if_pos c]
    clear c hany
    induction h with
    | nil => exact .nil
    | cons z t ih =>
      rename_i p q l1 l2
      refine .cons ?_ ih
      unfold putAt
      dsimp only
      by_cases e : p.1 = k
      · rw [if_pos e, if_pos (z.1.symm.trans e)]
        exact ⟨z.1, z.2.1, z.2.2.1, r, z.2.2.2.2⟩
      · rw [if_neg e, if_neg fun y => e (z.1.trans y)]
        exact z
  · rw [if_neg c, if_neg c]
    exact Paired.append h (.cons ⟨rfl, hk, hd, r, hF⟩ .nil)
where Paired.append {α β : Type} {F : α → β → Prop} : ∀ {l₁ m₁ : List α} {l₂ m₂ : List β}, Paired F l₁ l₂ → Paired F m₁ m₂ → Paired F (l₁ ++ m₁) (l₂ ++ m₂)
  | _, _, _, _, .nil, s => s
  | _, _, _, _, .cons r t, s => .cons r (Paired.append t s)
theorem PK.drop {F : List V → Prop} {H : Hp} {k : NestedKey} {kvs : List (NestedKey × V)} {xs : List NE} (h : PK F H kvs xs) : PK F H (dropK kvs k) (withoutH xs k) := by
  induction h with
  | nil => exact .nil
  | cons z t ih =>
    rename_i p q l1 l2
    unfold dropK withoutH
    by_cases e : p.1 = k
    · rw [List.filter_cons_of_neg (by simp [e]), List.filter_cons_of_neg (by simp [← z.1, e])]
      exact ih
    · rw [List.filter_cons_of_pos (by simp [e]), List.filter_cons_of_pos (by simp [← z.1, e])]
      exact .cons z ih
section
variable {X : Cx} {pins : List (Addr × Obj)} {σ : L2.St} {H : Hp} {s : Shared} {a b : Addr} {kvs : List (NestedKey × V)} {k : NestedKey} {F : List V → Prop}
/-- the dict in the heap -/
theorem ND.raw (I : Inv X pins σ H s) (n : ND X.prog X.w F H a kvs) : ∃ xs, H a = some (ndO X.prog X.w a xs) ∧ PK F H kvs xs ∧ s.heap.DictOfH (nestedKind X.prog X.w) a xs ∧ xs.length = kvs.length := by
  obtain ⟨_, _, xs, ha, p⟩ := n
  have x : ObjOk X.prog X.w H s.heap a (ndO X.prog X.w a xs) := I.hok a _ ha
  obtain ⟨⟨o, es, ep, ho, hx, hd, he, hn⟩, _⟩ := x
  exact ⟨xs, ha, p, ⟨o, es, ep, ho, hx, hd, he, fun y hy => ⟨(p.get y hy).1.is I.hok _ _ _ rfl, (p.get y hy).2⟩, hn⟩, (Paired.length p).symm⟩
theorem key_raw (I : Inv X pins σ H s) (hk : KeyV H (.ref b) k) (hd : k.depth ≤ 8) : (nestedKind X.prog X.w).is s.heap k b := ⟨hk.is I.hok _ _ _ rfl, hd⟩
/-- a change of the dict's own object -/
theorem ND.write {h' : Heap} {t' : Nat} {xs xs' : List NE} {kvs' : List (NestedKey × V)} (I : Inv X pins σ H s) (n : ND X.prog X.w F H a kvs) (ha : H a = some (ndO X.prog X.w a xs)) (hs : Heap.SameBut a s.heap h') (m : h'.DictOfH (nestedKind X.prog X.w) a xs') (p : PK F H kvs' xs') (hz : kvs'.length ≤ sizeLine) :
    Inv X pins σ (upd H a (ndO X.prog X.w a xs')) { s with heap := h', toks := t' } ∧ ND X.prog X.w F (upd H a (ndO X.prog X.w a xs')) a kvs' := by
  have he : ∃ q, h'.get? a = some q := let ⟨o, _, _, ho, _⟩ := m; ⟨o, ho⟩
  exact ⟨d_write (t' := t') I (by rw [ha]; trivial) hs he (nd_ok m), hz, n.2.1, xs', upd_same, p.at (tups_upd ha ndO_no)⟩
end
/-! ### {} -/
def tNew (P : Program) (w : World) (F : List V → Prop) : TE := fun _ H Q => ∀ p xs, H p = none → ND P w F (upd H p (ndO P w p xs)) p [] → Q (.ref p) (upd H p (ndO P w p xs))
section
variable {X : Cx}
theorem sys_lt {s : Shared} {pins : List (Addr × Obj)} {σ : L2.St} {H : Hp} (I : Inv X pins σ H s) : (s.heap.objs.size == sysModules) = false := by
  have h := dt_empty (P := X.prog) (w := X.w) (H := fun _ => none) s.heap I.big
  exact h.2.1
theorem pe_ndnew {pos : Pos} {F : List V → Prop} : PE X (.Dict [] [] pos) (tNew X.prog X.w F) := ⟨fun pins s σ H Q I h => by
  have m := Heap.DictOfH.new (knd := nestedKind X.prog X.w) s.heap
  refine wpAny_Dict_empty ⟨.ref s.heap.objs.size, _, I.laid (a := s.heap.objs.size) (o := ndO X.prog X.w s.heap.objs.size []) (t' := s.toks) (fun _ _ q => Heap.get?_push_of_some _ q) (Nat.le_refl _) (nd_ok m), rfl, h _ [] (I.hok.fresh (Nat.le_refl _)) ⟨Nat.zero_le _, sys_lt I, [], upd_same, .nil⟩⟩⟩
/-! ### in, not in -/
def rNIn (P : Program) (w : World) (f : Bool → Bool) : R2 := fun x y H Q => ∃ (F : List V → Prop) (a b : Addr) (k : NestedKey) (kvs : List (NestedKey × V)), x = .ref b ∧ y = .ref a ∧ KeyV H (.ref b) k ∧ k.depth ≤ 8 ∧ ND P w F H a kvs ∧ Q (.bl (f (valV kvs k).isSome)) H
theorem op_nnotin (hu : X.A.units + 64 < cLine) : OpR X (compareOp .NotIn) (rNIn X.prog X.w fun b => !b) := by
  intro pins s σ H x y v u Q I rx ry h
  obtain ⟨F, a, b, k, kvs, rfl, rfl, hk, hd, n, q⟩ := h
  obtain rfl : v = Value.ref b := rx
  obtain rfl : u = Value.ref a := ry
  obtain ⟨xs, ha, p, m, hl⟩ := n.raw I
  have hu' : (nestedKind X.prog X.w).room X.A.in1 := by show X.A.units + 1 + 8 < cLine; omega
  refine notIn_keyed hu' (key_raw I hk hd) n.2.1 ⟨xs, m, rfl⟩ ?_
  rw [valueAt_pairsH, Option.isSome_map, ← p.any (k := k)]
  exact ⟨.bl (!(valV kvs k).isSome), H, I.tok _, rfl, q⟩
/-! ### d[k] = v -/
def rNSet (P : Program) (w : World) : V → V → V → Hp → (Hp → Prop) → Prop := fun o i v H Q => ∃ (F : List V → Prop) (a b : Addr) (k : NestedKey) (kvs : List (NestedKey × V)), o = .ref a ∧ i = .ref b ∧ KeyV H (.ref b) k ∧ k.depth ≤ 8 ∧ (∃ vs, Rd H b (.tup vs) ∧ F vs) ∧ ND P w F H a kvs ∧ kvs.length < sizeLine ∧
  ∀ u, ND P w F (upd H a u) a (putK kvs k v) → NoT u → Q (upd H a u)
theorem set_nd (hu : X.A.units + 64 < cLine) : PSet X (rNSet X.prog X.w) := by
  intro pins s σ H o i v ov iv u Q I ro ri rv h
  obtain ⟨F, a, b, k, kvs, rfl, rfl, hk, hd, hF, n, hlt, q⟩ := h
  obtain rfl : ov = Value.ref a := ro
  obtain rfl : iv = Value.ref b := ri
  obtain ⟨xs, ha, p, m, hl⟩ := n.raw I
  have hu' : (nestedKind X.prog X.w).room X.A.in1 := by show X.A.units + 1 + 8 < cLine; omega
  refine wpAny_setItem_heap (hsz := by rw [hl]; exact n.1) hu' (key_raw I hk hd) m fun h' m' hs => ?_
  obtain ⟨J, n'⟩ := n.write (t' := s.toks + (nestedKind X.prog X.w).draws k) I ha hs m' (PK.put hk hd hF rv p) (by have := length_putK kvs k v; omega)
  exact ⟨_, J, q _ n' ndO_no⟩
/-! ### len -/
def rNLen (P : Program) (w : World) : List V → Hp → VK → Prop := fun xs H Q => ∃ (F : List V → Prop) (a : Addr) (kvs : List (NestedKey × V)), xs = [.ref a] ∧ ND P w F H a kvs ∧ Q (.int ((kvs.length : Nat) : Int)) H
theorem call_ndlen : CallR X (.builtin "len") (rNLen X.prog X.w) := by
  intro pins s σ H xs us Q I r h
  obtain ⟨F, a, kvs, rfl, n, q⟩ := h
  rw [Vals.ref1 r]
  obtain ⟨ys, ha, p, m, hl⟩ := n.raw I
  have hz := n.1
  refine call_len_dictH n.2.1 m (by rw [hl]; rw [sizeLine_eq] at hz; omega) ?_
  rw [hl]
  exact ⟨.int ((kvs.length : Nat) : Int), H, I.tok _, ⟨_, rfl⟩, q⟩
/-! ### d.setdefault(k, x), d.pop(k) -/
theorem nd_type {F : List V → Prop} {pins : List (Addr × Obj)} {σ : L2.St} {H : Hp} {s : Shared} {a : Addr} {kvs : List (NestedKey × V)} (I : Inv X pins σ H s) (n : ND X.prog X.w F H a kvs) : s.TypeIs (.ref a) "dict" ∧ ∀ b, Value.ref a = .ref b → ∃ ob, s.heap.get? b = some ob ∧ ob.dict = none := by
  obtain ⟨xs, ha, p, m, hl⟩ := n.raw I
  refine ⟨m.typeIs, fun b q => ?_⟩
  cases q
  obtain ⟨o, es, ep, ho, hx, _⟩ := m
  exact ⟨o, ho, hx.2.1⟩
def tNSetd (P : Program) (w : World) (td ty tx : TE) : TE := fun σ H Q => td σ H fun x H1 => ∃ (a : Addr) (F : List V → Prop), x = .ref a ∧ (∃ kvs, ND P w F H1 a kvs) ∧ ty σ H1 fun y H2 => tx σ H2 fun z H3 => ∃ (b : Addr) (kvs : List (NestedKey × V)) (k : NestedKey), y = .ref b ∧ KeyV H3 (.ref b) k ∧ k.depth ≤ 8 ∧ (∃ vs, Rd H3 b (.tup vs) ∧ F vs) ∧ ND P w F H3 a kvs ∧ kvs.length < sizeLine ∧
  (∀ v, valV kvs k = some v → Q v H3) ∧ (valV kvs k = none → ∀ u, ND P w F (upd H3 a u) a (putK kvs k z) → NoT u → Q z (upd H3 a u))
variable {o e f : Expr} {td ty tx : TE} {apos cpos : Pos}
theorem pe_nsetd (hu : X.A.units + 64 < cLine) (ho : PE X o td) (he : PE X e ty) (hf : PE X f tx) (m : M2 X o "setdefault" apos e f cpos) : PE X (.Call (.Attribute o "setdefault" apos) [e, f] [] cpos) (tNSetd X.prog X.w td ty tx) := by
  refine ⟨fun pins s σ H Q I h => ?_⟩
  refine wpAny_Call_method m.base m.few m.line PySem.F.plainAttrs_dict PySem.F.slot_dict_setdefault PySem.F.type_dict_setdefault (thn (ho.run pins s σ H _ I h) fun u s1 ⟨x, H1, I1, rx, a, F, ex, d, q1⟩ => ?_)
  subst ex
  obtain rfl : u = Value.ref a := rx
  obtain ⟨kv0, d⟩ := d
  obtain ⟨t1, t2⟩ := nd_type I1 d
  refine ⟨t1, t2, ?_⟩
  rw [m.trees]
  refine Calls.callWith_builtin rfl (Calls.evalArgs_plain (Calls.spliced_cons (thn (he.run pins s1 σ H1 _ I1 q1) fun iv s2 ⟨y, H2, I2, ry, q2⟩ =>
    Calls.spliced_cons (thn (hf.run pins s2 σ H2 _ I2 q2) fun fv s3 ⟨z, H3, I3, rz, b, kvs, k, ey, hk, hd, hF, n, hl, q3, q4⟩ => Calls.spliced_nil ?_))))
  subst ey
  obtain rfl : iv = Value.ref b := ry
  obtain ⟨xs, ha, p, mm, hln⟩ := n.raw I3
  have hu' : (nestedKind X.prog X.w).room X.A.in1 := by show X.A.units + 1 + 8 < cLine; omega
  refine call_setdefault_heap (hsz := by rw [hln]; exact n.1) hu' (key_raw I3 hk hd) n.2.1 mm (fun pp hp => ?_) fun hn h' m' hs => ?_
  · have q := p.val (k := k)
    rw [hp] at q
    cases e1 : valV kvs k with
    | none =>
      rw [e1] at q
      exact q.elim
    | some v0 =>
      rw [e1] at q
      exact ⟨v0, H3, I3.tok _, q, q3 v0 e1⟩
  · have q := p.any (k := k)
    rw [hn] at q
    have e1 : valV kvs k = none := Option.not_isSome_iff_eq_none.mp (by rw [q]; exact Bool.false_ne_true)
    obtain ⟨J, n'⟩ := n.write (t' := s3.toks + (nestedKind X.prog X.w).draws k) I3 ha hs m' (PK.put hk hd hF rz p) (by have := length_putK kvs k z; omega)
    exact ⟨z, _, J, rz, q4 e1 _ n' ndO_no⟩
def tNPop (P : Program) (w : World) (td ty : TE) : TE := fun σ H Q => td σ H fun x H1 => ∃ (a : Addr) (F : List V → Prop), x = .ref a ∧ (∃ kvs, ND P w F H1 a kvs) ∧ ty σ H1 fun y H2 => ∃ (b : Addr) (kvs : List (NestedKey × V)) (k : NestedKey) (v : V), y = .ref b ∧ KeyV H2 (.ref b) k ∧ k.depth ≤ 8 ∧ ND P w F H2 a kvs ∧ valV kvs k = some v ∧
  ∀ u, ND P w F (upd H2 a u) a (dropK kvs k) → NoT u → Q v (upd H2 a u)
theorem pe_npop (hu : X.A.units + 64 < cLine) (ho : PE X o td) (he : PE X e ty) (m : M1 X o "pop" apos e cpos) : PE X (.Call (.Attribute o "pop" apos) [e] [] cpos) (tNPop X.prog X.w td ty) := by
  refine ⟨fun pins s σ H Q I h => ?_⟩
  refine wpAny_Call_method m.base m.few m.line PySem.F.plainAttrs_dict PySem.F.slot_dict_pop PySem.F.type_dict_pop (thn (ho.run pins s σ H _ I h) fun u s1 ⟨x, H1, I1, rx, a, F, ex, d, q1⟩ => ?_)
  subst ex
  obtain rfl : u = Value.ref a := rx
  obtain ⟨kv0, d⟩ := d
  obtain ⟨t1, t2⟩ := nd_type I1 d
  refine ⟨t1, t2, ?_⟩
  rw [m.trees]
  refine Calls.callWith_builtin rfl (Calls.evalArgs_plain (Calls.spliced_cons (thn (he.run pins s1 σ H1 _ I1 q1) fun iv s2 ⟨y, H2, I2, ry, b, kvs, k, v, ey, hk, hd, n, hv, q2⟩ => Calls.spliced_nil ?_)))
  subst ey
  obtain rfl : iv = Value.ref b := ry
  obtain ⟨xs, ha, p, mm, hln⟩ := n.raw I2
  have hu' : (nestedKind X.prog X.w).room X.A.in1 := by show X.A.units + 1 + 8 < cLine; omega
  have q := p.val (k := k)
  rw [hv] at q
  cases hp : atKey xs k with
  | none =>
    rw [hp] at q
    exact q.elim
  | some pp =>
    rw [hp] at q
    refine call_pop_heap (hsz := by rw [hln]; exact n.1) (more := []) (.inl rfl) (PySem.F.args_dict_pop_2 _ _) hu' (key_raw I2 hk hd) n.2.1 mm hp fun h' m' hs => ?_
    obtain ⟨J, n'⟩ := n.write (t' := s2.toks + (nestedKind X.prog X.w).draws k) I2 ha hs m' (PK.drop (k := k) p) (Nat.le_trans (dropK_le kvs k) n.1)
    exact ⟨v, _, J, q, q2 _ n' ndO_no⟩
end
end Cn
end
section
set_option Elab.async false
set_option linter.all false
set_option maxRecDepth 100000
set_option maxHeartbeats 2000000
namespace Cn
open PySem PySem.Spec PyProof.Rows L2
/-! ### sorted(xs), any data -/
section
open PySem.W (EachIs AllAlike Sortable dataLe sorted_data)
theorem each_of_paired {β : Type} {R : V → β → Prop} : ∀ {xs : List V} {us : List Value} {bs : List β}, Vals xs us → Paired R xs bs → EachIs (fun u b => ∃ x, RelV x u ∧ R x b) us bs
  | _, _, _, .nil, .nil => .nil
  | _, _, _, .cons r t, .cons h k => .cons ⟨_, r, h⟩ (each_of_paired t k)
theorem paired_of_each {β : Type} {R : V → β → Prop} : ∀ {us : List Value} {bs : List β}, EachIs (fun u b => ∃ x, RelV x u ∧ R x b) us bs → ∃ xs, Vals xs us ∧ Paired R xs bs
  | _, _, .nil => ⟨[], .nil, .nil⟩
  | _, _, .cons ⟨x, r, h⟩ t => by
    obtain ⟨xs, h1, h2⟩ := paired_of_each t
    exact ⟨x :: xs, .cons r h1, .cons h h2⟩
variable {X : Cx}
def rSortD (K : PySem.W.Frag) {β : Type} (enc : β → PyData) (R : Hp → V → β → Prop) : List V → Hp → VK → Prop := fun vs H Q => ∃ (a : Addr) (xs : List V) (bs : List β), vs = [V.ref a] ∧ SqL K H a xs ∧ Paired (R H) xs bs ∧ (∀ x b, R H x b → Dp K H x (enc b)) ∧
  AllAlike (bs.map enc) ∧ Sortable (bs.map enc) ∧ (∀ b ∈ bs, (enc b).depth ≤ 50) ∧ ∀ (ys : List V) (p : Addr), Paired (R H) ys (bs.mergeSort (dataLe false enc)) → H p = none → Q (.ref p) (upd H p (.lst ys))
theorem cr_sortD {β : Type} {enc : β → PyData} {R : Hp → V → β → Prop} (hu : X.A.units + 64 < cLine) : CallR X (.builtin "sorted") (rSortD X.K enc R) := by
  intro pins s σ H vs us Q I r h
  obtain ⟨a, xs, bs, rfl, hs, hR, hD, hal, hk, hdp, q⟩ := h
  obtain ⟨its, rv, hl, hz⟩ := I.list hs
  rw [Vals.ref1 r]
  have hlen : bs.length = xs.length := (Paired.length hR).symm
  have e1 : EachIs (fun u b => ∃ x, RelV x u ∧ R H x b) its bs := each_of_paired rv hR
  have e2 : EachIs (fun v b => ∃ as, Reads s.heap v (enc b) as) its bs := e1.mono fun u b ⟨x, hx, hr⟩ => (hD x b hr).reads I _ _ _ hx
  refine sorted_data hl.isList e1 e2 hal hk (by rw [hlen]; exact hz) (fun b hb => by have := hdp b hb; omega) fun out ho eo => ?_
  obtain ⟨ys, h1, h2⟩ := paired_of_each eo
  obtain ⟨ep, he'⟩ := PyProof.Rows.sortedAll_at s.heap its out.toArray
  have hl2 : ys.length ≤ sizeLine := by
    rw [h1.length, ho, hlen]
    exact hz
  refine ⟨.ref _, upd H (s.heap.objs.size + 1) (.lst ys), I.laid (t' := s.toks) (fun _ _ => PyProof.Rows.sortedAll_old) (Nat.le_succ _) ⟨hl2, out, ep, h1, by simpa using he'⟩, rfl, q _ _ h2 (I.hok.fresh (Nat.le_succ _))⟩
end
/-! ### d != {} -/
section
variable {prog : Program} {w : World} {A : Around} {E : Value → Shared → Prop} {s : Shared}
theorem pairs_empty {nm : String} {a b : Addr} {es es' : Array DictEntry} {ep ep' : Nat} {Q : Bool → Shared → Prop} (ha : (a == sysModules) = false) (hb : (b == sysModules) = false) (da : s.heap.DictRaw a es ep) (db : s.heap.DictRaw b es' ep') (h0 : es'.size = 0)
    (h : Q (es.size == 0) s) : wpAny (model prog w) A (Builtin.Dict.samePairs nm a b) Q E s := by
  obtain ⟨oa, hoa, _, hda⟩ := da
  obtain ⟨ob, hob, _, hdb⟩ := db
  unfold Builtin.Dict.samePairs Builtin.Dict.showsAll
  rw [ha, hb]
  simp only [Bool.false_eq_true, if_false]
  refine wpAny_bind (wpAny_pure (wpAny_bind (wpAny_pure (wpAny_bind (wpAny_dictEntries hoa hda ?_)))))
  refine wpAny_bind (wpAny_dictEntries hob hdb ?_)
  by_cases c : es.size = 0
  · have e1 : (es.size == 0) = true := by simp [c]
    rw [e1] at h
    rw [if_neg (by simp [c, h0])]
    refine wpAny_bind (wpAny_dictEpoch hoa hda (wpAny_bind ?_))
    rw [Std.Legacy.Range.forIn_eq_forIn_range']
    simp only [Std.Legacy.Range.size, Nat.sub_zero, Nat.add_sub_cancel, Nat.div_one, c, List.range'_zero]
    exact wpAny_pure (wpAny_pure h)
  · have e1 : (es.size == 0) = false := by simp [c]
    rw [e1] at h
    rw [if_pos (by simp [h0, c])]
    exact wpAny_bind (wpAny_rule (wpAny_pure h))
theorem ne_empty {a b : Addr} {es es' : Array DictEntry} {ep ep' : Nat} {Q : Value → Shared → Prop} (ha : (a == sysModules) = false) (hb : (b == sysModules) = false) (da : s.heap.DictRaw a es ep) (db : s.heap.DictRaw b es' ep') (h0 : es'.size = 0) (hu : A.units < cLine)
    (h : Q (.bool (!(es.size == 0))) s) : wpAny (model prog w) A (compareOp .NotEq (.ref a) (.ref b)) Q E s := by
  refine wpAny_richCompare_same_room (op := .NotEq) da.typeIs db.typeIs PySem.F.slot_dict_ne (wpAny_call_entry PySem.F.slot_dict_ne da.typeIs PySem.F.entry_dict_ne ?_ (PySem.F.args_dict_ne_2 _ _)) hu
  show wpAny _ _ (Builtin.Dict.dictSlotArgs "__ne__" ⟨[.ref a, .ref b], []⟩ >>= _) _ _ s
  unfold Builtin.Dict.dictSlotArgs
  refine wpAny_bind (wpAny_bind (wpAny_notOrdered_dict da.typeIs ?_))
  refine wpAny_pure (wpAny_bind (wpAny_isInstance (T := "dict") db.typeIs PySem.F.sub_dict_dict ?_))
  simp only [Bool.not_true, Bool.false_eq_true, if_false]
  refine wpAny_bind (wpAny_pure (wpAny_bind (wpAny_pure (wpAny_bind (pairs_empty ha hb da db h0 (wpAny_pure ⟨_, rfl, (fun x => nomatch x), by simpa using h⟩))))))
end
section
variable {X : Cx}
def rNeE (P : Program) (w : World) : R2 := fun x y H Q => ∃ (F G : List V → Prop) (a b : Addr) (kvs : List (NestedKey × V)), x = .ref a ∧ y = .ref b ∧ ND P w F H a kvs ∧ ND P w G H b [] ∧ Q (.bl (!kvs.isEmpty)) H
theorem op_neE (hu : X.A.units + 64 < cLine) : OpR X (compareOp .NotEq) (rNeE X.prog X.w) := by
  intro pins s σ H x y v u Q I rx ry h
  obtain ⟨F, G, a, b, kvs, rfl, rfl, n, n', q⟩ := h
  obtain rfl : v = Value.ref a := rx
  obtain rfl : u = Value.ref b := ry
  obtain ⟨xs, ha, p, m, hl⟩ := n.raw I
  obtain ⟨xs', hb, p', m', hl'⟩ := n'.raw I
  obtain ⟨es, ep, hr, hs, _⟩ := m.raw
  obtain ⟨es', ep', hr', hs', _⟩ := m'.raw
  have e0 : es'.size = 0 := by rw [hs', hl']; rfl
  refine ne_empty n.2.1 n'.2.1 hr hr' e0 (by omega) ⟨.bl (!kvs.isEmpty), H, I, ?_, q⟩
  have e1 : (es.size == 0) = kvs.isEmpty := by
    rw [hs, hl]
    cases kvs <;> rfl
  show Value.bool _ = Value.bool _
  rw [e1]
end
end Cn
end
section
set_option Elab.async false
set_option linter.all false
set_option maxRecDepth 100000
set_option maxHeartbeats 2000000
namespace Cn
open PySem PySem.Spec PyProof.Rows L2
/-! ### min(d), d a dict whose keys are pairs of whole numbers: the comparison reads the heap -/
section
variable {prog : Program} {w : World} {A : Around} {I : Addr} {fp wr : List Addr} {n : Nat} {P : Nat → Value → Prop} {St : Nat → Heap → Prop} {G : Heap → Prop}
/-- the comparison where G stands -/
def CmpG (prog : Program) (w : World) (A : Around) (G : Heap → Prop) (P : Nat → Value → Prop) (bt : Nat → Nat → Bool) : Prop :=
  ∀ i j vi vj (s : Shared) (Q : Value → Shared → Prop) (E : Value → Shared → Prop), G s.heap → P i vi → P j vj → Q (.bool (bt i j)) s → wpAny (model prog w) A (richCompare .Lt vi vj) Q E s
/-- what the loop of min does with the cell S beside it -/
structure GKeep (G : Heap → Prop) (wr : List Addr) (S : Addr) : Prop where
  keep : ∀ h h', G h → (∀ b o, b ∉ wr → b ≠ S → h.get? b = some o → h'.get? b = some o) → G h'
theorem loop_name : (toString "min" ++ toString ".loop" : String) = "min.loop" := by decide
theorem min_turns (W : Walks prog w A.in1 I fp wr n P St) (bt : Nat → Nat → Bool) (hcmp : CmpG prog w A.in1 G P bt) (S : Addr) (gk : GKeep G wr S) (hSf : S ∉ fp) :
    ∀ (k j : Nat) (s : Shared) (vb : Value) (c : Nat) (R : Result → Shared → Prop), n - (j + 1) = k → j + 1 ≤ n → St (j + 1) s.heap → G s.heap → P (argBest bt j) vb →
    s.heap.get? S = some { cls := .type "list", dict := none, data := .seq #[vb, vb] c, slots := #[] } →
    (∀ v h' tk, P (argBest bt (n - 1)) v → (∀ b o, b ∉ wr → b ≠ S → s.heap.get? b = some o → h'.get? b = some o) → R (.ok (.ret v)) { s with heap := h', toks := tk }) →
    codeAny (model prog w) A (.builtin "min.loop" ⟨[.ref I, .none, .ref S], []⟩) R s := by
  have hSw : S ∉ wr := fun h => hSf (W.sub _ h)
  intro k
  induction k with
  | zero =>
    intro j s vb c R hk hj hst hG hPb hS hR
    have hin : j + 1 = n := by omega
    refine codeAny_builtin F.entry_min_loop ?_
    rw [Around.under_plainId F.plain_min_loop _]
    refine wpAny_bind (wpAny_seqItems hS rfl ?_)
    refine wpAny_bind (wpAny_tryCatch (W.done s _ _ (hin ▸ hst) fun h' tk hk' => ?_))
    have hS' := hk' S _ hSw hS
    show wpAny _ A.in1 (updateSeq S (fun _ => #[]) >>= _) _ _ _
    refine wpAny_bind (wpAny_updateSeq hS' rfl (wpAny_bind (wpAny_letGo (wpAny_pure ?_))))
    exact hR vb _ tk (by rw [← hin]; exact hPb) fun b o hbw hbS e => (Heap.get?_update_other _ _ (Ne.symm hbS)).trans (hk' b o hbw e)
  | succ k ih =>
    intro j s vb c R hk hj hst hG hPb hS hR
    have hlt : j + 1 < n := by omega
    refine codeAny_builtin F.entry_min_loop ?_
    rw [Around.under_plainId F.plain_min_loop _]
    refine wpAny_bind (wpAny_seqItems hS rfl ?_)
    refine wpAny_bind (wpAny_tryCatch (W.item (j + 1) s _ _ hlt hst fun v h' tk hP hst' hk' => ?_))
    have hS' := hk' S _ hSw hS
    have hG' : G h' := gk.keep _ _ hG fun b o hb _ e => hk' b o hb e
    show wpAny _ A.in1 (tryCatch (holding [v, v] (richCompare .Lt v vb >>= _)) _ >>= _) _ _ _
    refine wpAny_bind (wpAny_tryCatch (wpAny_holding (wpAny_bind (hcmp (j + 1) (argBest bt j) v vb _ _ _ hG' hP hPb ?_))))
    refine wpAny_bind (wpAny_holding (wpAny_truthy_bool (wpAny_bind (wpAny_letGo (wpAny_pure ?_)))))
    cases hb : bt (j + 1) (argBest bt j) with
    | true =>
      simp only [if_true]
      refine wpAny_bind (wpAny_updateSeq hS' rfl (wpAny_bind (wpAny_letGo ?_)))
      rw [loop_name]
      refine wpAny_pure ⟨plainId_quiet F.plain_min_loop _, ih (j + 1) _ v _ _ (by omega) hlt (W.frame _ _ _ hst' fun b hbf o e => ?_) (gk.keep _ _ hG' fun b o _ hbS e => ?_) (by simp only [argBest, hb, if_true]; exact hP) (Heap.get?_update_self _ hS' rfl)
        fun v' h'' tk'' hP' hk'' => hR v' h'' tk'' hP' fun b o hbw hbS e => hk'' b o hbw hbS ((Heap.get?_update_other _ _ (Ne.symm hbS)).trans (hk' b o hbw e))⟩
      · exact (Heap.get?_update_other _ _ (fun h : S = b => hSf (by rw [h]; exact hbf))).trans e
      · exact (Heap.get?_update_other _ _ (Ne.symm hbS)).trans e
    | false =>
      simp only [Bool.false_eq_true, if_false]
      refine wpAny_bind (wpAny_letGo ?_)
      rw [loop_name]
      exact wpAny_pure ⟨plainId_quiet F.plain_min_loop _, ih (j + 1) _ vb c _ (by omega) hlt hst' hG' (by simp only [argBest, hb, Bool.false_eq_true, if_false]; exact hPb) hS'
        fun v' h'' tk'' hP' hk'' => hR v' h'' tk'' hP' fun b o hbw hbS e => hk'' b o hbw hbS (hk' b o hbw e)⟩
theorem min_first (W : Walks prog w A.in1 I fp wr n P St) (bt : Nat → Nat → Bool) (hcmp : CmpG prog w A.in1 G P bt) (S : Addr) (gk : GKeep G wr S) (hSf : S ∉ fp) (hn : 0 < n) {s : Shared} {c : Nat} {R : Result → Shared → Prop} (hst : St 0 s.heap) (hG : G s.heap)
    (hS : s.heap.get? S = some { cls := .type "list", dict := none, data := .seq #[] c, slots := #[] })
    (hR : ∀ v h' tk, P (argBest bt (n - 1)) v → (∀ b o, b ∉ wr → b ≠ S → s.heap.get? b = some o → h'.get? b = some o) → R (.ok (.ret v)) { s with heap := h', toks := tk }) :
    codeAny (model prog w) A (.builtin "min.loop" ⟨[.ref I, .none, .ref S], []⟩) R s := by
  have hSw : S ∉ wr := fun h => hSf (W.sub _ h)
  refine codeAny_builtin F.entry_min_loop ?_
  rw [Around.under_plainId F.plain_min_loop _]
  refine wpAny_bind (wpAny_seqItems hS rfl ?_)
  refine wpAny_bind (wpAny_tryCatch (W.item 0 s _ _ hn hst fun v h' tk hP hst' hk' => ?_))
  have hS' := hk' S _ hSw hS
  have hG' : G h' := gk.keep _ _ hG fun b o hb _ e => hk' b o hb e
  show wpAny _ A.in1 (updateSeq S (fun _ => #[v, v]) >>= _) _ _ _
  refine wpAny_bind (wpAny_updateSeq hS' rfl ?_)
  rw [loop_name]
  refine wpAny_pure ⟨plainId_quiet F.plain_min_loop _, min_turns W bt hcmp S gk hSf _ 0 _ v _ _ rfl hn (W.frame _ _ _ hst' fun b hbf o e => ?_) (gk.keep _ _ hG' fun b o _ hbS e => ?_) hP (Heap.get?_update_self _ hS' rfl) fun v' h'' tk'' hP' hk'' => ?_⟩
  · exact (Heap.get?_update_other _ _ (fun h : S = b => hSf (by rw [h]; exact hbf))).trans e
  · exact (Heap.get?_update_other _ _ (Ne.symm hbS)).trans e
  · exact hR v' h'' tk'' hP' fun b o hbw hbS e => hk'' b o hbw hbS ((Heap.get?_update_other _ _ (Ne.symm hbS)).trans (hk' b o hbw e))
end
section
variable {prog : Program} {w : World} {A : Around} {E : Value → Shared → Prop} {s : Shared}
theorem min_walk {x : Value} {Q : Value → Shared → Prop}
    (h : wpAny (model prog w) A.in1 (pyIter x) (fun it s₂ => ∃ I fp wr n P St bt, ∃ G : Heap → Prop, it = .ref I ∧ Walks prog w A.in1 I fp wr n P St ∧ St 0 s₂.heap ∧ (∀ b ∈ fp, b < s₂.heap.objs.size) ∧ 0 < n ∧ CmpG prog w A.in1 G P bt ∧ G s₂.heap ∧ (∀ S, s₂.heap.objs.size ≤ S → GKeep G wr S) ∧
      ∀ v h' tk, P (argBest bt (n - 1)) v → (∀ b o, b ∉ wr → s₂.heap.get? b = some o → h'.get? b = some o) → Q v { s₂ with heap := h', toks := tk }) E s) :
    wpAny (model prog w) A (call (.builtin "min") [x]) Q E s := by
  refine call_function_tree F.kind_min F.plain_min F.entry_min (F.args_min1 _) ?_
  show wpAny _ A.in1 (Builtin.Builtins.bindParams "min" ["key", "default"] 0 ⟨[], []⟩ >>= _) _ _ s
  refine wpAny_bind (wpAny_of_eq (show Builtin.Builtins.bindParams "min" ["key", "default"] 0 ⟨[], []⟩ = pure [none, none] from rfl) (wpAny_bind (wpAny_pure ?_)))
  refine wpAny_bind (wpAny_mono h (fun it s₂ h₂ => ?_) fun _ _ e => e)
  obtain ⟨I, fp, wr, n, P, St, bt, G, rfl, W, hst, hfp, hn, hcmp, hG, gk, hQ⟩ := h₂
  refine wpAny_bind (wpAny_newObj_type ?_)
  have hSf : s₂.heap.objs.size ∉ fp := fun hm => Nat.lt_irrefl _ (hfp _ hm)
  have g := gk s₂.heap.objs.size (Nat.le_refl _)
  rw [loop_name]
  refine wpAny_pure ⟨plainId_quiet F.plain_min_loop _, min_first W bt hcmp s₂.heap.objs.size g hSf hn (W.frame _ _ _ hst fun b _ o e => Heap.get?_push_of_some _ e) (g.keep _ _ hG fun b o _ _ e => Heap.get?_push_of_some _ e) (Heap.get?_push_size _ rfl) fun v h' tk hP hk => ?_⟩
  exact hQ v h' tk hP fun b o hbw e => hk b o hbw (Nat.ne_of_lt (Heap.lt_size e)) (Heap.get?_push_of_some _ e)
end
/-! ### the least key -/
def pairKey (k : Int × Int) : NestedKey := .tup [.num k.1, .num k.2]
def ltP2 (a b : Int × Int) : Bool := decide (a.1 < b.1 ∨ (a.1 = b.1 ∧ a.2 < b.2))
theorem argBest_min {f : Nat → Int × Int} : ∀ n, argBest (fun i j => ltP2 (f i) (f j)) n ≤ n ∧ ∀ i, i ≤ n → ltP2 (f i) (f (argBest (fun i j => ltP2 (f i) (f j)) n)) = false
  | 0 => ⟨Nat.le_refl _, fun i hi => by
      have e : i = 0 := by omega
      subst e
      unfold ltP2 argBest
      exact decide_eq_false (by omega)⟩
  | n + 1 => by
    obtain ⟨h1, h2⟩ := argBest_min (f := f) n
    unfold argBest
    by_cases c : ltP2 (f (n + 1)) (f (argBest (fun i j => ltP2 (f i) (f j)) n)) = true
    · rw [if_pos c]
      refine ⟨Nat.le_refl _, fun i hi => ?_⟩
      by_cases e : i = n + 1
      · rw [e]
        exact decide_eq_false (by omega)
      · have q := h2 i (by omega)
        unfold ltP2 at c q ⊢
        have c' := of_decide_eq_true c
        have q' := of_decide_eq_false q
        exact decide_eq_false (by omega)
    · rw [if_neg c]
      refine ⟨by omega, fun i hi => ?_⟩
      by_cases e : i = n + 1
      · rw [e]; exact Bool.not_eq_true _ ▸ c
      · exact h2 i (by omega)
/-- the items of a key's tuple: two whole numbers -/
def TwoInts (vs : List V) : Prop := ∃ i j : Int, vs = [.int i, .int j]
section
variable {X : Cx}
def rMinN (P : Program) (w : World) : List V → Hp → VK → Prop := fun vs H Q => ∃ (a : Addr) (kvs : List (NestedKey × V)) (ks : List (Int × Int)), vs = [V.ref a] ∧ ND P w TwoInts H a kvs ∧ kvs.map (·.1) = ks.map pairKey ∧ ks ≠ [] ∧
  ∀ (m : Int × Int) (b : Addr), m ∈ ks → (∀ j ∈ ks, ltP2 j m = false) → Rd H b (.tup [.int m.1, .int m.2]) → Q (.ref b) H
theorem rd_tup {H : Hp} {b : Addr} {xs ys : List V} (h : Rd H b (.tup xs)) (h' : Rd H b (.tup ys)) : xs = ys := by
  rcases h with h | ⟨o, h⟩ <;> rcases h' with h' | ⟨o', h'⟩ <;> rw [h] at h' <;> cases h' <;> rfl
theorem twoInts_key {H : Hp} {b : Addr} {k : Int × Int} {vs : List V} (h : KeyV H (.ref b) (pairKey k)) (hb : Rd H b (.tup vs)) (f : TwoInts vs) : vs = [.int k.1, .int k.2] := by
  unfold pairKey at h
  cases h with
  | tup h1 h2 =>
    have e1 := rd_tup hb h1
    subst e1
    obtain ⟨i, j, rfl⟩ := f
    cases h2 with
    | cons g1 g2 =>
      cases g2 with
      | cons g3 g4 =>
        cases g1
        cases g3
        rfl
theorem PK.nth {F : List V → Prop} {H : Hp} : ∀ {kvs : List (NestedKey × V)} {xs : List NE} {i : Nat} {x : NE}, PK F H kvs xs → xs[i]? = some x → ∃ p, kvs[i]? = some p ∧ p.1 = x.1 ∧ KeyV H (.ref x.2.1) p.1 ∧ ∃ vs, Rd H x.2.1 (.tup vs) ∧ F vs
  | _, _, i, x, .nil, h => by simp at h
  | _, _, 0, x, .cons z t, h => by
    simp only [List.getElem?_cons_zero, Option.some.injEq] at h
    subst h
    exact ⟨_, rfl, z.1, z.2.1, z.2.2.2.2⟩
  | _, _, i + 1, x, .cons z t, h => by
    simp only [List.getElem?_cons_succ] at h
    obtain ⟨p, h1, h2⟩ := PK.nth (i := i) t h
    exact ⟨p, by rw [List.getElem?_cons_succ]; exact h1, h2⟩
theorem cr_minN (hc : X.calm = true) (hu : X.A.units + 64 < cLine) : CallR X (.builtin "min") (rMinN X.prog X.w) := by
  intro pins s σ H vs us Q I r h
  obtain ⟨a, kvs, ks, rfl, n, hks, hne, q⟩ := h
  rw [Vals.ref1 r]
  obtain ⟨xs, ha, p, m, hl⟩ := n.raw I
  obtain ⟨es, ep, hr, hs, he⟩ := m.raw
  have hlk : kvs.length = ks.length := by
    have e1 := congrArg List.length hks
    simpa using e1
  have hsz : es.size = ks.length := by rw [hs, hl, hlk]
  have hlt : a < s.heap.objs.size := by
    obtain ⟨o, ho, _⟩ := hr
    exact Heap.lt_size ho
  -- the i-th key's tuple
  have key : ∀ i (hi : i < es.size), ∃ b, es[i].key = .ref b ∧ Rd H b (.tup [.int (ks.getD i (0, 0)).1, .int (ks.getD i (0, 0)).2]) := fun i hi => by
    obtain ⟨y, hy, h1, _, _⟩ := he i hi
    obtain ⟨pp, h2, h3, h4, vs, h5, h6⟩ := PK.nth p hy
    have e1 : (kvs.map (·.1))[i]? = some pp.1 := by rw [List.getElem?_map, h2]; rfl
    rw [hks, List.getElem?_map] at e1
    obtain ⟨k, hk, e2⟩ := Option.map_eq_some_iff.mp e1
    refine ⟨y.2.1, h1, ?_⟩
    rw [← e2] at h4
    have e3 := twoInts_key h4 h5 h6
    rw [e3] at h5
    rw [List.getD_eq_getElem?_getD, hk]
    exact h5
  have G0 : ∀ i (hi : i < es.size), ∃ as, Reads s.heap es[i].key (.tuple [.int (ks.getD i (0, 0)).1, .int (ks.getD i (0, 0)).2]) as := fun i hi => by
    obtain ⟨b, h1, h2⟩ := key i hi
    rw [h1]
    exact (Dp.tup (K := X.K) (.inl h2) (.cons (.int _) (.cons (.int _) .nil))).reads I _ _ _ rfl
  refine min_walk (wpAny_pyIter_dict_raw n.2.1 hr ?_)
  have hpos : 0 < es.size := by rw [hsz]; exact List.length_pos_iff.mpr hne
  refine ⟨_, _, _, _, _, _, fun i j => ltP2 (ks.getD i (0, 0)) (ks.getD j (0, 0)), fun h => ∀ b o, s.heap.get? b = some o → h.get? b = some o, rfl, Walks.rawKeys (A := X.A.in1) (show X.A.in1.handled = none from I.ok.hd hc) s.heap.objs.size a (Nat.ne_of_lt hlt) es ep,
    ⟨⟨_, Heap.get?_push_size _ rfl, rfl, rfl⟩, hr.at fun o e => Heap.get?_push_of_some _ e⟩, fun b hb => ?_, hpos, fun i j vi vj s' Q' E' hG hi hj hQ => ?_, fun b o e => Heap.get?_push_of_some _ e, fun S hS => ⟨fun h h' hG k b o e => ?_⟩, fun v h' tk hP hk => ?_⟩
  · show b < (s.heap.push _).objs.size
    rw [Heap.size_push]
    rcases List.mem_cons.mp hb with e | hb
    · rw [e]; exact Nat.lt_succ_self _
    · rw [List.mem_singleton.mp hb]; exact Nat.lt_succ_of_lt hlt
  · obtain ⟨hi1, rfl⟩ := hi
    obtain ⟨hj1, rfl⟩ := hj
    obtain ⟨as, ra⟩ := G0 i hi1
    obtain ⟨bs, rb⟩ := G0 j hj1
    have z := PySem.W.rcLt_alike _ _ X.A.in1 s' _ _ _ _ (PyProof.Rows.Reads.keeps hG ra) (PyProof.Rows.Reads.keeps hG rb) (by simp [PySem.W.alike, PySem.W.alikeAll]) (fun q => nomatch q) (by
      show X.A.units + 1 + _ < cLine
      simp only [PyData.depth, PyData.depthAll]
      omega)
    refine z X.prog X.w E' Q' ?_
    rw [PySem.W.dataLt_ii]
    exact hQ
  · have hb := Heap.lt_size e
    refine k b o (fun hm => ?_) (fun e2 => ?_) (hG b o e)
    · rw [List.mem_singleton.mp hm] at hb
      exact Nat.lt_irrefl _ hb
    · rw [Heap.size_push] at hS
      rw [e2] at hb
      exact absurd (Nat.lt_of_lt_of_le hb (Nat.le_trans (Nat.le_succ _) hS)) (Nat.lt_irrefl _)
  · obtain ⟨hi, rfl⟩ := hP
    obtain ⟨b1, b2⟩ := argBest_min (f := fun i => ks.getD i (0, 0)) (es.size - 1)
    obtain ⟨b, h1, h2⟩ := key _ hi
    rw [h1]
    refine ⟨.ref b, H, I.kept (t' := tk) fun c o e => hk c o (fun hmem => ?_) (Heap.get?_push_of_some _ e), rfl, q _ b ?_ (fun j hj => ?_) h2⟩
    · have e1 : c = s.heap.objs.size := List.mem_singleton.mp hmem
      have e2 := Heap.lt_size e
      rw [e1] at e2
      exact absurd e2 (Nat.lt_irrefl _)
    · have hb : argBest (fun i j => ltP2 (ks.getD i (0, 0)) (ks.getD j (0, 0))) (es.size - 1) < ks.length := by omega
      rw [List.getD_eq_getElem?_getD, List.getElem?_eq_getElem hb]
      exact List.getElem_mem hb
    · obtain ⟨i, hi2, e⟩ := List.mem_iff_getElem.mp hj
      have e2 : ks.getD i (0, 0) = j := by rw [List.getD_eq_getElem?_getD, List.getElem?_eq_getElem hi2, ← e]; rfl
      rw [← e2]
      exact b2 i (by omega)
end
end Cn
end
section
set_option Elab.async false
set_option linter.all false
set_option maxRecDepth 100000
set_option maxHeartbeats 2000000
namespace Cn
open PySem PySem.Spec PyProof.Rows L2
/-! ### tuples whose object is known to be without a dict -/
def TF (H : Hp) (a : Addr) (xs : List V) : Prop := ∃ o : Obj, o.dict = none ∧ H a = some (.frz o (.tup xs))
theorem TF.rd {H : Hp} {a : Addr} {xs : List V} (h : TF H a xs) : Rd H a (.tup xs) := let ⟨o, _, e⟩ := h; .inr ⟨o, e⟩
def isT : HO → Prop
  | .tup _ => True
  | .frz _ _ => True
  | _ => False
/-- all tuples and all that is known stand -/
def Tq (H H' : Hp) : Prop := ∀ b o, isT o → H b = some o → H' b = some o
theorem Tq.refl (H : Hp) : Tq H H := fun _ _ _ h => h
theorem Tq.trans {H H1 H2 : Hp} (a : Tq H H1) (b : Tq H1 H2) : Tq H H2 := fun c o i h => b c o i (a c o i h)
theorem Tq.of_same {H H' : Hp} (s : Same H H') : Tq H H' := fun b o _ h => s b o h
theorem Tq.tups {H H' : Hp} (t : Tq H H') : Tups H H' := fun b xs h => by
  rcases h with h | ⟨o, h⟩
  · exact .inl (t b _ trivial h)
  · exact .inr ⟨o, t b _ trivial h⟩
theorem Tq.upd {H : Hp} {a : Addr} {o u : HO} (ha : H a = some o) (n : ¬ isT o) : Tq H (upd H a u) := fun b v i h => by
  have hb : b ≠ a := fun z => by
    rw [z, ha] at h
    exact n (Option.some.inj h ▸ i)
  rw [upd_ne hb]
  exact h
theorem Tq.new {H : Hp} {a : Addr} {u : HO} (ha : H a = none) : Tq H (L2.upd H a u) := Tq.of_same fun b o h => by
  rw [upd_ne (ne_of_none h ha)]
  exact h
theorem nisT_of {o : HO} (n : NoT o) : ¬ isT o := fun i => by
  cases o with
  | tup xs => exact n.1 _ rfl
  | frz o v => exact n.2 _ _ rfl
  | _ => exact i
theorem TF.at {H H' : Hp} {a : Addr} {xs : List V} (t : Tq H H') (h : TF H a xs) : TF H' a xs := let ⟨o, d, e⟩ := h; ⟨o, d, t a _ trivial e⟩
theorem same_new {H : Hp} {a : Addr} {u : HO} (ha : H a = none) : Same H (L2.upd H a u) := fun b o h => by
  rw [upd_ne (ne_of_none h ha)]
  exact h
theorem same_mut {H H' : Hp} {a : Addr} {u : HO} (s : Same H H') (ha : H a = none) : Same H (L2.upd H' a u) := fun b o h => by
  rw [upd_ne (ne_of_none h ha)]
  exact s b o h
theorem Same.refl (H : Hp) : Same H H := fun _ _ h => h
theorem Same.trans {H H1 H2 : Hp} (a : Same H H1) (b : Same H1 H2) : Same H H2 := fun c o h => b c o (a c o h)
theorem same_none {H H' : Hp} {a : Addr} (s : Same H H') (h : H' a = none) : H a = none := by
  cases e : H a with
  | none => rfl
  | some o => rw [s a o e] at h; cases h
section
variable {X : Cx}
/-- t + u of tuples: where both have items the new one's object is known -/
def rCatF (K : PySem.W.Frag) : R2 := fun x y H Q => ∃ a b xs ys, x = .ref a ∧ y = .ref b ∧ SqT K H a xs ∧ SqT K H b ys ∧ xs.length + ys.length ≤ sizeLine ∧
  (xs = [] → Q (.ref b) H) ∧ (xs ≠ [] → ys = [] → Q (.ref a) H) ∧ (xs ≠ [] → ys ≠ [] → ∀ (p : Addr) (o : Obj), H p = none → o.dict = none → Q (.ref p) (upd H p (.frz o (.tup (xs ++ ys)))))
theorem op_catF : OpR X (binaryOp .Add) (rCatF X.K) := by
  intro pins s σ H x y v u Q I rx ry h
  obtain ⟨a, b, xs, ys, rfl, rfl, ha, hb, hz, q0, q1, q2⟩ := h
  cases rx
  cases ry
  obtain ⟨its, r1, p1, _⟩ := I.tuple ha
  obtain ⟨its2, r2, p2, _⟩ := I.tuple hb
  by_cases hx : xs = []
  · subst hx
    cases r1
    exact cat_tup0 p1 p2 ⟨.ref b, H, I, rfl, q0 rfl⟩
  · refine HT.cat_tup p1 p2 (fun z => hx (r1.nil_iff.mp z)) (fun z => ⟨.ref a, H, I, rfl, q1 hx (r2.nil_iff.mp z)⟩) (fun z => ?_) (by rw [← r1.length, ← r2.length]; exact hz)
    refine ⟨.ref s.heap.objs.size, _, I.laid (t' := s.toks) (o := .frz { cls := .type "tuple", data := .seq (its ++ its2).toArray } (.tup (xs ++ ys))) (fun b ob q => Heap.get?_push_of_some _ q) (Nat.le_refl _) ?_, rfl, q2 hx (fun w => z (r2.nil_iff.mpr w)) _ _ (I.hok.fresh (Nat.le_refl _)) rfl⟩
    exact ⟨Heap.get?_push_size _ rfl, by rw [List.length_append]; exact hz, _, r1.append r2, IsTup.new _ _⟩
/-- t * k, t not empty, 2 ≤ k -/
def rRepF (K : PySem.W.Frag) : R2 := fun x y H Q => ∃ l k xs, x = .ref l ∧ y = .int k ∧ SqT K H l xs ∧ xs ≠ [] ∧ 2 ≤ k ∧ k ≤ 1000 ∧ xs.length ≤ 1000 ∧ ∀ (p : Addr) (o : Obj), H p = none → o.dict = none → Q (.ref p) (upd H p (.frz o (.tup (List.replicate k.toNat xs).flatten)))
theorem op_repF : OpR X (binaryOp .Mult) (rRepF X.K) := by
  intro pins s σ H x y v u Q I rx ry h
  obtain ⟨l, k, xs, rfl, rfl, hT, hne, h1, h2, hz, q⟩ := h
  cases rx
  obtain ⟨t, rfl⟩ := ry
  obtain ⟨its, r, ⟨⟨cls, dd, data, sl⟩, ho, hc, n, hd⟩, hs⟩ := I.tuple hT
  simp only at hc hd
  subst hc hd
  have hle : its.length = xs.length := r.length.symm
  have hn : its ≠ [] := fun e => hne (r.nil_iff.mp e)
  have hi : its.toArray.isEmpty = false := by
    cases its with
    | nil => exact absurd rfl hn
    | cons a b => rfl
  have hsz0 : its.toArray.size = xs.length := by rw [List.size_toArray, hle]
  have hm : ((its.toArray.size : Nat) : Int) * k ≤ 1000000 := by
    rw [hsz0]
    have a1 : ((xs.length : Nat) : Int) * k ≤ 1000 * k := Int.mul_le_mul_of_nonneg_right (by omega) (by omega)
    omega
  have flen : (List.replicate k.toNat its).flatten.length ≤ sizeLine := by
    rw [PyProof.Rows.lm_len_rep_flat, hle, sizeLine_eq]
    have a1 : k.toNat * xs.length ≤ 1000 * 1000 := Nat.mul_le_mul (by omega) hz
    omega
  have c0 : (decide (k < -(2 ^ 63)) || decide (k ≥ 2 ^ 63)) = false := by
    rw [decide_eq_false (by omega), decide_eq_false (by omega)] <;> rfl
  have c1 : (its.toArray.isEmpty || k == 1) = false := by
    rw [hi, Bool.false_or]
    exact beq_eq_false_iff_ne.mpr (by omega)
  have c2 : (decide (k ≤ 0) || its.toArray.isEmpty) = false := by
    rw [hi, Bool.or_false]
    exact decide_eq_false (by omega)
  have c4 : Builtin.Tuple.tupleTooMany (((its.toArray.size : Nat) : Int) * k) = false := by
    unfold Builtin.Tuple.tupleTooMany
    rw [sizeLine_eq]
    exact decide_eq_false (by omega)
  refine wpAny_binaryOp_repeat_ref (T := "tuple") (U := "int") (by decide) ⟨_, ho, rfl⟩ (fun s' => typeIs_int s' k t) noFill_tuple_mul F.fills_int_mul F.slot_int_rmul repeat_tuple F.slot_int_index.lookup
    (call_meets F.slot_int_rmul (typeIs_int s k t) F.entry_int_rmul (F.args_int_rmul_2 _ _) (int_rmul_tuple k t l its.toArray n dd sl)
      ⟨ho, rfl, ⟨_, ho, rfl⟩, call_meets F.slot_tuple_mul ⟨_, ho, rfl⟩ F.entry_tuple_mul (F.args_tuple_mul_2 _ _) (tuple_mulW l its.toArray n dd sl k t c0 c1 c2 (by omega) c4 (by rw [size_rep, List.size_toArray]; exact flen)) ⟨ho, ?_⟩⟩)
  rw [size_rep]
  refine ⟨.ref s.heap.objs.size, _, I.laid (t' := s.toks) (o := .frz { cls := .type "tuple", data := .seq (List.replicate k.toNat its).flatten.toArray } (.tup (List.replicate k.toNat xs).flatten)) (fun b ob q => Heap.get?_push_of_some _ q) (Nat.le_refl _) ?_, rfl, q _ _ (I.hok.fresh (Nat.le_refl _)) rfl⟩
  exact ⟨Heap.get?_push_size _ rfl, by rw [PyProof.Rows.lm_len_rep_flat, sizeLine_eq]; have a1 : k.toNat * xs.length ≤ 1000 * 1000 := Nat.mul_le_mul (by omega) hz; omega, _, r.rep k.toNat, IsTup.new _ _⟩
/-- t.count(e), t a tuple of ints whose object is known -/
def tCnt (K : PySem.W.Frag) (to : TE) (t : TA) : TE := fun σ H Q => to σ H fun x H1 => ∃ (p : Addr) (ns : List Int), x = .ref p ∧ TF H1 p (ns.map V.int) ∧ t σ H1 fun xs H2 => ∃ k : Int, xs = [.int k] ∧ SqT K H2 p (ns.map V.int) ∧ Q (.int (ns.count k : Nat)) H2
theorem pe_count {o e : Expr} {to : TE} {t : TA} {apos cpos : Pos} (ho : PE X o to) (ha : PA X [e] t)
    (hbase : attributeBase o "count" X.env (eval o X.env) = eval o X.env := by rfl)
    (hfew : ((backTo cpos (starEach [e] X.env)).all (fun x => !x.1) && (backToKw cpos (keywordEach [] X.env)).all (fun x => x.1.isSome)
      && decide (([e] : List Expr).length + ([] : List Keyword).length + (if ([] : List Keyword).isEmpty then 0 else 1) < 30)) = true := by rfl)
    (hline : (apos.endLine == cpos.line) = true := by rfl) (hs : starEach [e] X.env = (false, eval e X.env) :: starEach [] X.env := by rfl) (hplain : (backTo cpos (starEach [] X.env)).any (·.1) = false := by rfl) :
    PE X (.Call (.Attribute o "count" apos) [e] [] cpos) (tCnt X.K to t) := by
  refine ⟨fun pins s σ H Q I h => ?_⟩
  refine wpAny_Call_method_late hbase hfew hline rfl (thn (ho.run pins s σ H _ I h) fun v s1 ⟨x, H1, I1, r1, p, ns, ex, ⟨ob, hd, hT⟩, q1⟩ => ?_)
  subst ex
  obtain rfl : v = Value.ref p := r1
  have hok : s1.heap.get? p = some ob ∧ ObjOk X.prog X.w H1 s1.heap p (.tup (ns.map V.int)) := I1.hok p _ hT
  obtain ⟨hg, _, its, rv, ⟨o2, ho2, hc2, n2, hd2⟩⟩ := hok
  refine ⟨"tuple", "tuple.count", PySem.F.plainAttrs_tuple, PySem.F.slot_tuple_count, PySem.F.type_tuple_count, ⟨o2, ho2, hc2⟩, fun a e => ?_, ?_⟩
  · cases e
    exact ⟨ob, hg, hd⟩
  · have hA := ha.run cpos pins s1 σ H1 _ I1 q1
    rw [hs] at hA ⊢
    refine Calls.callWith_builtin (by show (false || (backTo cpos (starEach [] X.env)).any (·.1)) = false; rw [hplain] <;> rfl) (Calls.evalArgs_plain ?_)
    exact thn hA fun us s2 ⟨vs, H2, I2, r2, k, ev, hS, q2⟩ => mt_tcount pins s2 σ H2 (.ref p) vs (.ref p) us Q I2 rfl r2 ⟨p, ns, k, rfl, ev, hS, q2⟩
/-- o.f as a target among others -/
def gFld (K : PySem.W.Frag) (to : TE) (f : Str) : TG := fun v σ H Q => to σ H fun x H1 => ∃ a C dx fs, x = .ref a ∧ H1 a = some (.ins C dx fs) ∧ Cls K C ∧ NoAttr K C f ∧ fs.length < 1000 ∧ Q σ (upd H1 a (.ins C dx (putF f v fs)))
theorem pg_fld {o : Expr} {f : Str} {to : TE} {pos : Pos} (ho : PE X o to) : PG X (.Attribute o f pos) (gFld X.K to f) := by
  refine ⟨fun pins s σ H v u Q I r h => ?_⟩
  refine PySem.W.kas_attr (thn (ho.run pins s σ H _ I h) fun ov s1 ⟨x, H1, I1, rx, a, C, dx, fs, ex, ea, c, n, l, q⟩ => ?_)
  subst ex
  obtain rfl : ov = Value.ref a := rx
  exact setattr_ok I1 ea c n l r fun s3 I3 => ⟨σ, _, I3, q⟩
end
/-! ### defs of the text, their addresses hidden -/
def GDef (P : Program) (w : World) (K : PySem.W.Frag) (mg : Str → Option Value) (base : Heap) (CX : CXT) (k : Nat) (x : Str) (ps : List Str) (sp : Sp) : Prop :=
  ∃ f fd, mg x = some (.ref f) ∧ PySem.W.keepIn K (.ref f) = true ∧ FnOk P w K mg base CX k f fd ps sp ∧ Binds K fd ps []
def GMeth (P : Program) (w : World) (K : PySem.W.Frag) (mg : Str → Option Value) (base : Heap) (CX : CXT) (k : Nat) (C : Addr) (m : Str) (ps : List Str) (sp : Sp) : Prop :=
  ∃ f fd, Meth K C m f ∧ FnOk P w K mg base CX k f fd ps sp ∧ Binds K fd ps []
def GMake (P : Program) (w : World) (K : PySem.W.Frag) (mg : Str → Option Value) (base : Heap) (CX : CXT) (k : Nat) (x : Str) (C : Addr) (ps : List Str) (sp : Sp) : Prop :=
  ∃ f fd, mg x = some (.ref C) ∧ Mk K C f ∧ FnOk P w K mg base CX k f fd ps sp ∧ Binds K fd ps []
def tG (sp : Sp) (E : XK) (t : TA) : TE := fun σ H Q => t σ H fun vs H1 => sp vs H1 Q E
def tGM (C : Addr) (m : Str) (sp : Sp) (E : XK) (ta : TE) (t : TA) : TE := fun σ H Q => ta σ H fun x H1 => ∃ a dx fs, x = .ref a ∧ H1 a = some (.ins C dx fs) ∧ fs.lookup m = none ∧ t σ H1 fun vs H2 => sp (x :: vs) H2 Q E
def tGN (C : Addr) (sp : Sp) (E : XK) (t : TA) : TE := fun σ H Q => t σ H fun vs H1 => ∀ x dx, H1 x = none → H1 dx = none → dx ≠ x → sp (.ref x :: vs) (upd (upd H1 dx (.own x)) x (.ins C dx [])) (fun v H2 => v = .non ∧ Q (.ref x) H2) E
theorem tCall_of {sp : Sp} {E : XK} {t : TA} : tCall sp [] E t = tG sp E t := by
  unfold tCall tG
  simp only [List.append_nil]
theorem tMeth_of {C : Addr} {m : Str} {sp : Sp} {E : XK} {ta : TE} {t : TA} : tMeth C m sp [] E ta t = tGM C m sp E ta t := by
  unfold tMeth tGM
  simp only [List.append_nil]
theorem tMake_of {C : Addr} {sp : Sp} {E : XK} {t : TA} : tMake C sp [] E t = tGN C sp E t := by
  unfold tMake tGN
  simp only [List.append_nil]
section
variable {X : Cx} {CX : CXT} {k : Nat} {C : Addr} {ps : List Str} {sp : Sp} {E : XK} {x m : Str} {p pos apos : Pos} {e o : Expr} {es : List Expr} {ta : TE} {t : TA}
theorem pe_g (G : GDef X.prog X.w X.K X.mg X.base CX k x ps sp) (hr : Room k X.A) (hg : Gl X x) (hx : Passes CX X E) (ha : PA X (e :: es) t)
    (hdb : (x == ("__debug__" : Str)) = false := by decide) (he : starEach (e :: es) X.env = (false, eval e X.env) :: starEach es X.env := by rfl) (hpl : (backTo pos (starEach es X.env)).any (·.1) = false := by rfl) :
    PE X (.Call (.Name x p) (e :: es) [] pos) (tG sp E t) := by
  obtain ⟨f, fd, hm, hk, F, hb⟩ := G
  rw [← tCall_of]
  exact pe_call F hr hg hm hk hb .nil hx ha hdb he hpl
theorem pe_gm {pl : Sem Bool} (he : PE X o ta) (c : Cls X.K C) (G : GMeth X.prog X.w X.K X.mg X.base CX k C m ps sp) (hr : Room k X.A) (hx : Passes CX X E) (ha : PA X (e :: es) t)
    (hst : starEach (e :: es) X.env = (false, eval e X.env) :: starEach es X.env := by rfl) (hpl : (backTo pos (starEach es X.env)).any (·.1) = false := by rfl)
    (ht : eval (.Call (.Attribute o m apos) (e :: es) [] pos) X.env = (do
      let ov ← eval o X.env
      standAt apos.atName
      let (f, first) ← holding [ov] (getMethod ov m pl)
      callWith pos f first (backTo pos (starEach (e :: es) X.env)) (backToKw pos (keywordEach [] X.env))) := by rfl) :
    PE X (.Call (.Attribute o m apos) (e :: es) [] pos) (tGM C m sp E ta t) := by
  obtain ⟨f, fd, hm, F, hb⟩ := G
  rw [← tMeth_of]
  exact pe_meth he c hm F hr hb .nil hx ha hst hpl ht
theorem pe_gm0 {pl : Sem Bool} (he : PE X o ta) (c : Cls X.K C) (G : GMeth X.prog X.w X.K X.mg X.base CX k C m ps sp) (hr : Room k X.A) (hx : Passes CX X E)
    (ht : eval (.Call (.Attribute o m apos) [] [] pos) X.env = (do
      let ov ← eval o X.env
      standAt apos.atName
      let (f, first) ← holding [ov] (getMethod ov m pl)
      callWith pos f first (backTo pos (starEach [] X.env)) (backToKw pos (keywordEach [] X.env))) := by rfl) :
    PE X (.Call (.Attribute o m apos) [] [] pos) (tGM C m sp E ta tNil) := by
  obtain ⟨f, fd, hm, F, hb⟩ := G
  rw [← tMeth_of]
  exact pe_meth0 he c hm F hr hb .nil hx ht
theorem pe_gn (G : GMake X.prog X.w X.K X.mg X.base CX k x C ps sp) (hr : Room (k + 1) X.A) (hg : Gl X x) (hx : Passes CX X E) (ha : PA X (e :: es) t)
    (hdb : (x == ("__debug__" : Str)) = false := by decide) (he : starEach (e :: es) X.env = (false, eval e X.env) :: starEach es X.env := by rfl) (hpl : (backTo pos (starEach es X.env)).any (·.1) = false := by rfl) :
    PE X (.Call (.Name x p) (e :: es) [] pos) (tGN C sp E t) := by
  obtain ⟨f, fd, hm, M, F, hb⟩ := G
  rw [← tMake_of]
  exact pe_make M F hr hg hm hb .nil hx ha hdb he hpl
theorem pe_gn0 (G : GMake X.prog X.w X.K X.mg X.base CX k x C ps sp) (hr : Room (k + 1) X.A) (hg : Gl X x) (hx : Passes CX X E) (hdb : (x == ("__debug__" : Str)) = false := by decide) :
    PE X (.Call (.Name x p) [] [] pos) (tGN C sp E tNil) := by
  obtain ⟨f, fd, hm, M, F, hb⟩ := G
  rw [← tMake_of]
  exact pe_make0 M F hr hg hm hb .nil hx hdb
end
/-- what the top has written of a def, a method, an __init__ -/
def TDef (K : PySem.W.Frag) (mg : Str → Option Value) (x : Str) (st : Stmt) : Prop := ∃ f fd, mg x = some (.ref f) ∧ Fun K x x st f fd
def TMeth (K : PySem.W.Frag) (C : Addr) (m q : Str) (st : Stmt) : Prop := ∃ f fd, Meth K C m f ∧ Fun K m q st f fd
def TInit (K : PySem.W.Frag) (mg : Str → Option Value) (x : Str) (C : Addr) (q : Str) (st : Stmt) : Prop := ∃ f fd, mg x = some (.ref C) ∧ Mk K C f ∧ Fun K "__init__" q st f fd
end Cn
end
section
set_option Elab.async false
set_option linter.all false
set_option maxRecDepth 100000
set_option maxHeartbeats 2000000
namespace Cn
open PySem PySem.Spec PyProof.Rows L2
/-! ### new objects told by what stands -/
section
variable {X : Cx} {es : List Expr} {t : TA} {pos : Pos}
theorem OpR.imp {f : Value → Value → Sem Value} {r r' : R2} (h : OpR X f r) (i : ∀ x y H Q, r' x y H Q → r x y H Q) : OpR X f r' := fun pins s σ H x y v u Q I rx ry q => h pins s σ H x y v u Q I rx ry (i _ _ _ _ q)
theorem CallR.imp {f : Value} {r r' : List V → Hp → VK → Prop} (h : CallR X f r) (i : ∀ xs H Q, r' xs H Q → r xs H Q) : CallR X f r' := fun pins s σ H xs us Q I r q => h pins s σ H xs us Q I r (i _ _ _ q)
theorem SlR.imp {r r' : V → Option Int → Option Int → Hp → VK → Prop} (h : SlR X r) (i : ∀ x l u H Q, r' x l u H Q → r x l u H Q) : SlR X r' := fun pins s σ H x v vl vu lo hi sl Q I rx hs pl pu q => h pins s σ H x v vl vu lo hi sl Q I rx hs pl pu (i _ _ _ _ _ q)
def tTupS (t : TA) : TE := fun σ H Q => t σ H fun xs H1 => xs.length ≤ sizeLine ∧ ∀ (p : Addr) (H2 : Hp), H1 p = none → Same H1 H2 → H2 p = some (.tup xs) → Q (.ref p) H2
def tLstS (t : TA) : TE := fun σ H Q => t σ H fun xs H1 => xs.length ≤ sizeLine ∧ ∀ (p : Addr) (H2 : Hp), H1 p = none → Same H1 H2 → H2 p = some (.lst xs) → Q (.ref p) H2
theorem pe_tupS {x1} (h : PA X es t) : PE X (.Tuple es x1 pos) (tTupS t) := by
  refine ⟨fun pins s σ H Q I hq => ?_⟩
  refine wpAny_Tuple_spliced (thn (h.run pos pins s σ H _ I hq) fun us s1 ⟨xs, H1, I1, r, z, q⟩ => ⟨by rw [← r.length]; exact z, ?_⟩)
  have hf : H1 s1.heap.objs.size = none := I1.hok.fresh (Nat.le_refl _)
  refine ⟨.ref s1.heap.objs.size, upd H1 s1.heap.objs.size (.tup xs), I1.laid (t' := s1.toks) (fun b u e => Heap.get?_push_of_some _ e) (Nat.le_refl _) ?_, rfl, q _ _ hf (same_new hf) upd_same⟩
  exact ⟨z, us, r, ⟨_, Heap.get?_push_size _ rfl, rfl, _, rfl⟩⟩
theorem pe_lstS (h : PA X es t) : PE X (.List es pos) (tLstS t) := by
  refine ⟨fun pins s σ H Q I hq => ?_⟩
  refine wpAny_List_spliced (thn (h.run pos pins s σ H _ I hq) fun us s1 ⟨xs, H1, I1, r, z, q⟩ => ⟨by rw [← r.length]; exact z, ?_⟩)
  have hf : H1 s1.heap.objs.size = none := I1.hok.fresh (Nat.le_refl _)
  refine ⟨.ref s1.heap.objs.size, upd H1 s1.heap.objs.size (.lst xs), I1.laid (t' := s1.toks) (fun b u e => Heap.get?_push_of_some _ e) (Nat.le_refl _) ?_, rfl, q _ _ hf (same_new hf) upd_same⟩
  exact ⟨z, us, 0, r, Heap.get?_push_size _ rfl⟩
def rCatFS (K : PySem.W.Frag) : R2 := fun x y H Q => ∃ a b xs ys, x = .ref a ∧ y = .ref b ∧ SqT K H a xs ∧ SqT K H b ys ∧ xs.length + ys.length ≤ sizeLine ∧
  (xs = [] → Q (.ref b) H) ∧ (xs ≠ [] → ys = [] → Q (.ref a) H) ∧ (xs ≠ [] → ys ≠ [] → ∀ (p : Addr) (H1 : Hp), H p = none → Same H H1 → TF H1 p (xs ++ ys) → Q (.ref p) H1)
theorem op_catFS : OpR X (binaryOp .Add) (rCatFS X.K) := OpR.imp op_catF fun x y H Q h => by
  obtain ⟨a, b, xs, ys, h1, h2, h3, h4, h5, h6, h7, h8⟩ := h
  exact ⟨a, b, xs, ys, h1, h2, h3, h4, h5, h6, h7, fun z1 z2 p o hp ho => h8 z1 z2 p _ hp (same_new hp) ⟨o, ho, upd_same⟩⟩
def rRepFS (K : PySem.W.Frag) : R2 := fun x y H Q => ∃ l k xs, x = .ref l ∧ y = .int k ∧ SqT K H l xs ∧ xs ≠ [] ∧ 2 ≤ k ∧ k ≤ 1000 ∧ xs.length ≤ 1000 ∧ ∀ (p : Addr) (H1 : Hp), H p = none → Same H H1 → TF H1 p (List.replicate k.toNat xs).flatten → Q (.ref p) H1
theorem op_repFS : OpR X (binaryOp .Mult) (rRepFS X.K) := OpR.imp op_repF fun x y H Q h => by
  obtain ⟨l, k, xs, h1, h2, h3, h4, h5, h6, h7, h8⟩ := h
  exact ⟨l, k, xs, h1, h2, h3, h4, h5, h6, h7, fun p o hp ho => h8 p _ hp (same_new hp) ⟨o, ho, upd_same⟩⟩
def rSlTS (K : PySem.W.Frag) : V → Option Int → Option Int → Hp → VK → Prop := fun x lo hi H Q => ∃ a xs, x = .ref a ∧ SqT K H a xs ∧
  (HT.sIx xs.length 0 lo = 0 ∧ HT.sIx xs.length xs.length hi = xs.length → Q (.ref a) H) ∧ (¬ (HT.sIx xs.length 0 lo = 0 ∧ HT.sIx xs.length xs.length hi = xs.length) → ∀ (p : Addr) (H1 : Hp), H p = none → Same H H1 → H1 p = some (.tup (cutV xs lo hi)) → Q (.ref p) H1)
theorem sl_tupS : SlR X (rSlTS X.K) := SlR.imp sl_tupA fun x l u H Q h => by
  obtain ⟨a, xs, h1, h2, h3, h4⟩ := h
  exact ⟨a, xs, h1, h2, h3, fun z p hp => h4 z p _ hp (same_new hp) upd_same⟩
def rSlLS (K : PySem.W.Frag) : V → Option Int → Option Int → Hp → VK → Prop := fun x lo hi H Q => ∃ a xs, x = .ref a ∧ SqL K H a xs ∧ ∀ (p : Addr) (H1 : Hp), H p = none → Same H H1 → H1 p = some (.lst (cutV xs lo hi)) → Q (.ref p) H1
theorem sl_listS : SlR X (rSlLS X.K) := SlR.imp sl_list fun x l u H Q h => by
  obtain ⟨a, xs, h1, h2, h4⟩ := h
  exact ⟨a, xs, h1, h2, fun p hp => h4 p _ hp (same_new hp) upd_same⟩
def rLofS (K : PySem.W.Frag) : List V → Hp → VK → Prop := fun xs H Q => ∃ p ys, xs = [.ref p] ∧ (SqL K H p ys ∨ SqT K H p ys) ∧ ∀ (l : Addr) (H1 : Hp), H l = none → Same H H1 → H1 l = some (.lst ys) → Q (.ref l) H1
theorem call_list_ofS : CallR X (.type "list") (rLofS X.K) := CallR.imp call_list_of fun xs H Q h => by
  obtain ⟨p, ys, h1, h2, h4⟩ := h
  exact ⟨p, ys, h1, h2, fun p hp => h4 p _ hp (same_new hp) upd_same⟩
/-- tuple(a list) -/
def rTofS (K : PySem.W.Frag) : List V → Hp → VK → Prop := fun xs H Q => ∃ p ys, xs = [.ref p] ∧ SqL K H p ys ∧ ∀ (l : Addr) (H1 : Hp), H l = none → Same H H1 → H1 l = some (.tup ys) → Q (.ref l) H1
theorem call_tuple_ofS : CallR X (.type "tuple") (rTofS X.K) := CallR.imp call_tuple_of fun xs H Q h => by
  obtain ⟨p, ys, h1, h2, h4⟩ := h
  exact ⟨p, ys, h1, .inl ⟨h2, fun p hp => h4 p _ hp (same_new hp) upd_same⟩⟩
def rCatS : R2 := fun x y H Q => ∃ l b xs zs, x = .ref l ∧ y = .ref b ∧ H l = some (.lst xs) ∧ H b = some (.lst zs) ∧ xs.length + zs.length ≤ sizeLine ∧ ∀ (p : Addr) (H1 : Hp), H p = none → Same H H1 → H1 p = some (.lst (xs ++ zs)) → Q (.ref p) H1
theorem op_catS : OpR X (binaryOp .Add) rCatS := OpR.imp op_cat fun x y H Q h => by
  obtain ⟨a, b, xs, ys, h1, h2, h3, h4, h5, h6⟩ := h
  exact ⟨a, b, xs, ys, h1, h2, h3, h4, h5, fun p hp => h6 p _ hp (same_new hp) upd_same⟩
end
end Cn
end
section
set_option Elab.async false
set_option linter.all false
set_option maxRecDepth 100000
set_option maxHeartbeats 4000000
namespace Cn
open PySem PySem.Spec PyProof.Rows L2
section
variable {X : Cx}
/-! ### an exception class without fields: C() -/
def tMkO0 (C : Addr) (sp : Sp) : L2.St → Hp → XK → Prop := fun _ H Q => ∀ a, H a = none → sp [.ref a] (upd H a (exo a C none)) (fun v H2 => v = .non ∧ H2 a = some (exo a C none) ∧ Q (.ref C) none (L2.del H2 a)) (fun _ _ _ => False)
theorem mk_end0n {pins : List (Addr × Obj)} {σ : L2.St} {H1 H2 : Hp} {hp hp2 h2 : Heap} {g1 g2 : Array GenState} {d1 d2 : Drawn} {t1 t2 : Nat} {os1 os2 : OsState} {a C : Addr} (I1 : Inv X pins σ H1 ⟨hp, g1, d1, t1, os1⟩)
    (ha : hp.objs.size ≤ a) (k : ∀ b o, hp.get? b = some o → hp2.get? b = some o) (un : Un (frs X.stack) [] (upd H1 a (exo a C none)) H2 hp2 h2) (hok : HOk X.prog X.w H2 h2) (ho : os2 = os1) (hb : AllBare g2)
    (ea : H2 a = some (exo a C none)) :
    ∃ (t0 : Addr) (G : Heap), Inv X pins σ (L2.del H2 a) ⟨G, g2, d2, t2, os2⟩ ∧ (∀ b o, G.get? b = some o → h2.get? b = some o) ∧ G.get? a = none ∧
      h2.get? a = some ({ cls := .ref C, dict := none, data := .fields #[.ref t0, .none, .none, .none, .bool false, .none] } : Obj) := by
  obtain ⟨t0, hoe⟩ := exo_at hok ea
  have hn : H1 a = none := I1.hok.fresh ha
  obtain ⟨G, g1', g2'⟩ := restrict h2 fun b => decide (b ≠ a)
  have gk : ∀ b, b ≠ a → G.get? b = h2.get? b := fun b hb => g1' b (decide_eq_true hb)
  have ge : G.get? a = none := g2' a (by simp)
  have nha : ∀ {b : Addr} {o : Obj}, hp.get? b = some o → b ≠ a := fun {b o} z => Nat.ne_of_lt (Nat.lt_of_lt_of_le (Heap.lt_size z) ha)
  have up : ∀ {b : Addr}, b ≠ a → H1 b = none → upd H1 a (exo a C none) b = none := fun {b} hb n => by rw [upd_ne hb]; exact n
  have U : Un (frs X.stack) [] H1 (L2.del H2 a) hp G := {
    keep := fun b o z n hf hx => by
      rw [gk b (nha z)]
      exact un.keep b o (k b o z) (up (nha z) n) hf hx
    slot := fun b o z n hf hx => by
      rw [gk b (nha z)]
      exact un.slot b o (k b o z) (up (nha z) n) hf hx
    free := fun b o z n hx => by
      rw [del_ne (nha z)]
      exact un.free b o (k b o z) (up (nha z) n) hx
    there := fun b o z hx => by
      rw [gk b (nha z)]
      exact un.there b o (k b o z) hx
    tups := fun b xs z => by
      rw [del_ne (ne_of_none z hn)]
      exact un.tups b xs (by rw [upd_ne (ne_of_none z hn)]; exact z)
    frzs := fun b o v z => by
      rw [del_ne (ne_of_none z hn)]
      exact un.frzs b o v (by rw [upd_ne (ne_of_none z hn)]; exact z)
    tbls := fun b ps z => by
      rw [del_ne (ne_of_none z hn)]
      exact un.tbls b ps (by rw [upd_ne (ne_of_none z hn)]; exact z) }
  have hok3 : HOk X.prog X.w (L2.del H2 a) G := fun b o z => by
    have hba : b ≠ a := fun e => by
      rw [e, del_same] at z
      cases z
    rw [del_ne hba] at z
    have noa : ∀ {c : Addr}, H2 c = some (.own b) → c ≠ a := fun {c} hc => at_ne ea hc exo_own
    exact (hok b o z).stay (fun c v hc y => by
        have hca : c ≠ a := by
          rcases hc with hc | hc
          · rw [hc]
            exact hba
          · exact noa hc
        rw [gk c hca]
        exact y)
      (fun c hc => by rw [del_ne (noa hc)]; exact hc) (fun c xs hc => by rw [del_ne (at_ne ea hc exo_tup)]; exact hc)
  have J : Inv X pins σ (L2.del H2 a) ⟨G, g2, d2, t2, os2⟩ := I1.call' (ch := []) ho U hok3 hb (fun b z => absurd z (by simp))
  refine ⟨t0, G, J, fun b o z => ?_, ge, hoe⟩
  by_cases hba : b = a
  · rw [hba, ge] at z
    cases z
  · exact (gk b hba).symm.trans z
theorem pmk_oex0N {x : Str} {C fI : Addr} {k : Nat} {fd : FuncData} {ps : List Str} {sp : Sp} {p pos : Pos} (T : OexC X.K C) (iC : PySem.W.findIn X.K (.ref C) "__init__" = some (some (.ref fI))) (tI : PySem.W.typeIn X.K (.ref fI) = some (.type "function"))
    (F1 : FnOk X.prog X.w X.K X.mg X.base CX0 k fI fd ps sp) (hr : Room (k + 1) X.A) (hb : Binds X.K fd ps []) (hg : Gl X x) (hm : X.mg x = some (.ref C)) (hdb : (x == ("__debug__" : Str)) = false := by decide) :
    L2N.PMk X (.Call (.Name x p) [] [] pos) (tMkO0 C sp) := by
  intro pins s σ H Q I h
  obtain ⟨nm, q, N, bs, bm, sn, sub, ab, col, dd, k0, k1, k2, k3, k5, hC, hbm⟩ := T.cls
  refine wpAny_Call_Name_kw (ld_glob I hg hm ?_ hdb)
  refine PySem.W.callWith_K0 I.kIn T.kC ?_
  show wpAny _ _ (call (.ref C) []) _ _ _
  obtain ⟨hp, g, dr, tk, os⟩ := s
  have hsz : hp.objs.size ≤ hp.objs.size + 1 := Nat.le_succ _
  have hn : H (hp.objs.size + 1) = none := I.hok.fresh hsz
  have hq := h (hp.objs.size + 1) hn
  have kk : ∀ b o, hp.get? b = some o → ((hp.push (PySem.W.kdv_tup [])).push (PySem.HandSPX.excO C hp.objs.size)).get? b = some o := fun b o e => Heap.get?_push_of_some _ (Heap.get?_push_of_some _ e)
  have hget : ((hp.push (PySem.W.kdv_tup [])).push (PySem.HandSPX.excO C hp.objs.size)).get? (hp.objs.size + 1) = some (PySem.HandSPX.excO C hp.objs.size) := by heap_get
  have I2 : Inv X pins σ (upd H (hp.objs.size + 1) (exo (hp.objs.size + 1) C none)) ⟨(hp.push (PySem.W.kdv_tup [])).push (PySem.HandSPX.excO C hp.objs.size), g, dr, tk, os⟩ :=
    I.laid (t' := tk) (a := hp.objs.size + 1) (o := exo (hp.objs.size + 1) C none) (h' := (hp.push (PySem.W.kdv_tup [])).push (PySem.HandSPX.excO C hp.objs.size)) kk hsz (exo_ok hget)
  have r2 : Vals [V.ref (hp.objs.size + 1)] [Value.ref (hp.objs.size + 1)] := .cons rfl .nil
  have hl : ([Value.ref (hp.objs.size + 1)] ++ []).length = ps.length := by
    have e := r2.length
    rw [F1.len _ _ _ _ hq] at e
    exact e.symm
  refine wpAny_call (PySem.HandSPX.call_own F.excBase_ValueError (fun Y => PySem.HandSPX.refsVE_contains Y bm hbm) (I.kIn _ _ hC) (PySem.W.looks_findIn I.kIn iC) (fun self => PySem.W.bind_fn I.kIn self tI) (Nat.zero_le _)
    (codeAny_mono (F1.run _ X.stack _ _ ⟨[Value.ref (hp.objs.size + 1)], []⟩ [Value.ref (hp.objs.size + 1)] _ _ (fun _ _ _ => False) (hr.make C [] []) (I2.env0.make C [] []) (hb _ [Value.ref (hp.objs.size + 1)] I2.kIn hl) r2 hq) fun r s' hq' => ?_))
  cases r with
  | error er => exact False.elim hq'
  | ok fl =>
    cases fl with
    | ret u =>
      obtain ⟨v, H2, os2, bare2, un2, hok2, rv, ev, ea, q2⟩ := hq'
      subst ev
      obtain ⟨h2, g2, d2, t2, os'⟩ := s'
      obtain ⟨t0, G, J, kG, ge, hoe⟩ := mk_end0n (d2 := d2) (t2 := t2) I hsz kk un2 hok2 os2 bare2 ea
      exact ⟨rv, hp.objs.size + 1, _, _, ⟨G, g2, d2, t2, os'⟩, _, .ref C, none, rfl, J, kG, ge, hoe, ⟨rfl, rfl, fun vs hv => by cases hv; rfl⟩, rfl, rfl, del_same, rfl, bare2, raises_own T.exC T.tyC, q2⟩
    | next => exact False.elim hq'
    | brk => exact False.elim hq'
    | cont => exact False.elim hq'
/-! ### the two classes of the program, told by their promises -/
def sp_ve0 (C : Addr) : Sp := fun vs H Q _ => ∃ a : Addr, vs = [.ref a] ∧ H a = some (exo a C none) ∧ Q .non H
def sp_ve1 (C : Addr) : Sp := fun vs H Q _ => ∃ (a : Addr) (n : Int), vs = [.ref a, .int n] ∧ H a = some (exo a C none) ∧ ∀ d, H d = none → d ≠ a → Q .non (upd (upd H d (exd d [("number", .int n)])) a (exo a C (some d)))
/-- raise C(): nothing is asked -/
structure GExc0 (P : Program) (w : World) (K : PySem.W.Frag) (mg : Str → Option Value) (base : Heap) (x : Str) (C : Addr) : Prop where
  oex : OexC K C
  gC : mg x = some (.ref C)
  te : PySem.W.exmOne K (.ref C) (.ref C) = some true
  ex : ∃ fI fd, PySem.W.findIn K (.ref C) "__init__" = some (some (.ref fI)) ∧ PySem.W.typeIn K (.ref fI) = some (.type "function") ∧ FnOk P w K mg base CX0 1 fI fd ["self"] (sp_ve0 C) ∧ Binds K fd ["self"] []
structure GExc1 (P : Program) (w : World) (K : PySem.W.Frag) (mg : Str → Option Value) (base : Heap) (x : Str) (C : Addr) : Prop where
  oex : OexC K C
  xf : XfC K C
  nn : PySem.W.findIn K (.ref C) "number" = some none
  gC : mg x = some (.ref C)
  te : PySem.W.exmOne K (.ref C) (.ref C) = some true
  ex : ∃ fI fd, PySem.W.findIn K (.ref C) "__init__" = some (some (.ref fI)) ∧ PySem.W.typeIn K (.ref fI) = some (.type "function") ∧ FnOk P w K mg base CX0 1 fI fd ["self", "number"] (sp_ve1 C) ∧ L2H.FnH P w K mg base CX0 1 fI fd ["self", "number"] (sp_ve1 C) ∧ Binds K fd ["self", "number"] []
theorem del_upd {H : Hp} {a : Addr} {o : HO} (h : H a = none) : L2.del (upd H a o) a = H := by
  funext b
  by_cases e : b = a
  · rw [e, del_same, h]
  · rw [del_ne e, upd_ne e]
theorem pmk_r0 {x : Str} {C : Addr} {p pos : Pos} (G : GExc0 X.prog X.w X.K X.mg X.base x C) (hr : Room 2 X.A) (hg : Gl X x) (hdb : (x == ("__debug__" : Str)) = false := by decide) :
    L2N.PMk X (.Call (.Name x p) [] [] pos) (fun _ H Q => Q (.ref C) none H) := by
  obtain ⟨fI, fd, h1, h2, h3, h4⟩ := G.ex
  intro pins s σ H Q I q
  refine pmk_oex0N G.oex h1 h2 h3 hr h4 hg G.gC hdb pins s σ H Q I fun a ha => ⟨a, rfl, upd_same, rfl, upd_same, ?_⟩
  rw [del_upd ha]
  exact q
/-- arguments, what they give told once more -/
theorem PA.weak {es : List Expr} {t : TA} (h : PA X es t) : PA X es (fun σ H Q => ∃ R : List V → Hp → Prop, t σ H R ∧ ∀ vs H1, R vs H1 → Q vs H1) := ⟨fun pos pins s σ H Q I q => by
  obtain ⟨R, h1, h2⟩ := q
  exact thn (h.run pos pins s σ H R I h1) fun us s1 ⟨vs, H1, I1, r, q1⟩ => ⟨vs, H1, I1, r, h2 _ _ q1⟩⟩
/-- raise C(number): a new dict holds it -/
def tRf (C : Addr) (ta : TA) : L2.St → Hp → XK → Prop := fun σ H Q => ta σ H fun vs H1 => ∃ n : Int, vs = [.int n] ∧ ∀ (d : Addr) (H' : Hp), Same H1 H' → H1 d = none → H' d = some (.xd [("number", .int n)]) → Q (.ref C) (some d) H'
theorem rf_ok {C : Addr} {ta : TA} {σ : L2.St} {H : Hp} {Q : XK} (h : tRf C ta σ H Q) : tMkO C (sp_ve1 C) [] (fun σ H Q => ∃ R : List V → Hp → Prop, ta σ H R ∧ ∀ vs H1, R vs H1 → Q vs H1) σ H Q := by
  refine ⟨_, h, fun vs H1 q => ?_⟩
  obtain ⟨n, rfl, q⟩ := q
  refine ⟨by show 1 ≤ 1000; decide, fun a ha => ⟨a, n, rfl, upd_same, fun d hd hda => ?_⟩⟩
  have hd1 : H1 d = none := by
    rw [upd_ne hda] at hd
    exact hd
  refine ⟨rfl, d, _, upd_same, by rw [upd_ne hda]; exact upd_same, hd1, ?_⟩
  refine q d _ (fun b o e => ?_) hd1 upd_same
  rw [upd_ne (ne_of_none e hd1), del_ne (ne_of_none e ha), upd_ne (ne_of_none e ha), upd_ne (ne_of_none e hd1), upd_ne (ne_of_none e ha)]
  exact e
theorem pmk_r1 {x : Str} {C : Addr} {p pos : Pos} {e : Expr} {es : List Expr} {ta : TA} (G : GExc1 X.prog X.w X.K X.mg X.base x C) (hr : Room 2 X.A) (hg : Gl X x) (ha : PA X (e :: es) ta)
    (hdb : (x == ("__debug__" : Str)) = false := by decide) (he : starEach (e :: es) X.env = (false, eval e X.env) :: starEach es X.env := by rfl) (hpl : (backTo pos (starEach es X.env)).any (·.1) = false := by rfl) :
    PMk X (.Call (.Name x p) (e :: es) [] pos) (tRf C ta) := by
  obtain ⟨fI, fd, h1, h2, h3, _, h4⟩ := G.ex
  intro pins s σ H Q I q
  exact pmk_oex G.oex h1 h2 h3 hr h4 .nil pass0 hg G.gC (PA.weak ha) hdb he hpl pins s σ H Q I (rf_ok q)
theorem pmk_r1H {x : Str} {C : Addr} {p pos : Pos} {e : Expr} {es : List Expr} {ta : TA} (G : GExc1 X.prog X.w X.K X.mg X.base x C) (hr : L2H.RoomH 2 X.A) (hc : L2H.HotC X) (hg : Gl X x) (ha : PA X (e :: es) ta)
    (hdb : (x == ("__debug__" : Str)) = false := by decide) (he : starEach (e :: es) X.env = (false, eval e X.env) :: starEach es X.env := by rfl) (hpl : (backTo pos (starEach es X.env)).any (·.1) = false := by rfl) :
    L2N.PMk X (.Call (.Name x p) (e :: es) [] pos) (tRf C ta) := by
  obtain ⟨fI, fd, h1, h2, _, h3, h4⟩ := G.ex
  intro pins s σ H Q I q
  exact (L2H.pmk5_oexH G.oex h1 h2 h3 hr hc h4 pass0 hg G.gC (PA.weak ha) hdb he hpl).pmk pins s σ H Q I (rf_ok q)
/-- o.m(e, ..) within a try -/
def tGMS (C : Addr) (m : Str) (sp : Sp) (E : L2.St → XK) (ta : TE) (t : TA) : TE := fun σ H Q => ta σ H fun x H1 => ∃ a dx fs, x = .ref a ∧ H1 a = some (.ins C dx fs) ∧ fs.lookup m = none ∧ t σ H1 fun vs H2 => sp (x :: vs) H2 Q (E σ)
theorem pe_gmS {CX : CXT} {k : Nat} {C : Addr} {ps : List Str} {sp : Sp} {E : L2.St → XK} {m : Str} {pos apos : Pos} {e o : Expr} {es : List Expr} {ta : TE} {t : TA} {pl : Sem Bool} (he : PE X o ta) (c : Cls X.K C) (G : GMeth X.prog X.w X.K X.mg X.base CX k C m ps sp)
    (hr : Room k X.A) (hx : ∀ σ, PassesAt CX X σ (E σ)) (ha : PA X (e :: es) t)
    (hst : starEach (e :: es) X.env = (false, eval e X.env) :: starEach es X.env := by rfl) (hpl : (backTo pos (starEach es X.env)).any (·.1) = false := by rfl)
    (ht : eval (.Call (.Attribute o m apos) (e :: es) [] pos) X.env = (do
      let ov ← eval o X.env
      standAt apos.atName
      let (f, first) ← holding [ov] (getMethod ov m pl)
      callWith pos f first (backTo pos (starEach (e :: es) X.env)) (backToKw pos (keywordEach [] X.env))) := by rfl) :
    PE X (.Call (.Attribute o m apos) (e :: es) [] pos) (tGMS C m sp E ta t) := by
  obtain ⟨f, fd, hm, F, hb⟩ := G
  refine ⟨fun pins s σ H Q I h => ?_⟩
  refine PySem.W.methodCall_KW (pl := pl) (thn (he.run pins s σ H _ I h) fun u s1 ⟨x, H1, I1, rx, a, dx, fs, ex, ea, l, q⟩ => ?_) ht
  subst ex
  obtain rfl : u = Value.ref a := rx
  refine getmeth_ok I1 ea c hm l ?_
  refine PySem.W.callWith_K (first := [.ref a]) (h₀ := X.base) I.ok.mod.kin hm.kp (thn (ha.run pos pins s1 σ H1 _ I1 q) fun us s2 ⟨vs, H2, I2, r, q2⟩ => ⟨I2.kIn, ?_⟩) hst hpl
  exact run_fnS (us := .ref a :: us) (vs := .ref a :: vs) F hr hb (hx σ) I2 (.cons rfl r) q2
end
/-- a def that may raise where nothing is handled before -/
theorem Fun.okN {P : Program} {w : World} {K : PySem.W.Frag} {mg : Str → Option Value} {base : Heap} {x qual : Str} {st : Stmt} {f : Addr} {fd : FuncData} {N ps : List Str} {k : Nat} {sp : Sp} (F : L2.Fun K x qual st f fd) (S : FnScope N ps (defScope st)) (len : ∀ vs H Q E, sp vs H Q E → vs.length = ps.length)
    (hbody : ∀ (cdv : Value) (A : Around) (outer : List Env) (s : Shared) (H : Hp) (vs : List V) (Q : VK) (E : XK), Room k (A.deeper (envOfC qual (defScope st) s.heap.objs.size f cdv)) → sp vs H Q E →
      ∃ t, PSs (cxOf (L2N.CX P w) P w K mg base N qual (defScope st) f cdv A outer s H E) (defBody st) t ∧ t { nx := fun _ H' => Q .non H', rt := Q } (start N vs) H) : FnOk P w K mg base (L2N.CX P w) (k + 1) f fd ps sp := by
  obtain ⟨oc, od, kV, doc, pm, an, cdv, ct, osl, rfl, lk, hcd⟩ := F.ex
  exact fn_of lk hcd S len fun A outer s H vs Q E hr hsp => hbody cdv A outer s H vs Q E hr hsp
/-- a def within an except suite -/
theorem Fun.okH {P : Program} {w : World} {K : PySem.W.Frag} {mg : Str → Option Value} {base : Heap} {x qual : Str} {st : Stmt} {f : Addr} {fd : FuncData} {N ps : List Str} {k : Nat} {sp : Sp} (F : L2.Fun K x qual st f fd) (S : FnScope N ps (defScope st)) (len : ∀ vs H Q E, sp vs H Q E → vs.length = ps.length)
    (hbody : ∀ (cdv : Value) (A : Around) (outer : List Env) (s : Shared) (H : Hp) (vs : List V) (Q : VK) (E : XK) (p : Addr × Obj), L2H.Hot1 A p → L2H.RoomH k (A.deeper (envOfC qual (defScope st) s.heap.objs.size f cdv)) → sp vs H Q E →
      ∃ t, PSs (L2H.cxH CX0 P w K mg base N qual (defScope st) f cdv A outer s H E p) (defBody st) t ∧ t { nx := fun _ H' => Q .non H', rt := Q } (start N vs) H) : L2H.FnH P w K mg base CX0 (k + 1) f fd ps sp := by
  obtain ⟨oc, od, kV, doc, pm, an, cdv, ct, osl, rfl, lk, hcd⟩ := F.ex
  exact L2H.fn_ofH lk hcd S len fun A outer s H vs Q E p hp hr hsp => hbody cdv A outer s H vs Q E p hp hr hsp
end Cn
end
section
set_option Elab.async false
set_option linter.all false
set_option maxRecDepth 100000
set_option maxHeartbeats 4000000
namespace Cn
open PySem PySem.Spec PyProof.Rows L2
/-! ### the text by places -/
def top (i : Nat) : Stmt := PySem.Challenge.pw_canallocks_s01_answers.main.body.getD i (.Pass ⟨0, 0, 0, 0⟩)
abbrev s_Canal___init__ : Stmt := inClass (top 8) 0
theorem sc_Canal___init__ : FnScope ["self", "pounds", "locks", "one"] ["self", "pounds", "locks"] (defScope s_Canal___init__) := ⟨rfl, rfl, rfl, by decide +kernel, rfl, by decide +kernel, by decide +kernel⟩
abbrev s_Canal_many_pounds : Stmt := inClass (top 8) 1
theorem sc_Canal_many_pounds : FnScope ["self"] ["self"] (defScope s_Canal_many_pounds) := ⟨rfl, rfl, rfl, by decide +kernel, rfl, by decide +kernel, by decide +kernel⟩
abbrev s_Canal_many_locks : Stmt := inClass (top 8) 2
theorem sc_Canal_many_locks : FnScope ["self"] ["self"] (defScope s_Canal_many_locks) := ⟨rfl, rfl, rfl, by decide +kernel, rfl, by decide +kernel, by decide +kernel⟩
abbrev s_in_threes : Stmt := top 9
theorem sc_in_threes : FnScope ["row", "at"] ["row"] (defScope s_in_threes) := ⟨rfl, rfl, rfl, by decide +kernel, rfl, by decide +kernel, by decide +kernel⟩
abbrev s_is_pound : Stmt := top 10
theorem sc_is_pound : FnScope ["least", "most", "water"] ["least", "most", "water"] (defScope s_is_pound) := ⟨rfl, rfl, rfl, by decide +kernel, rfl, by decide +kernel, by decide +kernel⟩
abbrev s_is_lock : Stmt := top 11
theorem sc_is_lock : FnScope ["volume", "room", "full"] ["volume", "room", "full"] (defScope s_is_lock) := ⟨rfl, rfl, rfl, by decide +kernel, rfl, by decide +kernel, by decide +kernel⟩
abbrev s_are_canal : Stmt := top 12
theorem sc_are_canal : FnScope ["pounds", "locks", "are_pounds", "least", "most", "water", "volume", "room", "full"] ["pounds", "locks"] (defScope s_are_canal) := ⟨rfl, rfl, rfl, by decide +kernel, rfl, by decide +kernel, by decide +kernel⟩
abbrev s_first_stand : Stmt := top 13
theorem sc_first_stand : FnScope ["pounds", "locks", "waters", "least", "most", "water", "volume", "room", "full"] ["pounds", "locks"] (defScope s_first_stand) := ⟨rfl, rfl, rfl, by decide +kernel, rfl, by decide +kernel, by decide +kernel⟩
abbrev s_poured : Stmt := top 14
theorem sc_poured : FnScope ["canal", "waters", "at", "amount", "found", "left", "k", "stays"] ["canal", "waters", "at", "amount"] (defScope s_poured) := ⟨rfl, rfl, rfl, by decide +kernel, rfl, by decide +kernel, by decide +kernel⟩
abbrev s_with_one : Stmt := top 15
theorem sc_with_one : FnScope ["row", "at", "one"] ["row", "at", "one"] (defScope s_with_one) := ⟨rfl, rfl, rfl, by decide +kernel, rfl, by decide +kernel, by decide +kernel⟩
abbrev s_in_pound : Stmt := top 16
theorem sc_in_pound : FnScope ["number"] ["number"] (defScope s_in_pound) := ⟨rfl, rfl, rfl, by decide +kernel, rfl, by decide +kernel, by decide +kernel⟩
abbrev s_in_lock : Stmt := top 17
theorem sc_in_lock : FnScope ["number"] ["number"] (defScope s_in_lock) := ⟨rfl, rfl, rfl, by decide +kernel, rfl, by decide +kernel, by decide +kernel⟩
abbrev s_is_in_pound : Stmt := top 18
theorem sc_is_in_pound : FnScope ["place"] ["place"] (defScope s_is_in_pound) := ⟨rfl, rfl, rfl, by decide +kernel, rfl, by decide +kernel, by decide +kernel⟩
abbrev s_is_in_lock : Stmt := top 19
theorem sc_is_in_lock : FnScope ["place"] ["place"] (defScope s_is_in_lock) := ⟨rfl, rfl, rfl, by decide +kernel, rfl, by decide +kernel, by decide +kernel⟩
abbrev s_all_water : Stmt := top 20
theorem sc_all_water : FnScope ["canal", "stand", "waters", "fulls", "boats", "i", "full"] ["canal", "stand"] (defScope s_all_water) := ⟨rfl, rfl, rfl, by decide +kernel, rfl, by decide +kernel, by decide +kernel⟩
abbrev s_has_enough : Stmt := top 30
theorem sc_has_enough : FnScope ["canal", "waters", "i"] ["canal", "waters", "i"] (defScope s_has_enough) := ⟨rfl, rfl, rfl, by decide +kernel, rfl, by decide +kernel, by decide +kernel⟩
abbrev s_is_level : Stmt := top 31
theorem sc_is_level : FnScope ["fulls", "lock", "pound"] ["fulls", "lock", "pound"] (defScope s_is_level) := ⟨rfl, rfl, rfl, by decide +kernel, rfl, by decide +kernel, by decide +kernel⟩
abbrev s_has_room : Stmt := top 32
theorem sc_has_room : FnScope ["canal", "boats", "lock"] ["canal", "boats", "lock"] (defScope s_has_room) := ⟨rfl, rfl, rfl, by decide +kernel, rfl, by decide +kernel, by decide +kernel⟩
abbrev s_why_not_fill : Stmt := top 33
theorem sc_why_not_fill : FnScope ["canal", "stand", "i", "waters", "fulls", "boats"] ["canal", "stand", "i"] (defScope s_why_not_fill) := ⟨rfl, rfl, rfl, by decide +kernel, rfl, by decide +kernel, by decide +kernel⟩
abbrev s_why_not_empty : Stmt := top 34
theorem sc_why_not_empty : FnScope ["canal", "stand", "i", "waters", "fulls", "boats"] ["canal", "stand", "i"] (defScope s_why_not_empty) := ⟨rfl, rfl, rfl, by decide +kernel, rfl, by decide +kernel, by decide +kernel⟩
abbrev s_is_boat : Stmt := top 35
theorem sc_is_boat : FnScope ["boats", "boat"] ["boats", "boat"] (defScope s_is_boat) := ⟨rfl, rfl, rfl, by decide +kernel, rfl, by decide +kernel, by decide +kernel⟩
abbrev s_why_not_enter : Stmt := top 36
theorem sc_why_not_enter : FnScope ["canal", "stand", "boat", "lock", "waters", "fulls", "boats"] ["canal", "stand", "boat", "lock"] (defScope s_why_not_enter) := ⟨rfl, rfl, rfl, by decide +kernel, rfl, by decide +kernel, by decide +kernel⟩
abbrev s_why_not_leave : Stmt := top 37
theorem sc_why_not_leave : FnScope ["stand", "boat", "waters", "fulls", "boats"] ["stand", "boat"] (defScope s_why_not_leave) := ⟨rfl, rfl, rfl, by decide +kernel, rfl, by decide +kernel, by decide +kernel⟩
abbrev s_why_not : Stmt := top 38
theorem sc_why_not : FnScope ["canal", "stand", "operation", "kind", "a", "b"] ["canal", "stand", "operation"] (defScope s_why_not) := ⟨rfl, rfl, rfl, by decide +kernel, rfl, by decide +kernel, by decide +kernel⟩
abbrev s_left_for : Stmt := top 39
theorem sc_left_for : FnScope ["fulls", "lock"] ["fulls", "lock"] (defScope s_left_for) := ⟨rfl, rfl, rfl, by decide +kernel, rfl, by decide +kernel, by decide +kernel⟩
abbrev s_behind : Stmt := top 40
theorem sc_behind : FnScope ["canal", "stand", "operation", "kind", "a", "b", "waters", "fulls", "boats", "more", "left"] ["canal", "stand", "operation"] (defScope s_behind) := ⟨rfl, rfl, rfl, by decide +kernel, rfl, by decide +kernel, by decide +kernel⟩
abbrev s_entering : Stmt := top 41
theorem sc_entering : FnScope ["canal", "stand", "waters", "fulls", "boats", "found", "boat", "place", "pound", "lock"] ["canal", "stand"] (defScope s_entering) := ⟨rfl, rfl, rfl, by decide +kernel, rfl, by decide +kernel, by decide +kernel⟩
abbrev s_all_that_can : Stmt := top 42
theorem sc_all_that_can : FnScope ["canal", "stand", "waters", "fulls", "boats", "found", "i", "full", "boat", "place"] ["canal", "stand"] (defScope s_all_that_can) := ⟨rfl, rfl, rfl, by decide +kernel, rfl, by decide +kernel, by decide +kernel⟩
abbrev s_TooMany___init__ : Stmt := inClass (top 45) 0
theorem sc_TooMany___init__ : FnScope ["self"] ["self"] (defScope s_TooMany___init__) := ⟨rfl, rfl, rfl, by decide +kernel, rfl, by decide +kernel, by decide +kernel⟩
abbrev s_is_wanted : Stmt := top 46
theorem sc_is_wanted : FnScope ["stand", "wanted", "waters", "fulls", "boats", "one", "place"] ["stand", "wanted"] (defScope s_is_wanted) := ⟨rfl, rfl, rfl, by decide +kernel, rfl, by decide +kernel, by decide +kernel⟩
abbrev s_used_by : Stmt := top 47
theorem sc_used_by : FnScope ["canal", "operation", "by_water"] ["canal", "operation", "by_water"] (defScope s_used_by) := ⟨rfl, rfl, rfl, by decide +kernel, rfl, by decide +kernel, by decide +kernel⟩
abbrev s_Search___init__ : Stmt := inClass (top 48) 0
theorem sc_Search___init__ : FnScope ["self", "canal", "by_water"] ["self", "canal", "by_water"] (defScope s_Search___init__) := ⟨rfl, rfl, rfl, by decide +kernel, rfl, by decide +kernel, by decide +kernel⟩
abbrev s_Search_wait : Stmt := inClass (top 48) 1
theorem sc_Search_wait : FnScope ["self", "used", "row", "stand"] ["self", "used", "row", "stand"] (defScope s_Search_wait) := ⟨rfl, rfl, rfl, by decide +kernel, rfl, by decide +kernel, by decide +kernel⟩
abbrev s_Search_go_on : Stmt := inClass (top 48) 2
theorem sc_Search_go_on : FnScope ["self", "used", "row", "stand", "operation", "other", "left"] ["self", "used", "row", "stand"] (defScope s_Search_go_on) := ⟨rfl, rfl, rfl, by decide +kernel, rfl, by decide +kernel, by decide +kernel⟩
abbrev s_Search_settle : Stmt := inClass (top 48) 3
theorem sc_Search_settle : FnScope ["self", "used", "row", "stand"] ["self", "used", "row", "stand"] (defScope s_Search_settle) := ⟨rfl, rfl, rfl, by decide +kernel, rfl, by decide +kernel, by decide +kernel⟩
abbrev s_Search_plan : Stmt := inClass (top 48) 4
theorem sc_Search_plan : FnScope ["self", "stand", "wanted", "key", "row", "here"] ["self", "stand", "wanted"] (defScope s_Search_plan) := ⟨rfl, rfl, rfl, by decide +kernel, rfl, by decide +kernel, by decide +kernel⟩
abbrev s_Refused___init__ : Stmt := inClass (top 59) 0
theorem sc_Refused___init__ : FnScope ["self", "number"] ["self", "number"] (defScope s_Refused___init__) := ⟨rfl, rfl, rfl, by decide +kernel, rfl, by decide +kernel, by decide +kernel⟩
abbrev s_want : Stmt := top 60
theorem sc_want : FnScope ["is_so", "number"] ["is_so", "number"] (defScope s_want) := ⟨rfl, rfl, rfl, by decide +kernel, rfl, by decide +kernel, by decide +kernel⟩
abbrev s_flattened : Stmt := top 61
theorem sc_flattened : FnScope ["operations", "found", "operation"] ["operations"] (defScope s_flattened) := ⟨rfl, rfl, rfl, by decide +kernel, rfl, by decide +kernel, by decide +kernel⟩
abbrev s_Desk___init__ : Stmt := inClass (top 62) 0
theorem sc_Desk___init__ : FnScope ["self"] ["self"] (defScope s_Desk___init__) := ⟨rfl, rfl, rfl, by decide +kernel, rfl, by decide +kernel, by decide +kernel⟩
abbrev s_Desk_begin : Stmt := inClass (top 62) 1
theorem sc_Desk_begin : FnScope ["self", "pounds", "locks", "some", "others"] ["self", "pounds", "locks"] (defScope s_Desk_begin) := ⟨rfl, rfl, rfl, by decide +kernel, rfl, by decide +kernel, by decide +kernel⟩
abbrev s_Desk_place_of : Stmt := inClass (top 62) 2
theorem sc_Desk_place_of : FnScope ["self", "boat"] ["self", "boat"] (defScope s_Desk_place_of) := ⟨rfl, rfl, rfl, by decide +kernel, rfl, by decide +kernel, by decide +kernel⟩
abbrev s_Desk_put_boat : Stmt := inClass (top 62) 3
theorem sc_Desk_put_boat : FnScope ["self", "boat", "place", "waters", "fulls", "boats"] ["self", "boat", "place"] (defScope s_Desk_put_boat) := ⟨rfl, rfl, rfl, by decide +kernel, rfl, by decide +kernel, by decide +kernel⟩
abbrev s_Desk_boat : Stmt := inClass (top 62) 4
theorem sc_Desk_boat : FnScope ["self", "boat", "pound"] ["self", "boat", "pound"] (defScope s_Desk_boat) := ⟨rfl, rfl, rfl, by decide +kernel, rfl, by decide +kernel, by decide +kernel⟩
abbrev s_Desk_lift : Stmt := inClass (top 62) 5
theorem sc_Desk_lift : FnScope ["self", "boat", "place"] ["self", "boat"] (defScope s_Desk_lift) := ⟨rfl, rfl, rfl, by decide +kernel, rfl, by decide +kernel, by decide +kernel⟩
abbrev s_Desk_do_one : Stmt := inClass (top 62) 6
theorem sc_Desk_do_one : FnScope ["self", "operation", "why", "left"] ["self", "operation"] (defScope s_Desk_do_one) := ⟨rfl, rfl, rfl, by decide +kernel, rfl, by decide +kernel, by decide +kernel⟩
abbrev s_Desk_feed : Stmt := inClass (top 62) 7
theorem sc_Desk_feed : FnScope ["self", "water", "waters", "fulls", "boats", "more", "left"] ["self", "water"] (defScope s_Desk_feed) := ⟨rfl, rfl, rfl, by decide +kernel, rfl, by decide +kernel, by decide +kernel⟩
abbrev s_Desk_pound : Stmt := inClass (top 62) 8
theorem sc_Desk_pound : FnScope ["self", "number"] ["self", "number"] (defScope s_Desk_pound) := ⟨rfl, rfl, rfl, by decide +kernel, rfl, by decide +kernel, by decide +kernel⟩
abbrev s_Desk_lock : Stmt := inClass (top 62) 9
theorem sc_Desk_lock : FnScope ["self", "number", "boats", "place"] ["self", "number"] (defScope s_Desk_lock) := ⟨rfl, rfl, rfl, by decide +kernel, rfl, by decide +kernel, by decide +kernel⟩
abbrev s_Desk_where : Stmt := inClass (top 62) 10
theorem sc_Desk_where : FnScope ["self", "boat", "place"] ["self", "boat"] (defScope s_Desk_where) := ⟨rfl, rfl, rfl, by decide +kernel, rfl, by decide +kernel, by decide +kernel⟩
abbrev s_Desk_plan : Stmt := inClass (top 62) 11
theorem sc_Desk_plan : FnScope ["self", "how", "wanted", "found", "used", "row"] ["self", "how", "wanted"] (defScope s_Desk_plan) := ⟨rfl, rfl, rfl, by decide +kernel, rfl, by decide +kernel, by decide +kernel⟩
abbrev s_Desk_run : Stmt := inClass (top 62) 12
theorem sc_Desk_run : FnScope ["self", "numbers", "many", "operation"] ["self", "numbers"] (defScope s_Desk_run) := ⟨rfl, rfl, rfl, by decide +kernel, rfl, by decide +kernel, by decide +kernel⟩
abbrev s_Desk_told : Stmt := inClass (top 62) 13
theorem sc_Desk_told : FnScope ["self", "place", "numbers", "some"] ["self", "place", "numbers"] (defScope s_Desk_told) := ⟨rfl, rfl, rfl, by decide +kernel, rfl, by decide +kernel, by decide +kernel⟩
abbrev s_Desk_done : Stmt := inClass (top 62) 14
theorem sc_Desk_done : FnScope ["self", "place", "numbers", "rows"] ["self", "place", "numbers", "rows"] (defScope s_Desk_done) := ⟨rfl, rfl, rfl, by decide +kernel, rfl, by decide +kernel, by decide +kernel⟩
abbrev s_Desk_answer : Stmt := inClass (top 62) 15
theorem sc_Desk_answer : FnScope ["self", "place", "numbers", "rows", "e"] ["self", "place", "numbers", "rows"] (defScope s_Desk_answer) := ⟨rfl, rfl, rfl, by decide +kernel, rfl, by decide +kernel, by decide +kernel⟩
abbrev s_rows_at : Stmt := top 63
theorem sc_rows_at : FnScope ["calls", "at", "many", "found", "k", "end"] ["calls", "at", "many"] (defScope s_rows_at) := ⟨rfl, rfl, rfl, by decide +kernel, rfl, by decide +kernel, by decide +kernel⟩
abbrev s_answers : Stmt := top 64
theorem sc_answers : FnScope ["calls", "desk", "found", "at", "place", "begin", "numbers", "rows", "answer"] ["calls"] (defScope s_answers) := ⟨rfl, rfl, rfl, by decide +kernel, rfl, by decide +kernel, by decide +kernel⟩
structure Ad where
  Canal : Addr
  Search : Addr
  Desk : Addr
  Refused : Addr
  TooMany : Addr
structure Txt (K : PySem.W.Frag) (mg : Str → Option Value) (A : Ad) : Prop where
  b_ValueError : mg "ValueError" = none
  b_all : mg "all" = none
  b_enumerate : mg "enumerate" = none
  b_int : mg "int" = none
  b_len : mg "len" = none
  b_list : mg "list" = none
  b_max : mg "max" = none
  b_min : mg "min" = none
  b_range : mg "range" = none
  b_sorted : mg "sorted" = none
  b_sum : mg "sum" = none
  b_tuple : mg "tuple" = none
  b_zip : mg "zip" = none
  c_BOATS : ∃ t, mg "BOATS" = some (.int (4) t)
  c_AWAY : ∃ t, mg "AWAY" = some (.int (-1) t)
  c_LEAST_POUNDS : ∃ t, mg "LEAST_POUNDS" = some (.int (2) t)
  c_MOST_POUNDS : ∃ t, mg "MOST_POUNDS" = some (.int (6) t)
  c_MOST_WATER : ∃ t, mg "MOST_WATER" = some (.int (1000) t)
  c_MOST_VOLUME : ∃ t, mg "MOST_VOLUME" = some (.int (100) t)
  c_MOST_ROOM : ∃ t, mg "MOST_ROOM" = some (.int (4) t)
  c_FILL : ∃ t, mg "FILL" = some (.int (0) t)
  c_EMPTY : ∃ t, mg "EMPTY" = some (.int (1) t)
  c_ENTER : ∃ t, mg "ENTER" = some (.int (2) t)
  c_LEAVE : ∃ t, mg "LEAVE" = some (.int (3) t)
  c_NOT_ENOUGH : ∃ t, mg "NOT_ENOUGH" = some (.int (-2) t)
  c_NOT_SO_operations : ∃ t, mg "NOT_SO_operations" = some (.int (-3) t)
  c_NONE_SUCH_operations : ∃ t, mg "NONE_SUCH_operations" = some (.int (-4) t)
  c_NO_ROOM : ∃ t, mg "NO_ROOM" = some (.int (-5) t)
  c_MOST_STANDS : ∃ t, mg "MOST_STANDS" = some (.int (4000) t)
  c_BAD : ∃ t, mg "BAD" = some (.int (-1) t)
  c_NOT_SO_canal : ∃ t, mg "NOT_SO_canal" = some (.int (-3) t)
  c_NONE_SUCH_canal : ∃ t, mg "NONE_SUCH_canal" = some (.int (-4) t)
  c_THERE_ALREADY : ∃ t, mg "THERE_ALREADY" = some (.int (-5) t)
  c_TOO_FAR : ∃ t, mg "TOO_FAR" = some (.int (-8) t)
  c_MOST_FEED : ∃ t, mg "MOST_FEED" = some (.int (10000) t)
  c_MOST_RUN : ∃ t, mg "MOST_RUN" = some (.int (100) t)
  cl_Canal : Cls K A.Canal
  g_Canal : mg "Canal" = some (.ref A.Canal)
  cl_Search : Cls K A.Search
  g_Search : mg "Search" = some (.ref A.Search)
  cl_Desk : Cls K A.Desk
  g_Desk : mg "Desk" = some (.ref A.Desk)
  n_Canal_least : NoAttr K A.Canal "least"
  n_Canal_most : NoAttr K A.Canal "most"
  n_Canal_volumes : NoAttr K A.Canal "volumes"
  n_Canal_rooms : NoAttr K A.Canal "rooms"
  n_Desk_canal : NoAttr K A.Desk "canal"
  n_Desk_stand : NoAttr K A.Desk "stand"
  n_Desk_left : NoAttr K A.Desk "left"
  n_Desk_come : NoAttr K A.Desk "come"
  n_Search_canal : NoAttr K A.Search "canal"
  n_Search_by_water : NoAttr K A.Search "by_water"
  n_Search_settled : NoAttr K A.Search "settled"
  n_Search_waiting : NoAttr K A.Search "waiting"
  t_Canal___init__ : TInit K mg "Canal" A.Canal "Canal.__init__" s_Canal___init__
  t_Canal_many_pounds : TMeth K A.Canal "many_pounds" "Canal.many_pounds" s_Canal_many_pounds
  t_Canal_many_locks : TMeth K A.Canal "many_locks" "Canal.many_locks" s_Canal_many_locks
  t_in_threes : TDef K mg "in_threes" s_in_threes
  t_is_pound : TDef K mg "is_pound" s_is_pound
  t_is_lock : TDef K mg "is_lock" s_is_lock
  t_are_canal : TDef K mg "are_canal" s_are_canal
  t_first_stand : TDef K mg "first_stand" s_first_stand
  t_poured : TDef K mg "poured" s_poured
  t_with_one : TDef K mg "with_one" s_with_one
  t_in_pound : TDef K mg "in_pound" s_in_pound
  t_in_lock : TDef K mg "in_lock" s_in_lock
  t_is_in_pound : TDef K mg "is_in_pound" s_is_in_pound
  t_is_in_lock : TDef K mg "is_in_lock" s_is_in_lock
  t_all_water : TDef K mg "all_water" s_all_water
  t_has_enough : TDef K mg "has_enough" s_has_enough
  t_is_level : TDef K mg "is_level" s_is_level
  t_has_room : TDef K mg "has_room" s_has_room
  t_why_not_fill : TDef K mg "why_not_fill" s_why_not_fill
  t_why_not_empty : TDef K mg "why_not_empty" s_why_not_empty
  t_is_boat : TDef K mg "is_boat" s_is_boat
  t_why_not_enter : TDef K mg "why_not_enter" s_why_not_enter
  t_why_not_leave : TDef K mg "why_not_leave" s_why_not_leave
  t_why_not : TDef K mg "why_not" s_why_not
  t_left_for : TDef K mg "left_for" s_left_for
  t_behind : TDef K mg "behind" s_behind
  t_entering : TDef K mg "entering" s_entering
  t_all_that_can : TDef K mg "all_that_can" s_all_that_can
  t_is_wanted : TDef K mg "is_wanted" s_is_wanted
  t_used_by : TDef K mg "used_by" s_used_by
  t_Search___init__ : TInit K mg "Search" A.Search "Search.__init__" s_Search___init__
  t_Search_wait : TMeth K A.Search "wait" "Search.wait" s_Search_wait
  t_Search_go_on : TMeth K A.Search "go_on" "Search.go_on" s_Search_go_on
  t_Search_settle : TMeth K A.Search "settle" "Search.settle" s_Search_settle
  t_Search_plan : TMeth K A.Search "plan" "Search.plan" s_Search_plan
  t_want : TDef K mg "want" s_want
  t_flattened : TDef K mg "flattened" s_flattened
  t_Desk___init__ : TInit K mg "Desk" A.Desk "Desk.__init__" s_Desk___init__
  t_Desk_begin : TMeth K A.Desk "begin" "Desk.begin" s_Desk_begin
  t_Desk_place_of : TMeth K A.Desk "place_of" "Desk.place_of" s_Desk_place_of
  t_Desk_put_boat : TMeth K A.Desk "put_boat" "Desk.put_boat" s_Desk_put_boat
  t_Desk_boat : TMeth K A.Desk "boat" "Desk.boat" s_Desk_boat
  t_Desk_lift : TMeth K A.Desk "lift" "Desk.lift" s_Desk_lift
  t_Desk_do_one : TMeth K A.Desk "do_one" "Desk.do_one" s_Desk_do_one
  t_Desk_feed : TMeth K A.Desk "feed" "Desk.feed" s_Desk_feed
  t_Desk_pound : TMeth K A.Desk "pound" "Desk.pound" s_Desk_pound
  t_Desk_lock : TMeth K A.Desk "lock" "Desk.lock" s_Desk_lock
  t_Desk_where : TMeth K A.Desk "where" "Desk.where" s_Desk_where
  t_Desk_plan : TMeth K A.Desk "plan" "Desk.plan" s_Desk_plan
  t_Desk_run : TMeth K A.Desk "run" "Desk.run" s_Desk_run
  t_Desk_told : TMeth K A.Desk "told" "Desk.told" s_Desk_told
  t_Desk_done : TMeth K A.Desk "done" "Desk.done" s_Desk_done
  t_Desk_answer : TMeth K A.Desk "answer" "Desk.answer" s_Desk_answer
  t_rows_at : TDef K mg "rows_at" s_rows_at
  t_answers : TDef K mg "answers" s_answers
/-! ### a comprehension whose turns leave all that stands -/
section
variable {J : It} {n : Nat} {G : Hp → Prop} {Y : Nat → Hp → V → Hp → Prop}
theorem range_fm {α : Type} (f : Nat → Option α) (i : Nat) : (List.range (i + 1)).filterMap f = (List.range i).filterMap f ++ (f i).toList := by
  rw [List.range_succ, List.filterMap_append]
  cases e : f i <;> simp [e]
theorem paired_snoc {α β : Type} {F : α → β → Prop} : ∀ {l : List α} {m : List β} {a : α} {b : β}, Paired F l m → F a b → Paired F (l ++ [a]) (m ++ [b])
  | _, _, _, _, .nil, h => .cons h .nil
  | _, _, _, _, .cons r t, h => .cons r (paired_snoc t h)
theorem fm_len {α : Type} (f : Nat → Option α) (i : Nat) : ((List.range i).filterMap f).length ≤ i := by
  have := List.length_filterMap_le f (List.range i)
  simpa using this
theorem lc_rel (w : Walk J n G Y) {g : TG} {tt : TT} {te : TE} {vs : List Nat} {σ : L2.St} {H1 : Hp} {D : Addr} {Qd : Hp → Prop} {α : Type} (hD : H1 D = none) (hn : n < sizeLine) (Rl : Hp → V → α → Prop) (mono : ∀ H H' v a, Tq H H' → Rl H v a → Rl H' v a) (f : Nat → Option α)
    (hG : ∀ H, Same H1 H → G H)
    (hs : ∀ i x H H', i < n → Same H1 H → Y i H x H' → ∀ R : Option V → Hp → Prop, (f i = none → ∀ H4, Same H H4 → R none H4) → (∀ a, f i = some a → ∀ v H4, Same H H4 → Rl H4 v a → R (some v) H4) →
      g x (wipe σ vs) H' fun σ2 H2 => wipe σ2 vs = wipe σ vs ∧ tt σ2 H2 fun b H3 => if b = true then te σ2 H3 fun y H4 => R (some y) H4 else R none H3)
    (hd : ∀ H xs, Same H1 H → H D = some (.lst xs) → Paired (Rl H) xs ((List.range n).filterMap f) → Qd H) :
    ∃ W : Nat → Nat → Hp → Prop, (∃ m, W 0 m (upd H1 D (.lst []))) ∧ ∀ i m H, W i m H →
      (J.stop i H ∧ Qd H) ∨ (J.go i H ∧ ∃ Nx : Hp → Prop, (∀ H', Nx H' → ∃ m', m' < m ∧ W (i + 1) m' H') ∧ ∀ x H', J.yld i H x H' → g x (wipe σ vs) H' fun σ2 H2 => wipe σ2 vs = wipe σ vs ∧ tt σ2 H2 fun b H3 =>
        if b = true then te σ2 H3 fun y H4 => ∃ acc, H4 D = some (.lst acc) ∧ acc.length < sizeLine ∧ Nx (upd H4 D (.lst (acc ++ [y]))) else Nx H3) := by
  refine lc_it w (fun i H => Same H1 H ∧ ∃ xs, H D = some (.lst xs) ∧ Paired (Rl H) xs ((List.range i).filterMap f)) ⟨same_new hD, [], upd_same, .nil⟩ (fun i H _ p => hG H p.1) (fun i x H H' hi p y => ?_) fun H p => ?_
  · obtain ⟨s1, xs, hx, pr⟩ := p
    refine hs i x H H' hi s1 y (fun o H4 => match o with
      | some y => ∃ acc, H4 D = some (.lst acc) ∧ acc.length < sizeLine ∧ (Same H1 (upd H4 D (.lst (acc ++ [y]))) ∧ ∃ xs, (upd H4 D (.lst (acc ++ [y]))) D = some (.lst xs) ∧ Paired (Rl (upd H4 D (.lst (acc ++ [y])))) xs ((List.range (i + 1)).filterMap f))
      | none => Same H1 H4 ∧ ∃ xs, H4 D = some (.lst xs) ∧ Paired (Rl H4) xs ((List.range (i + 1)).filterMap f)) (fun e H4 s4 => ?_) fun a e v H4 s4 hv => ?_
    · refine ⟨s1.trans s4, xs, s4 _ _ hx, ?_⟩
      rw [range_fm, e]
      simpa using Paired.mapP pr fun v a h => mono _ _ _ _ (Tq.of_same s4) h
    · have h4 := s4 _ _ hx
      have tq : Tq H4 (upd H4 D (.lst (xs ++ [v]))) := Tq.upd h4 fun z => z
      refine ⟨xs, h4, ?_, same_mut (s1.trans s4) hD, _, upd_same, ?_⟩
      · have e1 := Paired.length pr
        have e2 := fm_len f i
        omega
      · rw [range_fm, e]
        exact paired_snoc (Paired.mapP pr fun v a h => mono _ _ _ _ ((Tq.of_same s4).trans tq) h) (mono _ _ _ _ tq hv)
  · obtain ⟨s1, xs, hx, pr⟩ := p
    exact hd H xs s1 hx pr
theorem paired_eq {α β : Type} (g : β → α) : ∀ {l : List α} {m : List β}, Paired (fun v a => v = g a) l m → l = m.map g
  | _, _, .nil => rfl
  | _, _, .cons r t => by rw [r, paired_eq g t]; rfl
end
/-- new tuples, new lists, the heap behind them told by what stands -/
theorem new_tup {H : Hp} {xs : List V} {Q : V → Hp → Prop} (h : ∀ p H1, H p = none → Same H H1 → H1 p = some (.tup xs) → Q (.ref p) H1) : ∀ p, H p = none → Q (.ref p) (upd H p (.tup xs)) := fun p hp => h p _ hp (same_new hp) upd_same
theorem new_lst {H : Hp} {xs : List V} {Q : V → Hp → Prop} (h : ∀ p H1, H p = none → Same H H1 → H1 p = some (.lst xs) → Q (.ref p) H1) : ∀ p, H p = none → Q (.ref p) (upd H p (.lst xs)) := fun p hp => h p _ hp (same_new hp) upd_same
theorem new_frz {H : Hp} {xs : List V} {Q : V → Hp → Prop} (h : ∀ p H1, H p = none → Same H H1 → TF H1 p xs → Q (.ref p) H1) : ∀ (p : Addr) (o : Obj), H p = none → o.dict = none → Q (.ref p) (upd H p (.frz o (.tup xs))) := fun p o hp ho => h p _ hp (same_new hp) ⟨o, ho, upd_same⟩
/-! ### how canals and stands lie in the heap -/
open CaCanal (Canal Stand Op)
abbrev nv (n : Nat) : V := .int (n : Int)
def TN (H : Hp) (a : Addr) (l : List Nat) : Prop := Rd H a (.tup (l.map nv))
def TB (H : Hp) (a : Addr) (l : List Bool) : Prop := Rd H a (.tup (l.map V.bl))
def pl (n : Nat) : Int := (n : Int) - 1
def TBo (H : Hp) (a : Addr) (l : List Nat) : Prop := TF H a ((l.map pl).map V.int)
abbrev cF (a b c d : V) : List (Str × V) := [("least", a), ("most", b), ("volumes", c), ("rooms", d)]
abbrev sF (a b c d : V) : List (Str × V) := [("canal", a), ("by_water", b), ("settled", c), ("waiting", d)]
abbrev dF (a b c d : V) : List (Str × V) := [("canal", a), ("stand", b), ("left", c), ("come", d)]
structure CanAt (A : Ad) (H : Hp) (c : Addr) (k : Canal) : Prop where
  ex : ∃ dx a1 a2 a3 a4 : Addr, H c = some (.ins A.Canal dx (cF (.ref a1) (.ref a2) (.ref a3) (.ref a4))) ∧
    H a1 = some (.lst (k.pounds.map fun p => nv p.low)) ∧ H a2 = some (.lst (k.pounds.map fun p => nv p.high)) ∧ H a3 = some (.lst (k.locks.map fun l => nv l.volume)) ∧ H a4 = some (.lst (k.locks.map fun l => nv l.room))
theorem CanAt.same {A : Ad} {H H' : Hp} {c : Addr} {k : Canal} (s : Same H H') (h : CanAt A H c k) : CanAt A H' c k := by
  obtain ⟨dx, a1, a2, a3, a4, h0, h1, h2, h3, h4⟩ := h.ex
  exact ⟨dx, a1, a2, a3, a4, s _ _ h0, s _ _ h1, s _ _ h2, s _ _ h3, s _ _ h4⟩
structure StAt (H : Hp) (a : Addr) (t : Stand) : Prop where
  ex : ∃ w f b : Addr, Rd H a (.tup [.ref w, .ref f, .ref b]) ∧ TN H w t.water ∧ TB H f t.full ∧ TBo H b t.boats
theorem StAt.tq {H H' : Hp} {a : Addr} {t : Stand} (s : Tq H H') (h : StAt H a t) : StAt H' a t := by
  obtain ⟨w, f, b, h0, h1, h2, h3⟩ := h.ex
  exact ⟨w, f, b, s.tups _ _ h0, s.tups _ _ h1, s.tups _ _ h2, h3.at s⟩
theorem StAt.same {H H' : Hp} {a : Addr} {t : Stand} (s : Same H H') (h : StAt H a t) : StAt H' a t := h.tq (Tq.of_same s)
def OpAt (H : Hp) (a : Addr) (o : Op) : Prop := Rd H a (.tup [nv o.1, nv o.2.1, nv o.2.2])
theorem OpAt.tq {H H' : Hp} {a : Addr} {o : Op} (s : Tq H H') (h : OpAt H a o) : OpAt H' a o := s.tups _ _ h
theorem rdSame {H H' : Hp} {a : Addr} {xs : List V} (s : Same H H') (h : Rd H a (.tup xs)) : Rd H' a (.tup xs) := (Tq.of_same s).tups _ _ h
theorem SqT.rd {K : PySem.W.Frag} {H : Hp} {a : Addr} {xs : List V} (h : Rd H a (.tup xs)) : SqT K H a xs := .inl h
/-! ### attributes -/
theorem lk_here {k : Str} {v : V} {r : List (Str × V)} : List.lookup k ((k, v) :: r) = some v := by
  have e : (k == k) = true := beq_self_eq_true k
  simp only [List.lookup, e]
theorem lk_past {k g : Str} {v : V} {r : List (Str × V)} (h : (k == g) = false) : List.lookup k ((g, v) :: r) = List.lookup k r := by
  simp only [List.lookup, h]
theorem put_here {f : Str} {v x : V} {r : List (Str × V)} : putF f v ((f, x) :: r) = (f, v) :: r := if_pos rfl
theorem put_past {f g : Str} {v x : V} {r : List (Str × V)} (h : ¬ g = f) : putF f v ((g, x) :: r) = (g, x) :: putF f v r := if_neg h
section
variable {a b c d : V}
theorem lC_least : List.lookup ("least" : Str) (cF a b c d) = some a := lk_here
theorem pC_least {x : V} : putF ("least" : Str) x (cF a b c d) = (cF x b c d) := put_here
theorem lC_most : List.lookup ("most" : Str) (cF a b c d) = some b := ((lk_past (by decide +kernel)).trans lk_here)
theorem pC_most {x : V} : putF ("most" : Str) x (cF a b c d) = (cF a x c d) := ((put_past (by decide +kernel)).trans (congrArg _ put_here))
theorem lC_volumes : List.lookup ("volumes" : Str) (cF a b c d) = some c := ((lk_past (by decide +kernel)).trans ((lk_past (by decide +kernel)).trans lk_here))
theorem pC_volumes {x : V} : putF ("volumes" : Str) x (cF a b c d) = (cF a b x d) := ((put_past (by decide +kernel)).trans (congrArg _ ((put_past (by decide +kernel)).trans (congrArg _ put_here))))
theorem lC_rooms : List.lookup ("rooms" : Str) (cF a b c d) = some d := ((lk_past (by decide +kernel)).trans ((lk_past (by decide +kernel)).trans ((lk_past (by decide +kernel)).trans lk_here)))
theorem pC_rooms {x : V} : putF ("rooms" : Str) x (cF a b c d) = (cF a b c x) := ((put_past (by decide +kernel)).trans (congrArg _ ((put_past (by decide +kernel)).trans (congrArg _ ((put_past (by decide +kernel)).trans (congrArg _ put_here))))))
theorem lC_many_pounds : List.lookup ("many_pounds" : Str) (cF a b c d) = none := ((lk_past (by decide +kernel)).trans ((lk_past (by decide +kernel)).trans ((lk_past (by decide +kernel)).trans ((lk_past (by decide +kernel)).trans rfl))))
theorem lC_many_locks : List.lookup ("many_locks" : Str) (cF a b c d) = none := ((lk_past (by decide +kernel)).trans ((lk_past (by decide +kernel)).trans ((lk_past (by decide +kernel)).trans ((lk_past (by decide +kernel)).trans rfl))))
theorem nC : (putF "rooms" d (putF "volumes" c (putF "most" b (putF "least" a [])))) = (cF a b c d) := by
  have e1 : putF ("least" : Str) a [] = ([("least", a)] : List (Str × V)) := rfl
  have e2 : putF ("most" : Str) b [(("least" : Str), a)] = ([("least", a), ("most", b)] : List (Str × V)) := (put_past (by decide +kernel)).trans rfl
  have e3 : putF ("volumes" : Str) c [(("least" : Str), a), ("most", b)] = ([("least", a), ("most", b), ("volumes", c)] : List (Str × V)) := (put_past (by decide +kernel)).trans (congrArg _ ((put_past (by decide +kernel)).trans rfl))
  rw [e1, e2, e3]
  exact (put_past (by decide +kernel)).trans (congrArg _ ((put_past (by decide +kernel)).trans (congrArg _ ((put_past (by decide +kernel)).trans rfl))))
theorem lS_canal : List.lookup ("canal" : Str) (sF a b c d) = some a := lk_here
theorem pS_canal {x : V} : putF ("canal" : Str) x (sF a b c d) = (sF x b c d) := put_here
theorem lS_by_water : List.lookup ("by_water" : Str) (sF a b c d) = some b := ((lk_past (by decide +kernel)).trans lk_here)
theorem pS_by_water {x : V} : putF ("by_water" : Str) x (sF a b c d) = (sF a x c d) := ((put_past (by decide +kernel)).trans (congrArg _ put_here))
theorem lS_settled : List.lookup ("settled" : Str) (sF a b c d) = some c := ((lk_past (by decide +kernel)).trans ((lk_past (by decide +kernel)).trans lk_here))
theorem pS_settled {x : V} : putF ("settled" : Str) x (sF a b c d) = (sF a b x d) := ((put_past (by decide +kernel)).trans (congrArg _ ((put_past (by decide +kernel)).trans (congrArg _ put_here))))
theorem lS_waiting : List.lookup ("waiting" : Str) (sF a b c d) = some d := ((lk_past (by decide +kernel)).trans ((lk_past (by decide +kernel)).trans ((lk_past (by decide +kernel)).trans lk_here)))
theorem pS_waiting {x : V} : putF ("waiting" : Str) x (sF a b c d) = (sF a b c x) := ((put_past (by decide +kernel)).trans (congrArg _ ((put_past (by decide +kernel)).trans (congrArg _ ((put_past (by decide +kernel)).trans (congrArg _ put_here))))))
theorem lS_wait : List.lookup ("wait" : Str) (sF a b c d) = none := ((lk_past (by decide +kernel)).trans ((lk_past (by decide +kernel)).trans ((lk_past (by decide +kernel)).trans ((lk_past (by decide +kernel)).trans rfl))))
theorem lS_go_on : List.lookup ("go_on" : Str) (sF a b c d) = none := ((lk_past (by decide +kernel)).trans ((lk_past (by decide +kernel)).trans ((lk_past (by decide +kernel)).trans ((lk_past (by decide +kernel)).trans rfl))))
theorem lS_settle : List.lookup ("settle" : Str) (sF a b c d) = none := ((lk_past (by decide +kernel)).trans ((lk_past (by decide +kernel)).trans ((lk_past (by decide +kernel)).trans ((lk_past (by decide +kernel)).trans rfl))))
theorem lS_plan : List.lookup ("plan" : Str) (sF a b c d) = none := ((lk_past (by decide +kernel)).trans ((lk_past (by decide +kernel)).trans ((lk_past (by decide +kernel)).trans ((lk_past (by decide +kernel)).trans rfl))))
theorem nS : (putF "waiting" d (putF "settled" c (putF "by_water" b (putF "canal" a [])))) = (sF a b c d) := by
  have e1 : putF ("canal" : Str) a [] = ([("canal", a)] : List (Str × V)) := rfl
  have e2 : putF ("by_water" : Str) b [(("canal" : Str), a)] = ([("canal", a), ("by_water", b)] : List (Str × V)) := (put_past (by decide +kernel)).trans rfl
  have e3 : putF ("settled" : Str) c [(("canal" : Str), a), ("by_water", b)] = ([("canal", a), ("by_water", b), ("settled", c)] : List (Str × V)) := (put_past (by decide +kernel)).trans (congrArg _ ((put_past (by decide +kernel)).trans rfl))
  rw [e1, e2, e3]
  exact (put_past (by decide +kernel)).trans (congrArg _ ((put_past (by decide +kernel)).trans (congrArg _ ((put_past (by decide +kernel)).trans rfl))))
theorem lD_canal : List.lookup ("canal" : Str) (dF a b c d) = some a := lk_here
theorem pD_canal {x : V} : putF ("canal" : Str) x (dF a b c d) = (dF x b c d) := put_here
theorem lD_stand : List.lookup ("stand" : Str) (dF a b c d) = some b := ((lk_past (by decide +kernel)).trans lk_here)
theorem pD_stand {x : V} : putF ("stand" : Str) x (dF a b c d) = (dF a x c d) := ((put_past (by decide +kernel)).trans (congrArg _ put_here))
theorem lD_left : List.lookup ("left" : Str) (dF a b c d) = some c := ((lk_past (by decide +kernel)).trans ((lk_past (by decide +kernel)).trans lk_here))
theorem pD_left {x : V} : putF ("left" : Str) x (dF a b c d) = (dF a b x d) := ((put_past (by decide +kernel)).trans (congrArg _ ((put_past (by decide +kernel)).trans (congrArg _ put_here))))
theorem lD_come : List.lookup ("come" : Str) (dF a b c d) = some d := ((lk_past (by decide +kernel)).trans ((lk_past (by decide +kernel)).trans ((lk_past (by decide +kernel)).trans lk_here)))
theorem pD_come {x : V} : putF ("come" : Str) x (dF a b c d) = (dF a b c x) := ((put_past (by decide +kernel)).trans (congrArg _ ((put_past (by decide +kernel)).trans (congrArg _ ((put_past (by decide +kernel)).trans (congrArg _ put_here))))))
theorem lD_begin : List.lookup ("begin" : Str) (dF a b c d) = none := ((lk_past (by decide +kernel)).trans ((lk_past (by decide +kernel)).trans ((lk_past (by decide +kernel)).trans ((lk_past (by decide +kernel)).trans rfl))))
theorem lD_place_of : List.lookup ("place_of" : Str) (dF a b c d) = none := ((lk_past (by decide +kernel)).trans ((lk_past (by decide +kernel)).trans ((lk_past (by decide +kernel)).trans ((lk_past (by decide +kernel)).trans rfl))))
theorem lD_put_boat : List.lookup ("put_boat" : Str) (dF a b c d) = none := ((lk_past (by decide +kernel)).trans ((lk_past (by decide +kernel)).trans ((lk_past (by decide +kernel)).trans ((lk_past (by decide +kernel)).trans rfl))))
theorem lD_boat : List.lookup ("boat" : Str) (dF a b c d) = none := ((lk_past (by decide +kernel)).trans ((lk_past (by decide +kernel)).trans ((lk_past (by decide +kernel)).trans ((lk_past (by decide +kernel)).trans rfl))))
theorem lD_lift : List.lookup ("lift" : Str) (dF a b c d) = none := ((lk_past (by decide +kernel)).trans ((lk_past (by decide +kernel)).trans ((lk_past (by decide +kernel)).trans ((lk_past (by decide +kernel)).trans rfl))))
theorem lD_do_one : List.lookup ("do_one" : Str) (dF a b c d) = none := ((lk_past (by decide +kernel)).trans ((lk_past (by decide +kernel)).trans ((lk_past (by decide +kernel)).trans ((lk_past (by decide +kernel)).trans rfl))))
theorem lD_feed : List.lookup ("feed" : Str) (dF a b c d) = none := ((lk_past (by decide +kernel)).trans ((lk_past (by decide +kernel)).trans ((lk_past (by decide +kernel)).trans ((lk_past (by decide +kernel)).trans rfl))))
theorem lD_pound : List.lookup ("pound" : Str) (dF a b c d) = none := ((lk_past (by decide +kernel)).trans ((lk_past (by decide +kernel)).trans ((lk_past (by decide +kernel)).trans ((lk_past (by decide +kernel)).trans rfl))))
theorem lD_lock : List.lookup ("lock" : Str) (dF a b c d) = none := ((lk_past (by decide +kernel)).trans ((lk_past (by decide +kernel)).trans ((lk_past (by decide +kernel)).trans ((lk_past (by decide +kernel)).trans rfl))))
theorem lD_where : List.lookup ("where" : Str) (dF a b c d) = none := ((lk_past (by decide +kernel)).trans ((lk_past (by decide +kernel)).trans ((lk_past (by decide +kernel)).trans ((lk_past (by decide +kernel)).trans rfl))))
theorem lD_plan : List.lookup ("plan" : Str) (dF a b c d) = none := ((lk_past (by decide +kernel)).trans ((lk_past (by decide +kernel)).trans ((lk_past (by decide +kernel)).trans ((lk_past (by decide +kernel)).trans rfl))))
theorem lD_run : List.lookup ("run" : Str) (dF a b c d) = none := ((lk_past (by decide +kernel)).trans ((lk_past (by decide +kernel)).trans ((lk_past (by decide +kernel)).trans ((lk_past (by decide +kernel)).trans rfl))))
theorem lD_told : List.lookup ("told" : Str) (dF a b c d) = none := ((lk_past (by decide +kernel)).trans ((lk_past (by decide +kernel)).trans ((lk_past (by decide +kernel)).trans ((lk_past (by decide +kernel)).trans rfl))))
theorem lD_done : List.lookup ("done" : Str) (dF a b c d) = none := ((lk_past (by decide +kernel)).trans ((lk_past (by decide +kernel)).trans ((lk_past (by decide +kernel)).trans ((lk_past (by decide +kernel)).trans rfl))))
theorem lD_answer : List.lookup ("answer" : Str) (dF a b c d) = none := ((lk_past (by decide +kernel)).trans ((lk_past (by decide +kernel)).trans ((lk_past (by decide +kernel)).trans ((lk_past (by decide +kernel)).trans rfl))))
theorem nD : (putF "come" d (putF "left" c (putF "stand" b (putF "canal" a [])))) = (dF a b c d) := by
  have e1 : putF ("canal" : Str) a [] = ([("canal", a)] : List (Str × V)) := rfl
  have e2 : putF ("stand" : Str) b [(("canal" : Str), a)] = ([("canal", a), ("stand", b)] : List (Str × V)) := (put_past (by decide +kernel)).trans rfl
  have e3 : putF ("left" : Str) c [(("canal" : Str), a), ("stand", b)] = ([("canal", a), ("stand", b), ("left", c)] : List (Str × V)) := (put_past (by decide +kernel)).trans (congrArg _ ((put_past (by decide +kernel)).trans rfl))
  rw [e1, e2, e3]
  exact (put_past (by decide +kernel)).trans (congrArg _ ((put_past (by decide +kernel)).trans (congrArg _ ((put_past (by decide +kernel)).trans rfl))))
end
theorem at_map {α : Type} {f : α → V} {l : List α} {i : Nat} {d : α} (h : i < l.length) : atI (l.map f) (i : Int) = some (f (l.getD i d)) := atI_nat (by
  rw [List.getElem?_map, List.getD_eq_getElem?_getD, List.getElem?_eq_getElem h]
  rfl)
theorem get_map {α : Type} {f : α → V} {l : List α} {i : Nat} {v : V} (d : α) (h : (l.map f)[i]? = some v) : i < l.length ∧ v = f (l.getD i d) := by
  rw [List.getElem?_map] at h
  obtain ⟨x, hx, rfl⟩ := Option.map_eq_some_iff.mp h
  obtain ⟨hl, _⟩ := List.getElem?_eq_some_iff.mp hx
  refine ⟨hl, ?_⟩
  rw [List.getD_eq_getElem?_getD, hx]
  rfl
end Cn
end
section
set_option Elab.async false
set_option linter.all false
set_option maxRecDepth 100000
set_option maxHeartbeats 4000000
namespace Cn
open PySem PySem.Spec PyProof.Rows L2
open CaCanal (Canal Stand Op)
open Cm (GoodK Good)
theorem qb {Q : VK} {H : Hp} {b b' : Bool} (h : Q (.bl b) H) (e : b = b') : Q (.bl b') H := e ▸ h
theorem qi {Q : VK} {H : Hp} {b b' : Int} (h : Q (.int b) H) (e : b = b') : Q (.int b') H := e ▸ h
theorem nb_t {p : Prop} [Decidable p] (h : (!decide p) = true) : ¬ p := fun z => by
  rw [decide_eq_true z] at h
  cases h
theorem nb_f {p : Prop} [Decidable p] (h : ¬ (!decide p) = true) : p := Classical.byContradiction fun z => h (by
  rw [decide_eq_false z]
  rfl)
theorem b_f {p : Prop} [Decidable p] (h : ¬ decide p = true) : ¬ p := fun z => h (decide_eq_true z)
theorem nbb_t {b : Bool} (h : (!b) = true) : b = false := by
  cases b
  · rfl
  · cases h
theorem nbb_f {b : Bool} (h : ¬ (!b) = true) : b = true := by
  cases b
  · exact absurd rfl h
  · rfl
theorem un3 {K : PySem.W.Frag} {s i j k : Nat} {σ : L2.St} {H : Hp} {D : Ends} {a : Addr} {x y z : V} (h : σ[s]? = some (some (.ref a))) (hr : Rd H a (.tup [x, y, z]))
    (q : D.nx (((σ.set i (some x)).set j (some y)).set k (some z)) H) : tAsg (tVar s) (gTup K 3 (gCons (gName i) (gCons (gName j) (gCons (gName k) gNil)))) D σ H :=
  ⟨_, h, a, _, rfl, .inl hr, rfl, _, _, rfl, _, _, rfl, _, _, rfl, rfl, q⟩
section
variable {P : Program} {w : World} {K : PySem.W.Frag} {mg : Str → Option Value} {base : Heap} {A : Ad}
def sp_in_pound : Sp := fun vs H Q _ => ∃ n : Nat, vs = [nv n] ∧ Q (.int (2 * (n : Int))) H
theorem gd_in_pound (T : Txt K mg A) : GDef P w K mg base CX0 1 "in_pound" ["number"] sp_in_pound := by
  obtain ⟨f, fd, hm, F⟩ := T.t_in_pound
  refine ⟨f, fd, hm, F.kp, ?_, F.binds (fun _ _ _ _ _ _ us hl => match us, hl with | [_], _ => rfl)⟩
  refine F.ok sc_in_pound (fun vs H Q E h => ?_) (fun cdv Ar outer s H vs Q E hr h => ⟨_, (pss_one (ps_ret (pe_op op_mul pe_int (pv 0)))), ?_⟩)
  · obtain ⟨n, rfl, q⟩ := h; rfl
  obtain ⟨n, rfl, q⟩ := h
  exact ⟨_, rfl, _, _, rfl, rfl, .inl ⟨by decide, by decide⟩, q⟩
def sp_in_lock : Sp := fun vs H Q _ => ∃ n : Nat, vs = [nv n] ∧ Q (.int (2 * (n : Int) + 1)) H
theorem gd_in_lock (T : Txt K mg A) : GDef P w K mg base CX0 1 "in_lock" ["number"] sp_in_lock := by
  obtain ⟨f, fd, hm, F⟩ := T.t_in_lock
  refine ⟨f, fd, hm, F.kp, ?_, F.binds (fun _ _ _ _ _ _ us hl => match us, hl with | [_], _ => rfl)⟩
  refine F.ok sc_in_lock (fun vs H Q E h => ?_) (fun cdv Ar outer s H vs Q E hr h => ⟨_, (pss_one (ps_ret (pe_op op_add (pe_op op_mul pe_int (pv 0)) pe_int))), ?_⟩)
  · obtain ⟨n, rfl, q⟩ := h; rfl
  obtain ⟨n, rfl, q⟩ := h
  exact ⟨_, rfl, _, _, rfl, rfl, .inl ⟨by decide, by decide⟩, _, _, rfl, rfl, q⟩
def sp_is_in_pound : Sp := fun vs H Q _ => ∃ x : Nat, vs = [.int (pl x)] ∧ Q (.bl (decide (x % 2 = 1))) H
theorem gd_is_in_pound (T : Txt K mg A) : GDef P w K mg base CX0 1 "is_in_pound" ["place"] sp_is_in_pound := by
  obtain ⟨f, fd, hm, F⟩ := T.t_is_in_pound
  refine ⟨f, fd, hm, F.kp, ?_, F.binds (fun _ _ _ _ _ _ us hl => match us, hl with | [_], _ => rfl)⟩
  refine F.ok sc_is_in_pound (fun vs H Q E h => ?_) (fun cdv Ar outer s H vs Q E hr h => ⟨_, (pss_one (ps_ret (pe_and (pe_cmpR op_ge (pv 0) pe_int (nomark _)) (pe_one (pe_cmpR op_eq (pe_op op_mod (pv 0) pe_int) pe_int (nomark _)))))), ?_⟩)
  · obtain ⟨x, rfl, q⟩ := h; rfl
  obtain ⟨x, rfl, q⟩ := h
  refine ⟨_, rfl, _, _, rfl, rfl, _, rfl, ite2 (fun c => ?_) fun c => ?_⟩
  · have c := of_decide_eq_true c
    unfold pl at c
    refine ⟨_, rfl, _, _, rfl, rfl, (by show (0 : Int) < 2; decide), rfl, qb q (decide_eq_decide.mpr ?_)⟩
    rw [V.int.injEq]
    unfold pl
    omega
  · have c : ¬ _ := fun z => c (decide_eq_true z)
    unfold pl at c
    exact qb q (decide_eq_false (by omega))
def sp_is_in_lock : Sp := fun vs H Q _ => ∃ x : Nat, vs = [.int (pl x)] ∧ Q (.bl (decide (x ≠ 0 ∧ x % 2 = 0))) H
theorem gd_is_in_lock (T : Txt K mg A) : GDef P w K mg base CX0 1 "is_in_lock" ["place"] sp_is_in_lock := by
  obtain ⟨f, fd, hm, F⟩ := T.t_is_in_lock
  refine ⟨f, fd, hm, F.kp, ?_, F.binds (fun _ _ _ _ _ _ us hl => match us, hl with | [_], _ => rfl)⟩
  refine F.ok sc_is_in_lock (fun vs H Q E h => ?_) (fun cdv Ar outer s H vs Q E hr h => ⟨_, (pss_one (ps_ret (pe_and (pe_cmpR op_ge (pv 0) pe_int (nomark _)) (pe_one (pe_cmpR op_eq (pe_op op_mod (pv 0) pe_int) pe_int (nomark _)))))), ?_⟩)
  · obtain ⟨x, rfl, q⟩ := h; rfl
  obtain ⟨x, rfl, q⟩ := h
  refine ⟨_, rfl, _, _, rfl, rfl, _, rfl, ite2 (fun c => ?_) fun c => ?_⟩
  · have c := of_decide_eq_true c
    unfold pl at c
    refine ⟨_, rfl, _, _, rfl, rfl, (by show (0 : Int) < 2; decide), rfl, qb q (decide_eq_decide.mpr ?_)⟩
    rw [V.int.injEq]
    unfold pl
    omega
  · have c : ¬ _ := fun z => c (decide_eq_true z)
    unfold pl at c
    exact qb q (decide_eq_false (by omega))
def sp_many_pounds (A : Ad) : Sp := fun vs H Q _ => ∃ (c : Addr) (k : Canal), vs = [.ref c] ∧ CanAt A H c k ∧ Q (nv k.pounds.length) H
theorem gd_Canal_many_pounds (T : Txt K mg A) : GMeth P w K mg base CX0 1 A.Canal "many_pounds" ["self"] (sp_many_pounds A) := by
  obtain ⟨f, fd, hm, F⟩ := T.t_Canal_many_pounds
  refine ⟨f, fd, hm, ?_, F.binds (fun _ _ _ _ _ _ us hl => match us, hl with | [_], _ => rfl)⟩
  refine F.ok sc_Canal_many_pounds (fun vs H Q E h => ?_) (fun cdv Ar outer s H vs Q E hr h => ⟨_, (pss_one (ps_ret (pe_callB call_len_seq (by rfl) T.b_len PySem.boot_len (pa_cons (pe_fld (pv 0) rfl) pa_nil)))), ?_⟩)
  · obtain ⟨c, k, rfl, hc, q⟩ := h; rfl
  obtain ⟨c, k, rfl, hc, q⟩ := h
  obtain ⟨dx, a1, a2, a3, a4, h0, h1, h2, h3, h4⟩ := hc.ex
  refine ⟨_, rfl, _, _, _, _, _, rfl, h0, T.cl_Canal, T.n_Canal_least, lC_least, _, _, rfl, .inl (SqL.of h1), ?_⟩
  rw [List.length_map]
  exact q
def sp_many_locks (A : Ad) : Sp := fun vs H Q _ => ∃ (c : Addr) (k : Canal), vs = [.ref c] ∧ CanAt A H c k ∧ Q (nv k.locks.length) H
theorem gd_Canal_many_locks (T : Txt K mg A) : GMeth P w K mg base CX0 1 A.Canal "many_locks" ["self"] (sp_many_locks A) := by
  obtain ⟨f, fd, hm, F⟩ := T.t_Canal_many_locks
  refine ⟨f, fd, hm, ?_, F.binds (fun _ _ _ _ _ _ us hl => match us, hl with | [_], _ => rfl)⟩
  refine F.ok sc_Canal_many_locks (fun vs H Q E h => ?_) (fun cdv Ar outer s H vs Q E hr h => ⟨_, (pss_one (ps_ret (pe_callB call_len_seq (by rfl) T.b_len PySem.boot_len (pa_cons (pe_fld (pv 0) rfl) pa_nil)))), ?_⟩)
  · obtain ⟨c, k, rfl, hc, q⟩ := h; rfl
  obtain ⟨c, k, rfl, hc, q⟩ := h
  obtain ⟨dx, a1, a2, a3, a4, h0, h1, h2, h3, h4⟩ := hc.ex
  refine ⟨_, rfl, _, _, _, _, _, rfl, h0, T.cl_Canal, T.n_Canal_volumes, lC_volumes, _, _, rfl, .inl (SqL.of h3), ?_⟩
  rw [List.length_map]
  exact q
/-- waters[i] - canal.volumes[i] >= canal.least[i] -/
def sp_has_enough (A : Ad) : Sp := fun vs H Q _ => ∃ (c a : Addr) (i : Nat) (k : Canal) (ws : List Nat), vs = [.ref c, .ref a, nv i] ∧ CanAt A H c k ∧ TN H a ws ∧ i < ws.length ∧ i < k.locks.length ∧ i < k.pounds.length ∧
  Q (.bl (decide ((k.pound i).low + (k.lock i).volume ≤ ws.getD i 0))) H
theorem gd_has_enough (T : Txt K mg A) : GDef P w K mg base CX0 1 "has_enough" ["canal", "waters", "i"] (sp_has_enough A) := by
  obtain ⟨f, fd, hm, F⟩ := T.t_has_enough
  refine ⟨f, fd, hm, F.kp, ?_, F.binds (fun _ _ _ _ _ _ us hl => match us, hl with | [_, _, _], _ => rfl)⟩
  refine F.ok sc_has_enough (fun vs H Q E h => ?_) (fun cdv Ar outer s H vs Q E hr h => ⟨_, (pss_one (ps_ret (pe_cmpR op_ge (pe_op op_sub (pe_ix ix_tup (pv 1) (pv 2) (fun _ _ => rfl)) (pe_ix ix_list (pe_fld (pv 0) rfl) (pv 2) (fun _ _ => rfl))) (pe_ix ix_list (pe_fld (pv 0) rfl) (pv 2) (fun _ _ => rfl)) (nomark _)))), ?_⟩)
  · obtain ⟨c, a, i, k, ws, rfl, hc, ha, hw, hl, hp, q⟩ := h; rfl
  obtain ⟨c, a, i, k, ws, rfl, hc, ha, hw, hl, hp, q⟩ := h
  obtain ⟨dx, a1, a2, a3, a4, h0, h1, h2, h3, h4⟩ := hc.ex
  refine ⟨_, rfl, _, rfl, _, _, _, _, rfl, rfl, SqT.rd ha, at_map (d := 0) hw, _, rfl, _, _, _, _, _, rfl, h0, T.cl_Canal, T.n_Canal_volumes, lC_volumes, _, rfl, _, _, _, _, rfl, rfl, SqL.of h3, at_map (d := ⟨0, 0⟩) hl, _, _, rfl, rfl,
    _, rfl, _, _, _, _, _, rfl, h0, T.cl_Canal, T.n_Canal_least, lC_least, _, rfl, _, _, _, _, rfl, rfl, SqL.of h1, at_map (d := ⟨0, 0⟩) hp, _, _, rfl, rfl, qb q (decide_eq_decide.mpr ?_)⟩
  unfold CaCanal.Canal.pound CaCanal.Canal.lock
  omega
def sp_is_level : Sp := fun vs H Q _ => ∃ (a : Addr) (i : Nat) (p : Int) (fs : List Bool), vs = [.ref a, nv i, .int p] ∧ TB H a fs ∧ i < fs.length ∧ Q (.bl (decide (fs.getD i false = decide ((i : Int) = p)))) H
theorem gd_is_level (T : Txt K mg A) : GDef P w K mg base CX0 1 "is_level" ["fulls", "lock", "pound"] sp_is_level := by
  obtain ⟨f, fd, hm, F⟩ := T.t_is_level
  refine ⟨f, fd, hm, F.kp, ?_, F.binds (fun _ _ _ _ _ _ us hl => match us, hl with | [_, _, _], _ => rfl)⟩
  refine F.ok sc_is_level (fun vs H Q E h => ?_) (fun cdv Ar outer s H vs Q E hr h => ⟨_, (pss_one (ps_ret (pe_cmpR op_eq (pe_ix ix_tup (pv 0) (pv 1) (fun _ _ => rfl)) (pe_cmpR op_eq (pv 1) (pv 2) (nomark _)) (nomark _)))), ?_⟩)
  · obtain ⟨a, i, p, fs, rfl, ha, hi, q⟩ := h; rfl
  obtain ⟨a, i, p, fs, rfl, ha, hi, q⟩ := h
  refine ⟨_, rfl, _, rfl, _, _, _, _, rfl, rfl, SqT.rd ha, at_map (d := false) hi, _, rfl, _, rfl, rfl, rfl, qb q ?_⟩
  simp only [V.int.injEq, V.bl.injEq]
theorem pl_inj {x y : Nat} : pl x = pl y ↔ x = y := by unfold pl; omega
theorem count_pl (y : Nat) : ∀ l : List Nat, (l.map pl).count (pl y) = (l.filter fun (x : Nat) => x == y).length
  | [] => rfl
  | x :: l => by
    have ih := count_pl y l
    rw [List.map_cons, List.count_cons, ih, List.filter_cons]
    by_cases c : x = y
    · simp [c]
    · have c2 : ¬ pl x = pl y := fun z => c (pl_inj.mp z)
      simp [c, c2]
def sp_has_room (A : Ad) : Sp := fun vs H Q _ => ∃ (c b : Addr) (i : Nat) (k : Canal) (l : List Nat), vs = [.ref c, .ref b, nv i] ∧ CanAt A H c k ∧ TBo H b l ∧ i < k.locks.length ∧
  Q (.bl (decide ((l.filter fun (x : Nat) => x == CaCanal.inLock i).length < (k.lock i).room))) H
theorem gd_has_room (T : Txt K mg A) : GDef P w K mg base CX0 2 "has_room" ["canal", "boats", "lock"] (sp_has_room A) := by
  obtain ⟨f, fd, hm, F⟩ := T.t_has_room
  refine ⟨f, fd, hm, F.kp, ?_, F.binds (fun _ _ _ _ _ _ us hl => match us, hl with | [_, _, _], _ => rfl)⟩
  refine F.ok sc_has_room (fun vs H Q E h => ?_) (fun cdv Ar outer s H vs Q E hr h => ⟨_, (pss_one (ps_ret (pe_cmpR op_lt (pe_count (pv 1) (pa_cons (pe_g (gd_in_lock T) (hr.mono (by decide)) rfl pass0 (pa_cons (pv 2) pa_nil)) pa_nil)) (pe_ix ix_list (pe_fld (pv 0) rfl) (pv 2) (fun _ _ => rfl)) (nomark _)))), ?_⟩)
  · obtain ⟨c, b, i, k, l, rfl, hc, hb, hl, q⟩ := h; rfl
  obtain ⟨c, b, i, k, l, rfl, hc, hb, hl, q⟩ := h
  obtain ⟨dx, a1, a2, a3, a4, h0, h1, h2, h3, h4⟩ := hc.ex
  refine ⟨_, rfl, b, _, rfl, hb, _, rfl, i, rfl, _, rfl, SqT.rd hb.rd, _, rfl, _, _, _, _, _, rfl, h0, T.cl_Canal, T.n_Canal_rooms, lC_rooms, _, rfl, _, _, _, _, rfl, rfl, SqL.of h4, at_map (d := ⟨0, 0⟩) hl, _, _, rfl, rfl, qb q (decide_eq_decide.mpr ?_)⟩
  have e : (2 * (i : Int) + 1) = pl (CaCanal.inLock i) := by unfold pl CaCanal.inLock; omega
  rw [e, count_pl]
  unfold CaCanal.Canal.lock
  omega
def whyI : CaCanal.Came → Int
  | .no y => -(y : Int)
  | .so _ _ => 0
def sp_why_not_fill (A : Ad) : Sp := fun vs H Q _ => ∃ (c a : Addr) (i : Nat) (k : Canal) (t : Stand), vs = [.ref c, .ref a, nv i] ∧ CanAt A H c k ∧ StAt H a t ∧ GoodK k ∧ Good k t ∧ Q (.int (whyI (CaCanal.filled k t i))) H
theorem gd_why_not_fill (T : Txt K mg A) : GDef P w K mg base CX0 2 "why_not_fill" ["canal", "stand", "i"] (sp_why_not_fill A) := by
  obtain ⟨f, fd, hm, F⟩ := T.t_why_not_fill
  refine ⟨f, fd, hm, F.kp, ?_, F.binds (fun _ _ _ _ _ _ us hl => match us, hl with | [_, _, _], _ => rfl)⟩
  refine F.ok sc_why_not_fill (fun vs H Q E h => ?_) (fun cdv Ar outer s H vs Q E hr h => ⟨_, (pss_cons (ps_asg (pv 1) (pg_tup rfl (pgs_cons (pg_name (i := 3) sc_why_not_fill.nd rfl (Or.inl rfl)) (pgs_cons (pg_name (i := 4) sc_why_not_fill.nd rfl (Or.inl rfl)) (pgs_cons (pg_name (i := 5) sc_why_not_fill.nd rfl (Or.inl rfl)) pgs_nil)))))
    (pss_cons (ps_if (pt_cmpR op_ge (pv 2) (pe_gm0 (pv 0) T.cl_Canal (gd_Canal_many_locks T) (hr.mono (by decide)) pass0) (nomark _)) (pss_one (ps_ret (pe_globI rfl T.c_NONE_SUCH_operations))) pss_nil)
    (pss_cons (ps_if (pt_val (pe_ix ix_tup (pv 4) (pv 2) (fun _ _ => rfl))) (pss_one (ps_ret (pe_globI rfl T.c_NOT_SO_operations))) pss_nil)
    (pss_cons (ps_if (pt_not (pt_val (pe_g (gd_has_enough T) (hr.mono (by decide)) rfl pass0 (pa_cons (pv 0) (pa_cons (pv 3) (pa_cons (pv 2) pa_nil)))))) (pss_one (ps_ret (pe_globI rfl T.c_NOT_ENOUGH))) pss_nil)
    (pss_one (ps_ret pe_int)))))), ?_⟩)
  · obtain ⟨c, a, i, k, t, rfl, hc, hs, hk, hg, q⟩ := h; rfl
  obtain ⟨c, a, i, k, t, rfl, hc, hs, hk, hg, q⟩ := h
  obtain ⟨dx, a1, a2, a3, a4, g0, g1, g2, g3, g4⟩ := hc.ex
  obtain ⟨w, f, b, h0, h1, h2, h3⟩ := hs.ex
  refine un3 rfl h0 ?_
  refine ⟨_, rfl, _, rfl, _, _, _, rfl, g0, lC_many_locks, ⟨c, k, rfl, hc, _, _, rfl, rfl, _, rfl, ite2 (fun e => ?_) fun e => ?_⟩⟩
  · have e := of_decide_eq_true e
    refine qi q ?_
    unfold CaCanal.filled
    rw [if_pos (by omega)]
    rfl
  have e : ¬ _ := fun z => e (decide_eq_true z)
  have hi : i < k.locks.length := by omega
  have hf : i < t.full.length := by rw [hg.f]; exact hi
  refine ⟨_, rfl, _, rfl, _, _, _, _, rfl, rfl, SqT.rd h2, at_map (d := false) hf, _, rfl, ite2 (fun e2 => ?_) fun e2 => ?_⟩
  · refine qi q ?_
    unfold CaCanal.filled
    rw [if_neg (by omega), if_pos e2]
    rfl
  have hp : i < k.pounds.length := by have := hk.nl; omega
  refine ⟨_, rfl, _, rfl, _, rfl, c, w, i, k, t.water, rfl, hc, h1, (by rw [hg.w]; exact hp), hi, hp, _, rfl, ite2 (fun e3 => ?_) fun e3 => ?_⟩
  · refine qi q ?_
    unfold CaCanal.filled
    have e3 := nb_t e3
    rw [if_neg (by omega), if_neg e2]
    dsimp only
    rw [if_pos (by omega)]
    rfl
  · refine qi q ?_
    unfold CaCanal.filled
    have e3 := nb_f e3
    rw [if_neg (by omega), if_neg e2]
    dsimp only
    rw [if_neg (by omega)]
    rfl
def sp_why_not_empty (A : Ad) : Sp := fun vs H Q _ => ∃ (c a : Addr) (i : Nat) (k : Canal) (t : Stand), vs = [.ref c, .ref a, nv i] ∧ CanAt A H c k ∧ StAt H a t ∧ GoodK k ∧ Good k t ∧ Q (.int (whyI (CaCanal.emptied k t i))) H
theorem gd_why_not_empty (T : Txt K mg A) : GDef P w K mg base CX0 2 "why_not_empty" ["canal", "stand", "i"] (sp_why_not_empty A) := by
  obtain ⟨f, fd, hm, F⟩ := T.t_why_not_empty
  refine ⟨f, fd, hm, F.kp, ?_, F.binds (fun _ _ _ _ _ _ us hl => match us, hl with | [_, _, _], _ => rfl)⟩
  refine F.ok sc_why_not_empty (fun vs H Q E h => ?_) (fun cdv Ar outer s H vs Q E hr h => ⟨_, (pss_cons (ps_asg (pv 1) (pg_tup rfl (pgs_cons (pg_name (i := 3) sc_why_not_empty.nd rfl (Or.inl rfl)) (pgs_cons (pg_name (i := 4) sc_why_not_empty.nd rfl (Or.inl rfl)) (pgs_cons (pg_name (i := 5) sc_why_not_empty.nd rfl (Or.inl rfl)) pgs_nil)))))
    (pss_cons (ps_if (pt_cmpR op_ge (pv 2) (pe_gm0 (pv 0) T.cl_Canal (gd_Canal_many_locks T) (hr.mono (by decide)) pass0) (nomark _)) (pss_one (ps_ret (pe_globI rfl T.c_NONE_SUCH_operations))) pss_nil)
    (pss_cons (ps_if (pt_not (pt_val (pe_ix ix_tup (pv 4) (pv 2) (fun _ _ => rfl)))) (pss_one (ps_ret (pe_globI rfl T.c_NOT_SO_operations))) pss_nil)
    (pss_one (ps_ret pe_int))))), ?_⟩)
  · obtain ⟨c, a, i, k, t, rfl, hc, hs, hk, hg, q⟩ := h; rfl
  obtain ⟨c, a, i, k, t, rfl, hc, hs, hk, hg, q⟩ := h
  obtain ⟨dx, a1, a2, a3, a4, g0, g1, g2, g3, g4⟩ := hc.ex
  obtain ⟨w, f, b, h0, h1, h2, h3⟩ := hs.ex
  refine un3 rfl h0 ?_
  refine ⟨_, rfl, _, rfl, _, _, _, rfl, g0, lC_many_locks, ⟨c, k, rfl, hc, _, _, rfl, rfl, _, rfl, ite2 (fun e => ?_) fun e => ?_⟩⟩
  · have e := of_decide_eq_true e
    refine qi q ?_
    unfold CaCanal.emptied
    rw [if_pos (by omega)]
    rfl
  have e : ¬ _ := fun z => e (decide_eq_true z)
  have hi : i < k.locks.length := by omega
  have hf : i < t.full.length := by rw [hg.f]; exact hi
  refine ⟨_, rfl, _, rfl, _, _, _, _, rfl, rfl, SqT.rd h2, at_map (d := false) hf, _, rfl, ite2 (fun e2 => ?_) fun e2 => ?_⟩
  · refine qi q ?_
    unfold CaCanal.emptied
    rw [if_neg (by omega), if_pos (nbb_t e2)]
    rfl
  · refine qi q ?_
    unfold CaCanal.emptied
    rw [if_neg (by omega), if_neg (by rw [nbb_f e2]; exact Bool.noConfusion)]
    rfl
theorem at_four {t : Stand} {k : Canal} (hg : Good k t) (b : Nat) (h : 4 ≤ b) : t.at_ b = 0 := by
  unfold CaCanal.Stand.at_
  rw [List.getD_eq_getElem?_getD, List.getElem?_eq_none (by rw [hg.b]; exact h)]
  rfl
def sp_is_boat : Sp := fun vs H Q _ => ∃ (b : Addr) (i : Nat) (l : List Nat), vs = [.ref b, nv i] ∧ TBo H b l ∧ l.length = 4 ∧ Q (.bl (decide (l.getD i 0 ≠ 0))) H
theorem at_bo {l : List Nat} {i : Nat} (h : i < l.length) : atI ((l.map pl).map V.int) (i : Int) = some (.int (pl (l.getD i 0))) := by
  rw [List.map_map]
  exact at_map (f := V.int ∘ pl) (d := 0) h
theorem gd_is_boat (T : Txt K mg A) : GDef P w K mg base CX0 1 "is_boat" ["boats", "boat"] sp_is_boat := by
  obtain ⟨f, fd, hm, F⟩ := T.t_is_boat
  refine ⟨f, fd, hm, F.kp, ?_, F.binds (fun _ _ _ _ _ _ us hl => match us, hl with | [_, _], _ => rfl)⟩
  refine F.ok sc_is_boat (fun vs H Q E h => ?_) (fun cdv Ar outer s H vs Q E hr h => ⟨_, (pss_one (ps_ret (pe_and (pe_cmpR op_lt (pv 1) (pe_globI rfl T.c_BOATS) (nomark _)) (pe_one (pe_cmpR op_ne (pe_ix ix_tup (pv 0) (pv 1) (fun _ _ => rfl)) (pe_globI rfl T.c_AWAY) (nomark _)))))), ?_⟩)
  · obtain ⟨b, i, l, rfl, hb, hl, q⟩ := h; rfl
  obtain ⟨b, i, l, rfl, hb, hl, q⟩ := h
  refine ⟨_, rfl, _, _, rfl, rfl, _, rfl, ite2 (fun c => ?_) fun c => ?_⟩
  · have c := of_decide_eq_true c
    refine ⟨_, rfl, _, rfl, _, _, _, _, rfl, rfl, SqT.rd hb.rd, at_bo (by omega), rfl, qb q ?_⟩
    rw [← decide_not, decide_eq_decide, V.int.injEq]
    unfold pl
    omega
  · have c : ¬ _ := fun z => c (decide_eq_true z)
    refine qb q (decide_eq_false ?_)
    rw [List.getD_eq_getElem?_getD, List.getElem?_eq_none (by omega)]
    simp
def sp_why_not_leave : Sp := fun vs H Q _ => ∃ (a : Addr) (i : Nat) (k : Canal) (t : Stand), vs = [.ref a, nv i] ∧ StAt H a t ∧ Good k t ∧ Q (.int (whyI (CaCanal.left t i))) H
theorem gd_why_not_leave (T : Txt K mg A) : GDef P w K mg base CX0 2 "why_not_leave" ["stand", "boat"] sp_why_not_leave := by
  obtain ⟨f, fd, hm, F⟩ := T.t_why_not_leave
  refine ⟨f, fd, hm, F.kp, ?_, F.binds (fun _ _ _ _ _ _ us hl => match us, hl with | [_, _], _ => rfl)⟩
  refine F.ok sc_why_not_leave (fun vs H Q E h => ?_) (fun cdv Ar outer s H vs Q E hr h => ⟨_, (pss_cons (ps_asg (pv 0) (pg_tup rfl (pgs_cons (pg_name (i := 2) sc_why_not_leave.nd rfl (Or.inl rfl)) (pgs_cons (pg_name (i := 3) sc_why_not_leave.nd rfl (Or.inl rfl)) (pgs_cons (pg_name (i := 4) sc_why_not_leave.nd rfl (Or.inl rfl)) pgs_nil)))))
    (pss_cons (ps_if (pt_not (pt_val (pe_g (gd_is_boat T) (hr.mono (by decide)) rfl pass0 (pa_cons (pv 4) (pa_cons (pv 1) pa_nil))))) (pss_one (ps_ret (pe_globI rfl T.c_NONE_SUCH_operations))) pss_nil)
    (pss_cons (ps_if (pt_not (pt_val (pe_g (gd_is_in_lock T) (hr.mono (by decide)) rfl pass0 (pa_cons (pe_ix ix_tup (pv 4) (pv 1) (fun _ _ => rfl)) pa_nil)))) (pss_one (ps_ret (pe_globI rfl T.c_NOT_SO_operations))) pss_nil)
    (pss_one (ps_ret pe_int))))), ?_⟩)
  · obtain ⟨a, i, k, t, rfl, hs, hg, q⟩ := h; rfl
  obtain ⟨a, i, k, t, rfl, hs, hg, q⟩ := h
  obtain ⟨w, f, b, h0, h1, h2, h3⟩ := hs.ex
  refine un3 rfl h0 ?_
  refine ⟨_, rfl, _, rfl, b, i, t.boats, rfl, h3, hg.b, _, rfl, ite2 (fun e => ?_) fun e => ?_⟩
  · have e := nb_t e
    refine qi q ?_
    unfold CaCanal.left CaCanal.Stand.at_
    rw [if_pos (by omega)]
    rfl
  have e := nb_f e
  have hi : i < t.boats.length := Classical.byContradiction fun z => e (at_four hg i (by have := hg.b; omega))
  refine ⟨_, rfl, _, rfl, _, _, _, _, rfl, rfl, SqT.rd h3.rd, at_bo hi, _, rfl, _, rfl, ite2 (fun e2 => ?_) fun e2 => ?_⟩
  · have e2 := nb_t e2
    refine qi q ?_
    unfold CaCanal.left CaCanal.Stand.at_
    rw [if_neg (by omega), if_pos (by omega)]
    rfl
  · have e2 := nb_f e2
    refine qi q ?_
    unfold CaCanal.left CaCanal.Stand.at_
    rw [if_neg (by omega), if_neg (by omega)]
    rfl
def sp_left_for : Sp := fun vs H Q _ => ∃ (a : Addr) (i : Nat) (fs : List Bool), vs = [.ref a, nv i] ∧ TB H a fs ∧ i < fs.length ∧ Q (.int (2 * (((if fs.getD i false = true then i else i + 1 : Nat) : Nat) : Int))) H
theorem gd_left_for (T : Txt K mg A) : GDef P w K mg base CX0 2 "left_for" ["fulls", "lock"] sp_left_for := by
  obtain ⟨f, fd, hm, F⟩ := T.t_left_for
  refine ⟨f, fd, hm, F.kp, ?_, F.binds (fun _ _ _ _ _ _ us hl => match us, hl with | [_, _], _ => rfl)⟩
  refine F.ok sc_left_for (fun vs H Q E h => ?_) (fun cdv Ar outer s H vs Q E hr h => ⟨_, (pss_cons (ps_if (pt_val (pe_ix ix_tup (pv 0) (pv 1) (fun _ _ => rfl))) (pss_one (ps_ret (pe_g (gd_in_pound T) (hr.mono (by decide)) rfl pass0 (pa_cons (pv 1) pa_nil)))) pss_nil)
    (pss_one (ps_ret (pe_g (gd_in_pound T) (hr.mono (by decide)) rfl pass0 (pa_cons (pe_op op_add (pv 1) pe_int) pa_nil))))), ?_⟩)
  · obtain ⟨a, i, fs, rfl, ha, hi, q⟩ := h; rfl
  obtain ⟨a, i, fs, rfl, ha, hi, q⟩ := h
  refine ⟨_, rfl, _, rfl, _, _, _, _, rfl, rfl, SqT.rd ha, at_map (d := false) hi, _, rfl, ite2 (fun e2 => ?_) fun e2 => ?_⟩
  · rw [if_pos e2] at q
    exact ⟨_, rfl, i, rfl, q⟩
  · rw [if_neg e2] at q
    exact ⟨_, rfl, _, _, rfl, rfl, i + 1, rfl, q⟩
end
end Cn
end
section
set_option Elab.async false
set_option linter.all false
set_option maxRecDepth 100000
set_option maxHeartbeats 4000000
namespace Cn
open PySem PySem.Spec PyProof.Rows L2
open CaCanal (Canal Stand Op)
open Cm (GoodK Good getD_set)
/-! ### pure: poured, turn by turn -/
theorem poured_step : ∀ (ps : List CaCanal.Pound) (ws : List Nat) (i q : Nat), ws.length = ps.length → i < ws.length →
    CaCanal.poured ps ws i q = CaCanal.poured ps (ws.set i (min (ps.getD i ⟨0, 0⟩).high (ws.getD i 0 + q))) (i + 1) (ws.getD i 0 + q - min (ps.getD i ⟨0, 0⟩).high (ws.getD i 0 + q))
  | [], ws, i, q, h, hi => by simp at h; subst h; simp at hi
  | p :: ps, [], i, q, h, hi => by simp at hi
  | p :: ps, x :: ws, 0, q, h, hi => rfl
  | p :: ps, x :: ws, i + 1, q, h, hi => by
    have ih := poured_step ps ws i q (by simpa using h) (by simpa using hi)
    show ((x :: (CaCanal.poured ps ws i q).1, (CaCanal.poured ps ws i q).2) : List Nat × Nat) = _
    rw [ih]
    rfl
theorem poured_end : ∀ (ps : List CaCanal.Pound) (ws : List Nat) (i q : Nat), ws.length = ps.length → ws.length ≤ i → CaCanal.poured ps ws i q = (ws, q)
  | [], ws, i, q, h, _ => by
    simp at h
    subst h
    simp [CaCanal.poured]
  | p :: ps, [], i, q, h, _ => by simp at h
  | p :: ps, x :: ws, 0, q, h, hi => by simp at hi
  | p :: ps, x :: ws, i + 1, q, h, hi => by
    have ih := poured_end ps ws i q (by simpa using h) (by simpa using hi)
    show ((x :: (CaCanal.poured ps ws i q).1, (CaCanal.poured ps ws i q).2) : List Nat × Nat) = _
    rw [ih]
theorem range_getD {α : Type} (l : List α) (d : α) : (List.range l.length).map (fun i => l.getD i d) = l := by
  apply List.ext_getElem?
  intro i
  rw [List.getElem?_map]
  by_cases h : i < l.length
  · rw [List.getElem?_range h, Option.map_some, List.getD_eq_getElem?_getD, List.getElem?_eq_getElem h]
    rfl
  · rw [List.getElem?_eq_none (by simpa using h), List.getElem?_eq_none (by omega)]
    rfl
theorem fm_range {α β : Type} (l : List α) (d : α) (g : α → Option β) : (List.range l.length).filterMap (fun i => g (l.getD i d)) = l.filterMap g := by
  have e : (fun i => g (l.getD i d)) = g ∘ (fun i => l.getD i d) := rfl
  rw [e, ← List.filterMap_map, range_getD]
section
variable {P : Program} {w : World} {K : PySem.W.Frag} {mg : Str → Option Value} {base : Heap} {A : Ad}
/-- row[:at] + (one,) + row[at + 1:] -/
def sp_with_one : Sp := fun vs H Q _ => ∃ (a : Addr) (i : Nat) (v : V) (xs : List V), vs = [.ref a, nv i, v] ∧ Rd H a (.tup xs) ∧ i < xs.length ∧ xs.length ≤ 1000 ∧
  ∀ (H' : Hp) (p : Addr), Same H H' → Rd H' p (.tup (xs.set i v)) → (2 ≤ xs.length → TF H' p (xs.set i v)) → Q (.ref p) H'
theorem gd_with_one (T : Txt K mg A) : GDef P w K mg base CX0 1 "with_one" ["row", "at", "one"] sp_with_one := by
  obtain ⟨f, fd, hm, F⟩ := T.t_with_one
  refine ⟨f, fd, hm, F.kp, ?_, F.binds (fun _ _ _ _ _ _ us hl => match us, hl with | [_, _, _], _ => rfl)⟩
  refine F.ok sc_with_one (fun vs H Q E h => ?_) (fun cdv Ar outer s H vs Q E hr h => ⟨_, (pss_one (ps_ret (pe_op op_catFS (pe_op op_catFS (pe_slice sl_tupS (pv 0) po_none (po_some (pv 1))) (pe_tupS (pa_cons (pv 2) pa_nil))) (pe_slice sl_tupS (pv 0) (po_some (pe_op op_add (pv 1) pe_int)) po_none)))), ?_⟩)
  · obtain ⟨a, i, v, xs, rfl, h0, hi, hz, q⟩ := h; rfl
  obtain ⟨a, i, v, xs, rfl, h0, hi, hz, q⟩ := h
  have es : xs.set i v = xs.take i ++ [v] ++ xs.drop (i + 1) := by
    rw [List.set_eq_take_append_cons_drop, if_pos hi, List.append_assoc]
    rfl
  have e1 : cutV xs none (some (i : Int)) = xs.take i := by
    unfold cutV
    rw [HT.sIx_nat, HT.sIx_none, Nat.min_eq_left (by omega)]
    simp
  have e2 : cutV xs (some ((i : Int) + 1)) none = xs.drop (i + 1) := by
    have e : (i : Int) + 1 = ((i + 1 : Nat) : Int) := rfl
    unfold cutV
    rw [e, HT.sIx_nat, HT.sIx_none, Nat.min_eq_left (by omega)]
    apply List.take_of_length_le
    simp
  have hz2 : (1000 : Nat) ≤ sizeLine := by decide
  -- what stands behind the first +
  have fin : ∀ (p : Addr) (H2 : Hp), Same H H2 → Rd H2 p (.tup (xs.take i ++ [v])) → (xs.take i ≠ [] → TF H2 p (xs.take i ++ [v])) →
      (tSl (rSlTS K) (tVar 0) (tPart (tOp (rI0 fun i j => .int (i + j)) (tVar 1) (tC (.int 1)))) tNoPart) (start ["row", "at", "one"] [.ref a, nv i, v]) H2 fun y H3 => rCatFS K (.ref p) y H3 Q := by
    intro p H2 s2 hp hf
    refine ⟨_, rfl, _, rfl, _, _, rfl, rfl, _, rfl, a, xs, rfl, SqT.rd (rdSame s2 h0), fun z => ?_, fun _ => ?_⟩
    · exfalso
      have z1 : HT.sIx xs.length 0 (some ((i + 1 : Nat) : Int)) = 0 := z.1
      rw [HT.sIx_nat] at z1
      omega
    · rw [e2]
      intro p3 H3 n3 s3 g3
      refine ⟨p, p3, _, _, rfl, rfl, SqT.rd (rdSame s3 hp), SqT.of g3, ?_, fun z => ?_, fun _ z => ?_, fun _ z => ?_⟩
      · simp only [List.length_append, List.length_take, List.length_drop, List.length_cons, List.length_nil]
        omega
      · simp at z
      · refine q H3 p (s2.trans s3) ?_ fun hl => ?_
        · rw [es, z, List.append_nil]
          exact rdSame s3 hp
        · rw [es, z, List.append_nil]
          have hi2 : xs.drop (i + 1) = [] := z
          have : xs.length ≤ i + 1 := by simpa using hi2
          exact (hf (by
            intro y
            have := congrArg List.length y
            rw [List.length_take, List.length_nil] at this
            omega)).at (Tq.of_same s3)
      · intro p4 H4 n4 s4 g4
        rw [← es] at g4
        exact q H4 p4 ((s2.trans s3).trans s4) g4.rd fun _ => g4
  refine ⟨_, rfl, _, rfl, _, rfl, a, xs, rfl, SqT.rd h0, fun z => ?_, fun _ => ?_⟩
  · exfalso
    have z2 := z.2
    rw [HT.sIx_nat] at z2
    omega
  · rw [e1]
    intro p1 H1 n1 s1 g1
    refine ⟨_, rfl, (by show 1 ≤ sizeLine; decide), fun p2 H2 n2 s2 g2 => ?_⟩
    refine ⟨p1, p2, _, _, rfl, rfl, SqT.of (s2 _ _ g1), SqT.of g2, ?_, fun z => ?_, fun _ z => ?_, fun hne _ => ?_⟩
    · simp only [List.length_take, List.length_cons, List.length_nil]
      omega
    · refine fin p2 H2 (s1.trans s2) (.inl (by rw [z]; exact g2)) fun z2 => absurd z z2
    · cases z
    · intro p3 H3 n3 s3 g3
      exact fin p3 H3 ((s1.trans s2).trans s3) g3.rd fun _ => g3
/-- poured -/
def sp_poured (A : Ad) : Sp := fun vs H Q _ => ∃ (c a : Addr) (at_ amt : Nat) (k : Canal) (ws : List Nat), vs = [.ref c, .ref a, nv at_, nv amt] ∧ CanAt A H c k ∧ TN H a ws ∧ ws.length = k.pounds.length ∧ ws.length ≤ 100 ∧ at_ ≤ 100 ∧
  ∀ (H' : Hp) (p b : Addr), Same H H' → Rd H' p (.tup [.ref b, nv (CaCanal.poured k.pounds ws at_ amt).2]) → TN H' b (CaCanal.poured k.pounds ws at_ amt).1 → Q (.ref p) H'
theorem gd_poured (T : Txt K mg A) : GDef P w K mg base CX0 1 "poured" ["canal", "waters", "at", "amount"] (sp_poured A) := by
  obtain ⟨f, fd, hm, F⟩ := T.t_poured
  refine ⟨f, fd, hm, F.kp, ?_, F.binds (fun _ _ _ _ _ _ us hl => match us, hl with | [_, _, _, _], _ => rfl)⟩
  refine F.ok sc_poured (fun vs H Q E h => ?_) (fun cdv Ar outer s H vs Q E hr h => ⟨_, (pss_cons (ps_set (i := 4) sc_poured.nd rfl (Or.inl rfl) (pe_callTy call_list_ofS (by rfl) T.b_list (by decide +kernel) (pa_cons (pv 1) pa_nil)))
    (pss_cons (ps_set (i := 5) sc_poured.nd rfl (Or.inl rfl) (pv 3))
    (pss_cons (ps_for PassesOwn.never rfl (pi_range2 (by rfl) T.b_range (pa_cons (pv 2) (pa_cons (pe_callB call_len_seq (by rfl) T.b_len PySem.boot_len (pa_cons (pv 4) pa_nil)) pa_nil))) (pg_name (i := 6) sc_poured.nd rfl (Or.inl rfl)) (pss_cons (ps_set (i := 7) sc_poured.nd rfl (Or.inl rfl) (pe_callB (call_min2 rfl) (by rfl) T.b_min (by decide +kernel) (pa_cons (pv 5) (pa_cons (pe_op op_sub (pe_ix ix_list (pe_fld (pv 0) rfl) (pv 6) (fun _ _ => rfl)) (pe_ix ix_list (pv 4) (pv 6) (fun _ _ => rfl))) pa_nil))))
    (pss_cons (ps_augS (pv 4) (pv 6) get_list (pv 7) ip_add set_list)
    (pss_one (ps_aug (i := 5) sc_poured.nd rfl (Or.inl rfl) (pv 7) ip_sub)))))
    (pss_one (ps_ret (pe_tupS (pa_cons (pe_callTy call_tuple_ofS (by rfl) T.b_tuple (by decide +kernel) (pa_cons (pv 4) pa_nil)) (pa_cons (pv 5) pa_nil)))))))), ?_⟩)
  · obtain ⟨c, a, i0, amt, k, ws, rfl, hc, ha, hl, hz, hz2, q⟩ := h; rfl
  obtain ⟨c, a, i0, amt, k, ws, rfl, hc, ha, hl, hz, hz2, q⟩ := h
  have hline : (1000 : Nat) ≤ sizeLine := by decide
  obtain ⟨dx, a1, a2, a3, a4, g0, g1, g2, g3, g4⟩ := hc.ex
  refine ⟨_, rfl, _, _, rfl, .inr (SqT.rd ha), fun l H1 n1 s1 l1 => ?_⟩
  refine ⟨_, rfl, ?_⟩
  refine ⟨_, rfl, _, rfl, _, _, rfl, .inl (SqL.of l1), (i0 : Int), ((ws.map nv).length : Int), rfl, ⟨by omega, by omega, by omega, by rw [List.length_map]; omega⟩, ?_⟩
  rw [List.length_map]
  refine for_range (fun j σ H' => ∃ (ws' : List Nat) (q' : Nat) (v6 v7 : Option V), σ = [some (.ref c), some (.ref a), some (nv i0), some (nv amt), some (.ref l), some (nv q'), v6, v7] ∧ Same H H' ∧ H' l = some (.lst (ws'.map nv)) ∧
      ws'.length = k.pounds.length ∧ CaCanal.poured k.pounds ws' (i0 + j) q' = CaCanal.poured k.pounds ws i0 amt)
    ⟨ws, amt, none, none, rfl, s1, l1, hl, rfl⟩ (fun j σ H' hj h => ?_) fun σ H' h => ?_
  · obtain ⟨ws', q', v6, v7, rfl, s2, l2, e1, e2⟩ := h
    have ei : (i0 : Int) + (j : Int) = ((i0 + j : Nat) : Int) := by omega
    rw [ei]
    have hi : i0 + j < ws'.length := by omega
    have hp : i0 + j < k.pounds.length := by omega
    refine ⟨_, rfl, _, rfl, _, _, _, _, _, rfl, s2 _ _ g0, T.cl_Canal, T.n_Canal_most, lC_most, _, rfl, _, _, _, _, rfl, rfl, SqL.of (s2 _ _ g2), at_map (d := ⟨0, 0⟩) hp, _, rfl, _, rfl, _, _, _, _, rfl, rfl, SqL.of l2, at_map (d := 0) hi,
      _, _, rfl, rfl, _, _, rfl, ?_⟩
    have est : ∀ h w' : Nat, (if (h : Int) - (w' : Int) < (q' : Int) then (h : Int) - (w' : Int) else (q' : Int)) = ((min h (w' + q') : Nat) : Int) - (w' : Int) := fun h w' => by
      split <;> omega
    rw [est]
    refine ⟨_, rfl, _, rfl, l, ws'.map nv, i0 + j, nv (ws'.getD (i0 + j) 0), rfl, rfl, SqL.of l2, ?_, _, rfl, _, _, rfl, rfl, l, ws'.map nv, _, i0 + j, rfl, rfl, l2, ?_, ?_⟩
    · rw [List.getElem?_map, List.getD_eq_getElem?_getD, List.getElem?_eq_getElem hi]
      rfl
    · unfold ixN
      rw [List.length_map, if_pos (by omega), if_pos (by omega), Int.toNat_natCast]
    refine ⟨_, rfl, _, rfl, _, _, rfl, rfl, ?_⟩
    have st := poured_step k.pounds ws' (i0 + j) q' e1 hi
    rw [e2] at st
    refine ⟨ws'.set (i0 + j) (min (k.pounds.getD (i0 + j) ⟨0, 0⟩).high (ws'.getD (i0 + j) 0 + q')), ws'.getD (i0 + j) 0 + q' - min (k.pounds.getD (i0 + j) ⟨0, 0⟩).high (ws'.getD (i0 + j) 0 + q'), some (nv (i0 + j)), some (.int (((min (k.pounds.getD (i0 + j) ⟨0, 0⟩).high (ws'.getD (i0 + j) 0 + q') : Nat) : Int) - ((ws'.getD (i0 + j) 0 : Nat) : Int))), ?_, same_mut s2 n1, ?_, ?_, ?_⟩
    · have eq5 : (q' : Int) - (((min (k.pounds.getD (i0 + j) ⟨0, 0⟩).high (ws'.getD (i0 + j) 0 + q') : Nat) : Int) - ((ws'.getD (i0 + j) 0 : Nat) : Int)) = ((ws'.getD (i0 + j) 0 + q' - min (k.pounds.getD (i0 + j) ⟨0, 0⟩).high (ws'.getD (i0 + j) 0 + q') : Nat) : Int) := by omega
      exact congrArg (fun z => [some (V.ref c), some (V.ref a), some (nv i0), some (nv amt), some (V.ref l), some (V.int z), some (nv (i0 + j)), some (V.int (((min (k.pounds.getD (i0 + j) ⟨0, 0⟩).high (ws'.getD (i0 + j) 0 + q') : Nat) : Int) - ((ws'.getD (i0 + j) 0 : Nat) : Int)))]) eq5
    · rw [upd_same, List.map_set]
      refine congrArg some (congrArg HO.lst (congrArg (List.set _ _) (congrArg V.int ?_)))
      show ((ws'.getD (i0 + j) 0 : Nat) : Int) + (((min (k.pounds.getD (i0 + j) ⟨0, 0⟩).high (ws'.getD (i0 + j) 0 + q') : Nat) : Int) - ((ws'.getD (i0 + j) 0 : Nat) : Int)) = _
      omega
    · rw [List.length_set]
      exact e1
    · rw [st]
      rfl
  · obtain ⟨ws', q', v6, v7, rfl, s2, l2, e1, e2⟩ := h
    rw [poured_end k.pounds ws' _ q' e1 (by omega)] at e2
    refine ⟨_, rfl, _, _, rfl, SqL.of l2, fun b H3 n3 s3 b3 => ?_⟩
    refine ⟨_, rfl, (by show 2 ≤ sizeLine; decide), fun p H4 n4 s4 p4 => ?_⟩
    rw [← e2] at q
    exact q H4 p b ((s2.trans s3).trans s4) (.inl p4) (.inl (s4 _ _ b3))
end
end Cn
end
section
set_option Elab.async false
set_option linter.all false
set_option maxRecDepth 100000
set_option maxHeartbeats 4000000
namespace Cn
open PySem PySem.Spec PyProof.Rows L2
open CaCanal (Canal Stand Op)
open Cm (GoodK Good getD_set)
theorem nvI {n m : Nat} (h : decide (nv n = V.int (m : Int)) = true) : n = m := by
  have e := of_decide_eq_true h
  rw [V.int.injEq] at e
  omega
theorem nvN {n m : Nat} (h : ¬ decide (nv n = V.int (m : Int)) = true) : n ≠ m := fun e => h (decide_eq_true (by rw [e]))
/-! ### what an operation that can be done asks -/
theorem filled_so {k : Canal} {t t' : Stand} {i n : Nat} (h : CaCanal.filled k t i = .so t' n) : i < k.locks.length ∧ t.full.getD i false = false ∧ (k.pound i).low + (k.lock i).volume ≤ t.water.getD i 0 ∧
    t' = { t with water := t.water.set i (t.water.getD i 0 - (k.lock i).volume), full := t.full.set i true } ∧ n = 0 := by
  unfold CaCanal.filled at h
  split at h
  · cases h
  · split at h
    · cases h
    · dsimp only at h
      split at h
      · cases h
      · rename_i h1 h2 h3
        cases h
        exact ⟨by omega, by simpa using h2, by omega, rfl, rfl⟩
theorem emptied_so {k : Canal} {t t' : Stand} {i n : Nat} (h : CaCanal.emptied k t i = .so t' n) : i < k.locks.length ∧ t.full.getD i false = true ∧
    t' = { t with water := (CaCanal.poured k.pounds t.water (i + 1) (k.lock i).volume).1, full := t.full.set i false } ∧ n = (CaCanal.poured k.pounds t.water (i + 1) (k.lock i).volume).2 := by
  unfold CaCanal.emptied at h
  split at h
  · cases h
  · split at h
    · cases h
    · rename_i h1 h2
      cases h
      exact ⟨by omega, by simpa using h2, rfl, rfl⟩
theorem entered_so {k : Canal} {t t' : Stand} {b i n : Nat} (h : CaCanal.entered k t b i = .so t' n) : t.at_ b ≠ 0 ∧ i < k.locks.length ∧ t' = { t with boats := t.boats.set b (CaCanal.inLock i) } ∧ n = 0 := by
  unfold CaCanal.entered at h
  split at h
  · cases h
  · split at h
    · cases h
    · split at h
      · cases h
      · split at h
        · cases h
        · rename_i h1 _ _ _
          cases h
          exact ⟨fun z => h1 (.inl z), Nat.lt_of_not_le fun z => h1 (.inr z), rfl, rfl⟩
theorem left_so {t t' : Stand} {b n : Nat} (h : CaCanal.left t b = .so t' n) : t.at_ b ≠ 0 ∧ t.at_ b % 2 = 0 ∧ t' = { t with boats := t.boats.set b (CaCanal.inPound n) } ∧ n = if t.full.getD (t.at_ b / 2 - 1) false = true then t.at_ b / 2 - 1 else t.at_ b / 2 - 1 + 1 := by
  unfold CaCanal.left at h
  split at h
  · cases h
  · split at h
    · cases h
    · rename_i h1 h2
      cases h
      exact ⟨h1, by omega, rfl, rfl⟩
theorem boat_lt {k : Canal} {t : Stand} (hg : Good k t) {b : Nat} (h : t.at_ b ≠ 0) : b < t.boats.length := Classical.byContradiction fun z => h (at_four hg b (by have := hg.b; omega))
/-- the sum of what is filtered -/
theorem sum_fm {α : Type} (p : α → Bool) (f : α → Nat) : ∀ l : List α, (l.filterMap fun x => if p x = true then some ((f x : Nat) : Int) else none).sum = (((l.map fun x => if p x = true then f x else 0).sum : Nat) : Int)
  | [] => rfl
  | x :: l => by
    have ih := sum_fm p f l
    rw [List.map_cons, List.sum_cons]
    by_cases c : p x = true
    · rw [List.filterMap_cons_some (by rw [if_pos c]), List.sum_cons, ih, if_pos c]
      omega
    · rw [List.filterMap_cons_none (by rw [if_neg c]), ih, if_neg c]
      omega
theorem fm_congr {α β : Type} {f g : α → Option β} : ∀ {l : List α}, (∀ x ∈ l, f x = g x) → l.filterMap f = l.filterMap g
  | [], _ => rfl
  | x :: l, h => by
    have ih := fm_congr (l := l) fun y hy => h y (List.mem_cons_of_mem _ hy)
    rw [List.filterMap_cons, List.filterMap_cons, h x List.mem_cons_self, ih]
theorem zip_getD {α β : Type} {l : List α} {m : List β} {a : α} {b : β} {i : Nat} (h1 : i < l.length) (h2 : i < m.length) : (l.zip m).getD i (a, b) = (l.getD i a, m.getD i b) := by
  have h : i < (l.zip m).length := by rw [List.length_zip]; omega
  simp only [List.getD_eq_getElem?_getD, List.getElem?_eq_getElem h, List.getElem?_eq_getElem h1, List.getElem?_eq_getElem h2, List.getElem_zip, Option.getD_some]
section
variable {P : Program} {w : World} {K : PySem.W.Frag} {mg : Str → Option Value} {base : Heap} {A : Ad}
def sp_all_water (A : Ad) : Sp := fun vs H Q _ => ∃ (c a : Addr) (k : Canal) (t : Stand), vs = [.ref c, .ref a] ∧ CanAt A H c k ∧ StAt H a t ∧ k.locks.length = t.full.length ∧ t.full.length ≤ 100 ∧ ∀ H', Same H H' → Q (nv (CaCanal.total k t)) H'
theorem gd_all_water (T : Txt K mg A) : GDef P w K mg base CX0 1 "all_water" ["canal", "stand"] (sp_all_water A) := by
  obtain ⟨f, fd, hm, F⟩ := T.t_all_water
  refine ⟨f, fd, hm, F.kp, ?_, F.binds (fun _ _ _ _ _ _ us hl => match us, hl with | [_, _], _ => rfl)⟩
  refine F.ok sc_all_water (fun vs H Q E h => ?_) (fun cdv Ar outer s H vs Q E hr h => ⟨_, (pss_cons (ps_asg (pv 1) (pg_tup rfl (pgs_cons (pg_name (i := 2) sc_all_water.nd rfl (Or.inl rfl)) (pgs_cons (pg_name (i := 3) sc_all_water.nd rfl (Or.inl rfl)) (pgs_cons (pg_name (i := 4) sc_all_water.nd rfl (Or.inl rfl)) pgs_nil)))))
    (pss_one (ps_ret (pe_op op_add (pe_callB (cr_sumT rfl) (by rfl) T.b_sum (by decide +kernel) (pa_cons (pv 2) pa_nil)) (pe_callB (cr_sum rfl) (by rfl) T.b_sum (by decide +kernel) (pa_cons (by exact (pe_lc (own := [("i", 5), ("full", 6)]) (g := (gTup K 2 (gCons (gName 5) (gCons (gName 6) gNil)))) (tt := (tB (tVar 6))) (te := (tOp (rIxL K) (tFld K (tVar 0) "volumes") (tVar 5))) rfl sc_all_water.nd (pi_enumT (by rfl) T.b_enumerate (pa_cons (pv 3) pa_nil)) (blkOk_by (N := ["canal", "stand", "waters", "fulls", "boats", "i", "full"]) (sc := defScope s_all_water) (by decide +kernel)) (fun _ _ _ _ _ => by exact (pg_tup rfl (pgs_cons (pg_name (i := 5) sc_all_water.nd rfl (Or.inl rfl)) (pgs_cons (pg_name (i := 6) sc_all_water.nd rfl (Or.inl rfl)) pgs_nil)))) (fun _ _ _ _ _ => by exact (pts_one (pt_val (pv 6)))) (fun _ _ _ _ _ => by exact (pe_ix ix_list (pe_fld (pv 0) rfl) (pv 5) (fun _ _ => rfl))))) pa_nil)))))), ?_⟩)
  · obtain ⟨c, a, k, t, rfl, hc, hs, hl, hz, q⟩ := h; rfl
  obtain ⟨c, a, k, t, rfl, hc, hs, hl, hz, q⟩ := h
  obtain ⟨dx, a1, a2, a3, a4, g0, g1, g2, g3, g4⟩ := hc.ex
  obtain ⟨w, f, b, h0, h1, h2, h3⟩ := hs.ex
  have hline : (1000 : Nat) ≤ sizeLine := by decide
  refine un3 rfl h0 ?_
  refine ⟨_, rfl, w, t.water.map (fun n : Nat => (n : Int)), rfl, ?_, ?_⟩
  · rw [List.map_map]
    exact SqT.rd h1
  refine ⟨_, rfl, f, _, rfl, SqT.rd h2, fun D hD => ?_⟩
  refine lc_rel walk_enumT hD (by rw [List.length_map]; omega) (fun _ v (z : Int) => v = .int z) (fun _ _ _ _ _ z => z) (fun i => if t.full.getD i false = true then some (((k.lock i).volume : Nat) : Int) else none) (fun H' s' => SqT.rd (rdSame s' h2)) (fun i x H' H'' hi s' y R r0 r1 => ?_) fun H' xs s' hx pr => ?_
  · obtain ⟨U, x1, x2, rfl, hU, rfl, e1, e2⟩ := y
    cases e1
    obtain ⟨hi2, rfl⟩ := get_map false e2
    have hil : i < k.locks.length := by omega
    have s2 := same_new (u := .tup [V.int (i : Nat), V.bl (t.full.getD i false)]) hU
    refine ⟨U, _, rfl, SqT.of upd_same, rfl, _, _, rfl, _, _, rfl, rfl, rfl, _, rfl, _, rfl, ite2 (fun e => ?_) fun e => ?_⟩
    · exact ⟨_, rfl, _, _, _, _, _, rfl, s2 _ _ (s' _ _ g0), T.cl_Canal, T.n_Canal_volumes, lC_volumes, _, rfl, _, _, _, _, rfl, rfl, SqL.of (s2 _ _ (s' _ _ g3)), at_map (d := ⟨0, 0⟩) hil, r1 _ (if_pos e) _ _ s2 rfl⟩
    · exact r0 (if_neg e) _ s2
  · have e1 := paired_eq V.int pr
    refine ⟨D, _, rfl, SqL.of (e1 ▸ hx), _, _, rfl, rfl, qi (q H' s') ?_⟩
    rw [List.length_map]
    have e2 : (List.range t.full.length).filterMap (fun i => if t.full.getD i false = true then some (((k.lock i).volume : Nat) : Int) else none) = (k.locks.zip t.full).filterMap fun x => if x.2 = true then some ((x.1.volume : Nat) : Int) else none := by
      have e3 : (k.locks.zip t.full).length = t.full.length := by rw [List.length_zip, hl, Nat.min_self]
      rw [← fm_range (k.locks.zip t.full) (⟨0, 0⟩, false), e3]
      refine fm_congr fun i hi => ?_
      have hi := List.mem_range.mp hi
      rw [zip_getD (by omega) hi]
      rfl
    rw [e2, sum_fm (fun x : CaCanal.Lock × Bool => x.2) fun x => x.1.volume]
    unfold CaCanal.total
    have e4 : ∀ l : List Nat, (l.map fun n : Nat => (n : Int)).sum = ((l.sum : Nat) : Int) := fun l => by
      induction l with
      | nil => rfl
      | cons x l ih => rw [List.map_cons, List.sum_cons, List.sum_cons, ih]; omega
    rw [e4]
    omega
def sp_why_not_enter (A : Ad) : Sp := fun vs H Q _ => ∃ (c a : Addr) (b i : Nat) (k : Canal) (t : Stand), vs = [.ref c, .ref a, nv b, nv i] ∧ CanAt A H c k ∧ StAt H a t ∧ GoodK k ∧ Good k t ∧ ∀ H', Same H H' → Q (.int (whyI (CaCanal.entered k t b i))) H'
theorem gd_why_not_enter (T : Txt K mg A) : GDef P w K mg base CX0 3 "why_not_enter" ["canal", "stand", "boat", "lock"] (sp_why_not_enter A) := by
  obtain ⟨f, fd, hm, F⟩ := T.t_why_not_enter
  refine ⟨f, fd, hm, F.kp, ?_, F.binds (fun _ _ _ _ _ _ us hl => match us, hl with | [_, _, _, _], _ => rfl)⟩
  refine F.ok sc_why_not_enter (fun vs H Q E h => ?_) (fun cdv Ar outer s H vs Q E hr h => ⟨_, (pss_cons (ps_asg (pv 1) (pg_tup rfl (pgs_cons (pg_name (i := 4) sc_why_not_enter.nd rfl (Or.inl rfl)) (pgs_cons (pg_name (i := 5) sc_why_not_enter.nd rfl (Or.inl rfl)) (pgs_cons (pg_name (i := 6) sc_why_not_enter.nd rfl (Or.inl rfl)) pgs_nil)))))
    (pss_cons (ps_if (PW.pt (pw_or (pt_not (pt_val (pe_g (gd_is_boat T) (hr.mono (by decide)) rfl pass0 (pa_cons (pv 6) (pa_cons (pv 2) pa_nil))))) (pw_or1 (pt_cmpR op_ge (pv 3) (pe_gm0 (pv 0) T.cl_Canal (gd_Canal_many_locks T) (hr.mono (by decide)) pass0) (nomark _))))) (pss_one (ps_ret (pe_globI rfl T.c_NONE_SUCH_operations))) pss_nil)
    (pss_cons (ps_if (pt_cmpR op_notIn_seq (pe_ix ix_tup (pv 6) (pv 2) (fun _ _ => rfl)) (pe_tupS (pa_cons (pe_g (gd_in_pound T) (hr.mono (by decide)) rfl pass0 (pa_cons (pv 3) pa_nil)) (pa_cons (pe_g (gd_in_pound T) (hr.mono (by decide)) rfl pass0 (pa_cons (pe_op op_add (pv 3) pe_int) pa_nil)) pa_nil))) (by with_unfolding_all rfl)) (pss_one (ps_ret (pe_globI rfl T.c_NOT_SO_operations))) pss_nil)
    (pss_cons (ps_if (pt_not (pt_val (pe_g (gd_is_level T) (hr.mono (by decide)) rfl pass0 (pa_cons (pv 5) (pa_cons (pv 3) (pa_cons (pe_op op_fdiv (pe_ix ix_tup (pv 6) (pv 2) (fun _ _ => rfl)) pe_int) pa_nil)))))) (pss_one (ps_ret (pe_globI rfl T.c_NOT_ENOUGH))) pss_nil)
    (pss_cons (ps_if (pt_not (pt_val (pe_g (gd_has_room T) (hr.mono (by decide)) rfl pass0 (pa_cons (pv 0) (pa_cons (pv 6) (pa_cons (pv 3) pa_nil)))))) (pss_one (ps_ret (pe_globI rfl T.c_NO_ROOM))) pss_nil)
    (pss_one (ps_ret pe_int))))))), ?_⟩)
  · obtain ⟨c, a, b, i, k, t, rfl, hc, hs, hk, hg, q⟩ := h; rfl
  obtain ⟨c, a, b, i, k, t, rfl, hc, hs, hk, hg, q⟩ := h
  obtain ⟨dx, a1, a2, a3, a4, g0, g1, g2, g3, g4⟩ := hc.ex
  obtain ⟨w, f, bo, h0, h1, h2, h3⟩ := hs.ex
  refine un3 rfl h0 ?_
  refine ⟨_, rfl, _, rfl, bo, b, t.boats, rfl, h3, hg.b, _, rfl, ite2 (fun e => ?_) fun e => ?_⟩
  · have e := nb_t e
    refine iteT (qi (q H (Same.refl H)) ?_)
    unfold CaCanal.entered CaCanal.Stand.at_
    rw [if_pos (.inl (by omega))]
    rfl
  have e := nb_f e
  have hb := boat_lt hg (b := b) e
  refine ⟨_, rfl, _, rfl, _, _, _, rfl, g0, lC_many_locks, ⟨c, k, rfl, hc, _, _, rfl, rfl, _, rfl, ite2 (fun e2 => ?_) fun e2 => ?_⟩⟩
  · have e2 := of_decide_eq_true e2
    refine qi (q H (Same.refl H)) ?_
    unfold CaCanal.entered
    rw [if_pos (.inr (by omega))]
    rfl
  have e2 := b_f e2
  have hi : i < k.locks.length := by omega
  have n1 : ¬ (t.at_ b = 0 ∨ k.locks.length ≤ i) := fun z => z.elim e fun z => by omega
  refine ⟨_, rfl, _, rfl, _, _, _, _, rfl, rfl, SqT.rd h3.rd, at_bo hb, _, rfl, i, rfl, _, rfl, _, _, rfl, rfl, i + 1, rfl, (by show 2 ≤ sizeLine; decide), fun p H1 np s1 p1 => ?_⟩
  refine ⟨p, _, rfl, .inr (SqT.of p1), rfl, rfl, _, rfl, ite2 (fun e3 => ?_) fun e3 => ?_⟩
  · refine qi (q H1 s1) ?_
    unfold CaCanal.entered
    rw [if_neg n1, if_pos ?_]
    · rfl
    · have e4 := nbb_t e3
      unfold inV at e4
      simp only [List.any_cons, List.any_nil, Bool.or_false, Bool.or_eq_false_iff] at e4
      have f1 : ¬ (2 * (i : Int) = pl (t.boats.getD b 0)) := fun z => by
        have e5 := e4.1
        rw [z] at e5
        simp [eqV] at e5
      have f2 : ¬ (2 * ((i + 1 : Nat) : Int) = pl (t.boats.getD b 0)) := fun z => by
        have e5 := e4.2
        rw [z] at e5
        simp [eqV] at e5
      unfold pl at f1 f2
      unfold CaCanal.inPound CaCanal.Stand.at_
      omega
  have ex : t.at_ b = CaCanal.inPound i ∨ t.at_ b = CaCanal.inPound (i + 1) := by
    have e4 := nbb_f e3
    unfold inV at e4
    simp only [List.any_cons, List.any_nil, Bool.or_false, Bool.or_eq_true] at e4
    unfold CaCanal.inPound CaCanal.Stand.at_
    rcases e4 with e4 | e4
    · have e5 : 2 * (i : Int) = pl (t.boats.getD b 0) := beq_iff_eq.mp e4
      unfold pl at e5
      omega
    · have e5 : 2 * ((i + 1 : Nat) : Int) = pl (t.boats.getD b 0) := beq_iff_eq.mp e4
      unfold pl at e5
      omega
  have n2 : ¬ (t.at_ b ≠ CaCanal.inPound i ∧ t.at_ b ≠ CaCanal.inPound (i + 1)) := fun z => ex.elim z.1 z.2
  have hf : i < t.full.length := by rw [hg.f]; exact hi
  have el : decide ((i : Int) = pl (t.boats.getD b 0) / 2) = decide (t.at_ b = CaCanal.inPound i) := decide_eq_decide.mpr (by
    unfold CaCanal.inPound CaCanal.Stand.at_ at ex
    unfold CaCanal.inPound CaCanal.Stand.at_ pl
    omega)
  refine ⟨_, rfl, _, rfl, _, rfl, _, rfl, _, _, _, _, rfl, rfl, SqT.rd (rdSame s1 h3.rd), at_bo hb, _, _, rfl, rfl, ⟨by decide, by decide⟩, f, i, _, t.full, rfl, rdSame s1 h2, hf, _, rfl, ite2 (fun e5 => ?_) fun e5 => ?_⟩
  · have e5 := nb_t e5
    rw [el] at e5
    refine qi (q H1 s1) ?_
    unfold CaCanal.entered
    rw [if_neg n1, if_neg n2, if_pos (bne_iff_ne.mpr e5)]
    rfl
  have e5 := nb_f e5
  rw [el] at e5
  have n3 : ¬ (t.full.getD i false != decide (t.at_ b = CaCanal.inPound i)) = true := fun z => bne_iff_ne.mp z e5
  refine ⟨_, rfl, _, rfl, _, rfl, c, bo, i, k, t.boats, rfl, hc.same s1, h3.at (Tq.of_same s1), hi, _, rfl, ite2 (fun e6 => ?_) fun e6 => ?_⟩
  · have e6 := nb_t e6
    refine qi (q H1 s1) ?_
    unfold CaCanal.entered
    rw [if_neg n1, if_neg n2, if_neg n3, if_pos (by unfold CaCanal.Stand.count; omega)]
    rfl
  · have e6 := nb_f e6
    refine qi (q H1 s1) ?_
    unfold CaCanal.entered
    rw [if_neg n1, if_neg n2, if_neg n3, if_neg (by unfold CaCanal.Stand.count; omega)]
    rfl
def sp_why_not (A : Ad) : Sp := fun vs H Q _ => ∃ (c a o : Addr) (k : Canal) (t : Stand) (op : Op), vs = [.ref c, .ref a, .ref o] ∧ CanAt A H c k ∧ StAt H a t ∧ OpAt H o op ∧ GoodK k ∧ Good k t ∧ ∀ H', Same H H' → Q (.int (whyI (CaCanal.done k t op))) H'
theorem gd_why_not (T : Txt K mg A) : GDef P w K mg base CX0 4 "why_not" ["canal", "stand", "operation"] (sp_why_not A) := by
  obtain ⟨f, fd, hm, F⟩ := T.t_why_not
  refine ⟨f, fd, hm, F.kp, ?_, F.binds (fun _ _ _ _ _ _ us hl => match us, hl with | [_, _, _], _ => rfl)⟩
  refine F.ok sc_why_not (fun vs H Q E h => ?_) (fun cdv Ar outer s H vs Q E hr h => ⟨_, (pss_cons (ps_asg (pv 2) (pg_tup rfl (pgs_cons (pg_name (i := 3) sc_why_not.nd rfl (Or.inl rfl)) (pgs_cons (pg_name (i := 4) sc_why_not.nd rfl (Or.inl rfl)) (pgs_cons (pg_name (i := 5) sc_why_not.nd rfl (Or.inl rfl)) pgs_nil)))))
    (pss_cons (ps_if (pt_cmpR op_eq (pv 3) (pe_globI rfl T.c_FILL) (nomark _)) (pss_one (ps_ret (pe_g (gd_why_not_fill T) (hr.mono (by decide)) rfl pass0 (pa_cons (pv 0) (pa_cons (pv 1) (pa_cons (pv 4) pa_nil)))))) pss_nil)
    (pss_cons (ps_if (pt_cmpR op_eq (pv 3) (pe_globI rfl T.c_EMPTY) (nomark _)) (pss_one (ps_ret (pe_g (gd_why_not_empty T) (hr.mono (by decide)) rfl pass0 (pa_cons (pv 0) (pa_cons (pv 1) (pa_cons (pv 4) pa_nil)))))) pss_nil)
    (pss_cons (ps_if (pt_cmpR op_eq (pv 3) (pe_globI rfl T.c_ENTER) (nomark _)) (pss_one (ps_ret (pe_g (gd_why_not_enter T) (hr.mono (by decide)) rfl pass0 (pa_cons (pv 0) (pa_cons (pv 1) (pa_cons (pv 4) (pa_cons (pv 5) pa_nil))))))) pss_nil)
    (pss_cons (ps_if (pt_cmpR op_eq (pv 3) (pe_globI rfl T.c_LEAVE) (nomark _)) (pss_one (ps_ret (pe_g (gd_why_not_leave T) (hr.mono (by decide)) rfl pass0 (pa_cons (pv 1) (pa_cons (pv 4) pa_nil))))) pss_nil)
    (pss_one (ps_ret (pe_globI rfl T.c_NONE_SUCH_operations)))))))), ?_⟩)
  · obtain ⟨c, a, o, k, t, op, rfl, hc, hs, ho, hk, hg, q⟩ := h; rfl
  obtain ⟨c, a, o, k, t, op, rfl, hc, hs, ho, hk, hg, q⟩ := h
  refine un3 rfl ho ?_
  unfold CaCanal.done at q
  refine ⟨_, rfl, rfl, _, rfl, ite2 (fun e => ?_) fun e => ?_⟩
  · have e := nvI (m := 0) e
    rw [if_pos e] at q
    exact ⟨_, rfl, _, rfl, _, rfl, c, a, op.2.1, k, t, rfl, hc, hs, hk, hg, q H (Same.refl H)⟩
  have e := nvN (m := 0) e
  rw [if_neg e] at q
  refine ⟨_, rfl, rfl, _, rfl, ite2 (fun e => ?_) fun e => ?_⟩
  · have e := nvI (m := 1) e
    rw [if_pos e] at q
    exact ⟨_, rfl, _, rfl, _, rfl, c, a, op.2.1, k, t, rfl, hc, hs, hk, hg, q H (Same.refl H)⟩
  have e := nvN (m := 1) e
  rw [if_neg e] at q
  refine ⟨_, rfl, rfl, _, rfl, ite2 (fun e => ?_) fun e => ?_⟩
  · have e := nvI (m := 2) e
    rw [if_pos e] at q
    exact ⟨_, rfl, _, rfl, _, rfl, _, rfl, c, a, op.2.1, op.2.2, k, t, rfl, hc, hs, hk, hg, q⟩
  have e := nvN (m := 2) e
  rw [if_neg e] at q
  refine ⟨_, rfl, rfl, _, rfl, ite2 (fun e => ?_) fun e => ?_⟩
  · have e := nvI (m := 3) e
    rw [if_pos e] at q
    exact ⟨_, rfl, _, rfl, a, op.2.1, k, t, rfl, hs, hg, q H (Same.refl H)⟩
  have e := nvN (m := 3) e
  rw [if_neg e] at q
  exact q H (Same.refl H)
/-- behind an operation that can be done -/
def sp_behind (A : Ad) : Sp := fun vs H Q _ => ∃ (c a o : Addr) (k : Canal) (t t' : Stand) (n : Nat) (op : Op), vs = [.ref c, .ref a, .ref o] ∧ CanAt A H c k ∧ StAt H a t ∧ OpAt H o op ∧ GoodK k ∧ Good k t ∧ CaCanal.done k t op = .so t' n ∧
  ∀ (H' : Hp) (p b : Addr), Same H H' → Rd H' p (.tup [.ref b, nv (if op.1 = 1 then n else 0)]) → StAt H' b t' → Q (.ref p) H'
theorem st_mk {H : Hp} {a w f b : Addr} {t : Stand} (h0 : Rd H a (.tup [.ref w, .ref f, .ref b])) (h1 : TN H w t.water) (h2 : TB H f t.full) (h3 : TBo H b t.boats) : StAt H a t := ⟨⟨w, f, b, h0, h1, h2, h3⟩⟩
theorem set_nv (l : List Nat) (i n : Nat) : (l.map nv).set i (nv n) = (l.set i n).map nv := by rw [List.map_set]
theorem set_bo (l : List Nat) (i n : Nat) : ((l.map pl).map V.int).set i (.int (pl n)) = ((l.set i n).map pl).map V.int := by rw [List.map_set, List.map_set]
theorem gd_behind (T : Txt K mg A) : GDef P w K mg base CX0 3 "behind" ["canal", "stand", "operation"] (sp_behind A) := by
  obtain ⟨f, fd, hm, F⟩ := T.t_behind
  refine ⟨f, fd, hm, F.kp, ?_, F.binds (fun _ _ _ _ _ _ us hl => match us, hl with | [_, _, _], _ => rfl)⟩
  refine F.ok sc_behind (fun vs H Q E h => ?_) (fun cdv Ar outer s H vs Q E hr h => ⟨_, (pss_cons (ps_asg (pv 2) (pg_tup rfl (pgs_cons (pg_name (i := 3) sc_behind.nd rfl (Or.inl rfl)) (pgs_cons (pg_name (i := 4) sc_behind.nd rfl (Or.inl rfl)) (pgs_cons (pg_name (i := 5) sc_behind.nd rfl (Or.inl rfl)) pgs_nil)))))
    (pss_cons (ps_asg (pv 1) (pg_tup rfl (pgs_cons (pg_name (i := 6) sc_behind.nd rfl (Or.inl rfl)) (pgs_cons (pg_name (i := 7) sc_behind.nd rfl (Or.inl rfl)) (pgs_cons (pg_name (i := 8) sc_behind.nd rfl (Or.inl rfl)) pgs_nil)))))
    (pss_cons (ps_if (pt_cmpR op_eq (pv 3) (pe_globI rfl T.c_FILL) (nomark _)) (pss_one (ps_ret (pe_tupS (pa_cons (pe_tupS (pa_cons (pe_g (gd_with_one T) (hr.mono (by decide)) rfl pass0 (pa_cons (pv 6) (pa_cons (pv 4) (pa_cons (pe_op op_sub (pe_ix ix_tup (pv 6) (pv 4) (fun _ _ => rfl)) (pe_ix ix_list (pe_fld (pv 0) rfl) (pv 4) (fun _ _ => rfl))) pa_nil)))) (pa_cons (pe_g (gd_with_one T) (hr.mono (by decide)) rfl pass0 (pa_cons (pv 7) (pa_cons (pv 4) (pa_cons pe_bl pa_nil)))) (pa_cons (pv 8) pa_nil)))) (pa_cons pe_int pa_nil))))) pss_nil)
    (pss_cons (ps_if (pt_cmpR op_eq (pv 3) (pe_globI rfl T.c_EMPTY) (nomark _)) (pss_cons (ps_asg (pe_g (gd_poured T) (hr.mono (by decide)) rfl pass0 (pa_cons (pv 0) (pa_cons (pv 6) (pa_cons (pe_op op_add (pv 4) pe_int) (pa_cons (pe_ix ix_list (pe_fld (pv 0) rfl) (pv 4) (fun _ _ => rfl)) pa_nil))))) (pg_tup rfl (pgs_cons (pg_name (i := 9) sc_behind.nd rfl (Or.inl rfl)) (pgs_cons (pg_name (i := 10) sc_behind.nd rfl (Or.inl rfl)) pgs_nil))))
    (pss_one (ps_ret (pe_tupS (pa_cons (pe_tupS (pa_cons (pv 9) (pa_cons (pe_g (gd_with_one T) (hr.mono (by decide)) rfl pass0 (pa_cons (pv 7) (pa_cons (pv 4) (pa_cons pe_bl pa_nil)))) (pa_cons (pv 8) pa_nil)))) (pa_cons (pv 10) pa_nil)))))) pss_nil)
    (pss_cons (ps_if (pt_cmpR op_eq (pv 3) (pe_globI rfl T.c_ENTER) (nomark _)) (pss_one (ps_ret (pe_tupS (pa_cons (pe_tupS (pa_cons (pv 6) (pa_cons (pv 7) (pa_cons (pe_g (gd_with_one T) (hr.mono (by decide)) rfl pass0 (pa_cons (pv 8) (pa_cons (pv 4) (pa_cons (pe_g (gd_in_lock T) (hr.mono (by decide)) rfl pass0 (pa_cons (pv 5) pa_nil)) pa_nil)))) pa_nil)))) (pa_cons pe_int pa_nil))))) pss_nil)
    (pss_one (ps_ret (pe_tupS (pa_cons (pe_tupS (pa_cons (pv 6) (pa_cons (pv 7) (pa_cons (pe_g (gd_with_one T) (hr.mono (by decide)) rfl pass0 (pa_cons (pv 8) (pa_cons (pv 4) (pa_cons (pe_g (gd_left_for T) (hr.mono (by decide)) rfl pass0 (pa_cons (pv 7) (pa_cons (pe_op op_fdiv (pe_ix ix_tup (pv 8) (pv 4) (fun _ _ => rfl)) pe_int) pa_nil))) pa_nil)))) pa_nil)))) (pa_cons pe_int pa_nil)))))))))), ?_⟩)
  · obtain ⟨c, a, o, k, t, t', n, op, rfl, hc, hs, ho, hk, hg, hd, q⟩ := h; rfl
  obtain ⟨c, a, o, k, t, t', n, op, rfl, hc, hs, ho, hk, hg, hd, q⟩ := h
  obtain ⟨dx, a1, a2, a3, a4, g0, g1, g2, g3, g4⟩ := hc.ex
  obtain ⟨w, f, b, h0, h1, h2, h3⟩ := hs.ex
  have hnp := hk.np
  have hnl := hk.nl
  have hgw := hg.w
  have hgf := hg.f
  have hgb := hg.b
  refine un3 rfl ho ?_
  refine un3 rfl h0 ?_
  unfold CaCanal.done at hd
  refine ⟨_, rfl, rfl, _, rfl, ite2 (fun e => ?_) fun e => ?_⟩
  · have e := nvI (m := 0) e
    rw [if_pos e] at hd
    rw [if_neg (by omega)] at q
    obtain ⟨d1, d2, d3, rfl, rfl⟩ := filled_so hd
    have hi : op.2.1 < t.water.length := by omega
    have hf : op.2.1 < t.full.length := by omega
    refine ⟨_, rfl, _, rfl, _, rfl, _, rfl, _, _, _, _, rfl, rfl, SqT.rd h1, at_map (d := 0) hi, _, rfl, _, _, _, _, _, rfl, g0, T.cl_Canal, T.n_Canal_volumes, lC_volumes, _, rfl, _, _, _, _, rfl, rfl, SqL.of g3, at_map (d := ⟨0, 0⟩) d1, _, _, rfl, rfl,
      w, op.2.1, _, t.water.map nv, rfl, h1, (by rw [List.length_map]; exact hi), (by rw [List.length_map]; omega), fun H1 p1 s1 r1 _ => ?_⟩
    refine ⟨_, rfl, _, rfl, f, op.2.1, _, t.full.map V.bl, rfl, rdSame s1 h2, (by rw [List.length_map]; exact hf), (by rw [List.length_map]; omega), fun H2 p2 s2 r2 _ => ?_⟩
    refine ⟨_, rfl, (by show 3 ≤ sizeLine; decide), fun p3 H3 n3 s3 r3 => ⟨(by show 2 ≤ sizeLine; decide), fun p4 H4 n4 s4 r4 => ?_⟩⟩
    have ev : ((t.water.getD op.2.1 0 : Nat) : Int) - (((k.locks.getD op.2.1 ⟨0, 0⟩).volume : Nat) : Int) = ((t.water.getD op.2.1 0 - (k.lock op.2.1).volume : Nat) : Int) := by
      unfold CaCanal.Canal.lock at d3 ⊢
      omega
    have r1 : Rd H1 p1 (.tup ((t.water.map nv).set op.2.1 (V.int (((t.water.getD op.2.1 0 : Nat) : Int) - (((k.locks.getD op.2.1 ⟨0, 0⟩).volume : Nat) : Int))))) := r1
    rw [ev, set_nv] at r1
    rw [← List.map_set] at r2
    exact q H4 p4 p3 (((s1.trans s2).trans s3).trans s4) (.inl r4) (st_mk (.inl (s4 _ _ r3)) (rdSame ((s2.trans s3).trans s4) r1) (rdSame (s3.trans s4) r2) (h3.at (Tq.of_same (((s1.trans s2).trans s3).trans s4))))
  have e := nvN (m := 0) e
  rw [if_neg e] at hd
  refine ⟨_, rfl, rfl, _, rfl, ite2 (fun e => ?_) fun e => ?_⟩
  · have e := nvI (m := 1) e
    rw [if_pos e] at hd
    rw [if_pos e] at q
    obtain ⟨d1, d2, rfl, rfl⟩ := emptied_so hd
    have hf : op.2.1 < t.full.length := by omega
    refine ⟨_, rfl, _, rfl, _, rfl, _, _, rfl, rfl, _, rfl, _, _, _, _, _, rfl, g0, T.cl_Canal, T.n_Canal_volumes, lC_volumes, _, rfl, _, _, _, _, rfl, rfl, SqL.of g3, at_map (d := ⟨0, 0⟩) d1,
      c, w, op.2.1 + 1, (k.lock op.2.1).volume, k, t.water, rfl, hc, h1, hgw, by omega, by omega, fun H1 p1 b1 s1 r1 r1b => ?_⟩
    refine ⟨p1, _, rfl, SqT.rd r1, rfl, _, _, rfl, _, _, rfl, rfl, ?_⟩
    refine ⟨_, rfl, _, rfl, _, rfl, f, op.2.1, _, t.full.map V.bl, rfl, rdSame s1 h2, (by rw [List.length_map]; exact hf), (by rw [List.length_map]; omega), fun H2 p2 s2 r2 _ => ?_⟩
    refine ⟨_, rfl, (by show 3 ≤ sizeLine; decide), fun p3 H3 n3 s3 r3 => ⟨_, rfl, (by show 2 ≤ sizeLine; decide), fun p4 H4 n4 s4 r4 => ?_⟩⟩
    rw [← List.map_set] at r2
    exact q H4 p4 p3 (((s1.trans s2).trans s3).trans s4) (.inl r4) (st_mk (.inl (s4 _ _ r3)) (rdSame ((s2.trans s3).trans s4) r1b) (rdSame (s3.trans s4) r2) (h3.at (Tq.of_same (((s1.trans s2).trans s3).trans s4))))
  have e1 := nvN (m := 1) e
  rw [if_neg e1] at hd
  rw [if_neg e1] at q
  refine ⟨_, rfl, rfl, _, rfl, ite2 (fun e => ?_) fun e => ?_⟩
  · have e := nvI (m := 2) e
    rw [if_pos e] at hd
    obtain ⟨d1, d2, rfl, rfl⟩ := entered_so hd
    have hb := boat_lt hg d1
    have hz : ((t.boats.map pl).map V.int).length = 4 := by rw [List.length_map, List.length_map, hgb]
    refine ⟨_, rfl, _, rfl, _, rfl, _, rfl, _, rfl, op.2.2, rfl, b, op.2.1, _, (t.boats.map pl).map V.int, rfl, h3.rd, (by omega), (by omega), fun H1 p1 s1 _ r1 => ?_⟩
    refine ⟨(by show 3 ≤ sizeLine; decide), fun p3 H3 n3 s3 r3 => ⟨(by show 2 ≤ sizeLine; decide), fun p4 H4 n4 s4 r4 => ?_⟩⟩
    have ev : (2 * (op.2.2 : Int) + 1) = pl (CaCanal.inLock op.2.2) := by unfold pl CaCanal.inLock; omega
    have r1 := r1 (by omega)
    rw [ev, set_bo] at r1
    exact q H4 p4 p3 ((s1.trans s3).trans s4) (.inl r4) (st_mk (.inl (s4 _ _ r3)) (rdSame ((s1.trans s3).trans s4) h1) (rdSame ((s1.trans s3).trans s4) h2) (r1.at (Tq.of_same (s3.trans s4))))
  · have e := nvN (m := 2) e
    rw [if_neg e] at hd
    have e3 : op.1 = 3 := Classical.byContradiction fun z => by
      rw [if_neg z] at hd
      cases hd
    rw [if_pos e3] at hd
    obtain ⟨d1, d2, rfl, d4⟩ := left_so hd
    have hb := boat_lt hg d1
    have hz : ((t.boats.map pl).map V.int).length = 4 := by rw [List.length_map, List.length_map, hgb]
    have hat := hg.at_ (t.at_ op.2.1) (Cm.getD_mem hb)
    have hfu : t.at_ op.2.1 / 2 - 1 < t.full.length := by
      rcases hat with z | ⟨z, _⟩ | ⟨_, _, z⟩
      · exact absurd z d1
      · omega
      · omega
    have ep : pl (t.boats.getD op.2.1 0) / 2 = ((t.at_ op.2.1 / 2 - 1 : Nat) : Int) := by
      unfold CaCanal.Stand.at_ at d1 d2
      unfold CaCanal.Stand.at_ pl
      omega
    refine ⟨_, rfl, _, rfl, _, rfl, _, rfl, _, rfl, _, rfl, _, rfl, _, _, _, _, rfl, rfl, SqT.rd h3.rd, at_bo hb, _, _, rfl, rfl, ⟨by decide, by decide⟩, f, t.at_ op.2.1 / 2 - 1, t.full, congrArg (fun z => [V.ref f, V.int z]) ep, h2, hfu, ?_⟩
    rw [← d4]
    refine ⟨b, op.2.1, _, (t.boats.map pl).map V.int, rfl, h3.rd, (by omega), (by omega), fun H1 p1 s1 _ r1 => ?_⟩
    refine ⟨(by show 3 ≤ sizeLine; decide), fun p3 H3 n3 s3 r3 => ⟨(by show 2 ≤ sizeLine; decide), fun p4 H4 n4 s4 r4 => ?_⟩⟩
    have ev : (2 * (n : Int)) = pl (CaCanal.inPound n) := by unfold pl CaCanal.inPound; omega
    have r1 := r1 (by omega)
    rw [ev, set_bo] at r1
    exact q H4 p4 p3 ((s1.trans s3).trans s4) (.inl r4) (st_mk (.inl (s4 _ _ r3)) (rdSame ((s1.trans s3).trans s4) h1) (rdSame ((s1.trans s3).trans s4) h2) (r1.at (Tq.of_same (s3.trans s4))))
/-- what an operation uses -/
def sp_used_by (A : Ad) : Sp := fun vs H Q _ => ∃ (c o : Addr) (wf : Bool) (k : Canal) (op : Op), vs = [.ref c, .ref o, .bl wf] ∧ CanAt A H c k ∧ OpAt H o op ∧ (op.1 = 0 → op.2.1 < k.locks.length) ∧ Q (nv (CaCanal.uses k wf op)) H
theorem gd_used_by (T : Txt K mg A) : GDef P w K mg base CX0 1 "used_by" ["canal", "operation", "by_water"] (sp_used_by A) := by
  obtain ⟨f, fd, hm, F⟩ := T.t_used_by
  refine ⟨f, fd, hm, F.kp, ?_, F.binds (fun _ _ _ _ _ _ us hl => match us, hl with | [_, _, _], _ => rfl)⟩
  refine F.ok sc_used_by (fun vs H Q E h => ?_) (fun cdv Ar outer s H vs Q E hr h => ⟨_, (pss_cons (ps_if (PW.pt (pw_and (pt_val (pv 2)) (pw_and1 (pt_cmpR op_eq (pe_ix ix_tup (pv 1) pe_int (fun _ _ => rfl)) (pe_globI rfl T.c_FILL) (nomark _))))) (pss_one (ps_ret (pe_ix ix_list (pe_fld (pv 0) rfl) (pe_ix ix_tup (pv 1) pe_int (fun _ _ => rfl)) (fun _ _ => rfl)))) pss_nil)
    (pss_one (ps_ret pe_int))), ?_⟩)
  · obtain ⟨c, o, wf, k, op, rfl, hc, ho, hl, q⟩ := h; rfl
  obtain ⟨c, o, wf, k, op, rfl, hc, ho, hl, q⟩ := h
  obtain ⟨dx, a1, a2, a3, a4, g0, g1, g2, g3, g4⟩ := hc.ex
  unfold CaCanal.uses at q
  refine ⟨_, rfl, _, rfl, ite2 (fun e => ?_) fun e => ?_⟩
  · refine ⟨_, rfl, _, _, _, _, rfl, rfl, SqT.rd ho, atI_nat (j := 0) rfl, rfl, _, rfl, ite2 (fun e2 => ?_) fun e2 => ?_⟩
    · have e2 := nvI (m := 0) e2
      rw [if_pos ⟨e, e2⟩] at q
      exact ⟨_, rfl, _, _, _, _, _, rfl, g0, T.cl_Canal, T.n_Canal_volumes, lC_volumes, _, rfl, _, _, _, _, rfl, rfl, SqT.rd ho, atI_nat (j := 1) rfl, _, _, _, _, rfl, rfl, SqL.of g3, at_map (d := (⟨0, 0⟩ : CaCanal.Lock)) (hl e2), q⟩
    · have e2 := nvN (m := 0) e2
      rw [if_neg (fun z => e2 z.2)] at q
      exact q
  · rw [if_neg (fun z => e z.1)] at q
    exact iteF q
/-- is what's wanted -/
def sp_is_wanted : Sp := fun vs H Q _ => ∃ (a l : Addr) (t : Stand) (g : List Nat), vs = [.ref a, .ref l] ∧ StAt H a t ∧ H l = some (.lst (g.map nv)) ∧ t.boats.length = 4 ∧ g.length = 4 ∧ ∀ H', Same H H' → Q (.bl (CaCanal.meets g t)) H'
theorem gd_is_wanted (T : Txt K mg A) : GDef P w K mg base CX0 2 "is_wanted" ["stand", "wanted"] sp_is_wanted := by
  obtain ⟨f, fd, hm, F⟩ := T.t_is_wanted
  refine ⟨f, fd, hm, F.kp, ?_, F.binds (fun _ _ _ _ _ _ us hl => match us, hl with | [_, _], _ => rfl)⟩
  refine F.ok sc_is_wanted (fun vs H Q E h => ?_) (fun cdv Ar outer s H vs Q E hr h => ⟨_, (pss_cons (ps_asg (pv 0) (pg_tup rfl (pgs_cons (pg_name (i := 2) sc_is_wanted.nd rfl (Or.inl rfl)) (pgs_cons (pg_name (i := 3) sc_is_wanted.nd rfl (Or.inl rfl)) (pgs_cons (pg_name (i := 4) sc_is_wanted.nd rfl (Or.inl rfl)) pgs_nil)))))
    (pss_one (ps_ret (pe_callB (cr_all rfl) (by rfl) T.b_all (by decide +kernel) (pa_cons (by exact (pe_lc (own := [("one", 5), ("place", 6)]) (g := (gTup K 2 (gCons (gName 5) (gCons (gName 6) gNil)))) (tt := tYes) (te := (tOrV (tOp rEq (tVar 5) (tC (.int (0)))) (tOp rEq (tVar 6) (tG sp_in_pound E0 (tCons (tOp (rI0 fun i j => .int (i - j)) (tVar 5) (tC (.int (1)))) tNil))))) rfl sc_is_wanted.nd (pi_zipLT (by rfl) T.b_zip (pa_cons (pv 1) (pa_cons (pv 4) pa_nil))) (blkOk_by (N := ["stand", "wanted", "waters", "fulls", "boats", "one", "place"]) (sc := defScope s_is_wanted) (by decide +kernel)) (fun _ _ _ _ _ => by exact (pg_tup rfl (pgs_cons (pg_name (i := 5) sc_is_wanted.nd rfl (Or.inl rfl)) (pgs_cons (pg_name (i := 6) sc_is_wanted.nd rfl (Or.inl rfl)) pgs_nil)))) (fun _ _ _ _ _ => by exact pts_nil) (fun _ _ _ _ _ => by exact (pe_or (pe_cmpR op_eq (pv 5) pe_int (nomark _)) (pe_one (pe_cmpR op_eq (pv 6) (pe_g (gd_in_pound T) (hr.mono (by decide)) rfl pass0 (pa_cons (pe_op op_sub (pv 5) pe_int) pa_nil)) (nomark _))))))) pa_nil))))), ?_⟩)
  · obtain ⟨a, l, t, g, rfl, hs, hl, hb, hz, q⟩ := h; rfl
  obtain ⟨a, l, t, g, rfl, hs, hl, hb, hz, q⟩ := h
  obtain ⟨w, f, b, h0, h1, h2, h3⟩ := hs.ex
  have hline : (1000 : Nat) ≤ sizeLine := by decide
  refine un3 rfl h0 ?_
  have e4 : 4 = min (g.map nv).length ((t.boats.map pl).map V.int).length := by rw [List.length_map, List.length_map, List.length_map, hb, hz]; rfl
  refine ⟨_, rfl, _, rfl, l, b, _, _, rfl, SqL.of hl, SqT.rd h3.rd, fun D hD => ?_⟩
  refine lc_rel (walk_zipLT e4) hD (by omega) (fun _ v (z : Bool) => v = .bl z) (fun _ _ _ _ _ z => z) (fun i => some (g.getD i 0 == 0 || t.boats.getD i 0 == CaCanal.inPound (g.getD i 0 - 1))) (fun H' s' => ⟨SqL.of (s' _ _ hl), SqT.rd (rdSame s' h3.rd)⟩) (fun i x H' H'' hi s' y R r0 r1 => ?_) fun H' xs s' hx pr => ?_
  · obtain ⟨U, x1, x2, rfl, hU, rfl, e1, e2⟩ := y
    obtain ⟨hi1, rfl⟩ := get_map 0 e1
    rw [List.map_map] at e2
    obtain ⟨hi2, rfl⟩ := get_map 0 e2
    have s2 := same_new (u := .tup [nv (g.getD i 0), (V.int ∘ pl) (t.boats.getD i 0)]) hU
    refine ⟨U, _, rfl, SqT.of upd_same, rfl, _, _, rfl, _, _, rfl, rfl, rfl, _, rfl, rfl, _, rfl, ite2 (fun e => ?_) fun e => ?_⟩
    · have e := nvI (m := 0) e
      refine r1 _ rfl _ _ s2 ?_
      rw [e]
      rfl
    · have e := nvN (m := 0) e
      have ee : ((g.getD i 0 : Nat) : Int) - 1 = ((g.getD i 0 - 1 : Nat) : Int) := by omega
      refine ⟨_, rfl, _, rfl, _, _, rfl, rfl, g.getD i 0 - 1, congrArg (fun z => [V.int z]) ee, rfl, r1 _ rfl _ _ s2 (congrArg V.bl ?_)⟩
      rw [beq_false_of_ne e, Bool.false_or]
      have e5 : decide ((V.int ∘ pl) (t.boats.getD i 0) = V.int (2 * ((g.getD i 0 - 1 : Nat) : Int))) = decide (t.boats.getD i 0 = CaCanal.inPound (g.getD i 0 - 1)) := decide_eq_decide.mpr (by
        show V.int (pl _) = _ ↔ _
        rw [V.int.injEq]
        unfold pl CaCanal.inPound
        omega)
      rw [e5]
      rfl
  · have e1 := paired_eq V.bl pr
    refine ⟨D, _, rfl, SqL.of (e1 ▸ hx), ?_⟩
    refine qb (q H' s') ?_
    have e2 : (List.range 4).filterMap (fun i => some (g.getD i 0 == 0 || t.boats.getD i 0 == CaCanal.inPound (g.getD i 0 - 1))) = (g.zip t.boats).filterMap fun x => some (x.1 == 0 || x.2 == CaCanal.inPound (x.1 - 1)) := by
      have e3 : (g.zip t.boats).length = 4 := by rw [List.length_zip, hb, hz]; rfl
      rw [← fm_range (g.zip t.boats) (0, 0), e3]
      refine fm_congr fun i hi => ?_
      have hi := List.mem_range.mp hi
      rw [zip_getD (by omega) (by omega)]
    rw [e2]
    unfold CaCanal.meets
    rw [List.filterMap_eq_map', List.all_map]
    rfl
end
end Cn
end
section
set_option Elab.async false
set_option linter.all false
set_option maxRecDepth 100000
set_option maxHeartbeats 4000000
namespace Cn
open PySem PySem.Spec PyProof.Rows L2
open CaCanal (Canal Stand Op)
open Cm (GoodK Good getD_set)
/-! ### what can be done, pure -/
def can (k : Canal) (t : Stand) (o : Op) : Bool := match CaCanal.done k t o with
  | .so _ _ => true
  | .no _ => false
def pick (k : Canal) (t : Stand) (o : Op) : Option Op := if can k t o = true then some o else none
theorem onward_pick (k : Canal) (t : Stand) : ∀ l : List Op, ((l.filterMap fun (o : Op) => match CaCanal.done k t o with
    | .no _ => none
    | .so t _ => some (o, t)).map fun (y : Op × Stand) => y.1) = l.filterMap (pick k t)
  | [] => rfl
  | o :: l => by
    have ih := onward_pick k t l
    rw [List.filterMap_cons, List.filterMap_cons]
    unfold pick can at ih ⊢
    cases h : CaCanal.done k t o with
    | no y => simpa using ih
    | so t n => simpa using ih
theorem fm_map {α β γ : Type} (f : α → β) (g : β → Option γ) (l : List α) : (l.map f).filterMap g = l.filterMap fun x => g (f x) := by
  rw [List.filterMap_map]
  rfl
theorem fm_flat {α β γ : Type} (f : α → List β) (g : β → Option γ) : ∀ l : List α, (l.flatMap f).filterMap g = l.flatMap fun x => (f x).filterMap g
  | [] => rfl
  | x :: l => by rw [List.flatMap_cons, List.flatMap_cons, List.filterMap_append, fm_flat f g l]
def pFill (k : Canal) (t : Stand) (i : Nat) : Option Op := pick k t (0, i, 0)
def pEmpty (k : Canal) (t : Stand) (i : Nat) : Option Op := pick k t (1, i, 0)
def pEnter (k : Canal) (t : Stand) (b i : Nat) : Option Op := pick k t (2, b, i)
def pLeave (k : Canal) (t : Stand) (b : Nat) : Option Op := pick k t (3, b, 0)
def enters (k : Canal) (t : Stand) (n : Nat) : List Op := (List.range n).flatMap fun b => (List.range k.locks.length).filterMap (pEnter k t b)
theorem enters_succ (k : Canal) (t : Stand) (n : Nat) : enters k t (n + 1) = enters k t n ++ (List.range k.locks.length).filterMap (pEnter k t n) := by
  unfold enters
  rw [List.range_succ, List.flatMap_append]
  simp
theorem onward_ops (k : Canal) (t : Stand) : (CaCanal.onward k t).map (fun (y : Op × Stand) => y.1) =
    (List.range k.locks.length).filterMap (pFill k t) ++ (List.range k.locks.length).filterMap (pEmpty k t) ++ enters k t 4 ++ (List.range 4).filterMap (pLeave k t) := by
  refine (onward_pick k t _).trans ?_
  rw [List.filterMap_append, List.filterMap_append, List.filterMap_append, fm_map, fm_map, fm_flat, fm_map]
  have e : (fun b => List.filterMap (pick k t) ((List.range k.locks.length).map fun i => ((2, b, i) : Op))) = fun b => (List.range k.locks.length).filterMap (pEnter k t b) := by
    funext b
    rw [fm_map]
    rfl
  rw [e, List.append_assoc, List.append_assoc]
  rfl
theorem win (F : Nat → Option Op) (L lo n : Nat) (h : lo + n ≤ L) (z : ∀ i, i < L → i < lo ∨ lo + n ≤ i → F i = none) : (List.range L).filterMap F = (List.range n).filterMap fun j => F (lo + j) := by
  obtain ⟨m, rfl⟩ := Nat.exists_eq_add_of_le h
  rw [List.range_add, List.range_add, List.filterMap_append, List.filterMap_append, fm_map, fm_map]
  have e1 : (List.range lo).filterMap F = [] := by
    rw [List.filterMap_eq_nil_iff]
    intro i hi
    have := List.mem_range.mp hi
    exact z i (by omega) (.inl this)
  have e2 : ((List.range m).filterMap fun x => F (lo + n + x)) = [] := by
    rw [List.filterMap_eq_nil_iff]
    intro i hi
    have := List.mem_range.mp hi
    exact z _ (by omega) (.inr (by omega))
  rw [e1, e2, List.nil_append, List.append_nil]
theorem pick_so {k : Canal} {t t' : Stand} {o : Op} {n : Nat} (h : CaCanal.done k t o = .so t' n) : pick k t o = some o := by
  unfold pick can
  rw [h]
  rfl
theorem pick_no {k : Canal} {t : Stand} {o : Op} {y : Nat} (h : CaCanal.done k t o = .no y) : pick k t o = none := by
  unfold pick can
  rw [h]
  rfl
theorem can_fill {k : Canal} {t : Stand} {i : Nat} (h : i < k.locks.length) : pFill k t i = if t.full.getD i false = false ∧ (k.pound i).low + (k.lock i).volume ≤ t.water.getD i 0 then some (0, i, 0) else none := by
  have hl : ¬ k.locks.length ≤ i := by omega
  by_cases c : t.full.getD i false = true
  · rw [if_neg (fun z => by rw [c] at z; exact Bool.noConfusion z.1)]
    refine pick_no (y := 3) ?_
    show CaCanal.filled k t i = _
    unfold CaCanal.filled
    rw [if_neg hl, if_pos c]
  · by_cases d : t.water.getD i 0 < (k.pound i).low + (k.lock i).volume
    · rw [if_neg (fun z => by omega)]
      refine pick_no (y := 2) ?_
      show CaCanal.filled k t i = _
      unfold CaCanal.filled
      rw [if_neg hl, if_neg c]
      dsimp only
      rw [if_pos d]
    · rw [if_pos ⟨by simpa using c, by omega⟩]
      refine pick_so (t' := { t with water := t.water.set i (t.water.getD i 0 - (k.lock i).volume), full := t.full.set i true }) (n := 0) ?_
      show CaCanal.filled k t i = _
      unfold CaCanal.filled
      rw [if_neg hl, if_neg c]
      dsimp only
      rw [if_neg d]
theorem can_empty {k : Canal} {t : Stand} {i : Nat} (h : i < k.locks.length) : pEmpty k t i = if t.full.getD i false = true then some (1, i, 0) else none := by
  have hl : ¬ k.locks.length ≤ i := by omega
  by_cases c : t.full.getD i false = true
  · rw [if_pos c]
    refine pick_so (t' := { t with water := (CaCanal.poured k.pounds t.water (i + 1) (k.lock i).volume).1, full := t.full.set i false }) (n := (CaCanal.poured k.pounds t.water (i + 1) (k.lock i).volume).2) ?_
    show CaCanal.emptied k t i = _
    unfold CaCanal.emptied
    rw [if_neg hl, if_neg (by rw [c]; exact Bool.noConfusion)]
  · rw [if_neg c]
    refine pick_no (y := 3) ?_
    show CaCanal.emptied k t i = _
    unfold CaCanal.emptied
    rw [if_neg hl, if_pos (by simpa using c)]
theorem can_leave {k : Canal} {t : Stand} {b : Nat} : pLeave k t b = if t.boats.getD b 0 ≠ 0 ∧ t.boats.getD b 0 % 2 = 0 then some (3, b, 0) else none := by
  by_cases c : t.boats.getD b 0 = 0
  · rw [if_neg (fun z => z.1 c)]
    refine pick_no (y := 4) ?_
    show CaCanal.left t b = _
    unfold CaCanal.left CaCanal.Stand.at_
    rw [if_pos c]
  · by_cases d : t.boats.getD b 0 % 2 = 1
    · rw [if_neg (fun z => by omega)]
      refine pick_no (y := 3) ?_
      show CaCanal.left t b = _
      unfold CaCanal.left CaCanal.Stand.at_
      rw [if_neg c, if_pos d]
    · rw [if_pos ⟨c, by omega⟩]
      cases h : CaCanal.left t b with
      | so t' n => exact pick_so (show CaCanal.done k t (3, b, 0) = _ from h)
      | no y =>
        unfold CaCanal.left CaCanal.Stand.at_ at h
        rw [if_neg c, if_neg d] at h
        cases h
theorem no_enter {k : Canal} {t : Stand} {b i : Nat} (h : t.boats.getD b 0 ≠ CaCanal.inPound i) (h2 : t.boats.getD b 0 ≠ CaCanal.inPound (i + 1)) : pEnter k t b i = none := by
  by_cases c : t.boats.getD b 0 = 0 ∨ k.locks.length ≤ i
  · refine pick_no (y := 4) ?_
    show CaCanal.entered k t b i = _
    unfold CaCanal.entered CaCanal.Stand.at_
    rw [if_pos c]
  · refine pick_no (y := 3) ?_
    show CaCanal.entered k t b i = _
    unfold CaCanal.entered CaCanal.Stand.at_
    rw [if_neg c, if_pos ⟨h, h2⟩]
theorem can_enter {k : Canal} {t : Stand} {b i p : Nat} (hx : t.boats.getD b 0 = CaCanal.inPound p) (hi : i < k.locks.length) (hp : i = p ∨ i + 1 = p) :
    pEnter k t b i = if t.full.getD i false = decide ((i : Int) = (p : Int)) ∧ (t.boats.filter fun (x : Nat) => x == CaCanal.inLock i).length < (k.lock i).room then some (2, b, i) else none := by
  have e : decide (CaCanal.inPound p = CaCanal.inPound i) = decide ((i : Int) = (p : Int)) := decide_eq_decide.mpr (by unfold CaCanal.inPound; omega)
  have f1 : ¬ (CaCanal.inPound p = 0 ∨ k.locks.length ≤ i) := by unfold CaCanal.inPound; omega
  have f2 : ¬ (CaCanal.inPound p ≠ CaCanal.inPound i ∧ CaCanal.inPound p ≠ CaCanal.inPound (i + 1)) := by unfold CaCanal.inPound; omega
  by_cases c : t.full.getD i false = decide ((i : Int) = (p : Int))
  · have f3 : ¬ (t.full.getD i false != decide ((i : Int) = (p : Int))) = true := fun z => bne_iff_ne.mp z c
    by_cases d : (k.lock i).room ≤ (t.boats.filter fun (x : Nat) => x == CaCanal.inLock i).length
    · rw [if_neg (fun z => by omega)]
      refine pick_no (y := 5) ?_
      show CaCanal.entered k t b i = _
      unfold CaCanal.entered CaCanal.Stand.at_ CaCanal.Stand.count
      rw [hx, e, if_neg f1, if_neg f2, if_neg f3, if_pos d]
    · rw [if_pos ⟨c, by omega⟩]
      refine pick_so (t' := { t with boats := t.boats.set b (CaCanal.inLock i) }) (n := 0) ?_
      show CaCanal.entered k t b i = _
      unfold CaCanal.entered CaCanal.Stand.at_ CaCanal.Stand.count
      rw [hx, e, if_neg f1, if_neg f2, if_neg f3, if_neg d]
  · rw [if_neg (fun z => c z.1)]
    refine pick_no (y := 2) ?_
    show CaCanal.entered k t b i = _
    unfold CaCanal.entered CaCanal.Stand.at_ CaCanal.Stand.count
    rw [hx, e, if_neg f1, if_neg f2, if_pos (bne_iff_ne.mpr c)]
def Ops (H : Hp) : List V → List Op → Prop := Paired fun v o => ∃ b, v = V.ref b ∧ OpAt H b o
theorem Ops.tq {H H' : Hp} (t : Tq H H') {xs : List V} {l : List Op} (h : Ops H xs l) : Ops H' xs l := Paired.mapP h fun _ _ ⟨b, e, o⟩ => ⟨b, e, o.tq t⟩
theorem paired_append {α β : Type} {F : α → β → Prop} : ∀ {l₁ m₁ : List α} {l₂ m₂ : List β}, Paired F l₁ l₂ → Paired F m₁ m₂ → Paired F (l₁ ++ m₁) (l₂ ++ m₂)
  | _, _, _, _, .nil, s => s
  | _, _, _, _, .cons r t, s => .cons r (paired_append t s)
section
variable {P : Program} {w : World} {K : PySem.W.Frag} {mg : Str → Option Value} {base : Heap} {A : Ad}
def sp_entering (A : Ad) : Sp := fun vs H Q _ => ∃ (c a : Addr) (k : Canal) (t : Stand), vs = [.ref c, .ref a] ∧ CanAt A H c k ∧ StAt H a t ∧ GoodK k ∧ Good k t ∧
  ∀ (H' : Hp) (p : Addr) (xs : List V), Same H H' → H p = none → H' p = some (.lst xs) → xs.length ≤ 100 → Ops H' xs (enters k t 4) → Q (.ref p) H'
theorem gd_entering (T : Txt K mg A) : GDef P w K mg base CX0 3 "entering" ["canal", "stand"] (sp_entering A) := by
  obtain ⟨f, fd, hm, F⟩ := T.t_entering
  refine ⟨f, fd, hm, F.kp, ?_, F.binds (fun _ _ _ _ _ _ us hl => match us, hl with | [_, _], _ => rfl)⟩
  refine F.ok sc_entering (fun vs H Q E h => ?_) (fun cdv Ar outer s H vs Q E hr h => ⟨_, (pss_cons (ps_asg (pv 1) (pg_tup rfl (pgs_cons (pg_name (i := 2) sc_entering.nd rfl (Or.inl rfl)) (pgs_cons (pg_name (i := 3) sc_entering.nd rfl (Or.inl rfl)) (pgs_cons (pg_name (i := 4) sc_entering.nd rfl (Or.inl rfl)) pgs_nil)))))
    (pss_cons (ps_set (i := 5) sc_entering.nd rfl (Or.inl rfl) (pe_lstS pa_nil))
    (pss_cons (ps_for PassesOwn.never rfl (pi_enumT (by rfl) T.b_enumerate (pa_cons (pv 4) pa_nil)) (pg_tup rfl (pgs_cons (pg_name (i := 6) sc_entering.nd rfl (Or.inl rfl)) (pgs_cons (pg_name (i := 7) sc_entering.nd rfl (Or.inl rfl)) pgs_nil))) (pss_one (ps_if (pt_val (pe_g (gd_is_in_pound T) (hr.mono (by decide)) rfl pass0 (pa_cons (pv 7) pa_nil))) (pss_cons (ps_set (i := 8) sc_entering.nd rfl (Or.inl rfl) (pe_op op_fdiv (pv 7) pe_int))
    (pss_one (ps_for PassesOwn.never rfl (pi_range2 (by rfl) T.b_range (pa_cons (pe_callB (call_max2 rfl) (by rfl) T.b_max (by decide +kernel) (pa_cons pe_int (pa_cons (pe_op op_sub (pv 8) pe_int) pa_nil))) (pa_cons (pe_callB (call_min2 rfl) (by rfl) T.b_min (by decide +kernel) (pa_cons (pe_gm0 (pv 0) T.cl_Canal (gd_Canal_many_locks T) (hr.mono (by decide)) pass0) (pa_cons (pe_op op_add (pv 8) pe_int) pa_nil))) pa_nil))) (pg_name (i := 9) sc_entering.nd rfl (Or.inl rfl)) (pss_one (ps_if (PW.pt (pw_and (pt_val (pe_g (gd_is_level T) (hr.mono (by decide)) rfl pass0 (pa_cons (pv 3) (pa_cons (pv 9) (pa_cons (pv 8) pa_nil))))) (pw_and1 (pt_val (pe_g (gd_has_room T) (hr.mono (by decide)) rfl pass0 (pa_cons (pv 0) (pa_cons (pv 4) (pa_cons (pv 9) pa_nil)))))))) (pss_one (ps_expr (pe_bm PySem.F.plainAttrs_list PySem.F.slot_list_append PySem.F.type_list_append mt_append (pv 5) (pa_cons (pe_tupS (pa_cons (pe_globI rfl T.c_ENTER) (pa_cons (pv 6) (pa_cons (pv 9) pa_nil)))) pa_nil)))) pss_nil))))) pss_nil)))
    (pss_one (ps_ret (pv 5)))))), ?_⟩)
  · obtain ⟨c, a, k, t, rfl, hc, hs, hk, hg, q⟩ := h; rfl
  obtain ⟨c, a, k, t, rfl, hc, hs, hk, hg, q⟩ := h
  obtain ⟨dx, a1, a2, a3, a4, g0, g1, g2, g3, g4⟩ := hc.ex
  obtain ⟨w, f, b, h0, h1, h2, h3⟩ := hs.ex
  have hnp := hk.np
  have hnl := hk.nl
  have hgf := hg.f
  have hgb := hg.b
  have hline : (1000 : Nat) < sizeLine := by decide
  refine un3 rfl h0 ?_
  refine ⟨Nat.zero_le _, fun l H1 n1 s1 l1 => ?_⟩
  refine ⟨_, rfl, b, _, rfl, SqT.rd (rdSame s1 h3.rd), ?_⟩
  have eb : ((t.boats.map pl).map V.int).length = 4 := by rw [List.length_map, List.length_map, hgb]
  refine for_it (walk_enumT (xs := (t.boats.map pl).map V.int)) (fun i σ H' => ∃ (xs : List V) (v6 v7 v8 v9 : Option V), σ = [some (.ref c), some (.ref a), some (.ref w), some (.ref f), some (.ref b), some (.ref l), v6, v7, v8, v9] ∧ Same H H' ∧ H' l = some (.lst xs) ∧ xs.length ≤ 6 * i ∧ Ops H' xs (enters k t i))
    ⟨[], none, none, none, none, rfl, s1, l1, Nat.zero_le _, .nil⟩ (fun i σ H' hi h => ?_) (fun i x σ H' H'' hi h y => ?_) fun σ H' h => ?_
  · obtain ⟨xs, v6, v7, v8, v9, rfl, s2, _⟩ := h
    exact SqT.rd (rdSame s2 h3.rd)
  · obtain ⟨xs, v6, v7, v8, v9, rfl, s2, l2, z2, o2⟩ := h
    obtain ⟨U, x1, x2, rfl, hU, eH, e1, e2⟩ := y
    cases e1
    rw [List.map_map] at e2
    obtain ⟨hi2, rfl⟩ := get_map 0 e2
    have s3 : Same H' H'' := by rw [eH]; exact same_new hU
    have gU : H'' U = some (.tup [nv i, V.int (pl (t.boats.getD i 0))]) := by rw [eH]; exact upd_same
    have hx := hg.at_ (t.boats.getD i 0) (Cm.getD_mem hi2)
    refine ⟨U, _, rfl, SqT.of gU, rfl, _, _, rfl, _, _, rfl, rfl, ?_⟩
    refine ⟨_, rfl, t.boats.getD i 0, rfl, _, rfl, ite2 (fun e => ?_) fun e => ?_⟩
    · have e := of_decide_eq_true e
      obtain ⟨p, hp⟩ : ∃ p, t.boats.getD i 0 = CaCanal.inPound p := ⟨t.boats.getD i 0 / 2, by unfold CaCanal.inPound; omega⟩
      have hpl : p ≤ k.locks.length := by unfold CaCanal.inPound at hp; omega
      have ep : pl (t.boats.getD i 0) / 2 = (p : Int) := by rw [hp]; unfold pl CaCanal.inPound; omega
      refine ⟨_, rfl, _, _, rfl, rfl, ⟨by decide, by decide⟩, ?_⟩
      dsimp only
      rw [ep]
      refine ⟨_, rfl, _, _, rfl, rfl, _, _, rfl, _, rfl, _, _, _, rfl, (s2.trans s3) _ _ g0, lC_many_locks, c, k, rfl, hc.same (s2.trans s3), _, rfl, _, _, rfl, rfl, _, _, rfl, _, _, rfl, ?_⟩
      have elo : (if (p : Int) - 1 > 0 then (p : Int) - 1 else 0) = ((p - 1 : Nat) : Int) := by split <;> omega
      have ehi : (if (p : Int) + 1 < (k.locks.length : Int) then (p : Int) + 1 else (k.locks.length : Int)) = ((min k.locks.length (p + 1) : Nat) : Int) := by split <;> omega
      rw [elo, ehi]
      refine ⟨⟨by omega, by omega, by omega, by omega⟩, ?_⟩
      have en : (((min k.locks.length (p + 1) : Nat) : Int) - ((p - 1 : Nat) : Int)).toNat = min k.locks.length (p + 1) - (p - 1) := by omega
      rw [en]
      have hn5 : min k.locks.length (p + 1) - (p - 1) ≤ 5 := by omega
      refine for_range (fun j σ H' => ∃ (xs : List V) (v9 : Option V), σ = [some (.ref c), some (.ref a), some (.ref w), some (.ref f), some (.ref b), some (.ref l), some (nv i), some (.int (pl (t.boats.getD i 0))), some (nv p), v9] ∧ Same H H' ∧ H' l = some (.lst xs) ∧ xs.length ≤ 6 * i + j ∧
          Ops H' xs (enters k t i ++ (List.range j).filterMap fun j => pEnter k t i (p - 1 + j)))
        ⟨xs, v9, rfl, s2.trans s3, s3 _ _ l2, by omega, by simpa using o2.tq (Tq.of_same s3)⟩ (fun j σ H3 hj h => ?_) fun σ H3 h => ?_
      · obtain ⟨xs, v9, rfl, s4, l4, z4, o4⟩ := h
        have ei : ((p - 1 : Nat) : Int) + (j : Int) = ((p - 1 + j : Nat) : Int) := by omega
        rw [ei]
        have hil : p - 1 + j < k.locks.length := by omega
        have hip : p - 1 + j = p ∨ p - 1 + j + 1 = p := by omega
        have hce := can_enter (k := k) hp hil hip
        have hstep := range_fm (fun j => pEnter k t i (p - 1 + j)) j
        refine ⟨_, rfl, _, rfl, _, rfl, f, p - 1 + j, p, t.full, rfl, rdSame s4 h2, by omega, _, rfl, ite2 (fun c1 => ?_) fun c1 => ?_⟩
        · have c1 := of_decide_eq_true c1
          refine ⟨_, rfl, _, rfl, _, rfl, c, b, p - 1 + j, k, t.boats, rfl, hc.same s4, h3.at (Tq.of_same s4), hil, _, rfl, ite2 (fun c2 => ?_) fun c2 => ?_⟩
          · have c2 := of_decide_eq_true c2
            rw [if_pos ⟨c1, c2⟩] at hce
            refine ⟨_, rfl, .inl ⟨rfl, _, SqL.of l4⟩, _, rfl, _, rfl, (by show 3 ≤ sizeLine; decide), fun r H4 n4 s5 r5 => ?_⟩
            have tq : Tq H4 (upd H4 l (.lst (xs ++ [.ref r]))) := Tq.upd (s5 _ _ l4) fun z => z
            refine ⟨l, xs, _, rfl, rfl, s5 _ _ l4, by omega, xs ++ [.ref r], _, rfl, same_mut (s4.trans s5) n1, upd_same, ?_, ?_⟩
            · rw [List.length_append]
              show xs.length + 1 ≤ _
              omega
            · rw [hstep, hce, ← List.append_assoc]
              exact paired_append (o4.tq ((Tq.of_same s5).trans tq)) (.cons ⟨r, rfl, OpAt.tq tq (.inl r5)⟩ .nil)
          · have c2 := b_f c2
            rw [if_neg (fun z => c2 z.2)] at hce
            refine ⟨xs, _, rfl, s4, l4, by omega, ?_⟩
            rw [hstep, hce]
            simpa using o4
        · have c1 := b_f c1
          rw [if_neg (fun z => c1 z.1)] at hce
          refine iteF ⟨xs, _, rfl, s4, l4, by omega, ?_⟩
          rw [hstep, hce]
          simpa using o4
      · obtain ⟨xs, v9, rfl, s4, l4, z4, o4⟩ := h
        refine ⟨xs, _, _, _, _, rfl, s4, l4, by omega, ?_⟩
        rw [enters_succ, win (pEnter k t i) k.locks.length (p - 1) (min k.locks.length (p + 1) - (p - 1)) (by omega) fun i' hi' hz => no_enter (by rw [hp]; unfold CaCanal.inPound; omega) (by rw [hp]; unfold CaCanal.inPound; omega)]
        exact o4
    · have e := b_f e
      refine ⟨xs, _, _, _, _, rfl, s2.trans s3, s3 _ _ l2, by omega, ?_⟩
      have e0 : (List.range k.locks.length).filterMap (pEnter k t i) = [] := by
        rw [List.filterMap_eq_nil_iff]
        intro j _
        exact no_enter (by unfold CaCanal.inPound; omega) (by unfold CaCanal.inPound; omega)
      rw [enters_succ, e0, List.append_nil]
      exact o2.tq (Tq.of_same s3)
  · rw [eb] at h
    obtain ⟨xs, v6, v7, v8, v9, rfl, s2, l2, z2, o2⟩ := h
    exact ⟨_, rfl, q H' l xs s2 n1 l2 (by omega) o2⟩
end
end Cn
end
section
set_option Elab.async false
set_option linter.all false
set_option maxRecDepth 100000
set_option maxHeartbeats 4000000
namespace Cn
open PySem PySem.Spec PyProof.Rows L2
open CaCanal (Canal Stand Op)
open Cm (GoodK Good getD_set)
section
variable {P : Program} {w : World} {K : PySem.W.Frag} {mg : Str → Option Value} {base : Heap} {A : Ad}
def sp_all_that_can (A : Ad) : Sp := fun vs H Q _ => ∃ (c a : Addr) (k : Canal) (t : Stand), vs = [.ref c, .ref a] ∧ CanAt A H c k ∧ StAt H a t ∧ GoodK k ∧ Good k t ∧
  ∀ (H' : Hp) (p : Addr) (xs : List V), Same H H' → H p = none → H' p = some (.lst xs) → xs.length ≤ 1000 → Ops H' xs ((CaCanal.onward k t).map fun (y : Op × Stand) => y.1) → Q (.ref p) H'
theorem ops_mono : ∀ (H H' : Hp) (v : V) (o : Op), Tq H H' → (∃ b, v = V.ref b ∧ OpAt H b o) → ∃ b, v = V.ref b ∧ OpAt H' b o := fun H H' v o t ⟨b, e, h⟩ => ⟨b, e, h.tq t⟩
theorem gd_all_that_can (T : Txt K mg A) : GDef P w K mg base CX0 4 "all_that_can" ["canal", "stand"] (sp_all_that_can A) := by
  obtain ⟨f, fd, hm, F⟩ := T.t_all_that_can
  refine ⟨f, fd, hm, F.kp, ?_, F.binds (fun _ _ _ _ _ _ us hl => match us, hl with | [_, _], _ => rfl)⟩
  refine F.ok sc_all_that_can (fun vs H Q E h => ?_) (fun cdv Ar outer s H vs Q E hr h => ⟨_, (pss_cons (ps_asg (pv 1) (pg_tup rfl (pgs_cons (pg_name (i := 2) sc_all_that_can.nd rfl (Or.inr rfl)) (pgs_cons (pg_name (i := 3) sc_all_that_can.nd rfl (Or.inl rfl)) (pgs_cons (pg_name (i := 4) sc_all_that_can.nd rfl (Or.inl rfl)) pgs_nil)))))
    (pss_cons (ps_setLc (i := 5) (own := [("i", 6), ("full", 7)]) (g := (gTup K 2 (gCons (gName 6) (gCons (gName 7) gNil)))) (tt := (tAnd (tNot (tB (tVar 7))) (tB (tG (sp_has_enough A) E0 (tCons (tVar 0) (tCons (tVar 2) (tCons (tVar 6) tNil))))))) (te := (tTupS (tCons (tC (.int (0))) (tCons (tVar 6) (tCons (tC (.int (0))) tNil))))) rfl sc_all_that_can.nd rfl rfl (sw_true rfl rfl rfl (by decide +kernel))  (pi_enumT (by rfl) T.b_enumerate (pa_cons (pv 3) pa_nil)) (blkOk_by (N := ["canal", "stand", "waters", "fulls", "boats", "found", "i", "full", "boat", "place"]) (sc := defScope s_all_that_can) (by decide +kernel)) (fun _ _ _ _ _ => by exact (pg_tup rfl (pgs_cons (pg_name (i := 6) sc_all_that_can.nd rfl (Or.inl rfl)) (pgs_cons (pg_name (i := 7) sc_all_that_can.nd rfl (Or.inl rfl)) pgs_nil)))) (fun _ _ _ _ _ => by exact (pts_one (PW.pt (pw_and (pt_not (pt_val (pv 7))) (pw_and1 (pt_val (pe_g (gd_has_enough T) (hr.mono (by decide)) rfl pass0 (pa_cons (pv 0) (pa_cons (pv 2) (pa_cons (pv 6) pa_nil)))))))))) (fun _ _ _ _ _ => by exact (pe_tupS (pa_cons (pe_globI rfl T.c_FILL) (pa_cons (pv 6) (pa_cons pe_int pa_nil))))))
    (pss_cons (ps_expr (pe_bm PySem.F.plainAttrs_list PySem.F.slot_list_extend PySem.F.type_list_extend mt_extend (pv 5) (pa_cons (by exact (pe_lc (own := [("i", 6), ("full", 7)]) (g := (gTup K 2 (gCons (gName 6) (gCons (gName 7) gNil)))) (tt := (tB (tVar 7))) (te := (tTupS (tCons (tC (.int (1))) (tCons (tVar 6) (tCons (tC (.int (0))) tNil))))) rfl sc_all_that_can.nd (pi_enumT (by rfl) T.b_enumerate (pa_cons (pv 3) pa_nil)) (blkOk_by (N := ["canal", "stand", "waters", "fulls", "boats", "found", "i", "full", "boat", "place"]) (sc := defScope s_all_that_can) (by decide +kernel)) (fun _ _ _ _ _ => by exact (pg_tup rfl (pgs_cons (pg_name (i := 6) sc_all_that_can.nd rfl (Or.inl rfl)) (pgs_cons (pg_name (i := 7) sc_all_that_can.nd rfl (Or.inl rfl)) pgs_nil)))) (fun _ _ _ _ _ => by exact (pts_one (pt_val (pv 7)))) (fun _ _ _ _ _ => by exact (pe_tupS (pa_cons (pe_globI rfl T.c_EMPTY) (pa_cons (pv 6) (pa_cons pe_int pa_nil))))))) pa_nil)))
    (pss_cons (ps_expr (pe_bm PySem.F.plainAttrs_list PySem.F.slot_list_extend PySem.F.type_list_extend mt_extend (pv 5) (pa_cons (pe_g (gd_entering T) (hr.mono (by decide)) rfl pass0 (pa_cons (pv 0) (pa_cons (pv 1) pa_nil))) pa_nil)))
    (pss_cons (ps_expr (pe_bm PySem.F.plainAttrs_list PySem.F.slot_list_extend PySem.F.type_list_extend mt_extend (pv 5) (pa_cons (by exact (pe_lc (own := [("boat", 8), ("place", 9)]) (g := (gTup K 2 (gCons (gName 8) (gCons (gName 9) gNil)))) (tt := (tB (tG sp_is_in_lock E0 (tCons (tVar 9) tNil)))) (te := (tTupS (tCons (tC (.int (3))) (tCons (tVar 8) (tCons (tC (.int (0))) tNil))))) rfl sc_all_that_can.nd (pi_enumT (by rfl) T.b_enumerate (pa_cons (pv 4) pa_nil)) (blkOk_by (N := ["canal", "stand", "waters", "fulls", "boats", "found", "i", "full", "boat", "place"]) (sc := defScope s_all_that_can) (by decide +kernel)) (fun _ _ _ _ _ => by exact (pg_tup rfl (pgs_cons (pg_name (i := 8) sc_all_that_can.nd rfl (Or.inl rfl)) (pgs_cons (pg_name (i := 9) sc_all_that_can.nd rfl (Or.inl rfl)) pgs_nil)))) (fun _ _ _ _ _ => by exact (pts_one (pt_val (pe_g (gd_is_in_lock T) (hr.mono (by decide)) rfl pass0 (pa_cons (pv 9) pa_nil))))) (fun _ _ _ _ _ => by exact (pe_tupS (pa_cons (pe_globI rfl T.c_LEAVE) (pa_cons (pv 8) (pa_cons pe_int pa_nil))))))) pa_nil)))
    (pss_one (ps_ret (pv 5)))))))), ?_⟩)
  · obtain ⟨c, a, k, t, rfl, hc, hs, hk, hg, q⟩ := h; rfl
  obtain ⟨c, a, k, t, rfl, hc, hs, hk, hg, q⟩ := h
  obtain ⟨dx, a1, a2, a3, a4, g0, g1, g2, g3, g4⟩ := hc.ex
  obtain ⟨w, f, b, h0, h1, h2, h3⟩ := hs.ex
  have hnp := hk.np
  have hnl := hk.nl
  have hgw := hg.w
  have hgf := hg.f
  have hgb := hg.b
  have hline : (2000 : Nat) < sizeLine := by decide
  rw [onward_ops] at q
  refine un3 rfl h0 ?_
  have ef : (t.full.map V.bl).length = k.locks.length := by rw [List.length_map, hgf]
  have eb : ((t.boats.map pl).map V.int).length = 4 := by rw [List.length_map, List.length_map, hgb]
  -- FILL
  refine ⟨_, rfl, f, _, rfl, SqT.rd h2, fun D hD => ?_⟩
  refine lc_rel walk_enumT hD (by omega) _ ops_mono (pFill k t) (fun H' s' => SqT.rd (rdSame s' h2)) (fun i x H' H'' hi s' y R r0 r1 => ?_) fun H2 xs s2 hx pr => ?_
  · obtain ⟨U, x1, x2, rfl, hU, eH, e1, e2⟩ := y
    cases e1
    obtain ⟨hi2, rfl⟩ := get_map false e2
    have hil : i < k.locks.length := by omega
    have s3 : Same H' H'' := by rw [eH]; exact same_new hU
    have gU : H'' U = some (.tup [nv i, V.bl (t.full.getD i false)]) := by rw [eH]; exact upd_same
    have hce := can_fill (t := t) hil
    refine ⟨U, _, rfl, SqT.of gU, rfl, _, _, rfl, _, _, rfl, rfl, rfl, _, rfl, _, rfl, ite2 (fun e => ?_) fun e => ?_⟩
    · have e := nbb_t e
      refine ⟨_, rfl, _, rfl, _, rfl, c, w, i, k, t.water, rfl, hc.same (s'.trans s3), rdSame (s'.trans s3) h1, by omega, hil, by omega, _, rfl, ite2 (fun e2 => ?_) fun e2 => ?_⟩
      · have e2 := of_decide_eq_true e2
        rw [if_pos ⟨e, e2⟩] at hce
        exact ⟨_, rfl, (by show 3 ≤ sizeLine; decide), fun p H4 n4 s4 p4 => r1 _ hce _ _ (s3.trans s4) ⟨p, rfl, .inl p4⟩⟩
      · have e2 := b_f e2
        rw [if_neg (fun z => e2 z.2)] at hce
        exact r0 hce _ s3
    · have e := nbb_f e
      rw [if_neg (fun z => by rw [e] at z; exact Bool.noConfusion z.1)] at hce
      exact iteF (r0 hce _ s3)
  rw [ef] at pr
  have z2 : xs.length ≤ 5 := by
    have e1 := Paired.length pr
    have e2 := fm_len (pFill k t) k.locks.length
    omega
  -- EMPTY
  refine ⟨_, rfl, .inl ⟨rfl, _, SqL.of hx⟩, _, rfl, f, _, rfl, SqT.rd (rdSame s2 h2), fun D2 hD2 => ?_⟩
  refine lc_rel walk_enumT hD2 (by omega) _ ops_mono (pEmpty k t) (fun H' s' => SqT.rd (rdSame (s2.trans s') h2)) (fun i x H' H'' hi s' y R r0 r1 => ?_) fun H3 xs2 s3 hx2 pr2 => ?_
  · obtain ⟨U, x1, x2, rfl, hU, eH, e1, e2⟩ := y
    cases e1
    obtain ⟨hi2, rfl⟩ := get_map false e2
    have hil : i < k.locks.length := by omega
    have s3 : Same H' H'' := by rw [eH]; exact same_new hU
    have gU : H'' U = some (.tup [nv i, V.bl (t.full.getD i false)]) := by rw [eH]; exact upd_same
    have hce := can_empty (t := t) hil
    refine ⟨U, _, rfl, SqT.of gU, rfl, _, _, rfl, _, _, rfl, rfl, rfl, _, rfl, _, rfl, ite2 (fun e => ?_) fun e => ?_⟩
    · rw [if_pos e] at hce
      exact ⟨_, rfl, (by show 3 ≤ sizeLine; decide), fun p H4 n4 s4 p4 => r1 _ hce _ _ (s3.trans s4) ⟨p, rfl, .inl p4⟩⟩
    · rw [if_neg e] at hce
      exact r0 hce _ s3
  rw [ef] at pr2
  have z3 : xs2.length ≤ 5 := by
    have e1 := Paired.length pr2
    have e2 := fm_len (pEmpty k t) k.locks.length
    omega
  have l3 := s3 _ _ hx
  have tq3 : Tq H3 (upd H3 D (.lst (xs ++ xs2))) := Tq.upd l3 fun z => z
  refine ⟨D, D2, xs, xs2, rfl, rfl, l3, hx2, by omega, ?_⟩
  have s4 : Same H (upd H3 D (.lst (xs ++ xs2))) := same_mut (s2.trans s3) hD
  have o4 : Ops (upd H3 D (.lst (xs ++ xs2))) (xs ++ xs2) ((List.range k.locks.length).filterMap (pFill k t) ++ (List.range k.locks.length).filterMap (pEmpty k t)) :=
    paired_append (Ops.tq ((Tq.of_same s3).trans tq3) pr) (Ops.tq tq3 pr2)
  generalize hH4 : upd H3 D (.lst (xs ++ xs2)) = H4 at s4 o4
  have l4 : H4 D = some (.lst (xs ++ xs2)) := by rw [← hH4]; exact upd_same
  -- ENTER
  refine ⟨_, rfl, .inl ⟨rfl, _, SqL.of l4⟩, _, rfl, _, rfl, c, a, k, t, rfl, hc.same s4, hs.same s4, hk, hg, fun H5 p5 xs5 s5 n5 l5 z5 o5 => ?_⟩
  have l6 := s5 _ _ l4
  have tq5 : Tq H5 (upd H5 D (.lst ((xs ++ xs2) ++ xs5))) := Tq.upd l6 fun z => z
  refine ⟨D, p5, xs ++ xs2, xs5, rfl, rfl, l6, l5, by rw [List.length_append]; omega, ?_⟩
  have s6 : Same H (upd H5 D (.lst ((xs ++ xs2) ++ xs5))) := same_mut (s4.trans s5) hD
  have o6 : Ops (upd H5 D (.lst ((xs ++ xs2) ++ xs5))) ((xs ++ xs2) ++ xs5) ((List.range k.locks.length).filterMap (pFill k t) ++ (List.range k.locks.length).filterMap (pEmpty k t) ++ enters k t 4) :=
    paired_append (Ops.tq ((Tq.of_same s5).trans tq5) o4) (Ops.tq tq5 o5)
  generalize hH6 : upd H5 D (.lst ((xs ++ xs2) ++ xs5)) = H6 at s6 o6
  have l7 : H6 D = some (.lst ((xs ++ xs2) ++ xs5)) := by rw [← hH6]; exact upd_same
  -- LEAVE
  refine ⟨_, rfl, .inl ⟨rfl, _, SqL.of l7⟩, _, rfl, b, _, rfl, SqT.rd (rdSame s6 h3.rd), fun D3 hD3 => ?_⟩
  refine lc_rel (walk_enumT (xs := (t.boats.map pl).map V.int)) hD3 (by omega) _ ops_mono (pLeave k t) (fun H' s' => SqT.rd (rdSame (s6.trans s') h3.rd)) (fun i x H' H'' hi s' y R r0 r1 => ?_) fun H8 xs8 s8 hx8 pr8 => ?_
  · obtain ⟨U, x1, x2, rfl, hU, eH, e1, e2⟩ := y
    cases e1
    rw [List.map_map] at e2
    obtain ⟨hi2, rfl⟩ := get_map 0 e2
    have s3 : Same H' H'' := by rw [eH]; exact same_new hU
    have gU : H'' U = some (.tup [nv i, V.int (pl (t.boats.getD i 0))]) := by rw [eH]; exact upd_same
    have hce := can_leave (k := k) (t := t) (b := i)
    refine ⟨U, _, rfl, SqT.of gU, rfl, _, _, rfl, _, _, rfl, rfl, rfl, _, rfl, t.boats.getD i 0, rfl, _, rfl, ite2 (fun e => ?_) fun e => ?_⟩
    · have e := of_decide_eq_true e
      rw [if_pos e] at hce
      exact ⟨_, rfl, (by show 3 ≤ sizeLine; decide), fun p H4 n4 s4 p4 => r1 _ hce _ _ (s3.trans s4) ⟨p, rfl, .inl p4⟩⟩
    · have e := b_f e
      rw [if_neg e] at hce
      exact r0 hce _ s3
  rw [eb] at pr8
  have z8 : xs8.length ≤ 4 := by
    have e1 := Paired.length pr8
    have e2 := fm_len (pLeave k t) 4
    omega
  have l8 := s8 _ _ l7
  have tq8 : Tq H8 (upd H8 D (.lst (((xs ++ xs2) ++ xs5) ++ xs8))) := Tq.upd l8 fun z => z
  have zz : ((xs ++ xs2) ++ xs5).length ≤ 110 := by rw [List.length_append, List.length_append]; omega
  refine ⟨D, D3, (xs ++ xs2) ++ xs5, xs8, rfl, rfl, l8, hx8, by omega, _, rfl, ?_⟩
  exact q _ D _ (same_mut (s6.trans s8) hD) hD upd_same (by rw [List.length_append]; omega) (paired_append (Ops.tq ((Tq.of_same s8).trans tq8) o6) (Ops.tq tq8 pr8))
end
end Cn
end
section
set_option Elab.async false
set_option linter.all false
set_option maxRecDepth 100000
set_option maxHeartbeats 4000000
namespace Cn
open PySem PySem.Spec PyProof.Rows L2
open CaCanal (Canal Stand Op)
open Cm (GoodK Good getD_set)
/-! ### lists of triples -/
theorem Ops.get {H : Hp} : ∀ {xs : List V} {l : List Op} {i : Nat} {x : V}, Ops H xs l → xs[i]? = some x → ∃ (b : Addr) (o : Op), x = .ref b ∧ l[i]? = some o ∧ OpAt H b o
  | _, _, i, x, .nil, h => by simp at h
  | _, _, 0, x, .cons (b := o) z t, h => by
    simp only [List.getElem?_cons_zero, Option.some.injEq] at h
    subst h
    obtain ⟨b, e, q⟩ := z
    exact ⟨b, o, e, rfl, q⟩
  | _, _, i + 1, x, .cons z t, h => by
    simp only [List.getElem?_cons_succ] at h
    obtain ⟨b, o, e, g, q⟩ := Ops.get t h
    exact ⟨b, o, e, by rw [List.getElem?_cons_succ]; exact g, q⟩
theorem some_range {α β : Type} (l : List α) (f : α → β) : (List.range l.length).filterMap (fun i => l[i]?.map f) = l.map f := by
  induction l with
  | nil => rfl
  | cons x l ih =>
    simp only [List.length_cons, List.range_succ_eq_map, List.filterMap_cons, List.getElem?_cons_zero, Option.map_some, fm_map, List.getElem?_cons_succ, ih, List.map_cons]
theorem rs3 (m : Nat) : Builtin.Range.rangeSize 0 ((3 * m : Nat) : Int) 3 = (m : Int) := by
  unfold Builtin.Range.rangeSize
  rw [if_pos (by decide)]
  split
  · omega
  · omega
theorem rg3 {m : Nat} (h : m ≤ 100000) : RgC 0 ((3 * m : Nat) : Int) 3 m := by
  refine ⟨by decide, by decide, ?_, rs3 m⟩
  have fl : ∀ z : Int, -(2 ^ 62) ≤ z → z < 2 ^ 62 → Builtin.Range.rangeFitsLong z = true := fun z h1 h2 => by
    unfold Builtin.Range.rangeFitsLong
    simp only [Bool.and_eq_true, decide_eq_true_eq]
    omega
  unfold Builtin.Range.small
  rw [rs3, fl 0 (by decide) (by decide), fl ((3 * m : Nat) : Int) (by omega) (by omega), fl 3 (by decide) (by decide), fl (m : Int) (by omega) (by omega), if_pos (by decide), fl (((3 * m : Nat) : Int) + (3 - 1)) (by omega) (by omega)]
  simp
theorem threes_len : ∀ (ns : List Nat) (l : List Op), Wqateb.threes ns = some l → ns.length = 3 * l.length
  | [], l, h => by
    cases h
    rfl
  | [_], l, h => by cases h
  | [_, _], l, h => by cases h
  | a :: b :: c :: r, l, h => by
    unfold Wqateb.threes at h
    obtain ⟨l', h1, rfl⟩ := Option.map_eq_some_iff.mp h
    have := threes_len r l' h1
    simp only [List.length_cons]
    omega
theorem threes_get : ∀ (ns : List Nat) (l : List Op), Wqateb.threes ns = some l → ∀ i, i < l.length → ∃ o, l[i]? = some o ∧ (ns.drop (3 * i)).take 3 = [o.1, o.2.1, o.2.2]
  | [], l, h, i, hi => by
    cases h
    simp at hi
  | [_], l, h, _, _ => by cases h
  | [_, _], l, h, _, _ => by cases h
  | a :: b :: c :: r, l, h, i, hi => by
    unfold Wqateb.threes at h
    obtain ⟨l', h1, rfl⟩ := Option.map_eq_some_iff.mp h
    cases i with
    | zero => exact ⟨(a, b, c), rfl, rfl⟩
    | succ i =>
      obtain ⟨o, h2, h3⟩ := threes_get r l' h1 i (by simpa using hi)
      refine ⟨o, by rw [List.getElem?_cons_succ]; exact h2, ?_⟩
      rw [← h3]
      rfl
theorem threes_none : ∀ (ns : List Nat), Wqateb.threes ns = none ↔ ns.length % 3 ≠ 0
  | [] => by simp [Wqateb.threes]
  | [_] => by simp [Wqateb.threes]
  | [_, _] => by simp [Wqateb.threes]
  | a :: b :: c :: r => by
    have ih := threes_none r
    unfold Wqateb.threes
    rw [Option.map_eq_none_iff, ih]
    simp only [List.length_cons]
    omega
section
variable {P : Program} {w : World} {K : PySem.W.Frag} {mg : Str → Option Value} {base : Heap} {A : Ad}
def sp_in_threes : Sp := fun vs H Q _ => ∃ (a : Addr) (ns : List Nat) (l : List Op), vs = [.ref a] ∧ H a = some (.lst (ns.map nv)) ∧ Wqateb.threes ns = some l ∧ ns.length ≤ 100000 ∧
  ∀ (H' : Hp) (p : Addr) (xs : List V), Same H H' → H p = none → H' p = some (.lst xs) → Ops H' xs l → Q (.ref p) H'
theorem gd_in_threes (T : Txt K mg A) : GDef P w K mg base CX0 1 "in_threes" ["row"] sp_in_threes := by
  obtain ⟨f, fd, hm, F⟩ := T.t_in_threes
  refine ⟨f, fd, hm, F.kp, ?_, F.binds (fun _ _ _ _ _ _ us hl => match us, hl with | [_], _ => rfl)⟩
  refine F.ok sc_in_threes (fun vs H Q E h => ?_) (fun cdv Ar outer s H vs Q E hr h => ⟨_, (pss_one (ps_ret (by exact (pe_lc (own := [("at", 1)]) (g := (gName 1)) (tt := tYes) (te := (tCB (rTofS K) (tCons (tSl (rSlLS K) (tVar 0) (tPart (tVar 1)) (tPart (tOp (rI0 fun i j => .int (i + j)) (tVar 1) (tC (.int (3)))))) tNil))) rfl sc_in_threes.nd (pi_range3 (by rfl) T.b_range (pa_cons pe_int (pa_cons (pe_callB call_len_seq (by rfl) T.b_len PySem.boot_len (pa_cons (pv 0) pa_nil)) (pa_cons pe_int pa_nil)))) (blkOk_by (N := ["row", "at"]) (sc := defScope s_in_threes) (by decide +kernel)) (fun _ _ _ _ _ => by exact (pg_name (i := 1) sc_in_threes.nd rfl (Or.inl rfl))) (fun _ _ _ _ _ => by exact pts_nil) (fun _ _ _ _ _ => by exact (pe_callTy call_tuple_ofS (by rfl) T.b_tuple (by decide +kernel) (pa_cons (pe_slice sl_listS (pv 0) (po_some (pv 1)) (po_some (pe_op op_add (pv 1) pe_int))) pa_nil))))))), ?_⟩)
  · obtain ⟨a, ns, l, rfl, ha, ht, hz, q⟩ := h; rfl
  obtain ⟨a, ns, l, rfl, ha, ht, hz, q⟩ := h
  have hline : (100000 : Nat) < sizeLine := by decide
  have hlen := threes_len ns l ht
  refine ⟨_, rfl, _, _, rfl, .inl (SqL.of ha), 0, _, 3, l.length, rfl, ?_, fun D hD => ?_⟩
  · rw [List.length_map, hlen]
    exact rg3 (by omega)
  refine lc_rel walk_rangeC hD (by omega) _ ops_mono (fun i => l[i]?) (fun _ _ => trivial) (fun i x H' H'' hi s' y R r0 r1 => ?_) fun H' xs s' hx pr => ?_
  · obtain ⟨rfl, rfl⟩ := y
    obtain ⟨o, ho, hcut⟩ := threes_get ns l ht i hi
    have e0 : (0 : Int) + ((i : Nat) : Int) * 3 = ((3 * i : Nat) : Int) := by omega
    dsimp only
    rw [e0]
    have ecut : cutV (ns.map nv) (some ((3 * i : Nat) : Int)) (some (((3 * i : Nat) : Int) + 3)) = [nv o.1, nv o.2.1, nv o.2.2] := by
      have e1 : (((3 * i : Nat) : Int) + 3) = ((3 * i + 3 : Nat) : Int) := rfl
      unfold cutV
      rw [e1, HT.sIx_nat, HT.sIx_nat, List.length_map, Nat.min_eq_left (by omega), Nat.min_eq_left (by omega), ← List.map_drop, ← List.map_take, Nat.add_sub_cancel_left, hcut]
      rfl
    refine ⟨rfl, _, rfl, _, rfl, _, rfl, _, rfl, _, _, rfl, rfl, _, rfl, a, _, rfl, SqL.of (s' _ _ ha), ?_⟩
    rw [ecut]
    refine fun p H1 n1 s1 p1 => ⟨p, _, rfl, SqL.of p1, fun p2 H2 n2 s2 p2' => ?_⟩
    exact r1 o ho _ _ (s1.trans s2) ⟨p2, rfl, .inl p2'⟩
  · refine q H' D xs s' hD hx ?_
    have e := some_range l id
    simp only [Option.map_id_fun, id_eq, List.map_id_fun] at e
    rw [e] at pr
    exact pr
def sp_is_pound : Sp := fun vs H Q _ => ∃ (a b c : Nat), vs = [nv a, nv b, nv c] ∧ Q (.bl (decide (a ≤ c) && (decide (c ≤ b) && decide (b ≤ 1000)))) H
theorem gd_is_pound (T : Txt K mg A) : GDef P w K mg base CX0 1 "is_pound" ["least", "most", "water"] sp_is_pound := by
  obtain ⟨f, fd, hm, F⟩ := T.t_is_pound
  refine ⟨f, fd, hm, F.kp, ?_, F.binds (fun _ _ _ _ _ _ us hl => match us, hl with | [_, _, _], _ => rfl)⟩
  refine F.ok sc_is_pound (fun vs H Q E h => ?_) (fun cdv Ar outer s H vs Q E hr h => ⟨_, (pss_one (ps_ret (pe_chain3 op_le op_le op_le (pv 0) (pv 2) (pv 1) (pe_globI rfl T.c_MOST_WATER)))), ?_⟩)
  · obtain ⟨a, b, c, rfl, q⟩ := h; rfl
  obtain ⟨a, b, c, rfl, q⟩ := h
  refine ⟨_, rfl, _, rfl, _, _, rfl, rfl, _, rfl, ite2 (fun e => ?_) fun e => ?_⟩
  · have e := of_decide_eq_true e
    refine ⟨_, rfl, _, _, rfl, rfl, _, rfl, ite2 (fun e2 => ?_) fun e2 => ?_⟩
    · have e2 := of_decide_eq_true e2
      refine ⟨_, _, rfl, rfl, qb q ?_⟩
      rw [decide_eq_true (show a ≤ c by omega), decide_eq_true (show c ≤ b by omega), Bool.true_and, Bool.true_and]
      exact decide_eq_decide.mpr (by omega)
    · have e2 := b_f e2
      refine qb q ?_
      rw [decide_eq_false (show ¬ c ≤ b by omega), Bool.false_and, Bool.and_false]
  · have e := b_f e
    refine qb q ?_
    rw [decide_eq_false (show ¬ a ≤ c by omega), Bool.false_and]
def sp_is_lock : Sp := fun vs H Q _ => ∃ (a b c : Nat), vs = [nv a, nv b, nv c] ∧ Q (.bl (decide (1 ≤ a) && (decide (a ≤ 100) && (decide (1 ≤ b) && (decide (b ≤ 4) && decide (c ≤ 1)))))) H
theorem gd_is_lock (T : Txt K mg A) : GDef P w K mg base CX0 1 "is_lock" ["volume", "room", "full"] sp_is_lock := by
  obtain ⟨f, fd, hm, F⟩ := T.t_is_lock
  refine ⟨f, fd, hm, F.kp, ?_, F.binds (fun _ _ _ _ _ _ us hl => match us, hl with | [_, _, _], _ => rfl)⟩
  refine F.ok sc_is_lock (fun vs H Q E h => ?_) (fun cdv Ar outer s H vs Q E hr h => ⟨_, (pss_one (ps_ret (pe_and (pe_chain op_le op_le pe_int (pv 0) (pe_globI rfl T.c_MOST_VOLUME)) (pe_and (pe_chain op_le op_le pe_int (pv 1) (pe_globI rfl T.c_MOST_ROOM)) (pe_one (pe_cmpR op_le (pv 2) pe_int (nomark _))))))), ?_⟩)
  · obtain ⟨a, b, c, rfl, q⟩ := h; rfl
  obtain ⟨a, b, c, rfl, q⟩ := h
  refine ⟨_, rfl, _, _, rfl, rfl, _, rfl, ite2 (fun e => ?_) fun e => ?_⟩
  · have e := of_decide_eq_true e
    refine ⟨_, _, rfl, rfl, _, rfl, ite2 (fun e2 => ?_) fun e2 => ?_⟩
    · have e2 := of_decide_eq_true e2
      refine ⟨_, rfl, _, _, rfl, rfl, _, rfl, ite2 (fun e3 => ?_) fun e3 => ?_⟩
      · have e3 := of_decide_eq_true e3
        refine ⟨_, _, rfl, rfl, _, rfl, ite2 (fun e4 => ?_) fun e4 => ?_⟩
        · have e4 := of_decide_eq_true e4
          refine ⟨_, rfl, _, _, rfl, rfl, qb q ?_⟩
          rw [decide_eq_true (show 1 ≤ a by omega), decide_eq_true (show a ≤ 100 by omega), decide_eq_true (show 1 ≤ b by omega), decide_eq_true (show b ≤ 4 by omega)]
          simp only [Bool.true_and]
          exact decide_eq_decide.mpr (by omega)
        · have e4 := b_f e4
          refine qb q ?_
          rw [decide_eq_false (show ¬ b ≤ 4 by omega)]
          simp
      · have e3 := b_f e3
        refine ⟨_, rfl, iteF (qb q ?_)⟩
        rw [decide_eq_false (show ¬ 1 ≤ b by omega)]
        simp
    · have e2 := b_f e2
      refine qb q ?_
      rw [decide_eq_false (show ¬ a ≤ 100 by omega)]
      simp
  · have e := b_f e
    refine ⟨_, rfl, iteF (qb q ?_)⟩
    rw [decide_eq_false (show ¬ 1 ≤ a by omega)]
    simp
def sp_are_canal : Sp := fun vs H Q _ => ∃ (a b : Addr) (xs ys : List V) (ps ls : List Op), vs = [.ref a, .ref b] ∧ H a = some (.lst xs) ∧ H b = some (.lst ys) ∧ Ops H xs ps ∧ Ops H ys ls ∧ xs.length ≤ 100000 ∧ ys.length ≤ 100000 ∧ ∀ H', Same H H' → Q (.bl (Wqateb.canalOf ps ls).isSome) H'
def okP (ps : List Op) : Bool := ps.all fun (x : Nat × Nat × Nat) => decide (x.1 ≤ x.2.2) && (decide (x.2.2 ≤ x.2.1) && decide (x.2.1 ≤ CaCanal.MOST))
def okL (ls : List Op) : Bool := ls.all fun (x : Nat × Nat × Nat) => decide (1 ≤ x.1) && (decide (x.1 ≤ 100) && (decide (1 ≤ x.2.1) && (decide (x.2.1 ≤ CaCanal.BOATS) && decide (x.2.2 ≤ 1))))
theorem canalOf_some (ps ls : List Op) : (Wqateb.canalOf ps ls).isSome = decide (2 ≤ ps.length ∧ ps.length ≤ 6 ∧ ls.length + 1 = ps.length ∧ okP ps = true ∧ okL ls = true) := by
  unfold Wqateb.canalOf okP okL
  split
  · rename_i h
    exact (decide_eq_true h).symm
  · rename_i h
    exact (decide_eq_false h).symm
theorem gd_are_canal (T : Txt K mg A) : GDef P w K mg base CX0 2 "are_canal" ["pounds", "locks"] sp_are_canal := by
  obtain ⟨f, fd, hm, F⟩ := T.t_are_canal
  refine ⟨f, fd, hm, F.kp, ?_, F.binds (fun _ _ _ _ _ _ us hl => match us, hl with | [_, _], _ => rfl)⟩
  refine F.ok sc_are_canal (fun vs H Q E h => ?_) (fun cdv Ar outer s H vs Q E hr h => ⟨_, (pss_cons (ps_if (PW.pt (pw_or (pt_not (pt_chain op_le op_le (pe_globI rfl T.c_LEAST_POUNDS) (pe_callB call_len_seq (by rfl) T.b_len PySem.boot_len (pa_cons (pv 0) pa_nil)) (pe_globI rfl T.c_MOST_POUNDS))) (pw_or1 (pt_cmpR op_ne (pe_callB call_len_seq (by rfl) T.b_len PySem.boot_len (pa_cons (pv 1) pa_nil)) (pe_op op_sub (pe_callB call_len_seq (by rfl) T.b_len PySem.boot_len (pa_cons (pv 0) pa_nil)) pe_int) (nomark _))))) (pss_one (ps_ret pe_bl)) pss_nil)
    (pss_cons (ps_set (i := 2) sc_are_canal.nd rfl (Or.inl rfl) (pe_callB (cr_all rfl) (by rfl) T.b_all (by decide +kernel) (pa_cons (by exact (pe_lc (own := [("least", 3), ("most", 4), ("water", 5)]) (g := (gTup K 3 (gCons (gName 3) (gCons (gName 4) (gCons (gName 5) gNil))))) (tt := tYes) (te := (tG sp_is_pound E0 (tCons (tVar 3) (tCons (tVar 4) (tCons (tVar 5) tNil))))) rfl sc_are_canal.nd (pi_list (pv 0)) (blkOk_by (N := ["pounds", "locks", "are_pounds", "least", "most", "water", "volume", "room", "full"]) (sc := defScope s_are_canal) (by decide +kernel)) (fun _ _ _ _ _ => by exact (pg_tup rfl (pgs_cons (pg_name (i := 3) sc_are_canal.nd rfl (Or.inl rfl)) (pgs_cons (pg_name (i := 4) sc_are_canal.nd rfl (Or.inl rfl)) (pgs_cons (pg_name (i := 5) sc_are_canal.nd rfl (Or.inl rfl)) pgs_nil))))) (fun _ _ _ _ _ => by exact pts_nil) (fun _ _ _ _ _ => by exact (pe_g (gd_is_pound T) (hr.mono (by decide)) rfl pass0 (pa_cons (pv 3) (pa_cons (pv 4) (pa_cons (pv 5) pa_nil))))))) pa_nil)))
    (pss_one (ps_ret (pe_and (pv 2) (pe_one (pe_callB (cr_all rfl) (by rfl) T.b_all (by decide +kernel) (pa_cons (by exact (pe_lc (own := [("volume", 6), ("room", 7), ("full", 8)]) (g := (gTup K 3 (gCons (gName 6) (gCons (gName 7) (gCons (gName 8) gNil))))) (tt := tYes) (te := (tG sp_is_lock E0 (tCons (tVar 6) (tCons (tVar 7) (tCons (tVar 8) tNil))))) rfl sc_are_canal.nd (pi_list (pv 1)) (blkOk_by (N := ["pounds", "locks", "are_pounds", "least", "most", "water", "volume", "room", "full"]) (sc := defScope s_are_canal) (by decide +kernel)) (fun _ _ _ _ _ => by exact (pg_tup rfl (pgs_cons (pg_name (i := 6) sc_are_canal.nd rfl (Or.inl rfl)) (pgs_cons (pg_name (i := 7) sc_are_canal.nd rfl (Or.inl rfl)) (pgs_cons (pg_name (i := 8) sc_are_canal.nd rfl (Or.inl rfl)) pgs_nil))))) (fun _ _ _ _ _ => by exact pts_nil) (fun _ _ _ _ _ => by exact (pe_g (gd_is_lock T) (hr.mono (by decide)) rfl pass0 (pa_cons (pv 6) (pa_cons (pv 7) (pa_cons (pv 8) pa_nil))))))) pa_nil)))))))), ?_⟩)
  · obtain ⟨a, b, xs, ys, ps, ls, rfl, ha, hb, oa, ob, za, zb, q⟩ := h; rfl
  obtain ⟨a, b, xs, ys, ps, ls, rfl, ha, hb, oa, ob, za, zb, q⟩ := h
  have hline : (100000 : Nat) < sizeLine := by decide
  have la : xs.length = ps.length := Paired.length oa
  have lb : ys.length = ls.length := Paired.length ob
  rw [canalOf_some] at q
  have bad : ¬ (2 ≤ ps.length ∧ ps.length ≤ 6 ∧ ls.length + 1 = ps.length) → ∀ H', Same H H' → Q (.bl false) H' := fun n H' s' => by
    have := q H' s'
    rw [decide_eq_false (fun z => n ⟨z.1, z.2.1, z.2.2.1⟩)] at this
    exact this
  refine ⟨_, rfl, _, _, rfl, .inl (SqL.of ha), _, _, rfl, rfl, _, rfl, ite2 (fun e => ?_) fun e => ?_⟩
  · have e := of_decide_eq_true e
    refine ⟨_, _, rfl, rfl, _, rfl, ite2 (fun e2 => ?_) fun e2 => ?_⟩
    · exact iteT (bad (fun z => by
        have := nb_t e2
        omega) H (Same.refl H))
    have e2 := nb_f e2
    refine ⟨_, rfl, _, _, rfl, .inl (SqL.of hb), _, rfl, _, _, rfl, .inl (SqL.of ha), _, _, rfl, rfl, rfl, _, rfl, ite2 (fun e3 => ?_) fun e3 => ?_⟩
    · have e3 := nb_t e3
      rw [V.int.injEq] at e3
      exact bad (fun z => by omega) H (Same.refl H)
    have e3 := nb_f e3
    rw [V.int.injEq] at e3
    refine ⟨_, rfl, a, rfl, ⟨_, SqL.of ha⟩, fun D hD => ?_⟩
    refine lc_rel walk_list hD (by omega) (fun _ v (z : Bool) => v = .bl z) (fun _ _ _ _ _ z => z) (fun i => ps[i]?.map fun (x : Nat × Nat × Nat) => decide (x.1 ≤ x.2.2) && (decide (x.2.2 ≤ x.2.1) && decide (x.2.1 ≤ CaCanal.MOST))) (fun H' s' => SqL.of (s' _ _ ha)) (fun i x H' H'' hi s' y R r0 r1 => ?_) fun H2 zs s2 hx pr => ?_
    · obtain ⟨rfl, hx⟩ := y
      obtain ⟨c, o, rfl, ho, oc⟩ := oa.get hx
      refine ⟨c, _, rfl, SqT.rd (rdSame s' oc), rfl, _, _, rfl, _, _, rfl, _, _, rfl, rfl, rfl, _, rfl, _, rfl, _, rfl, o.1, o.2.1, o.2.2, rfl, ?_⟩
      exact r1 _ (by rw [ho]; rfl) _ _ (Same.refl _) rfl
    rw [la, some_range] at pr
    have e4 := paired_eq V.bl pr
    have hx : H2 D = some (.lst ((ps.map fun (x : Nat × Nat × Nat) => decide (x.1 ≤ x.2.2) && (decide (x.2.2 ≤ x.2.1) && decide (x.2.1 ≤ CaCanal.MOST))).map V.bl)) := by rw [← e4]; exact hx
    refine ⟨D, _, rfl, SqL.of hx, ?_⟩
    refine ⟨_, rfl, _, rfl, ite2 (fun e5 => ?_) fun e5 => ?_⟩
    · refine ⟨_, rfl, b, rfl, ⟨_, SqL.of (s2 _ _ hb)⟩, fun D2 hD2 => ?_⟩
      refine lc_rel walk_list hD2 (by omega) (fun _ v (z : Bool) => v = .bl z) (fun _ _ _ _ _ z => z) (fun i => ls[i]?.map fun (x : Nat × Nat × Nat) => decide (1 ≤ x.1) && (decide (x.1 ≤ 100) && (decide (1 ≤ x.2.1) && (decide (x.2.1 ≤ CaCanal.BOATS) && decide (x.2.2 ≤ 1))))) (fun H' s' => SqL.of (s' _ _ (s2 _ _ hb))) (fun i x H' H'' hi s' y R r0 r1 => ?_) fun H3 zs s3 hx2 pr2 => ?_
      · obtain ⟨rfl, hx⟩ := y
        obtain ⟨c, o, rfl, ho, oc⟩ := ob.get hx
        refine ⟨c, _, rfl, SqT.rd (rdSame (s2.trans s') oc), rfl, _, _, rfl, _, _, rfl, _, _, rfl, rfl, rfl, _, rfl, _, rfl, _, rfl, o.1, o.2.1, o.2.2, rfl, ?_⟩
        exact r1 _ (by rw [ho]; rfl) _ _ (Same.refl _) rfl
      rw [lb, some_range] at pr2
      have e6 := paired_eq V.bl pr2
      have hx2 : H3 D2 = some (.lst ((ls.map fun (x : Nat × Nat × Nat) => decide (1 ≤ x.1) && (decide (x.1 ≤ 100) && (decide (1 ≤ x.2.1) && (decide (x.2.1 ≤ CaCanal.BOATS) && decide (x.2.2 ≤ 1))))).map V.bl)) := by rw [← e6]; exact hx2
      refine ⟨D2, _, rfl, SqL.of hx2, qb (q H3 (s2.trans s3)) ?_⟩
      rw [List.all_map] at e5 ⊢
      have e5' : okP ps = true := e5
      have e7 : (2 ≤ ps.length ∧ ps.length ≤ 6 ∧ ls.length + 1 = ps.length ∧ okP ps = true ∧ okL ls = true) ↔ okL ls = true := ⟨fun z => z.2.2.2.2, fun z => ⟨by omega, by omega, by omega, e5', z⟩⟩
      rw [decide_eq_decide.mpr e7]
      show decide (okL ls = true) = okL ls
      cases okL ls <;> rfl
    · rw [List.all_map] at e5
      have := q H2 s2
      rw [decide_eq_false (fun z => e5 z.2.2.2.1)] at this
      exact this
  · have e := b_f e
    exact ⟨_, rfl, bad (fun z => by omega) H (Same.refl H)⟩
end
end Cn
end
section
set_option Elab.async false
set_option linter.all false
set_option maxRecDepth 100000
set_option maxHeartbeats 4000000
namespace Cn
open PySem PySem.Spec PyProof.Rows L2
open CaCanal (Canal Stand Op)
open Cm (GoodK Good getD_set)
def canalK (ps ls : List Op) : Canal := ⟨ps.map fun (x : Nat × Nat × Nat) => ⟨x.1, x.2.1⟩, ls.map fun (x : Nat × Nat × Nat) => ⟨x.1, x.2.1⟩⟩
def standK (ps ls : List Op) : Stand := ⟨ps.map fun (x : Nat × Nat × Nat) => x.2.2, ls.map fun (x : Nat × Nat × Nat) => x.2.2 == 1, Wqateb.noBoats⟩
/-- [one[j] for one in xs] -/
theorem lc_col {K : PySem.W.Frag} {σ : L2.St} {H : Hp} {Q : VK} {s i : Nat} {a : Addr} {xs : List V} {l : List Op} (j : Nat) (pj : Op → Nat) (hj : ∀ o : Op, ([nv o.1, nv o.2.1, nv o.2.2] : List V)[j]? = some (nv (pj o)))
    (hσ : σ[s]? = some (some (.ref a))) (ha : H a = some (.lst xs)) (ho : Ops H xs l) (hl : xs.length ≤ 100000) (hw : ∀ x, wipe ((wipe σ [i]).set i x) [i] = wipe σ [i]) (hr : ∀ x : V, ((wipe σ [i]).set i (some x))[i]? = some (some x))
    (q : ∀ (D : Addr) (H' : Hp), Same H H' → H D = none → H' D = some (.lst (l.map fun o => nv (pj o))) → Q (.ref D) H') : tLc (iList K (tVar s)) (gName i) tYes (tOp (rIxT K) (tVar i) (tC (.int (j : Int)))) [i] σ H Q := by
  have hline : (100000 : Nat) < sizeLine := by decide
  refine ⟨_, hσ, a, rfl, ⟨_, SqL.of ha⟩, fun D hD => ?_⟩
  refine lc_rel walk_list hD (by omega) (fun _ v (z : V) => v = z) (fun _ _ _ _ _ z => z) (fun i => l[i]?.map fun o => nv (pj o)) (fun H' s' => SqL.of (s' _ _ ha)) (fun n x H' H'' hi s' y R r0 r1 => ?_) fun H2 zs s2 hx pr => ?_
  · obtain ⟨rfl, hx⟩ := y
    obtain ⟨c, o, rfl, hg, oc⟩ := ho.get hx
    exact ⟨hw _, _, hr _, c, _, _, _, rfl, rfl, SqT.rd (rdSame s' oc), atI_nat (hj o), r1 _ (by rw [hg]; rfl) _ _ (Same.refl _) rfl⟩
  · rw [Paired.length ho, some_range] at pr
    have e := paired_eq id pr
    rw [List.map_id] at e
    exact q D H2 s2 hD (e ▸ hx)
/-- [g(c) for a, b, c in xs] -/
theorem lc_third {K : PySem.W.Frag} {σ : L2.St} {H : Hp} {Q : VK} {te : TE} {s i1 i2 i3 : Nat} {a : Addr} {xs : List V} {l : List Op} (g : Nat → V) (hσ : σ[s]? = some (some (.ref a))) (ha : H a = some (.lst xs)) (ho : Ops H xs l) (hl : xs.length ≤ 100000)
    (hw : ∀ x y z, wipe ((((wipe σ [i1, i2, i3]).set i1 x).set i2 y).set i3 z) [i1, i2, i3] = wipe σ [i1, i2, i3]) (ht : ∀ (x y : V) (n : Nat) (H' : Hp) (R : VK), R (g n) H' → te ((((wipe σ [i1, i2, i3]).set i1 (some x)).set i2 (some y)).set i3 (some (nv n))) H' R)
    (q : ∀ (D : Addr) (H' : Hp), Same H H' → H D = none → H' D = some (.lst (l.map fun o => g o.2.2)) → Q (.ref D) H') : tLc (iList K (tVar s)) (gTup K 3 (gCons (gName i1) (gCons (gName i2) (gCons (gName i3) gNil)))) tYes te [i1, i2, i3] σ H Q := by
  have hline : (100000 : Nat) < sizeLine := by decide
  refine ⟨_, hσ, a, rfl, ⟨_, SqL.of ha⟩, fun D hD => ?_⟩
  refine lc_rel walk_list hD (by omega) (fun _ v (z : V) => v = z) (fun _ _ _ _ _ z => z) (fun i => l[i]?.map fun o => g o.2.2) (fun H' s' => SqL.of (s' _ _ ha)) (fun n x H' H'' hi s' y R r0 r1 => ?_) fun H2 zs s2 hx pr => ?_
  · obtain ⟨rfl, hx⟩ := y
    obtain ⟨c, o, rfl, hg, oc⟩ := ho.get hx
    refine ⟨c, _, rfl, SqT.rd (rdSame s' oc), rfl, _, _, rfl, _, _, rfl, _, _, rfl, rfl, hw _ _ _, ?_⟩
    exact ht _ _ _ _ _ (r1 _ (by rw [hg]; rfl) _ _ (Same.refl _) rfl)
  · rw [Paired.length ho, some_range] at pr
    have e := paired_eq id pr
    rw [List.map_id] at e
    exact q D H2 s2 hD (e ▸ hx)
section
variable {P : Program} {w : World} {K : PySem.W.Frag} {mg : Str → Option Value} {base : Heap} {A : Ad}
def sp_first_stand : Sp := fun vs H Q _ => ∃ (a b : Addr) (xs ys : List V) (ps ls : List Op), vs = [.ref a, .ref b] ∧ H a = some (.lst xs) ∧ H b = some (.lst ys) ∧ Ops H xs ps ∧ Ops H ys ls ∧ xs.length ≤ 100000 ∧ ys.length ≤ 100000 ∧
  ∀ (H' : Hp) (p : Addr), Same H H' → StAt H' p (standK ps ls) → Q (.ref p) H'
theorem gd_first_stand (T : Txt K mg A) : GDef P w K mg base CX0 1 "first_stand" ["pounds", "locks"] sp_first_stand := by
  obtain ⟨f, fd, hm, F⟩ := T.t_first_stand
  refine ⟨f, fd, hm, F.kp, ?_, F.binds (fun _ _ _ _ _ _ us hl => match us, hl with | [_, _], _ => rfl)⟩
  refine F.ok sc_first_stand (fun vs H Q E h => ?_) (fun cdv Ar outer s H vs Q E hr h => ⟨_, (pss_cons (ps_set (i := 2) sc_first_stand.nd rfl (Or.inl rfl) (pe_callTy call_tuple_ofS (by rfl) T.b_tuple (by decide +kernel) (pa_cons (by exact (pe_lc (own := [("least", 3), ("most", 4), ("water", 5)]) (g := (gTup K 3 (gCons (gName 3) (gCons (gName 4) (gCons (gName 5) gNil))))) (tt := tYes) (te := (tVar 5)) rfl sc_first_stand.nd (pi_list (pv 0)) (blkOk_by (N := ["pounds", "locks", "waters", "least", "most", "water", "volume", "room", "full"]) (sc := defScope s_first_stand) (by decide +kernel)) (fun _ _ _ _ _ => by exact (pg_tup rfl (pgs_cons (pg_name (i := 3) sc_first_stand.nd rfl (Or.inl rfl)) (pgs_cons (pg_name (i := 4) sc_first_stand.nd rfl (Or.inl rfl)) (pgs_cons (pg_name (i := 5) sc_first_stand.nd rfl (Or.inl rfl)) pgs_nil))))) (fun _ _ _ _ _ => by exact pts_nil) (fun _ _ _ _ _ => by exact (pv 5)))) pa_nil)))
    (pss_one (ps_ret (pe_tupS (pa_cons (pv 2) (pa_cons (pe_callTy call_tuple_ofS (by rfl) T.b_tuple (by decide +kernel) (pa_cons (by exact (pe_lc (own := [("volume", 6), ("room", 7), ("full", 8)]) (g := (gTup K 3 (gCons (gName 6) (gCons (gName 7) (gCons (gName 8) gNil))))) (tt := tYes) (te := (tOp rEq (tVar 8) (tC (.int (1))))) rfl sc_first_stand.nd (pi_list (pv 1)) (blkOk_by (N := ["pounds", "locks", "waters", "least", "most", "water", "volume", "room", "full"]) (sc := defScope s_first_stand) (by decide +kernel)) (fun _ _ _ _ _ => by exact (pg_tup rfl (pgs_cons (pg_name (i := 6) sc_first_stand.nd rfl (Or.inl rfl)) (pgs_cons (pg_name (i := 7) sc_first_stand.nd rfl (Or.inl rfl)) (pgs_cons (pg_name (i := 8) sc_first_stand.nd rfl (Or.inl rfl)) pgs_nil))))) (fun _ _ _ _ _ => by exact pts_nil) (fun _ _ _ _ _ => by exact (pe_cmpR op_eq (pv 8) pe_int (nomark _))))) pa_nil)) (pa_cons (pe_op op_repFS (pe_tupS (pa_cons (pe_globI rfl T.c_AWAY) pa_nil)) (pe_globI rfl T.c_BOATS)) pa_nil))))))), ?_⟩)
  · obtain ⟨a, b, xs, ys, ps, ls, rfl, ha, hb, oa, ob, za, zb, q⟩ := h; rfl
  obtain ⟨a, b, xs, ys, ps, ls, rfl, ha, hb, oa, ob, za, zb, q⟩ := h
  unfold tSeq tAsg tCB tCons
  refine lc_third nv ?_ ha oa za ?_ ?_ fun D H1 s1 n1 d1 => ?_
  · rfl
  · exact fun _ _ _ => rfl
  · exact fun _ _ _ _ _ r => ⟨_, rfl, r⟩
  refine ⟨D, _, rfl, SqL.of d1, fun pw H2 n2 s2 w2 => ?_⟩
  refine ⟨_, rfl, ?_⟩
  dsimp only
  refine lc_third (fun n => .bl (n == 1)) ?_ (s2 _ _ (s1 _ _ hb)) (ob.tq (Tq.of_same (s1.trans s2))) zb ?_ ?_ fun D2 H3 s3 n3 d3 => ?_
  · rfl
  · exact fun _ _ _ => rfl
  · refine fun _ _ n _ _ r => ⟨_, rfl, rfl, qb r ?_⟩
    have e : decide (nv n = V.int 1) = decide (n = 1) := decide_eq_decide.mpr (by rw [V.int.injEq]; omega)
    rw [e]
    rfl
  refine ⟨D2, _, rfl, SqL.of d3, fun pf H4 n4 s4 w4 => ?_⟩
  refine ⟨(by show 1 ≤ sizeLine; decide), fun pa H5 n5 s5 w5 => ?_⟩
  refine ⟨pa, 4, _, rfl, rfl, SqT.of w5, by simp, by decide, by decide, by show 1 ≤ 1000; decide, fun pb H6 n6 s6 w6 => ?_⟩
  refine ⟨(by show 3 ≤ sizeLine; decide), fun p H7 n7 s7 w7 => ?_⟩
  refine q H7 p ((((((s1.trans s2).trans s3).trans s4).trans s5).trans s6).trans s7) (st_mk (.inl w7) ?_ ?_ ?_)
  · have := rdSame (((s3.trans s4).trans s5).trans (s6.trans s7)) (.inl w2)
    unfold TN standK
    rw [List.map_map]
    exact this
  · have := rdSame ((s5.trans s6).trans s7) (.inl w4)
    unfold TB standK
    rw [List.map_map]
    exact this
  · exact w6.at (Tq.of_same s7)
/-- all but p stands -/
def But (p : Addr) (H H' : Hp) : Prop := ∀ b o, H b = some o → b ≠ p → H' b = some o
theorem But.refl {p : Addr} (H : Hp) : But p H H := fun _ _ h _ => h
theorem But.same {p : Addr} {H H1 H2 : Hp} (a : But p H H1) (s : Same H1 H2) : But p H H2 := fun b o h n => s b o (a b o h n)
theorem But.upd {p : Addr} {H H1 : Hp} {u : HO} (a : But p H H1) : But p H (upd H1 p u) := fun b o h n => by
  rw [upd_ne n]
  exact a b o h n
theorem But.new {p : Addr} {H H1 : Hp} (a : But p H H1) (h : H p = none) : Same H H1 := fun b o e => a b o e (ne_of_none e h)
theorem But.tq {p : Addr} {H H1 : Hp} {C dx : Addr} {fs : List (Str × V)} (a : But p H H1) (h : H p = some (.ins C dx fs)) : Tq H H1 := fun b o i e => a b o e fun z => by
  rw [z, h] at e
  cases e
  exact i
theorem But.trans {p : Addr} {H H1 H2 : Hp} (a : But p H H1) (b : But p H1 H2) : But p H H2 := fun c o h n => b c o (a c o h n) n
def sp_Canal_init (A : Ad) : Sp := fun vs H Q _ => ∃ (p dx a b : Addr) (xs ys : List V) (ps ls : List Op), vs = [.ref p, .ref a, .ref b] ∧ H p = some (.ins A.Canal dx []) ∧ H a = some (.lst xs) ∧ H b = some (.lst ys) ∧ Ops H xs ps ∧ Ops H ys ls ∧ xs.length ≤ 100000 ∧ ys.length ≤ 100000 ∧
  ∀ H' : Hp, CanAt A H' p (canalK ps ls) → But p H H' → Q .non H'
theorem gd_Canal___init__ (T : Txt K mg A) : GMake P w K mg base CX0 1 "Canal" A.Canal ["self", "pounds", "locks"] (sp_Canal_init A) := by
  obtain ⟨f, fd, hm, M, F⟩ := T.t_Canal___init__
  refine ⟨f, fd, hm, M, ?_, F.binds (fun _ _ _ _ _ _ us hl => match us, hl with | [_, _, _], _ => rfl)⟩
  refine F.ok sc_Canal___init__ (fun vs H Q E h => ?_) (fun cdv Ar outer s H vs Q E hr h => ⟨_, (pss_cons (ps_fld (pv 0) (by exact (pe_lc (own := [("one", 3)]) (g := (gName 3)) (tt := tYes) (te := (tOp (rIxT K) (tVar 3) (tC (.int (0))))) rfl sc_Canal___init__.nd (pi_list (pv 1)) (blkOk_by (N := ["self", "pounds", "locks", "one"]) (sc := defScope s_Canal___init__) (by decide +kernel)) (fun _ _ _ _ _ => by exact (pg_name (i := 3) sc_Canal___init__.nd rfl (Or.inl rfl))) (fun _ _ _ _ _ => by exact pts_nil) (fun _ _ _ _ _ => by exact (pe_ix ix_tup (pv 3) pe_int (fun _ _ => rfl))))) rfl)
    (pss_cons (ps_fld (pv 0) (by exact (pe_lc (own := [("one", 3)]) (g := (gName 3)) (tt := tYes) (te := (tOp (rIxT K) (tVar 3) (tC (.int (1))))) rfl sc_Canal___init__.nd (pi_list (pv 1)) (blkOk_by (N := ["self", "pounds", "locks", "one"]) (sc := defScope s_Canal___init__) (by decide +kernel)) (fun _ _ _ _ _ => by exact (pg_name (i := 3) sc_Canal___init__.nd rfl (Or.inl rfl))) (fun _ _ _ _ _ => by exact pts_nil) (fun _ _ _ _ _ => by exact (pe_ix ix_tup (pv 3) pe_int (fun _ _ => rfl))))) rfl)
    (pss_cons (ps_fld (pv 0) (by exact (pe_lc (own := [("one", 3)]) (g := (gName 3)) (tt := tYes) (te := (tOp (rIxT K) (tVar 3) (tC (.int (0))))) rfl sc_Canal___init__.nd (pi_list (pv 2)) (blkOk_by (N := ["self", "pounds", "locks", "one"]) (sc := defScope s_Canal___init__) (by decide +kernel)) (fun _ _ _ _ _ => by exact (pg_name (i := 3) sc_Canal___init__.nd rfl (Or.inl rfl))) (fun _ _ _ _ _ => by exact pts_nil) (fun _ _ _ _ _ => by exact (pe_ix ix_tup (pv 3) pe_int (fun _ _ => rfl))))) rfl)
    (pss_one (ps_fld (pv 0) (by exact (pe_lc (own := [("one", 3)]) (g := (gName 3)) (tt := tYes) (te := (tOp (rIxT K) (tVar 3) (tC (.int (1))))) rfl sc_Canal___init__.nd (pi_list (pv 2)) (blkOk_by (N := ["self", "pounds", "locks", "one"]) (sc := defScope s_Canal___init__) (by decide +kernel)) (fun _ _ _ _ _ => by exact (pg_name (i := 3) sc_Canal___init__.nd rfl (Or.inl rfl))) (fun _ _ _ _ _ => by exact pts_nil) (fun _ _ _ _ _ => by exact (pe_ix ix_tup (pv 3) pe_int (fun _ _ => rfl))))) rfl))))), ?_⟩)
  · obtain ⟨p, dx, a, b, xs, ys, ps, ls, rfl, hp, ha, hb, oa, ob, za, zb, q⟩ := h; rfl
  obtain ⟨p, dx, a, b, xs, ys, ps, ls, rfl, hp, ha, hb, oa, ob, za, zb, q⟩ := h
  have nap : a ≠ p := ne_of ha hp (by intro z; cases z)
  have nbp : b ≠ p := ne_of hb hp (by intro z; cases z)
  unfold tSeq sFld
  refine lc_col 0 (fun o => o.1) (fun _ => rfl) ?_ ha oa za ?_ ?_ fun D1 H1 s1 n1 d1 => ?_
  · rfl
  · exact fun _ => rfl
  · exact fun _ => rfl
  have b1 : But p H H1 := (But.refl H).same s1
  refine ⟨_, rfl, p, A.Canal, dx, _, rfl, s1 _ _ hp, T.cl_Canal, T.n_Canal_least, (by show 0 < 1000; decide), ?_⟩
  generalize hG1 : upd H1 p (.ins A.Canal dx (putF "least" (.ref D1) [])) = G1
  have c1 : But p H G1 := by rw [← hG1]; exact b1.upd
  have p1 : G1 p = some (.ins A.Canal dx (putF "least" (.ref D1) [])) := by rw [← hG1]; exact upd_same
  have k1 : But p H1 G1 := by rw [← hG1]; exact (But.refl H1).upd
  have nD1 : D1 ≠ p := ne_of d1 (s1 _ _ hp) (by intro z; cases z)
  dsimp only
  refine lc_col 1 (fun o => o.2.1) (fun _ => rfl) ?_ (c1 _ _ ha nap) (oa.tq (c1.tq hp)) za ?_ ?_ fun D2 H2 s2 n2 d2 => ?_
  · rfl
  · exact fun _ => rfl
  · exact fun _ => rfl
  refine ⟨_, rfl, p, A.Canal, dx, _, rfl, s2 _ _ p1, T.cl_Canal, T.n_Canal_most, (by show 1 < 1000; decide), ?_⟩
  generalize hG2 : upd H2 p (.ins A.Canal dx (putF "most" (.ref D2) (putF "least" (.ref D1) []))) = G2
  have c2 : But p H G2 := by rw [← hG2]; exact (c1.same s2).upd
  have p2 : G2 p = some (.ins A.Canal dx (putF "most" (.ref D2) (putF "least" (.ref D1) []))) := by rw [← hG2]; exact upd_same
  have k2 : But p G1 G2 := by rw [← hG2]; exact ((But.refl G1).same s2).upd
  have k2' : But p H2 G2 := by rw [← hG2]; exact (But.refl H2).upd
  have nD2 : D2 ≠ p := ne_of d2 (s2 _ _ p1) (by intro z; cases z)
  try dsimp only
  refine lc_col 0 (fun o => o.1) (fun _ => rfl) ?_ (c2 _ _ hb nbp) (ob.tq (c2.tq hp)) zb ?_ ?_ fun D3 H3 s3 n3 d3 => ?_
  · rfl
  · exact fun _ => rfl
  · exact fun _ => rfl
  refine ⟨_, rfl, p, A.Canal, dx, _, rfl, s3 _ _ p2, T.cl_Canal, T.n_Canal_volumes, (by show 2 < 1000; decide), ?_⟩
  generalize hG3 : upd H3 p (.ins A.Canal dx (putF "volumes" (.ref D3) (putF "most" (.ref D2) (putF "least" (.ref D1) [])))) = G3
  have c3 : But p H G3 := by rw [← hG3]; exact (c2.same s3).upd
  have p3 : G3 p = some (.ins A.Canal dx (putF "volumes" (.ref D3) (putF "most" (.ref D2) (putF "least" (.ref D1) [])))) := by rw [← hG3]; exact upd_same
  have k3 : But p G2 G3 := by rw [← hG3]; exact ((But.refl G2).same s3).upd
  have k3' : But p H3 G3 := by rw [← hG3]; exact (But.refl H3).upd
  have nD3 : D3 ≠ p := ne_of d3 (s3 _ _ p2) (by intro z; cases z)
  try dsimp only
  refine lc_col 1 (fun o => o.2.1) (fun _ => rfl) ?_ (c3 _ _ hb nbp) (ob.tq (c3.tq hp)) zb ?_ ?_ fun D4 H4 s4 n4 d4 => ?_
  · rfl
  · exact fun _ => rfl
  · exact fun _ => rfl
  refine ⟨_, rfl, p, A.Canal, dx, _, rfl, s4 _ _ p3, T.cl_Canal, T.n_Canal_rooms, (by show 3 < 1000; decide), ?_⟩
  have nD4 : D4 ≠ p := ne_of d4 (s4 _ _ p3) (by intro z; cases z)
  have c4 : But p H (upd H4 p (.ins A.Canal dx (putF "rooms" (.ref D4) (putF "volumes" (.ref D3) (putF "most" (.ref D2) (putF "least" (.ref D1) [])))))) := (c3.same s4).upd
  have k4 : But p G3 (upd H4 p (.ins A.Canal dx (putF "rooms" (.ref D4) (putF "volumes" (.ref D3) (putF "most" (.ref D2) (putF "least" (.ref D1) [])))))) := ((But.refl G3).same s4).upd
  refine q _ ⟨dx, D1, D2, D3, D4, ?_, ?_, ?_, ?_, ?_⟩ c4
  · rw [upd_same, nC]
  · have := k4 _ _ (k3 _ _ (k2 _ _ (k1 _ _ d1 nD1) nD1) nD1) nD1
    unfold canalK
    rw [List.map_map]
    exact this
  · have := k4 _ _ (k3 _ _ (k2' _ _ d2 nD2) nD2) nD2
    unfold canalK
    rw [List.map_map]
    exact this
  · have := k4 _ _ (k3' _ _ d3 nD3) nD3
    unfold canalK
    rw [List.map_map]
    exact this
  · rw [upd_ne nD4]
    unfold canalK
    rw [List.map_map]
    exact d4
/-- flattened -/
def sp_flattened : Sp := fun vs H Q _ => ∃ (a : Addr) (xs : List V) (l : List Op), vs = [.ref a] ∧ H a = some (.lst xs) ∧ Ops H xs l ∧ l.length ≤ 100000 ∧ ∀ (H' : Hp) (p : Addr), Same H H' → H p = none → H' p = some (.lst ((Wqateb.opsRow l).map nv)) → Q (.ref p) H'
end
end Cn
end
section
set_option Elab.async false
set_option linter.all false
set_option maxRecDepth 100000
set_option maxHeartbeats 4000000
namespace Cn
open PySem PySem.Spec PyProof.Rows L2
open CaCanal (Canal Stand Op)
open Cm (GoodK Good getD_set)
theorem opsRow_snoc (l : List Op) (o : Op) : Wqateb.opsRow (l ++ [o]) = Wqateb.opsRow l ++ [o.1, o.2.1, o.2.2] := by
  unfold Wqateb.opsRow
  rw [List.flatMap_append]
  simp
theorem opsRow_len (l : List Op) : (Wqateb.opsRow l).length = 3 * l.length := by
  unfold Wqateb.opsRow
  induction l with
  | nil => rfl
  | cons x l ih =>
    rw [List.flatMap_cons, List.length_append, ih]
    simp only [List.length_cons, List.length_nil]
    omega
theorem take_snoc {α : Type} {l : List α} {i : Nat} {x : α} (h : l[i]? = some x) : l.take (i + 1) = l.take i ++ [x] := by
  rw [List.take_succ, h]
  rfl
section
variable {P : Program} {w : World} {K : PySem.W.Frag} {mg : Str → Option Value} {base : Heap} {A : Ad}
theorem gd_flattened (T : Txt K mg A) : GDef P w K mg base CX0 1 "flattened" ["operations"] sp_flattened := by
  obtain ⟨f, fd, hm, F⟩ := T.t_flattened
  refine ⟨f, fd, hm, F.kp, ?_, F.binds (fun _ _ _ _ _ _ us hl => match us, hl with | [_], _ => rfl)⟩
  refine F.ok sc_flattened (fun vs H Q E h => ?_) (fun cdv Ar outer s H vs Q E hr h => ⟨_, (pss_cons (ps_set (i := 1) sc_flattened.nd rfl (Or.inl rfl) (pe_lstS pa_nil))
    (pss_cons (ps_for PassesOwn.never rfl (pi_list (pv 0)) (pg_name (i := 2) sc_flattened.nd rfl (Or.inl rfl)) (pss_one (ps_expr (pe_bm PySem.F.plainAttrs_list PySem.F.slot_list_extend PySem.F.type_list_extend mt_extT (pv 1) (pa_cons (pv 2) pa_nil)))))
    (pss_one (ps_ret (pv 1))))), ?_⟩)
  · obtain ⟨a, xs, l, rfl, ha, ho, hl, q⟩ := h; rfl
  obtain ⟨a, xs, l, rfl, ha, ho, hl, q⟩ := h
  have hline : (1000000 : Nat) < sizeLine := by decide
  have hlen := Paired.length ho
  refine ⟨Nat.zero_le _, fun p H1 n1 s1 p1 => ?_⟩
  refine ⟨_, rfl, a, rfl, ⟨_, SqL.of (s1 _ _ ha)⟩, ?_⟩
  refine for_it (walk_list (xs := xs)) (fun i σ H' => ∃ v : Option V, σ = [some (.ref a), some (.ref p), v] ∧ Same H H' ∧ H' p = some (.lst ((Wqateb.opsRow (l.take i)).map nv))) ⟨none, rfl, s1, p1⟩ (fun i σ H' hi h => ?_) (fun i x σ H' H'' hi h y => ?_) fun σ H' h => ?_
  · obtain ⟨v, rfl, s2, _⟩ := h
    exact SqL.of (s2 _ _ ha)
  · obtain ⟨v, rfl, s2, p2⟩ := h
    obtain ⟨rfl, hx⟩ := y
    obtain ⟨c, o, rfl, hg, oc⟩ := ho.get hx
    refine ⟨_, rfl, .inl ⟨rfl, _, SqL.of p2⟩, _, rfl, p, c, _, _, rfl, rfl, p2, SqT.rd (rdSame s2 oc), ?_, _, rfl, same_mut s2 n1, ?_⟩
    · rw [List.length_map, opsRow_len, List.length_take]
      show _ + 3 ≤ _
      omega
    · rw [upd_same, take_snoc hg, opsRow_snoc, List.map_append]
      rfl
  · obtain ⟨v, rfl, s2, p2⟩ := h
    rw [hlen, List.take_length] at p2
    exact ⟨_, rfl, q H' p s2 n1 p2⟩
/-- rows_at -/
def LIs (H : Hp) : List V → List (List Int) → Prop := Paired fun v r => ∃ b, v = V.ref b ∧ H b = some (.lst (r.map V.int))
theorem LIs.same {H H' : Hp} (s : Same H H') {xs : List V} {l : List (List Int)} (h : LIs H xs l) : LIs H' xs l := Paired.mapP h fun _ _ ⟨b, e, o⟩ => ⟨b, e, s _ _ o⟩
def sp_rows_at (K : PySem.W.Frag) : Sp := fun vs H Q _ => ∃ (a : Addr) (at_ many : Nat) (ns : List Int) (rs : List (List Int)) (rest : List Int), vs = [.ref a, nv at_, nv many] ∧ SqL K H a (ns.map V.int) ∧ many ≤ 2 ∧ at_ ≤ ns.length ∧ PyFlat.rows many (ns.drop at_) = some (rs, rest) ∧
  ∀ (H' : Hp) (p fl : Addr) (xs : List V) (at2 : Nat), Same H H' → Rd H' p (.tup [.ref fl, nv at2]) → H fl = none → H' fl = some (.lst xs) → LIs H' xs rs → ns.drop at2 = rest → at2 ≤ ns.length → Q (.ref p) H'
theorem row_get {r : List Int} {x s : List Int} (h : PyFlat.row r = some (x, s)) : ∃ (m : Nat) (r' : List Int), r = (m : Int) :: r' ∧ m ≤ r'.length ∧ x = r'.take m ∧ s = r'.drop m := by
  cases r with
  | nil => cases h
  | cons n r' =>
    have h : (if 0 ≤ n ∧ n.toNat ≤ r'.length then some (r'.take n.toNat, r'.drop n.toNat) else none) = some (x, s) := h
    split at h
    · rename_i c
      cases h
      exact ⟨n.toNat, r', by rw [Int.toNat_of_nonneg c.1], c.2, rfl, rfl⟩
    · cases h
theorem drop_cons {α : Type} {l : List α} {i : Nat} {x : α} {r : List α} (h : l.drop i = x :: r) : l[i]? = some x ∧ l.drop (i + 1) = r ∧ i < l.length := by
  have hi : i < l.length := Classical.byContradiction fun c => by
    rw [List.drop_eq_nil_of_le (by omega)] at h
    cases h
  rw [List.drop_eq_getElem_cons hi] at h
  cases h
  exact ⟨List.getElem?_eq_getElem hi, rfl, hi⟩
theorem gd_rows_at (T : Txt K mg A) : GDef P w K mg base CX0 1 "rows_at" ["calls", "at", "many"] (sp_rows_at K) := by
  obtain ⟨f, fd, hm, F⟩ := T.t_rows_at
  refine ⟨f, fd, hm, F.kp, ?_, F.binds (fun _ _ _ _ _ _ us hl => match us, hl with | [_, _, _], _ => rfl)⟩
  refine F.ok sc_rows_at (fun vs H Q E h => ?_) (fun cdv Ar outer s H vs Q E hr h => ⟨_, (pss_cons (ps_set (i := 3) sc_rows_at.nd rfl (Or.inl rfl) (pe_lstS pa_nil))
    (pss_cons (ps_for PassesOwn.never rfl (pi_range1 (by rfl) T.b_range (pa_cons (pv 2) pa_nil)) (pg_name (i := 4) sc_rows_at.nd rfl (Or.inl rfl)) (pss_cons (ps_set (i := 5) sc_rows_at.nd rfl (Or.inl rfl) (pe_op op_add (pe_op op_add (pv 1) pe_int) (pe_ix ix_list (pv 0) (pv 1) (fun _ _ => rfl))))
    (pss_cons (ps_expr (pe_bm PySem.F.plainAttrs_list PySem.F.slot_list_append PySem.F.type_list_append mt_append (pv 3) (pa_cons (pe_slice sl_listS (pv 0) (po_some (pe_op op_add (pv 1) pe_int)) (po_some (pv 5))) pa_nil)))
    (pss_one (ps_set (i := 1) sc_rows_at.nd rfl (Or.inl rfl) (pv 5))))))
    (pss_one (ps_ret (pe_tupS (pa_cons (pv 3) (pa_cons (pv 1) pa_nil))))))), ?_⟩)
  · obtain ⟨a, at0, many, ns, rs, rest, rfl, ha, hm, hat, hr0, q⟩ := h; rfl
  obtain ⟨a, at0, many, ns, rs, rest, rfl, ha, hm, hat, hr0, q⟩ := h
  have hline : (1000000 : Nat) < sizeLine := by decide
  refine ⟨Nat.zero_le _, fun l H1 n1 s1 l1 => ?_⟩
  refine ⟨_, rfl, (many : Int), rfl, by omega, by omega, ?_⟩
  rw [Int.toNat_natCast]
  refine for_range (fun j σ H' => ∃ (xs : List V) (rs1 : List (List Int)) (at1 : Nat) (v4 v5 : Option V), σ = [some (.ref a), some (nv at1), some (nv many), some (.ref l), v4, v5] ∧ Same H H' ∧ H' l = some (.lst xs) ∧ (Paired (fun v r => ∃ b, v = V.ref b ∧ b ≠ l ∧ H' b = some (.lst (r.map V.int))) xs rs1) ∧ xs.length = j ∧ at1 ≤ ns.length ∧
      ∃ ys, PyFlat.rows (many - j) (ns.drop at1) = some (ys, rest) ∧ rs = rs1 ++ ys)
    ⟨[], [], at0, none, none, rfl, s1, l1, .nil, rfl, hat, rs, hr0, rfl⟩ (fun j σ H' hj h => ?_) fun σ H' h => ?_
  · obtain ⟨xs, rs1, at1, v4, v5, rfl, s2, l2, pr, z2, hat1, ys, hy, hrs⟩ := h
    obtain ⟨m, hm2⟩ : ∃ m, many - j = m + 1 := ⟨many - j - 1, by omega⟩
    rw [hm2] at hy
    unfold PyFlat.rows at hy
    split at hy
    · cases hy
    · rename_i x s hrow
      split at hy
      · cases hy
      · rename_i xs2 t2 hrows
        cases hy
        obtain ⟨n, r', e1, e2, rfl, rfl⟩ := row_get hrow
        obtain ⟨g1, g2, g3⟩ := drop_cons e1
        have g4 : r'.length = ns.length - (at1 + 1) := by rw [← g2, List.length_drop]
        refine ⟨_, rfl, _, _, rfl, rfl, _, rfl, _, rfl, a, _, _, _, rfl, rfl, s2.seq ha, atI_nat (j := at1) (by rw [List.getElem?_map, g1]; rfl), _, _, rfl, rfl, ?_⟩
        have ee : (at1 : Int) + 1 + (n : Int) = ((at1 + 1 + n : Nat) : Int) := by omega
        have ecut : cutV (ns.map V.int) (some (((at1 + 1 : Nat) : Nat) : Int)) (some ((at1 + 1 + n : Nat) : Int)) = (r'.take n).map V.int := by
          unfold cutV
          rw [HT.sIx_nat, HT.sIx_nat, List.length_map, Nat.min_eq_left (by omega), Nat.min_eq_left (by omega), Nat.add_sub_cancel_left, ← List.map_drop, ← List.map_take, g2]
        dsimp only
        rw [ee]
        refine ⟨_, rfl, .inl ⟨rfl, _, SqL.of l2⟩, _, rfl, _, rfl, _, _, rfl, rfl, _, rfl, _, rfl, _, rfl, a, _, rfl, s2.seq ha, fun b H3 n3 s3 b3 => ?_⟩
        have b3 : H3 b = some (.lst (cutV (ns.map V.int) (some (((at1 + 1 : Nat) : Nat) : Int)) (some ((at1 + 1 + n : Nat) : Int)))) := b3
        rw [ecut] at b3
        have nbl : b ≠ l := (ne_of_none l2 n3).symm
        refine ⟨l, xs, _, rfl, rfl, s3 _ _ l2, by omega, _, rfl, xs ++ [.ref b], rs1 ++ [r'.take n], at1 + 1 + n, _, _, rfl, same_mut (s2.trans s3) n1, upd_same, ?_, ?_, ?_, xs2, ?_, ?_⟩
        · refine paired_append (Paired.mapP pr fun v r ⟨c, hc, hcl, hg⟩ => ⟨c, hc, hcl, ?_⟩) (.cons ⟨b, rfl, nbl, ?_⟩ .nil)
          · rw [upd_ne hcl]
            exact s3 _ _ hg
          · rw [upd_ne nbl]
            exact b3
        · rw [List.length_append, z2]
          rfl
        · omega
        · have e5 : many - (j + 1) = m := by omega
          rw [e5, ← List.drop_drop, g2]
          exact hrows
        · rw [List.append_assoc]
          exact hrs
  · obtain ⟨xs, rs1, at1, v4, v5, rfl, s2, l2, pr, z2, hat1, ys, hy, hrs⟩ := h
    rw [Nat.sub_self] at hy
    cases hy
    rw [List.append_nil] at hrs
    subst hrs
    refine ⟨_, rfl, _, rfl, (by show 2 ≤ sizeLine; decide), fun p H3 n3 s3 p3 => ?_⟩
    exact q H3 p l xs at1 (s2.trans s3) (.inl p3) n1 (s3 _ _ l2) (Paired.mapP pr fun v r ⟨c, hc, _, hg⟩ => ⟨c, hc, s3 _ _ hg⟩) rfl hat1
end
end Cn
end
section
set_option Elab.async false
set_option linter.all false
set_option maxRecDepth 100000
set_option maxHeartbeats 4000000
namespace Cn
open PySem PySem.Spec PyProof.Rows L2
open CaCanal (Canal Stand Op)
open Cm (GoodK Good getD_set)
/-! ### the program's two exceptions -/
structure TxE (K : PySem.W.Frag) (mg : Str → Option Value) (A : Ad) : Prop where
  vV : PySem.W.findCls K (.type "ValueError") (.type "type") "__init__" = some (.val (.builtin "ValueError.__init__"))
  oR : OexC K A.Refused
  xR : XfC K A.Refused
  nR : PySem.W.findIn K (.ref A.Refused) "number" = some none
  gR : mg "Refused" = some (.ref A.Refused)
  teR : PySem.W.exmOne K (.ref A.Refused) (.ref A.Refused) = some true
  iR : ∃ f fd, PySem.W.findIn K (.ref A.Refused) "__init__" = some (some (.ref f)) ∧ PySem.W.typeIn K (.ref f) = some (.type "function") ∧ L2.Fun K "__init__" "Refused.__init__" s_Refused___init__ f fd
  oM : OexC K A.TooMany
  gM : mg "TooMany" = some (.ref A.TooMany)
  teM : PySem.W.exmOne K (.ref A.TooMany) (.ref A.TooMany) = some true
  iM : ∃ f fd, PySem.W.findIn K (.ref A.TooMany) "__init__" = some (some (.ref f)) ∧ PySem.W.typeIn K (.ref f) = some (.type "function") ∧ L2.Fun K "__init__" "TooMany.__init__" s_TooMany___init__ f fd
  num : ∃ a, mg "NUMBERS" = some (.ref a) ∧ ∀ H, SqT K H a ([0, 2, 1, 3, 1, 1, 1, 1, 0, 0, 5, 0].map nv)
  row : ∃ a, mg "ROWS" = some (.ref a) ∧ ∀ H, SqT K H a ([2, 0, 0, 0, 0, 0, 0, 0, 0, 0, 0, 1].map nv)
section
variable {P : Program} {w : World} {K : PySem.W.Frag} {mg : Str → Option Value} {base : Heap} {A : Ad}
theorem ge_TooMany (T : Txt K mg A) (U : TxE K mg A) : GExc0 P w K mg base "TooMany" A.TooMany := by
  obtain ⟨f, fd, h1, h2, F⟩ := U.iM
  refine ⟨U.oM, U.gM, U.teM, f, fd, h1, h2, ?_, F.binds (fun _ _ _ _ _ _ us hl => match us, hl with | [_], _ => rfl)⟩
  refine F.ok sc_TooMany___init__ (fun vs H Q E h => ?_) (fun cdv Ar outer s H vs Q E hr h => ⟨_, (pss_one (ps_expr (pe_veinit rfl T.b_ValueError U.vV (by exact (pa_cons (pv 0) (pa_cons pe_str pa_nil)))))), ?_⟩)
  · obtain ⟨a, rfl, _⟩ := h; rfl
  obtain ⟨a, rfl, ha, q⟩ := h
  exact ⟨_, rfl, a, A.TooMany, _, rfl, (by show 1 ≤ 1000; decide), U.oM, ha, q⟩
theorem ge_Refused (T : Txt K mg A) (U : TxE K mg A) : GExc1 P w K mg base "Refused" A.Refused := by
  obtain ⟨f, fd, h1, h2, F⟩ := U.iR
  have rd : ∀ (vs : List V) (H : Hp) (Q : VK) (E : XK), sp_ve1 A.Refused vs H Q E → (tSeq (tDrop (tVeI K (tCons (tVar 0) (tCons (tC (.str "refused")) tNil)))) (tOst K "number" (tVar 0) (tVar 1))) { nx := fun _ H' => Q .non H', rt := Q } (start ["self", "number"] vs) H := by
    intro vs H Q E h
    obtain ⟨a, n, rfl, ha, q⟩ := h
    exact ⟨_, rfl, a, A.Refused, _, rfl, (by show 1 ≤ 1000; decide), U.oR, ha, _, rfl, _, rfl, a, A.Refused, rfl, U.oR, U.nR, .inl ⟨ha, q⟩⟩
  refine ⟨U.oR, U.xR, U.nR, U.gR, U.teR, f, fd, h1, h2, ?_, ?_, F.binds (fun _ _ _ _ _ _ us hl => match us, hl with | [_, _], _ => rfl)⟩
  · refine F.ok sc_Refused___init__ (fun vs H Q E h => ?_) (fun cdv Ar outer s H vs Q E hr h => ⟨_, (pss_cons (ps_expr (pe_veinit rfl T.b_ValueError U.vV (by exact (pa_cons (pv 0) (pa_cons pe_str pa_nil))))) (pss_one (ps_ost (pv 0) (pv 1)))), rd vs H Q E h⟩)
    obtain ⟨a, n, rfl, _⟩ := h; rfl
  · refine Cn.Fun.okH F sc_Refused___init__ (fun vs H Q E h => ?_) (fun cdv Ar outer s H vs Q E p hp hr h => ⟨_, (pss_cons (ps_expr (pe_veinit rfl T.b_ValueError U.vV (by exact (pa_cons (pv 0) (pa_cons pe_str pa_nil))))) (pss_one (ps_ost (pv 0) (pv 1)))), rd vs H Q E h⟩)
    obtain ⟨a, n, rfl, _⟩ := h; rfl
/-- the way out by Refused: a new dict holds the number -/
def Rf (A : Ad) (E : XK) (n : Int) (H : Hp) : Prop := ∀ (d : Addr) (H' : Hp), Same H H' → H d = none → H' d = some (.xd [("number", .int n)]) → E (.ref A.Refused) (some d) H'
theorem Rf.same {A : Ad} {E : XK} {n : Int} {H H1 : Hp} (s : Same H H1) (h : Rf A E n H) : Rf A E n H1 := fun d H' s' hd he => h d H' (s.trans s') (same_none s hd) he
def sp_want (A : Ad) : Sp := fun vs H Q E => ∃ (b : Bool) (n : Int), vs = [.bl b, .int n] ∧ (b = true → Q .non H) ∧ (b = false → Rf A E n H)
theorem gd_want (T : Txt K mg A) (U : TxE K mg A) : GDef P w K mg base (L2.CX P w) 3 "want" ["is_so", "number"] (sp_want A) := by
  obtain ⟨f, fd, hm, F⟩ := T.t_want
  refine ⟨f, fd, hm, F.kp, ?_, F.binds (fun _ _ _ _ _ _ us hl => match us, hl with | [_, _], _ => rfl)⟩
  refine F.okX sc_want (fun vs H Q E h => ?_) (fun cdv Ar outer s H vs Q E hr h => ⟨_, (pss_one (ps_if (pt_not (pt_val (pv 0))) (pss_one (ps_raise rfl (takes_of rfl rfl rfl rfl) (pmk_r1 (ge_Refused T U) (hr.mono (by decide)) rfl (by exact (pa_cons (pv 1) pa_nil))))) pss_nil)), ?_⟩)
  · obtain ⟨b, n, rfl, q1, q2⟩ := h; rfl
  obtain ⟨b, n, rfl, q1, q2⟩ := h
  refine ⟨_, rfl, _, rfl, ite2 (fun e => ?_) fun e => ?_⟩
  · exact ⟨_, rfl, n, rfl, q2 (nbb_t e)⟩
  · exact q1 (nbb_f e)
end
end Cn
end
section
set_option Elab.async false
set_option linter.all false
set_option maxRecDepth 100000
set_option maxHeartbeats 4000000
namespace Cn
open PySem PySem.Spec PyProof.Rows L2
open CaCanal (Canal Stand Op)
open Cm (GoodK Good getD_set Ent WL waitAt flat flat_cons)
/-! ### {} told by what stands -/
def tNewS (P : Program) (w : World) (F : List V → Prop) : TE := fun _ H Q => ∀ (p : Addr) (H1 : Hp), H p = none → Same H H1 → ND P w F H1 p [] → Q (.ref p) H1
theorem pe_ndnewS {X : Cx} {pos : Pos} {F : List V → Prop} : PE X (.Dict [] [] pos) (tNewS X.prog X.w F) := ⟨fun pins s σ H Q I h => (pe_ndnew (F := F)).run pins s σ H Q I fun p xs hp n => h p _ hp (same_new hp) n⟩
/-! ### keys -/
def skey (t : Stand) : NestedKey := .tup [.tup (t.water.map fun (n : Nat) => .num (n : Int)), .tup (t.full.map fun b => .num (if b = true then 1 else 0)), .tup (t.boats.map fun (n : Nat) => .num (pl n))]
theorem keyvs_map {α : Type} {H : Hp} {f : α → V} {g : α → NestedKey} (h : ∀ a, KeyV H (f a) (g a)) : ∀ l : List α, KeyVs H (l.map f) (l.map g)
  | [] => .nil
  | a :: l => .cons (h a) (keyvs_map h l)
theorem keyv_st {H : Hp} {a : Addr} {t : Stand} (h : StAt H a t) : KeyV H (.ref a) (skey t) := by
  obtain ⟨w, f, b, h0, h1, h2, h3⟩ := h.ex
  refine .tup h0 (.cons (.tup h1 (keyvs_map (fun n => .int _) _)) (.cons (.tup h2 (keyvs_map (fun b => .bl b) _)) (.cons (.tup h3.rd ?_) .nil)))
  rw [List.map_map]
  exact keyvs_map (fun n => .int _) _
theorem depth_nums {α : Type} (f : α → Int) : ∀ l : List α, NestedKey.depthAll (l.map fun a => NestedKey.num (f a)) = 0
  | [] => rfl
  | a :: l => by
    rw [List.map_cons, NestedKey.depthAll, depth_nums f l]
    rfl
theorem skey_depth (t : Stand) : (skey t).depth ≤ 8 := by
  unfold skey
  simp only [NestedKey.depth, NestedKey.depthAll, depth_nums]
  omega
theorem map_inj {α β : Type} {f : α → β} (h : ∀ a b, f a = f b → a = b) : ∀ {l m : List α}, l.map f = m.map f → l = m
  | [], [], _ => rfl
  | [], _ :: _, e => by simp at e
  | _ :: _, [], e => by simp at e
  | a :: l, b :: m, e => by
    rw [List.map_cons, List.map_cons, List.cons.injEq] at e
    rw [h _ _ e.1, map_inj h e.2]
theorem skey_inj {t u : Stand} (h : skey t = skey u) : t = u := by
  unfold skey at h
  simp only [NestedKey.tup.injEq, List.cons.injEq, and_true] at h
  obtain ⟨h1, h2, h3⟩ := h
  have e1 := map_inj (fun (a b : Nat) (e : NestedKey.num (a : Int) = NestedKey.num (b : Int)) => by
    rw [NestedKey.num.injEq] at e
    omega) h1
  have e2 := map_inj (fun (a b : Bool) (e : NestedKey.num (if a = true then 1 else 0) = NestedKey.num (if b = true then 1 else 0)) => by
    rw [NestedKey.num.injEq] at e
    cases a <;> cases b <;> simp_all) h2
  have e3 := map_inj (fun (a b : Nat) (e : NestedKey.num (pl a) = NestedKey.num (pl b)) => by
    rw [NestedKey.num.injEq] at e
    exact pl_inj.mp e) h3
  obtain ⟨w, f, b⟩ := t
  obtain ⟨w', f', b'⟩ := u
  simp only at e1 e2 e3
  rw [e1, e2, e3]
def pk (k : Nat × Nat) : NestedKey := pairKey ((k.1 : Int), (k.2 : Int))
theorem pk_inj {a b : Nat × Nat} (h : pk a = pk b) : a = b := by
  unfold pk pairKey at h
  simp only [NestedKey.tup.injEq, List.cons.injEq, NestedKey.num.injEq, and_true] at h
  obtain ⟨a1, a2⟩ := a
  obtain ⟨b1, b2⟩ := b
  rw [Prod.mk.injEq]
  simp only at h
  omega
theorem pk_depth (k : Nat × Nat) : (pk k).depth ≤ 8 := by
  show (NestedKey.tup [.num (k.1 : Int), .num (k.2 : Int)]).depth ≤ 8
  simp only [NestedKey.depth, NestedKey.depthAll]
  omega
theorem keyv_pk {H : Hp} {b : Addr} {k : Nat × Nat} (h : Rd H b (.tup [nv k.1, nv k.2])) : KeyV H (.ref b) (pk k) := .tup h (.cons (.int _) (.cons (.int _) .nil))
/-! ### what the settled stands are asked -/
theorem set_val (S : List Stand) (t : Stand) : (valV (S.map fun u => (skey u, V.bl true)) (skey t)).isSome = true ↔ t ∈ S := by
  rw [← valV_any, List.any_eq_true]
  constructor
  · rintro ⟨p, hp, e⟩
    obtain ⟨u, hu, rfl⟩ := List.mem_map.mp hp
    have := skey_inj (of_decide_eq_true e)
    rw [← this]
    exact hu
  · intro h
    exact ⟨_, List.mem_map.mpr ⟨t, h, rfl⟩, decide_eq_true rfl⟩
theorem putK_none {κ : Type} [DecidableEq κ] {kvs : List (κ × V)} {k : κ} {v : V} (h : valV kvs k = none) : putK kvs k v = kvs ++ [(k, v)] := by
  unfold putK
  rw [valV_any, h]
  rfl
/-! ### what waits, with the places of its rows -/
abbrev ZL := List ((Nat × Nat) × List Ent × Addr)
def toW (z : (Nat × Nat) × List Ent × Addr) : (Nat × Nat) × List Ent := (z.1, z.2.1)
def toK (z : (Nat × Nat) × List Ent × Addr) : NestedKey × V := (pk z.1, .ref z.2.2)
theorem valZ_some {Z : ZL} {k : Nat × Nat} {v : V} (h : valV (Z.map toK) (pk k) = some v) : ∃ z ∈ Z, z.1 = k ∧ v = .ref z.2.2 := by
  induction Z with
  | nil => cases h
  | cons z Z ih =>
    by_cases e : (toK z).1 = pk k
    · rw [List.map_cons, valV_pos e] at h
      exact ⟨z, List.mem_cons_self, pk_inj e, (Option.some.inj h).symm⟩
    · rw [List.map_cons, valV_neg e] at h
      obtain ⟨y, h1, h2⟩ := ih h
      exact ⟨y, List.mem_cons_of_mem _ h1, h2⟩
theorem valZ_none {Z : ZL} {k : Nat × Nat} (h : valV (Z.map toK) (pk k) = none) : ∀ z ∈ Z, z.1 ≠ k := fun z hz e => by
  have q : ((Z.map toK).any fun kv => decide (kv.1 = pk k)) = true := List.any_eq_true.mpr ⟨toK z, List.mem_map.mpr ⟨z, hz, rfl⟩, decide_eq_true (by rw [← e]; rfl)⟩
  rw [valV_any, h] at q
  cases q
theorem nodup_key {α β : Type} {f : α → β} : ∀ {l : List α}, (l.map f).Nodup → ∀ x ∈ l, ∀ y ∈ l, f x = f y → x = y
  | [], _, x, hx, _, _, _ => by cases hx
  | a :: l, n, x, hx, y, hy, e => by
    rw [List.map_cons, List.nodup_cons] at n
    obtain ⟨n1, n2⟩ := n
    rcases List.mem_cons.mp hx with h1 | h1
    · rcases List.mem_cons.mp hy with h2 | h2
      · rw [h1, h2]
      · exact absurd (List.mem_map.mpr ⟨y, h2, by rw [← e, h1]⟩) n1
    · rcases List.mem_cons.mp hy with h2 | h2
      · exact absurd (List.mem_map.mpr ⟨x, h1, by rw [e, h2]⟩) n1
      · exact nodup_key n2 x h1 y h2 e
theorem valZ_of {Z : ZL} (n : (Z.map fun z => z.1).Nodup) {z : (Nat × Nat) × List Ent × Addr} (hz : z ∈ Z) : valV (Z.map toK) (pk z.1) = some (.ref z.2.2) := by
  cases h : valV (Z.map toK) (pk z.1) with
  | none => exact absurd rfl (valZ_none h z hz)
  | some v =>
    obtain ⟨y, hy, e1, e2⟩ := valZ_some h
    rw [nodup_key n y hy z hz e1] at e2
    rw [e2]
def RowAt (H : Hp) (r : Addr) (l : List Op) : Prop := ∃ xs, Rd H r (.tup xs) ∧ Ops H xs l
theorem RowAt.tq {H H' : Hp} {r : Addr} {l : List Op} (t : Tq H H') (h : RowAt H r l) : RowAt H' r l := let ⟨xs, h1, h2⟩ := h; ⟨xs, t.tups _ _ h1, h2.tq t⟩
def EntAt (H : Hp) (p : Addr) (e : Ent) : Prop := ∃ r s : Addr, Rd H p (.tup [.ref r, .ref s]) ∧ RowAt H r e.1 ∧ StAt H s e.2
theorem EntAt.tq {H H' : Hp} {p : Addr} {e : Ent} (t : Tq H H') (h : EntAt H p e) : EntAt H' p e := let ⟨r, s, h1, h2, h3⟩ := h; ⟨r, s, t.tups _ _ h1, h2.tq t, h3.tq t⟩
def Ents (H : Hp) : List V → List Ent → Prop := Paired fun v e => ∃ p, v = V.ref p ∧ EntAt H p e
theorem Ents.tq {H H' : Hp} (t : Tq H H') {xs : List V} {l : List Ent} (h : Ents H xs l) : Ents H' xs l := Paired.mapP h fun _ _ ⟨b, e, o⟩ => ⟨b, e, o.tq t⟩
/-- the search at se, over the ground G (what it does not own) -/
structure SeIn (A : Ad) (P : Program) (w : World) (G H : Hp) (se c : Addr) (k : Canal) (wf : Bool) (S : List Stand) (dx ds dw : Addr) (Z : ZL) : Prop where
  ins : H se = some (.ins A.Search dx (sF (.ref c) (.bl wf) (.ref ds) (.ref dw)))
  g1 : G se = none
  g2 : G ds = none
  g3 : G dw = none
  same : Same G H
  can : CanAt A G c k
  ne : ds ≠ dw
  set : ND P w (fun _ => True) H ds (S.map fun t => (skey t, V.bl true))
  wai : ND P w TwoInts H dw (Z.map toK)
  bat : ∀ z ∈ Z, G z.2.2 = none ∧ ∃ xs, H z.2.2 = some (.lst xs) ∧ Ents H xs z.2.1
  ndk : (Z.map fun z => z.1).Nodup
  nda : (Z.map fun z => z.2.2).Nodup
section
variable {A : Ad} {P : Program} {w : World} {G H H' : Hp} {se c dx ds dw : Addr} {k : Canal} {wf : Bool} {S : List Stand} {Z : ZL}
theorem ND.same {F : List V → Prop} {a : Addr} {kvs : List (NestedKey × V)} (s : Same H H') (n : ND P w F H a kvs) : ND P w F H' a kvs := by
  obtain ⟨o, ho, _⟩ := n.there
  exact n.at ((s _ _ ho).trans ho.symm) (Tq.of_same s).tups
theorem SeIn.keep (s : Same H H') (h : SeIn A P w G H se c k wf S dx ds dw Z) : SeIn A P w G H' se c k wf S dx ds dw Z :=
  ⟨s _ _ h.ins, h.g1, h.g2, h.g3, h.same.trans s, h.can, h.ne, ND.same s h.set, ND.same s h.wai, fun z hz => ⟨(h.bat z hz).1, (h.bat z hz).2.choose, s _ _ (h.bat z hz).2.choose_spec.1, (h.bat z hz).2.choose_spec.2.tq (Tq.of_same s)⟩, h.ndk, h.nda⟩
theorem nd_lst {F : List V → Prop} {a b : Addr} {kvs : List (NestedKey × V)} {xs : List V} (n : ND P w F H a kvs) (h : H b = some (.lst xs)) : a ≠ b := by
  obtain ⟨_, _, ys, ha, _⟩ := n
  exact ne_of ha h (by
    intro z
    have z2 : HO.ext _ = HO.lst xs := z
    cases z2)
theorem nd_ins {F : List V → Prop} {a b C dx : Addr} {fs : List (Str × V)} {kvs : List (NestedKey × V)} (n : ND P w F H a kvs) (h : H b = some (.ins C dx fs)) : a ≠ b := by
  obtain ⟨_, _, ys, ha, _⟩ := n
  exact ne_of ha h (by
    intro z
    have z2 : HO.ext _ = HO.ins C dx fs := z
    cases z2)
/-- one more entry in a row that is there -/
theorem SeIn.more (h : SeIn A P w G H se c k wf S dx ds dw Z) {z : (Nat × Nat) × List Ent × Addr} (hz : z ∈ Z) {xs : List V} (hx : H z.2.2 = some (.lst xs)) {p : Addr} {e : Ent} (he : EntAt H p e) :
    SeIn A P w G (upd H z.2.2 (.lst (xs ++ [.ref p]))) se c k wf S dx ds dw (Z.map fun y => if y.1 = z.1 then (y.1, y.2.1 ++ [e], y.2.2) else y) := by
  have tq : Tq H (upd H z.2.2 (.lst (xs ++ [.ref p]))) := Tq.upd hx fun y => y
  have n1 : se ≠ z.2.2 := ne_of h.ins hx (by intro y; cases y)
  have n2 := nd_lst h.set hx
  have n3 := nd_lst h.wai hx
  have ek : (Z.map fun y => if y.1 = z.1 then (y.1, y.2.1 ++ [e], y.2.2) else y).map toK = Z.map toK := by
    rw [List.map_map]
    refine List.map_congr_left fun y _ => ?_
    show toK (if y.1 = z.1 then (y.1, y.2.1 ++ [e], y.2.2) else y) = toK y
    split <;> rfl
  refine ⟨by rw [upd_ne n1]; exact h.ins, h.g1, h.g2, h.g3, same_mut h.same (h.bat z hz).1, h.can, h.ne, h.set.at (upd_ne n2) tq.tups, by rw [ek]; exact h.wai.at (upd_ne n3) tq.tups, fun y' hy' => ?_, ?_, ?_⟩
  · obtain ⟨y, hy, rfl⟩ := List.mem_map.mp hy'
    obtain ⟨gy, ys, hys, ey⟩ := h.bat y hy
    by_cases c1 : y.1 = z.1
    · have e1 := nodup_key h.ndk y hy z hz c1
      subst e1
      rw [if_pos rfl]
      rw [hx] at hys
      cases hys
      exact ⟨gy, _, upd_same, paired_snoc (ey.tq tq) ⟨p, rfl, he.tq tq⟩⟩
    · rw [if_neg c1]
      have n4 : y.2.2 ≠ z.2.2 := fun q => c1 (by rw [nodup_key h.nda y hy z hz q])
      exact ⟨gy, ys, by rw [upd_ne n4]; exact hys, ey.tq tq⟩
  · rw [List.map_map]
    have e1 : (Z.map ((fun z => z.1) ∘ fun y => if y.1 = z.1 then (y.1, y.2.1 ++ [e], y.2.2) else y)) = Z.map fun z => z.1 := List.map_congr_left fun y _ => by
      show (if y.1 = z.1 then (y.1, y.2.1 ++ [e], y.2.2) else y).1 = y.1
      split <;> rfl
    rw [e1]
    exact h.ndk
  · rw [List.map_map]
    have e1 : (Z.map ((fun z => z.2.2) ∘ fun y => if y.1 = z.1 then (y.1, y.2.1 ++ [e], y.2.2) else y)) = Z.map fun z => z.2.2 := List.map_congr_left fun y _ => by
      show (if y.1 = z.1 then (y.1, y.2.1 ++ [e], y.2.2) else y).2.2 = y.2.2
      split <;> rfl
    rw [e1]
    exact h.nda
/-- the dict of rows changes alone -/
theorem SeIn.setw (h : SeIn A P w G H se c k wf S dx ds dw Z) {u : HO} {Z' : ZL} (hn : ND P w TwoInts (upd H dw u) dw (Z'.map toK)) (hZ : ∀ z ∈ Z', G z.2.2 = none ∧ ∃ xs, H z.2.2 = some (.lst xs) ∧ Ents H xs z.2.1) (h1 : (Z'.map fun z => z.1).Nodup) (h2 : (Z'.map fun z => z.2.2).Nodup) :
    SeIn A P w G (upd H dw u) se c k wf S dx ds dw Z' := by
  obtain ⟨o, ho, _, no⟩ := h.wai.there
  have tq : Tq H (upd H dw u) := Tq.upd ho (nisT_of no)
  have n1 := (nd_ins h.wai h.ins).symm
  refine ⟨by rw [upd_ne n1]; exact h.ins, h.g1, h.g2, h.g3, same_mut h.same h.g3, h.can, h.ne, h.set.at (upd_ne h.ne) tq.tups, hn, fun z hz => ?_, h1, h2⟩
  obtain ⟨g, xs, hx, he⟩ := hZ z hz
  exact ⟨g, xs, by rw [upd_ne (nd_lst h.wai hx).symm]; exact hx, he.tq tq⟩
theorem SeIn.tqw (h : SeIn A P w G H se c k wf S dx ds dw Z) {u : HO} : Tq H (upd H dw u) := by
  obtain ⟨o, ho, _, no⟩ := h.wai.there
  exact Tq.upd ho (nisT_of no)
end
/-- a ground that has all but what the search owns -/
theorem SeIn.up {A : Ad} {P : Program} {w : World} {G H : Hp} {se c dx ds dw : Addr} {k : Canal} {wf : Bool} {S : List Stand} {Z : ZL} (h : SeIn A P w G H se c k wf S dx ds dw Z) :
    ∃ G1, SeIn A P w G1 H se c k wf S dx ds dw Z ∧ Same G G1 ∧ (∀ b o, isT o → H b = some o → G1 b = some o) ∧ ∀ b xs, H b = some (.lst xs) → (∀ z ∈ Z, z.2.2 ≠ b) → G1 b = some (.lst xs) := by
  letI : ∀ b : Addr, Decidable (b = se ∨ b = ds ∨ b = dw ∨ ∃ z ∈ Z, z.2.2 = b) := fun b => Classical.propDecidable _
  have sg : Same G fun b => if b = se ∨ b = ds ∨ b = dw ∨ ∃ z ∈ Z, z.2.2 = b then none else H b := fun b o e => by
    show (if _ then none else H b) = some o
    rw [if_neg]
    · exact h.same b o e
    · rintro (rfl | rfl | rfl | ⟨z, hz, rfl⟩)
      · rw [h.g1] at e; cases e
      · rw [h.g2] at e; cases e
      · rw [h.g3] at e; cases e
      · rw [(h.bat z hz).1] at e; cases e
  obtain ⟨os, hos, _, nos⟩ := h.set.there
  obtain ⟨ow, how, _, now⟩ := h.wai.there
  refine ⟨fun b => if b = se ∨ b = ds ∨ b = dw ∨ ∃ z ∈ Z, z.2.2 = b then none else H b, ⟨h.ins, if_pos (.inl rfl), if_pos (.inr (.inl rfl)), if_pos (.inr (.inr (.inl rfl))), fun b o e => ?_, h.can.same sg, h.ne, h.set, h.wai, fun z hz => ⟨if_pos (.inr (.inr (.inr ⟨z, hz, rfl⟩))), (h.bat z hz).2⟩, h.ndk, h.nda⟩, sg, fun b o i e => ?_, fun b xs e hn => ?_⟩
  · have e : (if b = se ∨ b = ds ∨ b = dw ∨ ∃ z ∈ Z, z.2.2 = b then none else H b) = some o := e
    split at e
    · cases e
    · exact e
  · show (if _ then none else H b) = some o
    rw [if_neg]
    · exact e
    · rintro (rfl | rfl | rfl | ⟨z, hz, rfl⟩)
      · rw [h.ins] at e; cases e; exact i
      · rw [hos] at e; cases e; exact nisT_of nos i
      · rw [how] at e; cases e; exact nisT_of now i
      · obtain ⟨_, xs, hx, _⟩ := h.bat z hz
        rw [hx] at e; cases e; exact i
  · show (if _ then none else H b) = _
    rw [if_neg]
    · exact e
    · rintro (rfl | rfl | rfl | ⟨z, hz, rfl⟩)
      · rw [h.ins] at e; cases e
      · exact nd_lst h.set e rfl
      · exact nd_lst h.wai e rfl
      · exact hn z hz rfl
theorem SeIn.down {A : Ad} {P : Program} {w : World} {G G1 H : Hp} {se c dx ds dw : Addr} {k : Canal} {wf : Bool} {S : List Stand} {Z : ZL} (s : Same G G1) (hc : CanAt A G c k) (h : SeIn A P w G1 H se c k wf S dx ds dw Z) : SeIn A P w G H se c k wf S dx ds dw Z :=
  ⟨h.ins, same_none s h.g1, same_none s h.g2, same_none s h.g3, s.trans h.same, hc, h.ne, h.set, h.wai, fun z hz => ⟨same_none s (h.bat z hz).1, (h.bat z hz).2⟩, h.ndk, h.nda⟩
/-- what waits is W -/
def SeAt (A : Ad) (P : Program) (w : World) (G H : Hp) (se c : Addr) (k : Canal) (wf : Bool) (S : List Stand) (W : WL) : Prop := ∃ dx ds dw Z, SeIn A P w G H se c k wf S dx ds dw Z ∧ W = Z.map toW
def Small (W : WL) (n : Nat) : Prop := W.length ≤ n ∧ ∀ p ∈ W, p.2.length ≤ n
theorem Small.wait {W : WL} {n : Nat} {q : Nat × Nat} {e : Ent} (h : Small W n) : Small (waitAt W q e) (n + 1) := by
  unfold waitAt
  split
  · refine ⟨by rw [List.length_map]; have := h.1; omega, fun p hp => ?_⟩
    obtain ⟨y, hy, rfl⟩ := List.mem_map.mp hp
    have := h.2 y hy
    split
    · show (y.2 ++ [e]).length ≤ n + 1
      rw [List.length_append]
      show y.2.length + 1 ≤ n + 1
      omega
    · omega
  · refine ⟨by rw [List.length_append]; have := h.1; show W.length + 1 ≤ n + 1; omega, fun p hp => ?_⟩
    rcases List.mem_append.mp hp with hp | hp
    · have := h.2 p hp
      omega
    · rw [List.mem_singleton.mp hp]
      show 1 ≤ n + 1
      omega
section
variable {P : Program} {w : World} {K : PySem.W.Frag} {mg : Str → Option Value} {base : Heap} {A : Ad}
def sp_wait (A : Ad) (P : Program) (w : World) : Sp := fun vs H Q _ => ∃ (G : Hp) (se r s c : Addr) (u : Nat) (k : Canal) (wf : Bool) (S : List Stand) (W : WL) (l : List Op) (t : Stand), vs = [.ref se, nv u, .ref r, .ref s] ∧ SeAt A P w G H se c k wf S W ∧ RowAt H r l ∧ StAt H s t ∧ Small W 2000000 ∧ l.length ≤ 100000 ∧
  ∀ H', SeAt A P w G H' se c k wf S (waitAt W (u, l.length) (l, t)) → Tq H H' → Q .non H'
theorem gd_Search_wait (T : Txt K mg A) : GMeth P w K mg base CX0 1 A.Search "wait" ["self", "used", "row", "stand"] (sp_wait A P w) := by
  obtain ⟨f, fd, hm, F⟩ := T.t_Search_wait
  refine ⟨f, fd, hm, ?_, F.binds (fun _ _ _ _ _ _ us hl => match us, hl with | [_, _, _, _], _ => rfl)⟩
  refine F.ok sc_Search_wait (fun vs H Q E h => ?_) (fun cdv Ar outer s H vs Q E hr h => ⟨_, (pss_one (ps_expr (pe_bm PySem.F.plainAttrs_list PySem.F.slot_list_append PySem.F.type_list_append mt_append (pe_nsetd hr.units (pe_fld (pv 0) rfl) (pe_tupS (pa_cons (pv 1) (pa_cons (pe_callB call_len_seq (by rfl) T.b_len PySem.boot_len (pa_cons (pv 2) pa_nil)) pa_nil))) (pe_lstS pa_nil) ⟨by rfl, by rfl, by rfl, by rfl⟩) (pa_cons (pe_tupS (pa_cons (pv 2) (pa_cons (pv 3) pa_nil))) pa_nil)))), ?_⟩)
  · obtain ⟨G, se, r, s0, c, u, k, wf, S, W, l, t, rfl, hse, hr0, hs, hsm, hl, q⟩ := h; rfl
  obtain ⟨G, se, r, s0, c, u, k, wf, S, W, l, t, rfl, hse, hr0, hs, hsm, hl, q⟩ := h
  have hline : (3000000 : Nat) < sizeLine := by decide
  obtain ⟨dx, ds, dw, Z, h, rfl⟩ := hse
  obtain ⟨rx, hrx, hro⟩ := hr0
  have hlen : rx.length = l.length := Paired.length hro
  refine ⟨_, rfl, _, _, _, _, _, rfl, h.ins, T.cl_Search, T.n_Search_waiting, lS_waiting, dw, TwoInts, rfl, ⟨_, h.wai⟩, _, rfl, _, rfl, r, _, rfl, .inr (SqT.rd hrx), (by show 2 ≤ sizeLine; decide), fun kb H1 n1 s1 e1 => ⟨Nat.zero_le _, fun D H2 n2 s2 d2 => ?_⟩⟩
  rw [hlen] at e1
  have hk2 : Rd H2 kb (.tup [nv (u, l.length).1, nv (u, l.length).2]) := .inl (s2 _ _ e1)
  have h2 := h.keep (s1.trans s2)
  have zl : (Z.map toK).length ≤ 2000000 := by
    have := hsm.1
    rw [List.length_map] at this
    rw [List.length_map]
    exact this
  refine ⟨kb, _, pk (u, l.length), rfl, keyv_pk hk2, pk_depth _, ⟨_, hk2, _, _, rfl⟩, h2.wai, by omega, fun v hv => ?_, fun hv uu hn nu => ?_⟩
  · obtain ⟨z, hz, ez, rfl⟩ := valZ_some hv
    obtain ⟨gz, xs, hx, hxe⟩ := h2.bat z hz
    have hxl : xs.length ≤ 2000000 := by
      have e5 := Paired.length hxe
      have e6 := hsm.2 (toW z) (List.mem_map.mpr ⟨z, hz, rfl⟩)
      have e7 : (toW z).2.length = z.2.1.length := rfl
      omega
    refine ⟨.inl ⟨rfl, _, SqL.of hx⟩, _, rfl, _, rfl, (by show 2 ≤ sizeLine; decide), fun p H3 n3 s3 p3 => ?_⟩
    have h3 := h2.keep s3
    have he : EntAt H3 p (l, t) := ⟨r, s0, .inl p3, ⟨rx, rdSame ((s1.trans s2).trans s3) hrx, hro.tq (Tq.of_same ((s1.trans s2).trans s3))⟩, hs.same ((s1.trans s2).trans s3)⟩
    refine ⟨z.2.2, xs, _, rfl, rfl, s3 _ _ hx, by omega, ?_⟩
    refine q _ ⟨dx, ds, dw, _, h3.more hz (s3 _ _ hx) he, ?_⟩ ((Tq.of_same ((s1.trans s2).trans s3)).trans (Tq.upd (s3 _ _ hx) fun y => y))
    unfold waitAt
    rw [if_pos]
    · rw [List.map_map, List.map_map]
      refine List.map_congr_left fun y _ => ?_
      show (if (toW y).1 = (u, l.length) then ((toW y).1, (toW y).2 ++ [(l, t)]) else toW y) = toW (if y.1 = z.1 then (y.1, y.2.1 ++ [(l, t)], y.2.2) else y)
      rw [ez]
      show (if y.1 = (u, l.length) then _ else _) = _
      split <;> rfl
    · exact List.any_eq_true.mpr ⟨toW z, List.mem_map.mpr ⟨z, hz, rfl⟩, decide_eq_true ez⟩
  · have hz0 := valZ_none hv
    have nD : ∀ z ∈ Z, z.2.2 ≠ D := fun z hz e => by
      obtain ⟨_, xs, hx, _⟩ := (h.keep s1).bat z hz
      rw [e, n2] at hx
      cases hx
    have gD : G D = none := same_none (h.same.trans s1) n2
    have nDw : dw ≠ D := nd_lst h2.wai d2
    rw [putK_none hv] at hn
    have eZ : (Z ++ [((u, l.length), ([] : List Ent), D)]).map toK = Z.map toK ++ [(pk (u, l.length), V.ref D)] := by rw [List.map_append]; rfl
    have nk : ((Z ++ [((u, l.length), ([] : List Ent), D)]).map fun z => z.1).Nodup := by
      rw [List.map_append, List.nodup_append]
      refine ⟨h2.ndk, by simp, fun a ha b hb e => ?_⟩
      obtain ⟨z, hz, rfl⟩ := List.mem_map.mp ha
      have hb : b = (u, l.length) := by simpa using hb
      exact hz0 z hz (e.trans hb)
    have na : ((Z ++ [((u, l.length), ([] : List Ent), D)]).map fun z => z.2.2).Nodup := by
      rw [List.map_append, List.nodup_append]
      refine ⟨h2.nda, by simp, fun a ha b hb e => ?_⟩
      obtain ⟨z, hz, rfl⟩ := List.mem_map.mp ha
      have hb : b = D := by simpa using hb
      exact nD z hz (e.trans hb)
    have h3 : SeIn A P w G (upd H2 dw uu) se c k wf S dx ds dw (Z ++ [((u, l.length), ([] : List Ent), D)]) := h2.setw (by rw [eZ]; exact hn) (fun z hz => by
      rcases List.mem_append.mp hz with hz | hz
      · exact h2.bat z hz
      · rw [List.mem_singleton.mp hz]
        exact ⟨gD, [], d2, .nil⟩) nk na
    have d3 : (upd H2 dw uu) D = some (.lst []) := by rw [upd_ne nDw.symm]; exact d2
    have t3 : Tq H2 (upd H2 dw uu) := h2.tqw
    refine ⟨.inl ⟨rfl, _, SqL.of d3⟩, _, rfl, _, rfl, (by show 2 ≤ sizeLine; decide), fun p H4 n4 s4 p4 => ?_⟩
    have tq : Tq H H4 := ((Tq.of_same (s1.trans s2)).trans t3).trans (Tq.of_same s4)
    have h4 := h3.keep s4
    have he : EntAt H4 p (l, t) := ⟨r, s0, .inl p4, ⟨rx, tq.tups _ _ hrx, hro.tq tq⟩, hs.tq tq⟩
    have hz : ((u, l.length), ([] : List Ent), D) ∈ Z ++ [((u, l.length), ([] : List Ent), D)] := List.mem_append.mpr (.inr (List.mem_singleton.mpr rfl))
    refine ⟨D, [], _, rfl, rfl, s4 _ _ d3, by show 0 < sizeLine; decide, ?_⟩
    refine q _ ⟨dx, ds, dw, _, h4.more hz (s4 _ _ d3) he, ?_⟩ (tq.trans (Tq.upd (s4 _ _ d3) fun y => y))
    unfold waitAt
    rw [if_neg]
    · rw [List.map_append, List.map_append]
      have e1 : (Z.map fun y => if y.1 = (u, l.length) then (y.1, y.2.1 ++ [(l, t)], y.2.2) else y) = Z := by
        refine (List.map_congr_left fun y hy => ?_).trans (List.map_id Z)
        rw [if_neg (hz0 y hy)]
        rfl
      show Z.map toW ++ _ = (Z.map fun y => if y.1 = (u, l.length) then (y.1, y.2.1 ++ [(l, t)], y.2.2) else y).map toW ++ _
      rw [e1]
      simp [toW]
    · intro y
      obtain ⟨p, hp, e⟩ := List.any_eq_true.mp y
      obtain ⟨z, hz, rfl⟩ := List.mem_map.mp hp
      exact hz0 z hz (of_decide_eq_true e)
end
end Cn
end
section
set_option Elab.async false
set_option linter.all false
set_option maxRecDepth 100000
set_option maxHeartbeats 4000000
namespace Cn
open PySem PySem.Spec PyProof.Rows L2
open CaCanal (Canal Stand Op)
open Cm (GoodK Good getD_set Ent WL waitAt flat flat_cons inS inS_iff addAll addAll_snoc onward_mem onward_length done_good)
theorem Small.mono {W : WL} {n m : Nat} (h : Small W n) (l : n ≤ m) : Small W m := ⟨Nat.le_trans h.1 l, fun p hp => Nat.le_trans (h.2 p hp) l⟩
theorem small_addAll {k : Canal} {wf : Bool} {S : List Stand} {q : Nat × Nat} {row : List Op} : ∀ (L : List (Op × Stand)) {W : WL} {n : Nat}, Small W n → Small (addAll k wf S q row W L) (n + L.length)
  | [], _, _, h => h
  | y :: L, W, n, h => by
    show Small (addAll k wf S q row (if inS S y.2 = true then W else waitAt W _ _) L) (n + (L.length + 1))
    have e : n + (L.length + 1) = (n + 1) + L.length := by omega
    rw [e]
    split
    · exact small_addAll L (h.mono (Nat.le_succ _))
    · exact small_addAll L h.wait
theorem SeIn.sets {A : Ad} {P : Program} {w : World} {G H : Hp} {se c dx ds dw : Addr} {k : Canal} {wf : Bool} {S S' : List Stand} {Z : ZL} (h : SeIn A P w G H se c k wf S dx ds dw Z) {u : HO} (hn : ND P w (fun _ => True) (upd H ds u) ds (S'.map fun t => (skey t, V.bl true))) :
    SeIn A P w G (upd H ds u) se c k wf S' dx ds dw Z ∧ Tq H (upd H ds u) := by
  obtain ⟨o, ho, _, no⟩ := h.set.there
  have tq : Tq H (upd H ds u) := Tq.upd ho (nisT_of no)
  have n1 := (nd_ins h.set h.ins).symm
  refine ⟨⟨by rw [upd_ne n1]; exact h.ins, h.g1, h.g2, h.g3, same_mut h.same h.g2, h.can, h.ne, hn, h.wai.at (upd_ne h.ne.symm) tq.tups, fun z hz => ?_, h.ndk, h.nda⟩, tq⟩
  obtain ⟨g, xs, hx, he⟩ := h.bat z hz
  exact ⟨g, xs, by rw [upd_ne (nd_lst h.set hx).symm]; exact hx, he.tq tq⟩
section
variable {P : Program} {w : World} {K : PySem.W.Frag} {mg : Str → Option Value} {base : Heap} {A : Ad}
def sp_Search_init (A : Ad) (P : Program) (w : World) : Sp := fun vs H Q _ => ∃ (p dx c : Addr) (wf : Bool), vs = [.ref p, .ref c, .bl wf] ∧ H p = some (.ins A.Search dx []) ∧
  ∀ (H' : Hp) (ds dw : Addr), H' p = some (.ins A.Search dx (sF (.ref c) (.bl wf) (.ref ds) (.ref dw))) → But p H H' → H ds = none → H dw = none → ds ≠ dw → ND P w (fun _ => True) H' ds [] → ND P w TwoInts H' dw [] → Q .non H'
theorem gd_Search___init__ (T : Txt K mg A) : GMake P w K mg base CX0 1 "Search" A.Search ["self", "canal", "by_water"] (sp_Search_init A P w) := by
  obtain ⟨f, fd, hm, M, F⟩ := T.t_Search___init__
  refine ⟨f, fd, hm, M, ?_, F.binds (fun _ _ _ _ _ _ us hl => match us, hl with | [_, _, _], _ => rfl)⟩
  refine F.ok sc_Search___init__ (fun vs H Q E h => ?_) (fun cdv Ar outer s H vs Q E hr h => ⟨_, (pss_cons (ps_fld (pv 0) (pv 1) rfl)
    (pss_cons (ps_fld (pv 0) (pv 2) rfl)
    (pss_cons (ps_fld (pv 0) (pe_ndnewS (F := fun _ => True)) rfl)
    (pss_one (ps_fld (pv 0) (pe_ndnewS (F := TwoInts)) rfl))))), ?_⟩)
  · obtain ⟨p, dx, c, wf, rfl, hp, q⟩ := h; rfl
  obtain ⟨p, dx, c, wf, rfl, hp, q⟩ := h
  refine ⟨_, rfl, _, rfl, p, A.Search, dx, _, rfl, hp, T.cl_Search, T.n_Search_canal, (by show 0 < 1000; decide), ?_⟩
  refine ⟨_, rfl, _, rfl, p, A.Search, dx, _, rfl, upd_same, T.cl_Search, T.n_Search_by_water, (by show 1 < 1000; decide), ?_⟩
  rw [upd_upd]
  generalize hG1 : upd H p (.ins A.Search dx (putF "by_water" (.bl wf) (putF "canal" (.ref c) []))) = G1
  have c1 : But p H G1 := by rw [← hG1]; exact (But.refl H).upd
  have p1 : G1 p = some (.ins A.Search dx (putF "by_water" (.bl wf) (putF "canal" (.ref c) []))) := by rw [← hG1]; exact upd_same
  have ofn : ∀ b, G1 b = none → H b = none := fun b hb => by
    cases e : H b with
    | none => rfl
    | some o =>
      have hbp : b ≠ p := fun z => by rw [z, p1] at hb; cases hb
      rw [c1 b o e hbp] at hb
      cases hb
  refine fun ds G2 nds sA d1 => ?_
  have p2 := sA _ _ p1
  refine ⟨_, rfl, p, A.Search, dx, _, rfl, p2, T.cl_Search, T.n_Search_settled, (by show 2 < 1000; decide), ?_⟩
  have nsp : ds ≠ p := fun z => by rw [z, p1] at nds; cases nds
  generalize hG3 : upd G2 p (.ins A.Search dx (putF "settled" (.ref ds) (putF "by_water" (.bl wf) (putF "canal" (.ref c) [])))) = G3
  have t3 : Tq G2 G3 := by rw [← hG3]; exact Tq.upd p2 fun y => y
  have d3 : ND P w (fun _ => True) G3 ds [] := d1.at (by rw [← hG3, upd_ne nsp]) t3.tups
  have p3 : G3 p = some (.ins A.Search dx (putF "settled" (.ref ds) (putF "by_water" (.bl wf) (putF "canal" (.ref c) [])))) := by rw [← hG3]; exact upd_same
  have c3 : But p H G3 := by rw [← hG3]; exact (c1.same sA).upd
  refine fun dw G4 ndw sB d4 => ?_
  have nsw : ds ≠ dw := fun z => by
    obtain ⟨o, ho, _⟩ := d3.there
    rw [z, ndw] at ho
    cases ho
  have p4 := sB _ _ p3
  refine ⟨_, rfl, p, A.Search, dx, _, rfl, p4, T.cl_Search, T.n_Search_waiting, (by show 3 < 1000; decide), ?_⟩
  have nwp : dw ≠ p := fun z => by rw [z, p3] at ndw; cases ndw
  have t5 : Tq G4 (upd G4 p (.ins A.Search dx (putF "waiting" (.ref dw) (putF "settled" (.ref ds) (putF "by_water" (.bl wf) (putF "canal" (.ref c) [])))))) := Tq.upd p4 fun y => y
  refine q _ ds dw (by rw [upd_same, nS]) (c3.same sB).upd (ofn _ nds) ?_ nsw ((ND.same sB d3).at (upd_ne nsp) t5.tups) (d4.at (upd_ne nwp) t5.tups)
  cases e : H dw with
  | none => rfl
  | some o =>
    rw [c3 dw o e nwp] at ndw
    cases ndw
def sp_go_on (A : Ad) (P : Program) (w : World) : Sp := fun vs H Q _ => ∃ (G : Hp) (se r s c : Addr) (u : Nat) (k : Canal) (wf : Bool) (S : List Stand) (W : WL) (l : List Op) (t : Stand), vs = [.ref se, nv u, .ref r, .ref s] ∧ SeAt A P w G H se c k wf S W ∧ RowAt H r l ∧ StAt H s t ∧
  GoodK k ∧ Good k t ∧ (∀ x ∈ S, Good k x) ∧ Small W 1000000 ∧ l.length ≤ 9999 ∧ ∀ H', SeAt A P w G H' se c k wf S (addAll k wf S (u, l.length) l W (CaCanal.onward k t)) → Tq H H' → Q .non H'
theorem gd_Search_go_on (T : Txt K mg A) : GMeth P w K mg base CX0 5 A.Search "go_on" ["self", "used", "row", "stand"] (sp_go_on A P w) := by
  obtain ⟨f, fd, hm, F⟩ := T.t_Search_go_on
  refine ⟨f, fd, hm, ?_, F.binds (fun _ _ _ _ _ _ us hl => match us, hl with | [_, _, _, _], _ => rfl)⟩
  refine F.ok sc_Search_go_on (fun vs H Q E h => ?_) (fun cdv Ar outer s H vs Q E hr h => ⟨_, (pss_one (ps_for PassesOwn.never rfl (pi_list (pe_g (gd_all_that_can T) (hr.mono (by decide)) rfl pass0 (pa_cons (pe_fld (pv 0) rfl) (pa_cons (pv 3) pa_nil)))) (pg_name (i := 4) sc_Search_go_on.nd rfl (Or.inl rfl)) (pss_cons (ps_asg (pe_g (gd_behind T) (hr.mono (by decide)) rfl pass0 (pa_cons (pe_fld (pv 0) rfl) (pa_cons (pv 3) (pa_cons (pv 4) pa_nil)))) (pg_tup rfl (pgs_cons (pg_name (i := 5) sc_Search_go_on.nd rfl (Or.inl rfl)) (pgs_cons (pg_name (i := 6) sc_Search_go_on.nd rfl (Or.inl rfl)) pgs_nil))))
    (pss_one (ps_if (pt_cmpR (op_nnotin hr.units) (pv 5) (pe_fld (pv 0) rfl) (by with_unfolding_all rfl)) (pss_one (ps_expr (pe_gm (pv 0) T.cl_Search (gd_Search_wait T) (hr.mono (by decide)) pass0 (pa_cons (pe_op op_add (pv 1) (pe_g (gd_used_by T) (hr.mono (by decide)) rfl pass0 (pa_cons (pe_fld (pv 0) rfl) (pa_cons (pv 4) (pa_cons (pe_fld (pv 0) rfl) pa_nil))))) (pa_cons (pe_op op_catFS (pv 2) (pe_tupS (pa_cons (pv 4) pa_nil))) (pa_cons (pv 5) pa_nil)))))) pss_nil))))), ?_⟩)
  · obtain ⟨G, se, r, s0, c, u, k, wf, S, W, l, t, rfl, hse, hr0, hs, hk, hg, hS, hsm, hl, q⟩ := h; rfl
  obtain ⟨G, se, r, s0, c, u, k, wf, S, W, l, t, rfl, hse, hr0, hs, hk, hg, hS, hsm, hl, q⟩ := h
  have hline : (3000000 : Nat) < sizeLine := by decide
  obtain ⟨dx, ds, dw, Z, h, eW⟩ := hse
  refine ⟨_, rfl, _, _, _, _, _, rfl, h.ins, T.cl_Search, T.n_Search_canal, lS_canal, _, rfl, c, s0, k, t, rfl, h.can.same h.same, hs, hk, hg, fun H1 L xs s1 n1 l1 z1 o1 => ⟨L, rfl, ⟨xs, SqL.of l1⟩, ?_⟩⟩
  obtain ⟨G1, h1, sg, tG, gl⟩ := (h.keep s1).up
  have gL : G1 L = some (.lst xs) := gl L xs l1 fun z hz e => by
    obtain ⟨_, ys, hy, _⟩ := h.bat z hz
    rw [e, n1] at hy
    cases hy
  have tG : Tq H1 G1 := tG
  have r1 : RowAt G1 r l := (hr0.tq (Tq.of_same s1)).tq tG
  have st1 : StAt G1 s0 t := (hs.same s1).tq tG
  have og : Ops G1 xs ((CaCanal.onward k t).map fun (y : Op × Stand) => y.1) := o1.tq tG
  have lx : xs.length = (CaCanal.onward k t).length := by rw [Paired.length og, List.length_map]
  have l34 := onward_length hk t
  refine for_it (walk_list (xs := xs)) (fun i σ H' => ∃ v4 v5 v6 : Option V, σ = [some (.ref se), some (nv u), some (.ref r), some (.ref s0), v4, v5, v6] ∧ SeAt A P w G1 H' se c k wf S (addAll k wf S (u, l.length) l W ((CaCanal.onward k t).take i)) ∧ Tq H1 H')
    ⟨none, none, none, rfl, ⟨dx, ds, dw, Z, h1, eW⟩, Tq.refl _⟩ (fun i σ H' hi hh => ?_) (fun i x σ H' H'' hi hh y => ?_) fun σ H' hh => ?_
  · obtain ⟨v4, v5, v6, rfl, ⟨_, _, _, _, h', _⟩, _⟩ := hh
    exact SqL.of (h'.same _ _ gL)
  · obtain ⟨v4, v5, v6, rfl, ⟨dx', ds', dw', Z', h', eW'⟩, tq⟩ := hh
    obtain ⟨rfl, hx⟩ := y
    obtain ⟨b, o, rfl, ho, hob⟩ := og.get hx
    rw [List.getElem?_map] at ho
    obtain ⟨y, hy, rfl⟩ := Option.map_eq_some_iff.mp ho
    have hym : y ∈ CaCanal.onward k t := List.mem_of_getElem? hy
    obtain ⟨n, hd⟩ := onward_mem hym
    have hgy := (done_good hk hg hd).1
    have sG := h'.same
    have tsG := Tq.of_same sG
    have etk := take_snoc hy
    refine ⟨_, rfl, _, _, _, _, _, rfl, h'.ins, T.cl_Search, T.n_Search_canal, lS_canal, _, rfl, _, rfl, c, s0, b, k, t, y.2, n, y.1, rfl, h'.can.same sG, st1.tq tsG, hob.tq tsG, hk, hg, hd, fun H2 p b2 s2 p2 st2 => ?_⟩
    refine ⟨p, _, rfl, SqT.rd p2, rfl, _, _, rfl, _, _, rfl, rfl, ?_⟩
    have h2 := h'.keep s2
    refine ⟨_, rfl, _, rfl, _, _, _, _, _, rfl, h2.ins, T.cl_Search, T.n_Search_settled, lS_settled, _, ds', b2, skey y.2, _, rfl, rfl, keyv_st st2, skey_depth _, h2.set, _, rfl, ite2 (fun e => ?_) fun e => ?_⟩
    · have e0 : inS S y.2 = false := by
        cases q9 : inS S y.2 with
        | false => rfl
        | true =>
          have q8 := (set_val S y.2).mpr ((inS_iff hk hgy hS).mp q9)
          rw [q8] at e
          cases e
      have hw := addAll_snoc (K := k) (w := wf) (S := S) (k := (u, l.length)) (row := l) W ((CaCanal.onward k t).take i) y
      rw [if_neg (by rw [e0]; exact Bool.false_ne_true), ← etk] at hw
      have sm : Small (addAll k wf S (u, l.length) l W ((CaCanal.onward k t).take i)) 2000000 := (small_addAll _ hsm).mono (by rw [List.length_take]; omega)
      have hop : y.1.1 = 0 → y.1.2.1 < k.locks.length := fun z => by
        unfold CaCanal.done at hd
        rw [if_pos z] at hd
        exact (filled_so hd).1
      obtain ⟨rx, hrx, hro⟩ := r1
      have lrx : rx.length = l.length := Paired.length hro
      refine ⟨_, rfl, se, dx', _, rfl, h2.ins, lS_wait, _, rfl, _, rfl, _, _, _, _, _, rfl, h2.ins, T.cl_Search, T.n_Search_canal, lS_canal, _, rfl, _, rfl, _, _, _, _, _, rfl, h2.ins, T.cl_Search, T.n_Search_by_water, lS_by_water,
        c, b, wf, k, y.1, rfl, h2.can.same h2.same, hob.tq (Tq.of_same h2.same), hop, _, _, rfl, rfl, _, rfl, _, rfl, (by show 1 ≤ sizeLine; decide), fun p3 H3 n3 s3 e3 => ?_⟩
      have g23 : Tq G1 H3 := (Tq.of_same h2.same).trans (Tq.of_same s3)
      have h3 := h2.keep s3
      have hb3 : OpAt H3 b y.1 := hob.tq g23
      have fin : ∀ H5, SeAt A P w G1 H5 se c k wf S (waitAt (addAll k wf S (u, l.length) l W ((CaCanal.onward k t).take i)) (u + CaCanal.uses k wf y.1, (l ++ [y.1]).length) (l ++ [y.1], y.2)) → SeAt A P w G1 H5 se c k wf S (addAll k wf S (u, l.length) l W ((CaCanal.onward k t).take (i + 1))) := fun H5 z => by
        rw [hw]
        rw [List.length_append] at z
        exact z
      have llen : (l ++ [y.1]).length ≤ 100000 := by
        rw [List.length_append]
        show l.length + 1 ≤ 100000
        omega
      refine ⟨r, p3, rx, _, rfl, rfl, SqT.rd (g23.tups _ _ hrx), SqT.of e3, (by show rx.length + 1 ≤ sizeLine; omega), fun z => ?_, (fun _ z => by cases z), fun z _ => fun p4 H4 n4 s4 e4 => ?_⟩
      · have l0 : l = [] := by
          rw [z] at lrx
          exact List.eq_nil_of_length_eq_zero lrx.symm
        refine ⟨_, rfl, G1, se, p3, b2, c, u + CaCanal.uses k wf y.1, k, wf, S, _, l ++ [y.1], y.2, rfl, ⟨dx', ds', dw', Z', h3, eW'⟩, ?_, st2.same s3, sm, llen, fun H5 hse5 tq5 => ?_⟩
        · rw [l0]
          exact ⟨_, .inl e3, .cons ⟨b, rfl, hb3⟩ .nil⟩
        · exact ⟨_, _, _, rfl, fin H5 hse5, ((tq.trans (Tq.of_same s2)).trans (Tq.of_same s3)).trans tq5⟩
      · refine ⟨_, rfl, G1, se, p4, b2, c, u + CaCanal.uses k wf y.1, k, wf, S, _, l ++ [y.1], y.2, rfl, ⟨dx', ds', dw', Z', h3.keep s4, eW'⟩, ?_, st2.same (s3.trans s4), sm, llen, fun H5 hse5 tq5 => ?_⟩
        · exact ⟨_, e4.rd, paired_append (hro.tq (g23.trans (Tq.of_same s4))) (.cons ⟨b, rfl, hb3.tq (Tq.of_same s4)⟩ .nil)⟩
        · exact ⟨_, _, _, rfl, fin H5 hse5, (((tq.trans (Tq.of_same s2)).trans (Tq.of_same s3)).trans (Tq.of_same s4)).trans tq5⟩
    · have e0 : inS S y.2 = true := (inS_iff hk hgy hS).mpr ((set_val S y.2).mp (nbb_f e))
      have hw := addAll_snoc (K := k) (w := wf) (S := S) (k := (u, l.length)) (row := l) W ((CaCanal.onward k t).take i) y
      rw [if_pos e0, ← etk] at hw
      exact ⟨_, _, _, rfl, ⟨dx', ds', dw', Z', h2, hw.trans eW'⟩, tq.trans (Tq.of_same s2)⟩
  · rw [lx, List.take_length] at hh
    obtain ⟨v4, v5, v6, rfl, ⟨dx', ds', dw', Z', h', eW'⟩, tq⟩ := hh
    exact q H' ⟨dx', ds', dw', Z', h'.down sg h.can, eW'⟩ ((Tq.of_same s1).trans tq)
def sp_settle (A : Ad) (P : Program) (w : World) : Sp := fun vs H Q E => ∃ (G : Hp) (se r s c : Addr) (u : Nat) (k : Canal) (wf : Bool) (S : List Stand) (W : WL) (l : List Op) (t : Stand), vs = [.ref se, nv u, .ref r, .ref s] ∧ SeAt A P w G H se c k wf S W ∧ RowAt H r l ∧ StAt H s t ∧
  GoodK k ∧ Good k t ∧ (∀ x ∈ S, Good k x) ∧ S.length ≤ 4000 ∧ t ∉ S ∧ Small W 1000000 ∧ l.length ≤ 9999 ∧ (S.length = 4000 → E (.ref A.TooMany) none H) ∧
  (S.length ≠ 4000 → ∀ H', SeAt A P w G H' se c k wf (S ++ [t]) (addAll k wf (S ++ [t]) (u, l.length) l W (CaCanal.onward k t)) → Tq H H' → Q .non H')
theorem gd_Search_settle (T : Txt K mg A) (U : TxE K mg A) : GMeth P w K mg base (L2N.CX P w) 6 A.Search "settle" ["self", "used", "row", "stand"] (sp_settle A P w) := by
  obtain ⟨f, fd, hm, F⟩ := T.t_Search_settle
  refine ⟨f, fd, hm, ?_, F.binds (fun _ _ _ _ _ _ us hl => match us, hl with | [_, _, _, _], _ => rfl)⟩
  refine Cn.Fun.okN F sc_Search_settle (fun vs H Q E h => ?_) (fun cdv Ar outer s H vs Q E hr h => ⟨_, (pss_cons (ps_if (pt_cmpR op_eq (pe_callB call_ndlen (by rfl) T.b_len PySem.boot_len (pa_cons (pe_fld (pv 0) rfl) pa_nil)) (pe_globI rfl T.c_MOST_STANDS) (nomark _)) (pss_one (L2N.ps_raise rfl (L2N.takes_of rfl rfl rfl rfl) (pmk_r0 (ge_TooMany T U) (hr.mono (by decide)) rfl))) pss_nil)
    (pss_cons (ps_asg pe_bl (pg_sub (pe_fld (pv 0) rfl) (pv 3) (set_nd hr.units)))
    (pss_one (ps_expr (pe_gm (pv 0) T.cl_Search (gd_Search_go_on T) (hr.mono (by decide)) pass0 (pa_cons (pv 1) (pa_cons (pv 2) (pa_cons (pv 3) pa_nil)))))))), ?_⟩)
  · obtain ⟨G, se, r, s0, c, u, k, wf, S, W, l, t, rfl, hse, hr0, hs, hk, hg, hS, hS4, htS, hsm, hl, qE, q⟩ := h; rfl
  obtain ⟨G, se, r, s0, c, u, k, wf, S, W, l, t, rfl, hse, hr0, hs, hk, hg, hS, hS4, htS, hsm, hl, qE, q⟩ := h
  have hline : (3000000 : Nat) < sizeLine := by decide
  obtain ⟨dx, ds, dw, Z, h, eW⟩ := hse
  refine ⟨_, rfl, _, _, _, _, _, rfl, h.ins, T.cl_Search, T.n_Search_settled, lS_settled, _, ds, _, rfl, h.set, rfl, _, rfl, ite2 (fun e => ?_) fun e => ?_⟩
  · have e := nvI (m := 4000) e
    rw [List.length_map] at e
    exact qE e
  have e := nvN (m := 4000) e
  rw [List.length_map] at e
  have hv : valV (S.map fun u => (skey u, V.bl true)) (skey t) = none := by
    cases q9 : valV (S.map fun u => (skey u, V.bl true)) (skey t) with
    | none => rfl
    | some v => exact absurd ((set_val S t).mp (by rw [q9]; rfl)) htS
  obtain ⟨w0, f0, b0, hw0, _⟩ := hs.ex
  refine ⟨_, rfl, _, _, _, _, _, rfl, h.ins, T.cl_Search, T.n_Search_settled, lS_settled, _, rfl, _, ds, s0, skey t, _, rfl, rfl, keyv_st hs, skey_depth _, ⟨_, hw0, trivial⟩, h.set, (by rw [List.length_map]; omega), fun uu hn nu => ?_⟩
  rw [putK_none hv] at hn
  have em : (S ++ [t]).map (fun t => (skey t, V.bl true)) = S.map (fun u => (skey u, V.bl true)) ++ [(skey t, V.bl true)] := by rw [List.map_append]; rfl
  obtain ⟨h2, tq⟩ := h.sets (S' := S ++ [t]) (by rw [em]; exact hn)
  refine ⟨_, rfl, se, dx, _, rfl, h2.ins, lS_go_on, _, rfl, _, rfl, _, rfl, G, se, r, s0, c, u, k, wf, S ++ [t], W, l, t, rfl, ⟨dx, ds, dw, Z, h2, eW⟩, hr0.tq tq, hs.tq tq, hk, hg, fun x hx => ?_, hsm, hl, fun H' hse' tq' => q e H' hse' (tq.trans tq')⟩
  rcases List.mem_append.mp hx with hx | hx
  · exact hS x hx
  · rw [List.mem_singleton.mp hx]; exact hg
end
end Cn
end
section
set_option Elab.async false
set_option linter.all false
set_option maxRecDepth 100000
set_option maxHeartbeats 4000000
namespace Cn
open PySem PySem.Spec PyProof.Rows L2
open PySem.W (dataLe keyToks keyToksAll alike alikeAll AllAlike Sortable)
open CaCanal (Canal Stand Op)
open Cm (GoodK Good getD_set Ent WL waitAt flat flat_cons flat_nil inS inS_iff addAll Look Wait keyLt wait_start wItems)
/-! ### the order of sorted -/
def encO (o : Op) : PyData := .tuple [.int (o.1 : Int), .int (o.2.1 : Int), .int (o.2.2 : Int)]
def encS (t : Stand) : PyData := .tuple [.tuple (t.water.map fun (n : Nat) => .int (n : Int)), .tuple (t.full.map .bool), .tuple (t.boats.map fun (n : Nat) => .int (pl n))]
def encE (e : Ent) : PyData := .tuple [.tuple (e.1.map encO), encS e.2]
theorem lexLt_ints {a b : Int} {l m : List (Int ⊕ List Nat)} (h : a < b) : PyProof.Rows.lexLt itemOrd (.inl a :: l) (.inl b :: m) = true := by
  rw [PyProof.Rows.lex_diff (O := itemOrd) (show (Sum.inl a : Int ⊕ List Nat) ≠ .inl b from fun z => by
    have := Sum.inl.inj z
    omega)]
  exact decide_eq_true h
theorem lexLt_same {x : Int ⊕ List Nat} {l m : List (Int ⊕ List Nat)} : PyProof.Rows.lexLt itemOrd (x :: l) (x :: m) = PyProof.Rows.lexLt itemOrd l m := PyProof.Rows.lex_self (O := itemOrd) x l m
theorem toks_op (o : Op) (r : List PyData) : keyToksAll (encO o :: r) = .inl 1 :: .inl 1 :: .inl (o.1 : Int) :: .inl 1 :: .inl (o.2.1 : Int) :: .inl 1 :: .inl (o.2.2 : Int) :: .inl 0 :: keyToksAll r := by
  unfold encO
  simp only [keyToksAll, keyToks, List.cons_append, List.nil_append]
theorem toks_lt : ∀ (l m : List Op), l.length = m.length → flat l < flat m → ∀ X Y, PyProof.Rows.lexLt itemOrd (keyToksAll (l.map encO) ++ X) (keyToksAll (m.map encO) ++ Y) = true
  | [], [], _, h, _, _ => by
    rw [flat_nil] at h
    exact absurd h (List.lt_irrefl _)
  | [], _ :: _, h, _, _, _ => by simp at h
  | _ :: _, [], h, _, _, _ => by simp at h
  | o :: l, p :: m, h, hlt, X, Y => by
    rw [flat_cons, flat_cons] at hlt
    simp only [List.cons_lt_cons_iff] at hlt
    rw [List.map_cons, List.map_cons, toks_op, toks_op]
    simp only [List.cons_append]
    rw [lexLt_same, lexLt_same]
    rcases hlt with h1 | ⟨h1, h2 | ⟨h2, h3 | ⟨h3, h4⟩⟩⟩
    · exact lexLt_ints (by omega)
    · rw [h1, lexLt_same, lexLt_same]
      exact lexLt_ints (by omega)
    · rw [h1, h2, lexLt_same, lexLt_same, lexLt_same, lexLt_same]
      exact lexLt_ints (by omega)
    · rw [h1, h2, h3, lexLt_same, lexLt_same, lexLt_same, lexLt_same, lexLt_same, lexLt_same]
      exact toks_lt l m (by simpa using h) h4 X Y
theorem le_flat {e e' : Ent} (hl : e.1.length = e'.1.length) (h : dataLe false encE e e' = true) : ¬ flat e'.1 < flat e.1 := fun hlt => by
  have h2 : PyProof.Rows.lexLt itemOrd (keyToks (encE e')) (keyToks (encE e)) = true := by
    unfold encE
    simp only [keyToks, keyToksAll]
    rw [lexLt_same]
    exact toks_lt e'.1 e.1 hl.symm hlt _ _
  have h3 : (!PyProof.Rows.lexLt itemOrd (keyToks (encE e')) (keyToks (encE e))) = true := h
  rw [h2] at h3
  cases h3
theorem sorted_ents {B : List Ent} {n : Nat} (hB : ∀ e ∈ B, n = e.1.length) : (B.mergeSort (dataLe false encE)).Perm B ∧ (B.mergeSort (dataLe false encE)).Pairwise fun e e' => ¬ flat e'.1 < flat e.1 := by
  have T := PySem.W.sortLe_total (PyProof.Rows.listOrd itemOrd) false fun b => keyToks (encE b)
  refine ⟨List.mergeSort_perm _ _, ?_⟩
  have hs : (B.mergeSort (dataLe false encE)).Pairwise (fun a b => dataLe false encE a b = true) := PySem.W.sort_pairwise T B
  refine hs.imp_of_mem fun {a b} ha hb h => ?_
  have ha' := (List.mergeSort_perm B (dataLe false encE)).mem_iff.mp ha
  have hb' := (List.mergeSort_perm B (dataLe false encE)).mem_iff.mp hb
  exact le_flat (by rw [← hB a ha', ← hB b hb']) h
theorem alike_map {α : Type} {f : α → PyData} (h : ∀ a b, alike (f a) (f b) = true) : ∀ l m : List α, alikeAll (l.map f) (m.map f) = true
  | [], _ => by simp [alikeAll]
  | _ :: _, [] => by simp [alikeAll]
  | a :: l, b :: m => by
    rw [List.map_cons, List.map_cons, alikeAll, h a b, alike_map h l m]
    rfl
theorem alike_encE (e e' : Ent) : alike (encE e) (encE e') = true := by
  have h1 : ∀ o p, alike (encO o) (encO p) = true := fun o p => by simp [encO, alike, alikeAll]
  unfold encE encS
  simp only [alike, alikeAll]
  rw [alike_map h1, alike_map (fun (a b : Nat) => by simp [alike]), alike_map (fun (a b : Bool) => by simp [alike]), alike_map (fun (a b : Nat) => by simp [alike])]
  rfl
theorem depth_map {α : Type} {f : α → PyData} {n : Nat} (h : ∀ a, (f a).depth ≤ n) : ∀ l : List α, PyData.depthAll (l.map f) ≤ n
  | [] => Nat.zero_le _
  | a :: l => by
    rw [List.map_cons, PyData.depthAll]
    exact Nat.max_le.mpr ⟨h a, depth_map h l⟩
theorem depth_encE (e : Ent) : (encE e).depth ≤ 50 := by
  have h1 := depth_map (f := encO) (n := 1) (fun o => by simp [encO, PyData.depth, PyData.depthAll]) e.1
  have h2 := depth_map (f := fun (n : Nat) => PyData.int (n : Int)) (n := 0) (fun o => by simp [PyData.depth]) e.2.water
  have h3 := depth_map (f := PyData.bool) (n := 0) (fun o => by simp [PyData.depth]) e.2.full
  have h4 := depth_map (f := fun (n : Nat) => PyData.int (pl n)) (n := 0) (fun o => by simp [PyData.depth]) e.2.boats
  unfold encE encS
  simp only [PyData.depth, PyData.depthAll]
  omega
def EntV : Hp → V → Ent → Prop := fun H v e => ∃ p, v = V.ref p ∧ EntAt H p e
theorem dpall_map {α : Type} {K : PySem.W.Frag} {H : Hp} {f : α → V} {g : α → PyData} (h : ∀ a, Dp K H (f a) (g a)) : ∀ l : List α, DpAll K H (l.map f) (l.map g)
  | [] => .nil
  | a :: l => .cons (h a) (dpall_map h l)
theorem dpall_ops {K : PySem.W.Frag} {H : Hp} : ∀ {xs : List V} {l : List Op}, Ops H xs l → DpAll K H xs (l.map encO)
  | _, _, .nil => .nil
  | _, _, .cons ⟨b, e, h⟩ t => by
    subst e
    exact .cons (.tup (.inl h) (.cons (.int _) (.cons (.int _) (.cons (.int _) .nil)))) (dpall_ops t)
theorem dp_ent {K : PySem.W.Frag} {H : Hp} {x : V} {e : Ent} (h : EntV H x e) : Dp K H x (encE e) := by
  obtain ⟨p, rfl, r, s, h1, ⟨xs, h2, h3⟩, h4⟩ := h
  obtain ⟨w, f, b, g0, g1, g2, g3⟩ := h4.ex
  refine .tup (.inl h1) (.cons (.tup (.inl h2) (dpall_ops h3)) (.cons (.tup (.inl g0) (.cons (.tup (.inl g1) (dpall_map (fun n => .int _) _)) (.cons (.tup (.inl g2) (dpall_map (fun n => .bl _) _)) (.cons (.tup (.inl g3.rd) ?_) .nil)))) .nil))
  rw [List.map_map]
  exact dpall_map (fun n => .int _) _
/-- sorted, told by what stands -/
def rSortE (K : PySem.W.Frag) : List V → Hp → VK → Prop := fun vs H Q => ∃ (a : Addr) (xs : List V) (B : List Ent), vs = [V.ref a] ∧ SqL K H a xs ∧ Ents H xs B ∧
  ∀ (ys : List V) (p : Addr) (H1 : Hp), H p = none → Same H H1 → H1 p = some (.lst ys) → Ents H1 ys (B.mergeSort (dataLe false encE)) → Q (.ref p) H1
theorem cr_sortE {X : Cx} (hu : X.A.units + 64 < cLine) : CallR X (.builtin "sorted") (rSortE X.K) := CallR.imp (cr_sortD (enc := encE) (R := EntV) hu) fun vs H Q h => by
  obtain ⟨a, xs, B, h1, h2, h3, h4⟩ := h
  exact ⟨a, xs, B, h1, h2, h3, fun x b hb => dp_ent hb, AllAlike.of fun b b' => alike_encE b b', Sortable.tuples fun b => ⟨_, _, rfl⟩, fun b _ => depth_encE b, fun ys p hp hn => h4 ys p _ hn (same_new hn) upd_same (Ents.tq (Tq.new hn) hp)⟩
end Cn
end
section
set_option Elab.async false
set_option linter.all false
set_option maxRecDepth 100000
set_option maxHeartbeats 4000000
namespace Cn
open PySem PySem.Spec PyProof.Rows L2
open CaCanal (Canal Stand Op)
open Cm (GoodK Good getD_set Ent WL waitAt flat flat_cons inS inS_iff addAll Look Wait keyLt wait_start wItems wItems_cons)
theorem wItems_len : ∀ {W : WL}, (∀ p ∈ W, p.2 ≠ []) → W.length ≤ (wItems W).length ∧ ∀ p ∈ W, p.2.length ≤ (wItems W).length
  | [], _ => ⟨Nat.zero_le _, fun p hp => by cases hp⟩
  | p :: W, h => by
    obtain ⟨h1, h2⟩ := wItems_len (W := W) fun q hq => h q (List.mem_cons_of_mem _ hq)
    have hp := List.length_pos_iff.mpr (h p List.mem_cons_self)
    rw [wItems_cons, List.length_append, List.length_map]
    refine ⟨by rw [List.length_cons]; omega, fun q hq => ?_⟩
    rcases List.mem_cons.mp hq with e | hq
    · rw [e]; omega
    · have := h2 q hq
      omega
theorem Ents.get {H : Hp} : ∀ {xs : List V} {l : List Ent} {i : Nat} {x : V}, Ents H xs l → xs[i]? = some x → ∃ (p : Addr) (e : Ent), x = .ref p ∧ l[i]? = some e ∧ EntAt H p e
  | _, _, i, x, .nil, h => by simp at h
  | _, _, 0, x, .cons (b := o) z t, h => by
    simp only [List.getElem?_cons_zero, Option.some.injEq] at h
    subst h
    obtain ⟨b, e, q⟩ := z
    exact ⟨b, o, e, rfl, q⟩
  | _, _, i + 1, x, .cons z t, h => by
    simp only [List.getElem?_cons_succ] at h
    obtain ⟨b, o, e, g, q⟩ := Ents.get t h
    exact ⟨b, o, e, by rw [List.getElem?_cons_succ]; exact g, q⟩
section
variable {P : Program} {w : World} {K : PySem.W.Frag} {mg : Str → Option Value} {base : Heap} {A : Ad}
def sp_Search_plan (A : Ad) (P : Program) (w : World) : Sp := fun vs H Q E => ∃ (G : Hp) (se s0 gl c : Addr) (k : Canal) (wf : Bool) (t0 : Stand) (g : List Nat), vs = [.ref se, .ref s0, .ref gl] ∧ SeAt A P w G H se c k wf [] [] ∧ StAt H s0 t0 ∧ G gl = some (.lst (g.map nv)) ∧ g.length = 4 ∧ GoodK k ∧ Good k t0 ∧
  (∀ (u : Nat) (l : List Op), CaCanal.best k wf g t0 = .plan u l → l.length ≤ 4000 → ∀ (H' : Hp) (p r : Addr), Same G H' → Rd H' p (.tup [nv u, .ref r]) → RowAt H' r l → Q (.ref p) H') ∧
  (CaCanal.best k wf g t0 = .none → ∀ H', Same G H' → Q .non H') ∧ (CaCanal.best k wf g t0 = .many → ∀ H', Same G H' → E (.ref A.TooMany) none H')
theorem gd_Search_plan (T : Txt K mg A) (U : TxE K mg A) : GMeth P w K mg base (L2N.CX P w) 7 A.Search "plan" ["self", "stand", "wanted"] (sp_Search_plan A P w) := by
  obtain ⟨f, fd, hm, F⟩ := T.t_Search_plan
  refine ⟨f, fd, hm, ?_, F.binds (fun _ _ _ _ _ _ us hl => match us, hl with | [_, _, _], _ => rfl)⟩
  refine Cn.Fun.okN F sc_Search_plan (fun vs H Q E h => ?_) (fun cdv Ar outer s H vs Q E hr h => ⟨_, (pss_cons (ps_expr (pe_gm (pv 0) T.cl_Search (gd_Search_wait T) (hr.mono (by decide)) pass0 (pa_cons pe_int (pa_cons (pe_tupS pa_nil) (pa_cons (pv 1) pa_nil)))))
    (pss_cons (ps_while (passes_of rfl) (pt_cmpR (op_neE hr.units) (pe_fld (pv 0) rfl) (pe_ndnewS (F := TwoInts)) (nomark _)) (pss_cons (ps_set (i := 3) sc_Search_plan.nd rfl (Or.inl rfl) (pe_callB (cr_minN rfl hr.units) (by rfl) T.b_min (by decide +kernel) (pa_cons (pe_fld (pv 0) rfl) pa_nil)))
    (pss_one (ps_for (passes_of rfl) rfl (pi_list (pe_callB (cr_sortE hr.units) (by rfl) T.b_sorted (by decide +kernel) (pa_cons (pe_npop hr.units (pe_fld (pv 0) rfl) (pv 3) ⟨by rfl, by rfl, by rfl, by rfl⟩) pa_nil))) (pg_tup rfl (pgs_cons (pg_name (i := 4) sc_Search_plan.nd rfl (Or.inl rfl)) (pgs_cons (pg_name (i := 5) sc_Search_plan.nd rfl (Or.inl rfl)) pgs_nil))) (pss_one (ps_if (pt_cmpR (op_nnotin hr.units) (pv 5) (pe_fld (pv 0) rfl) (by with_unfolding_all rfl)) (pss_cons (ps_if (pt_val (pe_g (gd_is_wanted T) (hr.mono (by decide)) rfl pass0 (pa_cons (pv 5) (pa_cons (pv 2) pa_nil)))) (pss_one (ps_ret (pe_tupS (pa_cons (pe_ix ix_tup (pv 3) pe_int (fun _ _ => rfl)) (pa_cons (pv 4) pa_nil))))) pss_nil)
    (pss_one (ps_expr (pe_gm (pv 0) T.cl_Search (gd_Search_settle T U) (hr.mono (by decide)) (L2N.passes_call (L2N.takes_of rfl rfl rfl rfl) (fun _ _ _ _ h => h)) (pa_cons (pe_ix ix_tup (pv 3) pe_int (fun _ _ => rfl)) (pa_cons (pv 4) (pa_cons (pv 5) pa_nil))))))) pss_nil))))))
    (pss_one (ps_ret pe_non)))), ?_⟩)
  · obtain ⟨G, se, s0, gl, c, k, wf, t0, g, rfl, hse, hs, hgl, hg4, hk, hg, qP, qN, qM⟩ := h; rfl
  obtain ⟨G, se, s0, gl, c, k, wf, t0, g, rfl, hse, hs, hgl, hg4, hk, hg, qP, qN, qM⟩ := h
  have hline : (3000000 : Nat) < sizeLine := by decide
  obtain ⟨dx, ds, dw, Z, h, eW⟩ := hse
  refine ⟨_, rfl, se, dx, _, rfl, h.ins, lS_wait, Nat.zero_le _, fun r0 H1 n1 s1 e1 => ?_⟩
  refine ⟨_, rfl, G, se, r0, s0, c, 0, k, wf, [], [], [], t0, rfl, ⟨dx, ds, dw, Z, h.keep s1, eW⟩, ⟨[], .inl e1, .nil⟩, hs.same s1, ⟨Nat.zero_le _, fun p hp => by cases hp⟩, Nat.zero_le _, fun H2 hse2 tq2 => ?_⟩
  refine ⟨fun m σ H' => ∃ (v3 v4 v5 : Option V) (S : List Stand) (Wl : WL), σ = [some (.ref se), some (.ref s0), some (.ref gl), v3, v4, v5] ∧ SeAt A P w G H' se c k wf S Wl ∧ Wait k t0 wf g S Wl m, ⟨_, none, none, none, [], _, rfl, hse2, wait_start⟩, ?_⟩
  clear h eW hse2 tq2 e1 n1 s1 hs
  rintro m σ H3 ⟨v3, v4, v5, S, Wl, rfl, ⟨dx, ds, dw, Z, h, rfl⟩, hW⟩
  refine ⟨_, rfl, _, _, _, _, _, rfl, h.ins, T.cl_Search, T.n_Search_waiting, lS_waiting, fun ee H4 n4 s4 d4 => ?_⟩
  have h4 := h.keep s4
  refine ⟨_, _, dw, ee, _, rfl, rfl, h4.wai, d4, _, rfl, ite2 (fun e => ?_) fun e => ?_⟩
  · refine ⟨fun σ' H' => ∃ m', m' < m ∧ ∃ (v3 v4 v5 : Option V) (S : List Stand) (Wl : WL), σ' = [some (.ref se), some (.ref s0), some (.ref gl), v3, v4, v5] ∧ SeAt A P w G H' se c k wf S Wl ∧ Wait k t0 wf g S Wl m', fun _ _ z => z, ?_⟩
    have hZ : Z ≠ [] := fun z => by
      rw [z] at e
      cases e
    refine ⟨_, rfl, _, _, _, _, _, rfl, h4.ins, T.cl_Search, T.n_Search_waiting, lS_waiting, dw, _, Z.map (fun z => ((z.1.1 : Int), (z.1.2 : Int))), rfl, h4.wai, (by rw [List.map_map, List.map_map]; rfl), (by simpa using hZ), fun mk b hmk hmin hb => ?_⟩
    obtain ⟨z, hz, rfl⟩ := List.mem_map.mp hmk
    have hzW : (z.1, z.2.1) ∈ Z.map toW := List.mem_map.mpr ⟨z, hz, rfl⟩
    have hmin' : ∀ q ∈ (Z.map toW).map (·.1), ¬ keyLt q z.1 := fun q hq hlt => by
      rw [List.map_map] at hq
      obtain ⟨y, hy, rfl⟩ := List.mem_map.mp hq
      have q1 := hmin _ (List.mem_map.mpr ⟨y, hy, rfl⟩)
      have q2 := of_decide_eq_false q1
      have q3 : y.1.1 < z.1.1 ∨ (y.1.1 = z.1.1 ∧ y.1.2 < z.1.2) := hlt
      exact q2 (by dsimp only; omega)
    have hB : ∀ e ∈ z.2.1, z.1.2 = e.1.length := fun e he => (hW.ent hk hg hzW he).1
    have hBne : z.2.1 ≠ [] := hW.ne _ hzW
    obtain ⟨so1, so2⟩ := sorted_ents hB
    have hL := hW.take hzW hmin' so1 so2
    obtain ⟨gz, xs, hxs, exs⟩ := h4.bat z hz
    have hbk : Rd H4 b (.tup [nv z.1.1, nv z.1.2]) := hb
    refine ⟨_, rfl, _, _, _, _, _, rfl, h4.ins, T.cl_Search, T.n_Search_waiting, lS_waiting, dw, TwoInts, rfl, ⟨_, h4.wai⟩, _, rfl, b, _, pk z.1, .ref z.2.2, rfl, keyv_pk hbk, pk_depth _, h4.wai, valZ_of h4.ndk hz, fun uu hn nu => ?_⟩
    have eZ : dropK (Z.map toK) (pk z.1) = (Z.filter fun y => decide (y.1 ≠ z.1)).map toK := by
      unfold dropK
      rw [List.filter_map]
      congr 1
      refine List.filter_congr fun y _ => ?_
      show decide (pk y.1 ≠ pk z.1) = decide (y.1 ≠ z.1)
      exact decide_eq_decide.mpr ⟨fun q r => q (by rw [r]), fun q r => q (pk_inj r)⟩
    have eW2 : (Z.map toW).filter (fun p => decide (p.1 ≠ z.1)) = (Z.filter fun y => decide (y.1 ≠ z.1)).map toW := by
      rw [List.filter_map]
      rfl
    rw [eZ] at hn
    have sl : (Z.filter fun y => decide (y.1 ≠ z.1)).Sublist Z := List.filter_sublist
    have h5 : SeIn A P w G (upd H4 dw uu) se c k wf S dx ds dw (Z.filter fun y => decide (y.1 ≠ z.1)) := h4.setw hn (fun y hy => h4.bat y (sl.subset hy)) ((sl.map _).nodup h4.ndk) ((sl.map _).nodup h4.nda)
    have t5 : Tq H4 (upd H4 dw uu) := h4.tqw
    have hx5 : (upd H4 dw uu) z.2.2 = some (.lst xs) := by rw [upd_ne (nd_lst h4.wai hxs).symm]; exact hxs
    refine ⟨z.2.2, xs, z.2.1, rfl, SqL.of hx5, exs.tq t5, fun ys L H6 n6 s6 l6 e6 => ?_⟩
    refine ⟨L, rfl, ⟨ys, SqL.of l6⟩, ?_⟩
    have h6 := h5.keep s6
    obtain ⟨G1, h7, sg, tG, glst⟩ := h6.up
    have tG : Tq H6 G1 := tG
    have gL : G1 L = some (.lst ys) := glst L ys l6 fun y hy er => by
      obtain ⟨_, zs, hzs, _⟩ := h5.bat y hy
      rw [er, n6] at hzs
      cases hzs
    have gE : Ents G1 ys (z.2.1.mergeSort (PySem.W.dataLe false encE)) := e6.tq tG
    have gb : Rd G1 b (.tup [nv z.1.1, nv z.1.2]) := ((t5.trans (Tq.of_same s6)).trans tG).tups _ _ hbk
    have gg : G1 gl = some (.lst (g.map nv)) := sg _ _ hgl
    generalize hB' : z.2.1.mergeSort (PySem.W.dataLe false encE) = B' at gE hL so1
    have lB : 1 ≤ B'.length := by
      rw [so1.length_eq]
      exact List.length_pos_iff.mpr hBne
    have ly : ys.length = B'.length := Paired.length gE
    rw [eW2] at hL
    refine for_it (walk_list (xs := ys)) (fun i σ H' => ∃ (v4 v5 : Option V) (S : List Stand) (W : WL) (f' : Nat), σ = [some (.ref se), some (.ref s0), some (.ref gl), some (.ref b), v4, v5] ∧ SeAt A P w G1 H' se c k wf S W ∧ Look k t0 wf g S z.1 (B'.drop i) W f' ∧ f' + i ≤ m)
      ⟨v4, v5, S, _, m, rfl, ⟨dx, ds, dw, _, h7, rfl⟩, hL, Nat.le_refl _⟩ (fun i σ H' hi hh => ?_) (fun i x σ H' H'' hi hh y => ?_) fun σ H' hh => ?_
    · obtain ⟨v4, v5, S, W, f', rfl, ⟨_, _, _, _, h', _⟩, _⟩ := hh
      exact SqL.of (h'.same _ _ gL)
    · obtain ⟨v4, v5, S, W, f', rfl, ⟨dx', ds', dw', Z', h', eW'⟩, hLk, hf'⟩ := hh
      obtain ⟨rfl, hx⟩ := y
      obtain ⟨p, e, rfl, he, hpe⟩ := gE.get hx
      have edrop : B'.drop i = e :: B'.drop (i + 1) := by
        obtain ⟨hiB, e9⟩ := List.getElem?_eq_some_iff.mp he
        rw [List.drop_eq_getElem_cons hiB, e9]
      rw [edrop] at hLk
      obtain ⟨q1, q2, q3, q4, q5⟩ := hLk.ent hk hg
      obtain ⟨r, s, hp, hrow, hst⟩ := hpe
      have tsG := Tq.of_same h'.same
      have hst' := hst.tq tsG
      refine ⟨p, _, rfl, SqT.rd (tsG.tups _ _ hp), rfl, _, _, rfl, _, _, rfl, rfl, ?_⟩
      refine ⟨_, rfl, _, rfl, _, _, _, _, _, rfl, h'.ins, T.cl_Search, T.n_Search_settled, lS_settled, _, ds', s, skey e.2, _, rfl, rfl, keyv_st hst', skey_depth _, h'.set, _, rfl, ite2 (fun e1 => ?_) fun e1 => ?_⟩
      · have nin : e.2 ∉ S := fun q => by
          rw [(set_val S e.2).mpr q] at e1
          cases e1
        have e0 : inS S e.2 = false := by
          cases q9 : inS S e.2 with
          | false => rfl
          | true => exact absurd ((inS_iff hk q2 q5).mp q9) nin
        refine ⟨_, rfl, _, rfl, s, gl, e.2, g, rfl, hst', h'.same _ _ gg, q2.b, hg4, fun H8 s8 => ⟨_, rfl, ite2 (fun e2 => ?_) fun e2 => ?_⟩⟩
        · have hbest := hLk.plan e0 e2
          have h8 := h'.keep s8
          refine ⟨_, rfl, b, _, 0, _, rfl, rfl, SqT.rd ((Tq.of_same h8.same).tups _ _ gb), atI_nat (j := 0) rfl, _, rfl, (by show 2 ≤ sizeLine; decide), fun p2 H9 n9 s9 e9 => ?_⟩
          exact qP z.1.1 e.1 hbest (by omega) H9 p2 r ((sg.trans h8.same).trans s9) (.inl e9) (hrow.tq ((Tq.of_same h8.same).trans (Tq.of_same s9)))
        · have h8 := h'.keep s8
          have sm : Small W 1000000 := by
            have a1 := hLk.small
            have a2 := wItems_len hLk.ok.ne
            exact ⟨by omega, fun p hp => by have := a2.2 p hp; omega⟩
          refine ⟨_, rfl, se, dx', _, rfl, h8.ins, lS_settle, _, rfl, b, _, 0, _, rfl, rfl, SqT.rd ((Tq.of_same h8.same).tups _ _ gb), atI_nat (j := 0) rfl, _, rfl, _, rfl, G1, se, r, s, c, z.1.1, k, wf, S, W, e.1, e.2, rfl, ⟨dx', ds', dw', Z', h8, eW'⟩, hrow.tq (Tq.of_same h8.same), hst'.same s8, hk, q2, q5, q4, nin, sm, by omega,
            fun h40 => qM (hLk.many e0 e2 h40) H8 (sg.trans h8.same), fun hne H9 hse9 tq9 => ?_⟩
          obtain ⟨f'', hlt, hL2⟩ := hLk.settle hk hg e0 e2 hne
          have ek : (z.1.1, e.1.length) = z.1 := by rw [← q1]
          rw [ek] at hse9
          exact ⟨_, _, S ++ [e.2], _, f'', rfl, hse9, hL2, by omega⟩
      · have e0 : inS S e.2 = true := (inS_iff hk q2 q5).mpr ((set_val S e.2).mp (nbb_f e1))
        obtain ⟨f'', hlt, hL2⟩ := hLk.skip e0
        exact ⟨_, _, S, W, f'', rfl, ⟨dx', ds', dw', Z', h', eW'⟩, hL2, by omega⟩
    · obtain ⟨v4, v5, S, W, f', rfl, ⟨dx', ds', dw', Z', h', eW'⟩, hLk, hf'⟩ := hh
      rw [ly, List.drop_length] at hLk
      exact ⟨f', by omega, _, v4, v5, S, W, rfl, ⟨dx', ds', dw', Z', h'.down sg h.can, eW'⟩, hLk.wait⟩
  · have eZ : Z = [] := by
      cases Z with
      | nil => rfl
      | cons a b => exact absurd rfl e
    subst eZ
    exact qN hW.none H4 h4.same
end
end Cn
end
section
set_option Elab.async false
set_option linter.all false
set_option maxRecDepth 100000
set_option maxHeartbeats 4000000
namespace Cn
open PySem PySem.Spec PyProof.Rows L2
open CaCanal (Canal Stand Op)
open Cm (GoodK Good getD_set done_good)
/-! ### the desk -/
structure DkAt (A : Ad) (H : Hp) (d : Addr) (st : Wqateb.State) : Prop where
  ex : ∃ dx c s : Addr, H d = some (.ins A.Desk dx (dF (.ref c) (.ref s) (nv st.gone) (nv st.fed))) ∧ CanAt A H c st.canal ∧ StAt H s st.stand
def GoodS (st : Wqateb.State) : Prop := GoodK st.canal ∧ Good st.canal st.stand
theorem DkAt.same {A : Ad} {H H' : Hp} {d : Addr} {st : Wqateb.State} (s : Same H H') (h : DkAt A H d st) : DkAt A H' d st := by
  obtain ⟨dx, c, t, h0, h1, h2⟩ := h.ex
  exact ⟨dx, c, t, s _ _ h0, h1.same s, h2.same s⟩
theorem CanAt.but {A : Ad} {H H' : Hp} {c d dx : Addr} {k : Canal} {a1 a2 a3 a4 : V} (h : CanAt A H c k) (hd : H d = some (.ins A.Desk dx (dF a1 a2 a3 a4))) (b : But d H H') : CanAt A H' c k := by
  obtain ⟨dx', b1, b2, b3, b4, h0, h1, h2, h3, h4⟩ := h.ex
  have n0 : c ≠ d := ne_of h0 hd (by
    intro z
    injection z with _ _ z3
    injection z3 with z4
    injection z4 with z5
    exact absurd z5 (by decide +kernel))
  exact ⟨dx', b1, b2, b3, b4, b _ _ h0 n0, b _ _ h1 (ne_of h1 hd (by intro z; cases z)), b _ _ h2 (ne_of h2 hd (by intro z; cases z)), b _ _ h3 (ne_of h3 hd (by intro z; cases z)), b _ _ h4 (ne_of h4 hd (by intro z; cases z))⟩
/-- a field of the desk is stored -/
theorem dk_set {A : Ad} {H : Hp} {d dx c s : Addr} {k : Canal} {t : Stand} {g f : Nat} {a1 a2 a3 a4 : V} (hd : H d = some (.ins A.Desk dx (dF a1 a2 a3 a4))) (hc : CanAt A H c k) (hs : StAt H s t) :
    DkAt A (upd H d (.ins A.Desk dx (dF (.ref c) (.ref s) (nv g) (nv f)))) d ⟨k, t, g, f⟩ :=
  ⟨dx, c, s, upd_same, hc.but hd ((But.refl H).upd), hs.tq (Tq.upd hd fun z => z)⟩
/-- a method's promise: what the specification answers -/
structure Mt (A : Ad) (d : Addr) (st : Wqateb.State) (y : Wqateb.State × List Int) (H : Hp) (Q : VK) (E : XK) : Prop where
  rt : ∀ (H' : Hp) (r : Addr), DkAt A H' d y.1 → But d H H' → H r = none → H' r = some (.lst (y.2.map V.int)) → Q (.ref r) H'
  ex : ∀ n : Int, y = (st, [n]) → ∀ (e : Addr) (H' : Hp), DkAt A H' d st → But d H H' → H e = none → H' e = some (.xd [("number", .int n)]) → E (.ref A.Refused) (some e) H'
theorem none_back {d : Addr} {H H' : Hp} {o : HO} (b : But d H H') (hd : H' d = some o) {r : Addr} (h : H' r = none) : H r = none := by
  cases e : H r with
  | none => rfl
  | some u =>
    have hr : r ≠ d := fun z => by
      rw [z, hd] at h
      cases h
    rw [b r u e hr] at h
    cases h
section
variable {A : Ad} {d : Addr} {st : Wqateb.State} {y : Wqateb.State × List Int} {H H1 : Hp} {Q : VK} {E : XK}
/-- return [..] -/
theorem Mt.ret (m : Mt A d st y H Q E) (b : But d H H1) (dk : DkAt A H1 d y.1) {r : Addr} {H2 : Hp} {xs : List V} (n : H1 r = none) (s : Same H1 H2) (e : H2 r = some (.lst xs)) (hx : xs = y.2.map V.int) : Q (.ref r) H2 := by
  obtain ⟨dx, c, t, h0, _⟩ := dk.ex
  exact m.rt H2 r (dk.same s) (b.same s) (none_back b h0 n) (hx ▸ e)
/-- raise Refused(n) -/
theorem Mt.rf (m : Mt A d st y H Q E) (b : But d H H1) (dk : DkAt A H1 d st) {n : Int} (e : y = (st, [n])) : Rf A E n H1 := fun e1 H2 s hn he => by
  obtain ⟨dx, c, t, h0, _⟩ := dk.ex
  exact m.ex n e e1 H2 (dk.same s) (b.same s) (none_back b h0 hn) he
end
theorem made_same {H H' : Hp} {x dx C : Addr} (nx : H x = none) (nd : H dx = none) (b : But x (upd (upd H dx (.own x)) x (.ins C dx [])) H') : Same H H' := fun c o e => b c o (by
  rw [upd_ne (ne_of_none e nx), upd_ne (ne_of_none e nd)]
  exact e) (ne_of_none e nx)
def ansOf (y : Wqateb.State × Wqateb.Ans) : Wqateb.State × List Int := (y.1, y.2.ret :: y.2.nums.map WqatebNeutral.int)
section
variable {P : Program} {w : World} {K : PySem.W.Frag} {mg : Str → Option Value} {base : Heap} {A : Ad}
def sp_Desk_init (A : Ad) : Sp := fun vs H Q _ => ∃ (p dx : Addr), vs = [.ref p] ∧ H p = some (.ins A.Desk dx []) ∧ ∀ H', DkAt A H' p Wqateb.start → But p H H' → Q .non H'
theorem gd_Desk___init__ (T : Txt K mg A) : GMake P w K mg base CX0 3 "Desk" A.Desk ["self"] (sp_Desk_init A) := by
  obtain ⟨f, fd, hm, M, F⟩ := T.t_Desk___init__
  refine ⟨f, fd, hm, M, ?_, F.binds (fun _ _ _ _ _ _ us hl => match us, hl with | [_], _ => rfl)⟩
  refine F.ok sc_Desk___init__ (fun vs H Q E h => ?_) (fun cdv Ar outer s H vs Q E hr h => ⟨_, (pss_cons (ps_fld (pv 0) (pe_gn (gd_Canal___init__ T) (hr.mono (by decide)) rfl pass0 (pa_cons (pe_lstS pa_nil) (pa_cons (pe_lstS pa_nil) pa_nil))) rfl)
    (pss_cons (ps_fld (pv 0) (pe_tupS (pa_cons (pe_tupS pa_nil) (pa_cons (pe_tupS pa_nil) (pa_cons (pe_op op_repFS (pe_tupS (pa_cons (pe_globI rfl T.c_AWAY) pa_nil)) (pe_globI rfl T.c_BOATS)) pa_nil)))) rfl)
    (pss_cons (ps_fld (pv 0) pe_int rfl)
    (pss_one (ps_fld (pv 0) pe_int rfl))))), ?_⟩)
  · obtain ⟨p, dx, rfl, hp, q⟩ := h; rfl
  obtain ⟨p, dx, rfl, hp, q⟩ := h
  refine ⟨Nat.zero_le _, fun l1 H1 n1 s1 e1 => ⟨Nat.zero_le _, fun l2 H2 n2 s2 e2 => fun x dc nx nd ne => ?_⟩⟩
  have x1 : l1 ≠ x := ne_of_none (s2 _ _ e1) nx
  have x2 : l1 ≠ dc := ne_of_none (s2 _ _ e1) nd
  have x3 : l2 ≠ x := ne_of_none e2 nx
  have x4 : l2 ≠ dc := ne_of_none e2 nd
  refine ⟨x, dc, l1, l2, [], [], [], [], rfl, upd_same, by rw [upd_ne x1, upd_ne x2]; exact s2 _ _ e1, by rw [upd_ne x3, upd_ne x4]; exact e2, .nil, .nil, Nat.zero_le _, Nat.zero_le _, fun H3 hc b3 => ⟨rfl, ?_⟩⟩
  have s3 : Same H2 H3 := made_same nx nd b3
  have sA : Same H H3 := (s1.trans s2).trans s3
  have p3 := sA _ _ hp
  refine ⟨_, rfl, p, A.Desk, dx, _, rfl, p3, T.cl_Desk, T.n_Desk_canal, (by show 0 < 1000; decide), ?_⟩
  generalize hG : upd H3 p (.ins A.Desk dx (putF "canal" (.ref x) [])) = G
  have pG : G p = some (.ins A.Desk dx (putF "canal" (.ref x) [])) := by rw [← hG]; exact upd_same
  have bG : But p H3 G := by rw [← hG]; exact (But.refl H3).upd
  have cG : CanAt A G x (canalK [] []) := by
    obtain ⟨dx', b1, b2, b3, b4, h0, h1, h2, h3, h4⟩ := hc.ex
    exact ⟨dx', b1, b2, b3, b4, bG _ _ h0 (ne_of h0 p3 (by
      intro z
      injection z with _ _ z3
      cases z3)), bG _ _ h1 (ne_of h1 p3 (by intro z; cases z)), bG _ _ h2 (ne_of h2 p3 (by intro z; cases z)), bG _ _ h3 (ne_of h3 p3 (by intro z; cases z)), bG _ _ h4 (ne_of h4 p3 (by intro z; cases z))⟩
  refine ⟨Nat.zero_le _, fun pw H4 n4 s4 w4 => ⟨Nat.zero_le _, fun pf H5 n5 s5 w5 => ⟨(by show 1 ≤ sizeLine; decide), fun pa H6 n6 s6 w6 => ?_⟩⟩⟩
  refine ⟨pa, 4, _, rfl, rfl, SqT.of w6, by simp, by decide, by decide, by show 1 ≤ 1000; decide, fun pb H7 n7 s7 w7 => ⟨(by show 3 ≤ sizeLine; decide), fun ps H8 n8 s8 w8 => ?_⟩⟩
  have s48 : Same G H8 := (((s4.trans s5).trans s6).trans s7).trans s8
  have p8 := s48 _ _ pG
  refine ⟨_, rfl, p, A.Desk, dx, _, rfl, p8, T.cl_Desk, T.n_Desk_stand, (by show 1 < 1000; decide), ?_⟩
  refine ⟨_, rfl, p, A.Desk, dx, _, rfl, upd_same, T.cl_Desk, T.n_Desk_left, (by show 2 < 1000; decide), ?_⟩
  refine ⟨_, rfl, p, A.Desk, dx, _, rfl, upd_same, T.cl_Desk, T.n_Desk_come, (by show 3 < 1000; decide), ?_⟩
  rw [upd_upd, upd_upd]
  have bF : But p H (upd H8 p (.ins A.Desk dx (putF "come" (.int 0) (putF "left" (.int 0) (putF "stand" (.ref ps) (putF "canal" (.ref x) [])))))) := ((((But.refl H).same sA).trans bG).same s48).upd
  have tq8 : Tq H8 (upd H8 p (.ins A.Desk dx (putF "come" (.int 0) (putF "left" (.int 0) (putF "stand" (.ref ps) (putF "canal" (.ref x) [])))))) := Tq.upd p8 fun z => z
  have c8 := cG.same s48
  refine q _ ⟨dx, x, ps, by rw [upd_same, nD]; rfl, ?_, ?_⟩ bF
  · obtain ⟨dx', b1, b2, b3, b4, h0, h1, h2, h3, h4⟩ := c8.ex
    have bb : But p H8 (upd H8 p (.ins A.Desk dx (putF "come" (.int 0) (putF "left" (.int 0) (putF "stand" (.ref ps) (putF "canal" (.ref x) [])))))) := (But.refl H8).upd
    exact ⟨dx', b1, b2, b3, b4, bb _ _ h0 (ne_of h0 p8 (by
      intro z
      injection z with _ _ z3
      cases z3)), bb _ _ h1 (ne_of h1 p8 (by intro z; cases z)), bb _ _ h2 (ne_of h2 p8 (by intro z; cases z)), bb _ _ h3 (ne_of h3 p8 (by intro z; cases z)), bb _ _ h4 (ne_of h4 p8 (by intro z; cases z))⟩
  · exact (st_mk (t := Wqateb.start.stand) (.inl w8) (rdSame (((s5.trans s6).trans s7).trans s8) (.inl w4)) (rdSame ((s6.trans s7).trans s8) (.inl w5)) (w7.at (Tq.of_same s8))).tq tq8
def sp_place_of (A : Ad) : Sp := fun vs H Q E => ∃ (d : Addr) (b : Nat) (st : Wqateb.State), vs = [.ref d, nv b] ∧ DkAt A H d st ∧ GoodS st ∧ (st.stand.at_ b ≠ 0 → Q (.int (pl (st.stand.at_ b))) H) ∧ (st.stand.at_ b = 0 → Rf A E (-4) H)
theorem gd_Desk_place_of (T : Txt K mg A) (U : TxE K mg A) : GMeth P w K mg base (L2.CX P w) 4 A.Desk "place_of" ["self", "boat"] (sp_place_of A) := by
  obtain ⟨f, fd, hm, F⟩ := T.t_Desk_place_of
  refine ⟨f, fd, hm, ?_, F.binds (fun _ _ _ _ _ _ us hl => match us, hl with | [_, _], _ => rfl)⟩
  refine F.okX sc_Desk_place_of (fun vs H Q E h => ?_) (fun cdv Ar outer s H vs Q E hr h => ⟨_, (pss_cons (ps_expr (pe_g (gd_want T U) (hr.mono (by decide)) rfl (passes_call (takes_of rfl rfl rfl rfl) (fun _ _ _ _ h => h)) (pa_cons (pe_and (pe_cmpR op_lt (pv 1) (pe_globI rfl T.c_BOATS) (nomark _)) (pe_one (pe_cmpR op_ne (pe_ix ix_tup (pe_ix ix_tup (pe_fld (pv 0) rfl) pe_int (fun _ _ => rfl)) (pv 1) (fun _ _ => rfl)) (pe_globI rfl T.c_AWAY) (nomark _)))) (pa_cons (pe_globI rfl T.c_NONE_SUCH_canal) pa_nil))))
    (pss_one (ps_ret (pe_ix ix_tup (pe_ix ix_tup (pe_fld (pv 0) rfl) pe_int (fun _ _ => rfl)) (pv 1) (fun _ _ => rfl))))), ?_⟩)
  · obtain ⟨d, b, st, rfl, hd, hg, q1, q2⟩ := h; rfl
  obtain ⟨d, b, st, rfl, hd, hg, q1, q2⟩ := h
  obtain ⟨dx, c, s, h0, hc, hs⟩ := hd.ex
  obtain ⟨w, f, bo, g0, g1, g2, g3⟩ := hs.ex
  have hb4 := hg.2.b
  have go : ∀ v : Bool, v = decide (st.stand.at_ b ≠ 0) → sp_want A [.bl v, .int (-4)] H (fun _ H1 => (tRet (tOp (rIxT K) (tOp (rIxT K) (tFld K (tVar 0) "stand") (tC (.int 2))) (tVar 1)) { nx := fun _ H' => Q .non H', rt := Q } (start ["self", "boat"] [.ref d, nv b])) H1) E := fun v hv => by
    refine ⟨v, -4, rfl, fun e => ?_, fun e => ?_⟩
    · have e1 : st.stand.at_ b ≠ 0 := of_decide_eq_true (hv.symm.trans e)
      have hb := boat_lt hg.2 e1
      exact ⟨_, rfl, _, _, _, _, _, rfl, h0, T.cl_Desk, T.n_Desk_stand, lD_stand, _, _, _, _, rfl, rfl, SqT.rd g0, atI_nat (j := 2) rfl, _, rfl, _, _, _, _, rfl, rfl, SqT.rd g3.rd, at_bo hb, q1 e1⟩
    · have e1 : ¬ st.stand.at_ b ≠ 0 := of_decide_eq_false (hv.symm.trans e)
      exact q2 (Classical.byContradiction fun z => e1 z)
  refine ⟨_, rfl, _, _, rfl, rfl, _, rfl, ite2 (fun e => ?_) fun e => ?_⟩
  · have e := of_decide_eq_true e
    have hb : b < st.stand.boats.length := by omega
    refine ⟨_, rfl, _, _, _, _, _, rfl, h0, T.cl_Desk, T.n_Desk_stand, lD_stand, _, _, _, _, rfl, rfl, SqT.rd g0, atI_nat (j := 2) rfl, _, rfl, _, _, _, _, rfl, rfl, SqT.rd g3.rd, at_bo hb, rfl, ?_⟩
    refine go _ ?_
    rw [← decide_not, decide_eq_decide, V.int.injEq]
    unfold pl CaCanal.Stand.at_
    omega
  · have e := b_f e
    refine go _ ?_
    rw [at_four hg.2 b (by omega)]
    rfl
def sp_put_boat (A : Ad) : Sp := fun vs H Q _ => ∃ (d : Addr) (b x : Nat) (st : Wqateb.State), vs = [.ref d, nv b, .int (pl x)] ∧ DkAt A H d st ∧ GoodS st ∧ b < 4 ∧ ∀ H', DkAt A H' d { st with stand := { st.stand with boats := st.stand.boats.set b x } } → But d H H' → Q .non H'
theorem gd_Desk_put_boat (T : Txt K mg A) : GMeth P w K mg base CX0 2 A.Desk "put_boat" ["self", "boat", "place"] (sp_put_boat A) := by
  obtain ⟨f, fd, hm, F⟩ := T.t_Desk_put_boat
  refine ⟨f, fd, hm, ?_, F.binds (fun _ _ _ _ _ _ us hl => match us, hl with | [_, _, _], _ => rfl)⟩
  refine F.ok sc_Desk_put_boat (fun vs H Q E h => ?_) (fun cdv Ar outer s H vs Q E hr h => ⟨_, (pss_cons (ps_asg (pe_fld (pv 0) rfl) (pg_tup rfl (pgs_cons (pg_name (i := 3) sc_Desk_put_boat.nd rfl (Or.inl rfl)) (pgs_cons (pg_name (i := 4) sc_Desk_put_boat.nd rfl (Or.inl rfl)) (pgs_cons (pg_name (i := 5) sc_Desk_put_boat.nd rfl (Or.inl rfl)) pgs_nil)))))
    (pss_one (ps_fld (pv 0) (pe_tupS (pa_cons (pv 3) (pa_cons (pv 4) (pa_cons (pe_g (gd_with_one T) (hr.mono (by decide)) rfl pass0 (pa_cons (pv 5) (pa_cons (pv 1) (pa_cons (pv 2) pa_nil)))) pa_nil)))) rfl))), ?_⟩)
  · obtain ⟨d, b, x, st, rfl, hd, hg, hb, q⟩ := h; rfl
  obtain ⟨d, b, x, st, rfl, hd, hg, hb, q⟩ := h
  obtain ⟨dx, c, s, h0, hc, hs⟩ := hd.ex
  obtain ⟨w, f, bo, g0, g1, g2, g3⟩ := hs.ex
  have hb4 := hg.2.b
  have hz : ((st.stand.boats.map pl).map V.int).length = 4 := by rw [List.length_map, List.length_map, hb4]
  refine ⟨_, rfl, _, _, _, _, _, rfl, h0, T.cl_Desk, T.n_Desk_stand, lD_stand, s, _, rfl, SqT.rd g0, rfl, _, _, rfl, _, _, rfl, _, _, rfl, rfl, ?_⟩
  refine ⟨_, rfl, _, rfl, _, rfl, _, rfl, _, rfl, bo, b, _, _, rfl, g3.rd, by omega, by omega, fun H1 p1 s1 _ r1 => ⟨(by show 3 ≤ sizeLine; decide), fun p2 H2 n2 s2 r2 => ?_⟩⟩
  have r1 := r1 (by omega)
  rw [set_bo] at r1
  refine ⟨_, rfl, d, A.Desk, dx, _, rfl, (s1.trans s2) _ _ h0, T.cl_Desk, T.n_Desk_stand, (by show 4 < 1000; decide), ?_⟩
  rw [pD_stand]
  exact q _ (dk_set ((s1.trans s2) _ _ h0) (hc.same (s1.trans s2)) (st_mk (t := { st.stand with boats := st.stand.boats.set b x }) (.inl r2) (rdSame (s1.trans s2) g1) (rdSame (s1.trans s2) g2) (r1.at (Tq.of_same s2)))) (((But.refl H).same (s1.trans s2)).upd)
end
end Cn
end
section
set_option Elab.async false
set_option linter.all false
set_option maxRecDepth 100000
set_option maxHeartbeats 4000000
namespace Cn
open PySem PySem.Spec PyProof.Rows L2
open CaCanal (Canal Stand Op)
open Cm (GoodK Good getD_set done_good)
theorem done_no {k : Canal} {t : Stand} {o : Op} {y : Nat} (h : CaCanal.done k t o = .no y) : y ≠ 0 := by
  unfold CaCanal.done at h
  split at h
  · unfold CaCanal.filled at h
    split at h
    · cases h; decide
    · split at h
      · cases h; decide
      · dsimp only at h
        split at h
        · cases h; decide
        · cases h
  · split at h
    · unfold CaCanal.emptied at h
      split at h
      · cases h; decide
      · split at h
        · cases h; decide
        · cases h
    · split at h
      · unfold CaCanal.entered at h
        split at h
        · cases h; decide
        · split at h
          · cases h; decide
          · split at h
            · cases h; decide
            · split at h
              · cases h; decide
              · cases h
      · split at h
        · unfold CaCanal.left at h
          split at h
          · cases h; decide
          · split at h
            · cases h; decide
            · cases h
        · cases h; decide
section
variable {P : Program} {w : World} {K : PySem.W.Frag} {mg : Str → Option Value} {base : Heap} {A : Ad}
theorem step_boat (st : Wqateb.State) (b i : Nat) : Wqateb.step st (.boat b i) = if CaCanal.BOATS ≤ b then (st, Wqateb.BAD) else if st.canal.pounds.length ≤ i then (st, Wqateb.NONE) else if st.stand.at_ b ≠ 0 then (st, Wqateb.says (-5)) else ({ st with stand := { st.stand with boats := st.stand.boats.set b (CaCanal.inPound i) } }, Wqateb.says 0) := rfl
def sp_Desk_boat (A : Ad) : Sp := fun vs H Q E => ∃ (d : Addr) (b i : Nat) (st : Wqateb.State), vs = [.ref d, nv b, nv i] ∧ DkAt A H d st ∧ GoodS st ∧ Mt A d st (ansOf (Wqateb.step st (.boat b i))) H Q E
theorem gd_Desk_boat (T : Txt K mg A) (U : TxE K mg A) : GMeth P w K mg base (L2.CX P w) 4 A.Desk "boat" ["self", "boat", "pound"] (sp_Desk_boat A) := by
  obtain ⟨f, fd, hm, F⟩ := T.t_Desk_boat
  refine ⟨f, fd, hm, ?_, F.binds (fun _ _ _ _ _ _ us hl => match us, hl with | [_, _, _], _ => rfl)⟩
  refine F.okX sc_Desk_boat (fun vs H Q E h => ?_) (fun cdv Ar outer s H vs Q E hr h => ⟨_, (pss_cons (ps_expr (pe_g (gd_want T U) (hr.mono (by decide)) rfl (passes_call (takes_of rfl rfl rfl rfl) (fun _ _ _ _ h => h)) (pa_cons (pe_cmpR op_lt (pv 1) (pe_globI rfl T.c_BOATS) (nomark _)) (pa_cons (pe_globI rfl T.c_BAD) pa_nil))))
    (pss_cons (ps_expr (pe_g (gd_want T U) (hr.mono (by decide)) rfl (passes_call (takes_of rfl rfl rfl rfl) (fun _ _ _ _ h => h)) (pa_cons (pe_cmpR op_lt (pv 2) (pe_gm0 (pe_fld (pv 0) rfl) T.cl_Canal (gd_Canal_many_pounds T) (hr.mono (by decide)) pass0) (nomark _)) (pa_cons (pe_globI rfl T.c_NONE_SUCH_canal) pa_nil))))
    (pss_cons (ps_expr (pe_g (gd_want T U) (hr.mono (by decide)) rfl (passes_call (takes_of rfl rfl rfl rfl) (fun _ _ _ _ h => h)) (pa_cons (pe_cmpR op_eq (pe_ix ix_tup (pe_ix ix_tup (pe_fld (pv 0) rfl) pe_int (fun _ _ => rfl)) (pv 1) (fun _ _ => rfl)) (pe_globI rfl T.c_AWAY) (nomark _)) (pa_cons (pe_globI rfl T.c_THERE_ALREADY) pa_nil))))
    (pss_cons (ps_expr (pe_gm (pv 0) T.cl_Desk (gd_Desk_put_boat T) (hr.mono (by decide)) pass0 (pa_cons (pv 1) (pa_cons (pe_g (gd_in_pound T) (hr.mono (by decide)) rfl pass0 (pa_cons (pv 2) pa_nil)) pa_nil))))
    (pss_one (ps_ret (pe_lstS (pa_cons pe_int pa_nil)))))))), ?_⟩)
  · obtain ⟨d, b, i, st, rfl, hd, hg, m⟩ := h; rfl
  obtain ⟨d, b, i, st, rfl, hd, hg, m⟩ := h
  obtain ⟨dx, c, s, h0, hc, hs⟩ := hd.ex
  obtain ⟨w, f, bo, g0, g1, g2, g3⟩ := hs.ex
  have hb4 := hg.2.b
  have hB : CaCanal.BOATS = 4 := rfl
  rw [step_boat] at m
  refine ⟨_, rfl, _, _, rfl, rfl, _, -1, rfl, fun e => ?_, fun e => ?_⟩
  rotate_left
  · have e := of_decide_eq_false e
    rw [if_pos (by omega)] at m
    exact m.rf (But.refl H) hd rfl
  have e := of_decide_eq_true e
  rw [if_neg (by omega)] at m
  refine ⟨_, rfl, _, rfl, _, _, _, _, _, rfl, h0, T.cl_Desk, T.n_Desk_canal, lD_canal, ?_⟩
  obtain ⟨dxc, a1, a2, a3, a4, k0, _⟩ := hc.ex
  refine ⟨_, _, _, rfl, k0, lC_many_pounds, c, st.canal, rfl, hc, _, _, rfl, rfl, _, -4, rfl, fun e2 => ?_, fun e2 => ?_⟩
  rotate_left
  · have e2 := of_decide_eq_false e2
    rw [if_pos (by omega)] at m
    exact m.rf (But.refl H) hd rfl
  have e2 := of_decide_eq_true e2
  rw [if_neg (by omega)] at m
  have hb : b < st.stand.boats.length := by omega
  refine ⟨_, rfl, _, _, _, _, _, rfl, h0, T.cl_Desk, T.n_Desk_stand, lD_stand, _, _, _, _, rfl, rfl, SqT.rd g0, atI_nat (j := 2) rfl, _, rfl, _, _, _, _, rfl, rfl, SqT.rd g3.rd, at_bo hb, rfl, _, -5, rfl, fun e3 => ?_, fun e3 => ?_⟩
  rotate_left
  · have e3 := of_decide_eq_false e3
    rw [V.int.injEq] at e3
    rw [if_pos (by unfold pl at e3; unfold CaCanal.Stand.at_; omega)] at m
    exact m.rf (But.refl H) hd rfl
  have e3 := of_decide_eq_true e3
  rw [V.int.injEq] at e3
  rw [if_neg (by unfold pl at e3; unfold CaCanal.Stand.at_; omega)] at m
  have ep : (2 * (i : Int)) = pl (CaCanal.inPound i) := by unfold pl CaCanal.inPound; omega
  refine ⟨_, rfl, d, dx, _, rfl, h0, lD_put_boat, _, rfl, _, rfl, i, rfl, d, b, CaCanal.inPound i, st, congrArg (fun z => [V.ref d, nv b, V.int z]) ep, hd, hg, by omega, fun H1 hd1 b1 => ?_⟩
  exact ⟨(by show 1 ≤ sizeLine; decide), fun r H2 n2 s2 e4 => m.ret b1 hd1 n2 s2 e4 rfl⟩
theorem step_lift (st : Wqateb.State) (b : Nat) : Wqateb.step st (.lift b) = if st.stand.at_ b = 0 then (st, Wqateb.NONE) else if st.stand.at_ b % 2 = 0 then (st, Wqateb.says (-3)) else ({ st with stand := { st.stand with boats := st.stand.boats.set b 0 } }, Wqateb.says 0) := rfl
def sp_Desk_lift (A : Ad) : Sp := fun vs H Q E => ∃ (d : Addr) (b : Nat) (st : Wqateb.State), vs = [.ref d, nv b] ∧ DkAt A H d st ∧ GoodS st ∧ Mt A d st (ansOf (Wqateb.step st (.lift b))) H Q E
theorem gd_Desk_lift (T : Txt K mg A) (U : TxE K mg A) : GMeth P w K mg base (L2.CX P w) 5 A.Desk "lift" ["self", "boat"] (sp_Desk_lift A) := by
  obtain ⟨f, fd, hm, F⟩ := T.t_Desk_lift
  refine ⟨f, fd, hm, ?_, F.binds (fun _ _ _ _ _ _ us hl => match us, hl with | [_, _], _ => rfl)⟩
  refine F.okX sc_Desk_lift (fun vs H Q E h => ?_) (fun cdv Ar outer s H vs Q E hr h => ⟨_, (pss_cons (ps_set (i := 2) sc_Desk_lift.nd rfl (Or.inl rfl) (pe_gm (pv 0) T.cl_Desk (gd_Desk_place_of T U) (hr.mono (by decide)) (passes_call (takes_of rfl rfl rfl rfl) (fun _ _ _ _ h => h)) (pa_cons (pv 1) pa_nil)))
    (pss_cons (ps_expr (pe_g (gd_want T U) (hr.mono (by decide)) rfl (passes_call (takes_of rfl rfl rfl rfl) (fun _ _ _ _ h => h)) (pa_cons (pe_not (pe_g (gd_is_in_lock T) (hr.mono (by decide)) rfl pass0 (pa_cons (pv 2) pa_nil))) (pa_cons (pe_globI rfl T.c_NOT_SO_canal) pa_nil))))
    (pss_cons (ps_expr (pe_gm (pv 0) T.cl_Desk (gd_Desk_put_boat T) (hr.mono (by decide)) pass0 (pa_cons (pv 1) (pa_cons (pe_globI rfl T.c_AWAY) pa_nil))))
    (pss_one (ps_ret (pe_lstS (pa_cons pe_int pa_nil))))))), ?_⟩)
  · obtain ⟨d, b, st, rfl, hd, hg, m⟩ := h; rfl
  obtain ⟨d, b, st, rfl, hd, hg, m⟩ := h
  obtain ⟨dx, c, s, h0, hc, hs⟩ := hd.ex
  have hb4 := hg.2.b
  rw [step_lift] at m
  refine ⟨_, rfl, d, dx, _, rfl, h0, lD_place_of, _, rfl, d, b, st, rfl, hd, hg, fun e => ?_, fun e => ?_⟩
  rotate_left
  · rw [if_pos e] at m
    exact m.rf (But.refl H) hd rfl
  rw [if_neg e] at m
  have hb := boat_lt hg.2 e
  refine ⟨_, rfl, st.stand.at_ b, rfl, _, rfl, _, -3, rfl, fun e2 => ?_, fun e2 => ?_⟩
  rotate_left
  · have e2 := of_decide_eq_true (nbb_f (show ¬ (!decide _) = true from fun z => by rw [e2] at z; cases z))
    rw [if_pos (by omega)] at m
    exact m.rf (But.refl H) hd rfl
  have e2 := nb_t e2
  rw [if_neg (by omega)] at m
  refine ⟨_, rfl, d, dx, _, rfl, h0, lD_put_boat, _, rfl, d, b, 0, st, rfl, hd, hg, by omega, fun H1 hd1 b1 => ?_⟩
  exact ⟨(by show 1 ≤ sizeLine; decide), fun r H2 n2 s2 e4 => m.ret b1 hd1 n2 s2 e4 rfl⟩
def sp_Desk_do_one (A : Ad) : Sp := fun vs H Q E => ∃ (d o : Addr) (op : Op) (st : Wqateb.State), vs = [.ref d, .ref o] ∧ OpAt H o op ∧ DkAt A H d st ∧ GoodS st ∧ Mt A d st (ansOf (Wqateb.doneOf st op)) H Q E
theorem gd_Desk_do_one (T : Txt K mg A) (U : TxE K mg A) : GMeth P w K mg base (L2.CX P w) 5 A.Desk "do_one" ["self", "operation"] (sp_Desk_do_one A) := by
  obtain ⟨f, fd, hm, F⟩ := T.t_Desk_do_one
  refine ⟨f, fd, hm, ?_, F.binds (fun _ _ _ _ _ _ us hl => match us, hl with | [_, _], _ => rfl)⟩
  refine F.okX sc_Desk_do_one (fun vs H Q E h => ?_) (fun cdv Ar outer s H vs Q E hr h => ⟨_, (pss_cons (ps_set (i := 2) sc_Desk_do_one.nd rfl (Or.inl rfl) (pe_g (gd_why_not T) (hr.mono (by decide)) rfl pass0 (pa_cons (pe_fld (pv 0) rfl) (pa_cons (pe_fld (pv 0) rfl) (pa_cons (pv 1) pa_nil)))))
    (pss_cons (ps_expr (pe_g (gd_want T U) (hr.mono (by decide)) rfl (passes_call (takes_of rfl rfl rfl rfl) (fun _ _ _ _ h => h)) (pa_cons (pe_cmpR op_eq (pv 2) pe_int (nomark _)) (pa_cons (pv 2) pa_nil))))
    (pss_cons (ps_asg (pe_g (gd_behind T) (hr.mono (by decide)) rfl pass0 (pa_cons (pe_fld (pv 0) rfl) (pa_cons (pe_fld (pv 0) rfl) (pa_cons (pv 1) pa_nil)))) (pg_tup rfl (pgs_cons (pg_fld (pv 0)) (pgs_cons (pg_name (i := 3) sc_Desk_do_one.nd rfl (Or.inl rfl)) pgs_nil))))
    (pss_cons (ps_fldaug (pv 0) (pv 3) in_add)
    (pss_cons (ps_if (pt_cmpR op_eq (pe_ix ix_tup (pv 1) pe_int (fun _ _ => rfl)) (pe_globI rfl T.c_EMPTY) (nomark _)) (pss_one (ps_ret (pe_lstS (pa_cons (pv 3) pa_nil)))) pss_nil)
    (pss_cons (ps_if (pt_cmpR op_eq (pe_ix ix_tup (pv 1) pe_int (fun _ _ => rfl)) (pe_globI rfl T.c_LEAVE) (nomark _)) (pss_one (ps_ret (pe_lstS (pa_cons (pe_op op_fdiv (pe_ix ix_tup (pe_ix ix_tup (pe_fld (pv 0) rfl) pe_int (fun _ _ => rfl)) (pe_ix ix_tup (pv 1) pe_int (fun _ _ => rfl)) (fun _ _ => rfl)) pe_int) pa_nil)))) pss_nil)
    (pss_one (ps_ret (pe_lstS (pa_cons pe_int pa_nil)))))))))), ?_⟩)
  · obtain ⟨d, o, op, st, rfl, ho, hd, hg, m⟩ := h; rfl
  obtain ⟨d, o, op, st, rfl, ho, hd, hg, m⟩ := h
  obtain ⟨dx, c, s, h0, hc, hs⟩ := hd.ex
  have hb4 := hg.2.b
  refine ⟨_, rfl, _, _, _, _, _, rfl, h0, T.cl_Desk, T.n_Desk_canal, lD_canal, _, rfl, _, _, _, _, _, rfl, h0, T.cl_Desk, T.n_Desk_stand, lD_stand, _, rfl, c, s, o, st.canal, st.stand, op, rfl, hc, hs, ho, hg.1, hg.2, fun H1 s1 => ?_⟩
  have hd1 := hd.same s1
  have b1 : But d H H1 := (But.refl H).same s1
  refine ⟨_, rfl, rfl, _, rfl, _, _, rfl, fun e => ?_, fun e => ?_⟩
  rotate_left
  · have e := of_decide_eq_false e
    rw [V.int.injEq] at e
    cases hdn : CaCanal.done st.canal st.stand op with
    | so t n => rw [hdn] at e; exact absurd rfl e
    | no y =>
      rw [hdn] at e
      refine m.rf b1 hd1 ?_
      unfold Wqateb.doneOf
      rw [hdn]
      rfl
  have e := of_decide_eq_true e
  rw [V.int.injEq] at e
  cases hdn : CaCanal.done st.canal st.stand op with
  | no y =>
    rw [hdn] at e
    have e' : -(y : Int) = 0 := e
    exact absurd (by omega) (done_no hdn)
  | so t n =>
    have h1 := s1 _ _ h0
    have hgt := (done_good hg.1 hg.2 hdn).1
    refine ⟨_, rfl, _, _, _, _, _, rfl, h1, T.cl_Desk, T.n_Desk_canal, lD_canal, _, rfl, _, _, _, _, _, rfl, h1, T.cl_Desk, T.n_Desk_stand, lD_stand, _, rfl, c, s, o, st.canal, st.stand, t, n, op, rfl, hc.same s1, hs.same s1, rdSame s1 ho, hg.1, hg.2, hdn, fun H2 p b2 s2 p2 hst2 => ?_⟩
    have h2 := s2 _ _ h1
    refine ⟨p, _, rfl, SqT.rd p2, rfl, _, _, rfl, _, rfl, d, A.Desk, dx, _, rfl, h2, T.cl_Desk, T.n_Desk_stand, (by show 4 < 1000; decide), _, _, rfl, rfl, ?_⟩
    rw [pD_stand]
    generalize hG : upd H2 d (.ins A.Desk dx (dF (.ref c) (.ref b2) (nv st.gone) (nv st.fed))) = H3
    have h3 : H3 d = some (.ins A.Desk dx (dF (.ref c) (.ref b2) (nv st.gone) (nv st.fed))) := by rw [← hG]; exact upd_same
    have b23 : But d H2 H3 := by rw [← hG]; exact (But.refl H2).upd
    have tq3 : Tq H2 H3 := b23.tq h2
    refine ⟨_, rfl, d, A.Desk, dx, _, _, rfl, h3, T.cl_Desk, T.n_Desk_left, lD_left, _, rfl, _, _, rfl, rfl, dx, _, h3, (by show 4 < 1000; decide), ?_⟩
    rw [pD_left]
    have hd4 : DkAt A (upd H3 d (.ins A.Desk dx (dF (.ref c) (.ref b2) (nv (st.gone + (if op.1 = 1 then n else 0))) (nv st.fed)))) d ⟨st.canal, t, st.gone + (if op.1 = 1 then n else 0), st.fed⟩ :=
      dk_set h3 (((hc.same s1).same s2).but h2 b23) (hst2.tq tq3)
    have b4 : But d H (upd H3 d (.ins A.Desk dx (dF (.ref c) (.ref b2) (nv (st.gone + (if op.1 = 1 then n else 0))) (nv st.fed)))) := ((b1.same s2).trans b23).upd
    have t4 : Tq H2 (upd H3 d (.ins A.Desk dx (dF (.ref c) (.ref b2) (nv (st.gone + (if op.1 = 1 then n else 0))) (nv st.fed)))) := tq3.trans (Tq.upd h3 fun z => z)
    have ecast : V.int ((st.gone : Int) + ((if op.1 = 1 then n else 0 : Nat) : Int)) = nv (st.gone + (if op.1 = 1 then n else 0)) := rfl
    have hy : ansOf (Wqateb.doneOf st op) = (⟨st.canal, t, st.gone + (if op.1 = 1 then n else 0), st.fed⟩, [(n : Int)]) := by
      unfold Wqateb.doneOf
      rw [hdn]
      rfl
    rw [hy] at m
    have ho4 : OpAt (upd H3 d (.ins A.Desk dx (dF (.ref c) (.ref b2) (nv (st.gone + (if op.1 = 1 then n else 0))) (nv st.fed)))) o op := OpAt.tq t4 (rdSame s2 (rdSame s1 ho))
    rw [ecast]
    generalize upd H3 d (.ins A.Desk dx (dF (.ref c) (.ref b2) (nv (st.gone + (if op.1 = 1 then n else 0))) (nv st.fed))) = H4 at hd4 b4 t4 ho4
    refine ⟨_, rfl, o, _, 0, _, rfl, rfl, SqT.rd ho4, atI_nat (j := 0) rfl, rfl, _, rfl, ite2 (fun e1 => ?_) fun e1 => ?_⟩
    · have e1 := nvI (m := 1) e1
      refine ⟨_, rfl, (by show 1 ≤ sizeLine; decide), fun r H5 n5 s5 e5 => m.ret b4 hd4 n5 s5 e5 ?_⟩
      rw [if_pos e1]
      rfl
    have e1 := nvN (m := 1) e1
    refine ⟨_, rfl, o, _, 0, _, rfl, rfl, SqT.rd ho4, atI_nat (j := 0) rfl, rfl, _, rfl, ite2 (fun e2 => ?_) fun e2 => ?_⟩
    · have e2 := nvI (m := 3) e2
      have hl : CaCanal.left st.stand op.2.1 = .so t n := by
        unfold CaCanal.done at hdn
        rw [if_neg (by omega), if_neg (by omega), if_neg (by omega), if_pos e2] at hdn
        exact hdn
      obtain ⟨l1, l2, rfl, l4⟩ := left_so hl
      have hb := boat_lt hg.2 l1
      obtain ⟨dx4, c4, s4, k0, kc, ks⟩ := hd4.ex
      obtain ⟨w4, f4, bo4, j0, j1, j2, j3⟩ := ks.ex
      have hb' : op.2.1 < (st.stand.boats.set op.2.1 (CaCanal.inPound n)).length := by rw [List.length_set]; exact hb
      refine ⟨_, rfl, _, _, _, _, _, rfl, k0, T.cl_Desk, T.n_Desk_stand, lD_stand, _, _, _, _, rfl, rfl, SqT.rd j0, atI_nat (j := 2) rfl, _, rfl, o, _, 1, _, rfl, rfl, SqT.rd ho4, atI_nat (j := 1) rfl, _, _, _, _, rfl, rfl, SqT.rd j3.rd, at_bo hb', _, _, rfl, rfl, ⟨by decide, by decide⟩, (by show 1 ≤ sizeLine; decide), fun r H5 n5 s5 e5 => m.ret b4 hd4 n5 s5 e5 ?_⟩
      have ev : pl ((st.stand.boats.set op.2.1 (CaCanal.inPound n)).getD op.2.1 0) / 2 = (n : Int) := by
        rw [getD_set hb, if_pos rfl]
        unfold pl CaCanal.inPound
        omega
      show [V.int (pl ((st.stand.boats.set op.2.1 (CaCanal.inPound n)).getD op.2.1 0) / 2)] = [V.int (n : Int)]
      rw [ev]
    · have e2 := nvN (m := 3) e2
      refine ⟨(by show 1 ≤ sizeLine; decide), fun r H5 n5 s5 e5 => m.ret b4 hd4 n5 s5 e5 ?_⟩
      have hn0 : n = 0 := by
        unfold CaCanal.done at hdn
        by_cases z0 : op.1 = 0
        · rw [if_pos z0] at hdn
          exact (filled_so hdn).2.2.2.2
        · rw [if_neg z0, if_neg e1] at hdn
          by_cases z2 : op.1 = 2
          · rw [if_pos z2] at hdn
            exact (entered_so hdn).2.2.2
          · rw [if_neg z2, if_neg e2] at hdn
            cases hdn
      rw [hn0]
      rfl
end
end Cn
end
section
set_option Elab.async false
set_option linter.all false
set_option maxRecDepth 100000
set_option maxHeartbeats 4000000
namespace Cn
open PySem PySem.Spec PyProof.Rows L2
open CaCanal (Canal Stand Op)
open Cm (GoodK Good getD_set done_good)
section
variable {P : Program} {w : World} {K : PySem.W.Frag} {mg : Str → Option Value} {base : Heap} {A : Ad}
theorem step_feed (st : Wqateb.State) (q : Nat) : Wqateb.step st (.feed q) = if Wqateb.FEED < q then (st, Wqateb.BAD) else if st.canal.pounds = [] then (st, Wqateb.NONE) else
    ({ st with stand := { st.stand with water := (CaCanal.poured st.canal.pounds st.stand.water 0 q).1 }, gone := st.gone + (CaCanal.poured st.canal.pounds st.stand.water 0 q).2, fed := st.fed + q }, Wqateb.says (Wqateb.int (CaCanal.poured st.canal.pounds st.stand.water 0 q).2)) := rfl
def sp_Desk_feed (A : Ad) : Sp := fun vs H Q E => ∃ (d : Addr) (q : Nat) (st : Wqateb.State), vs = [.ref d, nv q] ∧ DkAt A H d st ∧ GoodS st ∧ Mt A d st (ansOf (Wqateb.step st (.feed q))) H Q E
theorem gd_Desk_feed (T : Txt K mg A) (U : TxE K mg A) : GMeth P w K mg base (L2.CX P w) 4 A.Desk "feed" ["self", "water"] (sp_Desk_feed A) := by
  obtain ⟨f, fd, hm, F⟩ := T.t_Desk_feed
  refine ⟨f, fd, hm, ?_, F.binds (fun _ _ _ _ _ _ us hl => match us, hl with | [_, _], _ => rfl)⟩
  refine F.okX sc_Desk_feed (fun vs H Q E h => ?_) (fun cdv Ar outer s H vs Q E hr h => ⟨_, (pss_cons (ps_expr (pe_g (gd_want T U) (hr.mono (by decide)) rfl (passes_call (takes_of rfl rfl rfl rfl) (fun _ _ _ _ h => h)) (pa_cons (pe_cmpR op_le (pv 1) (pe_globI rfl T.c_MOST_FEED) (nomark _)) (pa_cons (pe_globI rfl T.c_BAD) pa_nil))))
    (pss_cons (ps_expr (pe_g (gd_want T U) (hr.mono (by decide)) rfl (passes_call (takes_of rfl rfl rfl rfl) (fun _ _ _ _ h => h)) (pa_cons (pe_cmpR op_gt (pe_gm0 (pe_fld (pv 0) rfl) T.cl_Canal (gd_Canal_many_pounds T) (hr.mono (by decide)) pass0) pe_int (nomark _)) (pa_cons (pe_globI rfl T.c_NONE_SUCH_canal) pa_nil))))
    (pss_cons (ps_asg (pe_fld (pv 0) rfl) (pg_tup rfl (pgs_cons (pg_name (i := 2) sc_Desk_feed.nd rfl (Or.inl rfl)) (pgs_cons (pg_name (i := 3) sc_Desk_feed.nd rfl (Or.inl rfl)) (pgs_cons (pg_name (i := 4) sc_Desk_feed.nd rfl (Or.inl rfl)) pgs_nil)))))
    (pss_cons (ps_asg (pe_g (gd_poured T) (hr.mono (by decide)) rfl pass0 (pa_cons (pe_fld (pv 0) rfl) (pa_cons (pv 2) (pa_cons pe_int (pa_cons (pv 1) pa_nil))))) (pg_tup rfl (pgs_cons (pg_name (i := 5) sc_Desk_feed.nd rfl (Or.inl rfl)) (pgs_cons (pg_name (i := 6) sc_Desk_feed.nd rfl (Or.inl rfl)) pgs_nil))))
    (pss_cons (ps_fld (pv 0) (pe_tupS (pa_cons (pv 5) (pa_cons (pv 3) (pa_cons (pv 4) pa_nil)))) rfl)
    (pss_cons (ps_fldaug (pv 0) (pv 6) in_add)
    (pss_cons (ps_fldaug (pv 0) (pv 1) in_add)
    (pss_one (ps_ret (pe_lstS (pa_cons (pv 6) pa_nil))))))))))), ?_⟩)
  · obtain ⟨d, q0, st, rfl, hd, hg, m⟩ := h; rfl
  obtain ⟨d, q0, st, rfl, hd, hg, m⟩ := h
  obtain ⟨dx, c, s, h0, hc, hs⟩ := hd.ex
  obtain ⟨w, f, bo, g0, g1, g2, g3⟩ := hs.ex
  obtain ⟨dxc, a1, a2, a3, a4, k0, _⟩ := hc.ex
  have hF : Wqateb.FEED = 10000 := rfl
  have hnp := hg.1.np
  have hgw := hg.2.w
  rw [step_feed] at m
  refine ⟨_, rfl, _, _, rfl, rfl, _, -1, rfl, fun e => ?_, fun e => ?_⟩
  rotate_left
  · have e := of_decide_eq_false e
    rw [if_pos (by omega)] at m
    exact m.rf (But.refl H) hd rfl
  have e := of_decide_eq_true e
  rw [if_neg (by omega)] at m
  refine ⟨_, rfl, _, _, _, _, _, rfl, h0, T.cl_Desk, T.n_Desk_canal, lD_canal, _, _, _, rfl, k0, lC_many_pounds, c, st.canal, rfl, hc, _, _, rfl, rfl, _, -4, rfl, fun e2 => ?_, fun e2 => ?_⟩
  rotate_left
  · have e2 := of_decide_eq_false e2
    rw [if_pos (List.eq_nil_of_length_eq_zero (by omega))] at m
    exact m.rf (But.refl H) hd rfl
  have e2 := of_decide_eq_true e2
  rw [if_neg (fun z => by rw [z] at e2; exact absurd e2 (by decide))] at m
  refine ⟨_, rfl, _, _, _, _, _, rfl, h0, T.cl_Desk, T.n_Desk_stand, lD_stand, s, _, rfl, SqT.rd g0, rfl, _, _, rfl, _, _, rfl, _, _, rfl, rfl, ?_⟩
  refine ⟨_, rfl, _, _, _, _, _, rfl, h0, T.cl_Desk, T.n_Desk_canal, lD_canal, _, rfl, _, rfl, c, w, 0, q0, st.canal, st.stand.water, rfl, hc, g1, hgw, by omega, by omega, fun H1 p b s1 p1 b1 => ?_⟩
  refine ⟨p, _, rfl, SqT.rd p1, rfl, _, _, rfl, _, _, rfl, rfl, ?_⟩
  generalize hy : CaCanal.poured st.canal.pounds st.stand.water 0 q0 = y at p1 b1 m
  have h1 := s1 _ _ h0
  refine ⟨_, rfl, _, rfl, _, rfl, (by show 3 ≤ sizeLine; decide), fun p2 H2 n2 s2 e3 => ?_⟩
  have h2 := s2 _ _ h1
  refine ⟨_, rfl, d, A.Desk, dx, _, rfl, h2, T.cl_Desk, T.n_Desk_stand, (by show 4 < 1000; decide), ?_⟩
  rw [pD_stand]
  generalize hG : upd H2 d (.ins A.Desk dx (dF (.ref c) (.ref p2) (nv st.gone) (nv st.fed))) = H3
  have h3 : H3 d = some (.ins A.Desk dx (dF (.ref c) (.ref p2) (nv st.gone) (nv st.fed))) := by rw [← hG]; exact upd_same
  have b23 : But d H2 H3 := by rw [← hG]; exact (But.refl H2).upd
  have t23 : Tq H2 H3 := b23.tq h2
  refine ⟨_, rfl, d, A.Desk, dx, _, _, rfl, h3, T.cl_Desk, T.n_Desk_left, lD_left, _, rfl, _, _, rfl, rfl, dx, _, h3, (by show 4 < 1000; decide), ?_⟩
  rw [pD_left, show V.int ((st.gone : Int) + ((y.2 : Nat) : Int)) = nv (st.gone + y.2) from rfl]
  generalize hG4 : upd H3 d (.ins A.Desk dx (dF (.ref c) (.ref p2) (nv (st.gone + y.2)) (nv st.fed))) = H4
  have h4 : H4 d = some (.ins A.Desk dx (dF (.ref c) (.ref p2) (nv (st.gone + y.2)) (nv st.fed))) := by rw [← hG4]; exact upd_same
  have b34 : But d H3 H4 := by rw [← hG4]; exact (But.refl H3).upd
  refine ⟨_, rfl, d, A.Desk, dx, _, _, rfl, h4, T.cl_Desk, T.n_Desk_come, lD_come, _, rfl, _, _, rfl, rfl, dx, _, h4, (by show 4 < 1000; decide), ?_⟩
  rw [pD_come, show V.int ((st.fed : Int) + ((q0 : Nat) : Int)) = nv (st.fed + q0) from rfl]
  have b24 := b23.trans b34
  have t24 : Tq H2 H4 := b24.tq h2
  have st2 : StAt H2 p2 { st.stand with water := y.1 } := st_mk (.inl e3) (rdSame s2 b1) (rdSame (s1.trans s2) g2) (g3.at (Tq.of_same (s1.trans s2)))
  have hd5 : DkAt A (upd H4 d (.ins A.Desk dx (dF (.ref c) (.ref p2) (nv (st.gone + y.2)) (nv (st.fed + q0))))) d ⟨st.canal, { st.stand with water := y.1 }, st.gone + y.2, st.fed + q0⟩ := dk_set h4 ((hc.same (s1.trans s2)).but h2 b24) (st2.tq t24)
  exact ⟨_, rfl, (by show 1 ≤ sizeLine; decide), fun r H6 n6 s6 e6 => m.ret ((((But.refl H).same (s1.trans s2)).trans b24).upd) hd5 n6 s6 e6 rfl⟩
theorem step_pound (st : Wqateb.State) (i : Nat) : Wqateb.step st (.pound i) = (st, match st.stand.water[i]? with
    | none => Wqateb.NONE
    | some w => Wqateb.tells (Wqateb.int w) [st.stand.count (CaCanal.inPound i)]) := rfl
def sp_Desk_pound (A : Ad) : Sp := fun vs H Q E => ∃ (d : Addr) (i : Nat) (st : Wqateb.State), vs = [.ref d, nv i] ∧ DkAt A H d st ∧ GoodS st ∧ Mt A d st (ansOf (Wqateb.step st (.pound i))) H Q E
theorem gd_Desk_pound (T : Txt K mg A) (U : TxE K mg A) : GMeth P w K mg base (L2.CX P w) 4 A.Desk "pound" ["self", "number"] (sp_Desk_pound A) := by
  obtain ⟨f, fd, hm, F⟩ := T.t_Desk_pound
  refine ⟨f, fd, hm, ?_, F.binds (fun _ _ _ _ _ _ us hl => match us, hl with | [_, _], _ => rfl)⟩
  refine F.okX sc_Desk_pound (fun vs H Q E h => ?_) (fun cdv Ar outer s H vs Q E hr h => ⟨_, (pss_cons (ps_expr (pe_g (gd_want T U) (hr.mono (by decide)) rfl (passes_call (takes_of rfl rfl rfl rfl) (fun _ _ _ _ h => h)) (pa_cons (pe_cmpR op_lt (pv 1) (pe_gm0 (pe_fld (pv 0) rfl) T.cl_Canal (gd_Canal_many_pounds T) (hr.mono (by decide)) pass0) (nomark _)) (pa_cons (pe_globI rfl T.c_NONE_SUCH_canal) pa_nil))))
    (pss_one (ps_ret (pe_lstS (pa_cons (pe_ix ix_tup (pe_ix ix_tup (pe_fld (pv 0) rfl) pe_int (fun _ _ => rfl)) (pv 1) (fun _ _ => rfl)) (pa_cons (pe_count (pe_ix ix_tup (pe_fld (pv 0) rfl) pe_int (fun _ _ => rfl)) (pa_cons (pe_g (gd_in_pound T) (hr.mono (by decide)) rfl pass0 (pa_cons (pv 1) pa_nil)) pa_nil)) pa_nil)))))), ?_⟩)
  · obtain ⟨d, i, st, rfl, hd, hg, m⟩ := h; rfl
  obtain ⟨d, i, st, rfl, hd, hg, m⟩ := h
  obtain ⟨dx, c, s, h0, hc, hs⟩ := hd.ex
  obtain ⟨w, f, bo, g0, g1, g2, g3⟩ := hs.ex
  obtain ⟨dxc, a1, a2, a3, a4, k0, _⟩ := hc.ex
  have hgw := hg.2.w
  rw [step_pound] at m
  refine ⟨_, rfl, _, rfl, _, _, _, _, _, rfl, h0, T.cl_Desk, T.n_Desk_canal, lD_canal, _, _, _, rfl, k0, lC_many_pounds, c, st.canal, rfl, hc, _, _, rfl, rfl, _, -4, rfl, fun e2 => ?_, fun e2 => ?_⟩
  rotate_left
  · have e2 := of_decide_eq_false e2
    rw [List.getElem?_eq_none (by omega)] at m
    exact m.rf (But.refl H) hd rfl
  have e2 := of_decide_eq_true e2
  have hi : i < st.stand.water.length := by omega
  rw [List.getElem?_eq_getElem hi] at m
  refine ⟨_, rfl, _, _, _, _, _, rfl, h0, T.cl_Desk, T.n_Desk_stand, lD_stand, _, _, _, _, rfl, rfl, SqT.rd g0, atI_nat (j := 0) rfl, _, rfl, _, _, _, _, rfl, rfl, SqT.rd g1, at_map (d := 0) hi, _, rfl, _, _, _, _, _, rfl, h0, T.cl_Desk, T.n_Desk_stand, lD_stand, _, _, _, _, rfl, rfl, SqT.rd g0, atI_nat (j := 2) rfl,
    bo, _, rfl, g3, _, rfl, i, rfl, _, rfl, SqT.rd g3.rd, (by show 2 ≤ sizeLine; decide), fun r H2 n2 s2 e4 => m.ret (But.refl H) hd n2 s2 e4 ?_⟩
  have ep : (2 * (i : Int)) = pl (CaCanal.inPound i) := by unfold pl CaCanal.inPound; omega
  rw [ep, count_pl]
  have eg : st.stand.water.getD i 0 = st.stand.water[i] := by rw [List.getD_eq_getElem?_getD, List.getElem?_eq_getElem hi]; rfl
  rw [eg]
  rfl
theorem step_lock (st : Wqateb.State) (i : Nat) : Wqateb.step st (.lock i) = (st, match st.stand.full[i]? with
    | none => Wqateb.NONE
    | some f => Wqateb.tells (Wqateb.int f.toNat) [st.stand.count (CaCanal.inLock i)]) := rfl
theorem fm_count {α : Type} (p : α → Bool) (g : α → V) : ∀ l : List α, (l.filterMap fun x => if p x = true then some (g x) else none).length = (l.filter p).length
  | [] => rfl
  | x :: l => by
    have ih := fm_count p g l
    by_cases c : p x = true
    · rw [List.filterMap_cons_some (by rw [if_pos c]), List.filter_cons_of_pos c, List.length_cons, List.length_cons, ih]
    · rw [List.filterMap_cons_none (by rw [if_neg c]), List.filter_cons_of_neg c, ih]
def sp_Desk_lock (A : Ad) : Sp := fun vs H Q E => ∃ (d : Addr) (i : Nat) (st : Wqateb.State), vs = [.ref d, nv i] ∧ DkAt A H d st ∧ GoodS st ∧ Mt A d st (ansOf (Wqateb.step st (.lock i))) H Q E
theorem gd_Desk_lock (T : Txt K mg A) (U : TxE K mg A) : GMeth P w K mg base (L2.CX P w) 4 A.Desk "lock" ["self", "number"] (sp_Desk_lock A) := by
  obtain ⟨f, fd, hm, F⟩ := T.t_Desk_lock
  refine ⟨f, fd, hm, ?_, F.binds (fun _ _ _ _ _ _ us hl => match us, hl with | [_, _], _ => rfl)⟩
  refine F.okX sc_Desk_lock (fun vs H Q E h => ?_) (fun cdv Ar outer s H vs Q E hr h => ⟨_, (pss_cons (ps_expr (pe_g (gd_want T U) (hr.mono (by decide)) rfl (passes_call (takes_of rfl rfl rfl rfl) (fun _ _ _ _ h => h)) (pa_cons (pe_cmpR op_lt (pv 1) (pe_gm0 (pe_fld (pv 0) rfl) T.cl_Canal (gd_Canal_many_locks T) (hr.mono (by decide)) pass0) (nomark _)) (pa_cons (pe_globI rfl T.c_NONE_SUCH_canal) pa_nil))))
    (pss_cons (ps_setLc (i := 2) (own := [("place", 3)]) (g := (gName 3)) (tt := (tAnd (tB (tG sp_is_in_lock E0 (tCons (tVar 3) tNil))) (tTest (tOp rEq (tOp (rI CDiv fun i j => .int (i / j)) (tVar 3) (tC (.int (2)))) (tVar 1))))) (te := (tVar 3)) rfl sc_Desk_lock.nd rfl rfl (sw_true rfl rfl rfl (by decide +kernel))  (pi_tup (pe_ix ix_tup (pe_fld (pv 0) rfl) pe_int (fun _ _ => rfl))) (blkOk_by (N := ["self", "number", "boats", "place"]) (sc := defScope s_Desk_lock) (by decide +kernel)) (fun _ _ _ _ _ => by exact (pg_name (i := 3) sc_Desk_lock.nd rfl (Or.inl rfl))) (fun _ _ _ _ _ => by exact (pts_one (PW.pt (pw_and (pt_val (pe_g (gd_is_in_lock T) (hr.mono (by decide)) rfl pass0 (pa_cons (pv 3) pa_nil))) (pw_and1 (pt_cmpR op_eq (pe_op op_fdiv (pv 3) pe_int) (pv 1) (nomark _))))))) (fun _ _ _ _ _ => by exact (pv 3)))
    (pss_one (ps_ret (pe_lstS (pa_cons (pe_callTy call_int1 (by rfl) T.b_int (by decide +kernel) (pa_cons (pe_ix ix_tup (pe_ix ix_tup (pe_fld (pv 0) rfl) pe_int (fun _ _ => rfl)) (pv 1) (fun _ _ => rfl)) pa_nil)) (pa_cons (pe_callB call_len_seq (by rfl) T.b_len PySem.boot_len (pa_cons (pv 2) pa_nil)) pa_nil))))))), ?_⟩)
  · obtain ⟨d, i, st, rfl, hd, hg, m⟩ := h; rfl
  obtain ⟨d, i, st, rfl, hd, hg, m⟩ := h
  obtain ⟨dx, c, s, h0, hc, hs⟩ := hd.ex
  obtain ⟨w, f, bo, g0, g1, g2, g3⟩ := hs.ex
  obtain ⟨dxc, a1, a2, a3, a4, k0, _⟩ := hc.ex
  have hgf := hg.2.f
  have hgb := hg.2.b
  have hline : (1000 : Nat) < sizeLine := by decide
  rw [step_lock] at m
  refine ⟨_, rfl, _, rfl, _, _, _, _, _, rfl, h0, T.cl_Desk, T.n_Desk_canal, lD_canal, _, _, _, rfl, k0, lC_many_locks, c, st.canal, rfl, hc, _, _, rfl, rfl, _, -4, rfl, fun e2 => ?_, fun e2 => ?_⟩
  rotate_left
  · have e2 := of_decide_eq_false e2
    rw [List.getElem?_eq_none (by omega)] at m
    exact m.rf (But.refl H) hd rfl
  have e2 := of_decide_eq_true e2
  have hi : i < st.stand.full.length := by omega
  rw [List.getElem?_eq_getElem hi] at m
  have eb : ((st.stand.boats.map pl).map V.int).length = 4 := by rw [List.length_map, List.length_map, hgb]
  refine ⟨_, rfl, _, _, _, _, _, rfl, h0, T.cl_Desk, T.n_Desk_stand, lD_stand, _, _, _, _, rfl, rfl, SqT.rd g0, atI_nat (j := 2) rfl, bo, rfl, ⟨_, SqT.rd g3.rd⟩, fun D hD => ?_⟩
  refine lc_rel (walk_tup (xs := (st.stand.boats.map pl).map V.int)) hD (by omega) (fun _ v (z : V) => v = z) (fun _ _ _ _ _ z => z) (fun j => if (st.stand.boats.getD j 0 == CaCanal.inLock i) = true then some (.int (pl (st.stand.boats.getD j 0))) else none) (fun H' s' => SqT.rd (rdSame s' g3.rd)) (fun j x H' H'' hj s' y R r0 r1 => ?_) fun H1 zs s1 hx pr => ?_
  · obtain ⟨rfl, hx⟩ := y
    rw [List.map_map] at hx
    obtain ⟨hj2, rfl⟩ := get_map 0 hx
    refine ⟨rfl, _, rfl, st.stand.boats.getD j 0, rfl, _, rfl, ite2 (fun c1 => ?_) fun c1 => ?_⟩
    · have c1 := of_decide_eq_true c1
      refine ⟨_, rfl, _, _, rfl, rfl, ⟨by decide, by decide⟩, _, rfl, rfl, _, rfl, ite2 (fun c2 => ?_) fun c2 => ?_⟩
      · have c2 := of_decide_eq_true c2
        rw [V.int.injEq] at c2
        exact ⟨_, rfl, r1 _ (if_pos (beq_iff_eq.mpr (by unfold pl at c2; unfold CaCanal.inLock; omega))) _ _ (Same.refl _) rfl⟩
      · have c2 := b_f c2
        rw [V.int.injEq] at c2
        exact r0 (if_neg (fun z => by
          have z := beq_iff_eq.mp z
          unfold CaCanal.inLock at z
          unfold pl at c2
          omega)) _ (Same.refl _)
    · have c1 := b_f c1
      exact iteF (r0 (if_neg (fun z => by
        have z := beq_iff_eq.mp z
        unfold CaCanal.inLock at z
        omega)) _ (Same.refl _))
  rw [eb] at pr
  have ez := paired_eq id pr
  rw [List.map_id] at ez
  have h1 := s1 _ _ h0
  refine ⟨_, rfl, _, _, _, _, _, rfl, h1, T.cl_Desk, T.n_Desk_stand, lD_stand, _, _, _, _, rfl, rfl, SqT.rd (rdSame s1 g0), atI_nat (j := 1) rfl, _, rfl, _, _, _, _, rfl, rfl, SqT.rd (rdSame s1 g2), at_map (d := false) hi, .inr ⟨_, rfl, _, rfl, D, _, rfl, .inl (SqL.of hx), (by show 2 ≤ sizeLine; decide), fun r H2 n2 s2 e4 => m.ret ((But.refl H).same s1) (hd.same s1) n2 s2 e4 ?_⟩⟩
  have e5 : zs.length = st.stand.count (CaCanal.inLock i) := by
    rw [ez, show (4 : Nat) = st.stand.boats.length from hgb.symm, fm_range st.stand.boats 0 (fun x => if (x == CaCanal.inLock i) = true then some (V.int (pl x)) else none), fm_count (fun x => x == CaCanal.inLock i) fun x => V.int (pl x)]
    rfl
  rw [e5]
  have eg : st.stand.full.getD i false = st.stand.full[i] := by rw [List.getD_eq_getElem?_getD, List.getElem?_eq_getElem hi]; rfl
  rw [eg]
  show [V.int (if st.stand.full[i] = true then 1 else 0), _] = [V.int (st.stand.full[i].toNat : Int), _]
  cases st.stand.full[i] <;> rfl
theorem step_where (st : Wqateb.State) (b : Nat) : Wqateb.step st (.where_ b) = (st, if st.stand.at_ b = 0 then Wqateb.NONE else if st.stand.at_ b % 2 = 1 then Wqateb.tells 0 [st.stand.at_ b / 2] else Wqateb.tells 1 [st.stand.at_ b / 2 - 1]) := rfl
def sp_Desk_where (A : Ad) : Sp := fun vs H Q E => ∃ (d : Addr) (b : Nat) (st : Wqateb.State), vs = [.ref d, nv b] ∧ DkAt A H d st ∧ GoodS st ∧ Mt A d st (ansOf (Wqateb.step st (.where_ b))) H Q E
theorem gd_Desk_where (T : Txt K mg A) (U : TxE K mg A) : GMeth P w K mg base (L2.CX P w) 5 A.Desk "where" ["self", "boat"] (sp_Desk_where A) := by
  obtain ⟨f, fd, hm, F⟩ := T.t_Desk_where
  refine ⟨f, fd, hm, ?_, F.binds (fun _ _ _ _ _ _ us hl => match us, hl with | [_, _], _ => rfl)⟩
  refine F.okX sc_Desk_where (fun vs H Q E h => ?_) (fun cdv Ar outer s H vs Q E hr h => ⟨_, (pss_cons (ps_set (i := 2) sc_Desk_where.nd rfl (Or.inl rfl) (pe_gm (pv 0) T.cl_Desk (gd_Desk_place_of T U) (hr.mono (by decide)) (passes_call (takes_of rfl rfl rfl rfl) (fun _ _ _ _ h => h)) (pa_cons (pv 1) pa_nil)))
    (pss_one (ps_ret (pe_lstS (pa_cons (pe_callTy call_int1 (by rfl) T.b_int (by decide +kernel) (pa_cons (pe_not (pe_g (gd_is_in_pound T) (hr.mono (by decide)) rfl pass0 (pa_cons (pv 2) pa_nil))) pa_nil)) (pa_cons (pe_op op_fdiv (pv 2) pe_int) pa_nil)))))), ?_⟩)
  · obtain ⟨d, b, st, rfl, hd, hg, m⟩ := h; rfl
  obtain ⟨d, b, st, rfl, hd, hg, m⟩ := h
  obtain ⟨dx, c, s, h0, hc, hs⟩ := hd.ex
  rw [step_where] at m
  refine ⟨_, rfl, d, dx, _, rfl, h0, lD_place_of, _, rfl, d, b, st, rfl, hd, hg, fun e => ?_, fun e => ?_⟩
  rotate_left
  · rw [if_pos e] at m
    exact m.rf (But.refl H) hd rfl
  rw [if_neg e] at m
  refine ⟨_, rfl, st.stand.at_ b, rfl, _, rfl, .inr ⟨_, rfl, _, rfl, _, _, rfl, rfl, ⟨by decide, by decide⟩, (by show 2 ≤ sizeLine; decide), fun r H2 n2 s2 e4 => m.ret (But.refl H) hd n2 s2 e4 ?_⟩⟩
  by_cases c1 : st.stand.at_ b % 2 = 1
  · rw [if_pos c1, decide_eq_true c1]
    have ev : pl (st.stand.at_ b) / 2 = ((st.stand.at_ b / 2 : Nat) : Int) := by unfold pl; omega
    show [V.int 0, V.int (pl (st.stand.at_ b) / 2)] = [V.int 0, V.int ((st.stand.at_ b / 2 : Nat) : Int)]
    rw [ev]
  · rw [if_neg c1, decide_eq_false c1]
    have ev : pl (st.stand.at_ b) / 2 = ((st.stand.at_ b / 2 - 1 : Nat) : Int) := by unfold pl; omega
    show [V.int 1, V.int (pl (st.stand.at_ b) / 2)] = [V.int 1, V.int ((st.stand.at_ b / 2 - 1 : Nat) : Int)]
    rw [ev]
end
end Cn
end
section
set_option Elab.async false
set_option linter.all false
set_option maxRecDepth 100000
set_option maxHeartbeats 4000000
namespace Cn
open PySem PySem.Spec PyProof.Rows L2
open CaCanal (Canal Stand Op)
open Cm (GoodK Good getD_set done_good)
section
variable {P : Program} {w : World} {K : PySem.W.Frag} {mg : Str → Option Value} {base : Heap} {A : Ad}
/-- flattened of a tuple -/
def sp_flattenedT : Sp := fun vs H Q _ => ∃ (a : Addr) (l : List Op), vs = [.ref a] ∧ RowAt H a l ∧ l.length ≤ 100000 ∧ ∀ (H' : Hp) (p : Addr), Same H H' → H p = none → H' p = some (.lst ((Wqateb.opsRow l).map nv)) → Q (.ref p) H'
theorem gd_flattenedT (T : Txt K mg A) : GDef P w K mg base CX0 1 "flattened" ["operations"] sp_flattenedT := by
  obtain ⟨f, fd, hm, F⟩ := T.t_flattened
  refine ⟨f, fd, hm, F.kp, ?_, F.binds (fun _ _ _ _ _ _ us hl => match us, hl with | [_], _ => rfl)⟩
  refine F.ok sc_flattened (fun vs H Q E h => ?_) (fun cdv Ar outer s H vs Q E hr h => ⟨_, (pss_cons (ps_set (i := 1) sc_flattened.nd rfl (Or.inl rfl) (pe_lstS pa_nil))
    (pss_cons (ps_for PassesOwn.never rfl (pi_tup (pv 0)) (pg_name (i := 2) sc_flattened.nd rfl (Or.inl rfl)) (pss_one (ps_expr (pe_bm PySem.F.plainAttrs_list PySem.F.slot_list_extend PySem.F.type_list_extend mt_extT (pv 1) (pa_cons (pv 2) pa_nil)))))
    (pss_one (ps_ret (pv 1))))), ?_⟩)
  · obtain ⟨a, l, rfl, _⟩ := h; rfl
  obtain ⟨a, l, rfl, ⟨xs, ha, ho⟩, hl, q⟩ := h
  have hline : (1000000 : Nat) < sizeLine := by decide
  have hlen := Paired.length ho
  refine ⟨Nat.zero_le _, fun p H1 n1 s1 p1 => ?_⟩
  refine ⟨_, rfl, a, rfl, ⟨_, SqT.rd (rdSame s1 ha)⟩, ?_⟩
  refine for_it (walk_tup (xs := xs)) (fun i σ H' => ∃ v : Option V, σ = [some (.ref a), some (.ref p), v] ∧ Same H H' ∧ H' p = some (.lst ((Wqateb.opsRow (l.take i)).map nv))) ⟨none, rfl, s1, p1⟩ (fun i σ H' hi h => ?_) (fun i x σ H' H'' hi h y => ?_) fun σ H' h => ?_
  · obtain ⟨v, rfl, s2, _⟩ := h
    exact SqT.rd (rdSame s2 ha)
  · obtain ⟨v, rfl, s2, p2⟩ := h
    obtain ⟨rfl, hx⟩ := y
    obtain ⟨c, o, rfl, hg, oc⟩ := ho.get hx
    refine ⟨_, rfl, .inl ⟨rfl, _, SqL.of p2⟩, _, rfl, p, c, _, _, rfl, rfl, p2, SqT.rd (rdSame s2 oc), ?_, _, rfl, same_mut s2 n1, ?_⟩
    · rw [List.length_map, opsRow_len, List.length_take]
      show _ + 3 ≤ _
      omega
    · rw [upd_same, take_snoc hg, opsRow_snoc, List.map_append]
      rfl
  · obtain ⟨v, rfl, s2, p2⟩ := h
    rw [hlen, List.take_length] at p2
    exact ⟨_, rfl, q H' p s2 n1 p2⟩
theorem step_run (st : Wqateb.State) (l : List Nat) : Wqateb.step st (.run l) = match Wqateb.threes l with
    | none => (st, Wqateb.BAD)
    | some o => if Wqateb.OPS < o.length then (st, Wqateb.BAD) else ((Wqateb.runFrom st o).1, Wqateb.says (Wqateb.int (Wqateb.runFrom st o).2)) := rfl
theorem doneOf_good {st : Wqateb.State} (hg : GoodS st) (o : Op) : GoodS (Wqateb.doneOf st o).1 := by
  unfold Wqateb.doneOf
  cases h : CaCanal.done st.canal st.stand o with
  | no y => exact hg
  | so t n => exact ⟨hg.1, (done_good hg.1 hg.2 h).1⟩
def sp_Desk_run (A : Ad) : Sp := fun vs H Q E => ∃ (d a : Addr) (ns : List Nat) (st : Wqateb.State), vs = [.ref d, .ref a] ∧ H a = some (.lst (ns.map nv)) ∧ ns.length ≤ 100000 ∧ DkAt A H d st ∧ GoodS st ∧ Mt A d st (ansOf (Wqateb.step st (.run ns))) H Q E
theorem gd_Desk_run (T : Txt K mg A) (U : TxE K mg A) : GMeth P w K mg base (L2.CX P w) 6 A.Desk "run" ["self", "numbers"] (sp_Desk_run A) := by
  obtain ⟨f, fd, hm, F⟩ := T.t_Desk_run
  refine ⟨f, fd, hm, ?_, F.binds (fun _ _ _ _ _ _ us hl => match us, hl with | [_, _], _ => rfl)⟩
  refine F.okX sc_Desk_run (fun vs H Q E h => ?_) (fun cdv Ar outer s H vs Q E hr h => ⟨_, (pss_cons (ps_expr (pe_g (gd_want T U) (hr.mono (by decide)) rfl (passes_call (takes_of rfl rfl rfl rfl) (fun _ _ _ _ h => h)) (pa_cons (pe_and (pe_cmpR op_eq (pe_op op_mod (pe_callB call_len_seq (by rfl) T.b_len PySem.boot_len (pa_cons (pv 1) pa_nil)) pe_int) pe_int (nomark _)) (pe_one (pe_cmpR op_le (pe_callB call_len_seq (by rfl) T.b_len PySem.boot_len (pa_cons (pv 1) pa_nil)) (pe_op op_mul pe_int (pe_globI rfl T.c_MOST_RUN)) (nomark _)))) (pa_cons (pe_globI rfl T.c_BAD) pa_nil))))
    (pss_cons (ps_set (i := 2) sc_Desk_run.nd rfl (Or.inl rfl) pe_int)
    (pss_cons (ps_for (passes_of rfl) rfl (pi_list (pe_g (gd_in_threes T) (hr.mono (by decide)) rfl pass0 (pa_cons (pv 1) pa_nil))) (pg_name (i := 3) sc_Desk_run.nd rfl (Or.inl rfl)) (pss_cons (ps_if (pt_cmpR op_ne (pe_g (gd_why_not T) (hr.mono (by decide)) rfl pass0 (pa_cons (pe_fld (pv 0) rfl) (pa_cons (pe_fld (pv 0) rfl) (pa_cons (pv 3) pa_nil)))) pe_int (nomark _)) (pss_one (ps_ret (pe_lstS (pa_cons (pv 2) pa_nil)))) pss_nil)
    (pss_cons (ps_expr (pe_gm (pv 0) T.cl_Desk (gd_Desk_do_one T U) (hr.mono (by decide)) (passes_call (takes_of rfl rfl rfl rfl) (fun _ _ _ _ h => h)) (pa_cons (pv 3) pa_nil)))
    (pss_one (ps_aug (i := 2) sc_Desk_run.nd rfl (Or.inl rfl) pe_int ip_add)))))
    (pss_one (ps_ret (pe_lstS (pa_cons (pv 2) pa_nil))))))), ?_⟩)
  · obtain ⟨d, a, ns, st, rfl, ha, hz, hd, hg, m⟩ := h; rfl
  obtain ⟨d, a, ns, st, rfl, ha, hz, hd, hg, m⟩ := h
  obtain ⟨dx, c, s, h0, hc, hs⟩ := hd.ex
  have hline : (1000000 : Nat) < sizeLine := by decide
  have hO : Wqateb.OPS = 100 := rfl
  rw [step_run] at m
  have bad : ∀ o, Wqateb.threes ns = o → (o = none ∨ 300 < ns.length) → Rf A E (-1) H := fun o ho hh => by
    refine m.rf (But.refl H) hd ?_
    cases o with
    | none => rw [ho]; rfl
    | some l =>
      have := threes_len ns l ho
      rw [ho]
      dsimp only
      rw [if_pos (by rcases hh with z | z; cases z; omega)]
      rfl
  refine ⟨_, rfl, _, _, rfl, .inl (SqL.of ha), _, _, rfl, rfl, (by show (0 : Int) < 3; decide), rfl, _, rfl, ite2 (fun e => ?_) fun e => ?_⟩
  rotate_left
  · have e := b_f e
    rw [V.int.injEq, List.length_map] at e
    exact ⟨_, -1, rfl, (fun z => by cases z), fun _ => bad none ((threes_none ns).mpr (by omega)) (.inl rfl)⟩
  have e := of_decide_eq_true e
  rw [V.int.injEq, List.length_map] at e
  obtain ⟨o, ho⟩ : ∃ o, Wqateb.threes ns = some o := by
    cases h : Wqateb.threes ns with
    | none => exact absurd ((threes_none ns).mp h) (by omega)
    | some o => exact ⟨o, rfl⟩
  have hol := threes_len ns o ho
  refine ⟨_, rfl, _, _, rfl, .inl (SqL.of ha), _, _, rfl, rfl, .inl ⟨by decide, by decide⟩, _, _, rfl, rfl, _, -1, rfl, fun e2 => ?_, fun e2 => ?_⟩
  rotate_left
  · have e2 := of_decide_eq_false e2
    rw [List.length_map] at e2
    exact bad (some o) ho (.inr (by omega))
  have e2 := of_decide_eq_true e2
  rw [List.length_map] at e2
  rw [ho] at m
  dsimp only at m
  rw [if_neg (by omega)] at m
  refine ⟨_, rfl, a, ns, o, rfl, ha, ho, hz, fun H1 L xs s1 n1 l1 o1 => ⟨L, rfl, ⟨_, SqL.of l1⟩, ?_⟩⟩
  have h1 := s1 _ _ h0
  have lx := Paired.length o1
  have nL : L ≠ d := ne_of l1 h1 (by intro z; cases z)
  refine for_it (walk_list (xs := xs)) (fun i σ H' => ∃ (v3 : Option V) (si : Wqateb.State), σ = [some (.ref d), some (.ref a), some (nv i), v3] ∧ DkAt A H' d si ∧ GoodS si ∧ But d H1 H' ∧ Wqateb.runFrom st o = ((Wqateb.runFrom si (o.drop i)).1, (Wqateb.runFrom si (o.drop i)).2 + i))
    ⟨none, st, rfl, hd.same s1, hg, But.refl H1, rfl⟩ (fun i σ H' hi hh => ?_) (fun i x σ H' H'' hi hh y => ?_) fun σ H' hh => ?_
  · obtain ⟨v3, si, rfl, hdi, hgi, bi, hr⟩ := hh
    exact SqL.of (bi _ _ l1 nL)
  · obtain ⟨v3, si, rfl, hdi, hgi, bi, hrun⟩ := hh
    obtain ⟨rfl, hx⟩ := y
    obtain ⟨p, op, rfl, hop, hpo⟩ := o1.get hx
    have edrop : o.drop i = op :: o.drop (i + 1) := by
      obtain ⟨hiB, e9⟩ := List.getElem?_eq_some_iff.mp hop
      rw [List.drop_eq_getElem_cons hiB, e9]
    have tqi : Tq H1 H'' := bi.tq h1
    have hpo' := hpo.tq tqi
    obtain ⟨dxi, ci, sti, k0, kc, ks⟩ := hdi.ex
    refine ⟨_, rfl, _, _, _, _, _, rfl, k0, T.cl_Desk, T.n_Desk_canal, lD_canal, _, rfl, _, _, _, _, _, rfl, k0, T.cl_Desk, T.n_Desk_stand, lD_stand, _, rfl, ci, sti, p, si.canal, si.stand, op, rfl, kc, ks, hpo', hgi.1, hgi.2, fun H2 s2 => ?_⟩
    have bH : But d H H2 := (((But.refl H).same s1).trans bi).same s2
    refine ⟨rfl, _, rfl, ite2 (fun e3 => ?_) fun e3 => ?_⟩
    · have e3 := nb_t e3
      rw [V.int.injEq] at e3
      cases hdn : CaCanal.done si.canal si.stand op with
      | so t n => rw [hdn] at e3; exact absurd rfl e3
      | no yy =>
        have hr2 : Wqateb.runFrom si (o.drop i) = (si, 0) := by
          rw [edrop]
          unfold Wqateb.runFrom
          rw [hdn]
        rw [hr2] at hrun
        rw [hrun] at m
        refine ⟨_, rfl, (by show 1 ≤ sizeLine; decide), fun r H3 n3 s3 e4 => m.ret bH (hdi.same s2) n3 s3 e4 ?_⟩
        show [nv i] = [V.int ((0 + i : Nat) : Int)]
        rw [Nat.zero_add]
    · have e3 := nb_f e3
      rw [V.int.injEq] at e3
      cases hdn : CaCanal.done si.canal si.stand op with
      | no yy =>
        rw [hdn] at e3
        have e' : -(yy : Int) = 0 := e3
        exact absurd (by omega) (done_no hdn)
      | so t n =>
        have hdo : Wqateb.doneOf si op = ({ si with stand := t, gone := si.gone + (if op.1 = 1 then n else 0) }, Wqateb.says (Wqateb.int n)) := by
          unfold Wqateb.doneOf
          rw [hdn]
        have hr2 : Wqateb.runFrom si (o.drop i) = ((Wqateb.runFrom (Wqateb.doneOf si op).1 (o.drop (i + 1))).1, (Wqateb.runFrom (Wqateb.doneOf si op).1 (o.drop (i + 1))).2 + 1) := by
          rw [edrop]
          conv => lhs; unfold Wqateb.runFrom
          rw [hdn]
        refine ⟨_, rfl, d, dxi, _, rfl, s2 _ _ k0, lD_do_one, _, rfl, d, p, op, si, rfl, rdSame s2 hpo', hdi.same s2, hgi, ⟨fun H3 r hd3 b3 nr er => ?_, fun n' hn' => ?_⟩⟩
        · refine ⟨_, rfl, _, _, rfl, rfl, _, (Wqateb.doneOf si op).1, rfl, hd3, doneOf_good hgi op, (bi.same s2).trans b3, ?_⟩
          rw [hrun, hr2]
          dsimp only
          rw [Nat.add_assoc, Nat.add_comm 1 i]
        · exfalso
          rw [hdo] at hn'
          have e5 := congrArg (fun z : Wqateb.State × List Int => z.1.stand) hn'
          exact (done_good hgi.1 hgi.2 hdn).2 e5
  · obtain ⟨v3, si, rfl, hdi, hgi, bi, hrun⟩ := hh
    rw [lx, List.drop_length] at hrun
    have hr2 : Wqateb.runFrom si [] = (si, 0) := rfl
    rw [hr2] at hrun
    rw [hrun] at m
    refine ⟨_, rfl, (by show 1 ≤ sizeLine; decide), fun r H3 n3 s3 e4 => m.ret (((But.refl H).same s1).trans bi) hdi n3 s3 e4 ?_⟩
    show [nv xs.length] = [V.int ((0 + o.length : Nat) : Int)]
    rw [Nat.zero_add, lx]
theorem step_begin (st : Wqateb.State) (ps ls : List Nat) : Wqateb.step st (.begin_ ps ls) = Wqateb.begun st ps ls := rfl
def sp_Desk_begin (A : Ad) : Sp := fun vs H Q E => ∃ (d a b : Addr) (ps ls : List Nat) (st : Wqateb.State), vs = [.ref d, .ref a, .ref b] ∧ H a = some (.lst (ps.map nv)) ∧ H b = some (.lst (ls.map nv)) ∧ ps.length ≤ 100000 ∧ ls.length ≤ 100000 ∧ DkAt A H d st ∧ GoodS st ∧ Mt A d st (ansOf (Wqateb.step st (.begin_ ps ls))) H Q E
theorem gd_Desk_begin (T : Txt K mg A) (U : TxE K mg A) : GMeth P w K mg base (L2.CX P w) 4 A.Desk "begin" ["self", "pounds", "locks"] (sp_Desk_begin A) := by
  obtain ⟨f, fd, hm, F⟩ := T.t_Desk_begin
  refine ⟨f, fd, hm, ?_, F.binds (fun _ _ _ _ _ _ us hl => match us, hl with | [_, _, _], _ => rfl)⟩
  refine F.okX sc_Desk_begin (fun vs H Q E h => ?_) (fun cdv Ar outer s H vs Q E hr h => ⟨_, (pss_cons (ps_expr (pe_g (gd_want T U) (hr.mono (by decide)) rfl (passes_call (takes_of rfl rfl rfl rfl) (fun _ _ _ _ h => h)) (pa_cons (pe_and (pe_cmpR op_eq (pe_op op_mod (pe_callB call_len_seq (by rfl) T.b_len PySem.boot_len (pa_cons (pv 1) pa_nil)) pe_int) pe_int (nomark _)) (pe_one (pe_cmpR op_eq (pe_op op_mod (pe_callB call_len_seq (by rfl) T.b_len PySem.boot_len (pa_cons (pv 2) pa_nil)) pe_int) pe_int (nomark _)))) (pa_cons (pe_globI rfl T.c_BAD) pa_nil))))
    (pss_cons (ps_set (i := 3) sc_Desk_begin.nd rfl (Or.inl rfl) (pe_g (gd_in_threes T) (hr.mono (by decide)) rfl pass0 (pa_cons (pv 1) pa_nil)))
    (pss_cons (ps_set (i := 4) sc_Desk_begin.nd rfl (Or.inl rfl) (pe_g (gd_in_threes T) (hr.mono (by decide)) rfl pass0 (pa_cons (pv 2) pa_nil)))
    (pss_cons (ps_expr (pe_g (gd_want T U) (hr.mono (by decide)) rfl (passes_call (takes_of rfl rfl rfl rfl) (fun _ _ _ _ h => h)) (pa_cons (pe_g (gd_are_canal T) (hr.mono (by decide)) rfl pass0 (pa_cons (pv 3) (pa_cons (pv 4) pa_nil))) (pa_cons (pe_globI rfl T.c_BAD) pa_nil))))
    (pss_cons (ps_fld (pv 0) (pe_gn (gd_Canal___init__ T) (hr.mono (by decide)) rfl pass0 (pa_cons (pv 3) (pa_cons (pv 4) pa_nil))) rfl)
    (pss_cons (ps_fld (pv 0) (pe_g (gd_first_stand T) (hr.mono (by decide)) rfl pass0 (pa_cons (pv 3) (pa_cons (pv 4) pa_nil))) rfl)
    (pss_cons (ps_fld (pv 0) pe_int rfl)
    (pss_cons (ps_fld (pv 0) pe_int rfl)
    (pss_one (ps_ret (pe_lstS (pa_cons pe_int pa_nil)))))))))))), ?_⟩)
  · obtain ⟨d, a, b, ps, ls, st, rfl, ha, hb, za, zb, hd, hg, m⟩ := h; rfl
  obtain ⟨d, a, b, ps, ls, st, rfl, ha, hb, za, zb, hd, hg, m⟩ := h
  obtain ⟨dx, c, s, h0, hc, hs⟩ := hd.ex
  rw [step_begin] at m
  unfold Wqateb.begun at m
  have bad : (Wqateb.threes ps = none ∨ Wqateb.threes ls = none) → Rf A E (-1) H := fun hh => by
    refine m.rf (But.refl H) hd ?_
    cases h1 : Wqateb.threes ps with
    | none => rfl
    | some p =>
      cases h2 : Wqateb.threes ls with
      | none => rfl
      | some q => rw [h1, h2] at hh; rcases hh with z | z <;> cases z
  refine ⟨_, rfl, _, _, rfl, .inl (SqL.of ha), _, _, rfl, rfl, (by show (0 : Int) < 3; decide), rfl, _, rfl, ite2 (fun e => ?_) fun e => ?_⟩
  rotate_left
  · have e := b_f e
    rw [V.int.injEq, List.length_map] at e
    exact ⟨_, -1, rfl, (fun z => by cases z), fun _ => bad (.inl ((threes_none ps).mpr (by omega)))⟩
  have e := of_decide_eq_true e
  rw [V.int.injEq, List.length_map] at e
  refine ⟨_, rfl, _, _, rfl, .inl (SqL.of hb), _, _, rfl, rfl, (by show (0 : Int) < 3; decide), rfl, _, -1, rfl, fun e2 => ?_, fun e2 => ?_⟩
  rotate_left
  · have e2 := of_decide_eq_false e2
    rw [V.int.injEq, List.length_map] at e2
    exact bad (.inr ((threes_none ls).mpr (by omega)))
  have e2 := of_decide_eq_true e2
  rw [V.int.injEq, List.length_map] at e2
  obtain ⟨p, hp⟩ : ∃ o, Wqateb.threes ps = some o := by
    cases h : Wqateb.threes ps with
    | none => exact absurd ((threes_none ps).mp h) (by omega)
    | some o => exact ⟨o, rfl⟩
  obtain ⟨l, hl⟩ : ∃ o, Wqateb.threes ls = some o := by
    cases h : Wqateb.threes ls with
    | none => exact absurd ((threes_none ls).mp h) (by omega)
    | some o => exact ⟨o, rfl⟩
  have hpl := threes_len ps p hp
  have hll := threes_len ls l hl
  rw [hp, hl] at m
  dsimp only at m
  refine ⟨_, rfl, a, ps, p, rfl, ha, hp, za, fun H1 L1 xs s1 n1 l1 o1 => ?_⟩
  refine ⟨_, rfl, b, ls, l, rfl, s1 _ _ hb, hl, zb, fun H2 L2' ys s2 n2 l2 o2 => ?_⟩
  have s12 := s1.trans s2
  have x1 := s2 _ _ l1
  have ox := o1.tq (Tq.of_same s2)
  have zx : xs.length ≤ 100000 := by rw [Paired.length o1]; omega
  have zy : ys.length ≤ 100000 := by rw [Paired.length o2]; omega
  refine ⟨_, rfl, _, rfl, L1, L2', xs, ys, p, l, rfl, x1, l2, ox, o2, zx, zy, fun H3 s3 => ⟨_, -1, rfl, fun e3 => ?_, fun e3 => ?_⟩⟩
  rotate_left
  · cases hk : Wqateb.canalOf p l with
    | some z => rw [hk] at e3; cases e3
    | none =>
      rw [hk] at m
      exact m.rf ((But.refl H).same (s12.trans s3)) (hd.same (s12.trans s3)) rfl
  obtain ⟨z, hk⟩ := Option.isSome_iff_exists.mp e3
  have hz : z = (canalK p l, standK p l) := by
    unfold Wqateb.canalOf at hk
    split at hk
    · cases hk; rfl
    · cases hk
  rw [hk, hz] at m
  dsimp only at m
  have s123 := s12.trans s3
  refine ⟨_, rfl, _, rfl, fun x dxc nx nd ne => ?_⟩
  have y1 := s3 _ _ x1
  have y2 := s3 _ _ l2
  have b3 : ∀ (q : Addr) (o : HO), H3 q = some o → (upd (upd H3 dxc (.own x)) x (.ins A.Canal dxc [])) q = some o := fun q o e => by
    rw [upd_ne (ne_of_none e nx), upd_ne (ne_of_none e nd)]
    exact e
  have tb : Tq H3 (upd (upd H3 dxc (.own x)) x (.ins A.Canal dxc [])) := fun q o _ e => b3 q o e
  refine ⟨x, dxc, L1, L2', xs, ys, p, l, rfl, upd_same, b3 _ _ y1, b3 _ _ y2, ox.tq ((Tq.of_same s3).trans tb), o2.tq ((Tq.of_same s3).trans tb), zx, zy, fun H4 hc4 b4 => ⟨rfl, ?_⟩⟩
  have s34 : Same H3 H4 := made_same nx nd b4
  have s04 := s123.trans s34
  have k4 := s04 _ _ h0
  refine ⟨_, rfl, d, A.Desk, dx, _, rfl, k4, T.cl_Desk, T.n_Desk_canal, (by show 4 < 1000; decide), ?_⟩
  rw [pD_canal]
  generalize hG : upd H4 d (.ins A.Desk dx (dF (.ref x) (.ref s) (nv st.gone) (nv st.fed))) = H5
  have k5 : H5 d = some (.ins A.Desk dx (dF (.ref x) (.ref s) (nv st.gone) (nv st.fed))) := by rw [← hG]; exact upd_same
  have b45 : But d H4 H5 := by rw [← hG]; exact (But.refl H4).upd
  have t45 : Tq H4 H5 := b45.tq k4
  have c5 := hc4.but k4 b45
  have nl : ∀ (q : Addr) (zs : List V), H4 q = some (.lst zs) → q ≠ d := fun q zs e => ne_of e k4 (by intro z; cases z)
  have w1 := b45 _ _ (s34 _ _ y1) (nl _ _ (s34 _ _ y1))
  have w2 := b45 _ _ (s34 _ _ y2) (nl _ _ (s34 _ _ y2))
  have t35 : Tq H2 H5 := ((Tq.of_same s3).trans (Tq.of_same s34)).trans t45
  refine ⟨_, rfl, _, rfl, L1, L2', xs, ys, p, l, rfl, w1, w2, ox.tq t35, o2.tq t35, zx, zy, fun H6 q6 s6 st6 => ?_⟩
  have k6 := s6 _ _ k5
  refine ⟨_, rfl, d, A.Desk, dx, _, rfl, k6, T.cl_Desk, T.n_Desk_stand, (by show 4 < 1000; decide), ?_⟩
  rw [pD_stand]
  refine ⟨_, rfl, d, A.Desk, dx, _, rfl, upd_same, T.cl_Desk, T.n_Desk_left, (by show 4 < 1000; decide), ?_⟩
  rw [pD_left, upd_upd]
  refine ⟨_, rfl, d, A.Desk, dx, _, rfl, upd_same, T.cl_Desk, T.n_Desk_come, (by show 4 < 1000; decide), ?_⟩
  rw [pD_come, upd_upd]
  have hdF : DkAt A (upd H6 d (.ins A.Desk dx (dF (.ref x) (.ref q6) (.int 0) (.int 0)))) d ⟨canalK p l, standK p l, 0, 0⟩ := dk_set (g := 0) (f := 0) k6 (c5.same s6) st6
  exact ⟨(by show 1 ≤ sizeLine; decide), fun r H7 n7 s7 e7 => m.ret (((((But.refl H).same s04).trans b45).same s6).upd) hdF n7 s7 e7 rfl⟩
end
end Cn
end
section
set_option Elab.async false
set_option linter.all false
set_option maxRecDepth 100000
set_option maxHeartbeats 4000000
namespace Cn
open PySem PySem.Spec PyProof.Rows L2
open CaCanal (Canal Stand Op)
open Cm (GoodK Good getD_set done_good)
section
variable {P : Program} {w : World} {K : PySem.W.Frag} {mg : Str → Option Value} {base : Heap} {A : Ad}
theorem step_plan (st : Wqateb.State) (h a b c d : Nat) : Wqateb.step st (.plan h a b c d) = (st, if 1 < h ∨ ([a, b, c, d].any fun (x : Nat) => decide (st.canal.pounds.length < x)) = true then Wqateb.BAD else (match CaCanal.best st.canal (h == 1) [a, b, c, d] st.stand with
    | .plan u l => Wqateb.tells (Wqateb.int u) (l.length :: Wqateb.opsRow l)
    | .none => Wqateb.says (-3)
    | .many => Wqateb.says (-8))) := rfl
def sp_Desk_plan (A : Ad) : Sp := fun vs H Q E => ∃ (d wl : Addr) (how g0 g1 g2 g3 : Nat) (st : Wqateb.State), vs = [.ref d, nv how, .ref wl] ∧ H wl = some (.lst ([g0, g1, g2, g3].map nv)) ∧ DkAt A H d st ∧ GoodS st ∧ Mt A d st (ansOf (Wqateb.step st (.plan how g0 g1 g2 g3))) H Q E
theorem gd_Desk_plan (T : Txt K mg A) (U : TxE K mg A) : GMeth P w K mg base (L2.CX P w) 8 A.Desk "plan" ["self", "how", "wanted"] (sp_Desk_plan A) := by
  obtain ⟨f, fd, hm, F⟩ := T.t_Desk_plan
  refine ⟨f, fd, hm, ?_, F.binds (fun _ _ _ _ _ _ us hl => match us, hl with | [_, _, _], _ => rfl)⟩
  refine F.okX sc_Desk_plan (fun vs H Q E h => ?_) (fun cdv Ar outer s H vs Q E hr h => ⟨_, (pss_cons (ps_expr (pe_g (gd_want T U) (hr.mono (by decide)) rfl (passes_call (takes_of rfl rfl rfl rfl) (fun _ _ _ _ h => h)) (pa_cons (pe_and (pe_cmpR op_le (pv 1) pe_int (nomark _)) (pe_one (pe_cmpR op_le (pe_callB (cr_max rfl) (by rfl) T.b_max (by decide +kernel) (pa_cons (pv 2) pa_nil)) (pe_gm0 (pe_fld (pv 0) rfl) T.cl_Canal (gd_Canal_many_pounds T) (hr.mono (by decide)) pass0) (nomark _)))) (pa_cons (pe_globI rfl T.c_BAD) pa_nil))))
    (pss_cons (L2H.ps_try_onlyX (tb := fun W => tAsg (tGMS A.Search "plan" (sp_Search_plan A P w) (WE W) (tGN A.Search (sp_Search_init A P w) E0 (tCons (tFld K (tVar 0) "canal") (tCons (tOp rEq (tVar 1) (tC (.int 1))) tNil))) (tCons (tFld K (tVar 0) "stand") (tCons (tVar 2) tNil))) (gName 3)) (ts := fun _ _ _ => fun _ σ H => tRf A.Refused (tCons (tC (.int (-8))) tNil) σ H fun cls d H' => E cls d H') (Wout := fun cls d _ H => E cls d H) rfl rfl ⟨rfl, by decide, Or.inl U.gM⟩ (fun hd => L2H.passesAt_of rfl hd) (takes_of rfl rfl rfl rfl)
      (fun W pn xe tk tk2 hpo => pss_one (ps_set (i := 3) sc_Desk_plan.nd rfl (Or.inl rfl) (by exact (pe_gmS (pe_gn (gd_Search___init__ T) (hr.mono (by decide)) rfl pass0 (pa_cons (pe_fld (pv 0) rfl) (pa_cons (pe_cmpR op_eq (pv 1) pe_int (nomark _)) pa_nil))) T.cl_Search (gd_Search_plan T U) (hr.mono (by decide)) (fun σ => L2N.passAt tk σ) (pa_cons (pe_fld (pv 0) rfl) (pa_cons (pv 2) pa_nil))))))
      (fun a oe cls d pn hz hf tk hot => pss_one (L2H.ps_raiseH hot tk (pmk_r1H (ge_Refused T U) (L2H.roomH_mark (hr.mono (by decide)) _) hot rfl (by exact (pa_cons (pe_globI rfl T.c_TOO_FAR) pa_nil))))))
    (pss_cons (ps_expr (pe_g (gd_want T U) (hr.mono (by decide)) rfl (passes_call (takes_of rfl rfl rfl rfl) (fun _ _ _ _ h => h)) (pa_cons (pe_cmp (pc_notN (pv 3))) (pa_cons (pe_globI rfl T.c_NOT_SO_canal) pa_nil))))
    (pss_cons (ps_asg (pv 3) (pg_tup rfl (pgs_cons (pg_name (i := 4) sc_Desk_plan.nd rfl (Or.inl rfl)) (pgs_cons (pg_name (i := 5) sc_Desk_plan.nd rfl (Or.inl rfl)) pgs_nil))))
    (pss_one (ps_ret (pe_op op_catS (pe_lstS (pa_cons (pv 4) (pa_cons (pe_callB call_len_seq (by rfl) T.b_len PySem.boot_len (pa_cons (pv 5) pa_nil)) pa_nil))) (pe_g (gd_flattenedT T) (hr.mono (by decide)) rfl pass0 (pa_cons (pv 5) pa_nil))))))))), ?_⟩)
  · obtain ⟨d, wl, how, g0, g1, g2, g3, st, rfl, hwl, hd, hg, m⟩ := h; rfl
  obtain ⟨d, wl, how, g0, g1, g2, g3, st, rfl, hwl, hd, hg, m⟩ := h
  obtain ⟨dx, c, s, h0, hc, hs⟩ := hd.ex
  obtain ⟨dxc, a1, a2, a3, a4, k0, _⟩ := hc.ex
  have hline : (1000000 : Nat) < sizeLine := by decide
  rw [step_plan] at m
  have e0 : ([g0, g1, g2, g3].map nv) = ([g0, g1, g2, g3].map fun n : Nat => (n : Int)).map V.int := by rw [List.map_map]; rfl
  have hwl' : H wl = some (.lst (([g0, g1, g2, g3].map fun n : Nat => (n : Int)).map V.int)) := by rw [← e0]; exact hwl
  have bad : (1 < how ∨ ([g0, g1, g2, g3].any fun (x : Nat) => decide (st.canal.pounds.length < x)) = true) → Rf A E (-1) H := fun hh => by
    rw [if_pos hh] at m
    exact m.rf (But.refl H) hd rfl
  refine ⟨_, rfl, _, _, rfl, rfl, _, rfl, ite2 (fun e => ?_) fun e => ?_⟩
  rotate_left
  · have e := b_f e
    exact ⟨_, -1, rfl, (fun z => by cases z), fun _ => bad (.inl (by omega))⟩
  have e := of_decide_eq_true e
  refine ⟨_, rfl, wl, _, rfl, SqL.of hwl', (by show 0 < 4; decide), fun mx hmx hub => ?_⟩
  refine ⟨_, rfl, _, _, _, _, _, rfl, h0, T.cl_Desk, T.n_Desk_canal, lD_canal, _, _, _, rfl, k0, lC_many_pounds, c, st.canal, rfl, hc, _, _, rfl, rfl, _, -1, rfl, fun e2 => ?_, fun e2 => ?_⟩
  rotate_left
  · have e2 := of_decide_eq_false e2
    refine bad (.inr (List.any_eq_true.mpr ?_))
    obtain ⟨n, hn, rfl⟩ := List.mem_map.mp hmx
    exact ⟨n, hn, decide_eq_true (by omega)⟩
  have e2 := of_decide_eq_true e2
  have hno : ¬ (1 < how ∨ ([g0, g1, g2, g3].any fun (x : Nat) => decide (st.canal.pounds.length < x)) = true) := fun z => by
    rcases z with z | z
    · omega
    · obtain ⟨n, hn, h1⟩ := List.any_eq_true.mp z
      have h1 := of_decide_eq_true h1
      have h2 := hub _ (List.mem_map.mpr ⟨n, hn, rfl⟩)
      omega
  rw [if_neg hno] at m
  refine ⟨_, rfl, _, _, _, _, _, rfl, h0, T.cl_Desk, T.n_Desk_canal, lD_canal, _, rfl, rfl, fun x dxs nx nd ne => ?_⟩
  refine ⟨x, dxs, c, _, rfl, upd_same, fun H1 ds dw i1 b1 nds ndw nsw hset hwai => ⟨rfl, ?_⟩⟩
  have s1 : Same H H1 := made_same nx nd b1
  have ewf : decide (nv how = V.int 1) = (how == 1) := by
    rw [show (how == 1) = decide (how = 1) from rfl]
    exact decide_eq_decide.mpr (by rw [V.int.injEq]; omega)
  have back : ∀ q, (upd (upd H dxs (.own x)) x (.ins A.Search dxs [])) q = none → H q = none := fun q hq => by
    cases e9 : H q with
    | none => rfl
    | some o =>
      rw [upd_ne (ne_of_none e9 nx), upd_ne (ne_of_none e9 nd), e9] at hq
      cases hq
  have hse : SeIn A P w H H1 x c st.canal (decide (nv how = V.int 1)) [] dxs ds dw [] := ⟨i1, nx, back _ nds, back _ ndw, s1, hc, nsw, hset, hwai, (fun z hz => by cases hz), by simp, by simp⟩
  refine ⟨x, dxs, _, rfl, i1, lS_plan, _, rfl, _, _, _, _, _, rfl, s1 _ _ h0, T.cl_Desk, T.n_Desk_stand, lD_stand, _, rfl, H, x, s, wl, c, st.canal, _, st.stand, [g0, g1, g2, g3], rfl, ⟨dxs, ds, dw, [], hse, rfl⟩, hs.same s1, hwl, rfl, hg.1, hg.2, ?_, ?_, ?_⟩
  · intro u l hb hl H2 p r s2 hp hrow
    rw [ewf] at hb
    rw [hb] at m
    refine ⟨_, rfl, _, -3, rfl, (fun _ => ?_), fun z => by cases z⟩
    refine ⟨_, rfl, p, _, rfl, SqT.rd hp, rfl, _, _, rfl, _, _, rfl, rfl, ?_⟩
    obtain ⟨rx, hrx, hro⟩ := hrow
    have lrx : rx.length = l.length := Paired.length hro
    refine ⟨_, rfl, _, rfl, r, _, rfl, .inr (SqT.rd hrx), (by show 2 ≤ sizeLine; decide), fun q1 H3 n3 s3 e3 => ?_⟩
    refine ⟨_, rfl, r, l, rfl, ⟨rx, rdSame s3 hrx, hro.tq (Tq.of_same s3)⟩, by omega, fun H4 q2 s4 n4 e4 => ?_⟩
    refine ⟨q1, q2, _, _, rfl, rfl, s4 _ _ e3, e4, ?_, fun q3 H5 n5 s5 e5 => ?_⟩
    · rw [List.length_map, opsRow_len]
      show 2 + _ ≤ _
      omega
    · refine m.ret ((But.refl H).same ((s2.trans s3).trans s4)) (hd.same ((s2.trans s3).trans s4)) n5 s5 e5 ?_
      rw [lrx]
      show [nv u, nv l.length] ++ (Wqateb.opsRow l).map nv = V.int (u : Int) :: V.int (l.length : Int) :: (((Wqateb.opsRow l).map WqatebNeutral.int).map V.int)
      rw [List.map_map]
      rfl
  · intro hb H2 s2
    rw [ewf] at hb
    rw [hb] at m
    exact ⟨_, rfl, _, -3, rfl, (fun z => by cases z), fun _ => m.rf ((But.refl H).same s2) (hd.same s2) rfl⟩
  · intro hb H2 s2
    rw [ewf] at hb
    rw [hb] at m
    exact ⟨true, U.teM, fun _ a ha => ⟨-8, rfl, fun e1 H3 s3 n3 e3 => m.rf ((But.refl H).same s2) (hd.same s2) rfl e1 H3 s3 n3 e3⟩, fun q => Bool.noConfusion q⟩
end
end Cn
end
section
set_option Elab.async false
set_option linter.all false
set_option maxRecDepth 100000
set_option maxHeartbeats 4000000
namespace Cn
open PySem PySem.Spec PyProof.Rows L2
open CaCanal (Canal Stand Op)
open Cm (GoodK Good getD_set done_good)
/-- a call by its place, its numbers, its rows -/
inductive CallIs : Nat → List Nat → List (List Nat) → Wqateb.Call → Prop
  | c0 (r0 r1 : List Nat) : CallIs 0 [] [r0, r1] (.begin_ r0 r1)
  | c1 (b i : Nat) : CallIs 1 [b, i] [] (.boat b i)
  | c2 (b : Nat) : CallIs 2 [b] [] (.lift b)
  | c3 (k a c : Nat) : CallIs 3 [k, a, c] [] (.do_ k a c)
  | c4 (q : Nat) : CallIs 4 [q] [] (.feed q)
  | c5 (i : Nat) : CallIs 5 [i] [] (.pound i)
  | c6 (i : Nat) : CallIs 6 [i] [] (.lock i)
  | c7 (b : Nat) : CallIs 7 [b] [] (.where_ b)
  | c8 : CallIs 8 [] [] .sum
  | c9 : CallIs 9 [] [] .moves
  | c10 (h a b c d : Nat) : CallIs 10 [h, a, b, c, d] [] (.plan h a b c d)
  | c11 (r0 : List Nat) : CallIs 11 [] [r0] (.run r0)
def NLs (H : Hp) : List V → List (List Nat) → Prop := Paired fun v r => ∃ b, v = V.ref b ∧ H b = some (.lst (r.map nv)) ∧ r.length ≤ 100000
theorem step_sum (st : Wqateb.State) : Wqateb.step st .sum = (st, Wqateb.tells (Wqateb.int (CaCanal.total st.canal st.stand)) [st.gone, st.fed]) := rfl
theorem step_moves (st : Wqateb.State) : Wqateb.step st .moves = (st, Wqateb.tells (Wqateb.int ((CaCanal.onward st.canal st.stand).map fun (y : Op × Stand) => y.1).length) (Wqateb.opsRow ((CaCanal.onward st.canal st.stand).map fun (y : Op × Stand) => y.1))) := rfl
theorem ix0 {K : PySem.W.Frag} {H : Hp} {p : Addr} {ns : List V} (h : H p = some (.lst ns)) {j : Nat} {v : V} (e : ns[j]? = some v) {Q : VK} (q : Q v H) : rIxL K (.ref p) (.int (j : Int)) H Q := ⟨p, ns, (j : Int), v, rfl, rfl, SqL.of h, atI_nat e, q⟩
section
variable {P : Program} {w : World} {K : PySem.W.Frag} {mg : Str → Option Value} {base : Heap} {A : Ad}
def sp_told (A : Ad) : Sp := fun vs H Q E => ∃ (d nl : Addr) (p : Nat) (ns : List Nat) (cl : Wqateb.Call) (st : Wqateb.State), vs = [.ref d, nv p, .ref nl] ∧ H nl = some (.lst (ns.map nv)) ∧ CallIs p ns [] cl ∧ 5 ≤ p ∧ DkAt A H d st ∧ GoodS st ∧ Mt A d st (ansOf (Wqateb.step st cl)) H Q E
theorem gd_Desk_told (T : Txt K mg A) (U : TxE K mg A) : GMeth P w K mg base (L2.CX P w) 9 A.Desk "told" ["self", "place", "numbers"] (sp_told A) := by
  obtain ⟨f, fd, hm, F⟩ := T.t_Desk_told
  refine ⟨f, fd, hm, ?_, F.binds (fun _ _ _ _ _ _ us hl => match us, hl with | [_, _, _], _ => rfl)⟩
  refine F.okX sc_Desk_told (fun vs H Q E h => ?_) (fun cdv Ar outer s H vs Q E hr h => ⟨_, (pss_cons (ps_if (pt_cmpR op_eq (pv 1) pe_int (nomark _)) (pss_one (ps_ret (pe_gm (pv 0) T.cl_Desk (gd_Desk_pound T U) (hr.mono (by decide)) (passes_call (takes_of rfl rfl rfl rfl) (fun _ _ _ _ h => h)) (pa_cons (pe_ix ix_list (pv 2) pe_int (fun _ _ => rfl)) pa_nil)))) pss_nil)
    (pss_cons (ps_if (pt_cmpR op_eq (pv 1) pe_int (nomark _)) (pss_one (ps_ret (pe_gm (pv 0) T.cl_Desk (gd_Desk_lock T U) (hr.mono (by decide)) (passes_call (takes_of rfl rfl rfl rfl) (fun _ _ _ _ h => h)) (pa_cons (pe_ix ix_list (pv 2) pe_int (fun _ _ => rfl)) pa_nil)))) pss_nil)
    (pss_cons (ps_if (pt_cmpR op_eq (pv 1) pe_int (nomark _)) (pss_one (ps_ret (pe_gm (pv 0) T.cl_Desk (gd_Desk_where T U) (hr.mono (by decide)) (passes_call (takes_of rfl rfl rfl rfl) (fun _ _ _ _ h => h)) (pa_cons (pe_ix ix_list (pv 2) pe_int (fun _ _ => rfl)) pa_nil)))) pss_nil)
    (pss_cons (ps_if (pt_cmpR op_eq (pv 1) pe_int (nomark _)) (pss_one (ps_ret (pe_lstS (pa_cons (pe_g (gd_all_water T) (hr.mono (by decide)) rfl pass0 (pa_cons (pe_fld (pv 0) rfl) (pa_cons (pe_fld (pv 0) rfl) pa_nil))) (pa_cons (pe_fld (pv 0) rfl) (pa_cons (pe_fld (pv 0) rfl) pa_nil)))))) pss_nil)
    (pss_cons (ps_if (pt_cmpR op_eq (pv 1) pe_int (nomark _)) (pss_cons (ps_set (i := 3) sc_Desk_told.nd rfl (Or.inl rfl) (pe_g (gd_all_that_can T) (hr.mono (by decide)) rfl pass0 (pa_cons (pe_fld (pv 0) rfl) (pa_cons (pe_fld (pv 0) rfl) pa_nil))))
    (pss_one (ps_ret (pe_op op_catS (pe_lstS (pa_cons (pe_callB call_len_seq (by rfl) T.b_len PySem.boot_len (pa_cons (pv 3) pa_nil)) pa_nil)) (pe_g (gd_flattened T) (hr.mono (by decide)) rfl pass0 (pa_cons (pv 3) pa_nil)))))) pss_nil)
    (pss_one (ps_ret (pe_gm (pv 0) T.cl_Desk (gd_Desk_plan T U) (hr.mono (by decide)) (passes_call (takes_of rfl rfl rfl rfl) (fun _ _ _ _ h => h)) (pa_cons (pe_ix ix_list (pv 2) pe_int (fun _ _ => rfl)) (pa_cons (pe_slice sl_listS (pv 2) (po_some pe_int) po_none) pa_nil)))))))))), ?_⟩)
  · obtain ⟨d, nl, p, ns, cl, st, rfl, hn, hcl, h5, hd, hg, m⟩ := h; rfl
  obtain ⟨d, nl, p, ns, cl, st, rfl, hn, hcl, h5, hd, hg, m⟩ := h
  obtain ⟨dx, c, s, h0, hc, hs⟩ := hd.ex
  have hline : (1000000 : Nat) < sizeLine := by decide
  refine ⟨_, rfl, rfl, _, rfl, ite2 (fun e => ?_) fun e5 => ?_⟩
  · have e := nvI (m := 5) e
    subst e
    cases hcl with
    | c5 i => exact ⟨_, rfl, d, dx, _, rfl, h0, lD_pound, _, rfl, _, _, 0, _, rfl, rfl, SqL.of hn, atI_nat (j := 0) rfl, ⟨d, i, st, rfl, hd, hg, m⟩⟩
  refine ⟨_, rfl, rfl, _, rfl, ite2 (fun e => ?_) fun e6 => ?_⟩
  · have e := nvI (m := 6) e
    subst e
    cases hcl with
    | c6 i => exact ⟨_, rfl, d, dx, _, rfl, h0, lD_lock, _, rfl, _, _, 0, _, rfl, rfl, SqL.of hn, atI_nat (j := 0) rfl, ⟨d, i, st, rfl, hd, hg, m⟩⟩
  refine ⟨_, rfl, rfl, _, rfl, ite2 (fun e => ?_) fun e7 => ?_⟩
  · have e := nvI (m := 7) e
    subst e
    cases hcl with
    | c7 i => exact ⟨_, rfl, d, dx, _, rfl, h0, lD_where, _, rfl, _, _, 0, _, rfl, rfl, SqL.of hn, atI_nat (j := 0) rfl, ⟨d, i, st, rfl, hd, hg, m⟩⟩
  refine ⟨_, rfl, rfl, _, rfl, ite2 (fun e => ?_) fun e8 => ?_⟩
  · have e := nvI (m := 8) e
    subst e
    cases hcl with
    | c8 =>
      rw [step_sum] at m
      have hnp := hg.1.np
      have hnl := hg.1.nl
      have hgf := hg.2.f
      refine ⟨_, rfl, _, _, _, _, _, rfl, h0, T.cl_Desk, T.n_Desk_canal, lD_canal, _, rfl, _, _, _, _, _, rfl, h0, T.cl_Desk, T.n_Desk_stand, lD_stand, c, s, st.canal, st.stand, rfl, hc, hs, hgf.symm, by omega, fun H1 s1 => ?_⟩
      have h1 := s1 _ _ h0
      exact ⟨_, rfl, _, _, _, _, _, rfl, h1, T.cl_Desk, T.n_Desk_left, lD_left, _, rfl, _, _, _, _, _, rfl, h1, T.cl_Desk, T.n_Desk_come, lD_come, (by show 3 ≤ sizeLine; decide), fun r H2 n2 s2 e2 => m.ret ((But.refl H).same s1) (hd.same s1) n2 s2 e2 rfl⟩
  refine ⟨_, rfl, rfl, _, rfl, ite2 (fun e => ?_) fun e9 => ?_⟩
  · have e := nvI (m := 9) e
    subst e
    cases hcl with
    | c9 =>
      rw [step_moves] at m
      refine ⟨_, rfl, _, _, _, _, _, rfl, h0, T.cl_Desk, T.n_Desk_canal, lD_canal, _, rfl, _, _, _, _, _, rfl, h0, T.cl_Desk, T.n_Desk_stand, lD_stand, c, s, st.canal, st.stand, rfl, hc, hs, hg.1, hg.2, fun H1 L xs s1 n1 l1 z1 o1 => ?_⟩
      have lx := Paired.length o1
      refine ⟨_, rfl, L, _, rfl, .inl (SqL.of l1), (by show 1 ≤ sizeLine; decide), fun q1 H2 n2 s2 e2 => ?_⟩
      refine ⟨_, rfl, L, xs, _, rfl, s2 _ _ l1, o1.tq (Tq.of_same s2), by omega, fun H3 q2 s3 n3 e3 => ?_⟩
      refine ⟨q1, q2, _, _, rfl, rfl, s3 _ _ e2, e3, ?_, fun q3 H4 n4 s4 e4 => ?_⟩
      · rw [List.length_map, opsRow_len]
        show 1 + _ ≤ _
        omega
      · refine m.ret ((But.refl H).same ((s1.trans s2).trans s3)) (hd.same ((s1.trans s2).trans s3)) n4 s4 e4 ?_
        rw [lx]
        show [nv _] ++ (Wqateb.opsRow _).map nv = V.int _ :: (((Wqateb.opsRow _).map WqatebNeutral.int).map V.int)
        rw [List.map_map]
        rfl
  have e5 := nvN (m := 5) e5
  have e6 := nvN (m := 6) e6
  have e7 := nvN (m := 7) e7
  have e8 := nvN (m := 8) e8
  have e9 := nvN (m := 9) e9
  cases hcl with
  | c1 b i => omega
  | c2 b => omega
  | c3 k a c => omega
  | c4 q => omega
  | c5 i => exact absurd rfl e5
  | c6 i => exact absurd rfl e6
  | c7 i => exact absurd rfl e7
  | c8 => exact absurd rfl e8
  | c9 => exact absurd rfl e9
  | c10 how g0 g1 g2 g3 =>
    refine ⟨_, rfl, d, dx, _, rfl, h0, lD_plan, _, rfl, _, _, 0, _, rfl, rfl, SqL.of hn, atI_nat (j := 0) rfl, ⟨_, rfl, _, rfl, nl, _, rfl, SqL.of hn, fun wl H1 n1 s1 e1 => ?_⟩⟩
    refine ⟨d, wl, how, g0, g1, g2, g3, st, rfl, e1, hd.same s1, hg, ⟨fun H' r dk b n er => ?_, fun n hn' e H' dk b ne er => ?_⟩⟩
    · exact m.rt H' r dk (((But.refl H).same s1).trans b) (none_back ((But.refl H).same s1) (s1 _ _ h0) n) er
    · exact m.ex n hn' e H' dk (((But.refl H).same s1).trans b) (none_back ((But.refl H).same s1) (s1 _ _ h0) ne) er
theorem NLs.get {H : Hp} : ∀ {xs : List V} {l : List (List Nat)} {i : Nat} {r : List Nat}, NLs H xs l → l[i]? = some r → ∃ b : Addr, xs[i]? = some (.ref b) ∧ H b = some (.lst (r.map nv)) ∧ r.length ≤ 100000
  | _, _, i, x, .nil, h => by simp at h
  | _, _, 0, x, .cons (b := o) z t, h => by
    simp only [List.getElem?_cons_zero, Option.some.injEq] at h
    subst h
    obtain ⟨b, e, q⟩ := z
    exact ⟨b, congrArg some e, q⟩
  | _, _, i + 1, x, .cons z t, h => by
    simp only [List.getElem?_cons_succ] at h
    obtain ⟨b, e, q⟩ := NLs.get t h
    exact ⟨b, by rw [List.getElem?_cons_succ]; exact e, q⟩
def sp_done (A : Ad) : Sp := fun vs H Q E => ∃ (d nl rl : Addr) (p : Nat) (ns : List Nat) (rs : List (List Nat)) (ys : List V) (cl : Wqateb.Call) (st : Wqateb.State), vs = [.ref d, nv p, .ref nl, .ref rl] ∧ H nl = some (.lst (ns.map nv)) ∧ H rl = some (.lst ys) ∧ NLs H ys rs ∧
  CallIs p ns rs cl ∧ DkAt A H d st ∧ GoodS st ∧ Mt A d st (ansOf (Wqateb.step st cl)) H Q E
theorem gd_Desk_done (T : Txt K mg A) (U : TxE K mg A) : GMeth P w K mg base (L2.CX P w) 10 A.Desk "done" ["self", "place", "numbers", "rows"] (sp_done A) := by
  obtain ⟨f, fd, hm, F⟩ := T.t_Desk_done
  refine ⟨f, fd, hm, ?_, F.binds (fun _ _ _ _ _ _ us hl => match us, hl with | [_, _, _, _], _ => rfl)⟩
  refine F.okX sc_Desk_done (fun vs H Q E h => ?_) (fun cdv Ar outer s H vs Q E hr h => ⟨_, (pss_cons (ps_if (pt_cmpR op_eq (pv 1) pe_int (nomark _)) (pss_one (ps_ret (pe_gm (pv 0) T.cl_Desk (gd_Desk_begin T U) (hr.mono (by decide)) (passes_call (takes_of rfl rfl rfl rfl) (fun _ _ _ _ h => h)) (pa_cons (pe_ix ix_list (pv 3) pe_int (fun _ _ => rfl)) (pa_cons (pe_ix ix_list (pv 3) pe_int (fun _ _ => rfl)) pa_nil))))) pss_nil)
    (pss_cons (ps_if (pt_cmpR op_eq (pv 1) pe_int (nomark _)) (pss_one (ps_ret (pe_gm (pv 0) T.cl_Desk (gd_Desk_boat T U) (hr.mono (by decide)) (passes_call (takes_of rfl rfl rfl rfl) (fun _ _ _ _ h => h)) (pa_cons (pe_ix ix_list (pv 2) pe_int (fun _ _ => rfl)) (pa_cons (pe_ix ix_list (pv 2) pe_int (fun _ _ => rfl)) pa_nil))))) pss_nil)
    (pss_cons (ps_if (pt_cmpR op_eq (pv 1) pe_int (nomark _)) (pss_one (ps_ret (pe_gm (pv 0) T.cl_Desk (gd_Desk_lift T U) (hr.mono (by decide)) (passes_call (takes_of rfl rfl rfl rfl) (fun _ _ _ _ h => h)) (pa_cons (pe_ix ix_list (pv 2) pe_int (fun _ _ => rfl)) pa_nil)))) pss_nil)
    (pss_cons (ps_if (pt_cmpR op_eq (pv 1) pe_int (nomark _)) (pss_one (ps_ret (pe_gm (pv 0) T.cl_Desk (gd_Desk_do_one T U) (hr.mono (by decide)) (passes_call (takes_of rfl rfl rfl rfl) (fun _ _ _ _ h => h)) (pa_cons (pe_callTy call_tuple_ofS (by rfl) T.b_tuple (by decide +kernel) (pa_cons (pv 2) pa_nil)) pa_nil)))) pss_nil)
    (pss_cons (ps_if (pt_cmpR op_eq (pv 1) pe_int (nomark _)) (pss_one (ps_ret (pe_gm (pv 0) T.cl_Desk (gd_Desk_feed T U) (hr.mono (by decide)) (passes_call (takes_of rfl rfl rfl rfl) (fun _ _ _ _ h => h)) (pa_cons (pe_ix ix_list (pv 2) pe_int (fun _ _ => rfl)) pa_nil)))) pss_nil)
    (pss_cons (ps_if (pt_cmpR op_eq (pv 1) pe_int (nomark _)) (pss_one (ps_ret (pe_gm (pv 0) T.cl_Desk (gd_Desk_run T U) (hr.mono (by decide)) (passes_call (takes_of rfl rfl rfl rfl) (fun _ _ _ _ h => h)) (pa_cons (pe_ix ix_list (pv 3) pe_int (fun _ _ => rfl)) pa_nil)))) pss_nil)
    (pss_one (ps_ret (pe_gm (pv 0) T.cl_Desk (gd_Desk_told T U) (hr.mono (by decide)) (passes_call (takes_of rfl rfl rfl rfl) (fun _ _ _ _ h => h)) (pa_cons (pv 1) (pa_cons (pv 2) pa_nil))))))))))), ?_⟩)
  · obtain ⟨d, nl, rl, p, ns, rs, ys, cl, st, rfl, hn, hr0, hrs, hcl, hd, hg, m⟩ := h; rfl
  obtain ⟨d, nl, rl, p, ns, rs, ys, cl, st, rfl, hn, hr0, hrs, hcl, hd, hg, m⟩ := h
  obtain ⟨dx, c, s, h0, hc, hs⟩ := hd.ex
  refine ⟨_, rfl, rfl, _, rfl, ite2 (fun e => ?_) fun e0 => ?_⟩
  · have e := nvI (m := 0) e
    subst e
    cases hcl with
    | c0 r0 r1 =>
      obtain ⟨b0, y0, g0, z0⟩ := hrs.get (i := 0) rfl
      obtain ⟨b1, y1, g1, z1⟩ := hrs.get (i := 1) rfl
      exact ⟨_, rfl, d, dx, _, rfl, h0, lD_begin, _, rfl, _, _, 0, _, rfl, rfl, SqL.of hr0, atI_nat (j := 0) y0, ⟨_, rfl, _, _, 1, _, rfl, rfl, SqL.of hr0, atI_nat (j := 1) y1, ⟨d, b0, b1, r0, r1, st, rfl, g0, g1, z0, z1, hd, hg, m⟩⟩⟩
  refine ⟨_, rfl, rfl, _, rfl, ite2 (fun e => ?_) fun e1 => ?_⟩
  · have e := nvI (m := 1) e
    subst e
    cases hcl with
    | c1 b i => exact ⟨_, rfl, d, dx, _, rfl, h0, lD_boat, _, rfl, _, _, 0, _, rfl, rfl, SqL.of hn, atI_nat (j := 0) rfl, ⟨_, rfl, _, _, 1, _, rfl, rfl, SqL.of hn, atI_nat (j := 1) rfl, ⟨d, b, i, st, rfl, hd, hg, m⟩⟩⟩
  refine ⟨_, rfl, rfl, _, rfl, ite2 (fun e => ?_) fun e2 => ?_⟩
  · have e := nvI (m := 2) e
    subst e
    cases hcl with
    | c2 b => exact ⟨_, rfl, d, dx, _, rfl, h0, lD_lift, _, rfl, _, _, 0, _, rfl, rfl, SqL.of hn, atI_nat (j := 0) rfl, ⟨d, b, st, rfl, hd, hg, m⟩⟩
  refine ⟨_, rfl, rfl, _, rfl, ite2 (fun e => ?_) fun e3 => ?_⟩
  · have e := nvI (m := 3) e
    subst e
    cases hcl with
    | c3 kk a b =>
      refine ⟨_, rfl, d, dx, _, rfl, h0, lD_do_one, _, rfl, nl, _, rfl, SqL.of hn, fun o H1 n1 s1 e1 => ?_⟩
      refine ⟨d, o, (kk, a, b), st, rfl, .inl e1, hd.same s1, hg, ⟨fun H' r dk b n er => ?_, fun n hn' e H' dk b ne er => ?_⟩⟩
      · exact m.rt H' r dk (((But.refl H).same s1).trans b) (none_back ((But.refl H).same s1) (s1 _ _ h0) n) er
      · exact m.ex n hn' e H' dk (((But.refl H).same s1).trans b) (none_back ((But.refl H).same s1) (s1 _ _ h0) ne) er
  refine ⟨_, rfl, rfl, _, rfl, ite2 (fun e => ?_) fun e4 => ?_⟩
  · have e := nvI (m := 4) e
    subst e
    cases hcl with
    | c4 q => exact ⟨_, rfl, d, dx, _, rfl, h0, lD_feed, _, rfl, _, _, 0, _, rfl, rfl, SqL.of hn, atI_nat (j := 0) rfl, ⟨d, q, st, rfl, hd, hg, m⟩⟩
  refine ⟨_, rfl, rfl, _, rfl, ite2 (fun e => ?_) fun e11 => ?_⟩
  · have e := nvI (m := 11) e
    subst e
    cases hcl with
    | c11 r0 =>
      obtain ⟨b0, y0, g0, z0⟩ := hrs.get (i := 0) rfl
      exact ⟨_, rfl, d, dx, _, rfl, h0, lD_run, _, rfl, _, _, 0, _, rfl, rfl, SqL.of hr0, atI_nat (j := 0) y0, ⟨d, b0, r0, st, rfl, g0, z0, hd, hg, m⟩⟩
  have e0 := nvN (m := 0) e0
  have e1 := nvN (m := 1) e1
  have e2 := nvN (m := 2) e2
  have e3 := nvN (m := 3) e3
  have e4 := nvN (m := 4) e4
  have e11 := nvN (m := 11) e11
  have go : ∀ (hcl' : CallIs p ns [] cl), 5 ≤ p → sp_told A [.ref d, nv p, .ref nl] H Q E := fun hcl' h5 => ⟨d, nl, p, ns, cl, st, rfl, hn, hcl', h5, hd, hg, m⟩
  refine ⟨_, rfl, d, dx, _, rfl, h0, lD_told, _, rfl, _, rfl, ?_⟩
  cases hcl with
  | c0 r0 r1 => exact absurd rfl e0
  | c1 b i => exact absurd rfl e1
  | c2 b => exact absurd rfl e2
  | c3 k a c => exact absurd rfl e3
  | c4 q => exact absurd rfl e4
  | c5 i => exact go (.c5 i) (by decide)
  | c6 i => exact go (.c6 i) (by decide)
  | c7 i => exact go (.c7 i) (by decide)
  | c8 => exact go .c8 (by decide)
  | c9 => exact go .c9 (by decide)
  | c10 how g0 g1 g2 g3 => exact go (.c10 how g0 g1 g2 g3) (by decide)
  | c11 r0 => exact absurd rfl e11
def sp_answer (A : Ad) : Sp := fun vs H Q _ => ∃ (d nl rl : Addr) (p : Nat) (ns : List Nat) (rs : List (List Nat)) (ys : List V) (cl : Wqateb.Call) (st : Wqateb.State), vs = [.ref d, nv p, .ref nl, .ref rl] ∧ H nl = some (.lst (ns.map nv)) ∧ H rl = some (.lst ys) ∧ NLs H ys rs ∧
  CallIs p ns rs cl ∧ DkAt A H d st ∧ GoodS st ∧ ∀ (H' : Hp) (r : Addr), DkAt A H' d (Wqateb.step st cl).1 → But d H H' → H r = none → H' r = some (.lst ((ansOf (Wqateb.step st cl)).2.map V.int)) → Q (.ref r) H'
theorem gd_Desk_answer (T : Txt K mg A) (U : TxE K mg A) : GMeth P w K mg base CX0 11 A.Desk "answer" ["self", "place", "numbers", "rows"] (sp_answer A) := by
  obtain ⟨f, fd, hm, F⟩ := T.t_Desk_answer
  refine ⟨f, fd, hm, ?_, F.binds (fun _ _ _ _ _ _ us hl => match us, hl with | [_, _, _, _], _ => rfl)⟩
  refine F.ok sc_Desk_answer (fun vs H Q E h => ?_) (fun cdv Ar outer s H vs Q E hr h => ⟨_, (pss_one (ps_try_as (i := 4) (tb := fun W => tRet (tGMS A.Desk "done" (sp_done A) (WE W) (tVar 0) (tCons (tVar 1) (tCons (tVar 2) (tCons (tVar 3) tNil))))) (ts := fun a cls d => tRet (tLstS (tCons (tXf a cls d A.Refused "number" (tVar 4)) tNil))) (Wout := fun _ _ _ _ => False) rfl rfl sc_Desk_answer.nd rfl rfl ⟨rfl, by decide, Or.inl U.gR⟩ takes0
      (fun W pn xe tk _ => pss_one (ps_ret (by exact (pe_gmS (pv 0) T.cl_Desk (gd_Desk_done T U) (hr.mono (by decide)) (fun σ => passAt tk σ) (pa_cons (pv 1) (pa_cons (pv 2) (pa_cons (pv 3) pa_nil)))))))
      (fun a oe cls d pn hz hf => pss_one (ps_ret (by exact (pe_lstS (pa_cons (pe_xf U.xR U.nR hz hf (pv 4)) pa_nil))))))), ?_⟩)
  · obtain ⟨d, nl, rl, p, ns, rs, ys, cl, st, rfl, hn, hr0, hrs, hcl, hd, hg, q⟩ := h; rfl
  obtain ⟨d, nl, rl, p, ns, rs, ys, cl, st, rfl, hn, hr0, hrs, hcl, hd, hg, q⟩ := h
  obtain ⟨dx, c, s, h0, hc, hs⟩ := hd.ex
  refine ⟨_, rfl, d, dx, _, rfl, h0, lD_done, _, rfl, _, rfl, _, rfl, d, nl, rl, p, ns, rs, ys, cl, st, rfl, hn, hr0, hrs, hcl, hd, hg, ⟨fun H' r dk b n er => q H' r dk b n er, fun n hy e H' dk b ne er => ?_⟩⟩
  refine ⟨true, U.teR, fun _ a ha => ?_, fun z => Bool.noConfusion z⟩
  refine ⟨_, rfl, rfl, rfl, e, _, _, rfl, er, lk_here, (by show 1 ≤ sizeLine; decide), fun r H2 n2 s2 e2 => ?_⟩
  have h1 : (Wqateb.step st cl).1 = st := congrArg (fun z : Wqateb.State × List Int => z.1) hy
  obtain ⟨dx', c', s', k0, _⟩ := dk.ex
  refine q H2 r (by rw [h1]; exact dk.same s2) (b.same s2) (none_back b k0 n2) ?_
  rw [hy]
  exact e2
end
end Cn
end
section
set_option Elab.async false
set_option linter.all false
set_option maxRecDepth 100000
set_option maxHeartbeats 4000000
namespace Cn
open PySem PySem.Spec PyProof.Rows L2
open CaCanal (Canal Stand Op)
open Cm (GoodK Good getD_set done_good getD_mem poured_length poured_lev)
/-! ### pure: a good state stays good -/
theorem good_start : GoodS Wqateb.start := by
  refine ⟨⟨by decide, rfl, fun p hp => (by cases hp), fun p hp => (by cases hp), fun p hp => (by cases hp)⟩, ⟨rfl, rfl, rfl, fun i hi => absurd hi (Nat.not_lt_zero _), fun x hx => .inl ?_⟩⟩
  exact List.eq_of_mem_replicate hx
theorem good_boats {k : Canal} {t : Stand} (hg : Good k t) {b x : Nat} (hx : x = 0 ∨ (x % 2 = 1 ∧ x / 2 < k.pounds.length)) : Good k { t with boats := t.boats.set b x } :=
  ⟨hg.w, hg.f, by rw [List.length_set]; exact hg.b, hg.lev, fun y hy => by
    rcases List.mem_or_eq_of_mem_set hy with h | h
    · exact hg.at_ y h
    · subst h
      rcases hx with h | h
      · exact .inl h
      · exact .inr (.inl h)⟩
theorem good_begun {p l : List Op} {z : Canal × Stand} (h : Wqateb.canalOf p l = some z) : GoodK z.1 ∧ Good z.1 z.2 := by
  unfold Wqateb.canalOf at h
  split at h
  · rename_i hh
    obtain ⟨h1, h2, h3, h4, h5⟩ := hh
    have h2 : p.length ≤ 6 := h2
    rw [List.all_eq_true] at h4 h5
    cases h
    refine ⟨⟨by rw [List.length_map]; exact h2, by rw [List.length_map, List.length_map]; omega, fun q hq => ?_, fun q hq => ?_, fun q hq => ?_⟩, ⟨by rw [List.length_map, List.length_map], by rw [List.length_map, List.length_map], rfl, fun i hi => ?_, fun x hx => .inl (List.eq_of_mem_replicate hx)⟩⟩
    · obtain ⟨x, hx, rfl⟩ := List.mem_map.mp hq
      have := h4 x hx
      simp only [Bool.and_eq_true, decide_eq_true_eq] at this
      exact this.2.2
    · obtain ⟨x, hx, rfl⟩ := List.mem_map.mp hq
      have := h5 x hx
      simp only [Bool.and_eq_true, decide_eq_true_eq] at this
      exact ⟨this.1, this.2.1⟩
    · obtain ⟨x, hx, rfl⟩ := List.mem_map.mp hq
      have := h5 x hx
      simp only [Bool.and_eq_true, decide_eq_true_eq] at this
      exact ⟨this.2.2.1, this.2.2.2.1⟩
    · rw [List.length_map] at hi
      have := h4 p[i] (List.getElem_mem hi)
      simp only [Bool.and_eq_true, decide_eq_true_eq] at this
      unfold CaCanal.Canal.pound
      simp only [List.getD_eq_getElem?_getD, List.getElem?_map, List.getElem?_eq_getElem hi, Option.map_some, Option.getD_some]
      exact ⟨this.1, this.2.1⟩
  · cases h
theorem good_run : ∀ (o : List Op) (st : Wqateb.State), GoodS st → GoodS (Wqateb.runFrom st o).1
  | [], st, h => h
  | op :: o, st, h => by
    unfold Wqateb.runFrom
    cases hd : CaCanal.done st.canal st.stand op with
    | no y => exact h
    | so t n => exact good_run o _ (doneOf_good h op)
theorem step_good {st : Wqateb.State} (hg : GoodS st) (cl : Wqateb.Call) : GoodS (Wqateb.step st cl).1 := by
  cases cl with
  | begin_ ps ls =>
    rw [step_begin]
    unfold Wqateb.begun
    split
    · split
      · exact hg
      · rename_i z hz
        exact good_begun hz
    · exact hg
  | boat b i =>
    rw [step_boat]
    split
    · exact hg
    · split
      · exact hg
      · split
        · exact hg
        · rename_i h2 h3
          exact ⟨hg.1, good_boats hg.2 (.inr (by unfold CaCanal.inPound; omega))⟩
  | lift b =>
    rw [step_lift]
    split
    · exact hg
    · split
      · exact hg
      · exact ⟨hg.1, good_boats hg.2 (.inl rfl)⟩
  | do_ k a c => exact doneOf_good hg _
  | feed q =>
    rw [step_feed]
    split
    · exact hg
    · split
      · exact hg
      · refine ⟨hg.1, ⟨(poured_length _ _ _ _).trans hg.2.w, hg.2.f, hg.2.b, fun i hi => ?_, hg.2.at_⟩⟩
        exact poured_lev st.canal.pounds st.stand.water 0 q hg.2.w hg.2.lev i hi
  | pound i => exact hg
  | lock i => exact hg
  | where_ b => exact hg
  | sum => exact hg
  | moves => exact hg
  | plan h a b c d => exact hg
  | run l =>
    rw [step_run]
    split
    · exact hg
    · split
      · exact hg
      · exact good_run _ _ hg
/-! ### pure: what may be asked -/
def natI (l : List Nat) : List Int := l.map fun n : Nat => (n : Int)
theorem nat_back {z : Int} (h : WqatebNeutral.natural z 32 = true) : ((WqatebNeutral.nat z : Nat) : Int) = z := by
  unfold WqatebNeutral.natural at h
  rw [Bool.and_eq_true, decide_eq_true_eq] at h
  exact Int.toNat_of_nonneg h.1
theorem nats_back : ∀ {l : List Int}, (l.all fun (z : Int) => WqatebNeutral.natural z 32) = true → natI (WqatebNeutral.nats l) = l
  | [], _ => rfl
  | z :: l, h => by
    rw [List.all_cons, Bool.and_eq_true] at h
    have e1 := nat_back h.1
    have e2 := nats_back h.2
    show ((Int.toNat z : Nat) : Int) :: natI (WqatebNeutral.nats l) = _
    rw [e2]
    exact congrArg (· :: l) e1
theorem asked_call {c : List (List Int)} (h : WqatebNeutral.asked1 c = true) (hb : PyInside.call PyWqateb.bound c = true) :
    ∃ (p : Nat) (ns : List Nat) (rs : List (List Nat)) (cl : Wqateb.Call), c = ((p : Int) :: natI ns) :: rs.map natI ∧ CallIs p ns rs cl ∧ WqatebNeutral.callOf c = some cl ∧ ∀ r ∈ rs, r.length ≤ 100000 := by
  unfold WqatebNeutral.asked1 at h
  split at h
  · rename_i ps ls
    rw [Bool.and_eq_true] at h
    have hb' : PyInside.lists [(0, 4294967295, 0, 14000), (0, 4294967295, 0, 14000)] [ps, ls] = true := hb
    simp only [PyInside.lists, Bool.and_eq_true, decide_eq_true_eq] at hb'
    refine ⟨0, [], [WqatebNeutral.nats ps, WqatebNeutral.nats ls], _, ?_, .c0 _ _, rfl, fun r hr => ?_⟩
    · show _ = [[0], natI (WqatebNeutral.nats ps), natI (WqatebNeutral.nats ls)]
      rw [nats_back h.1, nats_back h.2]
    · have e : r = WqatebNeutral.nats ps ∨ r = WqatebNeutral.nats ls := by simpa using hr
      rcases e with e | e
      · rw [e]; show (ps.map Int.toNat).length ≤ _; rw [List.length_map]; omega
      · rw [e]; show (ls.map Int.toNat).length ≤ _; rw [List.length_map]; omega
  · rename_i b i
    rw [Bool.and_eq_true] at h
    refine ⟨1, [WqatebNeutral.nat b, WqatebNeutral.nat i], [], _, ?_, .c1 _ _, rfl, fun r hr => by cases hr⟩
    show _ = [[1, ((WqatebNeutral.nat b : Nat) : Int), ((WqatebNeutral.nat i : Nat) : Int)]]
    rw [nat_back h.1, nat_back h.2]
  · rename_i b
    refine ⟨2, [WqatebNeutral.nat b], [], _, ?_, .c2 _, rfl, fun r hr => by cases hr⟩
    show _ = [[2, ((WqatebNeutral.nat b : Nat) : Int)]]
    rw [nat_back h]
  · rename_i k a c
    rw [Bool.and_eq_true, Bool.and_eq_true] at h
    refine ⟨3, [WqatebNeutral.nat k, WqatebNeutral.nat a, WqatebNeutral.nat c], [], _, ?_, .c3 _ _ _, rfl, fun r hr => by cases hr⟩
    show _ = [[3, ((WqatebNeutral.nat k : Nat) : Int), ((WqatebNeutral.nat a : Nat) : Int), ((WqatebNeutral.nat c : Nat) : Int)]]
    rw [nat_back h.1.1, nat_back h.1.2, nat_back h.2]
  · rename_i b
    refine ⟨4, [WqatebNeutral.nat b], [], _, ?_, .c4 _, rfl, fun r hr => by cases hr⟩
    show _ = [[4, ((WqatebNeutral.nat b : Nat) : Int)]]
    rw [nat_back h]
  · rename_i b
    refine ⟨5, [WqatebNeutral.nat b], [], _, ?_, .c5 _, rfl, fun r hr => by cases hr⟩
    show _ = [[5, ((WqatebNeutral.nat b : Nat) : Int)]]
    rw [nat_back h]
  · rename_i b
    refine ⟨6, [WqatebNeutral.nat b], [], _, ?_, .c6 _, rfl, fun r hr => by cases hr⟩
    show _ = [[6, ((WqatebNeutral.nat b : Nat) : Int)]]
    rw [nat_back h]
  · rename_i b
    refine ⟨7, [WqatebNeutral.nat b], [], _, ?_, .c7 _, rfl, fun r hr => by cases hr⟩
    show _ = [[7, ((WqatebNeutral.nat b : Nat) : Int)]]
    rw [nat_back h]
  · exact ⟨8, [], [], _, rfl, .c8, rfl, fun r hr => by cases hr⟩
  · exact ⟨9, [], [], _, rfl, .c9, rfl, fun r hr => by cases hr⟩
  · rename_i x a b c d
    simp only [Bool.and_eq_true] at h
    refine ⟨10, [WqatebNeutral.nat x, WqatebNeutral.nat a, WqatebNeutral.nat b, WqatebNeutral.nat c, WqatebNeutral.nat d], [], _, ?_, .c10 _ _ _ _ _, rfl, fun r hr => by cases hr⟩
    show _ = [[10, ((WqatebNeutral.nat x : Nat) : Int), ((WqatebNeutral.nat a : Nat) : Int), ((WqatebNeutral.nat b : Nat) : Int), ((WqatebNeutral.nat c : Nat) : Int), ((WqatebNeutral.nat d : Nat) : Int)]]
    rw [nat_back h.1.1.1.1, nat_back h.1.1.1.2, nat_back h.1.1.2, nat_back h.1.2, nat_back h.2]
  · rename_i l
    have hb' : PyInside.lists [(0, 4294967295, 0, 29000)] [l] = true := hb
    simp only [PyInside.lists, Bool.and_eq_true, decide_eq_true_eq] at hb'
    refine ⟨11, [], [WqatebNeutral.nats l], _, ?_, .c11 _, rfl, fun r hr => ?_⟩
    · show _ = [[11], natI (WqatebNeutral.nats l)]
      rw [nats_back h]
    · rw [List.mem_singleton.mp hr]
      show (l.map Int.toNat).length ≤ _
      rw [List.length_map]
      omega
  · cases h
theorem whole_id (c : List (List Int)) : PyWqateb.whole c = c := by
  unfold PyWqateb.whole
  split <;> rfl
theorem shape_is {p : Nat} {ns : List Nat} {rs : List (List Nat)} {cl : Wqateb.Call} (h : CallIs p ns rs cl) : PyWqateb.shape (p : Int) = some (ns.length, rs.length) ∧ ([0, 2, 1, 3, 1, 1, 1, 1, 0, 0, 5, 0] : List Nat)[p]? = some ns.length ∧ ([2, 0, 0, 0, 0, 0, 0, 0, 0, 0, 0, 1] : List Nat)[p]? = some rs.length ∧ rs.length ≤ 2 := by
  cases h <;> exact ⟨rfl, rfl, rfl, by simp⟩
theorem rows_len : ∀ (k : Nat) {r : List Int} {xs : List (List Int)} {t : List Int}, PyFlat.rows k r = some (xs, t) → t.length ≤ r.length
  | 0, r, xs, t, h => by
    cases h
    exact Nat.le_refl _
  | k + 1, r, xs, t, h => by
    unfold PyFlat.rows at h
    split at h
    · cases h
    · rename_i x s hrow
      split at h
      · cases h
      · rename_i xs2 t2 hrows
        cases h
        obtain ⟨n, r', e1, e2, rfl, rfl⟩ := row_get hrow
        have := rows_len k hrows
        rw [List.length_drop] at this
        rw [e1, List.length_cons]
        omega
/-- one call read off -/
theorem calls_cons {f : Nat} {p : Int} {r : List Int} {cs : List (List (List Int))} (h : PyFlat.calls PyWqateb.shape f (p :: r) = some cs) : ∃ (f' n k : Nat) (xs : List (List Int)) (t : List Int) (cs' : List (List (List Int))), PyWqateb.shape p = some (n, k) ∧ n ≤ r.length ∧
    PyFlat.rows k (r.drop n) = some (xs, t) ∧ PyFlat.calls PyWqateb.shape f' t = some cs' ∧ cs = ((p :: r.take n) :: xs) :: cs' := by
  cases f with
  | zero => cases h
  | succ f =>
    unfold PyFlat.calls at h
    split at h
    · cases h
    · rename_i c t hc
      split at h
      · cases h
      · rename_i cs' hcs
        cases h
        cases hs : PyWqateb.shape p with
        | none =>
          unfold PyFlat.call at hc
          dsimp only at hc
          rw [hs] at hc
          cases hc
        | some nk =>
          obtain ⟨n, k⟩ := nk
          unfold PyFlat.call at hc
          dsimp only at hc
          rw [hs] at hc
          dsimp only at hc
          by_cases hlen : r.length < n
          · rw [if_pos hlen] at hc
            cases hc
          · rw [if_neg hlen] at hc
            cases hrows : PyFlat.rows k (r.drop n) with
            | none =>
              rw [hrows] at hc
              cases hc
            | some z =>
              obtain ⟨xs, t2⟩ := z
              rw [hrows] at hc
              cases hc
              exact ⟨f, n, k, xs, _, cs', rfl, by omega, hrows, hcs, rfl⟩
theorem calls_nil {f : Nat} {cs : List (List (List Int))} (h : PyFlat.calls PyWqateb.shape f [] = some cs) : cs = [] := by
  cases f <;> (cases h; rfl)
/-- what is asked, opened -/
theorem asked_open {l : List Int} (h : PyWqateb.answers_asked l = true) : ∃ raw, PyFlat.calls PyWqateb.shape l.length l = some raw ∧ (∀ c ∈ raw, WqatebNeutral.asked1 c = true ∧ PyInside.call PyWqateb.bound c = true) ∧
    PyWqateb.answers l = PyFlat.told (PyFlat.played WqatebNeutral.step WqatebNeutral.start raw) ∧ (PyWqateb.answers l).length ≤ 10000000 := by
  unfold PyWqateb.answers_asked at h
  split at h
  · cases h
  · rename_i raw hraw
    simp only [Bool.and_eq_true] at h
    obtain ⟨⟨⟨⟨h1, h2⟩, h3⟩, h4⟩, h5⟩ := h
    have em : raw.map PyWqateb.whole = raw := by
      refine (List.map_congr_left fun c _ => ?_).trans (List.map_id raw)
      exact whole_id c
    rw [em] at h4
    unfold WqatebNeutral.asked at h4
    simp only [Bool.and_eq_true] at h4
    unfold PyInside.calls at h3
    rw [List.all_eq_true] at h3
    have h6 := h4.1.1.1
    rw [List.all_eq_true] at h6
    refine ⟨raw, hraw, fun c hc => ⟨h6 c hc, h3 c hc⟩, ?_, of_decide_eq_true h5⟩
    unfold PyWqateb.answers PyWqateb.calls
    rw [hraw]
    dsimp only
    rw [em]
theorem told_cons (a : List Int) (l : List (List Int)) : PyFlat.told (a :: l) = ((a.length : Int) :: a) ++ PyFlat.told l := rfl
theorem played_cons (st : Wqateb.State) (c : List (List Int)) (r : List (List (List Int))) : PyFlat.played WqatebNeutral.step st (c :: r) = (WqatebNeutral.step st c).2 :: PyFlat.played WqatebNeutral.step (WqatebNeutral.step st c).1 r := rfl
theorem step_is {c : List (List Int)} {cl : Wqateb.Call} (h : WqatebNeutral.callOf c = some cl) (st : Wqateb.State) : WqatebNeutral.step st c = ansOf (Wqateb.step st cl) := by
  unfold WqatebNeutral.step
  rw [h]
  rfl
end Cn
end
section
set_option Elab.async false
set_option linter.all false
set_option maxRecDepth 100000
set_option maxHeartbeats 4000000
namespace Cn
open PySem PySem.Spec PyProof.Rows L2
open CaCanal (Canal Stand Op)
open Cm (GoodK Good getD_set done_good)
/-- a tuple of the top -/
theorem pe_tab {X : Cx} {x : Str} {xs : List V} {pos : Pos} (hg : Gl X x) (h : ∃ a, X.mg x = some (.ref a) ∧ ∀ H, SqT X.K H a xs) (hd : (x == ("__debug__" : Str)) = false := by decide) : PE X (.Name x pos) (fun _ H Q => ∀ a, SqT X.K H a xs → Q (.ref a) H) := by
  obtain ⟨a, e, hT⟩ := h
  exact ⟨fun pins s σ H Q I q => (pe_glob (v := V.ref a) hg e rfl hd).run pins s σ H Q I (q a (hT H))⟩
/-- a list that nothing else takes for its own: another view of it -/
def lstO (p : Addr) (xs : List V) : HO := .ext fun h => xs.length ≤ sizeLine ∧ ∃ (its : List Value) (n : Nat), Vals xs its ∧ h.get? p = some { cls := .type "list", data := .seq its.toArray n }
theorem lstO_ne {p : Addr} {xs : List V} {o : HO} (h : ∀ φ, o ≠ .ext φ) : o ≠ lstO p xs := h _
def tHide (te : TE) : TE := fun σ H Q => te σ H fun x H1 => ∃ (p : Addr) (xs : List V), H1 p = some (.lst xs) ∧ Q x (upd H1 p (lstO p xs))
def tShow (te : TE) : TE := fun σ H Q => te σ H fun x H1 => ∃ (p : Addr) (xs : List V), H1 p = some (lstO p xs) ∧ Q x (upd H1 p (.lst xs))
section
variable {X : Cx} {e : Expr} {te : TE}
theorem pe_hide (he : PE X e te) : PE X e (tHide te) := ⟨fun pins s σ H Q I h => thn (he.run pins s σ H _ I h) fun v s1 ⟨x, H1, I1, r1, p, xs, hp, q⟩ => by
  obtain ⟨hz, its, n, rv, e1⟩ := (show ObjOk X.prog X.w H1 s1.heap p (.lst xs) from I1.hok p _ hp)
  refine ⟨x, _, I1.write (t' := s1.toks) (x := p) (e := p) (o := lstO p xs) (by rw [hp]; trivial) (.inl rfl) (fun _ _ _ z => z) ⟨_, e1⟩ ⟨⟨hz, its, n, rv, e1⟩, ⟨_, e1⟩, fun h1 h2 z k => ?_⟩, r1, q⟩
  obtain ⟨a1, b1, c1, d1, e2⟩ := z
  exact ⟨a1, b1, c1, d1, k _ e2⟩⟩
theorem pe_show (he : PE X e te) : PE X e (tShow te) := ⟨fun pins s σ H Q I h => thn (he.run pins s σ H _ I h) fun v s1 ⟨x, H1, I1, r1, p, xs, hp, q⟩ => by
  have z : ObjOk X.prog X.w H1 s1.heap p (lstO p xs) := I1.hok p _ hp
  obtain ⟨⟨hz, its, n, rv, e1⟩, _⟩ := z
  exact ⟨x, _, I1.write (t' := s1.toks) (x := p) (e := p) (o := .lst xs) (by rw [hp]; trivial) (.inl rfl) (fun _ _ _ z => z) ⟨_, e1⟩ ⟨hz, its, n, rv, e1⟩, r1, q⟩⟩
end
/-- what is hidden is none of the desk's -/
theorem dk_hidden {A : Ad} {H : Hp} {d p : Addr} {st : Wqateb.State} {xs : List V} (h : DkAt A H d st) (hp : H p = some (lstO p xs)) (u : HO) : DkAt A (upd H p u) d st := by
  obtain ⟨dx, c, s, h0, hc, hs⟩ := h.ex
  obtain ⟨dk1, a1, a2, a3, a4, k0, k1, k2, k3, k4⟩ := hc.ex
  have nn : ∀ (b : Addr) (o : HO), H b = some o → (∀ φ, o ≠ .ext φ) → upd H p u b = some o := fun b o e n => by
    rw [upd_ne (ne_of e hp (lstO_ne n))]
    exact e
  have tq : Tq H (upd H p u) := Tq.upd hp fun z => z
  exact ⟨dx, c, s, nn _ _ h0 (by intro φ z; cases z), ⟨dk1, a1, a2, a3, a4, nn _ _ k0 (by intro φ z; cases z), nn _ _ k1 (by intro φ z; cases z), nn _ _ k2 (by intro φ z; cases z), nn _ _ k3 (by intro φ z; cases z), nn _ _ k4 (by intro φ z; cases z)⟩, hs.tq tq⟩
theorem same_upd {H H' : Hp} {p : Addr} {u : HO} (s : Same H H') : Same (upd H p u) (upd H' p u) := fun b o e => by
  by_cases h : b = p
  · rw [h, upd_same] at e
    rw [h, upd_same]
    exact e
  · rw [upd_ne h] at e
    rw [upd_ne h]
    exact s b o e
theorem nls_of {H : Hp} : ∀ {ys : List V} {rs : List (List Nat)}, LIs H ys (rs.map natI) → (∀ r ∈ rs, r.length ≤ 100000) → NLs H ys rs
  | _, [], h, _ => by cases h; exact .nil
  | _, r :: rs, h, hl => by
    cases h with
    | cons z t =>
      obtain ⟨b, e, g⟩ := z
      refine .cons ⟨b, e, ?_, hl r List.mem_cons_self⟩ (nls_of t fun r hr => hl r (List.mem_cons_of_mem _ hr))
      unfold natI at g
      rw [List.map_map] at g
      exact g
theorem gs {α : Type} {l : List α} {i : Nat} {x : α} (h : l[i]? = some x) {β : Type} (f : α → β) : (l.map f)[i]? = some (f x) := by rw [List.getElem?_map, h]; rfl
section
variable {P : Program} {w : World} {K : PySem.W.Frag} {mg : Str → Option Value} {base : Heap} {A : Ad}
def spAns (K : PySem.W.Frag) : Sp := fun vs H Q _ => ∃ (a : Addr) (ns : List Int), vs = [.ref a] ∧ SqL K H a (ns.map V.int) ∧ PyWqateb.answers_asked ns = true ∧ ∀ (H' : Hp) (p : Addr), H' p = some (.lst ((PyWqateb.answers ns).map V.int)) → Q (.ref p) H'
theorem ok_answers {f : Addr} {fd : FuncData} (F : Fun K "answers" "answers" s_answers f fd) (T : Txt K mg A) (U : TxE K mg A) : FnOk P w K mg base CX0 12 f fd ["calls"] (spAns K) := by
  refine F.ok sc_answers (fun vs H Q E h => ?_) (fun cdv Ar outer s H vs Q E hr h => ⟨_, (pss_cons (ps_set (i := 1) sc_answers.nd rfl (Or.inl rfl) (pe_gn0 (gd_Desk___init__ T) (hr.mono (by decide)) rfl pass0))
    (pss_cons (ps_set (i := 2) sc_answers.nd rfl (Or.inl rfl) (pe_lstS pa_nil))
    (pss_cons (ps_set (i := 3) sc_answers.nd rfl (Or.inl rfl) pe_int)
    (pss_cons (ps_while PassesOwn.never (pt_cmpR op_lt (pv 3) (pe_callB call_len_seq (by rfl) T.b_len PySem.boot_len (pa_cons (pv 0) pa_nil)) (nomark _)) (pss_cons (ps_set (i := 4) sc_answers.nd rfl (Or.inl rfl) (pe_ix ix_list (pv 0) (pv 3) (fun _ _ => rfl)))
    (pss_cons (ps_set (i := 5) sc_answers.nd rfl (Or.inl rfl) (pe_op op_add (pe_op op_add (pv 3) pe_int) (pe_ix ix_tup (pe_tab rfl U.num) (pv 4) (fun _ _ => rfl))))
    (pss_cons (ps_set (i := 6) sc_answers.nd rfl (Or.inl rfl) (pe_slice sl_listS (pv 0) (po_some (pe_op op_add (pv 3) pe_int)) (po_some (pv 5))))
    (pss_cons (ps_asg (pe_g (gd_rows_at T) (hr.mono (by decide)) rfl pass0 (pa_cons (pe_hide (pv 0)) (pa_cons (pv 5) (pa_cons (pe_ix ix_tup (pe_tab rfl U.row) (pv 4) (fun _ _ => rfl)) pa_nil)))) (pg_tup rfl (pgs_cons (pg_name (i := 7) sc_answers.nd rfl (Or.inl rfl)) (pgs_cons (pg_name (i := 3) sc_answers.nd rfl (Or.inl rfl)) pgs_nil))))
    (pss_cons (ps_set (i := 8) sc_answers.nd rfl (Or.inl rfl) (pe_gm (pv 1) T.cl_Desk (gd_Desk_answer T U) (hr.mono (by decide)) pass0 (pa_cons (pv 4) (pa_cons (pv 6) (pa_cons (pv 7) pa_nil)))))
    (pss_cons (ps_expr (pe_bm PySem.F.plainAttrs_list PySem.F.slot_list_append PySem.F.type_list_append mt_append (pe_show (pv 2)) (pa_cons (pe_callB call_len_seq (by rfl) T.b_len PySem.boot_len (pa_cons (pv 8) pa_nil)) pa_nil)))
    (pss_one (ps_expr (pe_bm PySem.F.plainAttrs_list PySem.F.slot_list_extend PySem.F.type_list_extend mt_extend (pv 2) (pa_cons (pv 8) pa_nil)))))))))))
    (pss_one (ps_ret (pv 2))))))), ?_⟩)
  · obtain ⟨a, ns, rfl, ha, hask, q⟩ := h; rfl
  obtain ⟨a, ns, rfl, ha, hask, q⟩ := h
  have hline : (10000010 : Nat) < sizeLine := by decide
  obtain ⟨raw, hraw, hok, hans, hlen⟩ := asked_open hask
  refine fun d dd nd ndd hdd => ⟨d, dd, rfl, upd_same, fun H1 hd1 b1 => ⟨rfl, ?_⟩⟩
  have s1 : Same H H1 := made_same nd ndd b1
  refine ⟨Nat.zero_le _, fun fl H2 n2 s2 f2 => ?_⟩
  have nfd : H fl = none := same_none s1 n2
  refine ⟨fun m σ H' => ∃ (at_ : Nat) (st : Wqateb.State) (acc : List Int) (csr : List (List (List Int))) (f : Nat) (v4 v5 v6 v7 v8 : Option V), σ = [some (.ref a), some (.ref d), some (.ref fl), some (nv at_), v4, v5, v6, v7, v8] ∧ m = ns.length - at_ ∧ at_ ≤ ns.length ∧ Same H H' ∧
      (∀ u, DkAt A (upd H' fl u) d st) ∧ GoodS st ∧ H' fl = some (.lst (acc.map V.int)) ∧ PyFlat.calls PyWqateb.shape f (ns.drop at_) = some csr ∧ (∀ c ∈ csr, WqatebNeutral.asked1 c = true ∧ PyInside.call PyWqateb.bound c = true) ∧ acc ++ PyFlat.told (PyFlat.played WqatebNeutral.step st csr) = PyWqateb.answers ns,
    ⟨_, 0, Wqateb.start, [], raw, _, none, none, none, none, none, rfl, rfl, Nat.zero_le _, s1.trans s2, (fun u => hd1.same (same_mut s2 n2)), good_start, f2, hraw, hok, hans.symm⟩, ?_⟩
  rintro m σ H3 ⟨at_, st, acc, csr, f, v4, v5, v6, v7, v8, rfl, rfl, hat, s3, hd, hg, hfl, hcs, hcok, hacc⟩
  have ha3 : SqL K H3 a (ns.map V.int) := s3.seq ha
  refine ⟨_, rfl, _, rfl, _, _, rfl, .inl ha3, _, _, rfl, rfl, _, rfl, ite2 (fun e => ?_) fun e => ?_⟩
  · have e := of_decide_eq_true e
    rw [List.length_map] at e
    have hlt : at_ < ns.length := by omega
    refine ⟨fun σ' H' => ∃ m', m' < ns.length - at_ ∧ ∃ (at_ : Nat) (st : Wqateb.State) (acc : List Int) (csr : List (List (List Int))) (f : Nat) (v4 v5 v6 v7 v8 : Option V), σ' = [some (.ref a), some (.ref d), some (.ref fl), some (nv at_), v4, v5, v6, v7, v8] ∧ m' = ns.length - at_ ∧ at_ ≤ ns.length ∧ Same H H' ∧
      (∀ u, DkAt A (upd H' fl u) d st) ∧ GoodS st ∧ H' fl = some (.lst (acc.map V.int)) ∧ PyFlat.calls PyWqateb.shape f (ns.drop at_) = some csr ∧ (∀ c ∈ csr, WqatebNeutral.asked1 c = true ∧ PyInside.call PyWqateb.bound c = true) ∧ acc ++ PyFlat.told (PyFlat.played WqatebNeutral.step st csr) = PyWqateb.answers ns, fun _ _ z => z, ?_⟩
    obtain ⟨p, r, hpr⟩ : ∃ p r, ns.drop at_ = p :: r := ⟨ns[at_], ns.drop (at_ + 1), List.drop_eq_getElem_cons hlt⟩
    obtain ⟨g1, g2, _⟩ := drop_cons hpr
    rw [hpr] at hcs
    obtain ⟨f', n, k, xs, t, cs', hs, hn, hrows, hcs', rfl⟩ := calls_cons hcs
    obtain ⟨q1, q2⟩ := hcok _ List.mem_cons_self
    obtain ⟨p', nums, rs, cl, ec, hcl, hcallOf, hrl⟩ := asked_call q1 q2
    injection ec with ec1 ec2
    injection ec1 with ec3 ec4
    subst ec3
    obtain ⟨sh1, sh2, sh3, sh4⟩ := shape_is hcl
    rw [sh1] at hs
    cases hs
    have lr : r.length = ns.length - (at_ + 1) := by rw [← g2, List.length_drop]
    refine ⟨_, rfl, _, rfl, a, _, _, _, rfl, rfl, ha3, atI_nat (j := at_) (gs g1 V.int), ?_⟩
    refine ⟨_, rfl, _, _, rfl, rfl, fun ta hta => ⟨_, rfl, ta, _, _, _, rfl, rfl, hta, atI_nat (j := p') (gs sh2 nv), _, _, rfl, rfl, ?_⟩⟩
    have e5 : (at_ : Int) + 1 + (nums.length : Int) = ((at_ + 1 + nums.length : Nat) : Int) := by omega
    dsimp only
    rw [e5]
    have ecut : cutV (ns.map V.int) (some ((at_ + 1 : Nat) : Int)) (some ((at_ + 1 + nums.length : Nat) : Int)) = nums.map nv := by
      unfold cutV
      rw [HT.sIx_nat, HT.sIx_nat, List.length_map, Nat.min_eq_left (by omega), Nat.min_eq_left (by omega), Nat.add_sub_cancel_left, ← List.map_drop, ← List.map_take, g2, ec4]
      unfold natI
      rw [List.map_map]
      rfl
    refine ⟨_, rfl, _, rfl, _, _, rfl, rfl, _, rfl, _, rfl, _, rfl, a, _, rfl, ha3, fun nl H4 n4 s4 e4 => ?_⟩
    have e4 : H4 nl = some (.lst (cutV (ns.map V.int) (some ((at_ + 1 : Nat) : Int)) (some ((at_ + 1 + nums.length : Nat) : Int)))) := e4
    rw [ecut] at e4
    have hrows' : PyFlat.rows rs.length (ns.drop (at_ + 1 + nums.length)) = some (xs, t) := by
      rw [← List.drop_drop, g2]
      exact hrows
    have s34 : Same H3 H4 := s4
    have fl4 := s4 _ _ hfl
    have hdu : ∀ u, DkAt A (upd H4 fl u) d st := fun u => (hd u).same (same_upd s4)
    have nlfl : nl ≠ fl := (ne_of_none hfl n4).symm
    have sx : Same H (upd H4 fl (lstO fl (acc.map V.int))) := same_mut (s3.trans s4) nfd
    refine ⟨_, rfl, fl, _, fl4, ?_⟩
    generalize hG5 : upd H4 fl (lstO fl (acc.map V.int)) = H4x
    rw [hG5] at sx
    have hd4 : DkAt A H4x d st := by rw [← hG5]; exact hdu _
    have fl4x : H4x fl = some (lstO fl (acc.map V.int)) := by rw [← hG5]; exact upd_same
    have e4x : H4x nl = some (.lst (nums.map nv)) := by rw [← hG5, upd_ne nlfl]; exact e4
    obtain ⟨dx, c, s, h0, _⟩ := hd4.ex
    have nfl : fl ≠ d := fun z => by
      rw [z, h0] at fl4x
      have z2 := Option.some.inj fl4x
      exact absurd z2 (lstO_ne (by intro φ z; cases z))
    refine ⟨_, rfl, fun tb htb => ⟨_, rfl, tb, _, _, _, rfl, rfl, htb, atI_nat (j := p') (gs sh3 nv), a, at_ + 1 + nums.length, rs.length, ns, xs, t, rfl, sx.seq ha, sh4, by omega, hrows', fun H5 tp rl ys at2 s5 r5 n5 f5 li5 hd5 hat5 => ?_⟩⟩
    refine ⟨tp, _, rfl, SqT.rd r5, rfl, _, _, rfl, _, _, rfl, rfl, ?_⟩
    have hd5' : DkAt A H5 d st := hd4.same s5
    have fl5x : H5 fl = some (lstO fl (acc.map V.int)) := s5 _ _ fl4x
    have h05 := s5 _ _ h0
    have nls : NLs H5 ys rs := nls_of (H := H5) (by rw [← ec2]; exact li5) hrl
    refine ⟨_, rfl, ?_⟩
    refine ⟨d, dx, _, rfl, h05, lD_answer, _, rfl, _, rfl, _, rfl, d, nl, rl, p', nums, rs, ys, cl, st, rfl, s5 _ _ e4x, f5, nls, hcl, hd5', hg, fun H6 ra hd6 b6 n6 e6 => ?_⟩
    have f6 : H6 fl = some (lstO fl (acc.map V.int)) := b6 _ _ fl5x nfl
    have s06 : Same H H6 := fun b o eb => b6 b o (s5 _ _ (sx _ _ eb)) (ne_of_none eb nd)
    rw [played_cons, told_cons, step_is hcallOf] at hacc
    generalize hy : ansOf (Wqateb.step st cl) = y at hacc e6
    have hy1 : (Wqateb.step st cl).1 = y.1 := by rw [← hy]; rfl
    rw [hy1] at hd6
    have nra : ra ≠ fl := fun z => by
      rw [z, fl5x] at n6
      cases n6
    have hl1 : acc.length + 1 + y.2.length ≤ 10000000 := by
      have := congrArg List.length hacc
      rw [List.length_append, List.length_append, List.length_cons] at this
      omega
    refine ⟨_, rfl, fl, _, f6, ?_⟩
    refine ⟨.inl ⟨rfl, acc.map V.int, SqL.of upd_same⟩, _, rfl, ra, y.2.map V.int, rfl, .inl (SqL.of (by rw [upd_ne nra]; exact e6)), fl, acc.map V.int, V.int ((y.2.map V.int).length : Int), rfl, rfl, upd_same, by rw [List.length_map]; omega, ?_⟩
    rw [upd_upd]
    generalize hG : upd H6 fl (.lst (acc.map V.int ++ [V.int ((y.2.map V.int).length : Int)])) = H7
    have f7 : H7 fl = some (.lst (acc.map V.int ++ [V.int ((y.2.map V.int).length : Int)])) := by rw [← hG]; exact upd_same
    have e7 : H7 ra = some (.lst (y.2.map V.int)) := by rw [← hG, upd_ne nra]; exact e6
    refine ⟨_, rfl, .inl ⟨rfl, _, SqL.of f7⟩, _, rfl, fl, ra, _, _, rfl, rfl, f7, e7, by rw [List.length_append, List.length_map, List.length_map]; show acc.length + 1 + y.2.length ≤ sizeLine; omega, ?_⟩
    rw [← hG, upd_upd]
    have lt2 : t.length ≤ r.length - nums.length := by
      have := rows_len rs.length hrows
      rw [List.length_drop] at this
      exact this
    have lat2 : t.length = ns.length - at2 := by rw [← hd5, List.length_drop]
    have hd7 : ∀ u, DkAt A (upd (upd H6 fl (.lst (acc.map V.int ++ [V.int ((y.2.map V.int).length : Int)] ++ y.2.map V.int))) fl u) d y.1 := fun u => by
      rw [upd_upd]
      exact dk_hidden hd6 f6 u
    refine ⟨_, ?_, at2, y.1, acc ++ ((y.2.length : Int) :: y.2), cs', f', _, _, _, _, _, rfl, rfl, hat5, same_mut s06 nfd, hd7, by rw [← hy1]; exact step_good hg cl, ?_, by rw [hd5]; exact hcs', fun c hc => hcok c (List.mem_cons_of_mem _ hc), by rw [List.append_assoc]; exact hacc⟩
    · omega
    · rw [upd_same, List.map_append, List.map_cons, List.length_map, List.append_assoc]
      rfl
  · have e := b_f e
    rw [List.length_map] at e
    have : ns.drop at_ = [] := List.drop_eq_nil_of_le (by omega)
    rw [this] at hcs
    rw [calls_nil hcs] at hacc
    have hacc' : acc = PyWqateb.answers ns := by rw [← hacc]; exact (List.append_nil acc).symm
    rw [hacc'] at hfl
    exact ⟨_, rfl, q H3 fl hfl⟩
end
end Cn
end
set_option Elab.async false
set_option linter.all false
set_option maxRecDepth 100000
set_option maxHeartbeats 0
namespace Cn
open PySem PySem.Spec PyProof.Rows L2
section
variable {K : PySem.W.Frag} {h : Heap} {mg : Str → Option Value} {x q m : Str} {st : Stmt} {C f : Addr} {oc : Value} {od an : Option Addr} {sl : Array (Option Value)} {kV dc pm cd ct : Value}
theorem con_mk {i : Int} {t : Nat} (X : K.In h) (G : h.Ns mainGlobals mg) (e : PySem.W.nsIn K mainGlobals x = some (some (.int i t))) : ∃ t, mg x = some (.int i t) := ⟨t, PySem.W.mg_of X G e⟩
theorem tdef_mk (X : K.In h) (G : h.Ns mainGlobals mg) (a : PySem.W.nsIn K mainGlobals x = some (some (.ref f))) (l : K.lookup f = some ⟨oc, od, .func (PySem.W.fnOf x x (defArgs st) (defBody st) (defScope st) .none kV dc pm an cd ct), sl⟩) (c : PySem.W.codeIn K cd x = true) (k : PySem.W.keepIn K (.ref f) = true) : TDef K mg x st :=
  ⟨f, _, PySem.W.mg_of X G a, fun_mk (st := st) l c k⟩
theorem tmeth_mk (a : PySem.W.findIn K (.ref C) m = some (some (.ref f))) (i : PySem.W.isFn K (.ref f) = true) (l : K.lookup f = some ⟨oc, od, .func (PySem.W.fnOf m q (defArgs st) (defBody st) (defScope st) .none kV dc pm an cd ct), sl⟩) (c : PySem.W.codeIn K cd q = true) (k : PySem.W.keepIn K (.ref f) = true) : TMeth K C m q st :=
  ⟨f, _, ⟨a, i, k⟩, fun_mk (st := st) l c k⟩
theorem tinit_mk (X : K.In h) (G : h.Ns mainGlobals mg) (aC : PySem.W.nsIn K mainGlobals x = some (some (.ref C))) (mk : PySem.W.makesIn K C = true) (kC : PySem.W.keepIn K (.ref C) = true)
    (a : PySem.W.findIn K (.ref C) "__init__" = some (some (.ref f))) (i : PySem.W.isFn K (.ref f) = true) (l : K.lookup f = some ⟨oc, od, .func (PySem.W.fnOf "__init__" q (defArgs st) (defBody st) (defScope st) .none kV dc pm an cd ct), sl⟩) (c : PySem.W.codeIn K cd q = true) (k : PySem.W.keepIn K (.ref f) = true) : TInit K mg x C q st :=
  ⟨f, _, PySem.W.mg_of X G aC, ⟨mk, a, i, kC⟩, fun_mk (st := st) l c k⟩
theorem xinit_mk (a : PySem.W.findIn K (.ref C) "__init__" = some (some (.ref f))) (t : PySem.W.typeIn K (.ref f) = some (.type "function")) (l : K.lookup f = some ⟨oc, od, .func (PySem.W.fnOf "__init__" q (defArgs st) (defBody st) (defScope st) .none kV dc pm an cd ct), sl⟩) (c : PySem.W.codeIn K cd q = true) (k : PySem.W.keepIn K (.ref f) = true) :
    ∃ f fd, PySem.W.findIn K (.ref C) "__init__" = some (some (.ref f)) ∧ PySem.W.typeIn K (.ref f) = some (.type "function") ∧ L2.Fun K "__init__" q st f fd := ⟨f, _, a, t, fun_mk (st := st) l c k⟩
theorem oexc_mk {nm qn : Str} {N : Addr} {bs : List Value} {sn : List Str} {sub : List Value} {ab : Bool} {col : Option Bool} {dd : Option Addr} {m0 m1 m2 m3 m5 : Option Value}
    (xL : K.lookup C = some (excClassObj nm qn C N bs [.type "ValueError", .type "Exception", .type "BaseException", .type "object"] true sn sub ab col dd m0 m1 m2 m3 m5 "ValueError.__new__"))
    (sa : PySem.W.findIn K (.ref C) "__setattr__" = some (some (.builtin "object.__setattr__"))) (eC : PySem.W.subIn K (.ref C) (.type "BaseException") = some true) (tC : PySem.W.typeIn K (.ref C) = some (.type "type")) (kC : PySem.W.keepIn K (.ref C) = true) : OexC K C :=
  ⟨⟨nm, qn, N, bs, _, sn, sub, ab, col, dd, m0, m1, m2, m3, m5, xL, by decide +kernel⟩, sa, eC, tC, kC⟩
/-- an exception of the class at S is what «except S» names -/
theorem exm_self {S : Addr} (h1 : PySem.W.subIn K (.ref S) (.type "BaseException") = some true) (h2 : PySem.W.isClsIn K S = true) (h3 : PySem.W.typeIn K (.ref S) = some (.type "type")) (h4 : PySem.W.subIn K (.ref S) (.ref S) = some true) :
    PySem.W.exmOne K (.ref S) (.ref S) = some true := by
  have h2' : (PySem.W.clsIn K S).isSome = true := h2
  have e1 : (PySem.W.subIn K (.ref S) (.type "BaseException") == some true) = true := by rw [h1]; rfl
  have e2 : ((PySem.W.clsIn K S).isSome && PySem.W.typeIn K (.ref S) == some (.type "type")) = true := by rw [h2', h3]; rfl
  show (if (PySem.W.subIn K (.ref S) (.type "BaseException") == some true) = true then (if ((PySem.W.clsIn K S).isSome && PySem.W.typeIn K (.ref S) == some (.type "type")) = true then PySem.W.subIn K (.ref S) (.ref S) else none) else none) = some true
  rw [if_pos e1, if_pos e2]
  exact h4
theorem rel_nv {n t : Nat} : RelV (nv n) (.int n t) := ⟨t, rfl⟩
theorem tup_mk {a : Addr} {its : Array Value} {n : Nat} {xs : List V} (X : K.In h) (G : h.Ns mainGlobals mg) (e : PySem.W.nsIn K mainGlobals x = some (some (.ref a))) (l : K.lookup a = some ⟨.type "tuple", od, .seq its n, sl⟩) (hs : its.size ≤ sizeLine) (v : Vals xs its.toList) : ∃ a, mg x = some (.ref a) ∧ ∀ H, SqT K H a xs :=
  ⟨a, PySem.W.mg_of X G e, fun _ => .inr ⟨_, its, n, l, rfl, rfl, hs, v⟩⟩
theorem all_mk {P : Program} {w : World} {A : Ad} {fa : Addr} (hfa : mg "answers" = some (.ref fa)) (T : Txt K mg A) (U : TxE K mg A) :
    ∃ fd : FuncData, (∀ (s : Shared) (us : List Value), us.length = (["calls"] : List Str).length → BindsTo s fd ⟨us, []⟩ ((["calls"] : List Str).zip us)) ∧ ∀ base : Heap, K.In base → base.Ns mainGlobals mg → FnOk P w K mg base CX0 12 fa fd ["calls"] (spAns K) := by
  obtain ⟨f, fd, hm, F⟩ := T.t_answers
  have e := hfa.symm.trans hm
  cases e
  have G : ∀ base : Heap, FnOk P w K mg base CX0 12 fa fd ["calls"] (spAns K) := fun base => ok_answers F T U
  obtain ⟨oc, od, kV, doc, pm, an, cdv, ct, osl, rfl, lk, hcd⟩ := F.ex
  exact ⟨_, fun s us hu => match us, hu with | [_], _ => .of_eq rfl, fun base _ _ => G base⟩
theorem all_mk2 {P : Program} {w : World} {c s d r t fa : Addr} (X : K.In h) (G : h.Ns mainGlobals mg) (hfa : mg "answers" = some (.ref fa)) (gC : PySem.W.nsIn K mainGlobals "Canal" = some (some (.ref c))) (gS : PySem.W.nsIn K mainGlobals "Search" = some (some (.ref s))) (gD : PySem.W.nsIn K mainGlobals "Desk" = some (some (.ref d)))
    (gR : PySem.W.nsIn K mainGlobals "Refused" = some (some (.ref r))) (gM : PySem.W.nsIn K mainGlobals "TooMany" = some (some (.ref t))) (T : Txt K mg ⟨c, s, d, r, t⟩) (U : TxE K mg ⟨c, s, d, r, t⟩) :
    ∃ fd : FuncData, (∀ (s : Shared) (us : List Value), us.length = (["calls"] : List Str).length → BindsTo s fd ⟨us, []⟩ ((["calls"] : List Str).zip us)) ∧ ∀ base : Heap, K.In base → base.Ns mainGlobals mg → FnOk P w K mg base CX0 12 fa fd ["calls"] (spAns K) := all_mk hfa T U
end
end Cn
open PySem PySem.W PyProof.Rows
set_option maxRecDepth 100000 in
set_option maxHeartbeats 0 in
theorem PySem.Challenge.cw_canallocks_s01_answers_holds : PySem.Challenge.rw_canallocks_s01_answers.Holds := by
  w_on; k_headS; (case hw => exact ⟨[.list [.int 8]], by decide +kernel, by decide +kernel⟩)
  k_fillS
  refine L2.walk_specK (r := PySem.Challenge.rw_canallocks_s01_answers) (k := 12) (CX := L2.CX0) (ps := ["calls"]) (sp := Cn.spAns) (by decide +kernel) rfl rfl ⟨rfl, by decide, by decide⟩ (fun w h Y => PySem.W.kIn_of Y) ?F ?S (fun _ _ _ _ z => z)
  case F =>
    intro w mg fa h Y KX G hmg
    refine' Cn.all_mk2 KX G hmg ?gC ?gS ?gD ?gR ?gM ?T ?U
    (case gC => k_is); (case gS => k_is); (case gD => k_is); (case gR => k_is); (case gM => k_is)
    case T =>
      constructor
      (case b_ValueError => exact PySem.W.mg_none_of KX G (by k_is))
      (case b_all => exact PySem.W.mg_none_of KX G (by k_is))
      (case b_enumerate => exact PySem.W.mg_none_of KX G (by k_is))
      (case b_int => exact PySem.W.mg_none_of KX G (by k_is))
      (case b_len => exact PySem.W.mg_none_of KX G (by k_is))
      (case b_list => exact PySem.W.mg_none_of KX G (by k_is))
      (case b_max => exact PySem.W.mg_none_of KX G (by k_is))
      (case b_min => exact PySem.W.mg_none_of KX G (by k_is))
      (case b_range => exact PySem.W.mg_none_of KX G (by k_is))
      (case b_sorted => exact PySem.W.mg_none_of KX G (by k_is))
      (case b_sum => exact PySem.W.mg_none_of KX G (by k_is))
      (case b_tuple => exact PySem.W.mg_none_of KX G (by k_is))
      (case b_zip => exact PySem.W.mg_none_of KX G (by k_is))
      (case c_BOATS => refine' Cn.con_mk KX G ?e_14; (case e_14 => k_is))
      (case c_AWAY => refine' Cn.con_mk KX G ?e_15; (case e_15 => k_is))
      (case c_LEAST_POUNDS => refine' Cn.con_mk KX G ?e_16; (case e_16 => k_is))
      (case c_MOST_POUNDS => refine' Cn.con_mk KX G ?e_17; (case e_17 => k_is))
      (case c_MOST_WATER => refine' Cn.con_mk KX G ?e_18; (case e_18 => k_is))
      (case c_MOST_VOLUME => refine' Cn.con_mk KX G ?e_19; (case e_19 => k_is))
      (case c_MOST_ROOM => refine' Cn.con_mk KX G ?e_20; (case e_20 => k_is))
      (case c_FILL => refine' Cn.con_mk KX G ?e_21; (case e_21 => k_is))
      (case c_EMPTY => refine' Cn.con_mk KX G ?e_22; (case e_22 => k_is))
      (case c_ENTER => refine' Cn.con_mk KX G ?e_23; (case e_23 => k_is))
      (case c_LEAVE => refine' Cn.con_mk KX G ?e_24; (case e_24 => k_is))
      (case c_NOT_ENOUGH => refine' Cn.con_mk KX G ?e_25; (case e_25 => k_is))
      (case c_NOT_SO_operations => refine' Cn.con_mk KX G ?e_26; (case e_26 => k_is))
      (case c_NONE_SUCH_operations => refine' Cn.con_mk KX G ?e_27; (case e_27 => k_is))
      (case c_NO_ROOM => refine' Cn.con_mk KX G ?e_28; (case e_28 => k_is))
      (case c_MOST_STANDS => refine' Cn.con_mk KX G ?e_29; (case e_29 => k_is))
      (case c_BAD => refine' Cn.con_mk KX G ?e_30; (case e_30 => k_is))
      (case c_NOT_SO_canal => refine' Cn.con_mk KX G ?e_31; (case e_31 => k_is))
      (case c_NONE_SUCH_canal => refine' Cn.con_mk KX G ?e_32; (case e_32 => k_is))
      (case c_THERE_ALREADY => refine' Cn.con_mk KX G ?e_33; (case e_33 => k_is))
      (case c_TOO_FAR => refine' Cn.con_mk KX G ?e_34; (case e_34 => k_is))
      (case c_MOST_FEED => refine' Cn.con_mk KX G ?e_35; (case e_35 => k_is))
      (case c_MOST_RUN => refine' Cn.con_mk KX G ?e_36; (case e_36 => k_is))
      (case cl_Canal => refine' L2.Cls.mk ?pg_37 ?hd_37 ?po_37 ?sa_37; (case pg_37 => k_is); (case hd_37 => k_is); (case po_37 => k_is); (case sa_37 => k_is))
      (case g_Canal => exact PySem.W.mg_of KX G (by k_is))
      (case cl_Search => refine' L2.Cls.mk ?pg_39 ?hd_39 ?po_39 ?sa_39; (case pg_39 => k_is); (case hd_39 => k_is); (case po_39 => k_is); (case sa_39 => k_is))
      (case g_Search => exact PySem.W.mg_of KX G (by k_is))
      (case cl_Desk => refine' L2.Cls.mk ?pg_41 ?hd_41 ?po_41 ?sa_41; (case pg_41 => k_is); (case hd_41 => k_is); (case po_41 => k_is); (case sa_41 => k_is))
      (case g_Desk => exact PySem.W.mg_of KX G (by k_is))
      (case n_Canal_least => show PySem.W.findIn _ _ _ = _; k_is)
      (case n_Canal_most => show PySem.W.findIn _ _ _ = _; k_is)
      (case n_Canal_volumes => show PySem.W.findIn _ _ _ = _; k_is)
      (case n_Canal_rooms => show PySem.W.findIn _ _ _ = _; k_is)
      (case n_Desk_canal => show PySem.W.findIn _ _ _ = _; k_is)
      (case n_Desk_stand => show PySem.W.findIn _ _ _ = _; k_is)
      (case n_Desk_left => show PySem.W.findIn _ _ _ = _; k_is)
      (case n_Desk_come => show PySem.W.findIn _ _ _ = _; k_is)
      (case n_Search_canal => show PySem.W.findIn _ _ _ = _; k_is)
      (case n_Search_by_water => show PySem.W.findIn _ _ _ = _; k_is)
      (case n_Search_settled => show PySem.W.findIn _ _ _ = _; k_is)
      (case n_Search_waiting => show PySem.W.findIn _ _ _ = _; k_is)
      (case t_Canal___init__ => refine' Cn.tinit_mk KX G ?aC_55 ?mk_55 ?kC_55 ?a_55 ?i_55 ?l_55 ?c_55 ?k_55; (case aC_55 => k_is); (case mk_55 => k_is); (case kC_55 => k_is); (case a_55 => k_is); (case i_55 => k_is); (case l_55 => k_is); (case c_55 => k_is); (case k_55 => k_is))
      (case t_Canal_many_pounds => refine' Cn.tmeth_mk ?a_56 ?i_56 ?l_56 ?c_56 ?k_56; (case a_56 => k_is); (case i_56 => k_is); (case l_56 => k_is); (case c_56 => k_is); (case k_56 => k_is))
      (case t_Canal_many_locks => refine' Cn.tmeth_mk ?a_57 ?i_57 ?l_57 ?c_57 ?k_57; (case a_57 => k_is); (case i_57 => k_is); (case l_57 => k_is); (case c_57 => k_is); (case k_57 => k_is))
      (case t_in_threes => refine' Cn.tdef_mk KX G ?a_58 ?l_58 ?c_58 ?k_58; (case a_58 => k_is); (case l_58 => k_is); (case c_58 => k_is); (case k_58 => k_is))
      (case t_is_pound => refine' Cn.tdef_mk KX G ?a_59 ?l_59 ?c_59 ?k_59; (case a_59 => k_is); (case l_59 => k_is); (case c_59 => k_is); (case k_59 => k_is))
      (case t_is_lock => refine' Cn.tdef_mk KX G ?a_60 ?l_60 ?c_60 ?k_60; (case a_60 => k_is); (case l_60 => k_is); (case c_60 => k_is); (case k_60 => k_is))
      (case t_are_canal => refine' Cn.tdef_mk KX G ?a_61 ?l_61 ?c_61 ?k_61; (case a_61 => k_is); (case l_61 => k_is); (case c_61 => k_is); (case k_61 => k_is))
      (case t_first_stand => refine' Cn.tdef_mk KX G ?a_62 ?l_62 ?c_62 ?k_62; (case a_62 => k_is); (case l_62 => k_is); (case c_62 => k_is); (case k_62 => k_is))
      (case t_poured => refine' Cn.tdef_mk KX G ?a_63 ?l_63 ?c_63 ?k_63; (case a_63 => k_is); (case l_63 => k_is); (case c_63 => k_is); (case k_63 => k_is))
      (case t_with_one => refine' Cn.tdef_mk KX G ?a_64 ?l_64 ?c_64 ?k_64; (case a_64 => k_is); (case l_64 => k_is); (case c_64 => k_is); (case k_64 => k_is))
      (case t_in_pound => refine' Cn.tdef_mk KX G ?a_65 ?l_65 ?c_65 ?k_65; (case a_65 => k_is); (case l_65 => k_is); (case c_65 => k_is); (case k_65 => k_is))
      (case t_in_lock => refine' Cn.tdef_mk KX G ?a_66 ?l_66 ?c_66 ?k_66; (case a_66 => k_is); (case l_66 => k_is); (case c_66 => k_is); (case k_66 => k_is))
      (case t_is_in_pound => refine' Cn.tdef_mk KX G ?a_67 ?l_67 ?c_67 ?k_67; (case a_67 => k_is); (case l_67 => k_is); (case c_67 => k_is); (case k_67 => k_is))
      (case t_is_in_lock => refine' Cn.tdef_mk KX G ?a_68 ?l_68 ?c_68 ?k_68; (case a_68 => k_is); (case l_68 => k_is); (case c_68 => k_is); (case k_68 => k_is))
      (case t_all_water => refine' Cn.tdef_mk KX G ?a_69 ?l_69 ?c_69 ?k_69; (case a_69 => k_is); (case l_69 => k_is); (case c_69 => k_is); (case k_69 => k_is))
      (case t_has_enough => refine' Cn.tdef_mk KX G ?a_70 ?l_70 ?c_70 ?k_70; (case a_70 => k_is); (case l_70 => k_is); (case c_70 => k_is); (case k_70 => k_is))
      (case t_is_level => refine' Cn.tdef_mk KX G ?a_71 ?l_71 ?c_71 ?k_71; (case a_71 => k_is); (case l_71 => k_is); (case c_71 => k_is); (case k_71 => k_is))
      (case t_has_room => refine' Cn.tdef_mk KX G ?a_72 ?l_72 ?c_72 ?k_72; (case a_72 => k_is); (case l_72 => k_is); (case c_72 => k_is); (case k_72 => k_is))
      (case t_why_not_fill => refine' Cn.tdef_mk KX G ?a_73 ?l_73 ?c_73 ?k_73; (case a_73 => k_is); (case l_73 => k_is); (case c_73 => k_is); (case k_73 => k_is))
      (case t_why_not_empty => refine' Cn.tdef_mk KX G ?a_74 ?l_74 ?c_74 ?k_74; (case a_74 => k_is); (case l_74 => k_is); (case c_74 => k_is); (case k_74 => k_is))
      (case t_is_boat => refine' Cn.tdef_mk KX G ?a_75 ?l_75 ?c_75 ?k_75; (case a_75 => k_is); (case l_75 => k_is); (case c_75 => k_is); (case k_75 => k_is))
      (case t_why_not_enter => refine' Cn.tdef_mk KX G ?a_76 ?l_76 ?c_76 ?k_76; (case a_76 => k_is); (case l_76 => k_is); (case c_76 => k_is); (case k_76 => k_is))
      (case t_why_not_leave => refine' Cn.tdef_mk KX G ?a_77 ?l_77 ?c_77 ?k_77; (case a_77 => k_is); (case l_77 => k_is); (case c_77 => k_is); (case k_77 => k_is))
      (case t_why_not => refine' Cn.tdef_mk KX G ?a_78 ?l_78 ?c_78 ?k_78; (case a_78 => k_is); (case l_78 => k_is); (case c_78 => k_is); (case k_78 => k_is))
      (case t_left_for => refine' Cn.tdef_mk KX G ?a_79 ?l_79 ?c_79 ?k_79; (case a_79 => k_is); (case l_79 => k_is); (case c_79 => k_is); (case k_79 => k_is))
      (case t_behind => refine' Cn.tdef_mk KX G ?a_80 ?l_80 ?c_80 ?k_80; (case a_80 => k_is); (case l_80 => k_is); (case c_80 => k_is); (case k_80 => k_is))
      (case t_entering => refine' Cn.tdef_mk KX G ?a_81 ?l_81 ?c_81 ?k_81; (case a_81 => k_is); (case l_81 => k_is); (case c_81 => k_is); (case k_81 => k_is))
      (case t_all_that_can => refine' Cn.tdef_mk KX G ?a_82 ?l_82 ?c_82 ?k_82; (case a_82 => k_is); (case l_82 => k_is); (case c_82 => k_is); (case k_82 => k_is))
      (case t_is_wanted => refine' Cn.tdef_mk KX G ?a_83 ?l_83 ?c_83 ?k_83; (case a_83 => k_is); (case l_83 => k_is); (case c_83 => k_is); (case k_83 => k_is))
      (case t_used_by => refine' Cn.tdef_mk KX G ?a_84 ?l_84 ?c_84 ?k_84; (case a_84 => k_is); (case l_84 => k_is); (case c_84 => k_is); (case k_84 => k_is))
      (case t_Search___init__ => refine' Cn.tinit_mk KX G ?aC_85 ?mk_85 ?kC_85 ?a_85 ?i_85 ?l_85 ?c_85 ?k_85; (case aC_85 => k_is); (case mk_85 => k_is); (case kC_85 => k_is); (case a_85 => k_is); (case i_85 => k_is); (case l_85 => k_is); (case c_85 => k_is); (case k_85 => k_is))
      (case t_Search_wait => refine' Cn.tmeth_mk ?a_86 ?i_86 ?l_86 ?c_86 ?k_86; (case a_86 => k_is); (case i_86 => k_is); (case l_86 => k_is); (case c_86 => k_is); (case k_86 => k_is))
      (case t_Search_go_on => refine' Cn.tmeth_mk ?a_87 ?i_87 ?l_87 ?c_87 ?k_87; (case a_87 => k_is); (case i_87 => k_is); (case l_87 => k_is); (case c_87 => k_is); (case k_87 => k_is))
      (case t_Search_settle => refine' Cn.tmeth_mk ?a_88 ?i_88 ?l_88 ?c_88 ?k_88; (case a_88 => k_is); (case i_88 => k_is); (case l_88 => k_is); (case c_88 => k_is); (case k_88 => k_is))
      (case t_Search_plan => refine' Cn.tmeth_mk ?a_89 ?i_89 ?l_89 ?c_89 ?k_89; (case a_89 => k_is); (case i_89 => k_is); (case l_89 => k_is); (case c_89 => k_is); (case k_89 => k_is))
      (case t_want => refine' Cn.tdef_mk KX G ?a_90 ?l_90 ?c_90 ?k_90; (case a_90 => k_is); (case l_90 => k_is); (case c_90 => k_is); (case k_90 => k_is))
      (case t_flattened => refine' Cn.tdef_mk KX G ?a_91 ?l_91 ?c_91 ?k_91; (case a_91 => k_is); (case l_91 => k_is); (case c_91 => k_is); (case k_91 => k_is))
      (case t_Desk___init__ => refine' Cn.tinit_mk KX G ?aC_92 ?mk_92 ?kC_92 ?a_92 ?i_92 ?l_92 ?c_92 ?k_92; (case aC_92 => k_is); (case mk_92 => k_is); (case kC_92 => k_is); (case a_92 => k_is); (case i_92 => k_is); (case l_92 => k_is); (case c_92 => k_is); (case k_92 => k_is))
      (case t_Desk_begin => refine' Cn.tmeth_mk ?a_93 ?i_93 ?l_93 ?c_93 ?k_93; (case a_93 => k_is); (case i_93 => k_is); (case l_93 => k_is); (case c_93 => k_is); (case k_93 => k_is))
      (case t_Desk_place_of => refine' Cn.tmeth_mk ?a_94 ?i_94 ?l_94 ?c_94 ?k_94; (case a_94 => k_is); (case i_94 => k_is); (case l_94 => k_is); (case c_94 => k_is); (case k_94 => k_is))
      (case t_Desk_put_boat => refine' Cn.tmeth_mk ?a_95 ?i_95 ?l_95 ?c_95 ?k_95; (case a_95 => k_is); (case i_95 => k_is); (case l_95 => k_is); (case c_95 => k_is); (case k_95 => k_is))
      (case t_Desk_boat => refine' Cn.tmeth_mk ?a_96 ?i_96 ?l_96 ?c_96 ?k_96; (case a_96 => k_is); (case i_96 => k_is); (case l_96 => k_is); (case c_96 => k_is); (case k_96 => k_is))
      (case t_Desk_lift => refine' Cn.tmeth_mk ?a_97 ?i_97 ?l_97 ?c_97 ?k_97; (case a_97 => k_is); (case i_97 => k_is); (case l_97 => k_is); (case c_97 => k_is); (case k_97 => k_is))
      (case t_Desk_do_one => refine' Cn.tmeth_mk ?a_98 ?i_98 ?l_98 ?c_98 ?k_98; (case a_98 => k_is); (case i_98 => k_is); (case l_98 => k_is); (case c_98 => k_is); (case k_98 => k_is))
      (case t_Desk_feed => refine' Cn.tmeth_mk ?a_99 ?i_99 ?l_99 ?c_99 ?k_99; (case a_99 => k_is); (case i_99 => k_is); (case l_99 => k_is); (case c_99 => k_is); (case k_99 => k_is))
      (case t_Desk_pound => refine' Cn.tmeth_mk ?a_100 ?i_100 ?l_100 ?c_100 ?k_100; (case a_100 => k_is); (case i_100 => k_is); (case l_100 => k_is); (case c_100 => k_is); (case k_100 => k_is))
      (case t_Desk_lock => refine' Cn.tmeth_mk ?a_101 ?i_101 ?l_101 ?c_101 ?k_101; (case a_101 => k_is); (case i_101 => k_is); (case l_101 => k_is); (case c_101 => k_is); (case k_101 => k_is))
      (case t_Desk_where => refine' Cn.tmeth_mk ?a_102 ?i_102 ?l_102 ?c_102 ?k_102; (case a_102 => k_is); (case i_102 => k_is); (case l_102 => k_is); (case c_102 => k_is); (case k_102 => k_is))
      (case t_Desk_plan => refine' Cn.tmeth_mk ?a_103 ?i_103 ?l_103 ?c_103 ?k_103; (case a_103 => k_is); (case i_103 => k_is); (case l_103 => k_is); (case c_103 => k_is); (case k_103 => k_is))
      (case t_Desk_run => refine' Cn.tmeth_mk ?a_104 ?i_104 ?l_104 ?c_104 ?k_104; (case a_104 => k_is); (case i_104 => k_is); (case l_104 => k_is); (case c_104 => k_is); (case k_104 => k_is))
      (case t_Desk_told => refine' Cn.tmeth_mk ?a_105 ?i_105 ?l_105 ?c_105 ?k_105; (case a_105 => k_is); (case i_105 => k_is); (case l_105 => k_is); (case c_105 => k_is); (case k_105 => k_is))
      (case t_Desk_done => refine' Cn.tmeth_mk ?a_106 ?i_106 ?l_106 ?c_106 ?k_106; (case a_106 => k_is); (case i_106 => k_is); (case l_106 => k_is); (case c_106 => k_is); (case k_106 => k_is))
      (case t_Desk_answer => refine' Cn.tmeth_mk ?a_107 ?i_107 ?l_107 ?c_107 ?k_107; (case a_107 => k_is); (case i_107 => k_is); (case l_107 => k_is); (case c_107 => k_is); (case k_107 => k_is))
      (case t_rows_at => refine' Cn.tdef_mk KX G ?a_108 ?l_108 ?c_108 ?k_108; (case a_108 => k_is); (case l_108 => k_is); (case c_108 => k_is); (case k_108 => k_is))
      (case t_answers => refine' Cn.tdef_mk KX G ?a_109 ?l_109 ?c_109 ?k_109; (case a_109 => k_is); (case l_109 => k_is); (case c_109 => k_is); (case k_109 => k_is))
    case U =>
      constructor
      (case vV => k_is)
      (case oR => refine' Cn.oexc_mk ?xL_111 ?sa_111 ?eC_111 ?tC_111 ?kC_111; (case xL_111 => k_is); (case sa_111 => k_is); (case eC_111 => k_is); (case tC_111 => k_is); (case kC_111 => k_is))
      (case xR => refine' L2.XfC.mk ?ga_112 ?gg_112 ?eC_112 ?hC_112; (case ga_112 => k_is); (case gg_112 => k_is); (case eC_112 => k_is); (case hC_112 => k_is))
      (case nR => k_is)
      (case gR => exact PySem.W.mg_of KX G (by k_is))
      (case teR => refine' Cn.exm_self ?h1_115 ?h2_115 ?h3_115 ?h4_115; (case h1_115 => k_is); (case h2_115 => k_is); (case h3_115 => k_is); (case h4_115 => first | rfl | k_is))
      (case iR => refine' Cn.xinit_mk ?a_116 ?t_116 ?l_116 ?c_116 ?k_116; (case a_116 => k_is); (case t_116 => k_is); (case l_116 => k_is); (case c_116 => k_is); (case k_116 => k_is))
      (case oM => refine' Cn.oexc_mk ?xL_117 ?sa_117 ?eC_117 ?tC_117 ?kC_117; (case xL_117 => k_is); (case sa_117 => k_is); (case eC_117 => k_is); (case tC_117 => k_is); (case kC_117 => k_is))
      (case gM => exact PySem.W.mg_of KX G (by k_is))
      (case teM => refine' Cn.exm_self ?h1_119 ?h2_119 ?h3_119 ?h4_119; (case h1_119 => k_is); (case h2_119 => k_is); (case h3_119 => k_is); (case h4_119 => first | rfl | k_is))
      (case iM => refine' Cn.xinit_mk ?a_120 ?t_120 ?l_120 ?c_120 ?k_120; (case a_120 => k_is); (case t_120 => k_is); (case l_120 => k_is); (case c_120 => k_is); (case k_120 => k_is))
      (case num => refine' Cn.tup_mk KX G ?e_121 ?l_121 ?hs_121 ?v_121; (case e_121 => k_is); (case l_121 => k_is); (case hs_121 => decide +kernel); (case v_121 => repeat (first | exact .nil | refine .cons Cn.rel_nv ?_)))
      (case row => refine' Cn.tup_mk KX G ?e_122 ?l_122 ?hs_122 ?v_122; (case e_122 => k_is); (case l_122 => k_is); (case hs_122 => decide +kernel); (case v_122 => repeat (first | exact .nil | refine .cons Cn.rel_nv ?_)))
  case S =>
    intro K H xs a hO hwi hask hx
    cases hx with
    | cons h1 h2 =>
      cases h2
      cases h1 with
      | lst hs ha =>
        have e := L2.ints_dw a.1 _ ha
        subst e
        exact ⟨_, a.1, rfl, hs, hask, fun H' p hp => .lst (L2.SqL.of hp) (L2.dw_ints _)⟩
#print axioms PySem.Challenge.cw_canallocks_s01_answers_holds
