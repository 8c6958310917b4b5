import PyProof.Rows.All
import Wide.All
import OpenK.AllK
import Wide.FinOn
import HandS.ForMost
import HandS.Exc
import HandS.ExcOwn
import HandS.ExcInit
import HandS.IsInst
import HandS.Wide
import HandS.More
import HandS.Strs
import HandS.SetFor
import HandS.TryOnly
import HandS.DictEq
import HandS.WordsExc
import KE.KExcIs
import KE.KEqSeq
import HandS.Evl
import PySem.Challenge.RW_ordertext_k67_shelf_refused_and_between
set_option Elab.async false
set_option linter.all false
/-! Plain mathematics of the orders: no program in sight. -/
namespace K67

abbrev Fq := Int × Int

inductive Cs (φ : Type) where
  | same (f : φ)
  | both (isq : Bool) (f : φ) (q : Fq)
  | either (isq : Bool) (f : φ) (q : Fq)
  | no (c : Cs φ)
  | conj (a b : Cs φ)
  | disj (a b : Cs φ)
inductive Tr (φ : Type) where
  | like
  | up (f : φ)
  | down (f : φ)
  | turn (t : Tr φ)
  | thn (a b : Tr φ)
  | pick (c : Cs φ) (a b : Tr φ)

/-- the fractions' comparison: -1, 0, 1 -/
def cmpF (x y : Fq) : Int := if y.1 * x.2 < x.1 * y.2 then 1 else if x.1 * y.2 < y.1 * x.2 then -1 else 0
def lessF (x y : Fq) : Bool := decide (x.1 * y.2 < y.1 * x.2)
def markF (isq : Bool) (q x : Fq) : Bool := if isq then decide (x = q) else lessF x q
section
variable {φ : Type}
def holds : Cs φ → (φ → Fq) → (φ → Fq) → Bool
  | .same f, a, b => decide (a f = b f)
  | .both s f q, a, b => markF s q (a f) && markF s q (b f)
  | .either s f q, a, b => markF s q (a f) || markF s q (b f)
  | .no c, a, b => !holds c a b
  | .conj c d, a, b => holds c a b && holds d a b
  | .disj c d, a, b => holds c a b || holds d a b
def side : Tr φ → (φ → Fq) → (φ → Fq) → Int
  | .like, _, _ => 0
  | .up f, a, b => cmpF (a f) (b f)
  | .down f, a, b => -cmpF (a f) (b f)
  | .turn t, a, b => side t b a
  | .thn s t, a, b => if side s a b = 0 then side t a b else side s a b
  | .pick c s t, a, b => if holds c a b = true then side s a b else side t a b

theorem holds_symm : ∀ (c : Cs φ) (a b : φ → Fq), holds c a b = holds c b a
  | .same f, a, b => by
    show decide (a f = b f) = decide (b f = a f)
    by_cases h : a f = b f
    · rw [h]
    · rw [decide_eq_false h, decide_eq_false fun e => h e.symm]
  | .both s f q, a, b => Bool.and_comm _ _
  | .either s f q, a, b => Bool.or_comm _ _
  | .no c, a, b => by
    show (!holds c a b) = (!holds c b a)
    rw [holds_symm c a b]
  | .conj c d, a, b => by
    show (holds c a b && holds d a b) = (holds c b a && holds d b a)
    rw [holds_symm c a b, holds_symm d a b]
  | .disj c d, a, b => by
    show (holds c a b || holds d a b) = (holds c b a || holds d b a)
    rw [holds_symm c a b, holds_symm d a b]

theorem cmpF_range (x y : Fq) : cmpF x y = -1 ∨ cmpF x y = 0 ∨ cmpF x y = 1 := by
  unfold cmpF
  split
  · exact .inr (.inr rfl)
  · split
    · exact .inl rfl
    · exact .inr (.inl rfl)
theorem cmpF_anti (x y : Fq) : cmpF x y = -cmpF y x := by
  unfold cmpF
  by_cases h1 : y.1 * x.2 < x.1 * y.2
  · rw [if_pos h1, if_neg (by omega), if_pos h1]
    rfl
  · rw [if_neg h1]
    by_cases h2 : x.1 * y.2 < y.1 * x.2
    · rw [if_pos h2, if_pos h2]
    · rw [if_neg h2, if_neg h2, if_neg h1]
      rfl
theorem side_range : ∀ (t : Tr φ) (a b : φ → Fq), side t a b = -1 ∨ side t a b = 0 ∨ side t a b = 1
  | .like, _, _ => .inr (.inl rfl)
  | .up f, a, b => cmpF_range _ _
  | .down f, a, b => by
    show -cmpF (a f) (b f) = -1 ∨ -cmpF (a f) (b f) = 0 ∨ -cmpF (a f) (b f) = 1
    have := cmpF_range (a f) (b f)
    omega
  | .turn t, a, b => side_range t b a
  | .thn s t, a, b => by
    show (if side s a b = 0 then side t a b else side s a b) = -1 ∨ (if side s a b = 0 then side t a b else side s a b) = 0 ∨ (if side s a b = 0 then side t a b else side s a b) = 1
    split
    · exact side_range t a b
    · exact side_range s a b
  | .pick c s t, a, b => by
    show (if holds c a b = true then side s a b else side t a b) = -1 ∨ (if holds c a b = true then side s a b else side t a b) = 0 ∨ (if holds c a b = true then side s a b else side t a b) = 1
    split
    · exact side_range s a b
    · exact side_range t a b

/-- an order for the things of P -/
structure IsOrd (t : Tr φ) (P : (φ → Fq) → Prop) : Prop where
  anti : ∀ a b, P a → P b → side t a b = -side t b a
  tran : ∀ a b c, P a → P b → P c → side t a b < 1 → side t b c < 1 → side t a c = min (side t a b) (side t b c)

/-- all below from 1 on -/
def Good (a : φ → Fq) : Prop := ∀ f, 1 ≤ (a f).2

theorem cmpF_tran {x y z : Fq} (hx : 1 ≤ x.2) (hy : 1 ≤ y.2) (hz : 1 ≤ z.2) (h1 : cmpF x y < 1) (h2 : cmpF y z < 1) : cmpF x z = min (cmpF x y) (cmpF y z) := by
  have e1 : x.1 * y.2 ≤ y.1 * x.2 := by
    unfold cmpF at h1
    by_cases h : y.1 * x.2 < x.1 * y.2
    · rw [if_pos h] at h1; omega
    · omega
  have e2 : y.1 * z.2 ≤ z.1 * y.2 := by
    unfold cmpF at h2
    by_cases h : z.1 * y.2 < y.1 * z.2
    · rw [if_pos h] at h2; omega
    · omega
  -- multiply up
  have m1 : x.1 * y.2 * z.2 ≤ y.1 * x.2 * z.2 := Int.mul_le_mul_of_nonneg_right e1 (by omega)
  have m2 : y.1 * z.2 * x.2 ≤ z.1 * y.2 * x.2 := Int.mul_le_mul_of_nonneg_right e2 (by omega)
  have c0 : x.1 * y.2 * z.2 = x.1 * z.2 * y.2 := by rw [Int.mul_assoc, Int.mul_comm y.2, ← Int.mul_assoc]
  have c1 : y.1 * x.2 * z.2 = y.1 * z.2 * x.2 := by rw [Int.mul_assoc, Int.mul_comm x.2, ← Int.mul_assoc]
  have c2 : z.1 * y.2 * x.2 = z.1 * x.2 * y.2 := by rw [Int.mul_assoc, Int.mul_comm y.2, ← Int.mul_assoc]
  have le : x.1 * z.2 ≤ z.1 * x.2 := Int.le_of_mul_le_mul_right (a := y.2) (by omega) (by omega)
  have hxz : ¬ z.1 * x.2 < x.1 * z.2 := by omega
  by_cases s1 : x.1 * y.2 < y.1 * x.2
  · have q1 : cmpF x y = -1 := by unfold cmpF; rw [if_neg (by omega), if_pos s1]
    have m3 : x.1 * y.2 * z.2 < y.1 * x.2 * z.2 := Int.mul_lt_mul_of_pos_right s1 (by omega)
    have lt : x.1 * z.2 < z.1 * x.2 := Int.lt_of_mul_lt_mul_right (a := y.2) (by omega) (by omega)
    have q3 : cmpF x z = -1 := by unfold cmpF; rw [if_neg hxz, if_pos lt]
    have := cmpF_range y z
    omega
  · have q1 : cmpF x y = 0 := by unfold cmpF; rw [if_neg (by omega), if_neg s1]
    by_cases s2 : y.1 * z.2 < z.1 * y.2
    · have q2 : cmpF y z = -1 := by unfold cmpF; rw [if_neg (by omega), if_pos s2]
      have m3 : y.1 * z.2 * x.2 < z.1 * y.2 * x.2 := Int.mul_lt_mul_of_pos_right s2 (by omega)
      have lt : x.1 * z.2 < z.1 * x.2 := Int.lt_of_mul_lt_mul_right (a := y.2) (by omega) (by omega)
      have q3 : cmpF x z = -1 := by unfold cmpF; rw [if_neg hxz, if_pos lt]
      omega
    · have q2 : cmpF y z = 0 := by unfold cmpF; rw [if_neg (by omega), if_neg s2]
      have e3 : x.1 * z.2 * y.2 = z.1 * x.2 * y.2 := by
        have d1 : x.1 * y.2 = y.1 * x.2 := by omega
        have d2 : y.1 * z.2 = z.1 * y.2 := by omega
        rw [← c0, d1, c1, d2, c2]
      have eq : x.1 * z.2 = z.1 * x.2 := Int.eq_of_mul_eq_mul_right (by omega) e3
      have q3 : cmpF x z = 0 := by unfold cmpF; rw [if_neg hxz, if_neg (by omega)]
      omega

theorem ord_up (f : φ) : IsOrd (.up f) (Good (φ := φ)) :=
  ⟨fun a b _ _ => cmpF_anti _ _, fun a b c ha hb hc h1 h2 => cmpF_tran (ha f) (hb f) (hc f) h1 h2⟩
theorem ord_turn {t : Tr φ} {P : (φ → Fq) → Prop} (h : IsOrd t P) : IsOrd (.turn t) P :=
  ⟨fun a b ha hb => h.anti b a hb ha, fun a b c ha hb hc h1 h2 => by
    show side t c a = min (side t b a) (side t c b)
    rw [h.tran c b a hc hb ha h2 h1]
    omega⟩
theorem ord_down (f : φ) : IsOrd (.down f) (Good (φ := φ)) := by
  have e : ∀ a b : φ → Fq, side (.down f) a b = side (.turn (.up f)) a b := fun a b => by
    show -cmpF (a f) (b f) = cmpF (b f) (a f)
    rw [cmpF_anti (b f) (a f)]
  have h := ord_turn (ord_up f)
  exact ⟨fun a b ha hb => by rw [e, e]; exact h.anti a b ha hb, fun a b c ha hb hc h1 h2 => by
    rw [e] at h1 h2
    rw [e, e, e]
    exact h.tran a b c ha hb hc h1 h2⟩
theorem side_thn {s t : Tr φ} {a b : φ → Fq} : side (.thn s t) a b = if side s a b = 0 then side t a b else side s a b := rfl
theorem ord_thn {s t : Tr φ} {P : (φ → Fq) → Prop} (hs : IsOrd s P) (ht : IsOrd t P) : IsOrd (.thn s t) P := by
  refine ⟨fun a b ha hb => ?_, fun a b c ha hb hc h1 h2 => ?_⟩
  · have e := hs.anti a b ha hb
    have e2 := ht.anti a b ha hb
    rw [side_thn, side_thn]
    by_cases h : side s a b = 0
    · rw [if_pos h, if_pos (by omega)]
      exact e2
    · rw [if_neg h, if_neg (by omega)]
      exact e
  · rw [side_thn] at h1 h2
    rw [side_thn, side_thn, side_thn]
    have r1 := side_range s a b
    have r2 := side_range s b c
    have r3 := side_range t a b
    have r4 := side_range t b c
    have l1 : side s a b < 1 := by
      by_cases h : side s a b = 0
      · omega
      · rw [if_neg h] at h1; exact h1
    have l2 : side s b c < 1 := by
      by_cases h : side s b c = 0
      · omega
      · rw [if_neg h] at h2; exact h2
    have es := hs.tran a b c ha hb hc l1 l2
    by_cases za : side s a b = 0
    · rw [if_pos za] at h1
      rw [if_pos za]
      by_cases zb : side s b c = 0
      · rw [if_pos zb] at h2
        rw [if_pos zb, if_pos (by omega)]
        exact ht.tran a b c ha hb hc h1 h2
      · rw [if_neg zb, if_neg (by omega)]
        omega
    · rw [if_neg za, if_neg (by omega)]
      by_cases zb : side s b c = 0
      · rw [if_pos zb] at h2 ⊢
        omega
      · rw [if_neg zb]
        omega

/-! ### rows: the numbers by an order, like ones by their numbers -/
def lt' (t : Tr φ) (th : Int → φ → Fq) (m n : Int) : Prop := side t (th m) (th n) < 0 ∨ (side t (th m) (th n) = 0 ∧ m < n)
end

/-! ### lists -/
section
variable {α : Type}
/-- p holds of just the first k -/
def Cut (p : α → Bool) (l : List α) (k : Nat) : Prop := k ≤ l.length ∧ ∀ (i : Nat) (x : α), l[i]? = some x → (p x = true ↔ i < k)
theorem cut_ex {r : α → α → Prop} {p : α → Bool} : ∀ {l : List α}, l.Pairwise r → (∀ x ∈ l, ∀ y ∈ l, r x y → p y = true → p x = true) → ∃ k, Cut p l k
  | [], _, _ => ⟨0, Nat.le_refl _, fun i x h => by simp at h⟩
  | a :: l, h, mono => by
    obtain ⟨h1, h2⟩ := List.pairwise_cons.mp h
    obtain ⟨k, hk, hc⟩ := cut_ex h2 fun x hx y hy => mono x (List.mem_cons_of_mem _ hx) y (List.mem_cons_of_mem _ hy)
    by_cases ha : p a = true
    · refine ⟨k + 1, Nat.succ_le_succ hk, fun i x hx => ?_⟩
      cases i with
      | zero =>
        have e : a = x := Option.some.inj hx
        subst e
        exact ⟨fun _ => Nat.succ_pos _, fun _ => ha⟩
      | succ i => exact (hc i x hx).trans ⟨fun z => Nat.succ_lt_succ z, fun z => Nat.lt_of_succ_lt_succ z⟩
    · refine ⟨0, Nat.zero_le _, fun i x hx => ⟨fun hp => ?_, fun z => absurd z (Nat.not_lt_zero _)⟩⟩
      cases i with
      | zero =>
        have e : a = x := Option.some.inj hx
        subst e
        exact absurd hp ha
      | succ i =>
        have hm : x ∈ l := List.mem_of_getElem? hx
        exact absurd (mono a List.mem_cons_self x (List.mem_cons_of_mem _ hm) (h1 x hm) hp) ha
theorem cut_cons {p : α → Bool} {a : α} {l : List α} {k : Nat} (h : Cut p (a :: l) k) : (p a = true ∧ ∃ j, k = j + 1 ∧ Cut p l j) ∨ (k = 0 ∧ ∀ x ∈ a :: l, p x = false) := by
  obtain ⟨hk, hc⟩ := h
  cases k with
  | zero =>
    refine .inr ⟨rfl, fun x hx => ?_⟩
    obtain ⟨i, hi⟩ := List.getElem?_of_mem hx
    cases e : p x with
    | false => rfl
    | true => exact absurd ((hc i x hi).mp e) (Nat.not_lt_zero _)
  | succ j =>
    refine .inl ⟨(hc 0 a rfl).mpr (Nat.succ_pos _), j, rfl, Nat.le_of_succ_le_succ hk, fun i x hx => ?_⟩
    exact (hc (i + 1) x hx).trans ⟨fun z => Nat.lt_of_succ_lt_succ z, fun z => Nat.succ_lt_succ z⟩
theorem cut_filter {p : α → Bool} : ∀ {l : List α} {k : Nat}, Cut p l k → l.filter p = l.take k
  | [], k, _ => by simp
  | a :: l, k, h => by
    rcases cut_cons h with ⟨ha, j, rfl, hj⟩ | ⟨rfl, hn⟩
    · rw [List.filter_cons, if_pos ha, cut_filter hj]
      rfl
    · rw [List.take_zero]
      exact List.filter_eq_nil_iff.mpr fun x hx => by rw [hn x hx]; exact Bool.false_ne_true
theorem cut_len {p : α → Bool} {l : List α} {k : Nat} (h : Cut p l k) : (l.filter p).length = k := by
  rw [cut_filter h, List.length_take]
  have := h.1
  omega
/-- the middle: not p, and q -/
theorem cut_mid {p q : α → Bool} : ∀ {l : List α} {k m : Nat}, Cut p l k → Cut q l m → (l.take m).drop k = l.filter fun x => !p x && q x
  | [], k, m, _, _ => by simp
  | a :: l, k, m, hp, hq => by
    rw [List.filter_cons]
    rcases cut_cons hp with ⟨ha, j, rfl, hj⟩ | ⟨rfl, hn⟩
    · rw [if_neg (by rw [ha]; simp)]
      rcases cut_cons hq with ⟨hb, i, rfl, hi⟩ | ⟨rfl, hm⟩
      · rw [List.take_succ_cons, List.drop_succ_cons]
        exact cut_mid hj hi
      · rw [List.take_zero, List.drop_nil]
        refine (List.filter_eq_nil_iff.mpr fun x hx => ?_).symm
        rw [hm x (List.mem_cons_of_mem _ hx), Bool.and_false]
        exact Bool.false_ne_true
    · rw [List.drop_zero]
      rcases cut_cons hq with ⟨hb, i, rfl, hi⟩ | ⟨rfl, hm⟩
      · rw [if_pos (by rw [hn a List.mem_cons_self, hb]; rfl), List.take_succ_cons, ← cut_filter hi]
        refine congrArg (a :: ·) (List.filter_congr fun x hx => ?_)
        rw [hn x (List.mem_cons_of_mem _ hx)]
        rfl
      · rw [if_neg (by rw [hm a List.mem_cons_self, Bool.and_false]; exact Bool.false_ne_true), List.take_zero]
        refine (List.filter_eq_nil_iff.mpr fun x hx => ?_).symm
        rw [hm x (List.mem_cons_of_mem _ hx), Bool.and_false]
        exact Bool.false_ne_true
/-- two rows in strict order with the same members are one -/
theorem sorted_one {r : α → α → Prop} : ∀ {l m : List α}, (∀ x ∈ l, ∀ y ∈ l, r x y → r y x → False) → l.Pairwise r → m.Pairwise r → (∀ x, x ∈ l ↔ x ∈ m) → l = m
  | [], [], _, _, _, _ => rfl
  | [], b :: m, _, _, _, h => absurd ((h b).mpr List.mem_cons_self) (by simp)
  | a :: l, [], _, _, _, h => absurd ((h a).mp List.mem_cons_self) (by simp)
  | a :: l, b :: m, asy, hl, hm, h => by
    obtain ⟨l1, l2⟩ := List.pairwise_cons.mp hl
    obtain ⟨m1, m2⟩ := List.pairwise_cons.mp hm
    have irr : ∀ x ∈ a :: l, r x x → False := fun x hx z => asy x hx x hx z z
    have hb : b ∈ a :: l := (h b).mpr List.mem_cons_self
    have e : a = b := by
      rcases List.mem_cons.mp ((h a).mp List.mem_cons_self) with e | ha
      · exact e
      · rcases List.mem_cons.mp hb with e | hb'
        · exact e.symm
        · exact (asy a List.mem_cons_self b hb (l1 b hb') (m1 a ha)).elim
    subst e
    have q : l = m := sorted_one (fun x hx y hy => asy x (List.mem_cons_of_mem _ hx) y (List.mem_cons_of_mem _ hy)) l2 m2 fun x => by
      constructor
      · intro hx
        rcases List.mem_cons.mp ((h x).mp (List.mem_cons_of_mem _ hx)) with e | z
        · subst e
          exact (irr x List.mem_cons_self (l1 x hx)).elim
        · exact z
      · intro hx
        rcases List.mem_cons.mp ((h x).mpr (List.mem_cons_of_mem _ hx)) with e | z
        · subst e
          exact (irr x List.mem_cons_self (m1 x hx)).elim
        · exact z
    rw [q]
theorem mem_ins {l : List α} {k : Nat} {a x : α} : x ∈ l.take k ++ [a] ++ l.drop k ↔ x = a ∨ x ∈ l := by
  have e : x ∈ l ↔ x ∈ l.take k ∨ x ∈ l.drop k := by
    rw [← List.mem_append, List.take_append_drop]
  rw [List.mem_append, List.mem_append, List.mem_singleton, e]
  constructor
  · rintro ((h | h) | h)
    · exact .inr (.inl h)
    · exact .inl h
    · exact .inr (.inr h)
  · rintro (h | h | h)
    · exact .inl (.inr h)
    · exact .inl (.inl h)
    · exact .inr h
/-- put in behind the first k -/
theorem ins_sorted {r : α → α → Prop} {l : List α} {k : Nat} {a : α} (h : l.Pairwise r) (hb : ∀ (i : Nat) (x : α), l[i]? = some x → i < k → r x a) (hf : ∀ (i : Nat) (x : α), l[i]? = some x → k ≤ i → r a x) : (l.take k ++ [a] ++ l.drop k).Pairwise r := by
  have h' : (l.take k ++ l.drop k).Pairwise r := by rw [List.take_append_drop]; exact h
  obtain ⟨p1, p2, p3⟩ := List.pairwise_append.mp h'
  have f1 : ∀ x ∈ l.take k, r x a := fun x hx => by
    obtain ⟨i, hi⟩ := List.getElem?_of_mem hx
    rw [List.getElem?_take] at hi
    split at hi
    · exact hb i x hi (by assumption)
    · cases hi
  have f2 : ∀ x ∈ l.drop k, r a x := fun x hx => by
    obtain ⟨i, hi⟩ := List.getElem?_of_mem hx
    rw [List.getElem?_drop] at hi
    exact hf (k + i) x hi (Nat.le_add_right _ _)
  refine List.pairwise_append.mpr ⟨List.pairwise_append.mpr ⟨p1, List.pairwise_singleton _ _, fun x hx y hy => ?_⟩, p2, fun x hx y hy => ?_⟩
  · rw [List.mem_singleton.mp hy]
    exact f1 x hx
  · rcases List.mem_append.mp hx with z | z
    · exact p3 x z y hy
    · rw [List.mem_singleton.mp z]
      exact f2 y hy
theorem mem_erase {l : List α} {j : Nat} {a x : α} (hn : l.Nodup) (hj : l[j]? = some a) : x ∈ l.eraseIdx j ↔ x ∈ l ∧ x ≠ a := by
  have hlt := (List.getElem?_eq_some_iff.mp hj).1
  constructor
  · intro h
    refine ⟨List.mem_of_mem_eraseIdx h, fun e => ?_⟩
    subst e
    obtain ⟨i, hi, hne⟩ := List.mem_eraseIdx_iff_getElem?.mp h
    obtain ⟨hne, hi⟩ := (⟨hi, hne⟩ : i ≠ j ∧ l[i]? = some x)
    obtain ⟨h1, e1⟩ := List.getElem?_eq_some_iff.mp hi
    obtain ⟨h2, e2⟩ := List.getElem?_eq_some_iff.mp hj
    exact hne ((List.getElem_inj hn).mp (e1.trans e2.symm))
  · rintro ⟨h, hne⟩
    obtain ⟨i, hi⟩ := List.getElem?_of_mem h
    refine List.mem_eraseIdx_iff_getElem?.mpr ⟨i, fun e => ?_, hi⟩
    subst e
    rw [hi] at hj
    exact hne (Option.some.inj hj)
/-- one of more candidates than members is no member -/
theorem out_of [DecidableEq α] : ∀ (b c : List α), c.Nodup → b.length < c.length → ∃ x ∈ c, x ∉ b
  | [], c, _, h => by
    cases c with
    | nil => simp at h
    | cons x r => exact ⟨x, List.mem_cons_self, by simp⟩
  | a :: b, c, hn, h => by
    have hl : (c.erase a).length + 1 ≥ c.length := by
      rw [List.length_erase]
      split <;> omega
    rw [List.length_cons] at h
    obtain ⟨x, hx, hb⟩ := out_of b (c.erase a) (hn.erase a) (by omega)
    refine ⟨x, List.mem_of_mem_erase hx, fun z => ?_⟩
    rcases List.mem_cons.mp z with e | z
    · rw [e] at hx
      exact (List.Nodup.mem_erase_iff hn).mp hx |>.1 rfl
    · exact hb z
end

section
variable {φ : Type} {t : Tr φ} {th : Int → φ → Fq} {P : (φ → Fq) → Prop}
theorem lt'_asymm (o : IsOrd t P) {m n : Int} (hm : P (th m)) (hn : P (th n)) (h1 : lt' t th m n) (h2 : lt' t th n m) : False := by
  have e := o.anti (th m) (th n) hm hn
  unfold lt' at h1 h2
  omega
theorem lt'_le {m n : Int} (h : lt' t th m n) : side t (th m) (th n) < 1 := by
  unfold lt' at h
  omega
/-- of the row's things those ahead of x are the first ones; those not behind x too -/
theorem cut_ahead (o : IsOrd t P) {l : List Int} {x : φ → Fq} (hx : P x) (hl : ∀ n ∈ l, P (th n)) (hs : l.Pairwise (lt' t th)) : ∃ k, Cut (fun n => decide (side t (th n) x = -1)) l k :=
  cut_ex hs fun m hm n hn r h => by
    have e : side t (th n) x = -1 := of_decide_eq_true h
    have q := o.tran (th m) (th n) x (hl m hm) (hl n hn) hx (lt'_le r) (by omega)
    have := side_range t (th m) (th n)
    exact decide_eq_true (by omega)
theorem cut_upto (o : IsOrd t P) {l : List Int} {x : φ → Fq} (hx : P x) (hl : ∀ n ∈ l, P (th n)) (hs : l.Pairwise (lt' t th)) : ∃ k, Cut (fun n => decide (side t (th n) x < 1)) l k :=
  cut_ex hs fun m hm n hn r h => by
    have e : side t (th n) x < 1 := of_decide_eq_true h
    have q := o.tran (th m) (th n) x (hl m hm) (hl n hn) hx (lt'_le r) (by omega)
    have := lt'_le r
    exact decide_eq_true (by omega)
theorem row_put (o : IsOrd t P) {l : List Int} {k : Nat} {a : Int} (ha : P (th a)) (hl : ∀ n ∈ l, P (th n)) (hs : l.Pairwise (lt' t th)) (hlt : ∀ n ∈ l, n < a) (hc : Cut (fun n => decide (side t (th n) (th a) < 1)) l k) :
    (l.take k ++ [a] ++ l.drop k).Pairwise (lt' t th) := by
  refine ins_sorted hs (fun i x hx hi => ?_) fun i x hx hi => ?_
  · have e : side t (th x) (th a) < 1 := of_decide_eq_true ((hc.2 i x hx).mpr hi)
    have q := hlt x (List.mem_of_getElem? hx)
    unfold lt'
    omega
  · have e : ¬ side t (th x) (th a) < 1 := fun z => by
      have := (hc.2 i x hx).mp (decide_eq_true z)
      omega
    have q := o.anti (th a) (th x) ha (hl x (List.mem_of_getElem? hx))
    unfold lt'
    omega
theorem row_one (o : IsOrd t P) {l m : List Int} (hl : ∀ n ∈ l, P (th n)) (h1 : l.Pairwise (lt' t th)) (h2 : m.Pairwise (lt' t th)) (h : ∀ n, n ∈ l ↔ n ∈ m) : l = m :=
  sorted_one (fun x hx y hy a b => lt'_asymm o (hl x hx) (hl y hy) a b) h1 h2 h
theorem row_nodup (o : IsOrd t P) {l : List Int} (hl : ∀ n ∈ l, P (th n)) (h : l.Pairwise (lt' t th)) : l.Nodup := by
  have h' : l.Pairwise fun a b => P (th a) ∧ lt' t th a b := by
    refine List.Pairwise.imp_of_mem (fun {a b} ha _ r => ⟨hl a ha, r⟩) h
  refine h'.imp fun {a b} r e => ?_
  subst e
  exact lt'_asymm o r.1 r.1 r.2 r.2
/-- another table of things that tells the same of the row's numbers -/
theorem lt'_congr {th' : Int → φ → Fq} {l : List Int} (h : l.Pairwise (lt' t th)) (e : ∀ n ∈ l, th' n = th n) : l.Pairwise (lt' t th') :=
  List.Pairwise.imp_of_mem (fun {a b} ha hb r => by unfold lt' at r ⊢; rw [e a ha, e b hb]; exact r) h
end
end K67

set_option Elab.async false
set_option linter.all false
set_option maxRecDepth 100000
set_option maxHeartbeats 4000000
/-! Rules of this claim's own: a caught exception that is kept as a value; a base's __init__ called by the class; a written dict of ints. -/
namespace K67
open PySem PySem.Spec PyProof.Rows L2

/-! ### a caught exception, kept -/
/-- at a: an exception of the class cls, its own dict at d -/
def exE (cls : Value) (d : Option Addr) (a : Addr) : HO := .ext fun h => ∃ (oe : Obj) (vs : Array Value), h.get? a = some oe ∧ Zc cls d oe ∧ oe.data = .fields vs
theorem exE_ok {P : Program} {w : World} {H : Hp} {h : Heap} {a : Addr} {cls : Value} {d : Option Addr} {oe : Obj} {vs : Array Value} (e : h.get? a = some oe) (z : Zc cls d oe) (hd : oe.data = .fields vs) : ObjOk P w H h a (exE cls d a) :=
  ⟨⟨oe, vs, e, z, hd⟩, ⟨oe, e⟩, fun _ _ ⟨o, v, q, r⟩ k => ⟨o, v, k o q, r⟩⟩
theorem exE_tup {cls : Value} {d : Option Addr} {a : Addr} {xs : List V} : exE cls d a ≠ .tup xs := fun z => by
  unfold exE at z
  cases z
section
variable {X : Cx} {pins : List (Addr × Obj)} {σ : L2.St} {H : Hp} {sI : Shared} {B : Heap}
/-- the state behind a caught exception, the exception tracked -/
theorem landT {s2 : Shared} {a : Addr} {o : HO} (I : Inv X pins σ H sI) (hB : ∀ b u, sI.heap.get? b = some u → b ∉ frs X.stack → B.get? b = some u) (keepB : B.StaysIn s2.heap) (hU : sI.heap.UpToSlots s2.heap)
    (hO : s2.os = sI.os) (hG : AllBare s2.gens) (nB : B.get? a = none) (nF : a ∉ frs X.stack) (hN : H a = none) (new : ObjOk X.prog X.w (upd H a o) s2.heap a o) : Inv X pins σ (upd H a o) s2 := by
  have fresh : sI.heap.get? a = none := by
    cases q : sI.heap.get? a with
    | none => rfl
    | some u =>
      have z := hB a u q nF
      rw [nB] at z
      cases z
  have ne : ∀ {b u}, sI.heap.get? b = some u → b ≠ a := fun {b u} q z => by
    rw [z, fresh] at q
    cases q
  have slots : ∀ b, b ∈ frs X.stack → ∀ u, sI.heap.get? b = some u → ∃ sl, s2.heap.get? b = some { u with slots := sl } := fun b hb u q => by
    obtain ⟨_, u', q', hd⟩ := I.stack.mem hb
    rw [q] at q'
    cases q'
    exact hU b u q hd
  have ok1 : HOk X.prog X.w H s2.heap := (I.inGround hB).kept keepB
  have ok2 : HOk X.prog X.w (upd H a o) s2.heap := fun b u q => by
    by_cases hb : b = a
    · subst hb
      rw [upd_same] at q
      cases q
      exact new
    · rw [upd_ne hb] at q
      exact (ok1 b u q).stay (fun _ _ _ r => r) (fun c r => by rw [upd_ne (ne_of_none r hN)]; exact r) fun c xs r => by rw [upd_ne (ne_of_none r hN)]; exact r
  have U : Un (frs X.stack) [] H (upd H a o) sI.heap s2.heap := {
    keep := fun b u q _ hb _ => keepB b u (hB b u q hb)
    slot := fun b u q _ hb _ => slots b hb u q
    free := fun b u q n _ => by rw [upd_ne (ne q)]; exact n
    there := fun b u q _ => by
      by_cases hb : b ∈ frs X.stack
      · obtain ⟨sl, r⟩ := slots b hb u q
        exact ⟨_, r⟩
      · exact ⟨u, keepB b u (hB b u q hb)⟩
    tups := fun b xs q => by rw [upd_ne (ne_of_none q hN)]; exact q
    frzs := fun b u xs q => by rw [upd_ne (ne_of_none q hN)]; exact q
    tbls := fun b ps q => ⟨#[], by rw [upd_ne (ne_of_none q hN), q]; simp⟩ }
  exact I.call' (ch := []) hO U ok2 hG fun _ z => nomatch z
/-- into an except suite, nothing pinned for it -/
theorem toSuite {s : Shared} (I : Inv X pins σ H s) (a : Addr) : Inv (X.suite a (X.pn ++ pins)) [] σ H s :=
  ⟨I.ok.suite a _, I.os, I.bare, I.base, I.loc, I.cell, I.free, I.freeC, fun p hp => I.pin p (by rw [List.append_nil] at hp; exact hp), I.hok, I.len⟩
theorem ofSuite {s : Shared} {a : Addr} {more : List (Addr × Obj)} (I : Inv (X.suite a (X.pn ++ pins)) more σ H s) (ok : X.Ok) : Inv X pins σ H s :=
  ⟨ok, I.os, I.bare, I.base, I.loc, I.cell, I.free, I.freeC, fun p hp => I.pin p (List.mem_append_left _ hp), I.hok, I.len⟩
end

/-- what 'except x as n: suite' wishes; the exception is tracked from the suite on -/
def wTrk (K : PySem.W.Frag) (c : Value) (i : Nat) (ts : Addr → TS) (Wout : WX) (D : Ends) : WX := fun cls d σ H =>
  ∃ b, PySem.W.exmOne K cls c = some b ∧
    (b = true → ∀ a, H a = none → ts a { nx := fun σ1 H1 => D.nx (σ1.set i none) H1, rt := D.rt } (σ.set i (some (.ref a))) (upd H a (exE cls d a))) ∧ (b = false → Wout cls d σ H)
section
variable {X : Cx} {x n : Str} {c : Value} {i : Nat} {body suite : List Stmt} {b0 : Stmt} {np pos pos2 : Pos} {tb : WX → TS} {ts : Addr → TS} {Wout : WX}
theorem ps_try_trk (hs : X.stack = X.env :: X.outer) (hf : X.env.frame = some X.env.locals) (hN : X.N.Nodup) (hi : X.N[i]? = some n) (hln : X.env.kindOf n = some .local) (hc : Names X x c) (tk : Takes X Wout)
    (hb : ∀ (W : WX) (pn : List (Addr × Obj)) (xe : Value → Shared → Prop), Takes (X.tr pn xe) W → PassesOwn (model X.prog X.w) X.A X.env xe → PSs (X.tr pn xe) body (tb W))
    (hsu : ∀ (a : Addr) (pn : List (Addr × Obj)), PSs (X.suite a pn) (b0 :: suite) (ts a)) :
    PS X (.Try body [.ExceptHandler (some (.Name x np)) (some n) (b0 :: suite) pos2] [] [] pos) (fun D σ H => tb (wTrk X.K c i ts Wout D) D σ H) := by
  refine ⟨fun pins s σ H D I h => wpAny_Try_except ?_⟩
  have ok := I.ok
  have hfr : X.A.frames = some (X.env :: X.outer) := by
    rw [ok.frames, hs]
  have body_ := hb (wTrk X.K c i ts Wout D) (X.pn ++ pins)
    (fun e t1 => wpAny (model X.prog X.w) X.A (noteFrame e X.env) (fun _ t2 => wpAny (model X.prog X.w) X.A (setFlight e none)
      (fun _ t3 => wpAny (model X.prog X.w) X.A (handleBy e X.env [.ExceptHandler (some (.Name x np)) (some n) (b0 :: suite) pos2]) (SP X pins D) X.xe t3) X.xe t2) X.xe t1)
    (fun u t hx => ?_) PassesOwn.looking
  · refine wpAny_mono (body_.run [] s σ H D (I.toTry _) h) (fun fl t hsp => ?_) fun _ _ z => z
    cases fl with
    | next =>
      obtain ⟨σ1, H1, J, q⟩ := hsp
      exact wpAny_execs_nil ⟨σ1, H1, J.ofTry ok, q⟩
    | brk =>
      obtain ⟨σ1, H1, J, q⟩ := hsp
      exact ⟨σ1, H1, J.ofTry ok, q⟩
    | cont =>
      obtain ⟨σ1, H1, J, q⟩ := hsp
      exact ⟨σ1, H1, J.ofTry ok, q⟩
    | ret u =>
      obtain ⟨v, σ1, H1, J, r, q⟩ := hsp
      exact ⟨v, σ1, H1, J.ofTry ok, r, q⟩
  · obtain ⟨a, B, sI, ps, σ1, H1, cls, d, rfl, J0, hB, up, sky, hna, hos, hag, b, hb1, hyes, hno⟩ := hx
    have J := J0.ofTry ok
    rw [show (X.tr (X.pn ++ pins) _).stack = X.env :: X.outer from hs] at sky
    show wpAny (model X.prog X.w) X.A (noteFrame (.ref a) X.env) _ _ _
    refine Sky.land Zc.steady hfr hf sky fun h3 fl3 up3 => ?_
    have J3 : Inv X pins σ1 H1 { t with heap := h3 } := J.landed hB fl3.1 (up.trans up3) hos hag
    obtain ⟨oe3, vs3, he3, hz3, hd3⟩ := fl3.there
    have offF : a ∉ frs (X.env :: X.outer) := fun hm => by
      obtain ⟨_, ob, eb, hnot⟩ := fl3.2.2.1.mem hm
      rw [he3] at eb
      cases eb
      exact hnot _ hd3
    have offS : a ∉ frs X.stack := by
      rw [hs]
      exact offF
    refine wpAny_handleBy_cons (codeAny_handlers_test ?_) (by intro q; cases q)
    have LT : PySem.W.Looks (model X.prog X.w) h3 (typeOf (.ref a)) cls := fun A1 Q1 E1 s1 k1 q1 => wpAny_typeOf_ref (k1 _ _ he3) (by rw [hz3.1]; exact q1)
    have LM := PySem.W.exm_one (M := model X.prog X.w) J3.kIn LT hb1
    have S3 := toSuite J3 a
    have named : ∀ {Q1 : Value → Shared → Prop} {E1 : Value → Shared → Prop}, Q1 c { t with heap := h3 } →
        wpAny (model X.prog X.w) (X.A.mark (some (.ref a))) (eval (.Name x np) X.env) Q1 E1 { t with heap := h3 } := fun {Q1 E1} q1 => by
      obtain ⟨g1, g2, g3 | ⟨g3, g4, g5⟩⟩ := hc
      · exact ld_glob (X := X.suite a (X.pn ++ pins)) S3 g1 g3 q1 g2
      · exact ld_blt (X := X.suite a (X.pn ++ pins)) S3 g1 g3 g4 q1 g5 g2
    refine named (LM.here ?_)
    cases b with
    | true =>
      refine codeAny_handlers_suite_as ?_
      refine HandSPX.lands_againZ fl3 fun h4 fl4 up4 => ?_
      obtain ⟨oe4, vs4, he4, hz4, hd4⟩ := fl4.there
      have J4 : Inv X pins σ1 (upd H1 a (exE cls d a)) { t with heap := h4 } :=
        landT J hB fl4.1 ((up.trans up3).trans up4) hos hag fl4.2.1 offS hna (exE_ok he4 hz4 hd4)
      have S4 := toSuite J4 a
      refine store_ok (X := X.suite a (X.pn ++ pins)) (v := .ref a) S4 hN hi (.inl hln) rfl (fun s5 S5 => ?_) (.inr hln)
      refine wpAny_mono ((hsu a (X.pn ++ pins)).run [] s5 _ _ _ S5 (hyes rfl a hna)) (fun fl s6 hsp => ?_) fun _ _ z => False.elim z
      have last : ∀ {σ6 : L2.St} {H6 : Hp} {Q6 : Shared → Prop}, Inv (X.suite a (X.pn ++ pins)) [] σ6 H6 s6 → (∀ s7, Inv X pins (σ6.set i none) H6 s7 → Q6 s7) →
          wpAny (model X.prog X.w) X.A (do bindName X.env n .none; unbindBehindTheSuite X.env n pos2) (fun _ s7 => Q6 s7) X.xe s6 := fun {σ6 H6 Q6} S6 hq => gone_ok (ofSuite S6 ok) hN hi hln hq
      cases fl with
      | next =>
        obtain ⟨σ6, H6, S6, q6⟩ := hsp
        exact last S6 fun s7 J7 => ⟨_, _, J7, q6⟩
      | brk =>
        obtain ⟨_, _, _, q6⟩ := hsp
        exact False.elim q6
      | cont =>
        obtain ⟨_, _, _, q6⟩ := hsp
        exact False.elim q6
      | ret u =>
        obtain ⟨v6, σ6, H6, S6, r6, q6⟩ := hsp
        exact last S6 fun s7 J7 => ⟨_, _, _, J7, r6, q6⟩
    | false =>
      show wpAny _ X.A (handleBy (.ref a) X.env []) _ _ _
      refine wpAny_handleBy_nil ?_
      obtain ⟨_, _, _, oe, vs, T, oT, ts1, he, hz, hd, h1, hr⟩ := id fl3
      have fin : wpAny (model X.prog X.w) X.A (setFlight (.ref a) X.env.frame) (fun _ s4 => wpAny (model X.prog X.w) X.A (throw (.ref a) : Sem Flow) (SP X pins D) X.xe s4) X.xe { t with heap := h3 } := by
        rw [hf]
        refine HandSPX.setFlight_upZ fl3 fun h4 hh4 up4 => wpAny_throw (tk _ _ ⟨a, B, sI, pins, σ1, H1, cls, d, rfl, J, hB, (up.trans up3).trans up4, ?_, hna, hos, hag, hno rfl⟩)
        rw [hs]
        exact .inr (.inr hh4)
      unfold PySem.passOn
      refine wpAny_bind (wpAny_field he hd h1 ?_)
      rw [if_neg (show ¬ (Value.ref T == Value.none) = true by simp)]
      first
        | exact wpAny_bind (wpAny_pure (wpAny_bind fin))
        | exact wpAny_bind fin
end

/-! ### isinstance, a field of a kept exception -/
def DictX (H : Hp) : Option Addr → Prop
  | none => True
  | some dd => ∃ fs, H dd = some (.xd fs)
/-- what its class must say -/
structure ExcK (K : PySem.W.Frag) (D : Addr) : Prop where
  cl : (PySem.W.clsIn K D).isSome = true
  ga : PySem.W.findIn K (.ref D) "__getattribute__" = some (some (.builtin "BaseException.__getattribute__"))
  gg : PySem.W.findIn K (.ref D) "__getattr__" = some none
  sb : PySem.W.subIn K (.ref D) (.type "BaseException") = some true
  ca : PySem.W.findIn K (.ref D) "__class__" = some (some (.builtin "object.__class__"))
  sp : PySem.W.specialIn K (.builtin "object.__class__") "__get__" = some (some (.builtin "getset_descriptor.__get__"))
  tk : PySem.W.takesIn K (.builtin "object.__class__") = some true
  mo : PySem.W.mroIn K D (.type "object") = some true
section
variable {X : Cx} {pins : List (Addr × Obj)} {σ : L2.St} {H : Hp} {s : Shared}
theorem exE_inst {a D : Addr} {d : Option Addr} (I : Inv X pins σ H s) (ha : H a = some (exE (.ref D) d a)) (hd : DictX H d) : ∃ oe od, PySem.W.InstAt s.heap a oe D od := by
  obtain ⟨⟨oe, vs, he, hz, hf⟩, _⟩ := (show ObjOk X.prog X.w H s.heap a (exE (.ref D) d a) from I.hok a _ ha)
  have no : PySem.W.notCls oe = true := by
    unfold PySem.W.notCls
    rw [hf]
  cases d with
  | none => exact ⟨oe, none, he, hz.1, no, by rw [hz.2]; trivial⟩
  | some dd =>
    obtain ⟨fs, hx⟩ := hd
    obtain ⟨mA, hns, _⟩ := (show ObjOk X.prog X.w H s.heap dd (.xd fs) from I.hok dd _ hx)
    obtain ⟨od, ho, _⟩ := lookIn_ns hns
    exact ⟨oe, some od, he, hz.1, no, by rw [hz.2]; exact ho⟩
def rIsX (K : PySem.W.Frag) : List V → Hp → VK → Prop := fun xs H Q => ∃ (a D : Addr) (d : Option Addr) (c : V) (u : Value) (b : Bool), xs = [.ref a, c] ∧ H a = some (exE (.ref D) d a) ∧ DictX H d ∧ ExcK K D ∧ ClsV c u ∧ PySem.W.kitOne K (.ref D) u = some b ∧ Q (.bl b) H
def rIsXT (K : PySem.W.Frag) : List V → Hp → VK → Prop := fun xs H Q => ∃ (a D : Addr) (d : Option Addr) (tp : Addr) (cs : List V) (us : List Value) (b : Bool), xs = [.ref a, .ref tp] ∧ H a = some (exE (.ref D) d a) ∧ DictX H d ∧ ExcK K D ∧
  H tp = some (.tup cs) ∧ Paired ClsV cs us ∧ PySem.W.kitAny K (.ref D) us = some b ∧ Q (.bl b) H
theorem call_isX : CallR X (.builtin "isinstance") (rIsX X.K) := by
  intro pins s σ H xs us Q I r h
  obtain ⟨a, D, d, c, u, b, rfl, ha, hd, T, k, e, q⟩ := h
  obtain ⟨u1, u2, rfl, r1, r2⟩ := vals2 r
  cases (show u1 = Value.ref a from r1)
  have e2 := k.eq r2
  subst e2
  obtain ⟨oe, od, J⟩ := exE_inst I ha hd
  exact PySem.W.kia_one (PySem.W.kitx_exc T.cl T.ga T.gg T.sb T.ca T.sp T.tk T.mo) I.kIn J e (fun z => nomatch z) fun tk => ⟨.bl b, H, I.tok tk, rfl, q⟩
theorem call_isXT : CallR X (.builtin "isinstance") (rIsXT X.K) := by
  intro pins s σ H xs us Q I r h
  obtain ⟨a, D, d, tp, cs, ws, b, rfl, ha, hd, T, hT, k, e, q⟩ := h
  obtain ⟨u1, u2, rfl, r1, r2⟩ := vals2 r
  cases (show u1 = Value.ref a from r1)
  cases (show u2 = Value.ref tp from r2)
  obtain ⟨oe, od, J⟩ := exE_inst I ha hd
  obtain ⟨_, its, rv, ob, g1, g2, n, g3⟩ := (show ObjOk X.prog X.w H s.heap tp (.tup cs) from I.hok tp _ hT)
  have e3 := ClsV.all k rv
  subst e3
  obtain ⟨oc, od', dt, sl⟩ := ob
  simp only at g2 g3
  subst g2 g3
  exact PySem.W.kia_tup (PySem.W.kitx_exc T.cl T.ga T.gg T.sb T.ca T.sp T.tk T.mo) I.kIn J g1 e (fun z => nomatch z) fun tk => ⟨.bl b, H, I.tok tk, rfl, q⟩
/-- e.f, e a kept exception whose own dict holds f -/
def tXfK (K : PySem.W.Frag) (f : Str) (te : TE) : TE := fun σ H Q => te σ H fun x H1 => ∃ (a D dd : Addr) (fs : List (Str × V)) (v : V), x = .ref a ∧ H1 a = some (exE (.ref D) (some dd) a) ∧ H1 dd = some (.xd fs) ∧ ExcK K D ∧ PySem.W.hasDictIn K D = true ∧
  PySem.W.findIn K (.ref D) f = some none ∧ fs.lookup f = some v ∧ Q v H1
theorem pe_xfK {e : Expr} {te : TE} {pos : Pos} {f : Str} (he : PE X e te) (hb : attributeBase e f X.env (eval e X.env) = eval e X.env := by rfl) : PE X (.Attribute e f pos) (tXfK X.K f te) := by
  refine ⟨fun pins s σ H Q I h => attr_of hb (thn (he.run pins s σ H _ I h) fun u s1 hh => ?_)⟩
  obtain ⟨y, H1, I1, ry, a, D, dd, fs, v, rfl, ha, hx, T, hD, hno, l, q⟩ := hh
  obtain rfl : u = Value.ref a := ry
  obtain ⟨⟨oe, vs, g1, g2, g3⟩, _⟩ := (show ObjOk X.prog X.w H1 s1.heap a (exE (.ref D) (some dd) a) from I1.hok a _ ha)
  obtain ⟨mA, hns, hr⟩ := (show ObjOk X.prog X.w H1 s1.heap dd (.xd fs) from I1.hok dd _ hx)
  obtain ⟨od, ho, hl⟩ := lookIn_ns hns
  obtain ⟨u, hu, ru⟩ := RelO.some_of (v := v) (o := mA f) (by rw [← l]; exact hr f)
  have J : PySem.W.InstAt s1.heap a oe D (some od) := ⟨g1, g2.1, by unfold PySem.W.notCls; rw [g3] <;> rfl, by rw [g2.2]; exact ho⟩
  exact HandSPX.exc_get I1.kIn J T.ga T.gg T.sb (PySem.W.findObj_own hD hno rfl (by rw [hl, hu])) (handed_of ru) ⟨v, H1, I1.tok _, ru, q⟩
end

/-! ### C.__init__(self, ..), C an own class over ValueError that brings no __init__ -/
section
variable {X : Cx} {e : Expr} {es : List Expr} {ta : TA} {p1 p2 pos : Pos}
theorem pe_oinit {pl : Sem Bool} {x : Str} {O : Addr} (hg : Gl X x) (hm : X.mg x = some (.ref O)) (hsp : PySem.W.specialIn X.K (.ref O) "__getattribute__" = some (some (.builtin "type.__getattribute__")))
    (hrd : PySem.W.readsIn X.K O (.type "type") = true) (vV : PySem.W.findCls X.K (.ref O) (.type "type") "__init__" = some (.val (.builtin "ValueError.__init__"))) (ha : PA X (e :: es) ta)
    (hc : eval (.Call (.Attribute (.Name x p1) "__init__" p2) (e :: es) [] pos) X.env = (do
      let ov ← eval (.Name x p1) X.env
      standAt p2.atName
      let (g, first) ← holding [ov] (getMethod ov "__init__" pl)
      callWith pos g first (backTo pos (starEach (e :: es) X.env)) (backToKw pos (keywordEach [] X.env))) := by rfl)
    (he : starEach (e :: es) X.env = (false, eval e X.env) :: starEach es X.env := by rfl) (hpl : (backTo pos (starEach es X.env)).any (·.1) = false := by rfl) (hdb : (x == ("__debug__" : Str)) = false := by decide) :
    PE X (.Call (.Attribute (.Name x p1) "__init__" p2) (e :: es) [] pos) (tVeI X.K ta) := by
  refine ⟨fun pins s σ H Q I h => PySem.W.methodCall_KW (ld_glob I hg hm ?_ hdb) hc⟩
  refine PySem.W.method_cls I.kIn hsp (PySem.W.cls_value I.kIn hrd vV (by decide +kernel) ?_)
  show wpAny _ _ (callWith pos (Value.builtin "ValueError.__init__") [] (backTo pos (starEach (e :: es) X.env)) []) _ _ _
  refine PyProof.Rows.callWith_method1 (thn (ha.run pos pins _ σ H _ (I.tok _) h) fun us s1 hh => ?_) he hpl
  obtain ⟨vs, H1, I1, r1, a, C, ws, rfl, hl, T, ea, q⟩ := hh
  cases r1 with
  | @cons _ u0 _ ur ra rw1 =>
    obtain rfl : u0 = Value.ref a := ra
    have hlen : ur.length ≤ sizeLine := by
      rw [← Paired.length rw1, sizeLine_eq]
      omega
    exact oinit_ok T I1 ea hlen fun s2 J => ⟨.non, H1, J, rfl, q⟩
end

/-! ### a written dict whose keys are ints -/
/-- its entries, held against what is asked of it -/
def intKeys (es : Array DictEntry) : Bool := es.toList.all fun e => match e.key with
  | .int k _ => e.hash == hashInt k
  | _ => false
def KInt (K : PySem.W.Frag) (a : Addr) (i : Int) (v : V) : Prop := ∃ es n u, K.lookup a = some ⟨.type "dict", none, .dict es n, #[]⟩ ∧ intKeys es = true ∧ findBy Value.isInt es i = some u ∧ RelV v u
def rIxKI (K : PySem.W.Frag) : R2 := fun x y H Q => ∃ p i v, x = .ref p ∧ y = .int i ∧ KInt K p i v ∧ Q v H
theorem mapOf_int {prog : Program} {w : World} {K : PySem.W.Frag} {h : Heap} {a : Addr} {es : Array DictEntry} {n : Nat} (X : K.In h) (hl : K.lookup a = some ⟨.type "dict", none, .dict es n, #[]⟩) (hk : intKeys es = true) :
    h.MapOf (PySem.intKind prog w) a (findBy Value.isInt es) := by
  refine ⟨_, es, n, X _ _ hl, ⟨rfl, rfl, rfl⟩, rfl, fun e he => ?_, fun _ => rfl⟩
  have q := List.all_eq_true.mp hk e (Array.mem_toList_iff.mpr he)
  split at q
  · rename_i k t ek
    exact ⟨k, by rw [ek]; exact intKind_is prog w k t, beq_iff_eq.mp q⟩
  · cases q
theorem ix_kint {X : Cx} : IxR X (rIxKI X.K) := by
  intro value slice pins s σ H x y v u Q I rx ry h hs
  obtain ⟨p, i, r, rfl, rfl, ⟨es, n, u0, hl, hk, e, ru⟩, q⟩ := h
  obtain rfl : v = Value.ref p := rx
  obtain ⟨t, rfl⟩ := ry
  have hm := mapOf_int (prog := X.prog) (w := X.w) I.kIn hl hk
  exact tail_any hm.typeIs slot_dict_getitem.lookup (wpAny_getItem_of (intKind_is X.prog X.w i t) hm e ⟨r, H, I.tok _, ru, q⟩) hs
/-! ### s[::-1] of a text: some text no longer than s -/
theorem idx_back (n : Nat) : (Builtin.Str.strSliceIndices none none (-1) n).length ≤ n := by
  unfold Builtin.Str.strSliceIndices sliceRange
  simp only [List.length_map, List.length_range]
  have c0 : ¬ ((-1 : Int) > 0) := by decide
  rw [if_neg c0, if_neg c0, if_neg c0]
  by_cases c : (n : Int) - 1 > -1
  · rw [if_pos c]
    have q : ((n : Int) - 1 - -1 - -1 - 1) / - -1 = n := by
      rw [show (- -1 : Int) = 1 from rfl, Int.ediv_one]
      omega
    rw [q]
    omega
  · rw [if_neg c]
    exact Nat.zero_le _
def tRevS (te : TE) : TE := fun σ H Q => te σ H fun x H1 => ∃ z, x = .str z ∧ z.length ≤ sizeLine ∧ ∀ y : Str, y.length ≤ z.length → Q (.str y) H1
theorem pe_revS {X : Cx} {e : Expr} {te : TE} {k : Nat} {p1 p2 p3 pos : Pos} (he : PE X e te) : PE X (.Subscript e (.Slice none none (some (.UnaryOp .USub (.Constant (.int 1) k p1) p2)) p3) pos) (tRevS te) := by
  refine ⟨fun pins s σ H Q I h => Subscript_ (thn (he.run pins s σ H _ I h) fun v s1 hh => ?_)⟩
  obtain ⟨x, H1, I1, r1, z, rfl, hz, q⟩ := hh
  obtain ⟨t, rfl⟩ := (show ∃ t, v = Value.str z t from r1)
  have minus : PO X (some (.UnaryOp .USub (.Constant (.int 1) k p1) p2)) (tPart (tUn (rU fun i => .int (-i)) (tC (.int 1)))) := po_some (pe_un un_neg pe_int)
  refine wpAny_Slice (thn (po_none.run pins s1 σ H1 (fun o G => o = none ∧ G = H1) I1 ⟨rfl, rfl⟩) fun vl s2 h2 => ?_)
  obtain ⟨l, H2, I2, pl, el, e2⟩ := h2
  subst el e2
  refine thn (po_none.run pins s2 σ H2 (fun o G => o = none ∧ G = H2) I2 ⟨rfl, rfl⟩) fun vu s3 h3 => ?_
  obtain ⟨u, H3, I3, pu, eu, e3⟩ := h3
  subst eu e3
  refine thn (minus.run pins s3 σ H3 (fun o G => o = some (-1) ∧ G = H3) I3 ⟨1, rfl, -1, rfl, rfl, rfl⟩) fun vst s4 h4 => ?_
  obtain ⟨o, H4, I4, pst, eo, e4⟩ := h4
  subst eo e4
  have I5 : Inv X pins σ H4 { s4 with heap := s4.heap.push { cls := .type "slice", data := .fields #[vl, vu, vst] } } := I4.kept (t' := s4.toks) fun b ob g => Heap.get?_push_of_some _ g
  obtain ⟨l, rfl, hl⟩ := IsPart.raw pl
  obtain ⟨u, rfl, hu⟩ := IsPart.raw pu
  obtain ⟨st, rfl, hst⟩ := IsPart.raw pst
  refine tail_any (ops := [.str z t, .ref s4.heap.objs.size]) (typeIs_str _ _ _) F.slot_str_getitem.lookup ?_ (by with_unfolding_all rfl)
  refine wpAny_getItem_str_slice (l := l) (u := u) (st := st) ⟨_, Heap.get?_push_size _ rfl, rfl, rfl⟩ (by rw [hst]; rfl) ?_
  unfold sliceMade slicePicked
  rw [hst, hl, hu]
  rw [if_neg (show ¬ ((((some (-1) : Option Int)).getD 1 == 1) && _) = true by simp)]
  have size : ((Builtin.Str.strSliceIndices none none (-1) z.length).filterMap (z.cps[·]?)).length ≤ z.length := Nat.le_trans (List.length_filterMap_le _ _) (idx_back _)
  refine ⟨?_, .str _, H4, I5.tok _, ⟨_, rfl⟩, q _ ?_⟩
  · show (((Builtin.Str.strSliceIndices none none (-1) z.length).filterMap (z.cps[·]?)).toArray).size ≤ sizeLine
    rw [List.size_toArray]
    exact Nat.le_trans size hz
  · show (((Builtin.Str.strSliceIndices none none (-1) z.length).filterMap (z.cps[·]?)).toArray).size ≤ z.length
    rw [List.size_toArray]
    exact size
/-! ### a tuple known as its object (no dict of its own): made by tuple(list); its .index -/
/-- a tuple, known whole -/
def tupO (ob : Obj) (ys : List V) : HO := .frz ob (.tup ys)
theorem call_tuple_known {X : Cx} : CallR X (.type "tuple") (fun xs H Q => ∃ p ys, xs = [.ref p] ∧ SqL X.K H p ys ∧ ∀ (l : Addr) (ob : Obj), H l = none → ob.dict = none → Q (.ref l) (upd H l (tupO ob ys))) := by
  intro pins s σ H xs us Q I r h
  obtain ⟨p, ys, rfl, hq, q⟩ := h
  obtain ⟨u, rfl, rx⟩ := vals1 r
  cases (show u = Value.ref p from rx)
  obtain ⟨its, r1, pl, hz⟩ := I.list hq
  have hlen := r1.length
  refine call_tuple_list pl.isList (fun h1 kp => ?_) (by simp only [List.size_toArray] <;> omega)
  have J : Inv X pins σ H { s with heap := h1 } := I.kept (t' := s.toks) kp
  have made : ObjOk X.prog X.w (upd H h1.objs.size (tupO { cls := .type "tuple", data := .seq its.toArray } ys)) (h1.push { cls := .type "tuple", data := .seq its.toArray }) h1.objs.size
      (tupO { cls := .type "tuple", data := .seq its.toArray } ys) := ⟨Heap.get?_push_size _ rfl, hz, its, r1, IsTup.new _ _⟩
  exact ⟨.ref h1.objs.size, _, J.laid (t' := s.toks) (fun b o e => Heap.get?_push_of_some _ e) (Nat.le_refl _) made, rfl, q _ _ (J.hok.fresh (Nat.le_refl _)) rfl⟩
def tTM (r : V → List V → Hp → VK → Prop) (to : TE) (t : TA) : TE := fun σ H Q => to σ H fun x H1 => (∃ (p : Addr) (ob : Obj) (ys : List V), x = .ref p ∧ H1 p = some (tupO ob ys) ∧ ob.dict = none) ∧ t σ H1 fun xs H2 => r x xs H2 Q
section
variable {X : Cx} {o e : Expr} {es : List Expr} {to : TE} {t : TA} {name : Str} {apos cpos : Pos} {id : String} {r : V → List V → Hp → VK → Prop}
theorem pe_tm (slot : Slot "tuple" name id) (hty : typeOf (.builtin id) = pure (.type "method_descriptor")) (hm : MtR X id r) (ho : PE X o to) (ha : PA X (e :: es) t)
    (hbase : attributeBase o name X.env (eval o X.env) = eval o X.env := by rfl)
    (few : ((backTo cpos (starEach (e :: es) X.env)).all (fun x => !x.1) && (backToKw cpos (keywordEach [] X.env)).all (fun x => x.1.isSome) && decide ((e :: es).length + ([] : List Keyword).length + (if ([] : List Keyword).isEmpty then 0 else 1) < 30)) = true := by rfl)
    (hline : (apos.endLine == cpos.line) = true := by rfl) (hs : starEach (e :: es) X.env = (false, eval e X.env) :: starEach es X.env := by rfl)
    (plain : (backTo cpos (starEach es X.env)).any (·.1) = false := by rfl) : PE X (.Call (.Attribute o name apos) (e :: es) [] cpos) (tTM r to t) := by
  refine ⟨fun pins s σ H Q I h => wpAny_Call_method_late hbase few hline rfl (thn (ho.run pins s σ H _ I h) fun v s1 hh => ?_)⟩
  obtain ⟨x, H1, I1, r1, ⟨p, ob, ys, rfl, hp, hd⟩, q1⟩ := hh
  obtain rfl : v = Value.ref p := r1
  obtain ⟨g1, _, its, _, oo, g2, g3, _⟩ := (show ObjOk X.prog X.w H1 s1.heap p (tupO ob ys) from I1.hok p _ hp)
  refine ⟨"tuple", id, PySem.F.plainAttrs_tuple, slot, hty, ⟨oo, g2, g3⟩, fun a ea => ?_, ?_⟩
  · cases ea
    exact ⟨ob, g1, hd⟩
  · have args := ha.run cpos pins s1 σ H1 _ I1 q1
    rw [hs] at args ⊢
    refine Calls.callWith_builtin (show (false || (backTo cpos (starEach es X.env)).any fun y => y.1) = false by rw [plain]; rfl) (Calls.evalArgs_plain (thn args fun us s2 h2 => ?_))
    obtain ⟨vs, H2, I2, r2, q2⟩ := h2
    exact hm pins s2 σ H2 (.ref p) vs _ us Q I2 rfl r2 q2
end
end K67

set_option Elab.async false
set_option linter.all false
set_option maxRecDepth 100000
set_option maxHeartbeats 4000000
/-! The text by its places, and what the top leaves. -/
namespace K67
open PySem PySem.Spec PyProof.Rows L2
def top (i : Nat) : Stmt := PySem.Challenge.pw_ordertext_k67_shelf_refused_and_between.main.body.getD i (.Pass ⟨0, 0, 0, 0⟩)
abbrev s_NoField_init : Stmt := inClass (top 4) 0
abbrev s_compared : Stmt := top 12
abbrev s_Look_init : Stmt := inClass (top 15) 0
abbrev s_Look_next_word : Stmt := inClass (top 15) 1
abbrev s_Look_both_fields : Stmt := inClass (top 15) 2
abbrev s_Look_side : Stmt := inClass (top 15) 3
abbrev s_Look_case : Stmt := inClass (top 15) 4
abbrev s_Look_mark : Stmt := inClass (top 15) 5
abbrev s_side_of : Stmt := top 16
abbrev s_looked : Stmt := top 17
abbrev s_Shelf_init : Stmt := inClass (top 19) 0
abbrev s_Shelf_found : Stmt := inClass (top 19) 1
abbrev s_Shelf_stand : Stmt := inClass (top 19) 2
abbrev s_Shelf_put : Stmt := inClass (top 19) 3
abbrev s_Shelf_thing : Stmt := inClass (top 19) 4
abbrev s_Shelf_take : Stmt := inClass (top 19) 5
abbrev s_Shelf_change : Stmt := inClass (top 19) 6
abbrev s_Shelf_numbers : Stmt := inClass (top 19) 7
abbrev s_Shelf_place : Stmt := inClass (top 19) 8
abbrev s_Shelf_between : Stmt := inClass (top 19) 9
abbrev s_l_hand : Stmt := top 21
abbrev s_l_draw : Stmt := top 22
abbrev s_l_fraction : Stmt := top 23
abbrev s_l_number : Stmt := top 24
abbrev s_l_name : Stmt := top 25
abbrev s_l_book : Stmt := top 26
abbrev s_l_mark : Stmt := top 27
abbrev s_l_case : Stmt := top 28
abbrev s_l_tree : Stmt := top 29
abbrev s_l_words : Stmt := top 30
abbrev s_l_less : Stmt := top 31
abbrev s_l_holds : Stmt := top 32
abbrev s_l_side : Stmt := top 33
abbrev s_l_is_order : Stmt := top 34
abbrev s_l_setting : Stmt := top 35
abbrev s_l_order : Stmt := top 36
abbrev s_l_shelf : Stmt := top 38
abbrev s_l_rows : Stmt := top 39
abbrev s_l_call : Stmt := top 40
abbrev s_l_refused : Stmt := top 41
abbrev s_l_no_field : Stmt := top 42
abbrev s_l_asked : Stmt := top 43
abbrev s_law : Stmt := top 44
/-- a def of the top -/
structure DefOk (K : PySem.W.Frag) (mg : Str → Option Value) (x : Str) (st : Stmt) (ps : List Str) (f : Addr) (fd : FuncData) : Prop where
  fn : Fun K x x st f fd
  bd : Binds K fd ps []
  mg : mg x = some (.ref f)
/-- a method -/
structure MethOk (K : PySem.W.Frag) (C : Addr) (x qual : Str) (st : Stmt) (ps : List Str) (f : Addr) (fd : FuncData) : Prop where
  fn : Fun K x qual st f fd
  bd : Binds K fd ps []
  mt : Meth K C x f
/-- an __init__ -/
structure InitOk (K : PySem.W.Frag) (qual : Str) (st : Stmt) (ps : List Str) (f : Addr) (fd : FuncData) : Prop where
  fn : Fun K "__init__" qual st f fd
  bd : Binds K fd ps []
/-- what the top leaves -/
structure Env (K : PySem.W.Frag) (mg : Str → Option Value) where
  CLook : Addr
  CShelf : Addr
  COrderError : Addr
  CNoNumber : Addr
  CNoOrder : Addr
  CNoField : Addr
  CNoRow : Addr
  CClash : Addr
  CNoNet : Addr
  CNoPlace : Addr
  CNoThing : Addr
  CNoAsk : Addr
  f_NoField_init : Addr
  fd_NoField_init : FuncData
  f_compared : Addr
  fd_compared : FuncData
  f_Look_init : Addr
  fd_Look_init : FuncData
  f_Look_next_word : Addr
  fd_Look_next_word : FuncData
  f_Look_both_fields : Addr
  fd_Look_both_fields : FuncData
  f_Look_side : Addr
  fd_Look_side : FuncData
  f_Look_case : Addr
  fd_Look_case : FuncData
  f_Look_mark : Addr
  fd_Look_mark : FuncData
  f_side_of : Addr
  fd_side_of : FuncData
  f_looked : Addr
  fd_looked : FuncData
  f_Shelf_init : Addr
  fd_Shelf_init : FuncData
  f_Shelf_found : Addr
  fd_Shelf_found : FuncData
  f_Shelf_stand : Addr
  fd_Shelf_stand : FuncData
  f_Shelf_put : Addr
  fd_Shelf_put : FuncData
  f_Shelf_thing : Addr
  fd_Shelf_thing : FuncData
  f_Shelf_take : Addr
  fd_Shelf_take : FuncData
  f_Shelf_change : Addr
  fd_Shelf_change : FuncData
  f_Shelf_numbers : Addr
  fd_Shelf_numbers : FuncData
  f_Shelf_place : Addr
  fd_Shelf_place : FuncData
  f_Shelf_between : Addr
  fd_Shelf_between : FuncData
  f_l_hand : Addr
  fd_l_hand : FuncData
  f_l_draw : Addr
  fd_l_draw : FuncData
  f_l_fraction : Addr
  fd_l_fraction : FuncData
  f_l_number : Addr
  fd_l_number : FuncData
  f_l_name : Addr
  fd_l_name : FuncData
  f_l_book : Addr
  fd_l_book : FuncData
  f_l_mark : Addr
  fd_l_mark : FuncData
  f_l_case : Addr
  fd_l_case : FuncData
  f_l_tree : Addr
  fd_l_tree : FuncData
  f_l_words : Addr
  fd_l_words : FuncData
  f_l_less : Addr
  fd_l_less : FuncData
  f_l_holds : Addr
  fd_l_holds : FuncData
  f_l_side : Addr
  fd_l_side : FuncData
  f_l_is_order : Addr
  fd_l_is_order : FuncData
  f_l_setting : Addr
  fd_l_setting : FuncData
  f_l_order : Addr
  fd_l_order : FuncData
  f_l_shelf : Addr
  fd_l_shelf : FuncData
  f_l_rows : Addr
  fd_l_rows : FuncData
  f_l_call : Addr
  fd_l_call : FuncData
  f_l_refused : Addr
  fd_l_refused : FuncData
  f_l_no_field : Addr
  fd_l_no_field : FuncData
  f_l_asked : Addr
  fd_l_asked : FuncData
  f_law : Addr
  fd_law : FuncData
  NoField_init : InitOk K "NoField.__init__" s_NoField_init ["self", "word"] f_NoField_init fd_NoField_init
  compared : DefOk K mg "compared" s_compared ["one", "other"] f_compared fd_compared
  Look_init : InitOk K "Look.__init__" s_Look_init ["self", "order", "book", "one", "other"] f_Look_init fd_Look_init
  Look_next_word : MethOk K CLook "next_word" "Look.next_word" s_Look_next_word ["self"] f_Look_next_word fd_Look_next_word
  Look_both_fields : MethOk K CLook "both_fields" "Look.both_fields" s_Look_both_fields ["self"] f_Look_both_fields fd_Look_both_fields
  Look_side : MethOk K CLook "side" "Look.side" s_Look_side ["self", "which"] f_Look_side fd_Look_side
  Look_case : MethOk K CLook "case" "Look.case" s_Look_case ["self"] f_Look_case fd_Look_case
  Look_mark : MethOk K CLook "mark" "Look.mark" s_Look_mark ["self"] f_Look_mark fd_Look_mark
  side_of : DefOk K mg "side_of" s_side_of ["order", "book", "one", "other"] f_side_of fd_side_of
  looked : DefOk K mg "looked" s_looked ["order", "book", "one", "other"] f_looked fd_looked
  Shelf_init : InitOk K "Shelf.__init__" s_Shelf_init ["self", "orders", "book"] f_Shelf_init fd_Shelf_init
  Shelf_found : MethOk K CShelf "found" "Shelf.found" s_Shelf_found ["self", "which", "thing", "words"] f_Shelf_found fd_Shelf_found
  Shelf_stand : MethOk K CShelf "stand" "Shelf.stand" s_Shelf_stand ["self", "number", "thing"] f_Shelf_stand fd_Shelf_stand
  Shelf_put : MethOk K CShelf "put" "Shelf.put" s_Shelf_put ["self", "thing"] f_Shelf_put fd_Shelf_put
  Shelf_thing : MethOk K CShelf "thing" "Shelf.thing" s_Shelf_thing ["self", "number"] f_Shelf_thing fd_Shelf_thing
  Shelf_take : MethOk K CShelf "take" "Shelf.take" s_Shelf_take ["self", "number"] f_Shelf_take fd_Shelf_take
  Shelf_change : MethOk K CShelf "change" "Shelf.change" s_Shelf_change ["self", "number", "field", "fraction"] f_Shelf_change fd_Shelf_change
  Shelf_numbers : MethOk K CShelf "numbers" "Shelf.numbers" s_Shelf_numbers ["self", "which"] f_Shelf_numbers fd_Shelf_numbers
  Shelf_place : MethOk K CShelf "place" "Shelf.place" s_Shelf_place ["self", "which", "number"] f_Shelf_place fd_Shelf_place
  Shelf_between : MethOk K CShelf "between" "Shelf.between" s_Shelf_between ["self", "which", "one", "other"] f_Shelf_between fd_Shelf_between
  l_hand : DefOk K mg "_law_hand" s_l_hand ["script"] f_l_hand fd_l_hand
  l_draw : DefOk K mg "_law_draw" s_l_draw ["hand", "limit"] f_l_draw fd_l_draw
  l_fraction : DefOk K mg "_law_fraction" s_l_fraction ["above", "below"] f_l_fraction fd_l_fraction
  l_number : DefOk K mg "_law_number" s_l_number ["hand"] f_l_number fd_l_number
  l_name : DefOk K mg "_law_name" s_l_name ["hand"] f_l_name fd_l_name
  l_book : DefOk K mg "_law_book" s_l_book ["hand"] f_l_book fd_l_book
  l_mark : DefOk K mg "_law_mark" s_l_mark ["hand", "book", "numbers"] f_l_mark fd_l_mark
  l_case : DefOk K mg "_law_case" s_l_case ["hand", "book", "numbers", "deep"] f_l_case fd_l_case
  l_tree : DefOk K mg "_law_tree" s_l_tree ["hand", "book", "numbers", "deep"] f_l_tree fd_l_tree
  l_words : DefOk K mg "_law_words" s_l_words ["tree"] f_l_words fd_l_words
  l_less : DefOk K mg "_law_less" s_l_less ["one", "other"] f_l_less fd_l_less
  l_holds : DefOk K mg "_law_holds" s_l_holds ["case", "book", "one", "other"] f_l_holds fd_l_holds
  l_side : DefOk K mg "_law_side" s_l_side ["tree", "book", "one", "other"] f_l_side fd_l_side
  l_is_order : DefOk K mg "_law_is_order" s_l_is_order ["tree", "book", "things"] f_l_is_order fd_l_is_order
  l_setting : DefOk K mg "_law_setting" s_l_setting ["hand"] f_l_setting fd_l_setting
  l_order : DefOk K mg "_law_order" s_l_order ["hand", "book", "numbers", "pool"] f_l_order fd_l_order
  l_shelf : DefOk K mg "_law_shelf" s_l_shelf ["hand"] f_l_shelf fd_l_shelf
  l_rows : DefOk K mg "_law_rows" s_l_rows ["trees", "book", "things"] f_l_rows fd_l_rows
  l_call : DefOk K mg "_law_call" s_l_call ["shelf", "word", "number", "field", "part", "which"] f_l_call fd_l_call
  l_refused : DefOk K mg "_law_refused" s_l_refused ["shelf", "word", "number", "field", "part", "which"] f_l_refused fd_l_refused
  l_no_field : DefOk K mg "_law_no_field" s_l_no_field ["hand", "book"] f_l_no_field fd_l_no_field
  l_asked : DefOk K mg "_law_asked" s_l_asked ["hand", "shelf", "book", "trees", "pool", "things", "given"] f_l_asked fd_l_asked
  law : DefOk K mg "law" s_law ["script"] f_law fd_law
  clLook : Cls K CLook
  mkLook : Mk K CLook f_Look_init
  mgLook : mg "Look" = some (.ref CLook)
  nLook_order : NoAttr K CLook "order"
  nLook_book : NoAttr K CLook "book"
  nLook_things : NoAttr K CLook "things"
  nLook_gone : NoAttr K CLook "gone"
  clShelf : Cls K CShelf
  mkShelf : Mk K CShelf f_Shelf_init
  mgShelf : mg "Shelf" = some (.ref CShelf)
  nShelf_orders : NoAttr K CShelf "orders"
  nShelf_book : NoAttr K CShelf "book"
  nShelf_things : NoAttr K CShelf "things"
  nShelf_given : NoAttr K CShelf "given"
  nShelf_lists : NoAttr K CShelf "lists"
  mgOrderError : mg "OrderError" = some (.ref COrderError)
  mgNoNumber : mg "NoNumber" = some (.ref CNoNumber)
  mgNoOrder : mg "NoOrder" = some (.ref CNoOrder)
  mgNoField : mg "NoField" = some (.ref CNoField)
  mgNoRow : mg "NoRow" = some (.ref CNoRow)
  mgClash : mg "Clash" = some (.ref CClash)
  mgNoNet : mg "NoNet" = some (.ref CNoNet)
  mgNoPlace : mg "NoPlace" = some (.ref CNoPlace)
  mgNoThing : mg "NoThing" = some (.ref CNoThing)
  mgNoAsk : mg "NoAsk" = some (.ref CNoAsk)
  b_len : mg "len" = none
  b_max : mg "max" = none
  b_min : mg "min" = none
  b_sorted : mg "sorted" = none
  b_all : mg "all" = none
  b_any : mg "any" = none
  b_isinstance : mg "isinstance" = none
  b_range : mg "range" = none
  b_int : mg "int" = none
  b_list : mg "list" = none
  b_tuple : mg "tuple" = none
  b_ValueError : mg "ValueError" = none
  aTOLD : Addr
  mgTOLD : mg "TOLD" = some (.ref aTOLD)
  told_ahead : KInt K aTOLD (-1) (.str "ahead")
  told_like : KInt K aTOLD (0) (.str "like")
  told_behind : KInt K aTOLD (1) (.str "behind")
  xNoThing : PySem.W.excIn K CNoThing [.type "ValueError", .type "Exception", .type "BaseException", .type "object"] "ValueError.__new__" = true
  kNoThing : PySem.W.keepIn K (.ref CNoThing) = true
  rNoThing1 : PySem.W.subIn K (.ref CNoThing) (.type "BaseException") = some true
  rNoThing2 : PySem.W.typeIn K (.ref CNoThing) = some (.type "type")
  eNoThing : ExcK K CNoThing
  mNoThing : PySem.W.exmOne K (.ref CNoThing) (.ref COrderError) = some true
  iNoThing_VE : PySem.W.kitOne K (.ref CNoThing) (.type "ValueError") = some true
  iNoThing_NoNumber : PySem.W.kitOne K (.ref CNoThing) (.ref CNoNumber) = some false
  iNoThing_NoOrder : PySem.W.kitOne K (.ref CNoThing) (.ref CNoOrder) = some false
  iNoThing_NoField : PySem.W.kitOne K (.ref CNoThing) (.ref CNoField) = some false
  iNoThing_NoRow : PySem.W.kitOne K (.ref CNoThing) (.ref CNoRow) = some false
  iNoThing_Clash : PySem.W.kitOne K (.ref CNoThing) (.ref CClash) = some false
  iNoThing_NoNet : PySem.W.kitOne K (.ref CNoThing) (.ref CNoNet) = some false
  iNoThing_NoPlace : PySem.W.kitOne K (.ref CNoThing) (.ref CNoPlace) = some false
  iNoThing_NoThing : PySem.W.kitOne K (.ref CNoThing) (.ref CNoThing) = some true
  iNoThing_NoAsk : PySem.W.kitOne K (.ref CNoThing) (.ref CNoAsk) = some false
  rNoField1 : PySem.W.subIn K (.ref CNoField) (.type "BaseException") = some true
  rNoField2 : PySem.W.typeIn K (.ref CNoField) = some (.type "type")
  eNoField : ExcK K CNoField
  mNoField : PySem.W.exmOne K (.ref CNoField) (.ref COrderError) = some true
  iNoField_VE : PySem.W.kitOne K (.ref CNoField) (.type "ValueError") = some true
  iNoField_NoNumber : PySem.W.kitOne K (.ref CNoField) (.ref CNoNumber) = some false
  iNoField_NoOrder : PySem.W.kitOne K (.ref CNoField) (.ref CNoOrder) = some false
  iNoField_NoField : PySem.W.kitOne K (.ref CNoField) (.ref CNoField) = some true
  iNoField_NoRow : PySem.W.kitOne K (.ref CNoField) (.ref CNoRow) = some false
  iNoField_Clash : PySem.W.kitOne K (.ref CNoField) (.ref CClash) = some false
  iNoField_NoNet : PySem.W.kitOne K (.ref CNoField) (.ref CNoNet) = some false
  iNoField_NoPlace : PySem.W.kitOne K (.ref CNoField) (.ref CNoPlace) = some false
  iNoField_NoThing : PySem.W.kitOne K (.ref CNoField) (.ref CNoThing) = some false
  iNoField_NoAsk : PySem.W.kitOne K (.ref CNoField) (.ref CNoAsk) = some false
  oNoField : OexC K CNoField
  inNoField : PySem.W.findIn K (.ref CNoField) "__init__" = some (some (.ref f_NoField_init))
  tyNoField : PySem.W.typeIn K (.ref f_NoField_init) = some (.type "function")
  hdNoField : PySem.W.hasDictIn K CNoField = true
  noWord : PySem.W.findIn K (.ref CNoField) "word" = some none
  spOE : PySem.W.specialIn K (.ref COrderError) "__getattribute__" = some (some (.builtin "type.__getattribute__"))
  rdOE : PySem.W.readsIn K COrderError (.type "type") = true
  inOE : PySem.W.findCls K (.ref COrderError) (.type "type") "__init__" = some (.val (.builtin "ValueError.__init__"))
end K67

set_option Elab.async false
set_option linter.all false
set_option maxRecDepth 100000
set_option maxHeartbeats 4000000
/-! What stands in the heap: fractions, things, books, trees, words; what a call leaves. -/
namespace K67
open PySem PySem.Spec PyProof.Rows L2

/-! ### what is kept -/
/-- all but a is kept -/
def But (a : Addr) (H H' : Hp) : Prop := ∀ b o, b ≠ a → H b = some o → H' b = some o
theorem But.refl (a : Addr) (H : Hp) : But a H H := fun _ _ _ h => h
theorem But.trans {a : Addr} {H H1 H2 : Hp} (x : But a H H1) (y : But a H1 H2) : But a H H2 := fun b o hb h => y b o hb (x b o hb h)
theorem But.of {a : Addr} {H H' : Hp} (x : Same H H') : But a H H' := fun b o _ h => x b o h
theorem But.upd {a : Addr} {H : Hp} {o : HO} : But a H (upd H a o) := fun b u hb h => by
  rw [upd_ne hb]
  exact h
theorem But.same {a : Addr} {H H' : Hp} {o : HO} (x : But a H H') (h : H a = some o) (h' : H' a = some o) : Same H H' := fun b u q => by
  by_cases e : b = a
  · subst e
    rw [h] at q
    cases q
    exact h'
  · exact x b u e q
theorem But.free {a l : Addr} {H H' : Hp} {o : HO} (x : But a H H') (ha : H' a = some o) (h : H' l = Option.none) : l ≠ a → H l = Option.none := fun ne => by
  cases q : H l with
  | none => rfl
  | some u =>
    rw [x l u ne q] at h
    cases h
theorem same_new {H : Hp} {p : Addr} (h : H p = none) (o : HO) : Same H (upd H p o) := fun b u q => by
  rw [upd_ne (ne_of_none q h)]
  exact q
theorem Same.seqT {K : PySem.W.Frag} {H H' : Hp} {a : Addr} {xs : List V} (e : Same H H') (h : SqT K H a xs) : SqT K H' a xs := by
  rcases h with (h | ⟨o, h⟩) | h
  · exact .inl (.inl (e _ _ h))
  · exact .inl (.inr ⟨o, e _ _ h⟩)
  · exact .inr h
/-- tuples are kept; lists too -/
structure TupK (H H' : Hp) : Prop where
  at_ : ∀ b xs, H b = some (.tup xs) → H' b = some (.tup xs)
  frz : ∀ b ob xs, H b = some (tupO ob xs) → H' b = some (tupO ob xs)
structure SeqK (H H' : Hp) : Prop where
  tup : TupK H H'
  lst : ∀ b xs, H b = some (.lst xs) → H' b = some (.lst xs)
theorem TupK.trans {H H1 H2 : Hp} (x : TupK H H1) (y : TupK H1 H2) : TupK H H2 := ⟨fun b xs h => y.at_ b xs (x.at_ b xs h), fun b ob xs h => y.frz b ob xs (x.frz b ob xs h)⟩
theorem TupK.refl (H : Hp) : TupK H H := ⟨fun _ _ h => h, fun _ _ _ h => h⟩
theorem TupK.of {H H' : Hp} (x : Same H H') : TupK H H' := ⟨fun b xs h => x b _ h, fun b ob xs h => x b _ h⟩
theorem SeqK.of {H H' : Hp} (x : Same H H') : SeqK H H' := ⟨TupK.of x, fun b xs h => x b _ h⟩
theorem SeqK.trans {H H1 H2 : Hp} (x : SeqK H H1) (y : SeqK H1 H2) : SeqK H H2 := ⟨x.tup.trans y.tup, fun b xs h => y.lst b xs (x.lst b xs h)⟩
theorem But.tupU {a : Addr} {H H' : Hp} {u : HO} (x : But a H H') (h : H a = some u) (h1 : ∀ xs, u ≠ .tup xs) (h2 : ∀ ob xs, u ≠ tupO ob xs) : TupK H H' :=
  ⟨fun b xs q => x b _ (ne_of q h (Ne.symm (h1 xs))) q, fun b ob xs q => x b _ (ne_of q h (Ne.symm (h2 ob xs))) q⟩
theorem But.seqD {a : Addr} {H H' : Hp} {kvs : List (Key × V)} (x : But a H H') (h : H a = some (.dK kvs)) : SeqK H H' :=
  ⟨x.tupU h (fun _ z => nomatch z) (fun _ _ z => nomatch z), fun b xs q => x b _ (ne_of q h (by intro z; cases z)) q⟩
theorem But.seqI {a C dx : Addr} {H H' : Hp} {fs : List (Str × V)} (x : But a H H') (h : H a = some (.ins C dx fs)) : SeqK H H' :=
  ⟨x.tupU h (fun _ z => nomatch z) (fun _ _ z => nomatch z), fun b xs q => x b _ (ne_of q h (by intro z; cases z)) q⟩
theorem But.tupL {a : Addr} {H H' : Hp} {ys : List V} (x : But a H H') (h : H a = some (.lst ys)) : TupK H H' :=
  x.tupU h (fun _ z => nomatch z) (fun _ _ z => nomatch z)

/-! ### Paired -/
theorem paired_mono {α β : Type} {F G : α → β → Prop} (f : ∀ a b, F a b → G a b) : ∀ {l : List α} {m : List β}, Paired F l m → Paired G l m
  | _, _, .nil => .nil
  | _, _, .cons r t => .cons (f _ _ r) (paired_mono f t)
theorem paired_get {α β : Type} {F : α → β → Prop} : ∀ {l : List α} {m : List β} {i : Nat} {x : α}, Paired F l m → l[i]? = some x → ∃ y, m[i]? = some y ∧ F x y
  | _, _, _, _, .nil, e => by simp at e
  | _, _, 0, _, .cons r _, e => by
    cases (Option.some.inj e : _ = _)
    exact ⟨_, rfl, r⟩
  | _, _, i + 1, x, .cons _ t, e => paired_get (i := i) t e
theorem paired_get' {α β : Type} {F : α → β → Prop} : ∀ {l : List α} {m : List β} {i : Nat} {y : β}, Paired F l m → m[i]? = some y → ∃ x, l[i]? = some x ∧ F x y
  | _, _, _, _, .nil, e => by simp at e
  | _, _, 0, _, .cons r _, e => by
    cases (Option.some.inj e : _ = _)
    exact ⟨_, rfl, r⟩
  | _, _, i + 1, x, .cons _ t, e => paired_get' (i := i) t e
theorem paired_len {α β : Type} {F : α → β → Prop} : ∀ {l : List α} {m : List β}, Paired F l m → l.length = m.length
  | _, _, .nil => rfl
  | _, _, .cons _ t => congrArg (· + 1) (paired_len t)
theorem paired_app {α β : Type} {F : α → β → Prop} : ∀ {l l' : List α} {m m' : List β}, Paired F l m → Paired F l' m' → Paired F (l ++ l') (m ++ m')
  | _, _, _, _, .nil, s => s
  | _, _, _, _, .cons r t, s => .cons r (paired_app t s)
theorem paired_one {α β : Type} {F : α → β → Prop} {a : α} {b : β} (h : F a b) : Paired F [a] [b] := .cons h .nil
theorem take_snoc {α : Type} : ∀ {l : List α} {i : Nat} {x : α}, l[i]? = some x → l.take (i + 1) = l.take i ++ [x]
  | [], i, x, h => by simp at h
  | a :: l, 0, x, h => by
    cases (Option.some.inj h : a = x)
    rfl
  | a :: l, i + 1, x, h => congrArg (a :: ·) (take_snoc (l := l) (i := i) h)

/-! ### the data -/
/-- a fraction's bounds -/
structure QOk (q : Fq) : Prop where
  pos : 1 ≤ q.2
  lo : q.1.natAbs < 2 ^ 67
  hi : q.2.natAbs < 2 ^ 67
def FracAt (H : Hp) (v : V) (q : Fq) : Prop := ∃ a, v = .ref a ∧ H a = some (.tup [.int q.1, .int q.2])
theorem FracAt.mono {H H' : Hp} {v : V} {q : Fq} (k : TupK H H') (h : FracAt H v q) : FracAt H' v q := let ⟨a, e, x⟩ := h; ⟨a, e, k.at_ a _ x⟩
/-- a thing: a tuple of fractions -/
def ThingAt (H : Hp) (v : V) (qs : List Fq) : Prop := ∃ a vs, v = .ref a ∧ H a = some (.tup vs) ∧ Paired (FracAt H) vs qs
theorem ThingAt.mono {H H' : Hp} {v : V} {qs : List Fq} (k : TupK H H') (h : ThingAt H v qs) : ThingAt H' v qs :=
  let ⟨a, vs, e, x, p⟩ := h; ⟨a, vs, e, k.at_ a _ x, paired_mono (fun _ _ => FracAt.mono k) p⟩
/-- a book's names -/
def NamesAt (H : Hp) (v : V) (ns : List Str) : Prop := ∃ a ob, v = .ref a ∧ H a = some (tupO ob (ns.map V.str)) ∧ ob.dict = none
theorem NamesAt.mono {H H' : Hp} {v : V} {ns : List Str} (k : TupK H H') (h : NamesAt H v ns) : NamesAt H' v ns := let ⟨a, ob, e, x, d⟩ := h; ⟨a, ob, e, k.frz a ob _ x, d⟩
theorem names_sq {K : PySem.W.Frag} {H : Hp} {a : Addr} {ob : Obj} {ys : List V} (h : H a = some (tupO ob ys)) : SqT K H a ys := .inl (.inr ⟨ob, h⟩)
/-- a list of fractions, of things -/
def NumsAt (H : Hp) (v : V) (qs : List Fq) : Prop := ∃ a vs, v = .ref a ∧ H a = some (.lst vs) ∧ Paired (FracAt H) vs qs
theorem NumsAt.mono {H H' : Hp} {v : V} {qs : List Fq} (k : SeqK H H') (h : NumsAt H v qs) : NumsAt H' v qs :=
  let ⟨a, vs, e, x, p⟩ := h; ⟨a, vs, e, k.lst a _ x, paired_mono (fun _ _ => FracAt.mono k.tup) p⟩
def PoolAt (H : Hp) (v : V) (ps : List (List Fq)) : Prop := ∃ a vs, v = .ref a ∧ H a = some (.lst vs) ∧ Paired (ThingAt H) vs ps
theorem PoolAt.mono {H H' : Hp} {v : V} {ps : List (List Fq)} (k : SeqK H H') (h : PoolAt H v ps) : PoolAt H' v ps :=
  let ⟨a, vs, e, x, p⟩ := h; ⟨a, vs, e, k.lst a _ x, paired_mono (fun _ _ => ThingAt.mono k.tup) p⟩

/-- words of an order -/
inductive Wd where
  | s (x : Str)
  | q (q : Fq)
def WdAt (H : Hp) (v : V) : Wd → Prop
  | .s x => v = .str x
  | .q q => FracAt H v q
theorem WdAt.mono {H H' : Hp} {v : V} {w : Wd} (k : TupK H H') (h : WdAt H v w) : WdAt H' v w := by
  cases w with
  | s x => exact h
  | q q => exact FracAt.mono k h
/-- an order: a tuple of words -/
def OrdAt (H : Hp) (v : V) (ws : List Wd) : Prop := ∃ a vs, v = .ref a ∧ H a = some (.tup vs) ∧ Paired (WdAt H) vs ws
theorem OrdAt.mono {H H' : Hp} {v : V} {ws : List Wd} (k : TupK H H') (h : OrdAt H v ws) : OrdAt H' v ws :=
  let ⟨a, vs, e, x, p⟩ := h; ⟨a, vs, e, k.at_ a _ x, paired_mono (fun _ _ => WdAt.mono k) p⟩
def mkW (isq : Bool) (f : Str) (q : Fq) : List Wd := [.s (if isq then "is" else "under"), .s f, .q q]
def csW : Cs Str → List Wd
  | .same f => [.s "same", .s f]
  | .both b f q => .s "both" :: mkW b f q
  | .either b f q => .s "either" :: mkW b f q
  | .no c => .s "not" :: csW c
  | .conj c d => .s "and" :: (csW c ++ csW d)
  | .disj c d => .s "or" :: (csW c ++ csW d)
def trW : Tr Str → List Wd
  | .like => [.s "like"]
  | .up f => [.s "up", .s f]
  | .down f => [.s "down", .s f]
  | .turn t => .s "turn" :: trW t
  | .thn a b => .s "then" :: (trW a ++ trW b)
  | .pick c a b => .s "pick" :: (csW c ++ (trW a ++ trW b))
/-- depths, from 1 on -/
def csD : Cs Str → Nat
  | .same _ => 1
  | .both _ _ _ => 1
  | .either _ _ _ => 1
  | .no c => csD c + 1
  | .conj c d => max (csD c) (csD d) + 1
  | .disj c d => max (csD c) (csD d) + 1
def trD : Tr Str → Nat
  | .like => 1
  | .up _ => 1
  | .down _ => 1
  | .turn t => trD t + 1
  | .thn a b => max (trD a) (trD b) + 1
  | .pick _ a b => max (trD a) (trD b) + 1
/-- fields of the book, fractions in bounds, cases not too deep -/
def CsOk (ns : List Str) : Cs Str → Prop
  | .same f => f ∈ ns
  | .both _ f q => f ∈ ns ∧ QOk q
  | .either _ f q => f ∈ ns ∧ QOk q
  | .no c => CsOk ns c
  | .conj c d => CsOk ns c ∧ CsOk ns d
  | .disj c d => CsOk ns c ∧ CsOk ns d
def TrOk (ns : List Str) : Tr Str → Prop
  | .like => True
  | .up f => f ∈ ns
  | .down f => f ∈ ns
  | .turn t => TrOk ns t
  | .thn a b => TrOk ns a ∧ TrOk ns b
  | .pick c a b => (CsOk ns c ∧ csD c ≤ 2) ∧ TrOk ns a ∧ TrOk ns b
/-- a tree as nested lists -/
def MkAt (H : Hp) (v : V) (isq : Bool) (f : Str) (q : Fq) : Prop := ∃ a z, v = .ref a ∧ H a = some (.lst [.str (if isq then "is" else "under"), .str f, z]) ∧ FracAt H z q
def CsAt (H : Hp) : Cs Str → V → Prop
  | .same f, v => ∃ a, v = .ref a ∧ H a = some (.lst [.str "same", .str f])
  | .both b f q, v => ∃ a z, v = .ref a ∧ H a = some (.lst [.str "both", z]) ∧ MkAt H z b f q
  | .either b f q, v => ∃ a z, v = .ref a ∧ H a = some (.lst [.str "either", z]) ∧ MkAt H z b f q
  | .no c, v => ∃ a z, v = .ref a ∧ H a = some (.lst [.str "not", z]) ∧ CsAt H c z
  | .conj c d, v => ∃ a y z, v = .ref a ∧ H a = some (.lst [.str "and", y, z]) ∧ CsAt H c y ∧ CsAt H d z
  | .disj c d, v => ∃ a y z, v = .ref a ∧ H a = some (.lst [.str "or", y, z]) ∧ CsAt H c y ∧ CsAt H d z
def TrAt (H : Hp) : Tr Str → V → Prop
  | .like, v => ∃ a, v = .ref a ∧ H a = some (.lst [.str "like"])
  | .up f, v => ∃ a, v = .ref a ∧ H a = some (.lst [.str "up", .str f])
  | .down f, v => ∃ a, v = .ref a ∧ H a = some (.lst [.str "down", .str f])
  | .turn t, v => ∃ a z, v = .ref a ∧ H a = some (.lst [.str "turn", z]) ∧ TrAt H t z
  | .thn s t, v => ∃ a y z, v = .ref a ∧ H a = some (.lst [.str "then", y, z]) ∧ TrAt H s y ∧ TrAt H t z
  | .pick c s t, v => ∃ a x y z, v = .ref a ∧ H a = some (.lst [.str "pick", x, y, z]) ∧ CsAt H c x ∧ TrAt H s y ∧ TrAt H t z
theorem MkAt.mono {H H' : Hp} {v : V} {isq : Bool} {f : Str} {q : Fq} (k : SeqK H H') (h : MkAt H v isq f q) : MkAt H' v isq f q := let ⟨a, z, e, x, y⟩ := h; ⟨a, z, e, k.lst a _ x, y.mono k.tup⟩
theorem CsAt.mono {H H' : Hp} (k : SeqK H H') : ∀ {c : Cs Str} {v : V}, CsAt H c v → CsAt H' c v
  | .same f, v, h => let ⟨a, e, x⟩ := h; ⟨a, e, k.lst a _ x⟩
  | .both b f q, v, h => let ⟨a, z, e, x, y⟩ := h; ⟨a, z, e, k.lst a _ x, y.mono k⟩
  | .either b f q, v, h => let ⟨a, z, e, x, y⟩ := h; ⟨a, z, e, k.lst a _ x, y.mono k⟩
  | .no c, v, h => let ⟨a, z, e, x, y⟩ := h; ⟨a, z, e, k.lst a _ x, CsAt.mono k y⟩
  | .conj c d, v, h => let ⟨a, y, z, e, x, p, q⟩ := h; ⟨a, y, z, e, k.lst a _ x, CsAt.mono k p, CsAt.mono k q⟩
  | .disj c d, v, h => let ⟨a, y, z, e, x, p, q⟩ := h; ⟨a, y, z, e, k.lst a _ x, CsAt.mono k p, CsAt.mono k q⟩
theorem TrAt.mono {H H' : Hp} (k : SeqK H H') : ∀ {t : Tr Str} {v : V}, TrAt H t v → TrAt H' t v
  | .like, v, h => let ⟨a, e, x⟩ := h; ⟨a, e, k.lst a _ x⟩
  | .up f, v, h => let ⟨a, e, x⟩ := h; ⟨a, e, k.lst a _ x⟩
  | .down f, v, h => let ⟨a, e, x⟩ := h; ⟨a, e, k.lst a _ x⟩
  | .turn t, v, h => let ⟨a, z, e, x, y⟩ := h; ⟨a, z, e, k.lst a _ x, TrAt.mono k y⟩
  | .thn s t, v, h => let ⟨a, y, z, e, x, p, q⟩ := h; ⟨a, y, z, e, k.lst a _ x, TrAt.mono k p, TrAt.mono k q⟩
  | .pick c s t, v, h => let ⟨a, w, y, z, e, x, r, p, q⟩ := h; ⟨a, w, y, z, e, k.lst a _ x, CsAt.mono k r, TrAt.mono k p, TrAt.mono k q⟩
/-- a list of trees -/
def TreesAt (H : Hp) (v : V) (ts : List (Tr Str)) : Prop := ∃ a vs, v = .ref a ∧ H a = some (.lst vs) ∧ Paired (fun x t => TrAt H t x) vs ts
theorem TreesAt.mono {H H' : Hp} {v : V} {ts : List (Tr Str)} (k : SeqK H H') (h : TreesAt H v ts) : TreesAt H' v ts :=
  let ⟨a, vs, e, x, p⟩ := h; ⟨a, vs, e, k.lst a _ x, paired_mono (fun _ _ => TrAt.mono k) p⟩

/-! ### a thing's fields by the book's names -/
def ix (ns : List Str) (f : Str) : Nat := ns.findIdx fun n => decide (n = f)
theorem ix_spec : ∀ {ns : List Str} {f : Str}, f ∈ ns → ns[ix ns f]? = some f ∧ (∀ m, m < ix ns f → ns[m]? ≠ some f) ∧ ix ns f < ns.length
  | [], f, h => by simp at h
  | n :: ns, f, h => by
    unfold ix
    rw [List.findIdx_cons]
    by_cases e : n = f
    · subst e
      rw [decide_eq_true rfl]
      exact ⟨rfl, fun m hm => absurd hm (Nat.not_lt_zero _), Nat.succ_pos _⟩
    · rw [decide_eq_false e]
      obtain ⟨h1, h2, h3⟩ := ix_spec (ns := ns) (f := f) ((List.mem_cons.mp h).resolve_left fun z => e z.symm)
      refine ⟨h1, fun m hm => ?_, Nat.succ_lt_succ h3⟩
      cases m with
      | zero => exact fun z => e (Option.some.inj z)
      | succ m => exact h2 m (Nat.lt_of_succ_lt_succ hm)
def valOf (ns : List Str) (qs : List Fq) : Str → Fq := fun f => qs.getD (ix ns f) (0, 1)
theorem valOf_get {ns : List Str} {qs : List Fq} {f : Str} (h : f ∈ ns) (hl : qs.length = ns.length) : qs[ix ns f]? = some (valOf ns qs f) := by
  have h3 := (ix_spec h).2.2
  unfold valOf
  rw [List.getD_eq_getElem?_getD, List.getElem?_eq_getElem (by omega)]
  rfl
theorem valOf_good {ns : List Str} {qs : List Fq} (h : ∀ q ∈ qs, QOk q) : Good (valOf ns qs) := fun f => by
  unfold valOf
  rw [List.getD_eq_getElem?_getD]
  cases e : qs[ix ns f]? with
  | none => exact Int.le_refl 1
  | some q => exact (h q (List.mem_of_getElem? e)).pos
/-- what a thing must be -/
structure ThOk (ns : List Str) (qs : List Fq) : Prop where
  len : qs.length = ns.length
  ok : ∀ q ∈ qs, QOk q
theorem ThOk.at {ns : List Str} {qs : List Fq} {f : Str} (h : ThOk ns qs) (hf : f ∈ ns) : QOk (valOf ns qs f) := h.ok _ (List.mem_of_getElem? (valOf_get hf h.len))
/-- the field f of a thing, as the tuple's item -/
theorem thing_at {H : Hp} {ns : List Str} {qs : List Fq} {vs : List V} {f : Str} (p : Paired (FracAt H) vs qs) (h : ThOk ns qs) (hf : f ∈ ns) : ∃ z, vs[ix ns f]? = some z ∧ FracAt H z (valOf ns qs f) :=
  paired_get' p (valOf_get hf h.len)

/-! ### sizes -/
theorem sz {n : Nat} (h : n ≤ 1000) : n ≤ sizeLine := Nat.le_trans h (by decide)
theorem sz' {n : Nat} (h : n ≤ 1000) : n < sizeLine := small1000 h
theorem at1 {xs : List V} {v : V} {j : Nat} {z : Int} (e : z = (j : Int)) (h : xs[j]? = some v) : atI xs z = some v := by
  rw [e]
  exact atI_nat h
end K67

set_option Elab.async false
set_option linter.all false
set_option maxRecDepth 100000
set_option maxHeartbeats 4000000
/-! compared, _law_less; a look at two things: its words, fields, marks. -/
namespace K67
open PySem PySem.Spec PyProof.Rows L2
/-! ### a look's attributes -/
theorem putF_putF (f : Str) (x y : V) : ∀ fs : List (Str × V), putF f y (putF f x fs) = putF f y fs
  | [] => by
    show (if f = f then (f, y) :: [] else (f, x) :: putF f y []) = [(f, y)]
    rw [if_pos rfl]
  | (g, z) :: r => by
    by_cases e : g = f
    · show putF f y (if g = f then (g, x) :: r else (g, z) :: putF f x r) = if g = f then (g, y) :: r else (g, z) :: putF f y r
      rw [if_pos e, if_pos e]
      show (if g = f then (g, y) :: r else (g, x) :: putF f y r) = (g, y) :: r
      rw [if_pos e]
    · show putF f y (if g = f then (g, x) :: r else (g, z) :: putF f x r) = if g = f then (g, y) :: r else (g, z) :: putF f y r
      rw [if_neg e, if_neg e]
      show (if g = f then (g, y) :: putF f x r else (g, z) :: putF f y (putF f x r)) = (g, z) :: putF f y r
      rw [if_neg e, putF_putF f x y r]
theorem putF_len (f : Str) (x : V) : ∀ fs : List (Str × V), (putF f x fs).length ≤ fs.length + 1
  | [] => Nat.le_refl _
  | (g, z) :: r => by
    show (if g = f then (g, x) :: r else (g, z) :: putF f x r).length ≤ r.length + 1 + 1
    split
    · exact Nat.le_succ _
    · exact Nat.succ_le_succ (putF_len f x r)
theorem d1 : ¬ (("order" : Str) = "book") := by decide +kernel
theorem d2 : ¬ (("order" : Str) = "things") := by decide +kernel
theorem d3 : ¬ (("order" : Str) = "gone") := by decide +kernel
theorem d4 : ¬ (("book" : Str) = "things") := by decide +kernel
theorem d5 : ¬ (("book" : Str) = "gone") := by decide +kernel
theorem d6 : ¬ (("things" : Str) = "gone") := by decide +kernel
def lookF (o b t : V) (g : Int) : List (Str × V) := putF "gone" (.int g) (putF "things" t (putF "book" b (putF "order" o [])))
theorem lookF_order (o b t : V) (g : Int) : (lookF o b t g).lookup ("order" : Str) = some o := by
  unfold lookF
  rw [lookup_putF, if_neg d3, lookup_putF, if_neg d2, lookup_putF, if_neg d1, lookup_putF, if_pos rfl]
theorem lookF_book (o b t : V) (g : Int) : (lookF o b t g).lookup ("book" : Str) = some b := by
  unfold lookF
  rw [lookup_putF, if_neg d5, lookup_putF, if_neg d4, lookup_putF, if_pos rfl]
theorem lookF_things (o b t : V) (g : Int) : (lookF o b t g).lookup ("things" : Str) = some t := by
  unfold lookF
  rw [lookup_putF, if_neg d6, lookup_putF, if_pos rfl]
theorem lookF_gone (o b t : V) (g : Int) : (lookF o b t g).lookup ("gone" : Str) = some (.int g) := by
  unfold lookF
  rw [lookup_putF, if_pos rfl]
theorem lookF_no (o b t : V) (g : Int) {m : Str} (h1 : ¬ m = "order") (h2 : ¬ m = "book") (h3 : ¬ m = "things") (h4 : ¬ m = "gone") : (lookF o b t g).lookup m = none := by
  unfold lookF
  rw [lookup_putF, if_neg h4, lookup_putF, if_neg h3, lookup_putF, if_neg h2, lookup_putF, if_neg h1]
  all_goals rfl
theorem lookF_put (o b t : V) (g k : Int) : putF "gone" (.int k) (lookF o b t g) = lookF o b t k := putF_putF _ _ _ _
theorem lookF_len (o b t : V) (g : Int) : (lookF o b t g).length < 1000 := by
  unfold lookF
  have a := putF_len "order" o []
  have a2 := putF_len "book" b (putF "order" o [])
  have a3 := putF_len "things" t (putF "book" b (putF "order" o []))
  have a4 := putF_len "gone" (.int g) (putF "things" t (putF "book" b (putF "order" o [])))
  have a0 : ([] : List (Str × V)).length = 0 := rfl
  omega
/-- what a look leans on: the order's words, the book, the two things -/
structure LookD (H : Hp) (oa : Addr) (bv : V) (ta : Addr) (ns : List Str) (ws : List Wd) (q1 q2 : List Fq) : Prop where
  ord : ∃ vs, H oa = some (.tup vs) ∧ Paired (WdAt H) vs ws
  book : NamesAt H bv ns
  th : ∃ v1 v2, H ta = some (.tup [v1, v2]) ∧ ThingAt H v1 q1 ∧ ThingAt H v2 q2
  o1 : ThOk ns q1
  o2 : ThOk ns q2
theorem LookD.mono {H H' : Hp} {oa : Addr} {bv : V} {ta : Addr} {ns : List Str} {ws : List Wd} {q1 q2 : List Fq} (k : TupK H H') (d : LookD H oa bv ta ns ws q1 q2) : LookD H' oa bv ta ns ws q1 q2 where
  ord := let ⟨vs, e, p⟩ := d.ord; ⟨vs, k.at_ _ _ e, paired_mono (fun _ _ => WdAt.mono k) p⟩
  book := d.book.mono k
  th := let ⟨v1, v2, e, a, b⟩ := d.th; ⟨v1, v2, k.at_ _ _ e, a.mono k, b.mono k⟩
  o1 := d.o1
  o2 := d.o2
/-- a Look at p, at the word g -/
def LookAt (C : Addr) (H : Hp) (p dx oa : Addr) (bv : V) (ta : Addr) (g : Nat) : Prop := H p = some (.ins C dx (lookF (.ref oa) bv (.ref ta) (g : Int)))

section
variable {P : Program} {w : World} {K : PySem.W.Frag} {mg : Str → Option Value} {base : Heap}

/-! ### compared, _law_less -/
theorem QOk.mulW {x y : Fq} (hx : QOk x) (hy : QOk y) : CMulW x.1 y.2 := wide_mul hx.lo hy.hi (by decide) (by decide) (by decide)
theorem cmp_eq (x y : Fq) : b2i (decide (0 < x.1 * y.2 - y.1 * x.2)) - b2i (decide (x.1 * y.2 - y.1 * x.2 < 0)) = cmpF x y := by
  unfold cmpF
  generalize x.1 * y.2 = a
  generalize y.1 * x.2 = b
  by_cases h : b < a
  · rw [if_pos h, decide_eq_true (by omega), decide_eq_false (by omega)]
    rfl
  · rw [if_neg h]
    by_cases h2 : a < b
    · rw [if_pos h2, decide_eq_false (by omega), decide_eq_true (by omega)]
      rfl
    · rw [if_neg h2, decide_eq_false (by omega), decide_eq_false (by omega)]
      rfl
def spCompared : Sp := fun vs H Q _ => ∃ (u v : V) (x y : Fq), vs = [u, v] ∧ FracAt H u x ∧ FracAt H v y ∧ QOk x ∧ QOk y ∧ Q (.int (cmpF x y)) H
theorem sc_compared : FnScope ["one", "other", "far"] ["one", "other"] (defScope s_compared) := ⟨rfl, rfl, rfl, by decide +kernel, rfl, by decide +kernel, by decide +kernel⟩
theorem ok_compared (T : Env K mg) : FnOk P w K mg base CX0 1 T.f_compared T.fd_compared ["one", "other"] spCompared := by
  refine T.compared.fn.ok sc_compared (fun vs H Q E h => ?_) (fun cdv A outer s H vs Q E hr h => ?_)
  · obtain ⟨_, _, _, _, rfl, _⟩ := h
    rfl
  · obtain ⟨_, _, x, y, rfl, ⟨a, rfl, ha⟩, ⟨b, rfl, hb⟩, hx, hy, q⟩ := h
    refine ⟨_, pss_cons (ps_set (i := 2) sc_compared.nd rfl (Or.inl rfl) (pe_op op_sub (pe_op op_mulW (pe_ix ix_tup (pv 0) pe_int (fun _ _ => rfl)) (pe_ix ix_tup (pv 1) pe_int (fun _ _ => rfl))) (pe_op op_mulW (pe_ix ix_tup (pv 1) pe_int (fun _ _ => rfl)) (pe_ix ix_tup (pv 0) pe_int (fun _ _ => rfl)))))
      (pss_one (ps_ret (pe_op op_sub (pe_callTy call_int1 (by rfl) T.b_int (by decide +kernel) (pa_cons (pe_cmpR op_gt (pv 2) pe_int (nomark _)) pa_nil)) (pe_callTy call_int1 (by rfl) T.b_int (by decide +kernel) (pa_cons (pe_cmpR op_lt (pv 2) pe_int (nomark _)) pa_nil))))), ?_⟩
    refine ⟨_, rfl, _, _, 0, _, rfl, rfl, SqT.of ha, rfl, _, rfl, _, _, 1, _, rfl, rfl, SqT.of hb, rfl, _, _, rfl, rfl, hx.mulW hy, _, rfl, _, _, 0, _, rfl, rfl, SqT.of hb, rfl, _, rfl, _, _, 1, _, rfl, rfl, SqT.of ha, rfl, _, _, rfl, rfl, hy.mulW hx, _, _, rfl, rfl, ?_⟩
    refine ⟨_, rfl, _, _, rfl, rfl, .inr ⟨_, rfl, ?_⟩⟩
    refine ⟨_, rfl, _, _, rfl, rfl, .inr ⟨_, rfl, ?_⟩⟩
    refine ⟨_, _, rfl, rfl, ?_⟩
    have e := cmp_eq x y
    rw [← e] at q
    exact q
def spLess : Sp := fun vs H Q _ => ∃ (u v : V) (x y : Fq), vs = [u, v] ∧ FracAt H u x ∧ FracAt H v y ∧ QOk x ∧ QOk y ∧ Q (.bl (lessF x y)) H
theorem sc_l_less : FnScope ["one", "other"] ["one", "other"] (defScope s_l_less) := ⟨rfl, rfl, rfl, by decide +kernel, rfl, by decide +kernel, by decide +kernel⟩
theorem ok_l_less (T : Env K mg) : FnOk P w K mg base CX0 1 T.f_l_less T.fd_l_less ["one", "other"] spLess := by
  refine T.l_less.fn.ok sc_l_less (fun vs H Q E h => ?_) (fun cdv A outer s H vs Q E hr h => ?_)
  · obtain ⟨_, _, _, _, rfl, _⟩ := h
    rfl
  · obtain ⟨_, _, x, y, rfl, ⟨a, rfl, ha⟩, ⟨b, rfl, hb⟩, hx, hy, q⟩ := h
    refine ⟨_, pss_one (ps_ret (pe_cmpR op_lt (pe_op op_mulW (pe_ix ix_tup (pv 0) pe_int (fun _ _ => rfl)) (pe_ix ix_tup (pv 1) pe_int (fun _ _ => rfl))) (pe_op op_mulW (pe_ix ix_tup (pv 1) pe_int (fun _ _ => rfl)) (pe_ix ix_tup (pv 0) pe_int (fun _ _ => rfl))) (nomark _))), ?_⟩
    exact ⟨_, rfl, _, _, 0, _, rfl, rfl, SqT.of ha, rfl, _, rfl, _, _, 1, _, rfl, rfl, SqT.of hb, rfl, _, _, rfl, rfl, hx.mulW hy, _, rfl, _, _, 0, _, rfl, rfl, SqT.of hb, rfl, _, rfl, _, _, 1, _, rfl, rfl, SqT.of ha, rfl, _, _, rfl, rfl, hy.mulW hx, _, _, rfl, rfl, q⟩

/-! ### Look: __init__, next_word, both_fields, mark -/
def spLookInit (C : Addr) : Sp := fun vs H Q _ => ∃ (p dx oa : Addr) (bv v1 v2 : V), vs = [.ref p, .ref oa, bv, v1, v2] ∧ H p = some (.ins C dx []) ∧
  ∀ (ta : Addr) (H' : Hp), But p H H' → H ta = none → H' ta = some (.tup [v1, v2]) → LookAt C H' p dx oa bv ta 0 → Q .non H'
theorem sc_Look_init : FnScope ["self", "order", "book", "one", "other"] ["self", "order", "book", "one", "other"] (defScope s_Look_init) := ⟨rfl, rfl, rfl, by decide +kernel, rfl, by decide +kernel, by decide +kernel⟩
theorem ok_Look_init (T : Env K mg) : FnOk P w K mg base CX0 1 T.f_Look_init T.fd_Look_init ["self", "order", "book", "one", "other"] (spLookInit T.CLook) := by
  refine T.Look_init.fn.ok sc_Look_init (fun vs H Q E h => ?_) (fun cdv A outer s H vs Q E hr h => ?_)
  · obtain ⟨_, _, _, _, _, _, rfl, _⟩ := h
    rfl
  · obtain ⟨p, dx, oa, bv, v1, v2, rfl, hp, k⟩ := h
    refine ⟨_, pss_cons (ps_fld (pv 0) (pv 1) rfl)
      (pss_cons (ps_fld (pv 0) (pv 2) rfl)
      (pss_cons (ps_fld (pv 0) (pe_tup (pa_cons (pv 3) (pa_cons (pv 4) pa_nil))) rfl)
      (pss_one (ps_fld (pv 0) pe_int rfl)))), ?_⟩
    refine ⟨_, rfl, _, rfl, p, _, dx, _, rfl, hp, T.clLook, T.nLook_order, (by show 0 < 1000; decide), ?_⟩
    refine ⟨_, rfl, _, rfl, p, _, dx, _, rfl, upd_same, T.clLook, T.nLook_book, (by have := putF_len "order" (.ref oa) []; rw [List.length_nil] at this; omega), ?_⟩
    refine ⟨_, rfl, _, rfl, sz (by decide : 2 ≤ 1000), fun ta hta => ?_⟩
    have nta : ta ≠ p := fun z => by
      rw [z, upd_same] at hta
      cases hta
    have hta0 : H ta = none := by
      rw [upd_ne nta, upd_ne nta] at hta
      exact hta
    refine ⟨_, rfl, p, _, dx, _, rfl, (by rw [upd_ne (Ne.symm nta), upd_same]), T.clLook, T.nLook_things, (by
      have a := putF_len "order" (.ref oa) []
      have b := putF_len "book" bv (putF "order" (.ref oa) [])
      rw [List.length_nil] at a
      omega), ?_⟩
    refine ⟨_, rfl, p, _, dx, _, rfl, upd_same, T.clLook, T.nLook_gone, (by
      have a := putF_len "order" (.ref oa) []
      have b := putF_len "book" bv (putF "order" (.ref oa) [])
      have c := putF_len "things" (.ref ta) (putF "book" bv (putF "order" (.ref oa) []))
      rw [List.length_nil] at a
      omega), ?_⟩
    refine k ta _ (fun b o hb hh => ?_) hta0 ?_ upd_same
    · have nb : b ≠ ta := ne_of_none hh hta0
      rw [upd_ne hb, upd_ne hb, upd_ne nb, upd_ne hb, upd_ne hb]
      exact hh
    · rw [upd_ne nta, upd_ne nta, upd_same]
def spNext (C : Addr) : Sp := fun vs H Q _ => ∃ (p dx oa : Addr) (bv : V) (ta : Addr) (g : Nat) (xs : List V) (v : V), vs = [.ref p] ∧ LookAt C H p dx oa bv ta g ∧ H oa = some (.tup xs) ∧ xs[g]? = some v ∧
  ∀ H', But p H H' → LookAt C H' p dx oa bv ta (g + 1) → Q v H'
theorem sc_Look_next_word : FnScope ["self"] ["self"] (defScope s_Look_next_word) := ⟨rfl, rfl, rfl, by decide +kernel, rfl, by decide +kernel, by decide +kernel⟩
theorem ok_Look_next_word (T : Env K mg) : FnOk P w K mg base CX0 1 T.f_Look_next_word T.fd_Look_next_word ["self"] (spNext T.CLook) := by
  refine T.Look_next_word.fn.ok sc_Look_next_word (fun vs H Q E h => ?_) (fun cdv A outer s H vs Q E hr h => ?_)
  · obtain ⟨_, _, _, _, _, _, _, _, rfl, _⟩ := h
    rfl
  · obtain ⟨p, dx, oa, bv, ta, g, xs, v, rfl, hp, ho, hv, k⟩ := h
    have hp' : H p = some (.ins T.CLook dx (lookF (.ref oa) bv (.ref ta) (g : Int))) := hp
    refine ⟨_, pss_cons (ps_fldaug (pv 0) pe_int in_add)
      (pss_one (ps_ret (pe_ix ix_tup (pe_fld (pv 0) rfl) (pe_op op_sub (pe_fld (pv 0) rfl) pe_int) (fun _ _ => rfl)))), ?_⟩
    refine ⟨_, rfl, p, _, dx, _, _, rfl, hp', T.clLook, T.nLook_gone, lookF_gone _ _ _ _, _, _, rfl, rfl, _, _, hp', lookF_len _ _ _ _, ?_⟩
    have e1 : upd H p (.ins T.CLook dx (putF "gone" (.int ((g : Int) + 1)) (lookF (.ref oa) bv (.ref ta) (g : Int)))) = upd H p (.ins T.CLook dx (lookF (.ref oa) bv (.ref ta) ((g + 1 : Nat) : Int))) := by
      rw [lookF_put]
      rfl
    rw [e1]
    have no : oa ≠ p := ne_of ho hp' (by intro z; cases z)
    refine ⟨_, rfl, p, _, dx, _, _, rfl, upd_same, T.clLook, T.nLook_order, lookF_order _ _ _ _, _, rfl, p, _, dx, _, _, rfl, upd_same, T.clLook, T.nLook_gone, lookF_gone _ _ _ _, _, _, rfl, rfl, _, xs, _, v, rfl, rfl, SqT.of (by rw [upd_ne no]; exact ho), at1 (j := g) (by omega) hv, ?_⟩
    exact k _ But.upd upd_same
/-- what both have in the field that comes next -/
def spBoth (C : Addr) : Sp := fun vs H Q _ => ∃ (p dx oa : Addr) (bv : V) (ta : Addr) (g : Nat) (ns : List Str) (ws : List Wd) (q1 q2 : List Fq) (f : Str), vs = [.ref p] ∧ LookAt C H p dx oa bv ta g ∧ LookD H oa bv ta ns ws q1 q2 ∧
  ws[g]? = some (.s f) ∧ f ∈ ns ∧
  ∀ (l : Addr) (z1 z2 : V) (H' : Hp), But p H H' → LookAt C H' p dx oa bv ta (g + 1) → H l = none → H' l = some (.lst [z1, z2]) → FracAt H' z1 (valOf ns q1 f) → FracAt H' z2 (valOf ns q2 f) → Q (.ref l) H'
theorem sc_Look_both_fields : FnScope ["self", "place", "thing"] ["self"] (defScope s_Look_both_fields) := ⟨rfl, rfl, rfl, by decide +kernel, rfl, by decide +kernel, by decide +kernel⟩
theorem ok_Look_both_fields (T : Env K mg) : FnOk P w K mg base CX0 2 T.f_Look_both_fields T.fd_Look_both_fields ["self"] (spBoth T.CLook) := by
  refine T.Look_both_fields.fn.ok sc_Look_both_fields (fun vs H Q E h => ?_) (fun cdv A outer s H vs Q E hr h => ?_)
  · obtain ⟨_, _, _, _, _, _, _, _, _, _, _, rfl, _⟩ := h
    rfl
  · obtain ⟨p, dx, oa, bv, ta, g, ns, ws, q1, q2, f, rfl, hp, hD, hw, hf, k⟩ := h
    have hp' : H p = some (.ins T.CLook dx (lookF (.ref oa) bv (.ref ta) (g : Int))) := hp
    refine ⟨_, pss_cons (ps_set (i := 1) sc_Look_both_fields.nd rfl (Or.inr rfl) (pe_tm PySem.F.slot_tuple_index PySem.F.type_tuple_index mt_tup_index (pe_fld (pv 0) rfl) (pa_cons (pe_meth0 (pv 0) T.clLook T.Look_next_word.mt (ok_Look_next_word T) (hr.mono (by decide)) T.Look_next_word.bd .nil pass0) pa_nil)))
      (pss_one (ps_ret (pe_lc (own := [("thing", 2)]) (g := gName 2) (tt := tYes) (te := tOp (rIxT K) (tVar 2) (tVar 1)) rfl sc_Look_both_fields.nd (pi_tup (pe_fld (pv 0) rfl)) (blkOk_by (own := [("thing", 2)]) (N := ["self", "place", "thing"]) (sc := defScope s_Look_both_fields) (by decide +kernel)) (fun _ _ _ _ _ => pg_name (i := 2) sc_Look_both_fields.nd rfl (Or.inl rfl)) (fun _ _ _ _ _ => pts_nil) (fun _ _ _ _ _ => (pe_ix ix_tup (pv 2) (pv 1) (fun _ _ => rfl)))))), ?_⟩
    obtain ⟨vs, hov, hpv⟩ := hD.ord
    obtain ⟨v, hv, hvw⟩ := paired_get' hpv hw
    cases (show v = .str f from hvw)
    obtain ⟨ba, bo, rfl, hba, hbd⟩ := hD.book
    have hi := ix_spec hf
    refine ⟨_, rfl, p, _, dx, _, _, rfl, hp', T.clLook, T.nLook_book, lookF_book _ _ _ _, ⟨ba, bo, _, rfl, hba, hbd⟩, _, rfl, p, dx, _, rfl, hp', lookF_no _ _ _ _ (by decide +kernel) (by decide +kernel) (by decide +kernel) (by decide +kernel), p, dx, oa, _, ta, g, vs, _, rfl, hp, hov, hv, fun H1 b1 hp1 => ?_⟩
    have s1 := b1.seqI hp'
    have hp1' : H1 p = some (.ins T.CLook dx (lookF (.ref oa) (.ref ba) (.ref ta) ((g + 1 : Nat) : Int))) := hp1
    have D1 := hD.mono s1.tup
    obtain ⟨v1, v2, hta, ht1, ht2⟩ := D1.th
    obtain ⟨a1, vs1, rfl, h1, p1⟩ := ht1
    obtain ⟨a2, vs2, rfl, h2, p2⟩ := ht2
    obtain ⟨z1, e1, f1⟩ := thing_at p1 hD.o1 hf
    obtain ⟨z2, e2, f2⟩ := thing_at p2 hD.o2 hf
    refine ⟨_, ns, f, _, rfl, rfl, names_sq (s1.tup.frz _ _ _ hba), hi.1, hi.2.1, ?_⟩
    refine ⟨_, rfl, p, _, dx, _, _, rfl, hp1', T.clLook, T.nLook_things, lookF_things _ _ _ _, ta, rfl, ⟨_, SqT.of hta⟩, fun D hD0 => ?_⟩
    have nDp : D ≠ p := fun z => by
      rw [z, hp1'] at hD0
      cases hD0
    refine lc_tup (K := K) (a := ta) (xs := [.ref a1, .ref a2]) (fun i G => ∃ acc, G D = some (.lst acc) ∧ acc = [z1, z2].take i ∧ ∀ b o, b ≠ D → H1 b = some o → G b = some o)
      ⟨[], upd_same, rfl, fun b o hb hh => by rw [upd_ne hb]; exact hh⟩ (fun i G _ ⟨_, _, _, kk⟩ => SqT.of (kk _ _ (ne_of_none hta hD0) hta)) ?_ ?_
    · rintro i x G hx ⟨acc, ha, rfl, kk⟩
      have g1 : G a1 = some (.tup vs1) := kk _ _ (ne_of_none h1 hD0) h1
      have g2 : G a2 = some (.tup vs2) := kk _ _ (ne_of_none h2 hD0) h2
      have step : ∀ z : V, [z1, z2].take i ++ [z] = [z1, z2].take (i + 1) → ∃ acc, G D = some (.lst acc) ∧ acc.length < sizeLine ∧ ∃ acc2, (upd G D (.lst (acc ++ [z]))) D = some (.lst acc2) ∧ acc2 = [z1, z2].take (i + 1) ∧ ∀ b o, b ≠ D → H1 b = some o → (upd G D (.lst (acc ++ [z]))) b = some o := fun z ez =>
        ⟨_, ha, sz' (by rw [List.length_take]; show min i 2 ≤ 1000; omega), _, upd_same, ez, fun b o hb hh => by rw [upd_ne hb]; exact kk b o hb hh⟩
      match i, hx with
      | 0, hx =>
        cases (Option.some.inj hx : V.ref a1 = x)
        exact ⟨rfl, _, rfl, _, rfl, a1, _, _, z1, rfl, rfl, SqT.of g1, at1 rfl e1, step z1 rfl⟩
      | 1, hx =>
        cases (Option.some.inj hx : V.ref a2 = x)
        exact ⟨rfl, _, rfl, _, rfl, a2, _, _, z2, rfl, rfl, SqT.of g2, at1 rfl e2, step z2 rfl⟩
      | i + 2, hx => simp at hx
    · rintro G ⟨acc, ha, rfl, kk⟩
      have tk : TupK H1 G := ⟨fun b xs hh => kk b _ (ne_of_none hh hD0) hh, fun b ob xs hh => kk b _ (ne_of_none hh hD0) hh⟩
      refine k D z1 z2 G (fun b o hb hh => kk b o (ne_of_none (b1 b o hb hh) hD0) (b1 b o hb hh)) (kk _ _ (Ne.symm nDp) hp1') ?_ ha (f1.mono tk) (f2.mono tk)
      cases q : H D with
      | none => rfl
      | some o =>
        have := b1 D o nDp q
        rw [hD0] at this
        cases this
end
end K67

set_option Elab.async false
set_option linter.all false
set_option maxRecDepth 100000
set_option maxHeartbeats 4000000
/-! A look: marks, cases, sides; side_of, looked. -/
namespace K67
open PySem PySem.Spec PyProof.Rows L2

theorem ifT {c A B : Prop} [Decidable c] (h : c) (a : A) : if decide c = true then A else B := by
  rw [if_pos (decide_eq_true h)]
  exact a
theorem ifF {c A B : Prop} [Decidable c] (h : ¬ c) (b : B) : if decide c = true then A else B := by
  rw [if_neg (by rw [decide_eq_false h]; exact Bool.false_ne_true)]
  exact b
/-- fractions as data -/
def fracD (q : Fq) : PyData := .tuple [.int q.1, .int q.2]
theorem FracAt.dp {K : PySem.W.Frag} {H : Hp} {v : V} {q : Fq} (h : FracAt H v q) : Dp K H v (fracD q) := by
  obtain ⟨a, rfl, e⟩ := h
  exact .tup (SqT.of e) (.cons (.int _) (.cons (.int _) .nil))
theorem fracD_shaped (q : Fq) : SeqAt.shaped (fracD q) = true := by rfl
theorem fracD_eqv (x y : Fq) : PyData.eqv (fracD x) (fracD y) = decide (x = y) := by
  have e : PyData.eqv (fracD x) (fracD y) = ((x.1 == y.1) && ((x.2 == y.2) && true)) := rfl
  rw [e]
  obtain ⟨a, b⟩ := x
  obtain ⟨c, d⟩ := y
  by_cases h1 : a = c
  · by_cases h2 : b = d
    · subst h1 h2
      simp
    · rw [decide_eq_false (fun z => h2 (Prod.mk.inj z).2)]
      simp [h2]
  · rw [decide_eq_false (fun z => h1 (Prod.mk.inj z).1)]
    simp [h1]
theorem drop_one {α : Type} {ws : List α} {g : Nat} {x : α} {l : List α} (h : ws.drop g = x :: l) : ws[g]? = some x ∧ ws.drop (g + 1) = l := by
  constructor
  · have e : (ws.drop g)[0]? = some x := by rw [h]; rfl
    rw [List.getElem?_drop] at e
    exact e
  · rw [← List.drop_drop, h]
    rfl
theorem drop_app {α : Type} {ws : List α} {g : Nat} {a l : List α} (h : ws.drop g = a ++ l) : ws.drop (g + a.length) = l := by
  rw [← List.drop_drop, h, List.drop_left]
theorem cmp_lt (x y : Fq) : decide (cmpF x y < 0) = lessF x y := by
  unfold cmpF lessF
  by_cases h : y.1 * x.2 < x.1 * y.2
  · rw [if_pos h, decide_eq_false (by omega), decide_eq_false (by omega)]
  · rw [if_neg h]
    by_cases h2 : x.1 * y.2 < y.1 * x.2
    · rw [if_pos h2, decide_eq_true h2]
      rfl
    · rw [if_neg h2, decide_eq_false h2]
      rfl
section
variable {P : Program} {w : World} {K : PySem.W.Frag} {mg : Str → Option Value} {base : Heap}

/-! ### mark -/
def spMark (C : Addr) : Sp := fun vs H Q _ => ∃ (p dx oa : Addr) (bv : V) (ta : Addr) (g : Nat) (ns : List Str) (ws : List Wd) (q1 q2 : List Fq) (isq : Bool) (f : Str) (q : Fq) (l : List Wd), vs = [.ref p] ∧ LookAt C H p dx oa bv ta g ∧ LookD H oa bv ta ns ws q1 q2 ∧
  ws.drop g = mkW isq f q ++ l ∧ f ∈ ns ∧ QOk q ∧
  ∀ (r : Addr) (H' : Hp), But p H H' → LookAt C H' p dx oa bv ta (g + 3) → H r = none → H' r = some (.lst [.bl (markF isq q (valOf ns q1 f)), .bl (markF isq q (valOf ns q2 f))]) → Q (.ref r) H'
theorem sc_Look_mark : FnScope ["self", "word", "parts", "number", "part"] ["self"] (defScope s_Look_mark) := ⟨rfl, rfl, rfl, by decide +kernel, rfl, by decide +kernel, by decide +kernel⟩
theorem ok_Look_mark (T : Env K mg) : FnOk P w K mg base CX0 3 T.f_Look_mark T.fd_Look_mark ["self"] (spMark T.CLook) := by
  refine T.Look_mark.fn.ok sc_Look_mark (fun vs H Q E h => ?_) (fun cdv A outer s H vs Q E hr h => ?_)
  · obtain ⟨_, _, _, _, _, _, _, _, _, _, _, _, _, _, rfl, _⟩ := h
    rfl
  · obtain ⟨p, dx, oa, bv, ta, g, ns, ws, q1, q2, isq, f, q, l, rfl, hp, hD, hw, hf, hq, k⟩ := h
    refine ⟨_, pss_cons (ps_set (i := 1) sc_Look_mark.nd rfl (Or.inl rfl) (pe_meth0 (pv 0) T.clLook T.Look_next_word.mt (ok_Look_next_word T) (hr.mono (by decide)) T.Look_next_word.bd .nil pass0))
      (pss_cons (ps_set (i := 2) sc_Look_mark.nd rfl (Or.inl rfl) (pe_meth0 (pv 0) T.clLook T.Look_both_fields.mt (ok_Look_both_fields T) (hr.mono (by decide)) T.Look_both_fields.bd .nil pass0))
      (pss_cons (ps_set (i := 3) sc_Look_mark.nd rfl (Or.inr rfl) (pe_meth0 (pv 0) T.clLook T.Look_next_word.mt (ok_Look_next_word T) (hr.mono (by decide)) T.Look_next_word.bd .nil pass0))
      (pss_cons (ps_if (pt_cmpR op_eq (pv 1) pe_str (nomark _))
        (pss_one (ps_ret (pe_lc (own := [("part", 4)]) (g := gName 4) (tt := tYes) (te := tOp (rEqD K) (tVar 4) (tVar 3)) rfl sc_Look_mark.nd (pi_list (pv 2)) (blkOk_by (own := [("part", 4)]) (N := ["self", "word", "parts", "number", "part"]) (sc := defScope s_Look_mark) (by decide +kernel)) (fun _ _ _ _ _ => pg_name (i := 4) sc_Look_mark.nd rfl (Or.inl rfl)) (fun _ _ _ _ _ => pts_nil) (fun _ _ _ _ _ => pe_cmpR (op_eqD hr.units) (pv 4) (pv 3) (nomark _)))))
        pss_nil)
      (pss_one (ps_ret (pe_lc (own := [("part", 4)]) (g := gName 4) (tt := tYes) (te := tOp (rI0 fun i j => .bl (decide (i < j))) (tCall spCompared [] (fun _ _ _ => False) (tCons (tVar 4) (tCons (tVar 3) tNil))) (tC (.int 0))) rfl sc_Look_mark.nd (pi_list (pv 2)) (blkOk_by (own := [("part", 4)]) (N := ["self", "word", "parts", "number", "part"]) (sc := defScope s_Look_mark) (by decide +kernel)) (fun _ _ _ _ _ => pg_name (i := 4) sc_Look_mark.nd rfl (Or.inl rfl)) (fun _ _ _ _ _ => pts_nil) (fun _ _ _ _ _ => pe_cmpR op_lt (pe_call (ok_compared T) (hr.mono (by decide)) (by rfl) T.compared.mg T.compared.fn.kp T.compared.bd .nil pass0 (pa_cons (pv 4) (pa_cons (pv 3) pa_nil))) pe_int (nomark _)))))))), ?_⟩
    have e0 := drop_one (x := Wd.s (if isq then "is" else "under")) (l := .s f :: .q q :: l) hw
    have e1 := drop_one e0.2
    have e2 := drop_one e1.2
    have hno : ∀ (m : Str) g', ¬ m = "order" → ¬ m = "book" → ¬ m = "things" → ¬ m = "gone" → (lookF (.ref oa) bv (.ref ta) ((g' : Nat) : Int)).lookup m = none := fun m g' => lookF_no _ _ _ _
    -- the mark's word
    obtain ⟨vs, ho, pw⟩ := hD.ord
    obtain ⟨v0, hv0, w0⟩ := paired_get' pw e0.1
    cases (show v0 = .str _ from w0)
    refine ⟨_, rfl, p, dx, _, rfl, hp, hno _ _ (by decide +kernel) (by decide +kernel) (by decide +kernel) (by decide +kernel), p, dx, oa, bv, ta, g, vs, _, rfl, hp, ho, hv0, fun H1 b1 hp1 => ?_⟩
    have D1 := hD.mono (b1.seqI (show H p = some (.ins _ _ _) from hp)).tup
    -- both fields
    refine ⟨_, rfl, p, dx, _, rfl, hp1, hno _ _ (by decide +kernel) (by decide +kernel) (by decide +kernel) (by decide +kernel), p, dx, oa, bv, ta, g + 1, ns, ws, q1, q2, f, rfl, hp1, D1, e1.1, hf, fun r z1 z2 H2 b2 hp2 nr hr2 f1 f2 => ?_⟩
    have D2 := D1.mono (b2.seqI (show H1 p = some (.ins _ _ _) from hp1)).tup
    -- the number
    obtain ⟨vs2, ho2, pw2⟩ := D2.ord
    obtain ⟨v2, hv2, w2⟩ := paired_get' pw2 e2.1
    refine ⟨_, rfl, p, dx, _, rfl, hp2, hno _ _ (by decide +kernel) (by decide +kernel) (by decide +kernel) (by decide +kernel), p, dx, oa, bv, ta, g + 2, vs2, _, rfl, hp2, ho2, hv2, fun H3 b3 hp3 => ?_⟩
    have s3 := b3.seqI (show H2 p = some (.ins _ _ _) from hp2)
    have fq : FracAt H3 v2 q := FracAt.mono s3.tup w2
    have f1' := f1.mono s3.tup
    have f2' := f2.mono s3.tup
    have hr3 := s3.lst _ _ hr2
    have D3 := D2.mono s3.tup
    have g1 := D3.o1.at hf
    have g2 := D3.o2.at hf
    have b13 : But p H H3 := (b1.trans b2).trans b3
    have nHr : ∀ D, H3 D = none → H D = none := fun D hD0 => by
      cases e : H D with
      | none => rfl
      | some o =>
        have ne : D ≠ p := fun z => by
          rw [z, show H3 p = some (.ins _ _ _) from hp3] at hD0
          cases hD0
        have := b13 D o ne e
        rw [hD0] at this
        cases this
    refine ⟨_, rfl, rfl, _, rfl, ?_⟩
    -- both ways the new list holds two truths
    have fin : ∀ (te : TE) (m : Fq → Bool), (∀ (x : Fq) (z : V) (σ : L2.St) (G : Hp) (Q : VK), σ[4]? = some (some z) → σ[3]? = some (some v2) → FracAt G z x → FracAt G v2 q → QOk x → Q (.bl (m x)) G → te σ G Q) →
        (m (valOf ns q1 f) = markF isq q (valOf ns q1 f)) → (m (valOf ns q2 f) = markF isq q (valOf ns q2 f)) →
        tRet (tLc (iList K (tVar 2)) (gName 4) tYes te [4]) { nx := fun _ H' => Q .non H', rt := Q } [some (.ref p), some (.str (if isq then "is" else "under")), some (.ref r), some v2, none] H3 := by
      intro te m hte m1 m2
      refine ⟨_, rfl, r, rfl, ⟨_, SqL.of hr3⟩, fun D hD0 => ?_⟩
      have nDp : D ≠ p := fun z => by
        rw [z, show H3 p = some (.ins _ _ _) from hp3] at hD0
        cases hD0
      refine lc_list (K := K) (a := r) (xs := [z1, z2]) (fun i G => ∃ acc, G D = some (.lst acc) ∧ acc = [V.bl (m (valOf ns q1 f)), V.bl (m (valOf ns q2 f))].take i ∧ ∀ b o, b ≠ D → H3 b = some o → G b = some o)
        ⟨[], upd_same, rfl, fun b o hb hh => by rw [upd_ne hb]; exact hh⟩ (fun i G _ ⟨_, _, _, kk⟩ => SqL.of (kk _ _ (ne_of_none hr3 hD0) hr3)) ?_ ?_
      · rintro i x G hx ⟨acc, ha, rfl, kk⟩
        have tk : TupK H3 G := ⟨fun b xs hh => kk b _ (ne_of_none hh hD0) hh, fun b ob xs hh => kk b _ (ne_of_none hh hD0) hh⟩
        have step : ∀ z : V, [V.bl (m (valOf ns q1 f)), V.bl (m (valOf ns q2 f))].take i ++ [z] = [V.bl (m (valOf ns q1 f)), V.bl (m (valOf ns q2 f))].take (i + 1) → ∃ acc, G D = some (.lst acc) ∧ acc.length < sizeLine ∧
            ∃ acc2, (upd G D (.lst (acc ++ [z]))) D = some (.lst acc2) ∧ acc2 = [V.bl (m (valOf ns q1 f)), V.bl (m (valOf ns q2 f))].take (i + 1) ∧ ∀ b o, b ≠ D → H3 b = some o → (upd G D (.lst (acc ++ [z]))) b = some o := fun z ez =>
          ⟨_, ha, sz' (by rw [List.length_take]; show min i 2 ≤ 1000; omega), _, upd_same, ez, fun b o hb hh => by rw [upd_ne hb]; exact kk b o hb hh⟩
        match i, hx with
        | 0, hx =>
          cases (Option.some.inj hx : z1 = x)
          exact ⟨rfl, hte (valOf ns q1 f) z1 _ G _ rfl rfl (f1'.mono tk) (fq.mono tk) g1 (step _ rfl)⟩
        | 1, hx =>
          cases (Option.some.inj hx : z2 = x)
          exact ⟨rfl, hte (valOf ns q2 f) z2 _ G _ rfl rfl (f2'.mono tk) (fq.mono tk) g2 (step _ rfl)⟩
        | i + 2, hx => simp at hx
      · rintro G ⟨acc, ha, rfl, kk⟩
        refine k D G (fun b o hb hh => kk b o (ne_of_none (b13 b o hb hh) hD0) (b13 b o hb hh)) (kk _ _ (Ne.symm nDp) hp3) (nHr D hD0) ?_
        rw [ha, m1, m2]
        rfl
    cases isq with
    | true =>
      refine ifT rfl ?_
      refine fin _ (fun x => decide (x = q)) (fun x z σ G Q' h4 h3 hx hq' _ q' => ?_) rfl rfl
      exact ⟨z, h4, v2, h3, fracD x, fracD q, hx.dp, hq'.dp, fracD_shaped _, fracD_shaped _, by rw [fracD_eqv]; exact q'⟩
    | false =>
      refine ifF (by decide +kernel) ?_
      refine fin _ (fun x => lessF x q) (fun x z σ G Q' h4 h3 hx hq' gx q' => ?_) rfl rfl
      exact ⟨z, h4, v2, h3, z, v2, x, q, rfl, hx, hq', gx, hq, _, _, rfl, rfl, by show Q' (V.bl (decide (cmpF x q < 0))) G; rw [cmp_lt]; exact q'⟩
/-! ### case -/
def spCase (C : Addr) (n : Nat) : Sp := fun vs H Q _ => ∃ (p dx oa : Addr) (bv : V) (ta : Addr) (g : Nat) (ns : List Str) (ws : List Wd) (q1 q2 : List Fq) (c : Cs Str) (l : List Wd), vs = [.ref p] ∧ LookAt C H p dx oa bv ta g ∧ LookD H oa bv ta ns ws q1 q2 ∧
  ws.drop g = csW c ++ l ∧ CsOk ns c ∧ csD c ≤ n ∧ ∀ H', But p H H' → LookAt C H' p dx oa bv ta (g + (csW c).length) → Q (.bl (holds c (valOf ns q1) (valOf ns q2))) H'
theorem csD_pos : ∀ c : Cs Str, 1 ≤ csD c
  | .same _ => Nat.le_refl _
  | .both _ _ _ => Nat.le_refl _
  | .either _ _ _ => Nat.le_refl _
  | .no _ => Nat.succ_pos _
  | .conj _ _ => Nat.succ_pos _
  | .disj _ _ => Nat.succ_pos _
theorem look_no {C : Addr} {o b t : V} {g : Int} {m : Str} (h : (decide (m = "order") || decide (m = "book") || decide (m = "things") || decide (m = "gone")) = false) : (lookF o b t g).lookup m = none := by
  simp only [Bool.or_eq_false_iff, decide_eq_false_iff_not] at h
  exact lookF_no _ _ _ _ h.1.1.1 h.1.1.2 h.1.2 h.2
theorem sc_Look_case : FnScope ["self", "word", "one", "other", "marks"] ["self"] (defScope s_Look_case) := ⟨rfl, rfl, rfl, by decide +kernel, rfl, by decide +kernel, by decide +kernel⟩
theorem ok_Look_case (T : Env K mg) : ∀ n : Nat, FnOk P w K mg base CX0 (3 + n) T.f_Look_case T.fd_Look_case ["self"] (spCase T.CLook n)
  | 0 => by
    have no : ∀ vs H Q E, ¬ spCase T.CLook 0 vs H Q E := fun vs H Q E h => by
      obtain ⟨_, _, _, _, _, _, _, _, _, _, c, _, _, _, _, _, _, hd, _⟩ := h
      have := csD_pos c
      omega
    exact ⟨fun vs H Q E h => absurd h (no vs H Q E), fun A outer s H args us vs Q E _ _ _ _ h => absurd h (no vs H Q E)⟩
  | n + 1 => by
    have ih := ok_Look_case T n
    refine T.Look_case.fn.ok sc_Look_case (fun vs H Q E h => ?_) (fun cdv A outer s H vs Q E hr h => ?_)
    · obtain ⟨_, _, _, _, _, _, _, _, _, _, _, _, rfl, _⟩ := h
      rfl
    · obtain ⟨p, dx, oa, bv, ta, g, ns, ws, q1, q2, c, l, rfl, hp, hD, hw, hc, hn, k⟩ := h
      have hr : Room (3 + n) _ := hr
      refine ⟨_, (pss_cons (ps_set (i := 1) sc_Look_case.nd rfl (Or.inl rfl) (pe_meth0 (pv 0) T.clLook T.Look_next_word.mt (ok_Look_next_word T) (hr.mono (by omega)) T.Look_next_word.bd .nil pass0))
      (pss_cons (ps_if (pt_cmpR op_eq (pv 1) pe_str (nomark _))
      (pss_cons (ps_asg (pe_meth0 (pv 0) T.clLook T.Look_both_fields.mt (ok_Look_both_fields T) (hr.mono (by omega)) T.Look_both_fields.bd .nil pass0) (pg_lst (by rfl) (pgs_cons (pg_name (i := 2) sc_Look_case.nd rfl (Or.inl rfl)) (pgs_cons (pg_name (i := 3) sc_Look_case.nd rfl (Or.inl rfl)) pgs_nil))))
      (pss_one (ps_ret (pe_cmpR (op_eqD hr.units) (pv 2) (pv 3) (nomark _)))))
      pss_nil)
      (pss_cons (ps_if (pt_cmpR op_eq (pv 1) pe_str (nomark _))
      (pss_one (ps_ret (pe_not (pe_meth0 (pv 0) T.clLook T.Look_case.mt ih hr T.Look_case.bd .nil pass0))))
      pss_nil)
      (pss_cons (ps_if (PW.pt (pw_or (pt_cmpR op_eq (pv 1) pe_str (nomark _)) (pw_or1 (pt_cmpR op_eq (pv 1) pe_str (nomark _)))))
      (pss_cons (ps_set (i := 4) sc_Look_case.nd rfl (Or.inl rfl) (pe_meth0 (pv 0) T.clLook T.Look_mark.mt (ok_Look_mark T) (hr.mono (by omega)) T.Look_mark.bd .nil pass0))
      (pss_one (ps_ret (pe_ifExp (pt_cmpR op_eq (pv 1) pe_str (nomark _)) (pe_callB (cr_all rfl) (by rfl) T.b_all (by decide +kernel) (pa_cons (pv 4) pa_nil)) (pe_callB (cr_any rfl) (by rfl) T.b_any (by decide +kernel) (pa_cons (pv 4) pa_nil))))))
      pss_nil)
      (pss_cons (ps_set (i := 2) sc_Look_case.nd rfl (Or.inl rfl) (pe_meth0 (pv 0) T.clLook T.Look_case.mt ih hr T.Look_case.bd .nil pass0))
      (pss_cons (ps_set (i := 3) sc_Look_case.nd rfl (Or.inl rfl) (pe_meth0 (pv 0) T.clLook T.Look_case.mt ih hr T.Look_case.bd .nil pass0))
      (pss_one (ps_ret (pe_ifExp (pt_cmpR op_eq (pv 1) pe_str (nomark _)) (pe_and (pv 2) (pe_one (pv 3))) (pe_or (pv 2) (pe_one (pv 3)))))))))))), ?_⟩
      obtain ⟨vs, ho, pw⟩ := hD.ord
      have hno : ∀ (m : Str) (g' : Nat), (decide (m = "order") || decide (m = "book") || decide (m = "things") || decide (m = "gone")) = false → (lookF (.ref oa) bv (.ref ta) (g' : Int)).lookup m = none := fun m g' hm => look_no (C := p) hm
      -- the first word
      have first : ∀ (x : Str) (r : List Wd) (Q2 : VK), ws.drop g = .s x :: r → (∀ H1, But p H H1 → LookAt T.CLook H1 p dx oa bv ta (g + 1) → LookD H1 oa bv ta ns ws q1 q2 → ws.drop (g + 1) = r → Q2 (.str x) H1) → ∃ v, ([some (V.ref p), none, none, none, none] : L2.St)[0]? = some (some v) ∧
          ∃ a dx' fs, v = .ref a ∧ H a = some (.ins T.CLook dx' fs) ∧ fs.lookup ("next_word" : Str) = none ∧ spNext T.CLook [v] H Q2 (fun _ _ _ => False) := fun x r Q2 hd h2 => by
        have e0 := drop_one hd
        obtain ⟨v0, hv0, w0⟩ := paired_get' pw e0.1
        cases (show v0 = .str x from w0)
        exact ⟨_, rfl, p, dx, _, rfl, hp, hno _ _ (by decide +kernel), p, dx, oa, bv, ta, g, vs, _, rfl, hp, ho, hv0, fun H1 b1 hp1 => h2 H1 b1 hp1 (hD.mono (b1.seqI (show H p = some (.ins _ _ _) from hp)).tup) e0.2⟩
      cases c with
      | same f =>
        refine first _ _ _ hw fun H1 b1 hp1 D1 e1 => ?_
        have e1' := drop_one e1
        refine ⟨_, rfl, rfl, _, rfl, ifT rfl ?_⟩
        refine ⟨_, rfl, p, dx, _, rfl, hp1, hno _ _ (by decide +kernel), p, dx, oa, bv, ta, g + 1, ns, ws, q1, q2, f, rfl, hp1, D1, e1'.1, hc, fun r z1 z2 H2 b2 hp2 nr hr2 f1 f2 => ?_⟩
        refine ⟨r, _, rfl, SqL.of hr2, rfl, _, _, rfl, ?_⟩
        refine ⟨_, _, rfl, ?_⟩
        refine ⟨rfl, ?_⟩
        refine ⟨_, rfl, _, rfl, _, _, f1.dp, f2.dp, fracD_shaped _, fracD_shaped _, ?_⟩
        rw [fracD_eqv]
        exact k H2 (b1.trans b2) hp2
      | no c =>
        refine first _ _ _ hw fun H1 b1 hp1 D1 e1 => ?_
        refine ⟨_, rfl, rfl, _, rfl, ifF (by decide +kernel) ?_⟩
        refine ⟨_, rfl, rfl, _, rfl, ifT rfl ?_⟩
        refine ⟨_, rfl, p, dx, _, rfl, hp1, hno _ _ (by decide +kernel), p, dx, oa, bv, ta, g + 1, ns, ws, q1, q2, c, l, rfl, hp1, D1, e1, hc, Nat.le_of_succ_le_succ hn, fun H2 b2 hp2 => ?_⟩
        refine ⟨_, rfl, k H2 (b1.trans b2) ?_⟩
        have e : g + 1 + (csW c).length = g + (csW (.no c)).length := by
          show _ = g + ((csW c).length + 1)
          omega
        exact e ▸ hp2
      | both b f q =>
        refine first _ _ _ hw fun H1 b1 hp1 D1 e1 => ?_
        refine ⟨_, rfl, rfl, _, rfl, ifF (by decide +kernel) ?_⟩
        refine ⟨_, rfl, rfl, _, rfl, ifF (by decide +kernel) ?_⟩
        refine ⟨_, rfl, rfl, _, rfl, ifT rfl ?_⟩
        refine iteT ?_
        refine ⟨_, rfl, p, dx, _, rfl, hp1, hno _ _ (by decide +kernel), p, dx, oa, bv, ta, g + 1, ns, ws, q1, q2, b, f, q, l, rfl, hp1, D1, e1, hc.1, hc.2, fun r H2 b2 hp2 _ hr2 => ?_⟩
        refine ⟨_, rfl, rfl, _, rfl, ifT rfl ?_⟩
        refine ⟨_, rfl, r, [markF b q (valOf ns q1 f), markF b q (valOf ns q2 f)], rfl, SqL.of hr2, ?_⟩
        have ea : ([markF b q (valOf ns q1 f), markF b q (valOf ns q2 f)] : List Bool).all id = holds (.both b f q) (valOf ns q1) (valOf ns q2) := by
          simp [holds]
        rw [ea]
        exact k H2 (b1.trans b2) hp2
      | either b f q =>
        refine first _ _ _ hw fun H1 b1 hp1 D1 e1 => ?_
        refine ⟨_, rfl, rfl, _, rfl, ifF (by decide +kernel) ?_⟩
        refine ⟨_, rfl, rfl, _, rfl, ifF (by decide +kernel) ?_⟩
        refine ⟨_, rfl, rfl, _, rfl, ifF (by decide +kernel) ?_⟩
        refine ⟨_, rfl, rfl, _, rfl, ifT rfl ?_⟩
        refine ⟨_, rfl, p, dx, _, rfl, hp1, hno _ _ (by decide +kernel), p, dx, oa, bv, ta, g + 1, ns, ws, q1, q2, b, f, q, l, rfl, hp1, D1, e1, hc.1, hc.2, fun r H2 b2 hp2 _ hr2 => ?_⟩
        refine ⟨_, rfl, rfl, _, rfl, ifF (by decide +kernel) ?_⟩
        refine ⟨_, rfl, r, [markF b q (valOf ns q1 f), markF b q (valOf ns q2 f)], rfl, SqL.of hr2, ?_⟩
        have ea : ([markF b q (valOf ns q1 f), markF b q (valOf ns q2 f)] : List Bool).any id = holds (.either b f q) (valOf ns q1) (valOf ns q2) := by
          simp [holds]
        rw [ea]
        exact k H2 (b1.trans b2) hp2
      | conj c d =>
        have hw' : ws.drop g = .s "and" :: (csW c ++ (csW d ++ l)) := by
          rw [hw, ← List.append_assoc]
          rfl
        have hm : max (csD c) (csD d) + 1 ≤ n + 1 := hn
        refine first _ _ _ hw' fun H1 b1 hp1 D1 e1 => ?_
        refine ⟨_, rfl, rfl, _, rfl, ifF (by decide +kernel) ?_⟩
        refine ⟨_, rfl, rfl, _, rfl, ifF (by decide +kernel) ?_⟩
        refine ⟨_, rfl, rfl, _, rfl, ifF (by decide +kernel) ?_⟩
        refine ⟨_, rfl, rfl, _, rfl, ifF (by decide +kernel) ?_⟩
        refine ⟨_, rfl, p, dx, _, rfl, hp1, hno _ _ (by decide +kernel), p, dx, oa, bv, ta, g + 1, ns, ws, q1, q2, c, _, rfl, hp1, D1, e1, hc.1, by omega, fun H2 b2 hp2 => ?_⟩
        have D2 := D1.mono (b2.seqI (show H1 p = some (.ins _ _ _) from hp1)).tup
        refine ⟨_, rfl, p, dx, _, rfl, hp2, hno _ _ (by decide +kernel), p, dx, oa, bv, ta, _, ns, ws, q1, q2, d, l, rfl, hp2, D2, drop_app e1, hc.2, by omega, fun H3 b3 hp3 => ?_⟩
        have e : g + 1 + (csW c).length + (csW d).length = g + (csW (.conj c d)).length := by
          show _ = g + ((csW c ++ csW d).length + 1)
          rw [List.length_append]
          omega
        have last := k H3 ((b1.trans b2).trans b3) (e ▸ hp3)
        refine ⟨_, rfl, rfl, _, rfl, ifT rfl ⟨_, rfl, _, rfl, ?_⟩⟩
        have ea : holds (.conj c d) (valOf ns q1) (valOf ns q2) = (holds c (valOf ns q1) (valOf ns q2) && holds d (valOf ns q1) (valOf ns q2)) := rfl
        rw [ea] at last
        cases hh : holds c (valOf ns q1) (valOf ns q2) with
        | true =>
          rw [hh] at last
          exact iteT ⟨_, rfl, last⟩
        | false =>
          rw [hh] at last
          exact iteF last
      | disj c d =>
        have hw' : ws.drop g = .s "or" :: (csW c ++ (csW d ++ l)) := by
          rw [hw, ← List.append_assoc]
          rfl
        have hm : max (csD c) (csD d) + 1 ≤ n + 1 := hn
        refine first _ _ _ hw' fun H1 b1 hp1 D1 e1 => ?_
        refine ⟨_, rfl, rfl, _, rfl, ifF (by decide +kernel) ?_⟩
        refine ⟨_, rfl, rfl, _, rfl, ifF (by decide +kernel) ?_⟩
        refine ⟨_, rfl, rfl, _, rfl, ifF (by decide +kernel) ?_⟩
        refine ⟨_, rfl, rfl, _, rfl, ifF (by decide +kernel) ?_⟩
        refine ⟨_, rfl, p, dx, _, rfl, hp1, hno _ _ (by decide +kernel), p, dx, oa, bv, ta, g + 1, ns, ws, q1, q2, c, _, rfl, hp1, D1, e1, hc.1, by omega, fun H2 b2 hp2 => ?_⟩
        have D2 := D1.mono (b2.seqI (show H1 p = some (.ins _ _ _) from hp1)).tup
        refine ⟨_, rfl, p, dx, _, rfl, hp2, hno _ _ (by decide +kernel), p, dx, oa, bv, ta, _, ns, ws, q1, q2, d, l, rfl, hp2, D2, drop_app e1, hc.2, by omega, fun H3 b3 hp3 => ?_⟩
        have e : g + 1 + (csW c).length + (csW d).length = g + (csW (.disj c d)).length := by
          show _ = g + ((csW c ++ csW d).length + 1)
          rw [List.length_append]
          omega
        have last := k H3 ((b1.trans b2).trans b3) (e ▸ hp3)
        refine ⟨_, rfl, rfl, _, rfl, ifF (by decide +kernel) ⟨_, rfl, _, rfl, ?_⟩⟩
        have ea : holds (.disj c d) (valOf ns q1) (valOf ns q2) = (holds c (valOf ns q1) (valOf ns q2) || holds d (valOf ns q1) (valOf ns q2)) := rfl
        rw [ea] at last
        cases hh : holds c (valOf ns q1) (valOf ns q2) with
        | true =>
          rw [hh] at last
          exact iteT last
        | false =>
          rw [hh] at last
          exact iteF ⟨_, rfl, last⟩
/-! ### side -/
def spSide (C : Addr) (n : Nat) : Sp := fun vs H Q _ => ∃ (p dx oa : Addr) (bv : V) (ta : Addr) (g : Nat) (ns : List Str) (ws : List Wd) (q1 q2 : List Fq) (wh : Bool) (t : Tr Str) (l : List Wd), vs = [.ref p, .int (if wh then 1 else 0)] ∧ LookAt C H p dx oa bv ta g ∧ LookD H oa bv ta ns ws q1 q2 ∧
  ws.drop g = trW t ++ l ∧ TrOk ns t ∧ trD t ≤ n ∧ ∀ H', But p H H' → LookAt C H' p dx oa bv ta (g + (trW t).length) → Q (.int (side t (if wh then valOf ns q2 else valOf ns q1) (if wh then valOf ns q1 else valOf ns q2))) H'
theorem trD_pos : ∀ t : Tr Str, 1 ≤ trD t
  | .like => Nat.le_refl _
  | .up _ => Nat.le_refl _
  | .down _ => Nat.le_refl _
  | .turn _ => Nat.succ_pos _
  | .thn _ _ => Nat.succ_pos _
  | .pick _ _ _ => Nat.succ_pos _
theorem sc_Look_side : FnScope ["self", "which", "word", "parts", "found", "holds", "one", "other"] ["self", "which"] (defScope s_Look_side) := ⟨rfl, rfl, rfl, by decide +kernel, rfl, by decide +kernel, by decide +kernel⟩
theorem ok_Look_side (T : Env K mg) : ∀ n : Nat, FnOk P w K mg base CX0 (5 + n) T.f_Look_side T.fd_Look_side ["self", "which"] (spSide T.CLook n)
  | 0 => by
    have no : ∀ vs H Q E, ¬ spSide T.CLook 0 vs H Q E := fun vs H Q E h => by
      obtain ⟨_, _, _, _, _, _, _, _, _, _, _, t, _, _, _, _, _, _, hd, _⟩ := h
      have := trD_pos t
      omega
    exact ⟨fun vs H Q E h => absurd h (no vs H Q E), fun A outer s H args us vs Q E _ _ _ _ h => absurd h (no vs H Q E)⟩
  | n + 1 => by
    have ih := ok_Look_side T n
    refine T.Look_side.fn.ok sc_Look_side (fun vs H Q E h => ?_) (fun cdv A outer s H vs Q E hr h => ?_)
    · obtain ⟨_, _, _, _, _, _, _, _, _, _, _, _, _, rfl, _⟩ := h
      rfl
    · obtain ⟨p, dx, oa, bv, ta, g, ns, ws, q1, q2, wh, t, l, rfl, hp, hD, hw, hc, hn, k⟩ := h
      have hr : Room (5 + n) _ := hr
      refine ⟨_, (pss_cons (ps_set (i := 2) sc_Look_side.nd rfl (Or.inl rfl) (pe_meth0 (pv 0) T.clLook T.Look_next_word.mt (ok_Look_next_word T) (hr.mono (by omega)) T.Look_next_word.bd .nil pass0))
      (pss_cons (ps_if (pt_cmpR op_eq (pv 2) pe_str (nomark _))
      (pss_one (ps_ret pe_int))
      pss_nil)
      (pss_cons (ps_if (PW.pt (pw_or (pt_cmpR op_eq (pv 2) pe_str (nomark _)) (pw_or1 (pt_cmpR op_eq (pv 2) pe_str (nomark _)))))
      (pss_cons (ps_set (i := 3) sc_Look_side.nd rfl (Or.inl rfl) (pe_meth0 (pv 0) T.clLook T.Look_both_fields.mt (ok_Look_both_fields T) (hr.mono (by omega)) T.Look_both_fields.bd .nil pass0))
      (pss_cons (ps_set (i := 4) sc_Look_side.nd rfl (Or.inl rfl) (pe_call (ok_compared T) (hr.mono (by omega)) (by rfl) T.compared.mg T.compared.fn.kp T.compared.bd .nil pass0 (pa_cons (pe_ix ix_list (pv 3) (pv 1) (fun _ _ => rfl)) (pa_cons (pe_ix ix_list (pv 3) (pe_op op_sub pe_int (pv 1)) (fun _ _ => rfl)) pa_nil))))
      (pss_one (ps_ret (pe_ifExp (pt_cmpR op_eq (pv 2) pe_str (nomark _)) (pv 4) (pe_un un_neg (pv 4)))))))
      pss_nil)
      (pss_cons (ps_if (pt_cmpR op_eq (pv 2) pe_str (nomark _))
      (pss_one (ps_ret (pe_meth (pv 0) T.clLook T.Look_side.mt ih hr T.Look_side.bd .nil pass0 (pa_cons (pe_op op_sub pe_int (pv 1)) pa_nil))))
      pss_nil)
      (pss_cons (ps_set (i := 5) sc_Look_side.nd rfl (Or.inl rfl) pe_bl)
      (pss_cons (ps_if (pt_cmpR op_eq (pv 2) pe_str (nomark _))
      (pss_one (ps_set (i := 5) sc_Look_side.nd rfl (Or.inl rfl) (pe_meth0 (pv 0) T.clLook T.Look_case.mt (ok_Look_case T 2) (hr.mono (by omega)) T.Look_case.bd .nil pass0)))
      pss_nil)
      (pss_cons (ps_set (i := 6) sc_Look_side.nd rfl (Or.inl rfl) (pe_meth (pv 0) T.clLook T.Look_side.mt ih hr T.Look_side.bd .nil pass0 (pa_cons (pv 1) pa_nil)))
      (pss_cons (ps_set (i := 7) sc_Look_side.nd rfl (Or.inl rfl) (pe_meth (pv 0) T.clLook T.Look_side.mt ih hr T.Look_side.bd .nil pass0 (pa_cons (pv 1) pa_nil)))
      (pss_cons (ps_if (pt_cmpR op_eq (pv 2) pe_str (nomark _))
      (pss_one (ps_set (i := 5) sc_Look_side.nd rfl (Or.inl rfl) (pe_cmpR op_ne (pv 6) pe_int (nomark _))))
      pss_nil)
      (pss_one (ps_ret (pe_ifExp (pt_val (pv 5)) (pv 6) (pv 7))))))))))))), ?_⟩
      obtain ⟨vs, ho, pw⟩ := hD.ord
      have hno : ∀ (m : Str) (g' : Nat), (decide (m = "order") || decide (m = "book") || decide (m = "things") || decide (m = "gone")) = false → (lookF (.ref oa) bv (.ref ta) (g' : Int)).lookup m = none := fun m g' hm => look_no (C := p) hm
      have first : ∀ (x : Str) (r : List Wd) (σ : L2.St) (Q2 : VK), σ[0]? = some (some (V.ref p)) → ws.drop g = .s x :: r → (∀ H1, But p H H1 → LookAt T.CLook H1 p dx oa bv ta (g + 1) → LookD H1 oa bv ta ns ws q1 q2 → ws.drop (g + 1) = r → Q2 (.str x) H1) → ∃ v, σ[0]? = some (some v) ∧
          ∃ a dx' fs, v = .ref a ∧ H a = some (.ins T.CLook dx' fs) ∧ fs.lookup ("next_word" : Str) = none ∧ spNext T.CLook [v] H Q2 (fun _ _ _ => False) := fun x r σ Q2 hσ hd h2 => by
        have e0 := drop_one hd
        obtain ⟨v0, hv0, w0⟩ := paired_get' pw e0.1
        cases (show v0 = .str x from w0)
        exact ⟨_, hσ, p, dx, _, rfl, hp, hno _ _ (by decide +kernel), p, dx, oa, bv, ta, g, vs, _, rfl, hp, ho, hv0, fun H1 b1 hp1 => h2 H1 b1 hp1 (hD.mono (b1.seqI (show H p = some (.ins _ _ _) from hp)).tup) e0.2⟩
      -- up, down: both fields, compared
      have fields : ∀ (f : Str) (r : List Wd) (H1 : Hp), But p H H1 → LookAt T.CLook H1 p dx oa bv ta (g + 1) → LookD H1 oa bv ta ns ws q1 q2 → ws.drop (g + 1) = .s f :: r → f ∈ ns → ∀ (up : Bool),
          (∀ H2, But p H H2 → LookAt T.CLook H2 p dx oa bv ta (g + 2) → Q (.int (if up then cmpF ((if wh then valOf ns q2 else valOf ns q1) f) ((if wh then valOf ns q1 else valOf ns q2) f) else -cmpF ((if wh then valOf ns q2 else valOf ns q1) f) ((if wh then valOf ns q1 else valOf ns q2) f))) H2) →
          tSeq (tAsg (tMeth T.CLook "both_fields" (spBoth T.CLook) [] E0 (tVar 0) tNil) (gName 3)) (tSeq (tAsg (tCall spCompared [] E0 (tCons (tOp (rIxL K) (tVar 3) (tVar 1)) (tCons (tOp (rIxL K) (tVar 3) (tOp (rI0 fun i j => .int (i - j)) (tC (.int 1)) (tVar 1))) tNil))) (gName 4))
            (tRet (tIf (tTest (tOp rEq (tVar 2) (tC (.str "up")))) (tVar 4) (tUn (rU fun i => .int (-i)) (tVar 4))))) { nx := fun _ H' => Q .non H', rt := Q } [some (.ref p), some (.int (if wh then 1 else 0)), some (.str (if up then "up" else "down")), none, none, none, none, none] H1 := by
        intro f r H1 b1 hp1 D1 e1 hf up k2
        have e1' := drop_one e1
        refine ⟨_, rfl, p, dx, _, rfl, hp1, hno _ _ (by decide +kernel), p, dx, oa, bv, ta, g + 1, ns, ws, q1, q2, f, rfl, hp1, D1, e1'.1, hf, fun r z1 z2 H2 b2 hp2 nr hr2 f1 f2 => ?_⟩
        have D2 := D1.mono (b2.seqI (show H1 p = some (.ins _ _ _) from hp1)).tup
        have last := k2 H2 (b1.trans b2) hp2
        have o1 := D2.o1.at hf
        have o2 := D2.o2.at hf
        cases wh with
        | false =>
          refine ⟨_, rfl, _, rfl, r, _, _, z1, rfl, rfl, SqL.of hr2, rfl, _, rfl, _, rfl, _, _, rfl, rfl, r, _, _, z2, rfl, rfl, SqL.of hr2, rfl, z1, z2, _, _, rfl, f1, f2, o1, o2, ?_⟩
          cases up with
          | true => exact ⟨_, rfl, rfl, _, rfl, ifT rfl ⟨_, rfl, last⟩⟩
          | false => exact ⟨_, rfl, rfl, _, rfl, ifF (by decide +kernel) ⟨_, rfl, _, rfl, last⟩⟩
        | true =>
          refine ⟨_, rfl, _, rfl, r, _, _, z2, rfl, rfl, SqL.of hr2, rfl, _, rfl, _, rfl, _, _, rfl, rfl, r, _, _, z1, rfl, rfl, SqL.of hr2, rfl, z2, z1, _, _, rfl, f2, f1, o2, o1, ?_⟩
          cases up with
          | true => exact ⟨_, rfl, rfl, _, rfl, ifT rfl ⟨_, rfl, last⟩⟩
          | false => exact ⟨_, rfl, rfl, _, rfl, ifF (by decide +kernel) ⟨_, rfl, _, rfl, last⟩⟩
      cases t with
      | like =>
        refine first _ _ _ _ rfl hw fun H1 b1 hp1 D1 e1 => ?_
        exact ⟨_, rfl, rfl, _, rfl, ifT rfl (k H1 b1 hp1)⟩
      | up f =>
        refine first _ _ _ _ rfl hw fun H1 b1 hp1 D1 e1 => ?_
        refine ⟨_, rfl, rfl, _, rfl, ifF (by decide +kernel) ?_⟩
        refine ⟨_, rfl, rfl, _, rfl, ifT rfl ?_⟩
        refine iteT ?_
        exact fields f l H1 b1 hp1 D1 e1 hc true fun H2 b2 hp2 => k H2 b2 hp2
      | down f =>
        refine first _ _ _ _ rfl hw fun H1 b1 hp1 D1 e1 => ?_
        refine ⟨_, rfl, rfl, _, rfl, ifF (by decide +kernel) ?_⟩
        refine ⟨_, rfl, rfl, _, rfl, ifF (by decide +kernel) ?_⟩
        refine ⟨_, rfl, rfl, _, rfl, ifT rfl ?_⟩
        exact fields f l H1 b1 hp1 D1 e1 hc false fun H2 b2 hp2 => k H2 b2 hp2
      | turn t =>
        refine first _ _ _ _ rfl hw fun H1 b1 hp1 D1 e1 => ?_
        refine ⟨_, rfl, rfl, _, rfl, ifF (by decide +kernel) ?_⟩
        refine ⟨_, rfl, rfl, _, rfl, ifF (by decide +kernel) ?_⟩
        refine ⟨_, rfl, rfl, _, rfl, ifF (by decide +kernel) ?_⟩
        refine ⟨_, rfl, rfl, _, rfl, ifT rfl ?_⟩
        have e : g + 1 + (trW t).length = g + (trW (.turn t)).length := by
          show _ = g + ((trW t).length + 1)
          omega
        refine ⟨_, rfl, p, dx, _, rfl, hp1, hno _ _ (by decide +kernel), _, rfl, _, _, rfl, rfl, p, dx, oa, bv, ta, g + 1, ns, ws, q1, q2, !wh, t, l, ?_, hp1, D1, e1, hc, Nat.le_of_succ_le_succ hn, fun H2 b2 hp2 => ?_⟩
        · cases wh <;> rfl
        · have last := k H2 (b1.trans b2) (e ▸ hp2)
          cases wh with
          | true => exact last
          | false => exact last
      | thn s t =>
        have hw' : ws.drop g = .s "then" :: (trW s ++ (trW t ++ l)) := by
          rw [hw, ← List.append_assoc]
          rfl
        have hm : max (trD s) (trD t) + 1 ≤ n + 1 := hn
        refine first _ _ _ _ rfl hw' fun H1 b1 hp1 D1 e1 => ?_
        refine ⟨_, rfl, rfl, _, rfl, ifF (by decide +kernel) ?_⟩
        refine ⟨_, rfl, rfl, _, rfl, ifF (by decide +kernel) ?_⟩
        refine ⟨_, rfl, rfl, _, rfl, ifF (by decide +kernel) ?_⟩
        refine ⟨_, rfl, rfl, _, rfl, ifF (by decide +kernel) ?_⟩
        refine ⟨_, rfl, rfl, _, rfl, ifF (by decide +kernel) ?_⟩
        refine ⟨_, rfl, p, dx, _, rfl, hp1, hno _ _ (by decide +kernel), _, rfl, p, dx, oa, bv, ta, g + 1, ns, ws, q1, q2, wh, s, _, rfl, hp1, D1, e1, hc.1, by omega, fun H2 b2 hp2 => ?_⟩
        have D2 := D1.mono (b2.seqI (show H1 p = some (.ins _ _ _) from hp1)).tup
        refine ⟨_, rfl, p, dx, _, rfl, hp2, hno _ _ (by decide +kernel), _, rfl, p, dx, oa, bv, ta, _, ns, ws, q1, q2, wh, t, l, rfl, hp2, D2, drop_app e1, hc.2, by omega, fun H3 b3 hp3 => ?_⟩
        have e : g + 1 + (trW s).length + (trW t).length = g + (trW (.thn s t)).length := by
          show _ = g + ((trW s ++ trW t).length + 1)
          rw [List.length_append]
          omega
        have last := k H3 ((b1.trans b2).trans b3) (e ▸ hp3)
        rw [side_thn] at last
        refine ⟨_, rfl, rfl, _, rfl, ifT rfl ?_⟩
        refine ⟨_, rfl, rfl, ?_⟩
        refine ⟨_, rfl, _, rfl, ?_⟩
        by_cases z : side s (if wh then valOf ns q2 else valOf ns q1) (if wh then valOf ns q1 else valOf ns q2) = 0
        · rw [if_pos z] at last
          rw [z]
          exact iteF ⟨_, rfl, last⟩
        · rw [if_neg z] at last
          rw [decide_eq_false (fun y => z (V.int.inj y))]
          exact iteT ⟨_, rfl, last⟩
      | pick c s t =>
        have hw' : ws.drop g = .s "pick" :: (csW c ++ (trW s ++ (trW t ++ l))) := by
          rw [hw, ← List.append_assoc, ← List.append_assoc]
          show .s "pick" :: (csW c ++ (trW s ++ trW t)) ++ l = _
          rw [← List.append_assoc]
          rfl
        have hm : max (trD s) (trD t) + 1 ≤ n + 1 := hn
        refine first _ _ _ _ rfl hw' fun H1 b1 hp1 D1 e1 => ?_
        refine ⟨_, rfl, rfl, _, rfl, ifF (by decide +kernel) ?_⟩
        refine ⟨_, rfl, rfl, _, rfl, ifF (by decide +kernel) ?_⟩
        refine ⟨_, rfl, rfl, _, rfl, ifF (by decide +kernel) ?_⟩
        refine ⟨_, rfl, rfl, _, rfl, ifF (by decide +kernel) ?_⟩
        refine ⟨_, rfl, rfl, _, rfl, ifT rfl ?_⟩
        refine ⟨_, rfl, p, dx, _, rfl, hp1, hno _ _ (by decide +kernel), p, dx, oa, bv, ta, g + 1, ns, ws, q1, q2, c, _, rfl, hp1, D1, e1, hc.1.1, hc.1.2, fun H2 b2 hp2 => ?_⟩
        have D2 := D1.mono (b2.seqI (show H1 p = some (.ins _ _ _) from hp1)).tup
        have e2 := drop_app e1
        refine ⟨_, rfl, p, dx, _, rfl, hp2, hno _ _ (by decide +kernel), _, rfl, p, dx, oa, bv, ta, _, ns, ws, q1, q2, wh, s, _, rfl, hp2, D2, e2, hc.2.1, by omega, fun H3 b3 hp3 => ?_⟩
        have D3 := D2.mono (b3.seqI (show H2 p = some (.ins _ _ _) from hp2)).tup
        refine ⟨_, rfl, p, dx, _, rfl, hp3, hno _ _ (by decide +kernel), _, rfl, p, dx, oa, bv, ta, _, ns, ws, q1, q2, wh, t, l, rfl, hp3, D3, drop_app e2, hc.2.2, by omega, fun H4 b4 hp4 => ?_⟩
        have e : g + 1 + (csW c).length + (trW s).length + (trW t).length = g + (trW (.pick c s t)).length := by
          show _ = g + ((csW c ++ (trW s ++ trW t)).length + 1)
          rw [List.length_append, List.length_append]
          omega
        have last := k H4 (((b1.trans b2).trans b3).trans b4) (e ▸ hp4)
        refine ⟨_, rfl, rfl, _, rfl, ifF (by decide +kernel) ?_⟩
        refine ⟨_, rfl, _, rfl, ?_⟩
        have hs : holds c (if wh then valOf ns q2 else valOf ns q1) (if wh then valOf ns q1 else valOf ns q2) = holds c (valOf ns q1) (valOf ns q2) := by
          cases wh with
          | true => exact holds_symm c _ _
          | false => rfl
        have es : side (.pick c s t) (if wh then valOf ns q2 else valOf ns q1) (if wh then valOf ns q1 else valOf ns q2) = if holds c (valOf ns q1) (valOf ns q2) = true then side s (if wh then valOf ns q2 else valOf ns q1) (if wh then valOf ns q1 else valOf ns q2) else side t (if wh then valOf ns q2 else valOf ns q1) (if wh then valOf ns q1 else valOf ns q2) := by
          rw [← hs]
          rfl
        rw [es] at last
        cases hh : holds c (valOf ns q1) (valOf ns q2) with
        | true =>
          rw [hh, if_pos rfl] at last
          exact iteT ⟨_, rfl, last⟩
        | false =>
          rw [hh, if_neg Bool.false_ne_true] at last
          exact iteF ⟨_, rfl, last⟩
end
end K67

set_option Elab.async false
set_option linter.all false
set_option maxRecDepth 100000
set_option maxHeartbeats 4000000
/-! side_of, looked. -/
namespace K67
open PySem PySem.Spec PyProof.Rows L2
def tellS (i : Int) : Str := if i = -1 then "ahead" else if i = 0 then "like" else "behind"
section
variable {P : Program} {w : World} {K : PySem.W.Frag} {mg : Str → Option Value} {base : Heap}
def spSideOf : Sp := fun vs H Q _ => ∃ (ov bv v1 v2 : V) (ns : List Str) (q1 q2 : List Fq) (t : Tr Str), vs = [ov, bv, v1, v2] ∧ OrdAt H ov (trW t) ∧ NamesAt H bv ns ∧ ThingAt H v1 q1 ∧ ThingAt H v2 q2 ∧ ThOk ns q1 ∧ ThOk ns q2 ∧ TrOk ns t ∧ trD t ≤ 4 ∧
  ∀ H', Same H H' → Q (.int (side t (valOf ns q1) (valOf ns q2))) H'
theorem sc_side_of : FnScope ["order", "book", "one", "other"] ["order", "book", "one", "other"] (defScope s_side_of) := ⟨rfl, rfl, rfl, by decide +kernel, rfl, by decide +kernel, by decide +kernel⟩
theorem ok_side_of (T : Env K mg) : FnOk P w K mg base CX0 10 T.f_side_of T.fd_side_of ["order", "book", "one", "other"] spSideOf := by
  refine T.side_of.fn.ok sc_side_of (fun vs H Q E h => ?_) (fun cdv A outer s H vs Q E hr h => ?_)
  · obtain ⟨_, _, _, _, _, _, _, _, rfl, _⟩ := h
    rfl
  · obtain ⟨ov, bv, v1, v2, ns, q1, q2, t, rfl, ho, hb, h1, h2, o1, o2, ht, hd, k⟩ := h
    refine ⟨_, pss_one (ps_ret (pe_meth (pe_make T.mkLook (ok_Look_init T) (hr.mono (by decide)) (by rfl) T.mgLook T.Look_init.bd .nil pass0 (pa_cons (pv 0) (pa_cons (pv 1) (pa_cons (pv 2) (pa_cons (pv 3) pa_nil))))) T.clLook T.Look_side.mt (ok_Look_side T 4) (hr.mono (by decide)) T.Look_side.bd .nil pass0 (pa_cons pe_int pa_nil))), ?_⟩
    obtain ⟨oa, ovs, rfl, hov, pw⟩ := ho
    refine ⟨_, rfl, _, rfl, _, rfl, _, rfl, fun x dx nx ndx nex => ?_⟩
    refine ⟨x, dx, oa, bv, v1, v2, rfl, upd_same, fun ta H1 b1 nta hta hp1 => ⟨rfl, ?_⟩⟩
    have s1 : Same H H1 := fun b o hh => b1 b o (ne_of_none hh nx) (by rw [upd_ne (ne_of_none hh nx), upd_ne (ne_of_none hh ndx)]; exact hh)
    have tk := TupK.of s1
    have D1 : LookD H1 oa bv ta ns (trW t) q1 q2 := ⟨⟨ovs, tk.at_ _ _ hov, paired_mono (fun _ _ => WdAt.mono tk) pw⟩, hb.mono tk, ⟨v1, v2, hta, h1.mono tk, h2.mono tk⟩, o1, o2⟩
    refine ⟨x, dx, _, rfl, hp1, look_no (C := x) (by decide +kernel), x, dx, oa, bv, ta, 0, ns, trW t, q1, q2, false, t, [], rfl, hp1, D1, (by rw [List.append_nil]; rfl), ht, hd, fun H2 b2 _ => ?_⟩
    exact k H2 fun b o hh => b2 b o (ne_of_none hh nx) (s1 b o hh)
def spLooked : Sp := fun vs H Q _ => ∃ (ov bv v1 v2 : V) (ns : List Str) (q1 q2 : List Fq) (t : Tr Str), vs = [ov, bv, v1, v2] ∧ OrdAt H ov (trW t) ∧ NamesAt H bv ns ∧ ThingAt H v1 q1 ∧ ThingAt H v2 q2 ∧ ThOk ns q1 ∧ ThOk ns q2 ∧ TrOk ns t ∧ trD t ≤ 4 ∧
  ∀ H', Same H H' → Q (.str (tellS (side t (valOf ns q1) (valOf ns q2)))) H'
theorem sc_looked : FnScope ["order", "book", "one", "other"] ["order", "book", "one", "other"] (defScope s_looked) := ⟨rfl, rfl, rfl, by decide +kernel, rfl, by decide +kernel, by decide +kernel⟩
theorem ok_looked (T : Env K mg) : FnOk P w K mg base CX0 11 T.f_looked T.fd_looked ["order", "book", "one", "other"] spLooked := by
  refine T.looked.fn.ok sc_looked (fun vs H Q E h => ?_) (fun cdv A outer s H vs Q E hr h => ?_)
  · obtain ⟨_, _, _, _, _, _, _, _, rfl, _⟩ := h
    rfl
  · obtain ⟨ov, bv, v1, v2, ns, q1, q2, t, rfl, ho, hb, h1, h2, o1, o2, ht, hd, k⟩ := h
    refine ⟨_, pss_one (ps_ret (pe_ix ix_kint (pe_glob (v := .ref T.aTOLD) rfl T.mgTOLD rfl) (pe_call (ok_side_of T) (hr.mono (by decide)) (by rfl) T.side_of.mg T.side_of.fn.kp T.side_of.bd .nil pass0 (pa_cons (pv 0) (pa_cons (pv 1) (pa_cons (pv 2) (pa_cons (pv 3) pa_nil))))) (fun _ _ => rfl))), ?_⟩
    refine ⟨_, rfl, _, rfl, _, rfl, _, rfl, ov, bv, v1, v2, ns, q1, q2, t, rfl, ho, hb, h1, h2, o1, o2, ht, hd, fun H1 s1 => ?_⟩
    have last := k H1 s1
    rcases side_range t (valOf ns q1) (valOf ns q2) with e | e | e
    · rw [e] at last ⊢
      exact ⟨_, _, _, rfl, rfl, T.told_ahead, last⟩
    · rw [e] at last ⊢
      exact ⟨_, _, _, rfl, rfl, T.told_like, last⟩
    · rw [e] at last ⊢
      exact ⟨_, _, _, rfl, rfl, T.told_behind, last⟩
end
end K67

set_option Elab.async false
set_option linter.all false
set_option maxRecDepth 100000
set_option maxHeartbeats 4000000
/-! The hand of draws: _law_hand, _law_draw. A draw is any number from 0 to below its limit. -/
namespace K67
open PySem PySem.Spec PyProof.Rows L2
/-! ### dicts -/
theorem put_len {kvs : List (Key × V)} {k : Key} {v y : V} (h : valV kvs k = some y) : (putK kvs k v).length = kvs.length := by
  unfold putK
  rw [if_pos (by rw [valV_any, h]; rfl), List.length_map]
structure HandV (kvs : List (Key × V)) (ca : Addr) (n r k : Int) : Prop where
  cells : valV kvs (.inr "cells") = some (.ref ca)
  next : valV kvs (.inr "next") = some (.int n)
  rest : valV kvs (.inr "rest") = some (.int r)
  count : valV kvs (.inr "count") = some (.int k)
  len : kvs.length = 4
theorem k1 : ¬ ((Sum.inr ("cells" : Str) : Key) = Sum.inr ("next" : Str)) := by decide +kernel
theorem k2 : ¬ ((Sum.inr ("cells" : Str) : Key) = Sum.inr ("rest" : Str)) := by decide +kernel
theorem k3 : ¬ ((Sum.inr ("cells" : Str) : Key) = Sum.inr ("count" : Str)) := by decide +kernel
theorem k4 : ¬ ((Sum.inr ("next" : Str) : Key) = Sum.inr ("rest" : Str)) := by decide +kernel
theorem k5 : ¬ ((Sum.inr ("next" : Str) : Key) = Sum.inr ("count" : Str)) := by decide +kernel
theorem k6 : ¬ ((Sum.inr ("rest" : Str) : Key) = Sum.inr ("count" : Str)) := by decide +kernel
theorem HandV.putNext {kvs : List (Key × V)} {ca : Addr} {n r k : Int} (h : HandV kvs ca n r k) (x : Int) : HandV (putK kvs (.inr "next") (.int x)) ca x r k :=
  ⟨by rw [valV_put, if_neg k1]; exact h.cells, by rw [valV_put, if_pos rfl], by rw [valV_put, if_neg (fun e => k4 e.symm)]; exact h.rest, by rw [valV_put, if_neg (fun e => k5 e.symm)]; exact h.count, (put_len h.next).trans h.len⟩
theorem HandV.putRest {kvs : List (Key × V)} {ca : Addr} {n r k : Int} (h : HandV kvs ca n r k) (x : Int) : HandV (putK kvs (.inr "rest") (.int x)) ca n x k :=
  ⟨by rw [valV_put, if_neg k2]; exact h.cells, by rw [valV_put, if_neg k4]; exact h.next, by rw [valV_put, if_pos rfl], by rw [valV_put, if_neg (fun e => k6 e.symm)]; exact h.count, (put_len h.rest).trans h.len⟩
theorem HandV.putCount {kvs : List (Key × V)} {ca : Addr} {n r k : Int} (h : HandV kvs ca n r k) (x : Int) : HandV (putK kvs (.inr "count") (.int x)) ca n r x :=
  ⟨by rw [valV_put, if_neg k3]; exact h.cells, by rw [valV_put, if_neg k5]; exact h.next, by rw [valV_put, if_neg k6]; exact h.rest, by rw [valV_put, if_pos rfl], (put_len h.count).trans h.len⟩
/-- the hand at hd, its cells at ca -/
def HandAt (H : Hp) (hd ca : Addr) : Prop := ∃ (kvs : List (Key × V)) (ns : List Int) (n r k : Int), H hd = some (.dK kvs) ∧ HandV kvs ca n r k ∧ H ca = some (.lst (ns.map V.int)) ∧ 1 ≤ ns.length ∧ ns.length ≤ 64 ∧ 0 ≤ n ∧ 0 ≤ r
theorem HandAt.dk {H : Hp} {hd ca : Addr} (h : HandAt H hd ca) : ∃ kvs, H hd = some (.dK kvs) := let ⟨kvs, _, _, _, _, e, _⟩ := h; ⟨kvs, e⟩
theorem HandAt.cells {H : Hp} {hd ca : Addr} (h : HandAt H hd ca) : ∃ xs, H ca = some (.lst xs) := let ⟨_, _, _, _, _, _, _, e, _⟩ := h; ⟨_, e⟩
/-- another object is written -/
theorem HandAt.upd {H : Hp} {hd ca p : Addr} {o : HO} (h : HandAt H hd ca) (h1 : p ≠ hd) (h2 : p ≠ ca) : HandAt (upd H p o) hd ca :=
  let ⟨kvs, ns, n, r, k, e, a, b, c⟩ := h; ⟨kvs, ns, n, r, k, by rw [upd_ne (Ne.symm h1)]; exact e, a, by rw [upd_ne (Ne.symm h2)]; exact b, c⟩
/-- a new object stands apart from the hand and its cells -/
theorem HandAt.new {H : Hp} {hd ca p : Addr} (h : HandAt H hd ca) (hp : H p = none) : p ≠ hd ∧ p ≠ ca := by
  obtain ⟨_, e1⟩ := h.dk
  obtain ⟨_, e2⟩ := h.cells
  exact ⟨(fun z => by rw [← z, hp] at e1; cases e1), (fun z => by rw [← z, hp] at e2; cases e2)⟩
/-- all but the hand is kept: the data -/
theorem But.seqH {hd ca : Addr} {H H' : Hp} (x : But hd H H') (h : HandAt H hd ca) : SeqK H H' := let ⟨_, e⟩ := h.dk; x.seqD e
theorem HandAt.same {H H' : Hp} {hd ca : Addr} (h : HandAt H hd ca) (x : Same H H') : HandAt H' hd ca := let ⟨kvs, ns, n, r, k, e, a, b, c⟩ := h; ⟨kvs, ns, n, r, k, x _ _ e, a, x _ _ b, c⟩
section
variable {P : Program} {w : World} {K : PySem.W.Frag} {mg : Str → Option Value} {base : Heap}
def spDraw : Sp := fun vs H Q _ => ∃ (hd ca : Addr) (lim : Int), vs = [.ref hd, .int lim] ∧ HandAt H hd ca ∧ 0 < lim ∧ lim.natAbs < 2 ^ 120 ∧ ∀ (v : Int) (H' : Hp), 0 ≤ v → v < lim → But hd H H' → HandAt H' hd ca → Q (.int v) H'
theorem sc_l_draw : FnScope ["hand", "limit", "turn", "cell", "mixed", "found"] ["hand", "limit"] (defScope s_l_draw) := ⟨rfl, rfl, rfl, by decide +kernel, rfl, by decide +kernel, by decide +kernel⟩
theorem dgetH {H : Hp} {hd : Addr} {kvs : List (Key × V)} {x : Str} {v : V} (e : H hd = some (.dK kvs)) (h : valV kvs (.inr x) = some v) : DGet H hd (.str x) (some v) := by
  have d := DGet.k (k := Sum.inr x) e
  rw [h] at d
  exact d
theorem ok_l_draw (T : Env K mg) : FnOk P w K mg base CX0 1 T.f_l_draw T.fd_l_draw ["hand", "limit"] spDraw := by
  refine T.l_draw.fn.ok sc_l_draw (fun vs H Q E h => ?_) (fun cdv A outer s H vs Q E hr h => ?_)
  · obtain ⟨_, _, _, rfl, _⟩ := h
    rfl
  · obtain ⟨hd, ca, lim, rfl, ⟨kvs, ns, n, r, k, e, hv, hc, l1, l2, n0, r0⟩, hl0, hl1, q⟩ := h
    refine ⟨_, (pss_cons (ps_dput (hu_of hr) (pv 0) pe_str (pe_op op_add (pe_dget (hu_of hr) (pv 0) pe_str (fun _ _ => rfl)) pe_int) rfl)
      (pss_cons (ps_if (pt_cmpR op_eq (pe_dget (hu_of hr) (pv 0) pe_str (fun _ _ => rfl)) pe_int (nomark _))
      (pss_cons (ps_set (i := 2) sc_l_draw.nd rfl (Or.inl rfl) (pe_op op_fdiv (pe_dget (hu_of hr) (pv 0) pe_str (fun _ _ => rfl)) (pe_callB call_len_seq (by rfl) T.b_len (by decide +kernel) (pa_cons (pe_dget (hu_of hr) (pv 0) pe_str (fun _ _ => rfl)) pa_nil))))
      (pss_cons (ps_set (i := 3) sc_l_draw.nd rfl (Or.inl rfl) (pe_ix ix_list (pe_dget (hu_of hr) (pv 0) pe_str (fun _ _ => rfl)) (pe_op op_mod (pe_dget (hu_of hr) (pv 0) pe_str (fun _ _ => rfl)) (pe_callB call_len_seq (by rfl) T.b_len (by decide +kernel) (pa_cons (pe_dget (hu_of hr) (pv 0) pe_str (fun _ _ => rfl)) pa_nil))) (fun _ _ => rfl)))
      (pss_cons (ps_dput (hu_of hr) (pv 0) pe_str (pe_op op_add (pe_dget (hu_of hr) (pv 0) pe_str (fun _ _ => rfl)) pe_int) rfl)
      (pss_one (ps_if (PW.pt (pw_and (pt_cmpR op_eq (pv 2) pe_int (nomark _)) (pw_and1 (pt_cmpR op_ge (pv 3) (pe_op op_pow pe_int pe_int) (nomark _)))))
      (pss_one (ps_dput (hu_of hr) (pv 0) pe_str (pv 3) rfl))
      (pss_cons (ps_set (i := 4) sc_l_draw.nd rfl (Or.inl rfl) (pe_op op_mod (pe_op op_add (pe_op op_add (pe_op op_mod (pv 3) pe_int) (pe_op op_mul pe_int (pe_dget (hu_of hr) (pv 0) pe_str (fun _ _ => rfl)))) (pe_op op_mul pe_int (pv 2))) pe_int))
      (pss_cons (ps_set (i := 4) sc_l_draw.nd rfl (Or.inl rfl) (pe_op op_mod (pe_op op_mul (pv 4) (pv 4)) pe_int))
      (pss_one (ps_ret (pe_op op_mod (pe_op op_fdiv (pe_op op_mod (pe_op op_mul (pv 4) (pe_op op_add (pv 4) pe_int)) pe_int) pe_int) (pv 1)))))))))))
      pss_nil)
      (pss_cons (ps_set (i := 5) sc_l_draw.nd rfl (Or.inl rfl) (pe_op op_mod (pe_dget (hu_of hr) (pv 0) pe_str (fun _ _ => rfl)) (pv 1)))
      (pss_cons (ps_dput (hu_of hr) (pv 0) pe_str (pe_op op_fdivW (pe_dget (hu_of hr) (pv 0) pe_str (fun _ _ => rfl)) (pv 1)) rfl)
      (pss_one (ps_ret (pv 5))))))), ?_⟩
    have cne : ca ≠ hd := ne_of hc e (by intro z; cases z)
    have sl : ∀ {l : List (Key × V)}, l.length = 4 → l.length < sizeLine := fun h => by rw [h]; exact sz' (by decide)
    -- hand['count'] += 1
    refine ⟨_, rfl, _, _, rfl, dgetH e hv.count, _, _, rfl, rfl, ?_⟩
    refine ⟨_, rfl, hd, _, rfl, DPut.k (k := Sum.inr "count") e (sl hv.len), ?_⟩
    have v1 := hv.putCount (k + 1)
    have e1 : upd H hd (.dK (putK kvs (.inr "count") (.int (k + 1)))) hd = some (.dK (putK kvs (.inr "count") (.int (k + 1)))) := upd_same
    have b1 : But hd H (upd H hd (.dK (putK kvs (.inr "count") (.int (k + 1))))) := But.upd
    have c1 : upd H hd (.dK (putK kvs (.inr "count") (.int (k + 1)))) ca = some (.lst (ns.map V.int)) := by rw [upd_ne cne]; exact hc
    generalize upd H hd (.dK (putK kvs (.inr "count") (.int (k + 1)))) = H1 at e1 b1 c1
    generalize putK kvs (.inr "count") (.int (k + 1)) = kvs1 at e1 v1
    -- found = rest % limit; hand['rest'] = rest // limit
    have tail : ∀ (H2 : Hp) (kvs2 : List (Key × V)) (n2 r2 k2 : Int) (σ : L2.St), H2 hd = some (.dK kvs2) → HandV kvs2 ca n2 r2 k2 → H2 ca = some (.lst (ns.map V.int)) → 0 ≤ n2 → 0 ≤ r2 → But hd H H2 → σ[0]? = some (some (.ref hd)) → σ[1]? = some (some (.int lim)) → (∀ v : V, (σ.set 5 (some v))[5]? = some (some v)) → (∀ v : V, (σ.set 5 (some v))[0]? = some (some (.ref hd))) → (∀ v : V, (σ.set 5 (some v))[1]? = some (some (.int lim))) →
        tSeq (tAsg (tOp (rI (fun _ j => 0 < j) fun i j => .int (i % j)) (tDGet (tVar 0) (tC (.str "rest"))) (tVar 1)) (gName 5)) (tSeq (sDPut (tVar 0) (tC (.str "rest")) (tOp (rI CDivW fun i j => .int (i / j)) (tDGet (tVar 0) (tC (.str "rest"))) (tVar 1))) (tRet (tVar 5))) { nx := fun _ H' => Q .non H', rt := Q } σ H2 := by
      intro H2 kvs2 n2 r2 k2 σ e2 v2 c2 hn2 hr2 b2 h0 h1 h5 h50 h51
      refine ⟨_, h0, _, _, rfl, dgetH e2 v2.rest, _, h1, _, _, rfl, rfl, hl0, ?_⟩
      refine ⟨_, h50 _, _, _, rfl, dgetH e2 v2.rest, _, h51 _, _, _, rfl, rfl, wide_div hl0 hl1 (by decide) (by decide), ?_⟩
      refine ⟨_, h50 _, hd, _, rfl, DPut.k (k := Sum.inr "rest") e2 (sl v2.len), ?_⟩
      refine ⟨_, h5 _, ?_⟩
      refine q _ _ (Int.emod_nonneg _ (by omega)) (Int.emod_lt_of_pos _ hl0) (b2.trans But.upd) ⟨_, ns, n2, r2 / lim, k2, upd_same, v2.putRest _, by rw [upd_ne cne]; exact c2, l1, l2, hn2, Int.ediv_nonneg hr2 (by omega)⟩
    -- if rest == 0
    refine ⟨_, rfl, _, _, rfl, dgetH e1 v1.rest, rfl, _, rfl, ?_⟩
    by_cases hz : r = 0
    · subst hz
      refine ifT rfl ?_
      have len0 : (0 : Int) < ((ns.map V.int).length : Int) := by rw [List.length_map]; omega
      have len1 : ((ns.map V.int).length : Int) < 1073741824 := by rw [List.length_map]; omega
      -- turn
      refine ⟨_, rfl, _, _, rfl, dgetH e1 v1.next, _, rfl, _, _, rfl, dgetH e1 v1.cells, ca, _, rfl, .inl (SqL.of c1), _, _, rfl, rfl, ⟨len0, len1⟩, ?_⟩
      -- cell
      obtain ⟨c, hcell⟩ : ∃ c, ns[(n % ((ns.map V.int).length : Int)).toNat]? = some c := by
        have h1 := Int.emod_nonneg n (b := ((ns.map V.int).length : Int)) (by omega)
        have h2 := Int.emod_lt_of_pos n len0
        rw [List.length_map] at h1 h2 ⊢
        exact ⟨_, List.getElem?_eq_getElem (by omega)⟩
      have hitem : atI (ns.map V.int) (n % ((ns.map V.int).length : Int)) = some (.int c) := at1 (j := (n % ((ns.map V.int).length : Int)).toNat) (by
        have h1 := Int.emod_nonneg n (b := ((ns.map V.int).length : Int)) (by omega)
        omega) (by rw [List.getElem?_map, hcell]; rfl)
      refine ⟨_, rfl, _, _, rfl, dgetH e1 v1.cells, _, rfl, _, _, rfl, dgetH e1 v1.next, _, rfl, _, _, rfl, dgetH e1 v1.cells, ca, _, rfl, .inl (SqL.of c1), _, _, rfl, rfl, len0, ca, _, _, _, rfl, rfl, SqL.of c1, hitem, ?_⟩
      -- hand['next'] += 1
      refine ⟨_, rfl, _, _, rfl, dgetH e1 v1.next, _, _, rfl, rfl, ?_⟩
      refine ⟨_, rfl, hd, _, rfl, DPut.k (k := Sum.inr "next") e1 (sl v1.len), ?_⟩
      have v2 := v1.putNext (n + 1)
      have e2 : upd H1 hd (.dK (putK kvs1 (.inr "next") (.int (n + 1)))) hd = some (.dK (putK kvs1 (.inr "next") (.int (n + 1)))) := upd_same
      have b2 : But hd H (upd H1 hd (.dK (putK kvs1 (.inr "next") (.int (n + 1))))) := b1.trans But.upd
      have c2 : upd H1 hd (.dK (putK kvs1 (.inr "next") (.int (n + 1)))) ca = some (.lst (ns.map V.int)) := by rw [upd_ne cne]; exact c1
      generalize upd H1 hd (.dK (putK kvs1 (.inr "next") (.int (n + 1)))) = H2 at e2 b2 c2
      generalize putK kvs1 (.inr "next") (.int (n + 1)) = kvs2 at e2 v2
      -- the mixed draw
      have mixed : tSeq (tAsg (tOp (rI (fun _ j => 0 < j) fun i j => .int (i % j)) (tOp (rI0 fun i j => .int (i + j)) (tOp (rI0 fun i j => .int (i + j)) (tOp (rI (fun _ j => 0 < j) fun i j => .int (i % j)) (tVar 3) (tC (.int 2147483647))) (tOp (rI CMul fun i j => .int (i * j)) (tC (.int 104729)) (tDGet (tVar 0) (tC (.str "count"))))) (tOp (rI CMul fun i j => .int (i * j)) (tC (.int 7919)) (tVar 2))) (tC (.int 2147483647))) (gName 4))
          (tSeq (tAsg (tOp (rI (fun _ j => 0 < j) fun i j => .int (i % j)) (tOp (rI CMul fun i j => .int (i * j)) (tVar 4) (tVar 4)) (tC (.int 2147483629))) (gName 4))
          (tRet (tOp (rI (fun _ j => 0 < j) fun i j => .int (i % j)) (tOp (rI CDiv fun i j => .int (i / j)) (tOp (rI (fun _ j => 0 < j) fun i j => .int (i % j)) (tOp (rI CMul fun i j => .int (i * j)) (tVar 4) (tOp (rI0 fun i j => .int (i + j)) (tVar 4) (tC (.int 7919)))) (tC (.int 2147483587))) (tC (.int 8))) (tVar 1))))
          { nx := fun σ' H' => tSeq (tAsg (tOp (rI (fun _ j => 0 < j) fun i j => .int (i % j)) (tDGet (tVar 0) (tC (.str "rest"))) (tVar 1)) (gName 5)) (tSeq (sDPut (tVar 0) (tC (.str "rest")) (tOp (rI CDivW fun i j => .int (i / j)) (tDGet (tVar 0) (tC (.str "rest"))) (tVar 1))) (tRet (tVar 5))) { nx := fun _ H' => Q .non H', rt := Q } σ' H', rt := Q }
          [some (.ref hd), some (.int lim), some (.int (n / ((ns.map V.int).length : Int))), some (.int c), none, none] H2 := by
        have p1 : ∀ x y : Int, (0 : Int) < y → 0 ≤ x % y ∧ x % y < y := fun x y hy => ⟨Int.emod_nonneg _ (by omega), Int.emod_lt_of_pos _ hy⟩
        refine ⟨_, rfl, _, _, rfl, rfl, (by decide : (0 : Int) < 2147483647), _, rfl, _, _, rfl, dgetH e2 v2.count, _, _, rfl, rfl, .inl ⟨by decide, by decide⟩, _, _, rfl, rfl, _, rfl, _, _, rfl, rfl, .inl ⟨by decide, by decide⟩, _, _, rfl, rfl, _, _, rfl, rfl, (by decide : (0 : Int) < 2147483647), ?_⟩
        generalize hm1 : (c % 2147483647 + 104729 * (k + 1) + 7919 * (n / ((ns.map V.int).length : Int))) % 2147483647 = m1
        have q1 := p1 (c % 2147483647 + 104729 * (k + 1) + 7919 * (n / ((ns.map V.int).length : Int))) 2147483647 (by decide)
        rw [hm1] at q1
        refine ⟨_, rfl, _, rfl, _, _, rfl, rfl, .inl ⟨by omega, by omega⟩, _, _, rfl, rfl, (by decide : (0 : Int) < 2147483629), ?_⟩
        generalize hm2 : m1 * m1 % 2147483629 = m2
        have q2 := p1 (m1 * m1) 2147483629 (by decide)
        rw [hm2] at q2
        refine ⟨_, rfl, _, rfl, _, _, rfl, rfl, _, _, rfl, rfl, .inl ⟨by omega, by omega⟩, _, _, rfl, rfl, (by decide : (0 : Int) < 2147483587), _, _, rfl, rfl, ⟨by decide, by decide⟩, _, rfl, _, _, rfl, rfl, hl0, ?_⟩
        exact q _ _ (p1 _ _ hl0).1 (p1 _ _ hl0).2 b2 ⟨_, ns, n + 1, 0, _, e2, v2, c2, l1, l2, by omega, Int.le_refl 0⟩
      -- if turn == 0 and cell >= 10 ** 18
      refine ⟨_, rfl, rfl, _, rfl, ?_⟩
      by_cases ht : V.int (n / ((ns.map V.int).length : Int)) = V.int 0
      · refine ifT ht ?_
        refine ⟨_, rfl, 10, 18, rfl, rfl, ⟨by decide, by decide, by decide⟩, _, _, rfl, rfl, _, rfl, ?_⟩
        by_cases hge : (10 : Int) ^ (18 : Int).toNat ≤ c
        · refine ifT hge ?_
          refine ⟨_, rfl, _, rfl, hd, _, rfl, DPut.k (k := Sum.inr "rest") e2 (sl v2.len), ?_⟩
          have cpos : 0 ≤ c := Int.le_trans (by decide) hge
          exact tail _ _ (n + 1) c _ _ upd_same (v2.putRest c) (by rw [upd_ne cne]; exact c2) (by omega) cpos (b2.trans But.upd) rfl rfl (fun _ => rfl) (fun _ => rfl) fun _ => rfl
        · refine ifF hge ?_
          exact mixed
      · refine ifF ht ?_
        exact mixed
    · refine ifF (fun z => hz (V.int.inj z)) ?_
      exact tail H1 kvs1 n r (k + 1) _ e1 v1 c1 n0 r0 b1 rfl rfl (fun _ => rfl) (fun _ => rfl) fun _ => rfl
end
end K67

set_option Elab.async false
set_option linter.all false
set_option maxRecDepth 100000
set_option maxHeartbeats 4000000
namespace K67
open PySem PySem.Spec PyProof.Rows L2
theorem dp_ints {K : PySem.W.Frag} {H : Hp} : ∀ ns : List Int, DpAll K H (ns.map V.int) (ns.map PyData.int)
  | [] => .nil
  | n :: ns => .cons (.int n) (dp_ints ns)
theorem eqv_ints : ∀ ns ms : List Int, PyData.eqvAll (ns.map PyData.int) (ms.map PyData.int) = decide (ns = ms)
  | [], [] => rfl
  | [], _ :: _ => rfl
  | _ :: _, [] => rfl
  | n :: ns, m :: ms => by
    show ((n == m) && PyData.eqvAll (ns.map PyData.int) (ms.map PyData.int)) = decide (n :: ns = m :: ms)
    rw [eqv_ints ns ms]
    by_cases h1 : n = m
    · subst h1
      by_cases h2 : ns = ms
      · subst h2
        simp
      · rw [decide_eq_false h2, decide_eq_false fun z => h2 (List.cons.inj z).2, Bool.and_false]
    · rw [decide_eq_false fun z => h1 (List.cons.inj z).1]
      simp [h1]
theorem cut_all {xs : List V} {k : Nat} (h : xs.length ≤ k) : cutV xs none (some (k : Int)) = xs := by
  unfold cutV
  rw [HT.sIx_none, HT.sIx_nat]
  rw [List.drop_zero, Nat.min_eq_right h, Nat.sub_zero, List.take_length]
def cellsOf (ns : List Int) : List Int := ns ++ if ns = [] then [5] else []
theorem cellsOf_len {ns : List Int} (h : ns.length ≤ 63) : 1 ≤ (cellsOf ns).length ∧ (cellsOf ns).length ≤ 64 := by
  unfold cellsOf
  rw [List.length_append]
  cases ns with
  | nil => exact ⟨by decide, by decide⟩
  | cons a r =>
    rw [if_neg (by simp)]
    rw [List.length_cons] at h ⊢
    exact ⟨by simp, by simp; omega⟩
theorem hand_new (c : Addr) : HandV (mergeK [] [((Sum.inr ("cells" : Str) : Key), V.ref c), (Sum.inr ("next" : Str), .int 0), (Sum.inr ("rest" : Str), .int 0), (Sum.inr ("count" : Str), .int 0)]) c 0 0 0 := by
  show HandV (putK (putK (putK (putK [] (Sum.inr ("cells" : Str)) (V.ref c)) (Sum.inr ("next" : Str)) (.int 0)) (Sum.inr ("rest" : Str)) (.int 0)) (Sum.inr ("count" : Str)) (.int 0)) c 0 0 0
  have n1 : ∀ j : Key, valV (putK [] (Sum.inr ("cells" : Str)) (V.ref c)) j = if j = Sum.inr ("cells" : Str) then some (V.ref c) else none := fun j => valV_put _ _ _ _
  have n2 : ∀ j : Key, valV (putK (putK [] (Sum.inr ("cells" : Str)) (V.ref c)) (Sum.inr ("next" : Str)) (.int 0)) j = if j = Sum.inr ("next" : Str) then some (.int 0) else if j = Sum.inr ("cells" : Str) then some (V.ref c) else none := fun j => by rw [valV_put, n1]
  have n3 : ∀ j : Key, valV (putK (putK (putK [] (Sum.inr ("cells" : Str)) (V.ref c)) (Sum.inr ("next" : Str)) (.int 0)) (Sum.inr ("rest" : Str)) (.int 0)) j = if j = Sum.inr ("rest" : Str) then some (.int 0) else if j = Sum.inr ("next" : Str) then some (.int 0) else if j = Sum.inr ("cells" : Str) then some (V.ref c) else none := fun j => by rw [valV_put, n2]
  refine ⟨?_, ?_, ?_, ?_, ?_⟩
  · rw [valV_put, if_neg k3, n3, if_neg k2, if_neg k1, if_pos rfl]
  · rw [valV_put, if_neg k5, n3, if_neg k4, if_pos rfl]
  · rw [valV_put, if_neg k6, n3, if_pos rfl]
  · rw [valV_put, if_pos rfl]
  · rw [putK_new _ (by rw [n3, if_neg (fun e => k6 e.symm), if_neg (fun e => k5 e.symm), if_neg (fun e => k3 e.symm)]), putK_new _ (by rw [n2, if_neg (fun e => k4 e.symm), if_neg (fun e => k2 e.symm)]), putK_new _ (by rw [n1, if_neg (fun e => k1 e.symm)]), putK_new _ valV_nil]
    rfl
section
variable {P : Program} {w : World} {K : PySem.W.Frag} {mg : Str → Option Value} {base : Heap}
def spHand (K : PySem.W.Frag) : Sp := fun vs H Q _ => ∃ (a : Addr) (ns : List Int), vs = [.ref a] ∧ SqL K H a (ns.map V.int) ∧ ns.length ≤ 63 ∧ ∀ (hd ca : Addr) (H' : Hp), Same H H' → H hd = none → H ca = none → HandAt H' hd ca → Q (.ref hd) H'
theorem sc_l_hand : FnScope ["script"] ["script"] (defScope s_l_hand) := ⟨rfl, rfl, rfl, by decide +kernel, rfl, by decide +kernel, by decide +kernel⟩
theorem ok_l_hand (T : Env K mg) : FnOk P w K mg base CX0 1 T.f_l_hand T.fd_l_hand ["script"] (spHand K) := by
  refine T.l_hand.fn.ok sc_l_hand (fun vs H Q E h => ?_) (fun cdv A outer s H vs Q E hr h => ?_)
  · obtain ⟨_, _, rfl, _⟩ := h
    rfl
  · obtain ⟨a, ns, rfl, hS, hl, q⟩ := h
    refine ⟨_, pss_one (ps_ret (pe_disp (pps_cons pe_str (pe_op op_cat (pe_callTy call_list_of (by rfl) T.b_list (by decide +kernel) (pa_cons (pe_slice sl_list (pv 0) po_none (po_some pe_int)) pa_nil)) (pe_op op_rep (pe_lst (pa_cons pe_int pa_nil)) (pe_callTy call_int1 (by rfl) T.b_int (by decide +kernel) (pa_cons (pe_cmpR (op_eqD hr.units) (pv 0) (pe_lst pa_nil) (nomark _)) pa_nil)))) (pps_cons pe_str pe_int (pps_cons pe_str pe_int (pps_cons pe_str pe_int pps_nil)))) (by rfl) (by rfl) (fun z => by cases z) (by decide))), ?_⟩
    intro p hp
    have g0 := same_new hp (.dK [])
    refine ⟨_, rfl, _, rfl, a, _, rfl, g0.seq hS, fun p1 np1 => ?_⟩
    have g1 := same_new np1 (.lst (cutV (ns.map V.int) none (some 63)))
    refine ⟨p1, _, rfl, .inl (SqL.of upd_same), fun p2 np2 => ?_⟩
    have g2 := same_new np2 (.lst (cutV (ns.map V.int) none (some 63)))
    refine ⟨sz (by decide : 1 ≤ 1000), fun p3 np3 => ?_⟩
    have g3 := same_new np3 (.lst [V.int 5])
    refine ⟨_, rfl, sz (by decide : 0 ≤ 1000), fun p4 np4 => ?_⟩
    have g4 := same_new np4 (.lst [])
    refine ⟨.list (ns.map PyData.int), .list ([].map PyData.int), .lst ((((g0.trans g1).trans g2).trans g3).trans g4 |>.seq hS) (dp_ints ns), .lst (SqL.of upd_same) (dp_ints []), PySem.W.ke_shaped_ints ns, PySem.W.ke_shaped_ints [], ?_⟩
    refine .inr ⟨_, rfl, ?_⟩
    have ev : PyData.eqv (.list (ns.map PyData.int)) (.list (([] : List Int).map PyData.int)) = decide (ns = []) := eqv_ints ns []
    rw [ev]
    have hk : (0 : Int) ≤ (if decide (ns = []) = true then 1 else 0) ∧ (if decide (ns = []) = true then (1 : Int) else 0) ≤ 1 := by split <;> exact ⟨by decide, by decide⟩
    refine ⟨p3, _, _, rfl, rfl, g4 _ _ upd_same, by omega, by omega, sz ?_, fun p5 np5 => ?_⟩
    · show 1 * (if decide (ns = []) = true then (1 : Int) else 0).toNat ≤ 1000
      omega
    have g5 := same_new np5 (.lst (List.replicate (if decide (ns = []) = true then (1 : Int) else 0).toNat [V.int 5]).flatten)
    have ec : cutV (ns.map V.int) none (some 63) = ns.map V.int := cut_all (k := 63) (by rw [List.length_map]; exact hl)
    have er : (List.replicate (if decide (ns = []) = true then (1 : Int) else 0).toNat [V.int 5]).flatten = (if ns = [] then [5] else ([] : List Int)).map V.int := by
      by_cases hn : ns = []
      · rw [decide_eq_true hn, if_pos hn]
        rfl
      · rw [decide_eq_false hn, if_neg hn]
        rfl
    have eall : cutV (ns.map V.int) none (some 63) ++ (List.replicate (if decide (ns = []) = true then (1 : Int) else 0).toNat [V.int 5]).flatten = (cellsOf ns).map V.int := by
      rw [ec, er]
      unfold cellsOf
      rw [List.map_append]
    have clen := cellsOf_len hl
    refine ⟨p2, p5, _, _, rfl, rfl, g5 _ _ (g4 _ _ (g3 _ _ upd_same)), upd_same, ?_, fun p6 np6 => ?_⟩
    · rw [← List.length_append, eall, List.length_map]
      exact sz (by omega)
    have g6 := same_new np6 (.lst (cutV (ns.map V.int) none (some 63) ++ (List.replicate (if decide (ns = []) = true then (1 : Int) else 0).toNat [V.int 5]).flatten))
    have gg := ((((g1.trans g2).trans g3).trans g4).trans g5).trans g6
    refine ⟨gg _ _ upd_same, [(Sum.inr "cells", .ref p6), (Sum.inr "next", .int 0), (Sum.inr "rest", .int 0), (Sum.inr "count", .int 0)], rfl, by show 4 ≤ 15; decide, ?_⟩
    refine q p p6 _ (fun b o hb => ?_) hp (((((((g0.trans g1).trans g2).trans g3).trans g4).trans g5)).free np6) ⟨_, cellsOf ns, 0, 0, 0, upd_same, ?_, ?_, clen.1, clen.2, Int.le_refl 0, Int.le_refl 0⟩
    · rw [upd_ne (ne_of_none hb hp)]
      exact gg _ _ (g0 _ _ hb)
    · exact hand_new p6
    · have np6p : p6 ≠ p := fun z => by
        rw [z] at np6
        have := (((((g1.trans g2).trans g3).trans g4).trans g5)) p _ upd_same
        rw [np6] at this
        cases this
      rw [upd_ne np6p, upd_same, eall]
end
end K67

set_option Elab.async false
set_option linter.all false
set_option maxRecDepth 100000
set_option maxHeartbeats 4000000
/-! _law_fraction, _law_number. -/
namespace K67
open PySem PySem.Spec PyProof.Rows L2
theorem frac_ok {a b : Int} {g : Nat} (hb : 1 ≤ b) (ha : a.natAbs < 2 ^ 67) (hb2 : b.natAbs < 2 ^ 67) (e : g = Nat.gcd a.natAbs b.natAbs) : 1 ≤ g ∧ g < 2 ^ 67 ∧ QOk (a / (g : Int), b / (g : Int)) := by
  have bp : 0 < b.natAbs := by omega
  have gp : 1 ≤ g := by rw [e]; exact Nat.gcd_pos_of_pos_right _ bp
  have da : (g : Int) ∣ a := Int.ofNat_dvd_left.mpr (by rw [e]; exact Nat.gcd_dvd_left _ _)
  have db : (g : Int) ∣ b := Int.ofNat_dvd_left.mpr (by rw [e]; exact Nat.gcd_dvd_right _ _)
  have ma := Int.ediv_mul_cancel da
  have mb := Int.ediv_mul_cancel db
  have gle : g ≤ b.natAbs := Nat.le_of_dvd bp (by rw [e]; exact Nat.gcd_dvd_right _ _)
  have small : ∀ x y : Int, x * (g : Int) = y → x.natAbs ≤ y.natAbs := fun x y h => by
    have h2 : x.natAbs * g = y.natAbs := by rw [← h, Int.natAbs_mul]; rfl
    rw [← h2]
    exact Nat.le_mul_of_pos_right _ gp
  refine ⟨gp, by omega, ?_, Nat.lt_of_le_of_lt (small _ _ ma) ha, Nat.lt_of_le_of_lt (small _ _ mb) hb2⟩
  show 1 ≤ b / (g : Int)
  by_cases h : b / (g : Int) ≤ 0
  · have := Int.mul_nonpos_of_nonpos_of_nonneg h (show (0 : Int) ≤ (g : Int) by omega)
    omega
  · omega
section
variable {P : Program} {w : World} {K : PySem.W.Frag} {mg : Str → Option Value} {base : Heap}
def spFraction : Sp := fun vs H Q _ => ∃ (a b : Int), vs = [.int a, .int b] ∧ 1 ≤ b ∧ a.natAbs < 2 ^ 67 ∧ b.natAbs < 2 ^ 67 ∧ ∀ (v : V) (q : Fq) (H' : Hp), Same H H' → FracAt H' v q → QOk q → Q v H'
theorem sc_l_fraction : FnScope ["above", "below", "one", "other"] ["above", "below"] (defScope s_l_fraction) := ⟨rfl, rfl, rfl, by decide +kernel, rfl, by decide +kernel, by decide +kernel⟩
theorem ok_l_fraction (T : Env K mg) : FnOk P w K mg base CX0 1 T.f_l_fraction T.fd_l_fraction ["above", "below"] spFraction := by
  refine T.l_fraction.fn.ok sc_l_fraction (fun vs H Q E h => ?_) (fun cdv A outer s H vs Q E hr h => ?_)
  · obtain ⟨_, _, rfl, _⟩ := h
    rfl
  · obtain ⟨a, b, rfl, hb, ha, hb2, k⟩ := h
    refine ⟨_, (pss_cons (ps_par (i := 2) (j := 3) (by rfl) sc_l_fraction.nd rfl rfl (by decide) rfl rfl (pa_cons (pe_callB (call_max2 rfl) (by rfl) T.b_max (by decide +kernel) (pa_cons (pv 0) (pa_cons (pe_op op_sub pe_int (pv 0)) pa_nil))) (pa_cons (pv 1) pa_nil)) (by rfl))
      (pss_cons (ps_while PassesOwn.never (pt_cmpR op_gt (pv 3) pe_int (nomark _))
        (pss_one (ps_par (i := 2) (j := 3) (by rfl) sc_l_fraction.nd rfl rfl (by decide) rfl rfl (pa_cons (pv 3) (pa_cons (pe_op op_mod (pv 2) (pv 3)) pa_nil)) (by rfl))))
      (pss_one (ps_ret (pe_tup (pa_cons (pe_op op_fdivW (pv 0) (pv 2)) (pa_cons (pe_op op_fdivW (pv 1) (pv 2)) pa_nil))))))), ?_⟩
    refine ⟨_, rfl, _, rfl, _, _, rfl, rfl, a, 0 - a, rfl, _, rfl, _, _, rfl, ?_⟩
    refine while_by (fun σ G => G = H ∧ ∃ m n : Nat, σ = [some (.int a), some (.int b), some (.int (m : Int)), some (.int (n : Int))] ∧ Nat.gcd m n = Nat.gcd a.natAbs b.natAbs)
      (fun σ _ => match σ with | [_, _, _, some (.int n)] => n.toNat | _ => 0) ⟨rfl, a.natAbs, b.natAbs, ?_, rfl⟩ ?_ (fun σ G Q1 Q2 hQ ⟨v, e1, i, j, e2, e3, c, e4, z⟩ => ⟨v, e1, i, j, e2, e3, c, e4, hQ _ _ z⟩)
    · have e1 : (if 0 - a > a then 0 - a else a) = ((a.natAbs : Nat) : Int) := by
        split <;> omega
      have e2 : b = ((b.natAbs : Nat) : Int) := by omega
      show [some (V.int a), some (.int b), some (.int (if 0 - a > a then 0 - a else a)), some (.int b)] = _
      rw [e1, ← e2]
    · rintro σ G ⟨rfl, m, n, rfl, hg⟩
      refine ⟨_, rfl, _, _, rfl, rfl, _, rfl, ?_⟩
      by_cases hn : (0 : Int) < (n : Int)
      · refine ifT hn ?_
        refine ⟨_, rfl, _, rfl, _, rfl, _, _, rfl, rfl, hn, _, _, rfl, ?_⟩
        refine ⟨⟨rfl, n, m % n, ?_, ?_⟩, ?_⟩
        · show [some (V.int a), some (.int b), some (.int (n : Int)), some (.int ((m : Int) % (n : Int)))] = _
          rw [Int.natCast_emod]
        · rw [Nat.gcd_comm n, ← Nat.gcd_rec, Nat.gcd_comm]
          exact hg
        · show ((m : Int) % (n : Int)).toNat < ((n : Int)).toNat
          have := Int.emod_lt_of_pos (m : Int) hn
          have := Int.emod_nonneg (m : Int) (b := (n : Int)) (by omega)
          omega
      · refine ifF hn ?_
        have n0 : n = 0 := by omega
        subst n0
        rw [Nat.gcd_zero_right] at hg
        obtain ⟨g1, g2, g3⟩ := frac_ok hb ha hb2 hg
        have gp : (0 : Int) < (m : Int) := by omega
        refine ⟨_, rfl, _, rfl, _, _, rfl, rfl, wide_div gp (b := 67) (by omega) (by decide) (by decide), _, rfl, _, rfl, _, _, rfl, rfl, wide_div gp (b := 67) (by omega) (by decide) (by decide), sz (by decide : 2 ≤ 1000), fun p hp => ?_⟩
        exact k (.ref p) (a / (m : Int), b / (m : Int)) _ (same_new hp _) ⟨p, rfl, upd_same⟩ g3
/-- a drawn fraction -/
def spNumber : Sp := fun vs H Q _ => ∃ (hd ca : Addr), vs = [.ref hd] ∧ HandAt H hd ca ∧ ∀ (v : V) (q : Fq) (H' : Hp), But hd H H' → HandAt H' hd ca → FracAt H' v q → QOk q → Q v H'
theorem sc_l_number : FnScope ["hand", "kind"] ["hand"] (defScope s_l_number) := ⟨rfl, rfl, rfl, by decide +kernel, rfl, by decide +kernel, by decide +kernel⟩
theorem ok_l_number (T : Env K mg) : FnOk P w K mg base CX0 2 T.f_l_number T.fd_l_number ["hand"] spNumber := by
  refine T.l_number.fn.ok sc_l_number (fun vs H Q E h => ?_) (fun cdv A outer s H vs Q E hr h => ?_)
  · obtain ⟨_, _, rfl, _⟩ := h
    rfl
  · obtain ⟨hd, ca, rfl, hh, k⟩ := h
    refine ⟨_, (pss_cons (ps_set (i := 1) sc_l_number.nd rfl (Or.inl rfl) (pe_call (ok_l_draw T) (hr.mono (by decide)) (by rfl) T.l_draw.mg T.l_draw.fn.kp T.l_draw.bd .nil pass0 (pa_cons (pv 0) (pa_cons pe_int pa_nil))))
      (pss_cons (ps_if (pt_cmpR op_lt (pv 1) pe_int (nomark _))
      (pss_one (ps_ret (pe_call (ok_l_fraction T) (hr.mono (by decide)) (by rfl) T.l_fraction.mg T.l_fraction.fn.kp T.l_fraction.bd .nil pass0 (pa_cons (pe_op op_sub (pe_call (ok_l_draw T) (hr.mono (by decide)) (by rfl) T.l_draw.mg T.l_draw.fn.kp T.l_draw.bd .nil pass0 (pa_cons (pv 0) (pa_cons pe_int pa_nil))) pe_int) (pa_cons (pe_op op_add pe_int (pe_call (ok_l_draw T) (hr.mono (by decide)) (by rfl) T.l_draw.mg T.l_draw.fn.kp T.l_draw.bd .nil pass0 (pa_cons (pv 0) (pa_cons (pe_ix ix_list (pe_lst (pa_cons pe_int (pa_cons pe_int (pa_cons pe_int pa_nil)))) (pv 1) (fun _ _ => rfl)) pa_nil)))) pa_nil)))))
      pss_nil)
      (pss_cons (ps_if (pt_cmpR op_eq (pv 1) pe_int (nomark _))
      (pss_one (ps_ret (pe_call (ok_l_fraction T) (hr.mono (by decide)) (by rfl) T.l_fraction.mg T.l_fraction.fn.kp T.l_fraction.bd .nil pass0 (pa_cons (pe_op op_sub (pe_call (ok_l_draw T) (hr.mono (by decide)) (by rfl) T.l_draw.mg T.l_draw.fn.kp T.l_draw.bd .nil pass0 (pa_cons (pv 0) (pa_cons pe_int pa_nil))) pe_int) (pa_cons (pe_op op_add pe_int (pe_call (ok_l_draw T) (hr.mono (by decide)) (by rfl) T.l_draw.mg T.l_draw.fn.kp T.l_draw.bd .nil pass0 (pa_cons (pv 0) (pa_cons pe_int pa_nil)))) pa_nil)))))
      pss_nil)
      (pss_one (ps_ret (pe_call (ok_l_fraction T) (hr.mono (by decide)) (by rfl) T.l_fraction.mg T.l_fraction.fn.kp T.l_fraction.bd .nil pass0 (pa_cons (pe_op op_add (pe_op op_sub (pe_call (ok_l_draw T) (hr.mono (by decide)) (by rfl) T.l_draw.mg T.l_draw.fn.kp T.l_draw.bd .nil pass0 (pa_cons (pv 0) (pa_cons (pe_op op_sub (pe_op op_mul pe_int (pe_op op_pow pe_int pe_int)) pe_int) pa_nil))) (pe_op op_pow pe_int pe_int)) pe_int) (pa_cons (pe_op op_add pe_int (pe_call (ok_l_draw T) (hr.mono (by decide)) (by rfl) T.l_draw.mg T.l_draw.fn.kp T.l_draw.bd .nil pass0 (pa_cons (pv 0) (pa_cons (pe_op op_sub (pe_op op_pow pe_int pe_int) pe_int) pa_nil)))) pa_nil)))))))), ?_⟩
    have big : (10 : Int) ^ (20 : Int).toNat = 100000000000000000000 := by decide
    have end_ : ∀ (H1 : Hp) (a b : Int), But hd H H1 → HandAt H1 hd ca → 1 ≤ b → a.natAbs ≤ 100000000000000000000 → b.natAbs ≤ 100000000000000000000 → ∃ (a' b' : Int), ([.int a, .int b] : List V) = [.int a', .int b'] ∧ 1 ≤ b' ∧ a'.natAbs < 2 ^ 67 ∧ b'.natAbs < 2 ^ 67 ∧ ∀ (v : V) (q : Fq) (H' : Hp), Same H1 H' → FracAt H' v q → QOk q → Q v H' :=
      fun H1 a b b1 h1 hb ha hb2 => ⟨a, b, rfl, hb, Nat.lt_of_le_of_lt ha (by decide), Nat.lt_of_le_of_lt hb2 (by decide), fun v q H' s f o => k v q H' (b1.trans (But.of s)) (h1.same s) f o⟩
    refine ⟨_, rfl, hd, ca, _, rfl, hh, by decide, by decide, fun kind H1 k0 k1 b1 h1 => ?_⟩
    refine ⟨_, rfl, _, _, rfl, rfl, _, rfl, ?_⟩
    by_cases c : kind < 3
    · refine ifT c ?_
      refine ⟨_, rfl, hd, ca, _, rfl, h1, by decide, by decide, fun x H2 x0 x1 b2 h2 => ?_⟩
      refine ⟨_, _, rfl, rfl, _, rfl, sz (by decide : 3 ≤ 1000), fun p np => ?_⟩
      have s3 := same_new np (.lst [V.int 1, .int 2, .int 3])
      obtain ⟨lim, hlim, l1, l2⟩ : ∃ lim : Int, atI ([.int 1, .int 2, .int 3] : List V) kind = some (.int lim) ∧ 1 ≤ lim ∧ lim ≤ 3 := by
        rcases (show kind = 0 ∨ kind = 1 ∨ kind = 2 by omega) with rfl | rfl | rfl
        · exact ⟨1, rfl, by decide, by decide⟩
        · exact ⟨2, rfl, by decide, by decide⟩
        · exact ⟨3, rfl, by decide, by decide⟩
      refine ⟨_, rfl, p, _, _, _, rfl, rfl, SqL.of upd_same, hlim, ?_⟩
      refine ⟨hd, ca, lim, rfl, h2.same s3, by omega, Nat.lt_of_le_of_lt (show lim.natAbs ≤ 3 by omega) (by decide), fun y H4 y0 y1 b4 h4 => ?_⟩
      refine ⟨_, _, rfl, rfl, ?_⟩
      exact end_ H4 _ _ (((b1.trans b2).trans (But.of s3)).trans b4) h4 (by omega) (by omega) (by omega)
    · refine ifF c ?_
      refine ⟨_, rfl, rfl, _, rfl, ?_⟩
      by_cases c3 : V.int kind = V.int 3
      · refine ifT c3 ?_
        refine ⟨_, rfl, hd, ca, _, rfl, h1, by decide, by decide, fun x H2 x0 x1 b2 h2 => ?_⟩
        refine ⟨_, _, rfl, rfl, _, rfl, hd, ca, _, rfl, h2, by decide, by decide, fun y H4 y0 y1 b4 h4 => ?_⟩
        refine ⟨_, _, rfl, rfl, ?_⟩
        exact end_ H4 _ _ ((b1.trans b2).trans b4) h4 (by omega) (by omega) (by omega)
      · refine ifF c3 ?_
        refine ⟨_, rfl, 10, 20, rfl, rfl, ⟨by decide, by decide, by decide⟩, _, _, rfl, rfl, .inl ⟨by decide, by decide⟩, _, _, rfl, rfl, hd, ca, _, rfl, h1, by decide, by decide, fun x H2 x0 x1 b2 h2 => ?_⟩
        rw [big] at x1
        refine ⟨10, 20, rfl, rfl, ⟨by decide, by decide, by decide⟩, _, _, rfl, rfl, _, _, rfl, rfl, ?_⟩
        refine ⟨_, rfl, 10, 20, rfl, rfl, ⟨by decide, by decide, by decide⟩, _, _, rfl, rfl, hd, ca, _, rfl, h2, by decide, by decide, fun y H4 y0 y1 b4 h4 => ?_⟩
        rw [big] at y1
        refine ⟨_, _, rfl, rfl, ?_⟩
        rw [big]
        exact end_ H4 _ _ ((b1.trans b2).trans b4) h4 (by omega) (by omega) (by omega)
end
end K67

set_option Elab.async false
set_option linter.all false
set_option maxRecDepth 100000
set_option maxHeartbeats 4000000
/-! _law_name, _law_book. -/
namespace K67
open PySem PySem.Spec PyProof.Rows L2
theorem inV_strs (x : Str) : ∀ ns : List Str, inV (.str x) (ns.map V.str) = decide (x ∈ ns)
  | [] => rfl
  | n :: ns => by
    have ih := inV_strs x ns
    show (eqV (.str n) (.str x) || inV (.str x) (ns.map V.str)) = decide (x ∈ n :: ns)
    rw [ih]
    show ((n == x) || decide (x ∈ ns)) = _
    by_cases e : n = x
    · subst e
      simp
    · have e2 : ¬ x = n := fun z => e z.symm
      by_cases m : x ∈ ns
      · simp [m]
      · simp [m, e, e2]
section
variable {K : PySem.W.Frag}
/-- [c for c in (written texts) if c not in names][0], more written texts than names -/
theorem first_out {i j : Nat} {σ : L2.St} {H : Hp} {Q : VK} {ta : TA} {cs nm : List Str} {b : Addr} (hargs : ∀ Q' : List V → Hp → Prop, Q' (cs.map V.str) H → ta σ H Q') (hi : i < σ.length) (hij : i ≠ j) (hσ : σ[j]? = some (some (.ref b)))
    (hb : SqL K H b (nm.map V.str) ∨ SqT K H b (nm.map V.str)) (hlen : nm.length < cs.length) (hn : cs.Nodup) (hc : cs.length ≤ 100)
    (k : ∀ x H', x ∈ cs → x ∉ nm → Same H H' → Q (.str x) H') :
    tOp (rIxL K) (tLc (iList K (tLst ta)) (gName i) (tTest (tOp (rIn K true) (tVar i) (tVar j))) (tVar i) [i]) (tC (.int 0)) σ H Q := by
  refine hargs _ ⟨sz (by rw [List.length_map]; omega), fun p hp => ?_⟩
  have s1 := same_new hp (.lst (cs.map V.str))
  refine ⟨p, rfl, ⟨_, SqL.of upd_same⟩, fun D hD => ?_⟩
  have pD : p ≠ D := fun z => by
    rw [← z, upd_same] at hD
    cases hD
  have HD : H D = none := by
    rw [upd_ne (Ne.symm pD)] at hD
    exact hD
  refine lc_list (K := K) (a := p) (xs := cs.map V.str) (fun n G => ∃ acc, G D = some (.lst acc) ∧ acc = ((cs.take n).filter fun c => !decide (c ∈ nm)).map V.str ∧ ∀ b o, b ≠ D → upd H p (.lst (cs.map V.str)) b = some o → G b = some o)
    ⟨[], upd_same, rfl, fun b o hb hh => by rw [upd_ne hb]; exact hh⟩ (fun n G _ ⟨_, _, _, kk⟩ => SqL.of (kk _ _ pD upd_same)) ?_ ?_
  · rintro n y G hy ⟨acc, ha, rfl, kk⟩
    rw [List.getElem?_map] at hy
    cases hcn : cs[n]? with
    | none =>
      rw [hcn] at hy
      cases hy
    | some c =>
      rw [hcn] at hy
      cases (Option.some.inj hy : V.str c = y)
      have kG : Same H G := fun b o hh => kk b o (ne_of_none hh HD) (s1 b o hh)
      have e1 : ((σ.set i none).set i (some (V.str c)))[i]? = some (some (V.str c)) := List.getElem?_set_self (by rw [List.length_set]; exact hi)
      have e2 : ((σ.set i none).set i (some (V.str c)))[j]? = some (some (.ref b)) := by
        rw [List.getElem?_set_ne hij, List.getElem?_set_ne hij]
        exact hσ
      refine ⟨?_, _, e1, _, e2, b, nm.map V.str, rfl, ?_, rfl, flat_strs nm, !decide (c ∈ nm), ?_, ?_⟩
      · show ((σ.set i none).set i (some (V.str c))).set i none = σ.set i none
        rw [List.set_set, List.set_set]
      · rcases hb with h | h
        · exact .inl (kG.seq h)
        · exact .inr (Same.seqT kG h)
      · rw [inV_strs]
        rfl
      · by_cases m : c ∈ nm
        · rw [decide_eq_true m]
          refine iteF ?_
          refine ⟨_, ha, ?_, kk⟩
          rw [take_snoc hcn, List.filter_append, List.filter_cons, if_neg (by rw [decide_eq_true m]; exact Bool.false_ne_true), List.filter_nil, List.append_nil]
        · rw [decide_eq_false m]
          refine iteT ?_
          refine ⟨_, e1, _, ha, sz' ?_, _, upd_same, ?_, fun b o hb hh => by rw [upd_ne hb]; exact kk b o hb hh⟩
          · rw [List.length_map]
            have := List.length_filter_le (fun c => !decide (c ∈ nm)) (cs.take n)
            rw [List.length_take] at this
            omega
          · rw [take_snoc hcn, List.filter_append, List.filter_cons, if_pos (by rw [decide_eq_false m]; rfl), List.filter_nil, List.map_append]
            rfl
  · rintro G ⟨acc, ha, rfl, kk⟩
    rw [List.length_map, List.take_length] at ha
    obtain ⟨x, hx, hxn⟩ := out_of nm cs hn hlen
    have hxf : x ∈ cs.filter fun c => !decide (c ∈ nm) := List.mem_filter.mpr ⟨hx, by rw [decide_eq_false hxn]; rfl⟩
    cases hfl : cs.filter fun c => !decide (c ∈ nm) with
    | nil =>
      rw [hfl] at hxf
      cases hxf
    | cons y r =>
      rw [hfl] at ha
      have hy : y ∈ cs.filter fun c => !decide (c ∈ nm) := by rw [hfl]; exact List.mem_cons_self
      obtain ⟨y1, y2⟩ := List.mem_filter.mp hy
      refine ⟨D, _, 0, .str y, rfl, rfl, SqL.of ha, at1 (j := 0) rfl rfl, ?_⟩
      refine k y G y1 (fun m => ?_) fun b o hh => kk b o (ne_of_none hh HD) (s1 b o hh)
      rw [decide_eq_true m] at y2
      cases y2
end
section
variable {P : Program} {w : World} {K : PySem.W.Frag} {mg : Str → Option Value} {base : Heap}
def spName : Sp := fun vs H Q _ => ∃ (hd ca : Addr), vs = [.ref hd] ∧ HandAt H hd ca ∧ ∀ (x : Str) (H' : Hp), But hd H H' → HandAt H' hd ca → x.length ≤ 9 → Q (.str x) H'
theorem sc_l_name : FnScope ["hand", "letters", "name", "k", "words"] ["hand"] (defScope s_l_name) := ⟨rfl, rfl, rfl, by decide +kernel, rfl, by decide +kernel, by decide +kernel⟩
theorem ok_l_name (T : Env K mg) : FnOk P w K mg base CX0 2 T.f_l_name T.fd_l_name ["hand"] spName := by
  refine T.l_name.fn.ok sc_l_name (fun vs H Q E h => ?_) (fun cdv A outer s H vs Q E hr h => ?_)
  · obtain ⟨_, _, rfl, _⟩ := h
    rfl
  · obtain ⟨hd, ca, rfl, hh, k⟩ := h
    refine ⟨_, (pss_cons (ps_set (i := 1) sc_l_name.nd rfl (Or.inl rfl) (pe_ix ix_list (pe_lst (pa_cons pe_str (pa_cons pe_str pa_nil))) (pe_call (ok_l_draw T) (hr.mono (by decide)) (by rfl) T.l_draw.mg T.l_draw.fn.kp T.l_draw.bd .nil pass0 (pa_cons (pv 0) (pa_cons pe_int pa_nil))) (fun _ _ => rfl)))
      (pss_cons (ps_set (i := 2) sc_l_name.nd rfl (Or.inl rfl) pe_str)
      (pss_cons (ps_for PassesOwn.never rfl (pi_range1 (by rfl) T.b_range (pa_cons (pe_ix ix_list (pe_lst (pa_cons pe_int (pa_cons pe_int (pa_cons pe_int (pa_cons pe_int pa_nil))))) (pe_call (ok_l_draw T) (hr.mono (by decide)) (by rfl) T.l_draw.mg T.l_draw.fn.kp T.l_draw.bd .nil pass0 (pa_cons (pv 0) (pa_cons pe_int pa_nil))) (fun _ _ => rfl)) pa_nil)) (pg_name (i := 3) sc_l_name.nd rfl (Or.inl rfl))
      (pss_one (ps_set (i := 2) sc_l_name.nd rfl (Or.inl rfl) (pe_op op_add_str (pv 2) (pe_ix ix_str (pv 1) (pe_call (ok_l_draw T) (hr.mono (by decide)) (by rfl) T.l_draw.mg T.l_draw.fn.kp T.l_draw.bd .nil pass0 (pa_cons (pv 0) (pa_cons (pe_callB call_len_str (by rfl) T.b_len (by decide +kernel) (pa_cons (pv 1) pa_nil)) pa_nil))) (fun _ _ => rfl))))))
      (pss_cons (ps_set (i := 4) sc_l_name.nd rfl (Or.inl rfl) pe_str)
      (pss_cons (ps_if (pt_cmpR op_in_seq (pv 2) (pe_split (pv 4) pe_str) (by rfl))
      (pss_one (ps_set (i := 2) sc_l_name.nd rfl (Or.inl rfl) (pe_op op_add_str pe_str (pv 2))))
      pss_nil)
      (pss_one (ps_ret (pv 2)))))))), ?_⟩
    -- letters
    refine ⟨sz (by decide : 2 ≤ 1000), fun p np => ?_⟩
    have s1 := same_new np (.lst [V.str "ab", .str "abcdefghijklmnopqrstuvwxyz"])
    refine ⟨_, rfl, hd, ca, _, rfl, hh.same s1, by decide, by decide, fun i H2 i0 i1 b2 h2 => ?_⟩
    have hp2 := (b2.seqH (hh.same s1)).lst _ _ (upd_same (H := H) (a := p))
    obtain ⟨ls, hls, l1, l2⟩ : ∃ ls : Str, atI ([.str "ab", .str "abcdefghijklmnopqrstuvwxyz"] : List V) i = some (.str ls) ∧ 1 ≤ ls.cps.toList.length ∧ ls.cps.toList.length ≤ 26 := by
      rcases (show i = 0 ∨ i = 1 by omega) with rfl | rfl
      · exact ⟨_, rfl, by decide +kernel, by decide +kernel⟩
      · exact ⟨_, rfl, by decide +kernel, by decide +kernel⟩
    have lsl : ls.length = ls.cps.toList.length := (Array.length_toList (xs := ls.cps)).symm
    refine ⟨p, _, _, _, rfl, rfl, SqL.of hp2, hls, ?_⟩
    -- the loop
    refine ⟨sz (by decide : 4 ≤ 1000), fun p2 np2 => ?_⟩
    have s3 := same_new np2 (.lst [V.int 1, .int 2, .int 3, .int 8])
    refine ⟨_, rfl, hd, ca, _, rfl, h2.same s3, by decide, by decide, fun i H4 i0 i1 b4 h4 => ?_⟩
    have hp4 := (b4.seqH (h2.same s3)).lst _ _ (upd_same (H := H2) (a := p2))
    obtain ⟨m, hm, m0, m1⟩ : ∃ m : Int, atI ([.int 1, .int 2, .int 3, .int 8] : List V) i = some (.int m) ∧ 0 ≤ m ∧ m ≤ 8 := by
      rcases (show i = 0 ∨ i = 1 ∨ i = 2 ∨ i = 3 by omega) with rfl | rfl | rfl | rfl
      · exact ⟨1, rfl, by decide, by decide⟩
      · exact ⟨2, rfl, by decide, by decide⟩
      · exact ⟨3, rfl, by decide, by decide⟩
      · exact ⟨8, rfl, by decide, by decide⟩
    refine ⟨p2, _, _, _, rfl, rfl, SqL.of hp4, hm, m, rfl, by omega, by omega, ?_⟩
    have b04 : But hd H H4 := (((But.of s1).trans b2).trans (But.of s3)).trans b4
    refine for_range (lo := 0) (n := m.toNat) (fun n σ G => ∃ (x : Str) (kv : Option V), σ = [some (.ref hd), some (.str ls), some (.str x), kv, none] ∧ But hd H G ∧ HandAt G hd ca ∧ x.length = n)
      ⟨"", none, rfl, b04, h4, rfl⟩ ?_ ?_
    · rintro n σ G hn ⟨x, kv, rfl, bG, hG, hx⟩
      refine ⟨_, rfl, _, rfl, _, rfl, _, rfl, _, rfl, sz (by omega), hd, ca, _, rfl, hG, by omega, Nat.lt_of_le_of_lt (show ((ls.length : Nat) : Int).natAbs ≤ 26 by omega) (by decide), fun j H5 j0 j1 b5 h5 => ?_⟩
      obtain ⟨c, hcc⟩ : ∃ c, ls.cps.toList[j.toNat]? = some c := ⟨_, List.getElem?_eq_getElem (by omega)⟩
      have hat : atI ls.cps.toList j = some c := by
        have e : j = ((j.toNat : Nat) : Int) := by omega
        rw [e]
        exact atI_nat hcc
      refine ⟨ls, _, c, rfl, rfl, sz (by omega), hat, x, _, rfl, rfl, sz (by rw [hx]; show n + 1 ≤ 1000; omega), ?_⟩
      refine ⟨_, _, rfl, bG.trans b5, h5, ?_⟩
      rw [PySem.Str.length_append, hx]
      rfl
    · rintro σ G ⟨x, kv, rfl, bG, hG, hx⟩
      -- the words
      refine ⟨_, rfl, _, rfl, ⟨_, rfl⟩, _, _, rfl, rfl, by rfl, sz (by decide +kernel), fun p5 np5 => ?_⟩
      have s5 := same_new np5 (.lst ((Txt.split "like up down then turn pick same both either not and or under is" " ").map V.str))
      refine ⟨p5, _, rfl, .inl (SqL.of upd_same), rfl, flat_strs _, _, rfl, ?_⟩
      have fin := bG.trans (But.of s5)
      have hfin := hG.same s5
      by_cases c : inV (V.str x) (List.map V.str (Txt.split "like up down then turn pick same both either not and or under is" " ")) = true
      · rw [c]
        refine iteT ?_
        refine ⟨_, rfl, _, _, rfl, rfl, sz (by show 1 + x.length ≤ 1000; omega), _, rfl, ?_⟩
        exact k _ _ fin hfin (by rw [PySem.Str.length_append]; show 1 + x.length ≤ 9; omega)
      · rw [Bool.eq_false_iff.mpr c]
        refine iteF ?_
        exact ⟨_, rfl, k _ _ fin hfin (by omega)⟩
/-- a drawn book -/
structure BookOk (ns : List Str) : Prop where
  lo : 1 ≤ ns.length
  hi : ns.length ≤ 4
  sz : ∀ x ∈ ns, x.length ≤ 9
def spBook : Sp := fun vs H Q _ => ∃ (hd ca : Addr), vs = [.ref hd] ∧ HandAt H hd ca ∧ ∀ (v : V) (ns : List Str) (H' : Hp), But hd H H' → HandAt H' hd ca → NamesAt H' v ns → BookOk ns → Q v H'
theorem sc_l_book : FnScope ["hand", "book", "k", "name", "one"] ["hand"] (defScope s_l_book) := ⟨rfl, rfl, rfl, by decide +kernel, rfl, by decide +kernel, by decide +kernel⟩
theorem ok_l_book (T : Env K mg) : FnOk P w K mg base CX0 3 T.f_l_book T.fd_l_book ["hand"] spBook := by
  refine T.l_book.fn.ok sc_l_book (fun vs H Q E h => ?_) (fun cdv A outer s H vs Q E hr h => ?_)
  · obtain ⟨_, _, rfl, _⟩ := h
    rfl
  · obtain ⟨hd, ca, rfl, hh, k⟩ := h
    refine ⟨_, (pss_cons (ps_set (i := 1) sc_l_book.nd rfl (Or.inr rfl) (pe_lst pa_nil))
      (pss_cons (ps_for PassesOwn.never rfl (pi_range1 (by rfl) T.b_range (pa_cons (pe_op op_add pe_int (pe_call (ok_l_draw T) (hr.mono (by decide)) (by rfl) T.l_draw.mg T.l_draw.fn.kp T.l_draw.bd .nil pass0 (pa_cons (pv 0) (pa_cons pe_int pa_nil)))) pa_nil)) (pg_name (i := 2) sc_l_book.nd rfl (Or.inl rfl))
      (pss_cons (ps_set (i := 3) sc_l_book.nd rfl (Or.inl rfl) (pe_call (ok_l_name T) (hr.mono (by decide)) (by rfl) T.l_name.mg T.l_name.fn.kp T.l_name.bd .nil pass0 (pa_cons (pv 0) pa_nil)))
      (pss_cons (ps_if (pt_cmpR op_in_seq (pv 3) (pv 1) (by rfl))
      (pss_one (ps_set (i := 3) sc_l_book.nd rfl (Or.inl rfl) (pe_ix ix_list (pe_lc (own := [("one", 4)]) (g := gName 4) (tt := tTest (tOp (rIn K true) (tVar 4) (tVar 1))) (te := tVar 4) rfl sc_l_book.nd (pi_list (pe_lst (pa_cons pe_str (pa_cons pe_str (pa_cons pe_str (pa_cons pe_str pa_nil)))))) (blkOk_by (own := [("one", 4)]) (N := ["hand", "book", "k", "name", "one"]) (sc := defScope s_l_book) (by decide +kernel)) (fun _ _ _ _ _ => pg_name (i := 4) sc_l_book.nd rfl (Or.inl rfl)) (fun _ _ _ _ _ => (pts_one (pt_cmpR op_notIn_seq (pv 4) (pv 1) (by rfl)))) (fun _ _ _ _ _ => (pv 4))) pe_int (fun _ _ => rfl))))
      pss_nil)
      (pss_one (ps_expr (pe_bm PySem.F.plainAttrs_list PySem.F.slot_list_append PySem.F.type_list_append mt_append (pv 1) (pa_cons (pv 3) pa_nil)))))))
      (pss_one (ps_ret (pe_callTy call_tuple_known (by rfl) T.b_tuple (by decide +kernel) (pa_cons (pv 1) pa_nil)))))), ?_⟩
    refine ⟨sz (by decide : 0 ≤ 1000), fun p np => ?_⟩
    have s1 := same_new np (.lst [])
    obtain ⟨phd, pca⟩ := hh.new np
    refine ⟨_, rfl, hd, ca, _, rfl, hh.same s1, by decide, by decide, fun m H2 m0 m1 b2 h2 => ?_⟩
    have hp2 := (b2.seqH (hh.same s1)).lst _ _ (upd_same (H := H) (a := p))
    refine ⟨_, _, rfl, rfl, 1 + m, rfl, by omega, by omega, ?_⟩
    -- what was there stays, but for the hand and the new list
    refine for_range (lo := 0) (n := (1 + m).toNat) (fun n σ G => ∃ (ns : List Str) (kv nv : Option V), σ = [some (.ref hd), some (.ref p), kv, nv, none] ∧ G p = some (.lst (ns.map V.str)) ∧ (∀ b o, b ≠ hd → b ≠ p → H b = some o → G b = some o) ∧ HandAt G hd ca ∧ ns.length = n ∧ ∀ x ∈ ns, x.length ≤ 9)
      ⟨[], none, none, rfl, hp2, fun b o h1 h3 e => b2 b o h1 (s1 b o e), h2, rfl, fun x hx => by cases hx⟩ ?_ ?_
    · rintro n σ G hn ⟨ns, kv, nv, rfl, hpG, kG, hG, hl, hx⟩
      refine ⟨_, rfl, hd, ca, rfl, hG, fun x G2 b3 h3 lx => ?_⟩
      have hp3 := (b3.seqH hG).lst _ _ hpG
      -- the end of the turn
      have last : ∀ (y : Str) (G3 : Hp) (kv2 : Option V), Same G2 G3 → y.length ≤ 9 → tDrop (tBM K "list" (fun x xs H Q => ∃ l ys y, x = .ref l ∧ xs = [y] ∧ H l = some (.lst ys) ∧ ys.length < sizeLine ∧ Q .non (upd H l (.lst (ys ++ [y])))) (tVar 1) (tCons (tVar 3) tNil))
          { nx := fun σ' H' => ∃ (ns : List Str) (kv nv : Option V), σ' = [some (.ref hd), some (.ref p), kv, nv, none] ∧ H' p = some (.lst (ns.map V.str)) ∧ (∀ b o, b ≠ hd → b ≠ p → H b = some o → H' b = some o) ∧ HandAt H' hd ca ∧ ns.length = n + 1 ∧ ∀ x ∈ ns, x.length ≤ 9, rt := fun _ _ => False }
          [some (.ref hd), some (.ref p), kv2, some (.str y), none] G3 := by
        intro y G3 kv2 s4 ly
        have hp4 := s4 _ _ hp3
        refine ⟨_, rfl, .inl ⟨rfl, _, SqL.of hp4⟩, _, rfl, p, _, _, rfl, rfl, hp4, sz' (by rw [List.length_map]; omega), ns ++ [y], _, _, rfl, ?_, fun b o h1 h4 e => ?_, ?_, by rw [List.length_append, hl]; rfl, fun z hz => ?_⟩
        · rw [upd_same, List.map_append]
          rfl
        · rw [upd_ne h4]
          exact s4 b o (b3 b o h1 (kG b o h1 h4 e))
        · exact (h3.same s4).upd phd pca
        · rcases List.mem_append.mp hz with h | h
          · exact hx z h
          · rw [List.mem_singleton.mp h]
            exact ly
      refine ⟨_, rfl, _, rfl, p, _, rfl, .inl (SqL.of hp3), rfl, flat_strs ns, _, rfl, ?_⟩
      have short : ns.length < 4 := by omega
      by_cases c : inV (V.str x) (List.map V.str ns) = true
      · rw [c]
        refine iteT ?_
        refine first_out (i := 4) (j := 1) (cs := ["avv", "bvv", "cvv", "dvv"]) (nm := ns) (b := p) (fun Q2 q => q) (by show 4 < 5; decide) (by decide) rfl (.inl (SqL.of hp3)) short (by decide +kernel) (by decide) fun y G3 hy _ s4 => ?_
        refine last y G3 _ s4 ?_
        have all : ∀ z ∈ (["avv", "bvv", "cvv", "dvv"] : List Str), z.length ≤ 9 := by decide +kernel
        exact all y hy
      · rw [Bool.eq_false_iff.mpr c]
        refine iteF ?_
        exact last x G2 _ (Same.refl _) lx
    · rintro σ G ⟨ns, kv, nv, rfl, hpG, kG, hG, hl, hx⟩
      refine ⟨_, rfl, p, _, rfl, SqL.of hpG, fun l ob hl0 hob => ?_⟩
      have lp : l ≠ p := fun z => by
        rw [z, hpG] at hl0
        cases hl0
      refine k (.ref l) ns _ (fun b o hb hh => ?_) (hG.same (same_new hl0 _)) ⟨l, ob, rfl, upd_same, hob⟩ ⟨by omega, by omega, hx⟩
      have hbp : b ≠ p := ne_of_none hh np
      have := kG b o hb hbp hh
      rw [upd_ne (ne_of_none this hl0)]
      exact this
end
end K67

set_option Elab.async false
set_option linter.all false
set_option maxRecDepth 100000
set_option maxHeartbeats 4000000
/-! _law_mark, _law_case, _law_tree: drawn marks, cases, trees. -/
namespace K67
open PySem PySem.Spec PyProof.Rows L2
/-- what they are drawn from -/
structure Src (H : Hp) (bv nv : V) (ns : List Str) (qs : List Fq) : Prop where
  book : NamesAt H bv ns
  bok : BookOk ns
  nums : NumsAt H nv qs
  n0 : 1 ≤ qs.length
  n1 : qs.length ≤ 4
  qok : ∀ q ∈ qs, QOk q
theorem Src.mono {H H' : Hp} {bv nv : V} {ns : List Str} {qs : List Fq} (k : SeqK H H') (s : Src H bv nv ns qs) : Src H' bv nv ns qs := ⟨s.book.mono k.tup, s.bok, s.nums.mono k, s.n0, s.n1, s.qok⟩
section
variable {K : PySem.W.Frag} {hd ca : Addr} {bv nv : V} {ns : List Str} {qs : List Fq} {σ : L2.St} {H : Hp} {Q : VK}
/-- book[_law_draw(hand, len(book))] -/
theorem rd_field (h0 : σ[0]? = some (some (.ref hd))) (h1 : σ[1]? = some (some bv)) (hb : NamesAt H bv ns) (bo : BookOk ns) (hh : HandAt H hd ca) (k : ∀ f H', But hd H H' → HandAt H' hd ca → f ∈ ns → Q (.str f) H') :
    tOp (rIxT K) (tVar 1) (tCall spDraw [] E0 (tCons (tVar 0) (tCons (tCB (Evl.rLenS K) (tCons (tVar 1) tNil)) tNil))) σ H Q := by
  obtain ⟨b, ob, rfl, e, hob⟩ := hb
  have l0 := bo.lo
  have l1 := bo.hi
  refine ⟨_, h1, _, h0, _, h1, b, _, rfl, .inr (names_sq e), hd, ca, _, rfl, hh, by rw [List.length_map]; omega, Nat.lt_of_le_of_lt (show (((ns.map V.str).length : Nat) : Int).natAbs ≤ 4 by rw [List.length_map]; omega) (by decide), fun i H' i0 i1 b1 h' => ?_⟩
  rw [List.length_map] at i1
  have e' := (b1.seqH hh).tup.frz _ _ _ e
  have hj : i.toNat < ns.length := by omega
  exact ⟨b, _, i, .str ns[i.toNat], rfl, rfl, names_sq e', at1 (j := i.toNat) (by omega) (by rw [List.getElem?_map, List.getElem?_eq_getElem hj]; rfl), k _ H' b1 h' (List.getElem_mem hj)⟩
/-- numbers[_law_draw(hand, min(4, len(numbers)))] -/
theorem rd_num {j : Nat} (h0 : σ[0]? = some (some (.ref hd))) (h2 : σ[j]? = some (some nv)) (hn : NumsAt H nv qs) (n0 : 1 ≤ qs.length) (n1 : qs.length ≤ 4) (hh : HandAt H hd ca) (k : ∀ z q H', But hd H H' → HandAt H' hd ca → FracAt H' z q → q ∈ qs → Q z H') :
    tOp (rIxL K) (tVar j) (tCall spDraw [] E0 (tCons (tVar 0) (tCons (tCB (fun xs H Q => ∃ i j, xs = [.int i, .int j] ∧ Q (.int (if j < i then j else i)) H) (tCons (tC (.int 4)) (tCons (tCB (Evl.rLenS K) (tCons (tVar j) tNil)) tNil))) tNil))) σ H Q := by
  obtain ⟨a, vs, rfl, e, p⟩ := hn
  have hl := paired_len p
  refine ⟨_, h2, _, h0, _, h2, a, _, rfl, .inl (SqL.of e), _, _, rfl, hd, ca, _, rfl, hh, by split <;> omega, Nat.lt_of_le_of_lt (show (if ((vs.length : Nat) : Int) < 4 then ((vs.length : Nat) : Int) else 4).natAbs ≤ 4 by split <;> omega) (by decide), fun i H' i0 i1 b1 h' => ?_⟩
  have hi : i.toNat < vs.length := by
    have : i < ((vs.length : Nat) : Int) := by
      split at i1 <;> omega
    omega
  have e' := (b1.seqH hh).lst _ _ e
  obtain ⟨q, hq, fq⟩ := paired_get p (List.getElem?_eq_getElem hi)
  exact ⟨a, _, i, vs[i.toNat], rfl, rfl, SqL.of e', at1 (j := i.toNat) (by omega) (List.getElem?_eq_getElem hi), k _ q H' b1 h' (fq.mono (b1.seqH hh).tup) (List.mem_of_getElem? hq)⟩
/-- [a, b][_law_draw(hand, 2)], written texts -/
theorem rd_two {x y : Str} (h0 : σ[0]? = some (some (.ref hd))) (hh : HandAt H hd ca) (k : ∀ (b : Bool) H', But hd H H' → HandAt H' hd ca → Q (.str (if b then y else x)) H') :
    tOp (rIxL K) (tLst (tCons (tC (.str x)) (tCons (tC (.str y)) tNil))) (tCall spDraw [] E0 (tCons (tVar 0) (tCons (tC (.int 2)) tNil))) σ H Q := by
  refine ⟨sz (by decide : 2 ≤ 1000), fun p np => ?_⟩
  have s1 := same_new np (.lst [V.str x, .str y])
  refine ⟨_, h0, hd, ca, _, rfl, hh.same s1, by decide, by decide, fun i H' i0 i1 b1 h' => ?_⟩
  have hp := (b1.seqH (hh.same s1)).lst _ _ (upd_same (H := H) (a := p))
  have b2 := (But.of (a := hd) s1).trans b1
  rcases (show i = 0 ∨ i = 1 by omega) with rfl | rfl
  · exact ⟨p, _, 0, .str x, rfl, rfl, SqL.of hp, rfl, k false H' b2 h'⟩
  · exact ⟨p, _, 1, .str y, rfl, rfl, SqL.of hp, rfl, k true H' b2 h'⟩
end
section
variable {P : Program} {w : World} {K : PySem.W.Frag} {mg : Str → Option Value} {base : Heap}
def spMarkD : Sp := fun vs H Q _ => ∃ (hd ca : Addr) (bv nv : V) (ns : List Str) (qs : List Fq), vs = [.ref hd, bv, nv] ∧ HandAt H hd ca ∧ Src H bv nv ns qs ∧ ∀ (v : V) (isq : Bool) (f : Str) (q : Fq) (H' : Hp), But hd H H' → HandAt H' hd ca → MkAt H' v isq f q → f ∈ ns → QOk q → Q v H'
theorem sc_l_mark : FnScope ["hand", "book", "numbers", "field"] ["hand", "book", "numbers"] (defScope s_l_mark) := ⟨rfl, rfl, rfl, by decide +kernel, rfl, by decide +kernel, by decide +kernel⟩
theorem ok_l_mark (T : Env K mg) : FnOk P w K mg base CX0 2 T.f_l_mark T.fd_l_mark ["hand", "book", "numbers"] spMarkD := by
  refine T.l_mark.fn.ok sc_l_mark (fun vs H Q E h => ?_) (fun cdv A outer s H vs Q E hr h => ?_)
  · obtain ⟨_, _, _, _, _, _, rfl, _⟩ := h
    rfl
  · obtain ⟨hd, ca, bv, nv, ns, qs, rfl, hh, hs, k⟩ := h
    refine ⟨_, (pss_cons (ps_set (i := 3) sc_l_mark.nd rfl (Or.inl rfl) (pe_ix ix_tup (pv 1) (pe_call (ok_l_draw T) (hr.mono (by decide)) (by rfl) T.l_draw.mg T.l_draw.fn.kp T.l_draw.bd .nil pass0 (pa_cons (pv 0) (pa_cons (pe_callB call_len_seq (by rfl) T.b_len (by decide +kernel) (pa_cons (pv 1) pa_nil)) pa_nil))) (fun _ _ => rfl)))
      (pss_one (ps_ret (pe_lst (pa_cons (pe_ix ix_list (pe_lst (pa_cons pe_str (pa_cons pe_str pa_nil))) (pe_call (ok_l_draw T) (hr.mono (by decide)) (by rfl) T.l_draw.mg T.l_draw.fn.kp T.l_draw.bd .nil pass0 (pa_cons (pv 0) (pa_cons pe_int pa_nil))) (fun _ _ => rfl)) (pa_cons (pv 3) (pa_cons (pe_ix ix_list (pv 2) (pe_call (ok_l_draw T) (hr.mono (by decide)) (by rfl) T.l_draw.mg T.l_draw.fn.kp T.l_draw.bd .nil pass0 (pa_cons (pv 0) (pa_cons (pe_callB (call_min2 rfl) (by rfl) T.b_min (by decide +kernel) (pa_cons pe_int (pa_cons (pe_callB call_len_seq (by rfl) T.b_len (by decide +kernel) (pa_cons (pv 2) pa_nil)) pa_nil))) pa_nil))) (fun _ _ => rfl)) pa_nil))))))), ?_⟩
    refine rd_field rfl rfl hs.book hs.bok hh fun f H1 b1 h1 hf => ?_
    have hs1 := hs.mono (b1.seqH hh)
    refine rd_two (x := "under") (y := "is") rfl h1 fun isq H2 b2 h2 => ?_
    have hs2 := hs1.mono (b2.seqH h1)
    refine ⟨_, rfl, ?_⟩
    refine rd_num (j := 2) rfl rfl hs2.nums hs2.n0 hs2.n1 h2 fun z q H3 b3 h3 fq hq => ?_
    refine ⟨sz (by decide : 3 ≤ 1000), fun p np => ?_⟩
    have s4 := same_new np (.lst [V.str (if isq then "is" else "under"), .str f, z])
    exact k _ isq f q _ (((b1.trans b2).trans b3).trans (But.of s4)) (h3.same s4) ⟨p, z, rfl, upd_same, fq.mono (TupK.of s4)⟩ hf (hs.qok q hq)
def spCaseD (n : Nat) : Sp := fun vs H Q _ => ∃ (hd ca : Addr) (bv nv : V) (ns : List Str) (qs : List Fq) (d : Nat), vs = [.ref hd, bv, nv, .int (d : Int)] ∧ d < n ∧ HandAt H hd ca ∧ Src H bv nv ns qs ∧
  ∀ (v : V) (c : Cs Str) (H' : Hp), But hd H H' → HandAt H' hd ca → CsAt H' c v → CsOk ns c → csD c ≤ d + 1 → Q v H'
theorem sc_l_case : FnScope ["hand", "book", "numbers", "deep", "kind", "one"] ["hand", "book", "numbers", "deep"] (defScope s_l_case) := ⟨rfl, rfl, rfl, by decide +kernel, rfl, by decide +kernel, by decide +kernel⟩
theorem ok_l_case (T : Env K mg) : ∀ n : Nat, FnOk P w K mg base CX0 (2 + n) T.f_l_case T.fd_l_case ["hand", "book", "numbers", "deep"] (spCaseD n)
  | 0 => by
    have no : ∀ vs H Q E, ¬ spCaseD 0 vs H Q E := fun vs H Q E h => by
      obtain ⟨_, _, _, _, _, _, _, _, hd, _⟩ := h
      exact absurd hd (Nat.not_lt_zero _)
    exact ⟨fun vs H Q E h => absurd h (no vs H Q E), fun A outer s H args us vs Q E _ _ _ _ h => absurd h (no vs H Q E)⟩
  | n + 1 => by
    have ih := ok_l_case T n
    refine T.l_case.fn.ok sc_l_case (fun vs H Q E h => ?_) (fun cdv A outer s H vs Q E hr h => ?_)
    · obtain ⟨_, _, _, _, _, _, _, rfl, _⟩ := h
      rfl
    · obtain ⟨hd, ca, bv, nv, ns, qs, d, rfl, hn, hh, hs, k⟩ := h
      have hr : Room (2 + n) _ := hr
      refine ⟨_, (pss_cons (ps_set (i := 4) sc_l_case.nd rfl (Or.inl rfl) (pe_call (ok_l_draw T) (hr.mono (by omega)) (by rfl) T.l_draw.mg T.l_draw.fn.kp T.l_draw.bd .nil pass0 (pa_cons (pv 0) (pa_cons (pe_ix ix_list (pe_lst (pa_cons pe_int (pa_cons pe_int pa_nil))) (pe_callTy call_int1 (by rfl) T.b_int (by decide +kernel) (pa_cons (pe_cmpR op_gt (pv 3) pe_int (nomark _)) pa_nil)) (fun _ _ => rfl)) pa_nil))))
        (pss_cons (ps_if (pt_cmpR op_eq (pv 4) pe_int (nomark _))
        (pss_one (ps_ret (pe_lst (pa_cons pe_str (pa_cons (pe_ix ix_tup (pv 1) (pe_call (ok_l_draw T) (hr.mono (by omega)) (by rfl) T.l_draw.mg T.l_draw.fn.kp T.l_draw.bd .nil pass0 (pa_cons (pv 0) (pa_cons (pe_callB call_len_seq (by rfl) T.b_len (by decide +kernel) (pa_cons (pv 1) pa_nil)) pa_nil))) (fun _ _ => rfl)) pa_nil)))))
        pss_nil)
        (pss_cons (ps_if (pt_cmpR op_lt (pv 4) pe_int (nomark _))
        (pss_one (ps_ret (pe_lst (pa_cons (pe_ix ix_list (pe_lst (pa_cons pe_str (pa_cons pe_str pa_nil))) (pe_op op_sub (pv 4) pe_int) (fun _ _ => rfl)) (pa_cons (pe_call (ok_l_mark T) (hr.mono (by omega)) (by rfl) T.l_mark.mg T.l_mark.fn.kp T.l_mark.bd .nil pass0 (pa_cons (pv 0) (pa_cons (pv 1) (pa_cons (pv 2) pa_nil)))) pa_nil)))))
        pss_nil)
        (pss_cons (ps_if (pt_cmpR op_eq (pv 4) pe_int (nomark _))
        (pss_one (ps_ret (pe_lst (pa_cons pe_str (pa_cons (pe_call ih hr (by rfl) T.l_case.mg T.l_case.fn.kp T.l_case.bd .nil pass0 (pa_cons (pv 0) (pa_cons (pv 1) (pa_cons (pv 2) (pa_cons (pe_op op_sub (pv 3) pe_int) pa_nil))))) pa_nil)))))
        pss_nil)
        (pss_cons (ps_set (i := 5) sc_l_case.nd rfl (Or.inl rfl) (pe_call ih hr (by rfl) T.l_case.mg T.l_case.fn.kp T.l_case.bd .nil pass0 (pa_cons (pv 0) (pa_cons (pv 1) (pa_cons (pv 2) (pa_cons (pe_op op_sub (pv 3) pe_int) pa_nil))))))
        (pss_one (ps_ret (pe_lst (pa_cons (pe_ix ix_list (pe_lst (pa_cons pe_str (pa_cons pe_str pa_nil))) (pe_op op_sub (pv 4) pe_int) (fun _ _ => rfl)) (pa_cons (pv 5) (pa_cons (pe_call ih hr (by rfl) T.l_case.mg T.l_case.fn.kp T.l_case.bd .nil pass0 (pa_cons (pv 0) (pa_cons (pv 1) (pa_cons (pv 2) (pa_cons (pe_op op_sub (pv 3) pe_int) pa_nil))))) pa_nil))))))))))), ?_⟩
      -- kind
      refine ⟨_, rfl, sz (by decide : 2 ≤ 1000), fun p np => ?_⟩
      have s1 := same_new np (.lst [V.int 3, .int 6])
      obtain ⟨lim, hlim, l0, l1, l2⟩ : ∃ lim : Int, atI ([.int 3, .int 6] : List V) (if decide ((0 : Int) < (d : Int)) = true then 1 else 0) = some (.int lim) ∧ 3 ≤ lim ∧ lim ≤ 6 ∧ (3 < lim → 0 < d) := by
        by_cases z : (0 : Int) < (d : Int)
        · rw [decide_eq_true z]
          exact ⟨6, rfl, by decide, by decide, fun _ => by omega⟩
        · rw [decide_eq_false z]
          exact ⟨3, rfl, by decide, by decide, fun q => by omega⟩
      refine ⟨_, rfl, _, _, rfl, rfl, .inr ⟨_, rfl, p, _, _, _, rfl, rfl, SqL.of upd_same, hlim, ?_⟩⟩
      refine ⟨hd, ca, lim, rfl, hh.same s1, by omega, Nat.lt_of_le_of_lt (show lim.natAbs ≤ 6 by omega) (by decide), fun kind H1 k0 k1 b1' h1 => ?_⟩
      have b1 := (But.of (a := hd) s1).trans b1'
      have hs1 := hs.mono (b1.seqH hh)
      refine ⟨_, rfl, rfl, _, rfl, ?_⟩
      by_cases c0 : V.int kind = V.int 0
      · refine ifT c0 ?_
        refine rd_field rfl rfl hs1.book hs1.bok h1 fun f H2 b2 h2 hf => ?_
        refine ⟨sz (by decide : 2 ≤ 1000), fun r nr => ?_⟩
        have s3 := same_new nr (.lst [V.str "same", .str f])
        exact k _ (.same f) _ ((b1.trans b2).trans (But.of s3)) (h2.same s3) ⟨r, rfl, upd_same⟩ hf (Nat.succ_pos _)
      refine ifF c0 ?_
      have ne0 : kind ≠ 0 := fun z => c0 (by rw [z])
      refine ⟨_, rfl, _, _, rfl, rfl, _, rfl, ?_⟩
      by_cases c3 : kind < 3
      · refine ifT c3 ?_
        have marked : ∀ (i : Int) (x : Str) (mk : Bool → Str → Fq → Cs Str), kind = i → atI ([.str "both", .str "either"] : List V) (i - 1) = some (.str x) → (∀ (G : Hp) (r : Addr) (z : V) (b : Bool) (f : Str) (q : Fq), G r = some (.lst [.str x, z]) → MkAt G z b f q → CsAt G (mk b f q) (.ref r)) →
            (∀ b f q, f ∈ ns → QOk q → CsOk ns (mk b f q)) → (∀ b f q, csD (mk b f q) = 1) →
            tRet (tLst (tCons (tOp (rIxL K) (tLst (tCons (tC (.str "both")) (tCons (tC (.str "either")) tNil))) (tOp (rI0 fun i j => .int (i - j)) (tVar 4) (tC (.int 1)))) (tCons (tCall spMarkD [] E0 (tCons (tVar 0) (tCons (tVar 1) (tCons (tVar 2) tNil)))) tNil)))
              { nx := fun _ H' => Q .non H', rt := Q } [some (.ref hd), some bv, some nv, some (.int (d : Int)), some (.int kind), none] H1 := by
          intro i x mk ek hx at_ ok_ d_
          subst ek
          refine ⟨sz (by decide : 2 ≤ 1000), fun p2 np2 => ?_⟩
          have s2 := same_new np2 (.lst [V.str "both", .str "either"])
          refine ⟨_, rfl, _, _, rfl, rfl, p2, _, _, _, rfl, rfl, SqL.of upd_same, hx, ?_⟩
          refine ⟨_, rfl, _, rfl, _, rfl, hd, ca, bv, nv, ns, qs, rfl, h1.same s2, hs1.mono (SeqK.of s2), fun z b f q H3 b3 h3 mz hf hq => ?_⟩
          refine ⟨sz (by decide : 2 ≤ 1000), fun r nr => ?_⟩
          have s4 := same_new nr (.lst [V.str x, z])
          exact k _ (mk b f q) _ (((b1.trans (But.of s2)).trans b3).trans (But.of s4)) (h3.same s4) (at_ _ r z b f q upd_same (mz.mono (SeqK.of s4))) (ok_ b f q hf hq) (by rw [d_]; exact Nat.succ_pos _)
        rcases (show kind = 1 ∨ kind = 2 by omega) with e | e
        · exact marked 1 "both" .both e rfl (fun G r z b f q hr hz => ⟨r, z, rfl, hr, hz⟩) (fun b f q hf hq => ⟨hf, hq⟩) fun _ _ _ => rfl
        · exact marked 2 "either" .either e rfl (fun G r z b f q hr hz => ⟨r, z, rfl, hr, hz⟩) (fun b f q hf hq => ⟨hf, hq⟩) fun _ _ _ => rfl
      refine ifF c3 ?_
      have d0 : 0 < d := l2 (by omega)
      obtain ⟨e, rfl⟩ : ∃ e, d = e + 1 := ⟨d - 1, by omega⟩
      have ed : ((e + 1 : Nat) : Int) - 1 = (e : Int) := by omega
      -- a deeper one
      have deeper : ∀ (G : Hp) (Q2 : VK), HandAt G hd ca → Src G bv nv ns qs → (∀ (v : V) (c : Cs Str) (H' : Hp), But hd G H' → HandAt H' hd ca → CsAt H' c v → CsOk ns c → csD c ≤ e + 1 → Q2 v H') → spCaseD n [.ref hd, bv, nv, .int (((e + 1 : Nat) : Int) - 1)] G Q2 (fun _ _ _ => False) :=
        fun G Q2 hG sG kk => ⟨hd, ca, bv, nv, ns, qs, e, by rw [ed], by omega, hG, sG, kk⟩
      refine ⟨_, rfl, rfl, _, rfl, ?_⟩
      by_cases c33 : V.int kind = V.int 3
      · refine ifT c33 ?_
        refine ⟨_, rfl, _, rfl, _, rfl, _, rfl, _, _, rfl, rfl, deeper _ _ h1 hs1 fun v c H2 b2 h2 cv co cd => ?_⟩
        refine ⟨sz (by decide : 2 ≤ 1000), fun r nr => ?_⟩
        have s3 := same_new nr (.lst [V.str "not", v])
        exact k _ (.no c) _ ((b1.trans b2).trans (But.of s3)) (h2.same s3) ⟨r, v, rfl, upd_same, cv.mono (SeqK.of s3)⟩ co (Nat.succ_le_succ cd)
      refine ifF c33 ?_
      have ne3 : kind ≠ 3 := fun z => c33 (by rw [z])
      refine ⟨_, rfl, _, rfl, _, rfl, _, rfl, _, _, rfl, rfl, deeper _ _ h1 hs1 fun v c H2 b2 h2 cv co cd => ?_⟩
      have hs2 := hs1.mono (b2.seqH h1)
      have both : ∀ (i : Int) (x : Str) (mk : Cs Str → Cs Str → Cs Str), kind = i → atI ([.str "and", .str "or"] : List V) (i - 4) = some (.str x) → (∀ (G : Hp) (r : Addr) (y z : V) (c1 c2 : Cs Str), G r = some (.lst [.str x, y, z]) → CsAt G c1 y → CsAt G c2 z → CsAt G (mk c1 c2) (.ref r)) →
          (∀ c1 c2, CsOk ns c1 → CsOk ns c2 → CsOk ns (mk c1 c2)) → (∀ c1 c2, csD (mk c1 c2) = max (csD c1) (csD c2) + 1) →
          tRet (tLst (tCons (tOp (rIxL K) (tLst (tCons (tC (.str "and")) (tCons (tC (.str "or")) tNil))) (tOp (rI0 fun i j => .int (i - j)) (tVar 4) (tC (.int 4)))) (tCons (tVar 5) (tCons (tCall (spCaseD n) [] E0 (tCons (tVar 0) (tCons (tVar 1) (tCons (tVar 2) (tCons (tOp (rI0 fun i j => .int (i - j)) (tVar 3) (tC (.int 1))) tNil))))) tNil))))
            { nx := fun _ H' => Q .non H', rt := Q } [some (.ref hd), some bv, some nv, some (.int ((e + 1 : Nat) : Int)), some (.int kind), some v] H2 := by
        intro i x mk ek hx at_ ok_ d_
        subst ek
        refine ⟨sz (by decide : 2 ≤ 1000), fun p2 np2 => ?_⟩
        have s2 := same_new np2 (.lst [V.str "and", .str "or"])
        refine ⟨_, rfl, _, _, rfl, rfl, p2, _, _, _, rfl, rfl, SqL.of upd_same, hx, _, rfl, ?_⟩
        refine ⟨_, rfl, _, rfl, _, rfl, _, rfl, _, _, rfl, rfl, deeper _ _ (h2.same s2) (hs2.mono (SeqK.of s2)) fun v' c' H3 b3 h3 cv' co' cd' => ?_⟩
        refine ⟨sz (by decide : 3 ≤ 1000), fun r nr => ?_⟩
        have s4 := same_new nr (.lst [V.str x, v, v'])
        have cv3 := ((cv.mono (SeqK.of s2)).mono (b3.seqH (h2.same s2))).mono (SeqK.of s4)
        exact k _ (mk c c') _ ((((b1.trans b2).trans (But.of s2)).trans b3).trans (But.of s4)) (h3.same s4) (at_ _ r v v' c c' upd_same cv3 (cv'.mono (SeqK.of s4))) (ok_ _ _ co co') (by rw [d_]; omega)
      rcases (show kind = 4 ∨ kind = 5 by omega) with ek | ek
      · exact both 4 "and" .conj ek rfl (fun G r y z c1 c2 hr h1 h2 => ⟨r, y, z, rfl, hr, h1, h2⟩) (fun _ _ a b => ⟨a, b⟩) fun _ _ => rfl
      · exact both 5 "or" .disj ek rfl (fun G r y z c1 c2 hr h1 h2 => ⟨r, y, z, rfl, hr, h1, h2⟩) (fun _ _ a b => ⟨a, b⟩) fun _ _ => rfl
def spTreeD (n : Nat) : Sp := fun vs H Q _ => ∃ (hd ca : Addr) (bv nv : V) (ns : List Str) (qs : List Fq) (d : Nat), vs = [.ref hd, bv, nv, .int (d : Int)] ∧ d < n ∧ HandAt H hd ca ∧ Src H bv nv ns qs ∧
  ∀ (v : V) (t : Tr Str) (H' : Hp), But hd H H' → HandAt H' hd ca → TrAt H' t v → TrOk ns t → trD t ≤ d + 1 → Q v H'
theorem sc_l_tree : FnScope ["hand", "book", "numbers", "deep", "kind", "case", "one", "other"] ["hand", "book", "numbers", "deep"] (defScope s_l_tree) := ⟨rfl, rfl, rfl, by decide +kernel, rfl, by decide +kernel, by decide +kernel⟩
theorem ok_l_tree (T : Env K mg) : ∀ n : Nat, FnOk P w K mg base CX0 (4 + n) T.f_l_tree T.fd_l_tree ["hand", "book", "numbers", "deep"] (spTreeD n)
  | 0 => by
    have no : ∀ vs H Q E, ¬ spTreeD 0 vs H Q E := fun vs H Q E h => by
      obtain ⟨_, _, _, _, _, _, _, _, hd, _⟩ := h
      exact absurd hd (Nat.not_lt_zero _)
    exact ⟨fun vs H Q E h => absurd h (no vs H Q E), fun A outer s H args us vs Q E _ _ _ _ h => absurd h (no vs H Q E)⟩
  | n + 1 => by
    have ih := ok_l_tree T n
    refine T.l_tree.fn.ok sc_l_tree (fun vs H Q E h => ?_) (fun cdv A outer s H vs Q E hr h => ?_)
    · obtain ⟨_, _, _, _, _, _, _, rfl, _⟩ := h
      rfl
    · obtain ⟨hd, ca, bv, nv, ns, qs, d, rfl, hn, hh, hs, k⟩ := h
      have hr : Room (4 + n) _ := hr
      refine ⟨_, (pss_cons (ps_set (i := 4) sc_l_tree.nd rfl (Or.inl rfl) (pe_call (ok_l_draw T) (hr.mono (by omega)) (by rfl) T.l_draw.mg T.l_draw.fn.kp T.l_draw.bd .nil pass0 (pa_cons (pv 0) (pa_cons (pe_ix ix_list (pe_lst (pa_cons pe_int (pa_cons pe_int pa_nil))) (pe_callTy call_int1 (by rfl) T.b_int (by decide +kernel) (pa_cons (pe_cmpR op_gt (pv 3) pe_int (nomark _)) pa_nil)) (fun _ _ => rfl)) pa_nil))))
        (pss_cons (ps_if (pt_cmpR op_eq (pv 4) pe_int (nomark _))
        (pss_one (ps_ret (pe_lst (pa_cons pe_str pa_nil))))
        pss_nil)
        (pss_cons (ps_if (pt_cmpR op_lt (pv 4) pe_int (nomark _))
        (pss_one (ps_ret (pe_lst (pa_cons (pe_ix ix_list (pe_lst (pa_cons pe_str (pa_cons pe_str pa_nil))) (pe_op op_mod (pv 4) pe_int) (fun _ _ => rfl)) (pa_cons (pe_ix ix_tup (pv 1) (pe_call (ok_l_draw T) (hr.mono (by omega)) (by rfl) T.l_draw.mg T.l_draw.fn.kp T.l_draw.bd .nil pass0 (pa_cons (pv 0) (pa_cons (pe_callB call_len_seq (by rfl) T.b_len (by decide +kernel) (pa_cons (pv 1) pa_nil)) pa_nil))) (fun _ _ => rfl)) pa_nil)))))
        pss_nil)
        (pss_cons (ps_if (pt_cmpR op_eq (pv 4) pe_int (nomark _))
        (pss_one (ps_ret (pe_lst (pa_cons pe_str (pa_cons (pe_call ih hr (by rfl) T.l_tree.mg T.l_tree.fn.kp T.l_tree.bd .nil pass0 (pa_cons (pv 0) (pa_cons (pv 1) (pa_cons (pv 2) (pa_cons (pe_op op_sub (pv 3) pe_int) pa_nil))))) pa_nil)))))
        pss_nil)
        (pss_cons (ps_set (i := 5) sc_l_tree.nd rfl (Or.inl rfl) (pe_call (ok_l_case T 2) (hr.mono (by omega)) (by rfl) T.l_case.mg T.l_case.fn.kp T.l_case.bd .nil pass0 (pa_cons (pv 0) (pa_cons (pv 1) (pa_cons (pv 2) (pa_cons pe_int pa_nil))))))
        (pss_cons (ps_set (i := 6) sc_l_tree.nd rfl (Or.inl rfl) (pe_call ih hr (by rfl) T.l_tree.mg T.l_tree.fn.kp T.l_tree.bd .nil pass0 (pa_cons (pv 0) (pa_cons (pv 1) (pa_cons (pv 2) (pa_cons (pe_op op_sub (pv 3) pe_int) pa_nil))))))
        (pss_cons (ps_set (i := 7) sc_l_tree.nd rfl (Or.inl rfl) (pe_call ih hr (by rfl) T.l_tree.mg T.l_tree.fn.kp T.l_tree.bd .nil pass0 (pa_cons (pv 0) (pa_cons (pv 1) (pa_cons (pv 2) (pa_cons (pe_op op_sub (pv 3) pe_int) pa_nil))))))
        (pss_cons (ps_if (pt_cmpR op_lt (pv 4) pe_int (nomark _))
        (pss_one (ps_ret (pe_lst (pa_cons pe_str (pa_cons (pv 6) (pa_cons (pv 7) pa_nil))))))
        pss_nil)
        (pss_one (ps_ret (pe_lst (pa_cons pe_str (pa_cons (pv 5) (pa_cons (pv 6) (pa_cons (pv 7) pa_nil))))))))))))))), ?_⟩
      refine ⟨_, rfl, sz (by decide : 2 ≤ 1000), fun p np => ?_⟩
      have s1 := same_new np (.lst [V.int 5, .int 11])
      obtain ⟨lim, hlim, l0, l1, l2⟩ : ∃ lim : Int, atI ([.int 5, .int 11] : List V) (if decide ((0 : Int) < (d : Int)) = true then 1 else 0) = some (.int lim) ∧ 5 ≤ lim ∧ lim ≤ 11 ∧ (5 < lim → 0 < d) := by
        by_cases z : (0 : Int) < (d : Int)
        · rw [decide_eq_true z]
          exact ⟨11, rfl, by decide, by decide, fun _ => by omega⟩
        · rw [decide_eq_false z]
          exact ⟨5, rfl, by decide, by decide, fun q => by omega⟩
      refine ⟨_, rfl, _, _, rfl, rfl, .inr ⟨_, rfl, p, _, _, _, rfl, rfl, SqL.of upd_same, hlim, ?_⟩⟩
      refine ⟨hd, ca, lim, rfl, hh.same s1, by omega, Nat.lt_of_le_of_lt (show lim.natAbs ≤ 11 by omega) (by decide), fun kind H1 k0 k1 b1' h1 => ?_⟩
      have b1 := (But.of (a := hd) s1).trans b1'
      have hs1 := hs.mono (b1.seqH hh)
      refine ⟨_, rfl, rfl, _, rfl, ?_⟩
      by_cases c0 : V.int kind = V.int 0
      · refine ifT c0 ?_
        refine ⟨sz (by decide : 1 ≤ 1000), fun r nr => ?_⟩
        have s3 := same_new nr (.lst [V.str "like"])
        exact k _ .like _ (b1.trans (But.of s3)) (h1.same s3) ⟨r, rfl, upd_same⟩ True.intro (Nat.succ_pos _)
      refine ifF c0 ?_
      have ne0 : kind ≠ 0 := fun z => c0 (by rw [z])
      refine ⟨_, rfl, _, _, rfl, rfl, _, rfl, ?_⟩
      by_cases c5 : kind < 5
      · refine ifT c5 ?_
        refine ⟨sz (by decide : 2 ≤ 1000), fun p2 np2 => ?_⟩
        have s2 := same_new np2 (.lst [V.str "up", .str "down"])
        have m0 := Int.emod_nonneg kind (b := 2) (by decide)
        have m1 := Int.emod_lt_of_pos kind (b := 2) (by decide)
        refine ⟨_, rfl, _, _, rfl, rfl, (by decide : (0 : Int) < 2), ?_⟩
        rcases (show kind % 2 = 0 ∨ kind % 2 = 1 by omega) with e | e
        · refine ⟨p2, _, _, .str "up", rfl, rfl, SqL.of upd_same, (by rw [e]; rfl), ?_⟩
          refine rd_field rfl rfl (hs1.book.mono (TupK.of s2)) hs1.bok (h1.same s2) fun f H2 b2 h2 hf => ?_
          refine ⟨sz (by decide : 2 ≤ 1000), fun r nr => ?_⟩
          have s3 := same_new nr (.lst [V.str "up", .str f])
          exact k _ (.up f) _ (((b1.trans (But.of s2)).trans b2).trans (But.of s3)) (h2.same s3) ⟨r, rfl, upd_same⟩ hf (Nat.succ_pos _)
        · refine ⟨p2, _, _, .str "down", rfl, rfl, SqL.of upd_same, (by rw [e]; rfl), ?_⟩
          refine rd_field rfl rfl (hs1.book.mono (TupK.of s2)) hs1.bok (h1.same s2) fun f H2 b2 h2 hf => ?_
          refine ⟨sz (by decide : 2 ≤ 1000), fun r nr => ?_⟩
          have s3 := same_new nr (.lst [V.str "down", .str f])
          exact k _ (.down f) _ (((b1.trans (But.of s2)).trans b2).trans (But.of s3)) (h2.same s3) ⟨r, rfl, upd_same⟩ hf (Nat.succ_pos _)
      refine ifF c5 ?_
      refine ⟨_, rfl, rfl, _, rfl, ?_⟩
      -- what is deeper: where kind is 5 there may be none
      by_cases d0 : d = 0
      · omega
      obtain ⟨e, rfl⟩ : ∃ e, d = e + 1 := ⟨d - 1, by omega⟩
      have ed : ((e + 1 : Nat) : Int) - 1 = (e : Int) := by omega
      have deeper : ∀ (G : Hp) (Q2 : VK), HandAt G hd ca → Src G bv nv ns qs → (∀ (v : V) (t : Tr Str) (H' : Hp), But hd G H' → HandAt H' hd ca → TrAt H' t v → TrOk ns t → trD t ≤ e + 1 → Q2 v H') → spTreeD n [.ref hd, bv, nv, .int (((e + 1 : Nat) : Int) - 1)] G Q2 (fun _ _ _ => False) :=
        fun G Q2 hG sG kk => ⟨hd, ca, bv, nv, ns, qs, e, by rw [ed], by omega, hG, sG, kk⟩
      by_cases c55 : V.int kind = V.int 5
      · refine ifT c55 ?_
        refine ⟨_, rfl, _, rfl, _, rfl, _, rfl, _, _, rfl, rfl, deeper _ _ h1 hs1 fun v t H2 b2 h2 tv to td => ?_⟩
        refine ⟨sz (by decide : 2 ≤ 1000), fun r nr => ?_⟩
        have s3 := same_new nr (.lst [V.str "turn", v])
        exact k _ (.turn t) _ ((b1.trans b2).trans (But.of s3)) (h2.same s3) ⟨r, v, rfl, upd_same, tv.mono (SeqK.of s3)⟩ to (Nat.succ_le_succ td)
      refine ifF c55 ?_
      -- case, one, other
      refine ⟨_, rfl, _, rfl, _, rfl, hd, ca, bv, nv, ns, qs, 1, rfl, by decide, h1, hs1, fun vc c H2 b2 h2 cv co cd => ?_⟩
      have hs2 := hs1.mono (b2.seqH h1)
      refine ⟨_, rfl, _, rfl, _, rfl, _, rfl, _, _, rfl, rfl, deeper _ _ h2 hs2 fun v1 t1 H3 b3 h3 tv1 to1 td1 => ?_⟩
      have hs3 := hs2.mono (b3.seqH h2)
      refine ⟨_, rfl, _, rfl, _, rfl, _, rfl, _, _, rfl, rfl, deeper _ _ h3 hs3 fun v2 t2 H4 b4 h4 tv2 to2 td2 => ?_⟩
      have cv4 := (cv.mono (b3.seqH h2)).mono (b4.seqH h3)
      have tv14 := tv1.mono (b4.seqH h3)
      have b04 := ((b1.trans b2).trans b3).trans b4
      refine ⟨_, rfl, _, _, rfl, rfl, _, rfl, ?_⟩
      by_cases c9 : kind < 9
      · refine ifT c9 ?_
        refine ⟨_, rfl, _, rfl, sz (by decide : 3 ≤ 1000), fun r nr => ?_⟩
        have s5 := same_new nr (.lst [V.str "then", v1, v2])
        refine k _ (.thn t1 t2) _ (b04.trans (But.of s5)) (h4.same s5) ⟨r, v1, v2, rfl, upd_same, tv14.mono (SeqK.of s5), tv2.mono (SeqK.of s5)⟩ ⟨to1, to2⟩ ?_
        show max (trD t1) (trD t2) + 1 ≤ e + 1 + 1
        omega
      · refine ifF c9 ?_
        refine ⟨_, rfl, _, rfl, _, rfl, sz (by decide : 4 ≤ 1000), fun r nr => ?_⟩
        have s5 := same_new nr (.lst [V.str "pick", vc, v1, v2])
        refine k _ (.pick c t1 t2) _ (b04.trans (But.of s5)) (h4.same s5) ⟨r, vc, v1, v2, rfl, upd_same, cv4.mono (SeqK.of s5), tv14.mono (SeqK.of s5), tv2.mono (SeqK.of s5)⟩ ⟨⟨co, cd⟩, to1, to2⟩ ?_
        show max (trD t1) (trD t2) + 1 ≤ e + 1 + 1
        omega
end
end K67

set_option Elab.async false
set_option linter.all false
set_option maxRecDepth 100000
set_option maxHeartbeats 4000000
/-! _law_words: a nested list's words in a row. -/
namespace K67
open PySem PySem.Spec PyProof.Rows L2
/-- nested lists to a depth, and their words -/
def Flat (H : Hp) : Nat → V → List Wd → Prop
  | 0, _, _ => False
  | d + 1, v, ws => ∃ (a : Addr) (parts : List V) (wss : List (List Wd)), v = .ref a ∧ H a = some (.lst parts) ∧ parts.length ≤ 4 ∧ Paired (fun p l => (∃ x, WdAt H p x ∧ l = [x]) ∨ Flat H d p l) parts wss ∧ ws = wss.flatten
theorem Flat.mono {H H' : Hp} (k : SeqK H H') : ∀ {d : Nat} {v : V} {ws : List Wd}, Flat H d v ws → Flat H' d v ws
  | 0, _, _, h => h
  | d + 1, v, ws, ⟨a, parts, wss, e, h1, h2, h3, h4⟩ => ⟨a, parts, wss, e, k.lst _ _ h1, h2, paired_mono (fun p l h => by
      rcases h with ⟨x, hx, e⟩ | h
      · exact .inl ⟨x, hx.mono k.tup, e⟩
      · exact .inr (Flat.mono k h)) h3, h4⟩
theorem Flat.succ {H : Hp} : ∀ {d : Nat} {v : V} {ws : List Wd}, Flat H d v ws → Flat H (d + 1) v ws
  | 0, _, _, h => h.elim
  | d + 1, v, ws, ⟨a, parts, wss, e, h1, h2, h3, h4⟩ => ⟨a, parts, wss, e, h1, h2, paired_mono (fun p l h => by
      rcases h with h | h
      · exact .inl h
      · exact .inr (Flat.succ h)) h3, h4⟩
theorem Flat.le {H : Hp} {d e : Nat} {v : V} {ws : List Wd} (h : Flat H d v ws) (l : d ≤ e) : Flat H e v ws := by
  induction l with
  | refl => exact h
  | step _ ih => exact ih.succ
theorem sum_le {α : Type} {n m : Nat} : ∀ {wss : List (List α)}, (∀ l ∈ wss, l.length ≤ n) → wss.length ≤ m → wss.flatten.length ≤ m * n
  | [], _, _ => Nat.zero_le _
  | l :: r, h, hm => by
    cases m with
    | zero => simp at hm
    | succ m =>
      rw [List.flatten_cons, List.length_append, Nat.succ_mul]
      have h1 := h l List.mem_cons_self
      have h2 := sum_le (m := m) (wss := r) (fun x hx => h x (List.mem_cons_of_mem _ hx)) (Nat.le_of_succ_le_succ hm)
      omega
theorem paired_mem {α β : Type} {F : α → β → Prop} : ∀ {l : List α} {m : List β} {y : β}, Paired F l m → y ∈ m → ∃ x, x ∈ l ∧ F x y
  | _, _, _, .nil, h => by cases h
  | _, _, y, .cons r t, h => by
    rcases List.mem_cons.mp h with e | h
    · subst e
      exact ⟨_, List.mem_cons_self, r⟩
    · obtain ⟨x, hx, f⟩ := paired_mem t h
      exact ⟨x, List.mem_cons_of_mem _ hx, f⟩
theorem Flat.len {H : Hp} : ∀ {d : Nat} {v : V} {ws : List Wd}, Flat H d v ws → ws.length ≤ 4 ^ d
  | 0, _, _, h => h.elim
  | d + 1, v, ws, ⟨a, parts, wss, e, h1, h2, h3, h4⟩ => by
    rw [h4, Nat.pow_succ, Nat.mul_comm]
    refine sum_le (fun l hl => ?_) (by rw [← paired_len h3]; exact h2)
    obtain ⟨p, _, h⟩ := paired_mem h3 hl
    rcases h with ⟨x, _, e⟩ | h
    · rw [e]
      exact Nat.pos_of_ne_zero (by simp)
    · exact Flat.len h
theorem leaf_s {H : Hp} {d : Nat} (x : Str) : (∃ y, WdAt H (.str x) y ∧ ([Wd.s x] : List Wd) = [y]) ∨ Flat H d (.str x) [.s x] := .inl ⟨.s x, rfl, rfl⟩
theorem MkAt.flat {H : Hp} {v : V} {isq : Bool} {f : Str} {q : Fq} (h : MkAt H v isq f q) : Flat H 1 v (mkW isq f q) :=
  let ⟨a, z, e, x, y⟩ := h; ⟨a, _, [[.s (if isq then "is" else "under")], [.s f], [.q q]], e, x, (by simp), .cons (leaf_s _) (.cons (leaf_s _) (.cons (.inl ⟨.q q, y, rfl⟩) .nil)), rfl⟩
theorem CsAt.flat {H : Hp} : ∀ {c : Cs Str} {v : V}, CsAt H c v → Flat H (csD c + 1) v (csW c)
  | .same f, v, h => let ⟨a, e, x⟩ := h; ⟨a, _, [[.s "same"], [.s f]], e, x, (by simp), .cons (leaf_s _) (.cons (leaf_s _) .nil), rfl⟩
  | .both b f q, v, h => let ⟨a, z, e, x, y⟩ := h; ⟨a, _, [[.s "both"], mkW b f q], e, x, (by simp), .cons (leaf_s _) (.cons (.inr y.flat) .nil), by simp [csW]⟩
  | .either b f q, v, h => let ⟨a, z, e, x, y⟩ := h; ⟨a, _, [[.s "either"], mkW b f q], e, x, (by simp), .cons (leaf_s _) (.cons (.inr y.flat) .nil), by simp [csW]⟩
  | .no c, v, h => let ⟨a, z, e, x, y⟩ := h; ⟨a, _, [[.s "not"], csW c], e, x, (by simp), .cons (leaf_s _) (.cons (.inr y.flat) .nil), by simp [csW]⟩
  | .conj c d, v, h => let ⟨a, y, z, e, x, p, q⟩ := h; ⟨a, _, [[.s "and"], csW c, csW d], e, x, (by show 3 ≤ 4; decide), .cons (leaf_s _) (.cons (.inr (p.flat.le (Nat.succ_le_succ (Nat.le_max_left _ _)))) (.cons (.inr (q.flat.le (Nat.succ_le_succ (Nat.le_max_right _ _)))) .nil)), by simp [csW]⟩
  | .disj c d, v, h => let ⟨a, y, z, e, x, p, q⟩ := h; ⟨a, _, [[.s "or"], csW c, csW d], e, x, (by show 3 ≤ 4; decide), .cons (leaf_s _) (.cons (.inr (p.flat.le (Nat.succ_le_succ (Nat.le_max_left _ _)))) (.cons (.inr (q.flat.le (Nat.succ_le_succ (Nat.le_max_right _ _)))) .nil)), by simp [csW]⟩
theorem TrAt.flat {H : Hp} {ns : List Str} : ∀ {t : Tr Str} {v : V}, TrOk ns t → TrAt H t v → Flat H (trD t + 3) v (trW t)
  | .like, v, _, h => let ⟨a, e, x⟩ := h; ⟨a, _, [[.s "like"]], e, x, (by simp), .cons (leaf_s _) .nil, rfl⟩
  | .up f, v, _, h => let ⟨a, e, x⟩ := h; ⟨a, _, [[.s "up"], [.s f]], e, x, (by simp), .cons (leaf_s _) (.cons (leaf_s _) .nil), rfl⟩
  | .down f, v, _, h => let ⟨a, e, x⟩ := h; ⟨a, _, [[.s "down"], [.s f]], e, x, (by simp), .cons (leaf_s _) (.cons (leaf_s _) .nil), rfl⟩
  | .turn t, v, o, h => let ⟨a, z, e, x, y⟩ := h; by
    have i := TrAt.flat (ns := ns) (t := t) o y
    exact ⟨a, _, [[.s "turn"], trW t], e, x, (by simp), .cons (leaf_s _) (.cons (.inr (i.le (by show trD t + 3 ≤ trD t + 1 + 2; omega))) .nil), by simp [trW]⟩
  | .thn s t, v, o, h => let ⟨a, y, z, e, x, p, q⟩ := h; by
    have i := TrAt.flat (ns := ns) (t := s) o.1 p
    have j := TrAt.flat (ns := ns) (t := t) o.2 q
    exact ⟨a, _, [[.s "then"], trW s, trW t], e, x, (by show 3 ≤ 4; decide), .cons (leaf_s _) (.cons (.inr (i.le (by show trD s + 3 ≤ max (trD s) (trD t) + 1 + 2; omega))) (.cons (.inr (j.le (by show trD t + 3 ≤ max (trD s) (trD t) + 1 + 2; omega))) .nil)), by simp [trW]⟩
  | .pick c s t, v, o, h => let ⟨a, r, y, z, e, x, g, p, q⟩ := h; by
    have i := TrAt.flat (ns := ns) (t := s) o.2.1 p
    have j := TrAt.flat (ns := ns) (t := t) o.2.2 q
    have l := g.flat
    have cd := o.1.2
    exact ⟨a, _, [[.s "pick"], csW c, trW s, trW t], e, x, (by show 4 ≤ 4; decide), .cons (leaf_s _) (.cons (.inr (l.le (by show csD c + 1 ≤ max (trD s) (trD t) + 1 + 2; omega))) (.cons (.inr (i.le (by show trD s + 3 ≤ max (trD s) (trD t) + 1 + 2; omega))) (.cons (.inr (j.le (by show trD t + 3 ≤ max (trD s) (trD t) + 1 + 2; omega))) .nil))), by simp [trW]⟩
section
variable {P : Program} {w : World} {K : PySem.W.Frag} {mg : Str → Option Value} {base : Heap}
def spWords (n : Nat) : Sp := fun vs H Q _ => ∃ (v : V) (ws : List Wd), vs = [v] ∧ Flat H n v ws ∧ ∀ (r : Addr) (us : List V) (H' : Hp), Same H H' → H r = none → H' r = some (.lst us) → Paired (WdAt H') us ws → Q (.ref r) H'
theorem sc_l_words : FnScope ["tree", "words", "part"] ["tree"] (defScope s_l_words) := ⟨rfl, rfl, rfl, by decide +kernel, rfl, by decide +kernel, by decide +kernel⟩
theorem ok_l_words (T : Env K mg) : ∀ n : Nat, n ≤ 7 → FnOk P w K mg base CX0 n T.f_l_words T.fd_l_words ["tree"] (spWords n)
  | 0, _ => by
    have no : ∀ vs H Q E, ¬ spWords 0 vs H Q E := fun vs H Q E h => by
      obtain ⟨_, _, _, h, _⟩ := h
      exact h
    exact ⟨fun vs H Q E h => absurd h (no vs H Q E), fun A outer s H args us vs Q E _ _ _ _ h => absurd h (no vs H Q E)⟩
  | n + 1, hn7 => by
    have ih := ok_l_words T n (Nat.le_of_succ_le hn7)
    refine T.l_words.fn.ok sc_l_words (fun vs H Q E h => ?_) (fun cdv A outer s H vs Q E hr h => ?_)
    · obtain ⟨_, _, rfl, _⟩ := h
      rfl
    · obtain ⟨v, ws, rfl, hF, k⟩ := h
      have total := hF.len
      have hpow : 4 ^ (n + 1) ≤ 16384 := Nat.pow_le_pow_right (by decide) hn7
      obtain ⟨a, parts, wss, rfl, ha, hl, hp, rfl⟩ := hF
      refine ⟨_, (pss_cons (ps_set (i := 1) sc_l_words.nd rfl (Or.inl rfl) (pe_lst pa_nil))
        (pss_cons (ps_for PassesOwn.never rfl (pi_list (pv 0)) (pg_name (i := 2) sc_l_words.nd rfl (Or.inl rfl))
        (pss_one (ps_if (pt_val (pe_callB call_isi (by rfl) T.b_isinstance (by decide +kernel) (pa_cons (pv 2) (pa_cons (pe_bltn (v := .ty "list") (by rfl) T.b_list (by decide +kernel) rfl) pa_nil))))
        (pss_one (ps_set (i := 1) sc_l_words.nd rfl (Or.inl rfl) (pe_op op_cat (pv 1) (pe_call ih hr (by rfl) T.l_words.mg T.l_words.fn.kp T.l_words.bd .nil pass0 (pa_cons (pv 2) pa_nil)))))
        (pss_one (ps_expr (pe_bm PySem.F.plainAttrs_list PySem.F.slot_list_append PySem.F.type_list_append mt_append (pv 1) (pa_cons (pv 2) pa_nil)))))))
        (pss_one (ps_ret (pv 1))))), ?_⟩
      refine ⟨sz (by decide : 0 ≤ 1000), fun r0 nr0 => ?_⟩
      have s0 := same_new nr0 (.lst [])
      refine ⟨_, rfl, a, rfl, ⟨_, SqL.of (s0 _ _ ha)⟩, for_list (K := K) (a := a) (xs := parts) (fun i σ G => ∃ (r : Addr) (us : List V) (pt : Option V), σ = [some (.ref a), some (.ref r), pt] ∧ Same H G ∧ H r = none ∧ G r = some (.lst us) ∧ Paired (WdAt G) us (wss.take i).flatten)
        ⟨r0, [], none, rfl, s0, nr0, upd_same, .nil⟩ (fun i σ G _ ⟨_, _, _, _, sG, _⟩ => SqL.of (sG _ _ ha)) ?_ ?_⟩
      · rintro i y σ G hy ⟨r, us, pt, rfl, sG, nr, hr', pu⟩
        obtain ⟨l, hl2, hyl⟩ := paired_get hp hy
        have etake : (wss.take (i + 1)).flatten = (wss.take i).flatten ++ l := by
          rw [take_snoc hl2, List.flatten_append]
          simp
        have tlen : ∀ m, (wss.take m).flatten.length ≤ 16384 := fun m => by
          have h1 : (wss.take m).flatten.length ≤ wss.flatten.length := by
            have e := congrArg (fun z => (List.flatten z).length) (List.take_append_drop m wss)
            simp only [List.flatten_append, List.length_append] at e
            omega
          omega
        rcases hyl with ⟨x, hx, rfl⟩ | hyF
        · -- a word
          have small := tlen i
          have ulen := paired_len pu
          have fin : tDrop (tBM K "list" rAppend (tVar 1) (tCons (tVar 2) tNil)) { nx := fun σ H' => ∃ (r : Addr) (us : List V) (pt : Option V), σ = [some (.ref a), some (.ref r), pt] ∧ Same H H' ∧ H r = none ∧ H' r = some (.lst us) ∧ Paired (WdAt H') us (wss.take (i + 1)).flatten, rt := fun _ _ => False } [some (.ref a), some (.ref r), some y] G := by
            refine ⟨_, rfl, .inl ⟨rfl, _, SqL.of hr'⟩, _, rfl, r, us, y, rfl, rfl, hr', Nat.lt_of_le_of_lt (show us.length ≤ 16384 by omega) (by decide), ?_⟩
            have tk : TupK G (upd G r (.lst (us ++ [y]))) := But.upd.tupL hr'
            refine ⟨r, us ++ [y], _, rfl, fun b o hb => by rw [upd_ne (ne_of_none hb nr)]; exact sG b o hb, nr, upd_same, ?_⟩
            rw [etake]
            exact paired_app (paired_mono (fun _ _ => WdAt.mono tk) pu) (paired_one (WdAt.mono tk (hx.mono (TupK.of sG))))
          cases x with
          | s z =>
            cases (show y = .str z from hx)
            refine ⟨_, rfl, _, _, .type "str", .type "list", false, rfl, .ty "list", .base (.str z), kit_ty (by decide +kernel), _, rfl, iteF ?_⟩
            exact fin
          | q z =>
            obtain ⟨b, rfl, hb⟩ := (show FracAt H y z from hx)
            refine ⟨_, rfl, _, _, .type "tuple", .type "list", false, rfl, .ty "list", .base (.tup (sG _ _ hb)), kit_ty (by decide +kernel), _, rfl, iteF ?_⟩
            exact fin
        · -- a part of its own
          cases n with
          | zero => exact hyF.elim
          | succ m =>
            obtain ⟨b, parts2, wss2, rfl, hb, rest2⟩ := id hyF
            refine ⟨_, rfl, _, _, .type "list", .type "list", true, rfl, .ty "list", .base (.lst (sG _ _ hb)), kit_ty (by decide +kernel), _, rfl, iteT ?_⟩
            refine ⟨_, rfl, _, rfl, .ref b, l, rfl, hyF.mono (SeqK.of sG), fun r2 us2 G2 s2 nr2 hr2 pu2 => ?_⟩
            have small := tlen (i + 1)
            rw [etake, List.length_append] at small
            have l1 := paired_len pu
            have l2 := paired_len pu2
            refine ⟨r, r2, us, us2, rfl, rfl, s2 _ _ hr', hr2, Nat.le_trans (show us.length + us2.length ≤ 16384 by omega) (by decide), fun r3 nr3 => ?_⟩
            have s3 := same_new nr3 (.lst (us ++ us2))
            have nr3H : H r3 = none := (sG.trans s2).free nr3
            refine ⟨r3, us ++ us2, _, rfl, (sG.trans s2).trans s3, nr3H, upd_same, ?_⟩
            rw [etake]
            exact paired_app (paired_mono (fun _ _ => WdAt.mono (TupK.of (s2.trans s3))) pu) (paired_mono (fun _ _ => WdAt.mono (TupK.of s3)) pu2)
      · rintro σ G ⟨r, us, pt, rfl, sG, nr, hr', pu⟩
        refine ⟨_, rfl, k r us G sG nr hr' ?_⟩
        rw [List.take_of_length_le (by rw [paired_len hp]; exact Nat.le_refl _)] at pu
        exact pu
end
end K67

set_option Elab.async false
set_option linter.all false
set_option maxRecDepth 100000
set_option maxHeartbeats 4000000
/-! _law_holds, _law_side: the law's own reading of a tree. -/
namespace K67
open PySem PySem.Spec PyProof.Rows L2
/-- book.index(f) -/
def rTI (K : PySem.W.Frag) : V → List V → Hp → VK → Prop := fun x xs H Q => ∃ p, ∃ ys : List Str, ∃ z j, x = .ref p ∧ xs = [.str z] ∧ SqT K H p (ys.map V.str) ∧ ys[j]? = some z ∧ (∀ m, m < j → ys[m]? ≠ some z) ∧ Q (.int (j : Nat)) H
section
variable {K : PySem.W.Frag} {σ : L2.St} {H : Hp} {Q : VK}
theorem rd_fld {i j : Nat} {tf : TE} {f : Str} {tv bv : V} {ns : List Str} {qs : List Fq} (hf : ∀ Q' : VK, Q' (.str f) H → tf σ H Q') (hi : σ[i]? = some (some tv)) (hj : σ[j]? = some (some bv)) (ht : ThingAt H tv qs) (hb : NamesAt H bv ns) (ho : ThOk ns qs) (hm : f ∈ ns)
    (k : ∀ z, FracAt H z (valOf ns qs f) → Q z H) : tOp (rIxT K) (tVar i) (tTM (rTI K) (tVar j) (tCons tf tNil)) σ H Q := by
  obtain ⟨a, vs, rfl, ha, pa⟩ := ht
  obtain ⟨b, ob, rfl, hb', hd⟩ := hb
  obtain ⟨z, hz, fz⟩ := thing_at pa ho hm
  have h := ix_spec hm
  refine ⟨_, hi, _, hj, ⟨b, ob, _, rfl, hb', hd⟩, ?_⟩
  refine hf _ ⟨b, ns, f, ix ns f, rfl, rfl, names_sq hb', h.1, h.2.1, ?_⟩
  exact ⟨a, vs, _, z, rfl, rfl, SqT.of ha, at1 rfl hz, k z fz⟩
end
/-- [_law_less(part, number), part == number][int(sign == 'is')] -/
def tMarkL (K : PySem.W.Frag) : TE := tOp (rIxL K) (tLst (tCons (tCall spLess [] E0 (tCons (tVar 12) (tCons (tVar 7) tNil))) (tCons (tOp (rEqD K) (tVar 12) (tVar 7)) tNil)))
  (tCB (fun xs H Q => (∃ i, xs = [.int i] ∧ Q (.int i) H) ∨ ∃ k, xs = [.bl k] ∧ Q (.int (if k then 1 else 0)) H) (tCons (tOp rEq (tVar 5) (tC (.str "is"))) tNil))
theorem tMarkL_ok {K : PySem.W.Frag} {σ : L2.St} {H : Hp} {Q : VK} {z n : V} {x q : Fq} {isq : Bool} (h12 : σ[12]? = some (some z)) (h7 : σ[7]? = some (some n)) (h5 : σ[5]? = some (some (.str (if isq then "is" else "under")))) (fz : FracAt H z x) (fn : FracAt H n q) (ox : QOk x) (oq : QOk q)
    (k : ∀ H', Same H H' → Q (.bl (markF isq q x)) H') : tMarkL K σ H Q := by
  refine ⟨_, h12, _, h7, z, n, x, q, rfl, fz, fn, ox, oq, ?_⟩
  refine ⟨z, h12, n, h7, _, _, fz.dp, fn.dp, fracD_shaped _, fracD_shaped _, ?_⟩
  rw [fracD_eqv]
  refine ⟨sz (by decide : 2 ≤ 1000), fun p np => ?_⟩
  have s1 := same_new np (.lst [V.bl (lessF x q), .bl (decide (x = q))])
  cases isq with
  | true => exact ⟨_, h5, rfl, .inr ⟨_, rfl, p, _, _, .bl (decide (x = q)), rfl, rfl, SqL.of upd_same, rfl, k _ s1⟩⟩
  | false => exact ⟨_, h5, rfl, .inr ⟨_, rfl, p, _, 0, .bl (lessF x q), rfl, (by rw [decide_eq_false (by decide +kernel)]; rfl), SqL.of upd_same, rfl, k _ s1⟩⟩
section
variable {P : Program} {w : World} {K : PySem.W.Frag} {mg : Str → Option Value} {base : Heap}
/-- what both read: the book, the two things -/
structure Two (H : Hp) (bv v1 v2 : V) (ns : List Str) (q1 q2 : List Fq) : Prop where
  book : NamesAt H bv ns
  t1 : ThingAt H v1 q1
  t2 : ThingAt H v2 q2
  o1 : ThOk ns q1
  o2 : ThOk ns q2
theorem Two.mono {H H' : Hp} {bv v1 v2 : V} {ns : List Str} {q1 q2 : List Fq} (k : TupK H H') (t : Two H bv v1 v2 ns q1 q2) : Two H' bv v1 v2 ns q1 q2 := ⟨t.book.mono k, t.t1.mono k, t.t2.mono k, t.o1, t.o2⟩
theorem Two.swap {H : Hp} {bv v1 v2 : V} {ns : List Str} {q1 q2 : List Fq} (t : Two H bv v1 v2 ns q1 q2) : Two H bv v2 v1 ns q2 q1 := ⟨t.book, t.t2, t.t1, t.o2, t.o1⟩
def spHolds (n : Nat) : Sp := fun vs H Q _ => ∃ (cv bv v1 v2 : V) (ns : List Str) (q1 q2 : List Fq) (c : Cs Str), vs = [cv, bv, v1, v2] ∧ CsAt H c cv ∧ Two H bv v1 v2 ns q1 q2 ∧ CsOk ns c ∧ csD c ≤ n ∧ ∀ H', Same H H' → Q (.bl (holds c (valOf ns q1) (valOf ns q2))) H'
theorem sc_l_holds : FnScope ["case", "book", "one", "other", "word", "sign", "field", "number", "parts", "marks", "head", "tail", "part"] ["case", "book", "one", "other"] (defScope s_l_holds) := ⟨rfl, rfl, rfl, by decide +kernel, rfl, by decide +kernel, by decide +kernel⟩
theorem ok_l_holds (T : Env K mg) : ∀ n : Nat, FnOk P w K mg base CX0 (1 + n) T.f_l_holds T.fd_l_holds ["case", "book", "one", "other"] (spHolds n)
  | 0 => by
    have no : ∀ vs H Q E, ¬ spHolds 0 vs H Q E := fun vs H Q E h => by
      obtain ⟨_, _, _, _, _, _, _, c, _, _, _, _, hd, _⟩ := h
      have := csD_pos c
      omega
    exact ⟨fun vs H Q E h => absurd h (no vs H Q E), fun A outer s H args us vs Q E _ _ _ _ h => absurd h (no vs H Q E)⟩
  | n + 1 => by
    have ih := ok_l_holds T n
    refine T.l_holds.fn.ok sc_l_holds (fun vs H Q E h => ?_) (fun cdv A outer s H vs Q E hr h => ?_)
    · obtain ⟨_, _, _, _, _, _, _, _, rfl, _⟩ := h
      rfl
    · obtain ⟨cv, bv, v1, v2, ns, q1, q2, c, rfl, hc, hT, ho, hd, k⟩ := h
      have hr : Room (1 + n) _ := hr
      refine ⟨_, (pss_cons (ps_set (i := 4) sc_l_holds.nd rfl (Or.inl rfl) (pe_ix ix_list (pv 0) pe_int (fun _ _ => rfl)))
        (pss_cons (ps_if (pt_cmpR op_eq (pv 4) pe_str (nomark _))
        (pss_one (ps_ret (pe_cmpR (op_eqD hr.units) (pe_ix ix_tup (pv 2) (pe_tm PySem.F.slot_tuple_index PySem.F.type_tuple_index mt_tup_index (pv 1) (pa_cons (pe_ix ix_list (pv 0) pe_int (fun _ _ => rfl)) pa_nil)) (fun _ _ => rfl)) (pe_ix ix_tup (pv 3) (pe_tm PySem.F.slot_tuple_index PySem.F.type_tuple_index mt_tup_index (pv 1) (pa_cons (pe_ix ix_list (pv 0) pe_int (fun _ _ => rfl)) pa_nil)) (fun _ _ => rfl)) (nomark _))))
        pss_nil)
        (pss_cons (ps_if (pt_cmpR op_eq (pv 4) pe_str (nomark _))
        (pss_one (ps_ret (pe_not (pe_call ih hr (by rfl) T.l_holds.mg T.l_holds.fn.kp T.l_holds.bd .nil pass0 (pa_cons (pe_ix ix_list (pv 0) pe_int (fun _ _ => rfl)) (pa_cons (pv 1) (pa_cons (pv 2) (pa_cons (pv 3) pa_nil))))))))
        pss_nil)
        (pss_cons (ps_if (PW.pt (pw_or (pt_cmpR op_eq (pv 4) pe_str (nomark _)) (pw_or1 (pt_cmpR op_eq (pv 4) pe_str (nomark _)))))
        (pss_cons (ps_asg (pe_ix ix_list (pv 0) pe_int (fun _ _ => rfl)) (pg_lst (by rfl) (pgs_cons (pg_name (i := 5) sc_l_holds.nd rfl (Or.inr rfl)) (pgs_cons (pg_name (i := 6) sc_l_holds.nd rfl (Or.inl rfl)) (pgs_cons (pg_name (i := 7) sc_l_holds.nd rfl (Or.inr rfl)) pgs_nil)))))
        (pss_cons (ps_set (i := 8) sc_l_holds.nd rfl (Or.inl rfl) (pe_lst (pa_cons (pe_ix ix_tup (pv 2) (pe_tm PySem.F.slot_tuple_index PySem.F.type_tuple_index mt_tup_index (pv 1) (pa_cons (pv 6) pa_nil)) (fun _ _ => rfl)) (pa_cons (pe_ix ix_tup (pv 3) (pe_tm PySem.F.slot_tuple_index PySem.F.type_tuple_index mt_tup_index (pv 1) (pa_cons (pv 6) pa_nil)) (fun _ _ => rfl)) pa_nil))))
        (pss_cons (ps_setLc (i := 9) (own := [("part", 12)]) (g := gName 12) (tt := tYes) (te := tMarkL K) rfl sc_l_holds.nd rfl rfl (sw_true rfl rfl rfl (by decide +kernel)) (pi_list (pv 8)) (blkOk_by (own := [("part", 12)]) (N := ["case", "book", "one", "other", "word", "sign", "field", "number", "parts", "marks", "head", "tail", "part"]) (sc := defScope s_l_holds) (by decide +kernel)) (fun _ _ _ _ _ => pg_name (i := 12) sc_l_holds.nd rfl (Or.inl rfl)) (fun _ _ _ _ _ => pts_nil) (fun _ _ _ _ _ => (pe_ix ix_list (pe_lst (pa_cons (pe_call (ok_l_less T) (hr.mono (by omega)) (by rfl) T.l_less.mg T.l_less.fn.kp T.l_less.bd .nil pass0 (pa_cons (pv 12) (pa_cons (pv 7) pa_nil))) (pa_cons (pe_cmpR (op_eqD hr.units) (pv 12) (pv 7) (nomark _)) pa_nil))) (pe_callTy call_int1 (by rfl) T.b_int (by decide +kernel) (pa_cons (pe_cmpR op_eq (pv 5) pe_str (nomark _)) pa_nil)) (fun _ _ => rfl))))
        (pss_one (ps_ret (pe_ifExp (pt_cmpR op_eq (pv 4) pe_str (nomark _)) (pe_and (pe_ix ix_list (pv 9) pe_int (fun _ _ => rfl)) (pe_one (pe_ix ix_list (pv 9) pe_int (fun _ _ => rfl)))) (pe_or (pe_ix ix_list (pv 9) pe_int (fun _ _ => rfl)) (pe_one (pe_ix ix_list (pv 9) pe_int (fun _ _ => rfl))))))))))
        pss_nil)
        (pss_cons (ps_set (i := 10) sc_l_holds.nd rfl (Or.inl rfl) (pe_call ih hr (by rfl) T.l_holds.mg T.l_holds.fn.kp T.l_holds.bd .nil pass0 (pa_cons (pe_ix ix_list (pv 0) pe_int (fun _ _ => rfl)) (pa_cons (pv 1) (pa_cons (pv 2) (pa_cons (pv 3) pa_nil))))))
        (pss_cons (ps_set (i := 11) sc_l_holds.nd rfl (Or.inl rfl) (pe_call ih hr (by rfl) T.l_holds.mg T.l_holds.fn.kp T.l_holds.bd .nil pass0 (pa_cons (pe_ix ix_list (pv 0) pe_int (fun _ _ => rfl)) (pa_cons (pv 1) (pa_cons (pv 2) (pa_cons (pv 3) pa_nil))))))
        (pss_one (ps_ret (pe_ifExp (pt_cmpR op_eq (pv 4) pe_str (nomark _)) (pe_and (pv 10) (pe_one (pv 11))) (pe_or (pv 10) (pe_one (pv 11)))))))))))), ?_⟩
      -- the marks
      have marks : ∀ (a : Addr) (z : V) (b : Bool) (f : Str) (q : Fq) (x : Str) (r : Bool → Bool → Bool), cv = .ref a → H a = some (.lst [.str x, z]) → MkAt H z b f q → f ∈ ns → QOk q →
          (∀ H', Same H H' → Q (.bl (r (markF b q (valOf ns q1 f)) (markF b q (valOf ns q2 f)))) H') →
          (∀ (m1 m2 : Bool) (D : Addr) (G : Hp) (σ : L2.St), σ[4]? = some (some (.str x)) → σ[9]? = some (some (.ref D)) → G D = some (.lst [.bl m1, .bl m2]) → Q (.bl (r m1 m2)) G →
            tRet (tIf (tTest (tOp rEq (tVar 4) (tC (.str "both")))) (tAndV (tOp (rIxL K) (tVar 9) (tC (.int 0))) (tOp (rIxL K) (tVar 9) (tC (.int 1)))) (tOrV (tOp (rIxL K) (tVar 9) (tC (.int 0))) (tOp (rIxL K) (tVar 9) (tC (.int 1))))) { nx := fun _ H' => Q .non H', rt := Q } σ G) →
          tSeq (tAsg (tOp (rIxL K) (tVar 0) (tC (.int 1))) (gLst K 3 (gCons (gName 5) (gCons (gName 6) (gCons (gName 7) gNil)))))
            (tSeq (tAsg (tLst (tCons (tOp (rIxT K) (tVar 2) (tTM (rTI K) (tVar 1) (tCons (tVar 6) tNil))) (tCons (tOp (rIxT K) (tVar 3) (tTM (rTI K) (tVar 1) (tCons (tVar 6) tNil))) tNil))) (gName 8))
            (tSeq (tAsg (tLc (iList K (tVar 8)) (gName 12) tYes (tMarkL K) [12]) (gName 9))
              (tRet (tIf (tTest (tOp rEq (tVar 4) (tC (.str "both")))) (tAndV (tOp (rIxL K) (tVar 9) (tC (.int 0))) (tOp (rIxL K) (tVar 9) (tC (.int 1)))) (tOrV (tOp (rIxL K) (tVar 9) (tC (.int 0))) (tOp (rIxL K) (tVar 9) (tC (.int 1))))))))
            { nx := fun _ H' => Q .non H', rt := Q } [some cv, some bv, some v1, some v2, some (.str x), none, none, none, none, none, none, none, none] H := by
        intro a z b f q x r ea ha hz hf hq kr kend
        subst ea
        obtain ⟨m, y, rfl, hm, fy⟩ := hz
        refine ⟨_, rfl, a, _, _, _, rfl, rfl, SqL.of ha, rfl, m, _, rfl, SqL.of hm, rfl, ?_⟩
        refine ⟨_, _, rfl, ?_⟩
        refine ⟨_, _, rfl, ?_⟩
        refine ⟨_, _, rfl, ?_⟩
        refine ⟨rfl, ?_⟩
        -- parts
        refine rd_fld (fun Q' q' => ⟨_, rfl, q'⟩) rfl rfl hT.t1 hT.book hT.o1 hf fun z1 f1 => ?_
        refine rd_fld (fun Q' q' => ⟨_, rfl, q'⟩) rfl rfl hT.t2 hT.book hT.o2 hf fun z2 f2 => ?_
        refine ⟨sz (by decide : 2 ≤ 1000), fun p np => ?_⟩
        have s1 := same_new np (.lst [z1, z2])
        refine ⟨_, rfl, p, rfl, ⟨_, SqL.of upd_same⟩, fun D hD => ?_⟩
        have pD : p ≠ D := fun e => by
          rw [← e, upd_same] at hD
          cases hD
        have HD : H D = none := s1.free hD
        refine lc_list (K := K) (a := p) (xs := [z1, z2]) (fun i G => ∃ acc, G D = some (.lst acc) ∧ acc = [V.bl (markF b q (valOf ns q1 f)), V.bl (markF b q (valOf ns q2 f))].take i ∧ ∀ b o, b ≠ D → upd H p (.lst [z1, z2]) b = some o → G b = some o)
          ⟨[], upd_same, rfl, fun b o hb hh => by rw [upd_ne hb]; exact hh⟩ (fun i G _ ⟨_, _, _, kk⟩ => SqL.of (kk _ _ pD upd_same)) ?_ ?_
        · rintro i x' G hx ⟨acc, ha', rfl, kk⟩
          have sG : Same H G := fun b o hh => kk b o (ne_of_none hh HD) (s1 b o hh)
          have step : ∀ (z : V) (G2 : Hp), Same G G2 → [V.bl (markF b q (valOf ns q1 f)), V.bl (markF b q (valOf ns q2 f))].take i ++ [z] = [V.bl (markF b q (valOf ns q1 f)), V.bl (markF b q (valOf ns q2 f))].take (i + 1) → ∃ acc, G2 D = some (.lst acc) ∧ acc.length < sizeLine ∧
              ∃ acc2, (upd G2 D (.lst (acc ++ [z]))) D = some (.lst acc2) ∧ acc2 = [V.bl (markF b q (valOf ns q1 f)), V.bl (markF b q (valOf ns q2 f))].take (i + 1) ∧ ∀ b o, b ≠ D → upd H p (.lst [z1, z2]) b = some o → (upd G2 D (.lst (acc ++ [z]))) b = some o := fun z G2 s2 ez =>
            ⟨_, s2 _ _ ha', sz' (by rw [List.length_take]; show min i 2 ≤ 1000; omega), _, upd_same, ez, fun b o hb hh => by rw [upd_ne hb]; exact s2 _ _ (kk b o hb hh)⟩
          match i, hx with
          | 0, hx =>
            cases (Option.some.inj hx : z1 = x')
            exact ⟨rfl, tMarkL_ok (isq := b) rfl rfl rfl (f1.mono (TupK.of sG)) (fy.mono (TupK.of sG)) (hT.o1.at hf) hq fun G2 s2 => step _ G2 s2 rfl⟩
          | 1, hx =>
            cases (Option.some.inj hx : z2 = x')
            exact ⟨rfl, tMarkL_ok (isq := b) rfl rfl rfl (f2.mono (TupK.of sG)) (fy.mono (TupK.of sG)) (hT.o2.at hf) hq fun G2 s2 => step _ G2 s2 rfl⟩
          | i + 2, hx => simp at hx
        · rintro G ⟨acc, ha', rfl, kk⟩
          have sG : Same H G := fun b o hh => kk b o (ne_of_none hh HD) (s1 b o hh)
          exact kend _ _ D G _ rfl rfl ha' (kr G sG)
      -- one case behind the other
      have two : ∀ (a : Addr) (y z : V) (c1 c2 : Cs Str) (x : Str) (r : Bool → Bool → Bool), cv = .ref a → H a = some (.lst [.str x, y, z]) → CsAt H c1 y → CsAt H c2 z → CsOk ns c1 → CsOk ns c2 → csD c1 ≤ n → csD c2 ≤ n →
          (∀ H', Same H H' → Q (.bl (r (holds c1 (valOf ns q1) (valOf ns q2)) (holds c2 (valOf ns q1) (valOf ns q2)))) H') →
          (∀ (m1 m2 : Bool) (G : Hp) (σ : L2.St), σ[4]? = some (some (.str x)) → σ[10]? = some (some (.bl m1)) → σ[11]? = some (some (.bl m2)) → Q (.bl (r m1 m2)) G →
            tRet (tIf (tTest (tOp rEq (tVar 4) (tC (.str "and")))) (tAndV (tVar 10) (tVar 11)) (tOrV (tVar 10) (tVar 11))) { nx := fun _ H' => Q .non H', rt := Q } σ G) →
          tSeq (tAsg (tCall (spHolds n) [] E0 (tCons (tOp (rIxL K) (tVar 0) (tC (.int 1))) (tCons (tVar 1) (tCons (tVar 2) (tCons (tVar 3) tNil))))) (gName 10))
            (tSeq (tAsg (tCall (spHolds n) [] E0 (tCons (tOp (rIxL K) (tVar 0) (tC (.int 2))) (tCons (tVar 1) (tCons (tVar 2) (tCons (tVar 3) tNil))))) (gName 11))
            (tRet (tIf (tTest (tOp rEq (tVar 4) (tC (.str "and")))) (tAndV (tVar 10) (tVar 11)) (tOrV (tVar 10) (tVar 11)))))
            { nx := fun _ H' => Q .non H', rt := Q } [some cv, some bv, some v1, some v2, some (.str x), none, none, none, none, none, none, none, none] H := by
        intro a y z c1 c2 x r ea ha h1 h2 o1 o2 d1 d2 kr kend
        subst ea
        refine ⟨_, rfl, a, _, _, y, rfl, rfl, SqL.of ha, rfl, _, rfl, _, rfl, _, rfl, y, bv, v1, v2, ns, q1, q2, c1, rfl, h1, hT, o1, d1, fun H1 s1 => ?_⟩
        refine ⟨_, rfl, a, _, _, z, rfl, rfl, SqL.of (s1 _ _ ha), rfl, _, rfl, _, rfl, _, rfl, z, bv, v1, v2, ns, q1, q2, c2, rfl, h2.mono (SeqK.of s1), hT.mono (TupK.of s1), o2, d2, fun H2 s2 => ?_⟩
        exact kend _ _ H2 _ rfl rfl rfl (kr H2 (s1.trans s2))
      cases c with
      | same f =>
        obtain ⟨a, rfl, ha⟩ := hc
        refine ⟨_, rfl, a, _, 0, _, rfl, rfl, SqL.of ha, rfl, ?_⟩
        refine ⟨_, rfl, rfl, _, rfl, ifT rfl ?_⟩
        refine rd_fld (fun Q' q' => ⟨_, rfl, a, _, 1, _, rfl, rfl, SqL.of ha, rfl, q'⟩) rfl rfl hT.t1 hT.book hT.o1 ho fun z1 f1 => ?_
        refine rd_fld (fun Q' q' => ⟨_, rfl, a, _, 1, _, rfl, rfl, SqL.of ha, rfl, q'⟩) rfl rfl hT.t2 hT.book hT.o2 ho fun z2 f2 => ?_
        refine ⟨_, _, f1.dp, f2.dp, fracD_shaped _, fracD_shaped _, ?_⟩
        rw [fracD_eqv]
        exact k H (Same.refl H)
      | no c =>
        obtain ⟨a, z, rfl, ha, hz⟩ := hc
        refine ⟨_, rfl, a, _, 0, _, rfl, rfl, SqL.of ha, rfl, ?_⟩
        refine ⟨_, rfl, rfl, _, rfl, ifF (by decide +kernel) ?_⟩
        refine ⟨_, rfl, rfl, _, rfl, ifT rfl ?_⟩
        refine ⟨_, rfl, a, _, _, z, rfl, rfl, SqL.of ha, rfl, _, rfl, _, rfl, _, rfl, z, bv, v1, v2, ns, q1, q2, c, rfl, hz, hT, ho, Nat.le_of_succ_le_succ hd, fun H1 s1 => ?_⟩
        exact ⟨_, rfl, k H1 s1⟩
      | both b f q =>
        obtain ⟨a, z, rfl, ha, hz⟩ := hc
        refine ⟨_, rfl, a, _, 0, _, rfl, rfl, SqL.of ha, rfl, ?_⟩
        refine ⟨_, rfl, rfl, _, rfl, ifF (by decide +kernel) ?_⟩
        refine ⟨_, rfl, rfl, _, rfl, ifF (by decide +kernel) ?_⟩
        refine ⟨_, rfl, rfl, _, rfl, ifT rfl ?_⟩
        refine iteT ?_
        refine marks a z b f q "both" (fun x y => x && y) rfl ha hz ho.1 ho.2 k fun m1 m2 D G σ h4 h9 hG hQ => ?_
        refine ⟨_, h4, rfl, _, rfl, ifT rfl ?_⟩
        refine ⟨_, h9, D, _, 0, .bl m1, rfl, rfl, SqL.of hG, rfl, m1, rfl, ?_⟩
        cases m1 with
        | true => exact iteT ⟨_, h9, D, _, 1, .bl m2, rfl, rfl, SqL.of hG, rfl, hQ⟩
        | false => exact iteF hQ
      | either b f q =>
        obtain ⟨a, z, rfl, ha, hz⟩ := hc
        refine ⟨_, rfl, a, _, 0, _, rfl, rfl, SqL.of ha, rfl, ?_⟩
        refine ⟨_, rfl, rfl, _, rfl, ifF (by decide +kernel) ?_⟩
        refine ⟨_, rfl, rfl, _, rfl, ifF (by decide +kernel) ?_⟩
        refine ⟨_, rfl, rfl, _, rfl, ifF (by decide +kernel) ?_⟩
        refine ⟨_, rfl, rfl, _, rfl, ifT rfl ?_⟩
        refine marks a z b f q "either" (fun x y => x || y) rfl ha hz ho.1 ho.2 k fun m1 m2 D G σ h4 h9 hG hQ => ?_
        refine ⟨_, h4, rfl, _, rfl, ifF (by decide +kernel) ?_⟩
        refine ⟨_, h9, D, _, 0, .bl m1, rfl, rfl, SqL.of hG, rfl, m1, rfl, ?_⟩
        cases m1 with
        | true => exact iteT hQ
        | false => exact iteF ⟨_, h9, D, _, 1, .bl m2, rfl, rfl, SqL.of hG, rfl, hQ⟩
      | conj c d =>
        obtain ⟨a, y, z, rfl, ha, hy, hz⟩ := hc
        have hm : max (csD c) (csD d) + 1 ≤ n + 1 := hd
        refine ⟨_, rfl, a, _, 0, _, rfl, rfl, SqL.of ha, rfl, ?_⟩
        refine ⟨_, rfl, rfl, _, rfl, ifF (by decide +kernel) ?_⟩
        refine ⟨_, rfl, rfl, _, rfl, ifF (by decide +kernel) ?_⟩
        refine ⟨_, rfl, rfl, _, rfl, ifF (by decide +kernel) ?_⟩
        refine ⟨_, rfl, rfl, _, rfl, ifF (by decide +kernel) ?_⟩
        refine two a y z c d "and" (fun x y => x && y) rfl ha hy hz ho.1 ho.2 (by omega) (by omega) k fun m1 m2 G σ h4 h10 h11 hQ => ?_
        refine ⟨_, h4, rfl, _, rfl, ifT rfl ?_⟩
        refine ⟨_, h10, m1, rfl, ?_⟩
        cases m1 with
        | true => exact iteT ⟨_, h11, hQ⟩
        | false => exact iteF hQ
      | disj c d =>
        obtain ⟨a, y, z, rfl, ha, hy, hz⟩ := hc
        have hm : max (csD c) (csD d) + 1 ≤ n + 1 := hd
        refine ⟨_, rfl, a, _, 0, _, rfl, rfl, SqL.of ha, rfl, ?_⟩
        refine ⟨_, rfl, rfl, _, rfl, ifF (by decide +kernel) ?_⟩
        refine ⟨_, rfl, rfl, _, rfl, ifF (by decide +kernel) ?_⟩
        refine ⟨_, rfl, rfl, _, rfl, ifF (by decide +kernel) ?_⟩
        refine ⟨_, rfl, rfl, _, rfl, ifF (by decide +kernel) ?_⟩
        refine two a y z c d "or" (fun x y => x || y) rfl ha hy hz ho.1 ho.2 (by omega) (by omega) k fun m1 m2 G σ h4 h10 h11 hQ => ?_
        refine ⟨_, h4, rfl, _, rfl, ifF (by decide +kernel) ?_⟩
        refine ⟨_, h10, m1, rfl, ?_⟩
        cases m1 with
        | true => exact iteT hQ
        | false => exact iteF ⟨_, h11, hQ⟩
/-! ### _law_side -/
theorem less_cmp (x y : Fq) : (if lessF y x = true then (1 : Int) else 0) - (if lessF x y = true then 1 else 0) = cmpF x y := by
  unfold lessF cmpF
  by_cases h : y.1 * x.2 < x.1 * y.2
  · rw [if_pos h, decide_eq_true h, decide_eq_false (by omega)]
    rfl
  · rw [if_neg h, decide_eq_false h]
    by_cases h2 : x.1 * y.2 < y.1 * x.2
    · rw [if_pos h2, decide_eq_true h2]
      rfl
    · rw [if_neg h2, decide_eq_false h2]
      rfl
def spSideL (n : Nat) : Sp := fun vs H Q _ => ∃ (tv bv v1 v2 : V) (ns : List Str) (q1 q2 : List Fq) (t : Tr Str), vs = [tv, bv, v1, v2] ∧ TrAt H t tv ∧ Two H bv v1 v2 ns q1 q2 ∧ TrOk ns t ∧ trD t ≤ n ∧ ∀ H', Same H H' → Q (.int (side t (valOf ns q1) (valOf ns q2))) H'
theorem sc_l_side : FnScope ["tree", "book", "one", "other", "word", "side", "head", "tail"] ["tree", "book", "one", "other"] (defScope s_l_side) := ⟨rfl, rfl, rfl, by decide +kernel, rfl, by decide +kernel, by decide +kernel⟩
theorem ok_l_side (T : Env K mg) : ∀ n : Nat, FnOk P w K mg base CX0 (3 + n) T.f_l_side T.fd_l_side ["tree", "book", "one", "other"] (spSideL n)
  | 0 => by
    have no : ∀ vs H Q E, ¬ spSideL 0 vs H Q E := fun vs H Q E h => by
      obtain ⟨_, _, _, _, _, _, _, t, _, _, _, _, hd, _⟩ := h
      have := trD_pos t
      omega
    exact ⟨fun vs H Q E h => absurd h (no vs H Q E), fun A outer s H args us vs Q E _ _ _ _ h => absurd h (no vs H Q E)⟩
  | n + 1 => by
    have ih := ok_l_side T n
    refine T.l_side.fn.ok sc_l_side (fun vs H Q E h => ?_) (fun cdv A outer s H vs Q E hr h => ?_)
    · obtain ⟨_, _, _, _, _, _, _, _, rfl, _⟩ := h
      rfl
    · obtain ⟨tv, bv, v1, v2, ns, q1, q2, t, rfl, ht, hT, ho, hd, k⟩ := h
      have hr : Room (3 + n) _ := hr
      refine ⟨_, (pss_cons (ps_set (i := 4) sc_l_side.nd rfl (Or.inl rfl) (pe_ix ix_list (pv 0) pe_int (fun _ _ => rfl)))
        (pss_cons (ps_if (pt_cmpR op_eq (pv 4) pe_str (nomark _))
        (pss_one (ps_ret pe_int))
        pss_nil)
        (pss_cons (ps_if (pt_cmpR op_eq (pv 4) pe_str (nomark _))
        (pss_one (ps_ret (pe_call ih hr (by rfl) T.l_side.mg T.l_side.fn.kp T.l_side.bd .nil pass0 (pa_cons (pe_ix ix_list (pv 0) pe_int (fun _ _ => rfl)) (pa_cons (pv 1) (pa_cons (pv 3) (pa_cons (pv 2) pa_nil)))))))
        pss_nil)
        (pss_cons (ps_if (pt_cmpR op_eq (pv 4) pe_str (nomark _))
        (pss_cons (ps_set (i := 5) sc_l_side.nd rfl (Or.inl rfl) (pe_call ih hr (by rfl) T.l_side.mg T.l_side.fn.kp T.l_side.bd .nil pass0 (pa_cons (pe_ix ix_list (pv 0) pe_int (fun _ _ => rfl)) (pa_cons (pv 1) (pa_cons (pv 2) (pa_cons (pv 3) pa_nil))))))
        (pss_one (ps_ret (pe_ifExp (pt_cmpR op_ne (pv 5) pe_int (nomark _)) (pv 5) (pe_call ih hr (by rfl) T.l_side.mg T.l_side.fn.kp T.l_side.bd .nil pass0 (pa_cons (pe_ix ix_list (pv 0) pe_int (fun _ _ => rfl)) (pa_cons (pv 1) (pa_cons (pv 2) (pa_cons (pv 3) pa_nil)))))))))
        pss_nil)
        (pss_cons (ps_if (pt_cmpR op_eq (pv 4) pe_str (nomark _))
        (pss_one (ps_ret (pe_call ih hr (by rfl) T.l_side.mg T.l_side.fn.kp T.l_side.bd .nil pass0 (pa_cons (pe_ix ix_list (pv 0) (pe_op op_add pe_int (pe_callTy call_int1 (by rfl) T.b_int (by decide +kernel) (pa_cons (pe_not (pe_call (ok_l_holds T 2) (hr.mono (by omega)) (by rfl) T.l_holds.mg T.l_holds.fn.kp T.l_holds.bd .nil pass0 (pa_cons (pe_ix ix_list (pv 0) pe_int (fun _ _ => rfl)) (pa_cons (pv 1) (pa_cons (pv 2) (pa_cons (pv 3) pa_nil)))))) pa_nil))) (fun _ _ => rfl)) (pa_cons (pv 1) (pa_cons (pv 2) (pa_cons (pv 3) pa_nil)))))))
        pss_nil)
        (pss_cons (ps_set (i := 6) sc_l_side.nd rfl (Or.inl rfl) (pe_ix ix_tup (pv 2) (pe_tm PySem.F.slot_tuple_index PySem.F.type_tuple_index mt_tup_index (pv 1) (pa_cons (pe_ix ix_list (pv 0) pe_int (fun _ _ => rfl)) pa_nil)) (fun _ _ => rfl)))
        (pss_cons (ps_set (i := 7) sc_l_side.nd rfl (Or.inl rfl) (pe_ix ix_tup (pv 3) (pe_tm PySem.F.slot_tuple_index PySem.F.type_tuple_index mt_tup_index (pv 1) (pa_cons (pe_ix ix_list (pv 0) pe_int (fun _ _ => rfl)) pa_nil)) (fun _ _ => rfl)))
        (pss_cons (ps_set (i := 5) sc_l_side.nd rfl (Or.inl rfl) (pe_op op_sub (pe_callTy call_int1 (by rfl) T.b_int (by decide +kernel) (pa_cons (pe_call (ok_l_less T) (hr.mono (by omega)) (by rfl) T.l_less.mg T.l_less.fn.kp T.l_less.bd .nil pass0 (pa_cons (pv 7) (pa_cons (pv 6) pa_nil))) pa_nil)) (pe_callTy call_int1 (by rfl) T.b_int (by decide +kernel) (pa_cons (pe_call (ok_l_less T) (hr.mono (by omega)) (by rfl) T.l_less.mg T.l_less.fn.kp T.l_less.bd .nil pass0 (pa_cons (pv 6) (pa_cons (pv 7) pa_nil))) pa_nil))))
        (pss_one (ps_ret (pe_op op_mul (pv 5) (pe_ix ix_list (pe_lst (pa_cons pe_int (pa_cons (pe_un un_neg pe_int) pa_nil))) (pe_callTy call_int1 (by rfl) T.b_int (by decide +kernel) (pa_cons (pe_cmpR op_eq (pv 4) pe_str (nomark _)) pa_nil)) (fun _ _ => rfl))))))))))))), ?_⟩
      -- up and down
      have fields : ∀ (a : Addr) (f : Str) (up : Bool), tv = .ref a → H a = some (.lst [.str (if up then "up" else "down"), .str f]) → f ∈ ns →
          (∀ H', Same H H' → Q (.int (if up then cmpF (valOf ns q1 f) (valOf ns q2 f) else -cmpF (valOf ns q1 f) (valOf ns q2 f))) H') →
          tSeq (tAsg (tOp (rIxT K) (tVar 2) (tTM (rTI K) (tVar 1) (tCons (tOp (rIxL K) (tVar 0) (tC (.int 1))) tNil))) (gName 6))
            (tSeq (tAsg (tOp (rIxT K) (tVar 3) (tTM (rTI K) (tVar 1) (tCons (tOp (rIxL K) (tVar 0) (tC (.int 1))) tNil))) (gName 7))
            (tSeq (tAsg (tOp (rI0 fun i j => .int (i - j)) (tCB (fun xs H Q => (∃ i, xs = [.int i] ∧ Q (.int i) H) ∨ ∃ k, xs = [.bl k] ∧ Q (.int (if k then 1 else 0)) H) (tCons (tCall spLess [] E0 (tCons (tVar 7) (tCons (tVar 6) tNil))) tNil))
              (tCB (fun xs H Q => (∃ i, xs = [.int i] ∧ Q (.int i) H) ∨ ∃ k, xs = [.bl k] ∧ Q (.int (if k then 1 else 0)) H) (tCons (tCall spLess [] E0 (tCons (tVar 6) (tCons (tVar 7) tNil))) tNil))) (gName 5))
            (tRet (tOp (rI CMul fun i j => .int (i * j)) (tVar 5) (tOp (rIxL K) (tLst (tCons (tC (.int 1)) (tCons (tUn (rU fun i => .int (-i)) (tC (.int 1))) tNil))) (tCB (fun xs H Q => (∃ i, xs = [.int i] ∧ Q (.int i) H) ∨ ∃ k, xs = [.bl k] ∧ Q (.int (if k then 1 else 0)) H) (tCons (tOp rEq (tVar 4) (tC (.str "down"))) tNil)))))))
            { nx := fun _ H' => Q .non H', rt := Q } [some tv, some bv, some v1, some v2, some (.str (if up then "up" else "down")), none, none, none] H := by
        intro a f up ea ha hf kk
        subst ea
        refine rd_fld (fun Q' q' => ⟨_, rfl, a, _, 1, _, rfl, rfl, SqL.of ha, rfl, q'⟩) rfl rfl hT.t1 hT.book hT.o1 hf fun z1 f1 => ?_
        refine rd_fld (fun Q' q' => ⟨_, rfl, a, _, 1, _, rfl, rfl, SqL.of ha, rfl, q'⟩) rfl rfl hT.t2 hT.book hT.o2 hf fun z2 f2 => ?_
        have o1 := hT.o1.at hf
        have o2 := hT.o2.at hf
        refine ⟨_, rfl, _, rfl, z2, z1, _, _, rfl, f2, f1, o2, o1, .inr ⟨_, rfl, ?_⟩⟩
        refine ⟨_, rfl, _, rfl, z1, z2, _, _, rfl, f1, f2, o1, o2, .inr ⟨_, rfl, ?_⟩⟩
        have fin : ∀ c : Int, c = cmpF (valOf ns q1 f) (valOf ns q2 f) → tRet (tOp (rI CMul fun i j => .int (i * j)) (tVar 5) (tOp (rIxL K) (tLst (tCons (tC (.int 1)) (tCons (tUn (rU fun i => .int (-i)) (tC (.int 1))) tNil))) (tCB (fun xs H Q => (∃ i, xs = [.int i] ∧ Q (.int i) H) ∨ ∃ k, xs = [.bl k] ∧ Q (.int (if k then 1 else 0)) H) (tCons (tOp rEq (tVar 4) (tC (.str "down"))) tNil))))
            { nx := fun _ H' => Q .non H', rt := Q } [some (V.ref a), some bv, some v1, some v2, some (.str (if up then "up" else "down")), some (.int c), some z1, some z2] H := by
          intro c ec
          refine ⟨_, rfl, _, rfl, sz (by decide : 2 ≤ 1000), fun p np => ?_⟩
          have s1 := same_new np (.lst [V.int 1, .int (-1)])
          have last := kk _ s1
          have rg := cmpF_range (valOf ns q1 f) (valOf ns q2 f)
          rw [← ec] at last rg
          cases up with
          | true =>
            refine ⟨_, rfl, rfl, .inr ⟨_, rfl, p, _, 0, .int 1, rfl, (by rw [decide_eq_false (by decide +kernel)]; rfl), SqL.of upd_same, rfl, _, _, rfl, rfl, .inl ⟨by omega, by omega⟩, ?_⟩⟩
            have e1 : c * 1 = c := by omega
            have l2 : Q (V.int c) (upd H p (.lst [V.int 1, .int (-1)])) := last
            refine (?_ : Q (V.int (c * 1)) (upd H p (.lst [V.int 1, .int (-1)])))
            rw [e1]
            exact l2
          | false =>
            refine ⟨_, rfl, rfl, .inr ⟨_, rfl, p, _, 1, .int (-1), rfl, rfl, SqL.of upd_same, rfl, _, _, rfl, rfl, .inl ⟨by omega, by omega⟩, ?_⟩⟩
            have e1 : c * (-1) = -c := by omega
            have l2 : Q (V.int (-c)) (upd H p (.lst [V.int 1, .int (-1)])) := last
            refine (?_ : Q (V.int (c * (-1))) (upd H p (.lst [V.int 1, .int (-1)])))
            rw [e1]
            exact l2
        have fin2 := fin _ (less_cmp (valOf ns q1 f) (valOf ns q2 f))
        exact ⟨_, _, rfl, rfl, fin2⟩
      cases t with
      | like =>
        obtain ⟨a, rfl, ha⟩ := ht
        refine ⟨_, rfl, a, _, 0, _, rfl, rfl, SqL.of ha, rfl, ?_⟩
        exact ⟨_, rfl, rfl, _, rfl, ifT rfl (k H (Same.refl H))⟩
      | up f =>
        obtain ⟨a, rfl, ha⟩ := ht
        refine ⟨_, rfl, a, _, 0, _, rfl, rfl, SqL.of ha, rfl, ?_⟩
        refine ⟨_, rfl, rfl, _, rfl, ifF (by decide +kernel) ?_⟩
        refine ⟨_, rfl, rfl, _, rfl, ifF (by decide +kernel) ?_⟩
        refine ⟨_, rfl, rfl, _, rfl, ifF (by decide +kernel) ?_⟩
        refine ⟨_, rfl, rfl, _, rfl, ifF (by decide +kernel) ?_⟩
        exact fields a f true rfl ha ho k
      | down f =>
        obtain ⟨a, rfl, ha⟩ := ht
        refine ⟨_, rfl, a, _, 0, _, rfl, rfl, SqL.of ha, rfl, ?_⟩
        refine ⟨_, rfl, rfl, _, rfl, ifF (by decide +kernel) ?_⟩
        refine ⟨_, rfl, rfl, _, rfl, ifF (by decide +kernel) ?_⟩
        refine ⟨_, rfl, rfl, _, rfl, ifF (by decide +kernel) ?_⟩
        refine ⟨_, rfl, rfl, _, rfl, ifF (by decide +kernel) ?_⟩
        exact fields a f false rfl ha ho k
      | turn t =>
        obtain ⟨a, z, rfl, ha, hz⟩ := ht
        refine ⟨_, rfl, a, _, 0, _, rfl, rfl, SqL.of ha, rfl, ?_⟩
        refine ⟨_, rfl, rfl, _, rfl, ifF (by decide +kernel) ?_⟩
        refine ⟨_, rfl, rfl, _, rfl, ifT rfl ?_⟩
        refine ⟨_, rfl, a, _, 1, z, rfl, rfl, SqL.of ha, rfl, _, rfl, _, rfl, _, rfl, z, bv, v2, v1, ns, q2, q1, t, rfl, hz, hT.swap, ho, Nat.le_of_succ_le_succ hd, fun H1 s1 => ?_⟩
        exact k H1 s1
      | thn s t =>
        obtain ⟨a, y, z, rfl, ha, hy, hz⟩ := ht
        have hm : max (trD s) (trD t) + 1 ≤ n + 1 := hd
        refine ⟨_, rfl, a, _, 0, _, rfl, rfl, SqL.of ha, rfl, ?_⟩
        refine ⟨_, rfl, rfl, _, rfl, ifF (by decide +kernel) ?_⟩
        refine ⟨_, rfl, rfl, _, rfl, ifF (by decide +kernel) ?_⟩
        refine ⟨_, rfl, rfl, _, rfl, ifT rfl ?_⟩
        refine ⟨_, rfl, a, _, 1, y, rfl, rfl, SqL.of ha, rfl, _, rfl, _, rfl, _, rfl, y, bv, v1, v2, ns, q1, q2, s, rfl, hy, hT, ho.1, by omega, fun H1 s1 => ?_⟩
        refine ⟨_, rfl, rfl, _, rfl, ?_⟩
        have last := k
        rw [side_thn] at last
        by_cases e : side s (valOf ns q1) (valOf ns q2) = 0
        · rw [if_pos e] at last
          rw [e]
          refine iteF ?_
          refine ⟨_, rfl, a, _, 2, z, rfl, rfl, SqL.of (s1 _ _ ha), rfl, _, rfl, _, rfl, _, rfl, z, bv, v1, v2, ns, q1, q2, t, rfl, hz.mono (SeqK.of s1), hT.mono (TupK.of s1), ho.2, by omega, fun H2 s2 => ?_⟩
          exact last H2 (s1.trans s2)
        · rw [if_neg e] at last
          rw [decide_eq_false (fun y => e (V.int.inj y))]
          exact iteT ⟨_, rfl, last H1 s1⟩
      | pick c s t =>
        obtain ⟨a, x, y, z, rfl, ha, hx, hy, hz⟩ := ht
        have hm : max (trD s) (trD t) + 1 ≤ n + 1 := hd
        refine ⟨_, rfl, a, _, 0, _, rfl, rfl, SqL.of ha, rfl, ?_⟩
        refine ⟨_, rfl, rfl, _, rfl, ifF (by decide +kernel) ?_⟩
        refine ⟨_, rfl, rfl, _, rfl, ifF (by decide +kernel) ?_⟩
        refine ⟨_, rfl, rfl, _, rfl, ifF (by decide +kernel) ?_⟩
        refine ⟨_, rfl, rfl, _, rfl, ifT rfl ?_⟩
        refine ⟨_, rfl, _, rfl, a, _, 1, x, rfl, rfl, SqL.of ha, rfl, _, rfl, _, rfl, _, rfl, x, bv, v1, v2, ns, q1, q2, c, rfl, hx, hT, ho.1.1, ho.1.2, fun H1 s1 => ?_⟩
        refine ⟨_, rfl, .inr ⟨_, rfl, _, _, rfl, rfl, ?_⟩⟩
        have es : side (.pick c s t) (valOf ns q1) (valOf ns q2) = if holds c (valOf ns q1) (valOf ns q2) = true then side s (valOf ns q1) (valOf ns q2) else side t (valOf ns q1) (valOf ns q2) := rfl
        rw [es] at k
        cases hh : holds c (valOf ns q1) (valOf ns q2) with
        | true =>
          rw [hh, if_pos rfl] at k
          refine ⟨a, _, 2, y, rfl, rfl, SqL.of (s1 _ _ ha), rfl, _, rfl, _, rfl, _, rfl, y, bv, v1, v2, ns, q1, q2, s, rfl, hy.mono (SeqK.of s1), hT.mono (TupK.of s1), ho.2.1, by omega, fun H2 s2 => ?_⟩
          exact k H2 (s1.trans s2)
        | false =>
          rw [hh, if_neg Bool.false_ne_true] at k
          refine ⟨a, _, 3, z, rfl, rfl, SqL.of (s1 _ _ ha), rfl, _, rfl, _, rfl, _, rfl, z, bv, v1, v2, ns, q1, q2, t, rfl, hz.mono (SeqK.of s1), hT.mono (TupK.of s1), ho.2.2, by omega, fun H2 s2 => ?_⟩
          exact k H2 (s1.trans s2)
end
end K67

set_option Elab.async false
set_option linter.all false
set_option maxRecDepth 100000
set_option maxHeartbeats 4000000
/-! Comprehensions that make one thing of each item. -/
namespace K67
open PySem PySem.Spec PyProof.Rows L2
/-- what such a comprehension keeps: R of the heap, S from step to step, F of what is made -/
structure LcK (H : Hp) (R : Hp → Prop) (S : Hp → Hp → Prop) (F : Hp → V → V → Prop) : Prop where
  r0 : R H
  rD : ∀ G D o, H D = none → R G → R (upd G D o)
  rS : ∀ G G2, R G → S G G2 → R G2
  dS : ∀ G G2 D acc, R G → S G G2 → H D = none → G D = some (.lst acc) → G2 D = some (.lst acc)
  fS : ∀ G G2 y x, R G → S G G2 → F G y x → F G2 y x
  fD : ∀ G D acc z y x, H D = none → G D = some (.lst acc) → (∀ v ∈ acc, ∃ x', F G v x') → F G y x → F (upd G D (.lst z)) y x
theorem paired_ex {α β : Type} {F : α → β → Prop} {l : List α} {m : List β} (h : Paired F l m) : ∀ v ∈ l, ∃ x, F v x := fun v hv => by
  obtain ⟨i, hi⟩ := List.getElem?_of_mem hv
  obtain ⟨y, _, f⟩ := paired_get h hi
  exact ⟨y, f⟩
section
variable {K : PySem.W.Frag} {s : Nat} {σ : L2.St} {H : Hp} {Q : VK} {tt : TT} {te : TE} {R : Hp → Prop} {S : Hp → Hp → Prop} {F : Hp → V → V → Prop} {xs : List V} {p : V → Bool}
/-- what stands behind the first n items -/
def LcP (R : Hp → Prop) (F : Hp → V → V → Prop) (xs : List V) (p : V → Bool) (D : Addr) (n : Nat) (G : Hp) : Prop := ∃ acc, G D = some (.lst acc) ∧ R G ∧ Paired (F G) acc ((xs.take n).filter p)
theorem lcp_step (k : LcK H R S F) {D : Addr} (hD : H D = none) (hlen : xs.length ≤ 1000)
    (ht : ∀ x G (Q' : Bool → Hp → Prop), x ∈ xs → R G → (∀ G2, S G G2 → Q' (p x) G2) → tt ((σ.set s none).set s (some x)) G Q')
    (el : ∀ x G (Q' : VK), x ∈ xs → p x = true → R G → (∀ y G2, S G G2 → F G2 y x → Q' y G2) → te ((σ.set s none).set s (some x)) G Q') (n : Nat) (x : V) (G : Hp) (hx : xs[n]? = some x) (h : LcP R F xs p D n G) :
    gName s x (wipe σ [s]) G fun σ2 H2 => wipe σ2 [s] = wipe σ [s] ∧ tt σ2 H2 fun b H3 =>
      if b = true then te σ2 H3 fun y H4 => ∃ acc, H4 D = some (.lst acc) ∧ acc.length < sizeLine ∧ LcP R F xs p D (n + 1) (upd H4 D (.lst (acc ++ [y]))) else LcP R F xs p D (n + 1) H3 := by
  obtain ⟨acc, ha, hR, hP⟩ := h
  have hm := List.mem_of_getElem? hx
  refine ⟨?_, ht x G _ hm hR fun G2 s2 => ?_⟩
  · show ((σ.set s none).set s (some x)).set s none = σ.set s none
    rw [List.set_set, List.set_set]
  · have a2 := k.dS _ _ _ _ hR s2 hD ha
    have R2 := k.rS _ _ hR s2
    have P2 : Paired (F G2) acc ((xs.take n).filter p) := paired_mono (fun y x f => k.fS _ _ y x hR s2 f) hP
    cases hp : p x with
    | false =>
      refine iteF ⟨acc, a2, R2, ?_⟩
      rw [take_snoc hx, List.filter_append, List.filter_cons, if_neg (by rw [hp]; exact Bool.false_ne_true), List.filter_nil, List.append_nil]
      exact P2
    | true =>
      refine iteT (el x G2 _ hm hp R2 fun y G3 s3 f3 => ?_)
      have a3 := k.dS _ _ _ _ R2 s3 hD a2
      have R3 := k.rS _ _ R2 s3
      have P3 : Paired (F G3) acc ((xs.take n).filter p) := paired_mono (fun y x f => k.fS _ _ y x R2 s3 f) P2
      have mem := paired_ex P3
      refine ⟨acc, a3, ?_, acc ++ [y], upd_same, k.rD _ _ _ hD R3, ?_⟩
      · rw [paired_len P3]
        have := List.length_filter_le p (xs.take n)
        rw [List.length_take] at this
        exact sz' (by omega)
      · rw [take_snoc hx, List.filter_append, List.filter_cons, if_pos hp, List.filter_nil]
        exact paired_app (paired_mono (fun y x f => k.fD _ _ _ _ y x hD a3 mem f) P3) (paired_one (k.fD _ _ _ _ y x hD a3 mem f3))
theorem lcp_zero (k : LcK H R S F) {D : Addr} (hD : H D = none) : LcP R F xs p D 0 (upd H D (.lst [])) := ⟨[], upd_same, k.rD _ _ _ hD k.r0, .nil⟩
theorem lcp_end {D : Addr} {G : Hp} (h : LcP R F xs p D xs.length G) : ∃ ys, G D = some (.lst ys) ∧ R G ∧ Paired (F G) ys (xs.filter p) := by
  obtain ⟨acc, a, r, q⟩ := h
  rw [List.take_length] at q
  exact ⟨acc, a, r, q⟩
theorem lc_of_list {a : Addr} {wi : TI} (k : LcK H R S F) (hwi : ∀ R' : It → Hp → Prop, R' (Itl K a) H → wi σ H R') (ra : ∀ G, R G → SqL K G a xs) (hlen : xs.length ≤ 1000)
    (ht : ∀ x G (Q' : Bool → Hp → Prop), x ∈ xs → R G → (∀ G2, S G G2 → Q' (p x) G2) → tt ((σ.set s none).set s (some x)) G Q')
    (el : ∀ x G (Q' : VK), x ∈ xs → p x = true → R G → (∀ y G2, S G G2 → F G2 y x → Q' y G2) → te ((σ.set s none).set s (some x)) G Q')
    (fin : ∀ D ys G, H D = none → G D = some (.lst ys) → R G → Paired (F G) ys (xs.filter p) → Q (.ref D) G) : tLc wi (gName s) tt te [s] σ H Q :=
  hwi _ fun D hD => lc_list (K := K) (a := a) (xs := xs) (LcP R F xs p D) (lcp_zero k hD) (fun i G _ ⟨_, _, r, _⟩ => ra G r) (fun i x G hx h => lcp_step k hD hlen ht el i x G hx h)
    fun G h => let ⟨ys, e, r, q⟩ := lcp_end h; fin D ys G hD e r q
theorem lc_of_tup {a : Addr} {wi : TI} (k : LcK H R S F) (hwi : ∀ R' : It → Hp → Prop, R' (Itt K a) H → wi σ H R') (ra : ∀ G, R G → SqT K G a xs) (hlen : xs.length ≤ 1000)
    (ht : ∀ x G (Q' : Bool → Hp → Prop), x ∈ xs → R G → (∀ G2, S G G2 → Q' (p x) G2) → tt ((σ.set s none).set s (some x)) G Q')
    (el : ∀ x G (Q' : VK), x ∈ xs → p x = true → R G → (∀ y G2, S G G2 → F G2 y x → Q' y G2) → te ((σ.set s none).set s (some x)) G Q')
    (fin : ∀ D ys G, H D = none → G D = some (.lst ys) → R G → Paired (F G) ys (xs.filter p) → Q (.ref D) G) : tLc wi (gName s) tt te [s] σ H Q :=
  hwi _ fun D hD => lc_tup (K := K) (a := a) (xs := xs) (LcP R F xs p D) (lcp_zero k hD) (fun i G _ ⟨_, _, r, _⟩ => ra G r) (fun i x G hx h => lcp_step k hD hlen ht el i x G hx h)
    fun G h => let ⟨ys, e, r, q⟩ := lcp_end h; fin D ys G hD e r q
theorem nifT {p : Prop} [Decidable p] {A B : Prop} (h : ¬p) (a : A) : if (!decide p) = true then A else B := by
  rw [decide_eq_false h]
  exact iteT a
theorem nifF {p : Prop} [Decidable p] {A B : Prop} (h : p) (b : B) : if (!decide p) = true then A else B := by
  rw [decide_eq_true h]
  exact iteF b
theorem lc_it {wi : TI} {g : TG} {vs : List Nat} (h : wi σ H fun J H1 => tLc (fun _ G R' => R' J G) g tt te vs σ H1 Q) : tLc wi g tt te vs σ H Q := h
theorem gn {t : TS} {D : Ends} {i : Nat} {v : V} (h : t D (σ.set i (some v)) H) : gName i v σ H ({ D with nx := t D } : Ends).nx := h
theorem cb_one {r : List V → Hp → VK → Prop} (h : te σ H fun v H1 => r [v] H1 Q) : tCB r (tCons te tNil) σ H Q := h
theorem cons_one {Q : List V → Hp → Prop} (h : te σ H fun v H1 => Q [v] H1) : tCons te tNil σ H Q := h
theorem seq_asg {g : TG} {tb : TS} {D : Ends} (h : te σ H fun v H1 => g v σ H1 fun σ' H' => tb D σ' H') : tSeq (tAsg te g) tb D σ H := h
def upTo (n : Nat) : List V := (List.range n).map fun (i : Nat) => V.int (i : Int)
theorem upTo_get {n i : Nat} (h : i < n) : (upTo n)[i]? = some (.int (i : Int)) := by
  unfold upTo
  rw [List.getElem?_map, List.getElem?_range h]
  rfl
theorem upTo_len {n : Nat} : (upTo n).length = n := by
  unfold upTo
  rw [List.length_map, List.length_range]
theorem upTo_mem {n : Nat} {x : V} (h : x ∈ upTo n) : ∃ i : Nat, i < n ∧ x = .int (i : Int) := by
  unfold upTo at h
  obtain ⟨i, hi, e⟩ := List.mem_map.mp h
  exact ⟨i, List.mem_range.mp hi, e.symm⟩
theorem lc_of_range {n : Nat} {wi : TI} (k : LcK H R S F) (hwi : ∀ R' : It → Hp → Prop, R' (Itr 0 n) H → wi σ H R') (hlen : n ≤ 1000)
    (ht : ∀ x G (Q' : Bool → Hp → Prop), x ∈ upTo n → R G → (∀ G2, S G G2 → Q' (p x) G2) → tt ((σ.set s none).set s (some x)) G Q')
    (el : ∀ x G (Q' : VK), x ∈ upTo n → p x = true → R G → (∀ y G2, S G G2 → F G2 y x → Q' y G2) → te ((σ.set s none).set s (some x)) G Q')
    (fin : ∀ D ys G, H D = none → G D = some (.lst ys) → R G → Paired (F G) ys ((upTo n).filter p) → Q (.ref D) G) : tLc wi (gName s) tt te [s] σ H Q :=
  hwi _ fun D hD => lc_range (lo := 0) (n := n) (LcP R F (upTo n) p D) (lcp_zero k hD)
    (fun i G hi h => by
      have e : (.int (0 + (i : Int)) : V) = .int (i : Int) := by rw [Int.zero_add]
      rw [e]
      exact lcp_step k hD (by rw [upTo_len]; exact hlen) ht el i _ G (upTo_get hi) h)
    fun G h => let ⟨ys, e, r, q⟩ := lcp_end (xs := upTo n) (by rw [upTo_len]; exact h); fin D ys G hD e r q
theorem filter_all (l : List V) : l.filter (fun _ => true) = l := List.filter_eq_self.mpr fun _ _ => rfl
theorem tYes_ok : ∀ (x : V) (G : Hp) (Q' : Bool → Hp → Prop), x ∈ xs → R G → (∀ G2, S G G2 → Q' true G2) → (∀ G, S G G) → tYes ((σ.set s none).set s (some x)) G Q' := fun _ G _ _ _ h r => h G (r G)
/-- the heap is only added to -/
theorem lck_same {F : Hp → V → V → Prop} (fS : ∀ G G2 y x, Same G G2 → F G y x → F G2 y x) (fD : ∀ G D acc z y x, Same H G → H D = none → G D = some (.lst acc) → (∀ v ∈ acc, ∃ x', F G v x') → F G y x → F (upd G D (.lst z)) y x) : LcK H (Same H) (fun G G2 => Same G G2) (fun G y x => Same H G ∧ F G y x) :=
  ⟨Same.refl H, fun G D o hD h b u q => by rw [upd_ne (ne_of_none q hD)]; exact h b u q, fun _ _ a b => a.trans b, fun _ _ _ _ _ h _ e => h _ _ e, fun G G2 y x r h f => ⟨r.trans h, fS G G2 y x h f.2⟩,
    fun G D acc z y x hD e m f => ⟨fun b u q => by rw [upd_ne (ne_of_none q hD)]; exact f.1 b u q, fD G D acc z y x f.1 hD e (fun v hv => let ⟨x', f'⟩ := m v hv; ⟨x', f'.2⟩) f.2⟩⟩
end
/-- the hand is drawn from -/
theorem lck_hand {H : Hp} {hd ca : Addr} {F : Hp → V → V → Prop} (h : HandAt H hd ca) (fS : ∀ G G2 y x, HandAt G hd ca → But hd G G2 → F G y x → F G2 y x)
    (fD : ∀ G D acc z y x, H D = none → G D = some (.lst acc) → (∀ v ∈ acc, ∃ x', F G v x') → F G y x → F (upd G D (.lst z)) y x) :
    LcK H (fun G => But hd H G ∧ HandAt G hd ca) (fun G G2 => But hd G G2 ∧ HandAt G2 hd ca) F :=
  ⟨⟨But.refl _ _, h⟩, fun G D o hD r => ⟨fun b u hb q => by rw [upd_ne (ne_of_none q hD)]; exact r.1 b u hb q, r.2.upd (h.new hD).1 (h.new hD).2⟩, fun _ _ a b => ⟨a.1.trans b.1, b.2⟩,
    fun G G2 D acc r s hD e => s.1 _ _ (h.new hD).1 e, fun G G2 y x r s f => fS G G2 y x r.2 s.1 f, fD⟩
end K67

set_option Elab.async false
set_option linter.all false
set_option maxRecDepth 100000
set_option maxHeartbeats 4000000
/-! _law_is_order. -/
namespace K67
open PySem PySem.Spec PyProof.Rows L2
/-- a block within a block -/
theorem relabel_free {env : PySem.Env} : ∀ {l : List (Str × NameKind)} {y : Str}, l.lookup y = some .cell ∨ l.lookup y = some .free →
    (l.map fun (x : Str × NameKind) => match x with | (n, k) => if (k == NameKind.free && env.scope.kind == ScopeKind.function && env.kindOf n == some NameKind.cell) = true then (n, NameKind.cell) else (n, k)).lookup y = some .cell ∨
      (l.map fun (x : Str × NameKind) => match x with | (n, k) => if (k == NameKind.free && env.scope.kind == ScopeKind.function && env.kindOf n == some NameKind.cell) = true then (n, NameKind.cell) else (n, k)).lookup y = some .free
  | [], y, h => by rcases h with h | h <;> cases h
  | (n, k) :: l, y, h => by
    rw [List.map_cons]
    simp only [List.lookup_cons] at h
    by_cases e : (y == n) = true
    · rw [e] at h
      simp only at h
      by_cases c : (k == NameKind.free && env.scope.kind == ScopeKind.function && env.kindOf n == some NameKind.cell) = true
      · simp only [c, if_true, List.lookup_cons, e]
        exact .inl trivial
      · simp only [c, Bool.false_eq_true, if_false, List.lookup_cons, e]
        exact h
    · rw [Bool.eq_false_iff.mpr e] at h
      have ih := relabel_free (env := env) h
      by_cases c : (k == NameKind.free && env.scope.kind == ScopeKind.function && env.kindOf n == some NameKind.cell) = true
      · simp only [c, if_true, List.lookup_cons, Bool.eq_false_iff.mpr e]
        exact ih
      · simp only [c, Bool.false_eq_true, if_false, List.lookup_cons, Bool.eq_false_iff.mpr e]
        exact ih
theorem blk_rel {N : List Str} {sc scope : Scope} {own : List (Str × Nat)} {env : PySem.Env} (h : BlkOk N sc scope own) : BlkOk N (relabel sc env) scope own :=
  ⟨h.kind, h.uniq, h.ix, fun y hy e => relabel_free (h.free y hy e), h.own⟩
theorem frac_fn {H : Hp} {v : V} {q q' : Fq} (h : FracAt H v q) (h' : FracAt H v q') : q = q' := by
  obtain ⟨a, rfl, e⟩ := h
  obtain ⟨b, eb, e'⟩ := h'
  cases eb
  rw [e] at e'
  obtain ⟨q1, q2⟩ := q
  obtain ⟨q1', q2'⟩ := q'
  cases e'
  rfl
theorem fracs_fn {H : Hp} : ∀ {vs : List V} {qs qs' : List Fq}, Paired (FracAt H) vs qs → Paired (FracAt H) vs qs' → qs = qs'
  | _, _, _, .nil, .nil => rfl
  | _, _, _, .cons r t, .cons r' t' => by rw [frac_fn r r', fracs_fn t t']
theorem thing_fn {H : Hp} {v : V} {q q' : List Fq} (h : ThingAt H v q) (h' : ThingAt H v q') : q = q' := by
  obtain ⟨a, vs, rfl, e, p⟩ := h
  obtain ⟨b, vs', eb, e', p'⟩ := h'
  cases eb
  rw [e] at e'
  cases e'
  exact fracs_fn p p'
theorem paired_map {H : Hp} {f : List Fq → V} : ∀ {ys vs : List V} {ps : List (List Fq)}, Paired (fun y x => ∃ q, ThingAt H x q ∧ y = f q) ys vs → Paired (ThingAt H) vs ps → ys = ps.map f
  | _, _, _, .nil, .nil => rfl
  | _, _, _, .cons ⟨q, h, e⟩ t, .cons r t' => by
    rw [paired_map t t', e, thing_fn h r]
    rfl
/-- the pool's things, by their fields -/
def InPool (ns : List Str) (ps : List (List Fq)) : (Str → Fq) → Prop := fun a => ∃ q ∈ ps, a = valOf ns q
/-- what is known of a pool -/
structure PoolOk (ns : List Str) (ps : List (List Fq)) : Prop where
  ok : ∀ q ∈ ps, ThOk ns q
  lo : 1 ≤ ps.length
  hi : ps.length ≤ 7
section
variable {P : Program} {w : World} {K : PySem.W.Frag} {mg : Str → Option Value} {base : Heap}
def spIsOrder : Sp := fun vs H Q _ => ∃ (tv bv pv : V) (ns : List Str) (ps : List (List Fq)) (t : Tr Str), vs = [tv, bv, pv] ∧ TrAt H t tv ∧ NamesAt H bv ns ∧ PoolAt H pv ps ∧ PoolOk ns ps ∧ TrOk ns t ∧ trD t ≤ 4 ∧
  ∀ (b : Bool) (H' : Hp), Same H H' → (b = true → IsOrd t (InPool ns ps)) → Q (.bl b) H'
theorem sc_l_is_order : FnScope ["tree", "book", "things", "one", "other", "sides", "third"] ["tree", "book", "things"] (defScope s_l_is_order) := ⟨rfl, rfl, rfl, by decide +kernel, rfl, by decide +kernel, by decide +kernel⟩
def tSideC : TE := tCall (spSideL 4) [] E0 (tCons (tVar 0) (tCons (tVar 1) (tCons (tVar 3) (tCons (tVar 4) tNil))))
theorem ok_l_is_order (T : Env K mg) : FnOk P w K mg base CX0 8 T.f_l_is_order T.fd_l_is_order ["tree", "book", "things"] spIsOrder := by
  refine T.l_is_order.fn.ok sc_l_is_order (fun vs H Q E h => ?_) (fun cdv A outer s H vs Q E hr h => ?_)
  · obtain ⟨_, _, _, _, _, _, rfl, _⟩ := h
    rfl
  · obtain ⟨tv, bv, pv_, ns, ps, t, rfl, ht, hb, hp, ok, ho, hd, k⟩ := h
    refine ⟨_, (pss_cons (ps_setLc (i := 5) (own := [("one", 3)]) (g := gName 3) (tt := tYes) (te := tLc (iList K (tVar 2)) (gName 4) tYes tSideC [4]) rfl sc_l_is_order.nd rfl rfl (sw_true rfl rfl rfl (by decide +kernel)) (pi_list (pv 2)) (blkOk_by (own := [("one", 3)]) (N := ["tree", "book", "things", "one", "other", "sides", "third"]) (sc := defScope s_l_is_order) (by decide +kernel)) (fun _ _ _ _ _ => pg_name (i := 3) sc_l_is_order.nd rfl (Or.inr rfl)) (fun _ _ _ _ _ => pts_nil) (fun _ _ _ _ _ => (pe_lc (own := [("other", 4)]) (g := gName 4) (tt := tYes) (te := tSideC) rfl sc_l_is_order.nd (pi_list (pv 2)) (blk_rel (blkOk_by (own := [("other", 4)]) (N := ["tree", "book", "things", "one", "other", "sides", "third"]) (sc := { kind := .function, names := [(".0", .local), ("one", .cell), ("book", .free), ("things", .free), ("tree", .free)], isGenerator := false, isCoroutine := false }) (by decide +kernel))) (fun _ _ _ _ _ => pg_name (i := 4) sc_l_is_order.nd rfl (Or.inl rfl)) (fun _ _ _ _ _ => pts_nil) (fun _ _ _ _ _ => (pe_call (ok_l_side T 4) (hr.mono (by decide)) (by rfl) T.l_side.mg T.l_side.fn.kp T.l_side.bd .nil pass0 (pa_cons (pv 0) (pa_cons (pv 1) (pa_cons (pv 3) (pa_cons (pv 4) pa_nil)))))))))
      (pss_cons (ps_for PassesOwn.never rfl (pi_range1 (by rfl) T.b_range (pa_cons (pe_callB call_len_seq (by rfl) T.b_len (by decide +kernel) (pa_cons (pv 2) pa_nil)) pa_nil)) (pg_name (i := 3) sc_l_is_order.nd rfl (Or.inl rfl))
      (pss_one (ps_for PassesOwn.never rfl (pi_range1 (by rfl) T.b_range (pa_cons (pe_callB call_len_seq (by rfl) T.b_len (by decide +kernel) (pa_cons (pv 2) pa_nil)) pa_nil)) (pg_name (i := 4) sc_l_is_order.nd rfl (Or.inl rfl))
      (pss_cons (ps_if (pt_cmpR op_ne (pe_ix ix_list (pe_ix ix_list (pv 5) (pv 3) (fun _ _ => rfl)) (pv 4) (fun _ _ => rfl)) (pe_op op_sub pe_int (pe_ix ix_list (pe_ix ix_list (pv 5) (pv 4) (fun _ _ => rfl)) (pv 3) (fun _ _ => rfl))) (nomark _))
      (pss_one (ps_ret pe_bl))
      pss_nil)
      (pss_one (ps_for PassesOwn.never rfl (pi_range1 (by rfl) T.b_range (pa_cons (pe_callB call_len_seq (by rfl) T.b_len (by decide +kernel) (pa_cons (pv 2) pa_nil)) pa_nil)) (pg_name (i := 6) sc_l_is_order.nd rfl (Or.inl rfl))
      (pss_one (ps_if (PW.pt (pw_and (pt_cmpR op_lt (pe_ix ix_list (pe_ix ix_list (pv 5) (pv 3) (fun _ _ => rfl)) (pv 4) (fun _ _ => rfl)) pe_int (nomark _)) (pw_and1 (pt_cmpR op_lt (pe_ix ix_list (pe_ix ix_list (pv 5) (pv 4) (fun _ _ => rfl)) (pv 6) (fun _ _ => rfl)) pe_int (nomark _)))))
      (pss_one (ps_if (pt_cmpR op_ne (pe_ix ix_list (pe_ix ix_list (pv 5) (pv 3) (fun _ _ => rfl)) (pv 6) (fun _ _ => rfl)) (pe_callB (call_min2 rfl) (by rfl) T.b_min (by decide +kernel) (pa_cons (pe_ix ix_list (pe_ix ix_list (pv 5) (pv 3) (fun _ _ => rfl)) (pv 4) (fun _ _ => rfl)) (pa_cons (pe_ix ix_list (pe_ix ix_list (pv 5) (pv 4) (fun _ _ => rfl)) (pv 6) (fun _ _ => rfl)) pa_nil))) (nomark _))
      (pss_one (ps_ret pe_bl))
      pss_nil))
      pss_nil))))))))
      (pss_one (ps_ret pe_bl)))), ?_⟩
    obtain ⟨pa, xs, rfl, hpa, pp⟩ := hp
    have lx : xs.length = ps.length := paired_len pp
    have l7 := ok.hi
    have l1 := ok.lo
    -- the table of sides
    refine seq_asg ?_
    refine lc_of_list (a := pa) (p := fun _ => true) (F := fun G y x => Same H G ∧ ∃ q1, ThingAt H x q1 ∧ ∃ a, y = .ref a ∧ G a = some (.lst (ps.map fun q2 => V.int (side t (valOf ns q1) (valOf ns q2))))) (xs := xs) (R := Same H) (S := fun G G2 => Same G G2) (lck_same (fun G G2 y x sG f => ?_) (fun G D acc z y x hG hD hacc mem f => ?_)) (fun R' r => ⟨_, rfl, pa, rfl, ⟨_, SqL.of hpa⟩, r⟩) (fun G r => SqL.of (r _ _ hpa)) (by omega) (fun x G Q' hx hR q => q G (Same.refl G)) (fun x G Q' hx _ hR q => ?_) ?_
    · obtain ⟨q1, h1, a, e, ha⟩ := f
      exact ⟨q1, h1, a, e, sG _ _ ha⟩
    · obtain ⟨q1, h1, a, e, ha⟩ := f
      refine ⟨q1, h1, a, e, ?_⟩
      rw [upd_ne fun c => ?_]
      · exact ha
      · rw [c, hacc] at ha
        cases ps with
        | nil => exact absurd l1 (by decide)
        | cons q0 r =>
          cases ha
          obtain ⟨x', _, _, a', e', _⟩ := mem _ List.mem_cons_self
          cases e'
    · obtain ⟨i, hi⟩ := List.getElem?_of_mem hx
      obtain ⟨q1, hq1, h1⟩ := paired_get pp hi
      have o1 := ok.ok q1 (List.mem_of_getElem? hq1)
      refine lc_of_list (a := pa) (p := fun _ => true) (F := fun G2 y x2 => Same G G2 ∧ ∃ q2, ThingAt H x2 q2 ∧ y = V.int (side t (valOf ns q1) (valOf ns q2))) (xs := xs) (R := Same G) (S := fun G G2 => Same G G2) (lck_same (fun _ _ _ _ _ f => f) (fun _ _ _ _ _ _ _ _ _ _ f => f)) (fun R' r => ⟨_, rfl, pa, rfl, ⟨_, SqL.of (hR _ _ hpa)⟩, r⟩) (fun G2 r => SqL.of (r _ _ (hR _ _ hpa))) (by omega) (fun x G2 Q' hx hR q => q G2 (Same.refl G2)) (fun x2 G2 Q' hx2 _ hR2 q2 => ?_) ?_
      · obtain ⟨j, hj⟩ := List.getElem?_of_mem hx2
        obtain ⟨q', hq', h2⟩ := paired_get pp hj
        have s2 := hR.trans hR2
        have tk := TupK.of s2
        refine ⟨_, rfl, _, rfl, _, rfl, _, rfl, tv, bv, x, x2, ns, q1, q', t, rfl, ht.mono (SeqK.of s2), ⟨hb.mono tk, h1.mono tk, h2.mono tk, o1, ok.ok q' (List.mem_of_getElem? hq')⟩, ho, hd, fun G3 s3 => ?_⟩
        exact q2 _ _ s3 ⟨hR2.trans s3, q', h2, rfl⟩
      · intro D ys G2 hD hG2 hR2 hP
        rw [filter_all] at hP
        have e := paired_map (f := fun q2 => V.int (side t (valOf ns q1) (valOf ns q2))) (paired_mono (fun _ _ f => f.2) hP) pp
        subst e
        exact q _ _ hR2 ⟨hR.trans hR2, q1, h1, D, rfl, hG2⟩
    · intro D ys G hD hG hR hP
      rw [filter_all] at hP
      -- the loops
      have hpaG := hR _ _ hpa
      have vals : ∀ (i : Nat), i < ps.length → ∃ q, ps[i]? = some q := fun i hi => ⟨_, List.getElem?_eq_getElem hi⟩
      -- a reading of the table
      have rd : ∀ (σ : L2.St) (m1 m2 i j : Nat) (qi qj : List Fq) (Q' : VK), σ[5]? = some (some (.ref D)) → σ[m1]? = some (some (.int (i : Int))) → σ[m2]? = some (some (.int (j : Int))) → ps[i]? = some qi → ps[j]? = some qj → Q' (.int (side t (valOf ns qi) (valOf ns qj))) G →
          tOp (rIxL K) (tOp (rIxL K) (tVar 5) (tVar m1)) (tVar m2) σ G Q' := by
        intro σ m1 m2 i j qi qj Q' e5 e1 e2 hi hj hQ
        obtain ⟨x, hx, hxt⟩ := paired_get' pp hi
        obtain ⟨y, hy, _, q1, h1, a, rfl, ha⟩ := paired_get' hP hx
        rw [thing_fn h1 hxt] at ha
        refine ⟨_, e5, _, e1, D, ys, _, _, rfl, rfl, SqL.of hG, atI_nat hy, ?_⟩
        exact ⟨_, e2, a, _, _, _, rfl, rfl, SqL.of ha, at1 rfl (by rw [List.getElem?_map, hj]; rfl), hQ⟩
      let An : Nat → Nat → Prop := fun i j => ∀ qi qj, ps[i]? = some qi → ps[j]? = some qj → side t (valOf ns qi) (valOf ns qj) = -side t (valOf ns qj) (valOf ns qi)
      let Tn : Nat → Nat → Nat → Prop := fun i j l => ∀ qi qj ql, ps[i]? = some qi → ps[j]? = some qj → ps[l]? = some ql → side t (valOf ns qi) (valOf ns qj) < 1 → side t (valOf ns qj) (valOf ns ql) < 1 → side t (valOf ns qi) (valOf ns ql) = min (side t (valOf ns qi) (valOf ns qj)) (side t (valOf ns qj) (valOf ns ql))
      refine ⟨_, rfl, pa, xs, rfl, .inl (SqL.of hpaG), _, rfl, by omega, by omega, ?_⟩
      rw [show ((xs.length : Nat) : Int).toNat = ps.length by omega]
      refine for_range (lo := 0) (n := ps.length) (fun i σ G' => G = G' ∧ (∃ a b c, σ = [some tv, some bv, some (.ref pa), a, b, some (.ref D), c]) ∧ ∀ i', i' < i → ∀ j, j < ps.length → An i' j ∧ ∀ l, l < ps.length → Tn i' j l)
        ⟨rfl, ⟨_, _, _, rfl⟩, fun i' hi' => absurd hi' (Nat.not_lt_zero _)⟩ ?_ ?_
      · rintro i σ G' hi ⟨rfl, ⟨a, b, c, rfl⟩, hI⟩
        refine ⟨_, rfl, pa, xs, rfl, .inl (SqL.of hpaG), _, rfl, by omega, by omega, ?_⟩
        rw [show ((xs.length : Nat) : Int).toNat = ps.length by omega]
        obtain ⟨qi, hqi⟩ := vals i hi
        refine for_range (lo := 0) (n := ps.length) (fun j σ G' => G = G' ∧ (∃ b c, σ = [some tv, some bv, some (.ref pa), some (.int (0 + (i : Int))), b, some (.ref D), c]) ∧ ∀ j', j' < j → An i j' ∧ ∀ l, l < ps.length → Tn i j' l)
          ⟨rfl, ⟨_, _, rfl⟩, fun j' hj' => absurd hj' (Nat.not_lt_zero _)⟩ ?_ ?_
        · rintro j σ G' hj ⟨rfl, ⟨b, c, rfl⟩, hJ⟩
          obtain ⟨qj, hqj⟩ := vals j hj
          have ei : (0 + (i : Int)) = (i : Int) := Int.zero_add _
          have ej : (0 + (j : Int)) = (j : Int) := Int.zero_add _
          rw [ei, ej]
          refine rd _ 3 4 i j qi qj _ rfl rfl rfl hqi hqj ?_
          refine rd _ 4 3 j i qj qi _ rfl rfl rfl hqj hqi ?_
          refine ⟨_, _, rfl, rfl, ?_⟩
          refine ⟨rfl, _, rfl, ?_⟩
          by_cases hne : side t (valOf ns qi) (valOf ns qj) = 0 - side t (valOf ns qj) (valOf ns qi)
          · refine nifF (congrArg V.int hne) ?_
            have hAn : An i j := fun qi' qj' e1 e2 => by
              rw [hqi] at e1
              rw [hqj] at e2
              cases e1
              cases e2
              omega
            refine ⟨_, rfl, pa, xs, rfl, .inl (SqL.of hpaG), _, rfl, by omega, by omega, ?_⟩
            rw [show ((xs.length : Nat) : Int).toNat = ps.length by omega]
            refine for_range (lo := 0) (n := ps.length) (fun l σ G' => G = G' ∧ (∃ c, σ = [some tv, some bv, some (.ref pa), some (.int (i : Int)), some (.int (j : Int)), some (.ref D), c]) ∧ ∀ l', l' < l → Tn i j l')
              ⟨rfl, ⟨_, rfl⟩, fun l' hl' => absurd hl' (Nat.not_lt_zero _)⟩ ?_ ?_
            · rintro l σ G' hl ⟨rfl, ⟨c, rfl⟩, hL⟩
              obtain ⟨ql, hql⟩ := vals l hl
              have el : (0 + (l : Int)) = (l : Int) := Int.zero_add _
              rw [el]
              have next : Tn i j l → ∀ c, G = G ∧ (∃ c', [some tv, some bv, some (.ref pa), some (.int (i : Int)), some (.int (j : Int)), some (.ref D), c] = [some tv, some bv, some (.ref pa), some (.int (i : Int)), some (.int (j : Int)), some (.ref D), c']) ∧ ∀ l', l' < l + 1 → Tn i j l' := fun hT c => ⟨rfl, ⟨_, rfl⟩, fun l' hl' => by
                rcases Nat.lt_succ_iff_lt_or_eq.mp hl' with h | h
                · exact hL l' h
                · subst h
                  exact hT⟩
              refine rd _ 3 4 i j qi qj _ rfl rfl rfl hqi hqj ?_
              refine ⟨_, _, rfl, rfl, _, rfl, ?_⟩
              by_cases c1 : side t (valOf ns qi) (valOf ns qj) < 1
              · refine ifT c1 ?_
                refine rd _ 4 6 j l qj ql _ rfl rfl rfl hqj hql ?_
                refine ⟨_, _, rfl, rfl, _, rfl, ?_⟩
                by_cases c2 : side t (valOf ns qj) (valOf ns ql) < 1
                · refine ifT c2 ?_
                  refine rd _ 3 6 i l qi ql _ rfl rfl rfl hqi hql ?_
                  refine rd _ 3 4 i j qi qj _ rfl rfl rfl hqi hqj ?_
                  refine rd _ 4 6 j l qj ql _ rfl rfl rfl hqj hql ?_
                  refine ⟨_, _, rfl, ?_⟩
                  refine ⟨rfl, _, rfl, ?_⟩
                  by_cases c3 : side t (valOf ns qi) (valOf ns ql) = if side t (valOf ns qj) (valOf ns ql) < side t (valOf ns qi) (valOf ns qj) then side t (valOf ns qj) (valOf ns ql) else side t (valOf ns qi) (valOf ns qj)
                  · refine nifF (congrArg V.int c3) (next (fun qi' qj' ql' e1 e2 e3 _ _ => ?_) _)
                    rw [hqi] at e1
                    rw [hqj] at e2
                    rw [hql] at e3
                    cases e1
                    cases e2
                    cases e3
                    rw [c3]
                    split <;> omega
                  · refine nifT (fun z => c3 (V.int.inj z)) (k false _ hR fun z => Bool.noConfusion z)
                · refine ifF c2 (next (fun qi' qj' ql' e1 e2 e3 _ h2 => ?_) _)
                  rw [hqj] at e2
                  rw [hql] at e3
                  cases e2
                  cases e3
                  exact absurd h2 c2
              · refine ifF c1 (next (fun qi' qj' ql' e1 e2 e3 h1 _ => ?_) _)
                rw [hqi] at e1
                rw [hqj] at e2
                cases e1
                cases e2
                exact absurd h1 c1
            · rintro σ G' ⟨rfl, ⟨c, rfl⟩, hL⟩
              refine ⟨rfl, ⟨_, _, rfl⟩, fun j' hj' => ?_⟩
              rcases Nat.lt_succ_iff_lt_or_eq.mp hj' with h | h
              · exact hJ j' h
              · subst h
                exact ⟨hAn, fun l hl => hL l hl⟩
          · refine nifT (fun z => hne (V.int.inj z)) (k false _ hR fun z => Bool.noConfusion z)
        · rintro σ G' ⟨rfl, ⟨b, c, rfl⟩, hJ⟩
          refine ⟨rfl, ⟨_, _, _, rfl⟩, fun i' hi' => ?_⟩
          rcases Nat.lt_succ_iff_lt_or_eq.mp hi' with h | h
          · exact hI i' h
          · subst h
            exact fun j hj => hJ j hj
      · rintro σ G' ⟨rfl, _, hI⟩
        refine k true _ hR fun _ => ⟨?_, ?_⟩
        · rintro a b ⟨q1, h1, rfl⟩ ⟨q2, h2, rfl⟩
          obtain ⟨i, hi⟩ := List.getElem?_of_mem h1
          obtain ⟨j, hj⟩ := List.getElem?_of_mem h2
          exact (hI i (List.getElem?_eq_some_iff.mp hi).1 j (List.getElem?_eq_some_iff.mp hj).1).1 q1 q2 hi hj
        · rintro a b c ⟨q1, h1, rfl⟩ ⟨q2, h2, rfl⟩ ⟨q3, h3, rfl⟩ c1 c2
          obtain ⟨i, hi⟩ := List.getElem?_of_mem h1
          obtain ⟨j, hj⟩ := List.getElem?_of_mem h2
          obtain ⟨l, hl⟩ := List.getElem?_of_mem h3
          exact (hI i (List.getElem?_eq_some_iff.mp hi).1 j (List.getElem?_eq_some_iff.mp hj).1).2 l (List.getElem?_eq_some_iff.mp hl).1 q1 q2 q3 hi hj hl c1 c2
end
end K67

set_option Elab.async false
set_option linter.all false
set_option maxRecDepth 100000
set_option maxHeartbeats 4000000
/-! _law_setting, _law_order. -/
namespace K67
open PySem PySem.Spec PyProof.Rows L2
theorem paired_pick {α β γ : Type} {A : α → γ → Prop} {B : γ → Prop} : ∀ {ys : List α} {xs : List β}, Paired (fun y _ => ∃ q, A y q ∧ B q) ys xs → ∃ qs, Paired A ys qs ∧ (∀ q ∈ qs, B q) ∧ qs.length = xs.length
  | _, _, .nil => ⟨[], .nil, fun _ h => absurd h (by simp), rfl⟩
  | _, _, .cons ⟨q, a, b⟩ t => by
    obtain ⟨qs, p, h, l⟩ := paired_pick t
    exact ⟨q :: qs, .cons a p, fun z hz => (List.mem_cons.mp hz).elim (fun e => e ▸ b) (h z), congrArg (· + 1) l⟩
theorem tupK_upd {G : Hp} {D : Addr} {acc z : List V} (h : G D = some (.lst acc)) : TupK G (upd G D (.lst z)) := But.tupL (But.upd (a := D)) h
section
variable {K : PySem.W.Frag} {σ : L2.St} {H : Hp} {Q : VK} {hd ca : Addr}
/-- xs[_law_draw(hand, len(xs))] -/
theorem rd_pick {h j : Nat} {a : Addr} {vs : List V} (h0 : σ[h]? = some (some (.ref hd))) (h2 : σ[j]? = some (some (.ref a))) (e : H a = some (.lst vs)) (n0 : 1 ≤ vs.length) (n1 : vs.length ≤ 1000) (hh : HandAt H hd ca)
    (k : ∀ (i : Nat) z H', But hd H H' → HandAt H' hd ca → vs[i]? = some z → Q z H') :
    tOp (rIxL K) (tVar j) (tCall spDraw [] E0 (tCons (tVar h) (tCons (tCB (Evl.rLenS K) (tCons (tVar j) tNil)) tNil))) σ H Q := by
  refine ⟨_, h2, _, h0, _, h2, a, _, rfl, .inl (SqL.of e), hd, ca, _, rfl, hh, by omega, Nat.lt_of_le_of_lt (show ((vs.length : Nat) : Int).natAbs ≤ 1000 by omega) (by decide), fun i H' i0 i1 b1 h' => ?_⟩
  have hi : i.toNat < vs.length := by omega
  have e' := (b1.seqH hh).lst _ _ e
  exact ⟨a, vs, i, _, rfl, rfl, SqL.of e', at1 (j := i.toNat) (by omega) (List.getElem?_eq_getElem hi), k i.toNat _ _ b1 h' (List.getElem?_eq_getElem hi)⟩
end
section
variable {P : Program} {w : World} {K : PySem.W.Frag} {mg : Str → Option Value} {base : Heap}
def spSetting : Sp := fun vs H Q _ => ∃ (hd ca : Addr), vs = [.ref hd] ∧ HandAt H hd ca ∧ ∀ (l : Addr) (bv nv pv : V) (ns : List Str) (qs : List Fq) (ps : List (List Fq)) (H' : Hp), But hd H H' → HandAt H' hd ca → H' l = some (.lst [bv, nv, pv]) → Src H' bv nv ns qs → PoolAt H' pv ps → PoolOk ns ps → Q (.ref l) H'
theorem sc_l_setting : FnScope ["hand", "book", "k", "numbers", "pool", "field"] ["hand"] (defScope s_l_setting) := ⟨rfl, rfl, rfl, by decide +kernel, rfl, by decide +kernel, by decide +kernel⟩
def tPickN (K : PySem.W.Frag) : TE := tOp (rIxL K) (tVar 3) (tCall spDraw [] E0 (tCons (tVar 0) (tCons (tCB (Evl.rLenS K) (tCons (tVar 3) tNil)) tNil)))
theorem ok_l_setting (T : Env K mg) : FnOk P w K mg base CX0 4 T.f_l_setting T.fd_l_setting ["hand"] spSetting := by
  refine T.l_setting.fn.ok sc_l_setting (fun vs H Q E h => ?_) (fun cdv A outer s H vs Q E hr h => ?_)
  · obtain ⟨_, _, rfl, _⟩ := h
    rfl
  · obtain ⟨hd, ca, rfl, hh, k⟩ := h
    refine ⟨_, (pss_cons (ps_set (i := 1) sc_l_setting.nd rfl (Or.inl rfl) (pe_call (ok_l_book T) (hr.mono (by decide)) (by rfl) T.l_book.mg T.l_book.fn.kp T.l_book.bd .nil pass0 (pa_cons (pv 0) pa_nil)))
      (pss_cons (ps_set (i := 3) sc_l_setting.nd rfl (Or.inr rfl) (pe_lc (own := [("k", 2)]) (g := gName 2) (tt := tYes) (te := tCall spNumber [] E0 (tCons (tVar 0) tNil)) rfl sc_l_setting.nd (pi_range1 (by rfl) T.b_range (pa_cons (pe_op op_add pe_int (pe_call (ok_l_draw T) (hr.mono (by decide)) (by rfl) T.l_draw.mg T.l_draw.fn.kp T.l_draw.bd .nil pass0 (pa_cons (pv 0) (pa_cons pe_int pa_nil)))) pa_nil)) (blkOk_by (own := [("k", 2)]) (N := ["hand", "book", "k", "numbers", "pool", "field"]) (sc := defScope s_l_setting) (by decide +kernel)) (fun _ _ _ _ _ => pg_name (i := 2) sc_l_setting.nd rfl (Or.inl rfl)) (fun _ _ _ _ _ => pts_nil) (fun _ _ _ _ _ => (pe_call (ok_l_number T) (hr.mono (by decide)) (by rfl) T.l_number.mg T.l_number.fn.kp T.l_number.bd .nil pass0 (pa_cons (pv 0) pa_nil)))))
      (pss_cons (ps_set (i := 4) sc_l_setting.nd rfl (Or.inl rfl) (pe_lst pa_nil))
      (pss_cons (ps_for PassesOwn.never rfl (pi_range1 (by rfl) T.b_range (pa_cons (pe_op op_add pe_int (pe_call (ok_l_draw T) (hr.mono (by decide)) (by rfl) T.l_draw.mg T.l_draw.fn.kp T.l_draw.bd .nil pass0 (pa_cons (pv 0) (pa_cons pe_int pa_nil)))) pa_nil)) (pg_name (i := 2) sc_l_setting.nd rfl (Or.inl rfl))
      (pss_one (ps_expr (pe_bm PySem.F.plainAttrs_list PySem.F.slot_list_append PySem.F.type_list_append mt_append (pv 4) (pa_cons (pe_callTy call_tuple_of (by rfl) T.b_tuple (by decide +kernel) (pa_cons (pe_lc (own := [("field", 5)]) (g := gName 5) (tt := tYes) (te := tPickN K) rfl sc_l_setting.nd (pi_tup (pv 1)) (blkOk_by (own := [("field", 5)]) (N := ["hand", "book", "k", "numbers", "pool", "field"]) (sc := defScope s_l_setting) (by decide +kernel)) (fun _ _ _ _ _ => pg_name (i := 5) sc_l_setting.nd rfl (Or.inl rfl)) (fun _ _ _ _ _ => pts_nil) (fun _ _ _ _ _ => (pe_ix ix_list (pv 3) (pe_call (ok_l_draw T) (hr.mono (by decide)) (by rfl) T.l_draw.mg T.l_draw.fn.kp T.l_draw.bd .nil pass0 (pa_cons (pv 0) (pa_cons (pe_callB call_len_seq (by rfl) T.b_len (by decide +kernel) (pa_cons (pv 3) pa_nil)) pa_nil))) (fun _ _ => rfl)))) pa_nil)) pa_nil)))))
      (pss_one (ps_ret (pe_lst (pa_cons (pv 1) (pa_cons (pv 3) (pa_cons (pv 4) pa_nil)))))))))), ?_⟩
    refine ⟨_, rfl, hd, ca, rfl, hh, fun bv ns H1 b1 h1 hb bok => ?_⟩
    -- the numbers
    refine gn (seq_asg (lc_it ?_))
    refine ⟨_, rfl, hd, ca, _, rfl, h1, by decide, by decide, fun m H2 m0 m1 b2 h2 => ?_⟩
    refine ⟨_, _, rfl, rfl, _, rfl, by omega, by omega, ?_⟩
    have b02 := b1.trans b2
    have hb2 := hb.mono (b2.seqH h1).tup
    refine lc_of_range (n := (2 + m).toNat) (p := fun _ => true) (F := fun G y _ => ∃ q, FracAt G y q ∧ QOk q) (R := fun G => But hd H2 G ∧ HandAt G hd ca) (S := fun G G2 => But hd G G2 ∧ HandAt G2 hd ca) (lck_hand h2 (fun G G2 y x hG b f => ?_) (fun G D acc z y x hD e m f => ?_)) (fun R' r => r) (by omega) (fun x G Q' _ hR q => q G ⟨But.refl _ _, hR.2⟩) (fun x G Q' hx _ hR q => ?_) ?_
    · obtain ⟨q, f1, f2⟩ := f
      exact ⟨q, f1.mono (b.seqH hG).tup, f2⟩
    · obtain ⟨q, f1, f2⟩ := f
      exact ⟨q, f1.mono (tupK_upd e), f2⟩
    · exact ⟨_, rfl, hd, ca, rfl, hR.2, fun v q' G2 b3 h3 f3 o3 => q v G2 ⟨b3, h3⟩ ⟨q', f3, o3⟩⟩
    · intro na nvs H3 hna0 hna hR3 hP
      rw [filter_all] at hP
      obtain ⟨b3, h3⟩ := hR3
      obtain ⟨qs, pq, qok, ql⟩ := paired_pick hP
      rw [upTo_len] at ql
      have hb3 := hb2.mono (b3.seqH h2).tup
      have b03 := b02.trans b3
      have lnv := paired_len pq
      refine ⟨sz (by decide : 0 ≤ 1000), fun p np => ?_⟩
      have s4 := same_new np (.lst [])
      obtain ⟨phd, pca⟩ := h3.new np
      have pna : p ≠ na := fun z => by
        rw [z, hna] at np
        cases np
      refine ⟨_, rfl, hd, ca, _, rfl, h3.same s4, by decide, by decide, fun m' H5 m0' m1' b5 h5 => ?_⟩
      refine ⟨_, _, rfl, rfl, _, rfl, by omega, by omega, ?_⟩
      have sq5 := b5.seqH (h3.same s4)
      have sq4 : SeqK H3 H5 := (SeqK.of s4).trans sq5
      have hp5 : H5 p = some (.lst []) := sq5.lst _ _ upd_same
      -- the things
      refine for_range (lo := 0) (n := (2 + m').toNat) (fun n σ G => ∃ (acc : List V) (ps : List (List Fq)) (kv : Option V), σ = [some (.ref hd), some bv, kv, some (.ref na), some (.ref p), none] ∧ G p = some (.lst acc) ∧ (∀ b o, b ≠ hd → b ≠ p → H b = some o → G b = some o) ∧ HandAt G hd ca ∧ NamesAt G bv ns ∧ G na = some (.lst nvs) ∧ Paired (FracAt G) nvs qs ∧
          Paired (ThingAt G) acc ps ∧ ps.length = n ∧ ∀ q ∈ ps, ThOk ns q)
        ⟨[], [], none, rfl, hp5, fun b o h1 _ e => b5 b o h1 (s4 b o (b03 b o h1 e)), h5, hb3.mono sq4.tup, sq4.lst _ _ hna, paired_mono (fun _ _ f => f.mono sq4.tup) pq, .nil, rfl, fun q hq => absurd hq (by simp)⟩ ?_ ?_
      · rintro n σ G hn ⟨acc, ps, kv, rfl, hpG, kG, hG, hbG, hnG, pG, aG, lG, oG⟩
        refine ⟨_, rfl, .inl ⟨rfl, _, SqL.of hpG⟩, ?_⟩
        refine cons_one (cb_one ?_)
        obtain ⟨ba, ob, rfl, hba, hob⟩ := hbG
        refine lc_of_tup (a := ba) (xs := ns.map V.str) (p := fun _ => true) (F := fun G y _ => ∃ q, FracAt G y q ∧ QOk q) (R := fun G2 => But hd G G2 ∧ HandAt G2 hd ca) (S := fun G G2 => But hd G G2 ∧ HandAt G2 hd ca) (lck_hand hG (fun G G2 y x hG b f => ?_) (fun G D acc z y x hD e m f => ?_)) (fun R' r => ⟨_, rfl, ba, rfl, ⟨_, names_sq hba⟩, r⟩) (fun G2 r => names_sq ((r.1.seqH hG).tup.frz _ _ _ hba)) (by rw [List.length_map]; have := bok.hi; omega) (fun x G Q' _ hR q => q G ⟨But.refl _ _, hR.2⟩) (fun x G2 Q' hx _ hR q => ?_) ?_
        · obtain ⟨q, f1, f2⟩ := f
          exact ⟨q, f1.mono (b.seqH hG).tup, f2⟩
        · obtain ⟨q, f1, f2⟩ := f
          exact ⟨q, f1.mono (tupK_upd e), f2⟩
        · have sq := hR.1.seqH hG
          refine rd_pick (h := 0) (j := 3) rfl rfl (sq.lst _ _ hnG) (by omega) (by omega) hR.2 fun i z G3 b3 h3 hz => ?_
          obtain ⟨q', hq', fq⟩ := paired_get pG hz
          exact q z G3 ⟨b3, h3⟩ ⟨q', fq.mono (sq.trans (b3.seqH hR.2)).tup, qok q' (List.mem_of_getElem? hq')⟩
        · intro D ys G2 hD hG2D hR hP2
          rw [filter_all] at hP2
          obtain ⟨q2, pq2, qok2, ql2⟩ := paired_pick hP2
          rw [List.length_map] at ql2
          have sq := hR.1.seqH hG
          refine ⟨D, ys, rfl, .inl ⟨SqL.of hG2D, fun l hl => ?_⟩⟩
          have s3 := same_new hl (.tup ys)
          have sqG : SeqK G (upd G2 l (.tup ys)) := sq.trans (SeqK.of s3)
          have hp2 := sqG.lst _ _ hpG
          refine ⟨p, acc, .ref l, rfl, rfl, hp2, sz' (by rw [paired_len aG, lG]; omega), acc ++ [.ref l], ps ++ [q2], _, rfl, upd_same, fun b o h1 h4 e => ?_, ((hR.2).same s3).upd phd pca, ?_, ?_, ?_, ?_, by rw [List.length_append, lG]; rfl, fun q hq => ?_⟩
          · rw [upd_ne h4]
            exact s3 b o (hR.1 b o h1 (kG b o h1 h4 e))
          · exact ⟨ba, ob, rfl, (tupK_upd hp2).frz _ _ _ (sqG.tup.frz _ _ _ hba), hob⟩
          · rw [upd_ne (Ne.symm pna)]
            exact sqG.lst _ _ hnG
          · exact paired_mono (fun _ _ f => f.mono (sqG.tup.trans (tupK_upd hp2))) pG
          · refine paired_app (paired_mono (fun _ _ f => f.mono (sqG.tup.trans (tupK_upd hp2))) aG) (paired_one ⟨l, ys, rfl, ?_, ?_⟩)
            · exact (tupK_upd hp2).at_ _ _ upd_same
            · exact paired_mono (fun _ _ f => f.mono ((TupK.of s3).trans (tupK_upd hp2))) pq2
          · rcases List.mem_append.mp hq with h | h
            · exact oG q h
            · rw [List.mem_singleton.mp h]
              exact ⟨ql2, qok2⟩
      · rintro σ G ⟨acc, ps, kv, rfl, hpG, kG, hG, hbG, hnG, pG, aG, lG, oG⟩
        refine ⟨_, rfl, _, rfl, _, rfl, sz (by decide : 3 ≤ 1000), fun l hl => ?_⟩
        have s6 := same_new hl (.lst [bv, .ref na, .ref p])
        have tk := TupK.of s6
        refine k l bv (.ref na) (.ref p) ns qs ps _ (fun b o hb e => ?_) (hG.same s6) upd_same ⟨hbG.mono tk, bok, ⟨na, nvs, rfl, s6 _ _ hnG, paired_mono (fun _ _ f => f.mono tk) pG⟩, by omega, by omega, qok⟩ ⟨p, acc, rfl, s6 _ _ hpG, paired_mono (fun _ _ f => f.mono tk) aG⟩ ⟨oG, by omega, by omega⟩
        have hbp : b ≠ p := fun z => by
          have e3 := b03 b o hb e
          rw [z, np] at e3
          cases e3
        exact s6 b o (kG b o hb hbp e)
end
end K67
namespace K67
open PySem PySem.Spec PyProof.Rows L2
theorem ord_sub {φ : Type} {t : Tr φ} {P P' : (φ → Fq) → Prop} (h : IsOrd t P) (k : ∀ a, P' a → P a) : IsOrd t P' :=
  ⟨fun a b ha hb => h.anti a b (k a ha) (k b hb), fun a b c ha hb hc => h.tran a b c (k a ha) (k b hb) (k c hc)⟩
theorem inPool_good {ns : List Str} {ps : List (List Fq)} (ok : PoolOk ns ps) : ∀ a, InPool ns ps a → Good a := fun a ⟨q, hq, e⟩ => by
  rw [e]
  exact valOf_good (ok.ok q hq).ok
section
variable {P : Program} {w : World} {K : PySem.W.Frag} {mg : Str → Option Value} {base : Heap}
/-- what an order must be -/
structure OrdOk (ns : List Str) (ps : List (List Fq)) (t : Tr Str) : Prop where
  ok : TrOk ns t
  deep : trD t ≤ 4
  ord : IsOrd t (InPool ns ps)
def spOrder : Sp := fun vs H Q _ => ∃ (hd ca : Addr) (bv nv pv : V) (ns : List Str) (qs : List Fq) (ps : List (List Fq)), vs = [.ref hd, bv, nv, pv] ∧ HandAt H hd ca ∧ Src H bv nv ns qs ∧ PoolAt H pv ps ∧ PoolOk ns ps ∧
  ∀ (v : V) (t : Tr Str) (H' : Hp), But hd H H' → HandAt H' hd ca → TrAt H' t v → OrdOk ns ps t → Q v H'
theorem sc_l_order : FnScope ["hand", "book", "numbers", "pool", "tree", "head"] ["hand", "book", "numbers", "pool"] (defScope s_l_order) := ⟨rfl, rfl, rfl, by decide +kernel, rfl, by decide +kernel, by decide +kernel⟩
theorem ok_l_order (T : Env K mg) : FnOk P w K mg base CX0 9 T.f_l_order T.fd_l_order ["hand", "book", "numbers", "pool"] spOrder := by
  refine T.l_order.fn.ok sc_l_order (fun vs H Q E h => ?_) (fun cdv A outer s H vs Q E hr h => ?_)
  · obtain ⟨_, _, _, _, _, _, _, _, rfl, _⟩ := h
    rfl
  · obtain ⟨hd, ca, bv, nv, pv_, ns, qs, ps, rfl, hh, hs, hp, po, k⟩ := h
    refine ⟨_, (pss_cons (ps_set (i := 4) sc_l_order.nd rfl (Or.inl rfl) (pe_call (ok_l_tree T 4) (hr.mono (by decide)) (by rfl) T.l_tree.mg T.l_tree.fn.kp T.l_tree.bd .nil pass0 (pa_cons (pv 0) (pa_cons (pv 1) (pa_cons (pv 2) (pa_cons pe_int pa_nil))))))
      (pss_cons (ps_if (PW.pt (pw_or (pt_cmpR op_gt (pe_callB call_len_seq (by rfl) T.b_len (by decide +kernel) (pa_cons (pe_call (ok_l_words T 7 (by decide)) (hr.mono (by decide)) (by rfl) T.l_words.mg T.l_words.fn.kp T.l_words.bd .nil pass0 (pa_cons (pv 4) pa_nil)) pa_nil)) pe_int (nomark _)) (pw_or1 (pt_not (pt_val (pe_call (ok_l_is_order T) (hr.mono (by decide)) (by rfl) T.l_is_order.mg T.l_is_order.fn.kp T.l_is_order.bd .nil pass0 (pa_cons (pv 4) (pa_cons (pv 1) (pa_cons (pv 3) pa_nil)))))))))
      (pss_cons (ps_set (i := 5) sc_l_order.nd rfl (Or.inl rfl) (pe_lst (pa_cons (pe_ix ix_list (pe_lst (pa_cons pe_str (pa_cons pe_str pa_nil))) (pe_call (ok_l_draw T) (hr.mono (by decide)) (by rfl) T.l_draw.mg T.l_draw.fn.kp T.l_draw.bd .nil pass0 (pa_cons (pv 0) (pa_cons pe_int pa_nil))) (fun _ _ => rfl)) (pa_cons (pe_ix ix_tup (pv 1) (pe_call (ok_l_draw T) (hr.mono (by decide)) (by rfl) T.l_draw.mg T.l_draw.fn.kp T.l_draw.bd .nil pass0 (pa_cons (pv 0) (pa_cons (pe_callB call_len_seq (by rfl) T.b_len (by decide +kernel) (pa_cons (pv 1) pa_nil)) pa_nil))) (fun _ _ => rfl)) pa_nil))))
      (pss_one (ps_set (i := 4) sc_l_order.nd rfl (Or.inl rfl) (pe_lst (pa_cons pe_str (pa_cons (pv 5) (pa_cons (pe_lst (pa_cons pe_str (pa_cons (pe_lst (pa_cons pe_str (pa_cons (pe_ix ix_tup (pv 1) (pe_call (ok_l_draw T) (hr.mono (by decide)) (by rfl) T.l_draw.mg T.l_draw.fn.kp T.l_draw.bd .nil pass0 (pa_cons (pv 0) (pa_cons (pe_callB call_len_seq (by rfl) T.b_len (by decide +kernel) (pa_cons (pv 1) pa_nil)) pa_nil))) (fun _ _ => rfl)) pa_nil))) pa_nil))) pa_nil)))))))
      pss_nil)
      (pss_one (ps_ret (pv 4))))), ?_⟩
    refine ⟨_, rfl, _, rfl, _, rfl, hd, ca, bv, nv, ns, qs, 3, rfl, by decide, hh, hs, fun v t H1 b1 h1 ht ho hdp => ?_⟩
    have hs1 := hs.mono (b1.seqH hh)
    have hp1 := hp.mono (b1.seqH hh)
    have fall : ∀ (G : Hp) (x4 : V), Same H1 G → tSeq (tAsg (tLst (tCons (tOp (rIxL K) (tLst (tCons (tC (.str "up")) (tCons (tC (.str "down")) tNil))) (tCall spDraw [] E0 (tCons (tVar 0) (tCons (tC (.int 2)) tNil)))) (tCons (tOp (rIxT K) (tVar 1) (tCall spDraw [] E0 (tCons (tVar 0) (tCons (tCB (Evl.rLenS K) (tCons (tVar 1) tNil)) tNil)))) tNil))) (gName 5))
        (tAsg (tLst (tCons (tC (.str "then")) (tCons (tVar 5) (tCons (tLst (tCons (tC (.str "turn")) (tCons (tLst (tCons (tC (.str "up")) (tCons (tOp (rIxT K) (tVar 1) (tCall spDraw [] E0 (tCons (tVar 0) (tCons (tCB (Evl.rLenS K) (tCons (tVar 1) tNil)) tNil)))) tNil))) tNil))) tNil)))) (gName 4))
        { nx := fun σ' G' => tRet (tVar 4) { nx := fun _ H' => Q .non H', rt := Q } σ' G', rt := Q } [some (.ref hd), some bv, some nv, some pv_, some x4, none] G := by
      intro G x4 sG
      have hG := h1.same sG
      have hsG := hs1.mono (SeqK.of sG)
      refine rd_two (x := "up") (y := "down") rfl hG fun b H2 b2 h2 => ?_
      have hs2 := hsG.mono (b2.seqH hG)
      refine rd_field rfl rfl hs2.book hs2.bok h2 fun f H3 b3 h3 hf => ?_
      have hs3 := hs2.mono (b3.seqH h2)
      refine ⟨sz (by decide : 2 ≤ 1000), fun p np => ?_⟩
      have s4 := same_new np (.lst [V.str (if b then "down" else "up"), .str f])
      have h4 := h3.same s4
      refine ⟨_, rfl, ?_⟩
      refine rd_field rfl rfl (hs3.book.mono (TupK.of s4)) hs3.bok h4 fun g H5 b5 h5 hg => ?_
      have p5 := (b5.seqH h4).lst _ _ (upd_same (H := H3) (a := p))
      refine ⟨sz (by decide : 2 ≤ 1000), fun p6 np6 => ?_⟩
      have s6 := same_new np6 (.lst [V.str "up", .str g])
      refine ⟨sz (by decide : 2 ≤ 1000), fun p7 np7 => ?_⟩
      have s7 := same_new np7 (.lst [V.str "turn", .ref p6])
      refine ⟨sz (by decide : 3 ≤ 1000), fun p8 np8 => ?_⟩
      have s8 := same_new np8 (.lst [V.str "then", .ref p, .ref p7])
      have s58 := (s6.trans s7).trans s8
      refine ⟨_, rfl, ?_⟩
      have hgood := inPool_good po
      refine k (.ref p8) (.thn (if b then .down f else .up f) (.turn (.up g))) _ (((((b1.trans (But.of sG)).trans b2).trans b3).trans (But.of s4)).trans (b5.trans (But.of s58))) (h5.same s58) ⟨p8, .ref p, .ref p7, rfl, upd_same, ?_, ⟨p7, .ref p6, rfl, s8 _ _ upd_same, ⟨p6, rfl, (s7.trans s8) _ _ upd_same⟩⟩⟩ ⟨⟨?_, hg⟩, ?_, ?_⟩
      · cases b with
        | true => exact ⟨p, rfl, s58 _ _ p5⟩
        | false => exact ⟨p, rfl, s58 _ _ p5⟩
      · cases b with
        | true => exact hf
        | false => exact hf
      · cases b with
        | true => show 3 ≤ 4; decide
        | false => show 3 ≤ 4; decide
      · cases b with
        | true => exact ord_sub (ord_thn (ord_down f) (ord_turn (ord_up g))) hgood
        | false => exact ord_sub (ord_thn (ord_up f) (ord_turn (ord_up g))) hgood
    -- the words
    refine ⟨_, rfl, v, _, rfl, Flat.le (TrAt.flat ho ht) (by omega), fun r us H2 s2 hr0 hus _ => ?_⟩
    refine ⟨r, us, rfl, .inl (SqL.of hus), ?_⟩
    refine ⟨_, _, rfl, rfl, _, rfl, ?_⟩
    by_cases c : (39 : Int) < (us.length : Int)
    · refine ifT c (iteT ?_)
      exact fall H2 v s2
    · refine ifF c ?_
      have tk := TupK.of s2
      refine ⟨_, rfl, _, rfl, _, rfl, v, bv, pv_, ns, ps, t, rfl, ht.mono (SeqK.of s2), hs1.book.mono tk, hp1.mono (SeqK.of s2), po, ho, hdp, fun b H3 s3 hb => ?_⟩
      refine ⟨b, rfl, ?_⟩
      cases b with
      | true =>
        refine iteF ?_
        exact ⟨_, rfl, k v t H3 (b1.trans (But.of (s2.trans s3))) (h1.same (s2.trans s3)) (ht.mono (SeqK.of (s2.trans s3))) ⟨ho, hdp, hb rfl⟩⟩
      | false =>
        refine iteT ?_
        exact fall H3 v (s2.trans s3)
end
end K67

set_option Elab.async false
set_option linter.all false
set_option maxRecDepth 100000
set_option maxHeartbeats 4000000
/-! The shelf, and Shelf.found. -/
namespace K67
open PySem PySem.Spec PyProof.Rows L2
/-- the shelf's addresses, and what it was made of -/
structure ShS where
  x : Addr
  dx : Addr
  oa : Addr
  td : Addr
  la : Addr
  bv : V
  ras : List Addr
  ovs : List V
  ns : List Str
  ts : List (Tr Str)
  ps : List (List Fq)
def shF (S : ShS) (g : Int) : List (Str × V) := [("orders", .ref S.oa), ("book", S.bv), ("things", .ref S.td), ("given", .int g), ("lists", .ref S.la)]
def tbK (tb : List (Int × V)) : List (Key × V) := tb.map fun p => (Sum.inl p.1, p.2)
theorem tbK_val : ∀ {tb : List (Int × V)} {n : Int} {v : V}, (tb.map (·.1)).Nodup → (n, v) ∈ tb → valV (tbK tb) (.inl n) = some v
  | [], _, _, _, h => by simp at h
  | (m, u) :: tb, n, v, nd, h => by
    rw [List.map_cons, List.nodup_cons] at nd
    show valV ((Sum.inl m, u) :: tbK tb) (.inl n) = some v
    by_cases e : m = n
    · subst e
      rw [valV_pos (p := (Sum.inl m, u)) rfl]
      rcases List.mem_cons.mp h with h | h
      · cases h
        rfl
      · exact absurd (List.mem_map.mpr ⟨(m, v), h, rfl⟩) nd.1
    · rw [valV_neg (p := (Sum.inl m, u)) (fun z => e (Sum.inl.inj z))]
      rcases List.mem_cons.mp h with h | h
      · cases h
        exact absurd rfl e
      · exact tbK_val nd.2 h
theorem tbK_no : ∀ {tb : List (Int × V)} {n : Int}, n ∉ tb.map (·.1) → valV (tbK tb) (.inl n) = none
  | [], _, _ => rfl
  | (m, u) :: tb, n, h => by
    rw [List.map_cons, List.mem_cons] at h
    show valV ((Sum.inl m, u) :: tbK tb) (.inl n) = none
    rw [valV_neg (p := (Sum.inl m, u)) (fun z => h (.inl (Sum.inl.inj z).symm))]
    exact tbK_no fun z => h (.inr z)
/-- the words that found is asked for, and what they mean -/
def fwords (lk : Bool) : List V := if lk then [.str "ahead", .str "like"] else [.str "ahead"]
def fcut (t : Tr Str) (ns : List Str) (tq : Int → List Fq) (q : List Fq) (lk : Bool) : Int → Bool := fun n => if lk then decide (side t (valOf ns (tq n)) (valOf ns q) < 1) else decide (side t (valOf ns (tq n)) (valOf ns q) = -1)
theorem tell_in (lk : Bool) {i : Int} (h : i = -1 ∨ i = 0 ∨ i = 1) : inV (.str (tellS i)) (fwords lk) = if lk then decide (i < 1) else decide (i = -1) := by
  rcases h with rfl | rfl | rfl <;> cases lk <;> decide +kernel
section
variable {P : Program} {w : World} {K : PySem.W.Frag} {mg : Str → Option Value} {base : Heap}
/-- what found needs of the shelf -/
structure Fnd (C : Addr) (H : Hp) (S : ShS) (i : Nat) (t : Tr Str) (row : List Int) (tq : Int → List Fq) (g : Int) (tb : List (Int × V)) : Prop where
  inst : H S.x = some (.ins C S.dx (shF S g))
  ords : ∃ ov, H S.oa = some (.lst S.ovs) ∧ S.ovs[i]? = some ov ∧ OrdAt H ov (trW t)
  book : NamesAt H S.bv S.ns
  rw_ : ∃ ra, H S.la = some (.lst (S.ras.map V.ref)) ∧ S.ras[i]? = some ra ∧ H ra = some (.lst (row.map V.int))
  dict : H S.td = some (.dK (tbK tb))
  mem : ∀ n ∈ row, ∃ v, valV (tbK tb) (.inl n) = some v ∧ ThingAt H v (tq n) ∧ ThOk S.ns (tq n)
  tok : TrOk S.ns t
  deep : trD t ≤ 4
  len : row.length ≤ 100
theorem Fnd.mono {C : Addr} {H H' : Hp} {S : ShS} {i : Nat} {t : Tr Str} {row : List Int} {tq : Int → List Fq} {g : Int} {tb : List (Int × V)} (f : Fnd C H S i t row tq g tb) (s : Same H H') : Fnd C H' S i t row tq g tb :=
  ⟨s _ _ f.inst, let ⟨ov, a, b, c⟩ := f.ords; ⟨ov, s _ _ a, b, c.mono (TupK.of s)⟩, f.book.mono (TupK.of s), let ⟨ra, a, b, c⟩ := f.rw_; ⟨ra, s _ _ a, b, s _ _ c⟩, s _ _ f.dict,
    fun n hn => let ⟨v, a, b, c⟩ := f.mem n hn; ⟨v, a, b.mono (TupK.of s), c⟩, f.tok, f.deep, f.len⟩
/-- self.f -/
theorem rd_self {σ : L2.St} {H : Hp} {Q : VK} {C x dx : Addr} {fs : List (Str × V)} {f : Str} {v : V} {j : Nat} (h0 : σ[j]? = some (some (.ref x))) (hi : H x = some (.ins C dx fs)) (cl : Cls K C) (na : NoAttr K C f) (hl : fs.lookup f = some v) (q : Q v H) : tFld K (tVar j) f σ H Q :=
  ⟨_, h0, _, _, _, _, _, rfl, hi, cl, na, hl, q⟩
def spFound (C : Addr) : Sp := fun vs H Q _ => ∃ (S : ShS) (i : Nat) (t : Tr Str) (row : List Int) (tq : Int → List Fq) (g : Int) (tb : List (Int × V)) (tv : V) (wa : Addr) (q : List Fq) (lk : Bool) (k : Nat),
  vs = [.ref S.x, .int (i : Int), tv, .ref wa] ∧ Fnd C H S i t row tq g tb ∧ ThingAt H tv q ∧ ThOk S.ns q ∧ H wa = some (.tup (fwords lk)) ∧ Cut (fcut t S.ns tq q lk) row k ∧ ∀ H', Same H H' → Q (.int (k : Int)) H'
theorem sc_Shelf_found : FnScope ["self", "which", "thing", "words", "low", "high", "half", "there"] ["self", "which", "thing", "words"] (defScope s_Shelf_found) := ⟨rfl, rfl, rfl, by decide +kernel, rfl, by decide +kernel, by decide +kernel⟩
theorem ok_Shelf_found (T : Env K mg) : FnOk P w K mg base CX0 12 T.f_Shelf_found T.fd_Shelf_found ["self", "which", "thing", "words"] (spFound T.CShelf) := by
  refine T.Shelf_found.fn.ok sc_Shelf_found (fun vs H Q E h => ?_) (fun cdv A outer s H vs Q E hr h => ?_)
  · obtain ⟨_, _, _, _, _, _, _, _, _, _, _, _, rfl, _⟩ := h
    rfl
  · obtain ⟨S, i, t, row, tq, g, tb, tv, wa, q, lk, k, rfl, fd, ht, ho, hw, hcut, kk⟩ := h
    refine ⟨_, (pss_cons (ps_set (i := 4) sc_Shelf_found.nd rfl (Or.inl rfl) pe_int)
      (pss_cons (ps_set (i := 5) sc_Shelf_found.nd rfl (Or.inl rfl) (pe_callB call_len_seq (by rfl) T.b_len (by decide +kernel) (pa_cons (pe_ix ix_list (pe_fld (pv 0) rfl) (pv 1) (fun _ _ => rfl)) pa_nil)))
      (pss_cons (ps_while PassesOwn.never (pt_cmpR op_lt (pv 4) (pv 5) (nomark _))
      (pss_cons (ps_set (i := 6) sc_Shelf_found.nd rfl (Or.inl rfl) (pe_op op_fdiv (pe_op op_add (pv 4) (pv 5)) pe_int))
      (pss_cons (ps_set (i := 7) sc_Shelf_found.nd rfl (Or.inl rfl) (pe_dget (hu_of hr) (pe_fld (pv 0) rfl) (pe_ix ix_list (pe_ix ix_list (pe_fld (pv 0) rfl) (pv 1) (fun _ _ => rfl)) (pv 6) (fun _ _ => rfl)) (fun _ _ => rfl)))
      (pss_one (ps_if (pt_cmpR op_in_seq (pe_call (ok_looked T) (hr.mono (by decide)) (by rfl) T.looked.mg T.looked.fn.kp T.looked.bd .nil pass0 (pa_cons (pe_ix ix_list (pe_fld (pv 0) rfl) (pv 1) (fun _ _ => rfl)) (pa_cons (pe_fld (pv 0) rfl) (pa_cons (pv 7) (pa_cons (pv 2) pa_nil))))) (pv 3) (by rfl))
      (pss_one (ps_set (i := 4) sc_Shelf_found.nd rfl (Or.inl rfl) (pe_op op_add (pv 6) pe_int)))
      (pss_one (ps_set (i := 5) sc_Shelf_found.nd rfl (Or.inl rfl) (pv 6))))))))
      (pss_one (ps_ret (pv 4)))))), ?_⟩
    have kl := hcut.1
    have ln := fd.len
    obtain ⟨ra, hla, hra, hrow⟩ := fd.rw_
    have atra : atI (S.ras.map V.ref) (i : Int) = some (.ref ra) := atI_nat (by rw [List.getElem?_map, hra]; rfl)
    refine ⟨_, rfl, _, _, _, _, _, rfl, fd.inst, T.clShelf, T.nShelf_lists, rfl, ?_⟩
    refine ⟨_, rfl, S.la, _, _, _, rfl, rfl, SqL.of hla, atra, ra, _, rfl, .inl (SqL.of hrow), ?_⟩
    rw [List.length_map]
    refine while_by (fun σ G => Same H G ∧ ∃ (lo hi : Nat) (h6 h7 : Option V), σ = [some (.ref S.x), some (.int (i : Int)), some tv, some (.ref wa), some (.int (lo : Int)), some (.int (hi : Int)), h6, h7] ∧ lo ≤ k ∧ k ≤ hi ∧ hi ≤ row.length)
      (fun σ _ => match σ with | [_, _, _, _, some (.int lo), some (.int hi), _, _] => (hi - lo).toNat | _ => 0) ⟨Same.refl H, 0, row.length, none, none, rfl, Nat.zero_le _, kl, Nat.le_refl _⟩ ?_ (fun σ G Q1 Q2 hQ ⟨v, e1, u, e2, i, j, e3, e4, c, e5, z⟩ => ⟨v, e1, u, e2, i, j, e3, e4, c, e5, hQ _ _ z⟩)
    rintro σ G ⟨sG, lo, hi, h6, h7, rfl, l1, l2, l3⟩
    have fG := fd.mono sG
    refine ⟨_, rfl, _, rfl, _, _, rfl, rfl, _, rfl, ?_⟩
    by_cases hlt : (lo : Int) < (hi : Int)
    · refine ifT hlt ?_
      -- half
      have half : ∃ hf : Nat, ((lo : Int) + (hi : Int)) / 2 = (hf : Int) ∧ lo ≤ hf ∧ hf < hi := ⟨((lo + hi) / 2), by omega, by omega, by omega⟩
      obtain ⟨hf, ehf, hf1, hf2⟩ := half
      obtain ⟨n, hn⟩ : ∃ n, row[hf]? = some n := ⟨_, List.getElem?_eq_getElem (by omega)⟩
      obtain ⟨v, hv, htv, hto⟩ := fG.mem n (List.mem_of_getElem? hn)
      refine ⟨_, rfl, _, rfl, _, _, rfl, rfl, _, _, rfl, rfl, ⟨by decide, by decide⟩, ?_⟩
      refine gn ?_
      show tSeq _ _ _ [some (.ref S.x), some (.int (i : Int)), some tv, some (.ref wa), some (.int (lo : Int)), some (.int (hi : Int)), some (.int (((lo : Int) + (hi : Int)) / 2)), h7] G
      rw [ehf]
      refine ⟨_, rfl, _, _, _, _, _, rfl, fG.inst, T.clShelf, T.nShelf_things, rfl, ?_⟩
      refine ⟨_, rfl, _, _, _, _, _, rfl, fG.inst, T.clShelf, T.nShelf_lists, rfl, ?_⟩
      refine ⟨_, rfl, S.la, _, _, _, rfl, rfl, SqL.of (sG _ _ hla), atra, ?_⟩
      refine ⟨_, rfl, ra, _, _, _, rfl, rfl, SqL.of (sG _ _ hrow), atI_nat (by rw [List.getElem?_map, hn]; rfl), ?_⟩
      have dg := DGet.k (k := Sum.inl n) fG.dict
      rw [hv] at dg
      refine ⟨S.td, v, rfl, dg, ?_⟩
      -- looked
      obtain ⟨ov, ho1, ho2, ho3⟩ := fG.ords
      refine ⟨_, rfl, _, _, _, _, _, rfl, fG.inst, T.clShelf, T.nShelf_orders, rfl, ?_⟩
      refine ⟨_, rfl, S.oa, _, _, _, rfl, rfl, SqL.of ho1, atI_nat ho2, ?_⟩
      refine ⟨_, rfl, _, _, _, _, _, rfl, fG.inst, T.clShelf, T.nShelf_book, rfl, ?_⟩
      refine ⟨_, rfl, _, rfl, ov, S.bv, v, tv, S.ns, tq n, q, t, rfl, ho3, fG.book, htv, ht.mono (TupK.of sG), hto, ho, fd.tok, fd.deep, fun G2 s2 => ?_⟩
      have sG2 := sG.trans s2
      refine ⟨_, rfl, wa, _, rfl, .inr (SqT.of (sG2 _ _ hw)), rfl, (by cases lk <;> rfl), _, rfl, ?_⟩
      have tl := tell_in lk (side_range t (valOf S.ns (tq n)) (valOf S.ns q))
      have cc := hcut.2 hf n hn
      have cc' : inV (.str (tellS (side t (valOf S.ns (tq n)) (valOf S.ns q)))) (fwords lk) = true ↔ hf < k := by
        rw [tl]
        have e : fcut t S.ns tq q lk n = if lk then decide (side t (valOf S.ns (tq n)) (valOf S.ns q) < 1) else decide (side t (valOf S.ns (tq n)) (valOf S.ns q) = -1) := rfl
        rw [← e]
        exact cc
      by_cases c : inV (.str (tellS (side t (valOf S.ns (tq n)) (valOf S.ns q)))) (fwords lk) = true
      · have := cc'.mp c
        rw [if_neg Bool.false_ne_true, c]
        refine iteT ?_
        refine ⟨_, rfl, _, _, rfl, rfl, ⟨sG2, hf + 1, hi, _, _, rfl, by omega, l2, l3⟩, ?_⟩
        show ((hi : Int) - ((hf : Int) + 1)).toNat < ((hi : Int) - (lo : Int)).toNat
        omega
      · have : ¬ hf < k := fun z => c (cc'.mpr z)
        rw [if_neg Bool.false_ne_true, Bool.eq_false_iff.mpr c]
        refine iteF ?_
        refine ⟨_, rfl, ⟨sG2, lo, hf, _, _, rfl, l1, by omega, by omega⟩, ?_⟩
        show ((hf : Int) - (lo : Int)).toNat < ((hi : Int) - (lo : Int)).toNat
        omega
    · refine ifF hlt ?_
      have e : lo = k := by omega
      subst e
      exact ⟨_, rfl, kk _ sG⟩
end
end K67

set_option Elab.async false
set_option linter.all false
set_option maxRecDepth 100000
set_option maxHeartbeats 4000000
/-! Shelf.__init__, stand, put. -/
namespace K67
open PySem PySem.Spec PyProof.Rows L2
theorem paired_eq {A : Prop} : ∀ {ys xs : List V}, Paired (fun y x => A ∧ y = x) ys xs → ys = xs
  | _, _, .nil => rfl
  | _, _, .cons ⟨_, e⟩ t => by rw [e, paired_eq t]
theorem paired_of_get {α β : Type} {R : α → β → Prop} : ∀ {l : List α} {m : List β}, l.length = m.length → (∀ (i : Nat) x y, l[i]? = some x → m[i]? = some y → R x y) → Paired R l m
  | [], [], _, _ => .nil
  | [], _ :: _, h, _ => by simp at h
  | _ :: _, [], h, _ => by simp at h
  | x :: l, y :: m, h, k => .cons (k 0 x y rfl rfl) (paired_of_get (Nat.succ.inj h) fun i a b ha hb => k (i + 1) a b ha hb)
theorem rep_nil {R : Addr → Prop} : ∀ {ras : List Addr}, (∀ a ∈ ras, R a) → Paired (fun a (r : List Int) => R a ∧ r = []) ras (List.replicate ras.length [])
  | [], _ => .nil
  | a :: l, h => .cons ⟨h a List.mem_cons_self, rfl⟩ (rep_nil fun b hb => h b (List.mem_cons_of_mem _ hb))
section
variable {P : Program} {w : World} {K : PySem.W.Frag} {mg : Str → Option Value} {base : Heap}
/-- a new shelf -/
structure NewSh (C : Addr) (H H' : Hp) (S : ShS) : Prop where
  but : But S.x H H'
  inst : H' S.x = some (.ins C S.dx (shF S 0))
  oa : H' S.oa = some (.lst S.ovs)
  td : H' S.td = some (.dK [])
  la : H' S.la = some (.lst (S.ras.map V.ref))
  ras : ∀ a ∈ S.ras, H' a = some (.lst [])
  nd : S.ras.Nodup
  oa0 : H S.oa = none
  td0 : H S.td = none
  la0 : H S.la = none
  ra0 : ∀ a ∈ S.ras, H a = none
  len : S.ras.length = S.ovs.length
def spShInit (C : Addr) : Sp := fun vs H Q _ => ∃ (x dx oa0 : Addr) (bv : V) (ovs : List V) (ns : List Str), vs = [.ref x, .ref oa0, bv] ∧ H x = some (.ins C dx []) ∧ H oa0 = some (.lst ovs) ∧ (∀ v ∈ ovs, ∃ a us, v = .ref a ∧ H a = some (.tup us)) ∧ NamesAt H bv ns ∧ ovs.length ≤ 5 ∧
  ∀ (S : ShS) (H' : Hp), S.x = x → S.dx = dx → S.bv = bv → S.ovs = ovs → NewSh C H H' S → Q .non H'
theorem sc_Shelf_init : FnScope ["self", "orders", "book", "order"] ["self", "orders", "book"] (defScope s_Shelf_init) := ⟨rfl, rfl, rfl, by decide +kernel, rfl, by decide +kernel, by decide +kernel⟩
def tTupOf (K : PySem.W.Frag) (j : Nat) : TE := tCB (fun xs H Q => ∃ p ys, xs = [.ref p] ∧ ((SqL K H p ys ∧ ∀ l, H l = none → Q (.ref l) (upd H l (.tup ys))) ∨ (SqT K H p ys ∧ Q (.ref p) H))) (tCons (tVar j) tNil)
theorem ok_Shelf_init (T : Env K mg) : FnOk P w K mg base CX0 1 T.f_Shelf_init T.fd_Shelf_init ["self", "orders", "book"] (spShInit T.CShelf) := by
  refine T.Shelf_init.fn.ok sc_Shelf_init (fun vs H Q E h => ?_) (fun cdv A outer s H vs Q E hr h => ?_)
  · obtain ⟨_, _, _, _, _, _, rfl, _⟩ := h
    rfl
  · obtain ⟨x, dx, oa0, bv, ovs, ns, rfl, hx, ho, hov, hb, hl, k⟩ := h
    refine ⟨_, (pss_cons (ps_fld (pv 0) (pe_lc (own := [("order", 3)]) (g := gName 3) (tt := tYes) (te := tTupOf K 3) rfl sc_Shelf_init.nd (pi_list (pv 1)) (blkOk_by (own := [("order", 3)]) (N := ["self", "orders", "book", "order"]) (sc := defScope s_Shelf_init) (by decide +kernel)) (fun _ _ _ _ _ => pg_name (i := 3) sc_Shelf_init.nd rfl (Or.inl rfl)) (fun _ _ _ _ _ => pts_nil) (fun _ _ _ _ _ => (pe_callTy call_tuple_of (by rfl) T.b_tuple (by decide +kernel) (pa_cons (pv 3) pa_nil)))) rfl)
      (pss_cons (ps_fld (pv 0) (pe_callTy call_tuple_of (by rfl) T.b_tuple (by decide +kernel) (pa_cons (pv 2) pa_nil)) rfl)
      (pss_cons (ps_fld (pv 0) pe_dnewK rfl)
      (pss_cons (ps_fld (pv 0) pe_int rfl)
      (pss_one (ps_fld (pv 0) (pe_lc (own := [("order", 3)]) (g := gName 3) (tt := tYes) (te := tLst tNil) rfl sc_Shelf_init.nd (pi_list (pe_fld (pv 0) rfl)) (blkOk_by (own := [("order", 3)]) (N := ["self", "orders", "book", "order"]) (sc := defScope s_Shelf_init) (by decide +kernel)) (fun _ _ _ _ _ => pg_name (i := 3) sc_Shelf_init.nd rfl (Or.inl rfl)) (fun _ _ _ _ _ => pts_nil) (fun _ _ _ _ _ => (pe_lst pa_nil))) rfl)))))), ?_⟩
    have seq_fld : ∀ {te tv : TE} {f : Str} {tb : TS} {D : Ends} {σ : L2.St} {G : Hp}, (tv σ G fun y H1 => te σ H1 fun z H2 => ∃ a C dx fs, z = .ref a ∧ H2 a = some (.ins C dx fs) ∧ Cls K C ∧ NoAttr K C f ∧ fs.length < 1000 ∧ tb D σ (upd H2 a (.ins C dx (putF f y fs)))) → tSeq (sFld K te tv f) tb D σ G := fun h => h
    refine seq_fld ?_
    refine lc_of_list (a := oa0) (xs := ovs) (p := fun _ => true) (F := fun G y z => Same H G ∧ y = z) (R := Same H) (S := fun G G2 => Same G G2) (lck_same (fun _ _ _ _ _ f => f) (fun _ _ _ _ _ _ _ _ _ _ f => f)) (fun R' r => ⟨_, rfl, oa0, rfl, ⟨_, SqL.of ho⟩, r⟩) (fun G r => SqL.of (r _ _ ho)) (by omega) (fun x G Q' hx hR q => q G (Same.refl G)) (fun z G Q' hz _ hR q => ?_) ?_
    · obtain ⟨a, us, rfl, ha⟩ := hov z hz
      exact ⟨_, rfl, a, us, rfl, .inr ⟨SqT.of (hR _ _ ha), q _ G (Same.refl G) ⟨hR, rfl⟩⟩⟩
    · intro oa ys H1 hoa0 hoa s1 hP
      rw [filter_all] at hP
      cases (paired_eq (A := Same H H1) hP)
      -- orders
      have hx1 := s1 _ _ hx
      refine ⟨_, rfl, x, _, dx, _, rfl, hx1, T.clShelf, T.nShelf_orders, by decide, ?_⟩
      have oax : oa ≠ x := fun z => by
        rw [z, hx] at hoa0
        cases hoa0
      have b2 : But x H (upd H1 x (.ins T.CShelf dx (putF "orders" (.ref oa) []))) := (But.of s1).trans But.upd
      have hoa2 : upd H1 x (.ins T.CShelf dx (putF "orders" (.ref oa) [])) oa = some (.lst ovs) := by rw [upd_ne oax]; exact hoa
      have hx2 : upd H1 x (.ins T.CShelf dx (putF "orders" (.ref oa) [])) x = some (.ins T.CShelf dx [("orders", .ref oa)]) := upd_same
      generalize upd H1 x (.ins T.CShelf dx (putF "orders" (.ref oa) [])) = H2 at b2 hoa2 hx2
      -- book
      have xt : ∀ {xs : List V}, HO.ins T.CShelf dx [] ≠ .tup xs := fun z => nomatch z
      obtain ⟨ba, ob, rfl, hba, hob⟩ := hb
      have hba2 := (b2.seqI hx).tup.frz _ _ _ hba
      refine ⟨_, rfl, ba, _, rfl, .inr ⟨names_sq hba2, ?_⟩⟩
      refine ⟨_, rfl, x, _, dx, _, rfl, hx2, T.clShelf, T.nShelf_book, (by show 1 < 1000; decide), ?_⟩
      have b3 : But x H (upd H2 x (.ins T.CShelf dx (putF "book" (.ref ba) [("orders", .ref oa)]))) := b2.trans But.upd
      have hoa3 : upd H2 x (.ins T.CShelf dx (putF "book" (.ref ba) [("orders", .ref oa)])) oa = some (.lst ovs) := by rw [upd_ne oax]; exact hoa2
      have hx3 : upd H2 x (.ins T.CShelf dx (putF "book" (.ref ba) [("orders", .ref oa)])) x = some (.ins T.CShelf dx [("orders", .ref oa), ("book", .ref ba)]) := upd_same
      generalize upd H2 x (.ins T.CShelf dx (putF "book" (.ref ba) [("orders", .ref oa)])) = H3 at b3 hoa3 hx3
      -- things
      refine fun td ntd => ?_
      have s4 := same_new ntd (.dK [])
      have hx4 := s4 _ _ hx3
      refine ⟨_, rfl, x, _, dx, _, rfl, hx4, T.clShelf, T.nShelf_things, (by show 2 < 1000; decide), ?_⟩
      have tdx : td ≠ x := fun z => by
        rw [z, hx3] at ntd
        cases ntd
      have td0 : H td = none := b3.free hx3 ntd tdx
      have b5 : But x H (upd (upd H3 td (.dK [])) x (.ins T.CShelf dx (putF "things" (.ref td) [("orders", .ref oa), ("book", .ref ba)]))) := (b3.trans (But.of s4)).trans But.upd
      have hoa5 : upd (upd H3 td (.dK [])) x (.ins T.CShelf dx (putF "things" (.ref td) [("orders", .ref oa), ("book", .ref ba)])) oa = some (.lst ovs) := by rw [upd_ne oax]; exact s4 _ _ hoa3
      have htd5 : upd (upd H3 td (.dK [])) x (.ins T.CShelf dx (putF "things" (.ref td) [("orders", .ref oa), ("book", .ref ba)])) td = some (.dK []) := by rw [upd_ne tdx]; exact upd_same
      have hx5 : upd (upd H3 td (.dK [])) x (.ins T.CShelf dx (putF "things" (.ref td) [("orders", .ref oa), ("book", .ref ba)])) x = some (.ins T.CShelf dx [("orders", .ref oa), ("book", .ref ba), ("things", .ref td)]) := upd_same
      generalize upd (upd H3 td (.dK [])) x (.ins T.CShelf dx (putF "things" (.ref td) [("orders", .ref oa), ("book", .ref ba)])) = H5 at b5 hoa5 htd5 hx5
      -- given
      refine ⟨_, rfl, x, _, dx, _, rfl, hx5, T.clShelf, T.nShelf_given, (by show 3 < 1000; decide), ?_⟩
      have b6 : But x H (upd H5 x (.ins T.CShelf dx (putF "given" (.int 0) [("orders", .ref oa), ("book", .ref ba), ("things", .ref td)]))) := b5.trans But.upd
      have hoa6 : upd H5 x (.ins T.CShelf dx (putF "given" (.int 0) [("orders", .ref oa), ("book", .ref ba), ("things", .ref td)])) oa = some (.lst ovs) := by rw [upd_ne oax]; exact hoa5
      have htd6 : upd H5 x (.ins T.CShelf dx (putF "given" (.int 0) [("orders", .ref oa), ("book", .ref ba), ("things", .ref td)])) td = some (.dK []) := by rw [upd_ne tdx]; exact htd5
      have hx6 : upd H5 x (.ins T.CShelf dx (putF "given" (.int 0) [("orders", .ref oa), ("book", .ref ba), ("things", .ref td)])) x = some (.ins T.CShelf dx [("orders", .ref oa), ("book", .ref ba), ("things", .ref td), ("given", .int 0)]) := upd_same
      generalize upd H5 x (.ins T.CShelf dx (putF "given" (.int 0) [("orders", .ref oa), ("book", .ref ba), ("things", .ref td)])) = H6 at b6 hoa6 htd6 hx6
      -- lists
      have last : ∀ (la : Addr) (ras : List Addr) (G : Hp), H6 la = none → Same H6 G → G la = some (.lst (ras.map V.ref)) → ras.length = ovs.length → ras.Nodup → (∀ a ∈ ras, H6 a = none ∧ G a = some (.lst [])) →
          ∃ a C d fs, V.ref x = .ref a ∧ G a = some (.ins C d fs) ∧ Cls K C ∧ NoAttr K C "lists" ∧ fs.length < 1000 ∧ Q .non (upd G a (.ins C d (putF "lists" (.ref la) fs))) := by
        intro la ras G nla sG hla hlen hnd hra
        refine ⟨x, _, dx, _, rfl, sG _ _ hx6, T.clShelf, T.nShelf_lists, (by show 4 < 1000; decide), ?_⟩
        have nx : ∀ {b : Addr}, H6 b = none → b ≠ x := fun {b} nb z => by
          rw [z, hx6] at nb
          cases nb
        have n0 : ∀ {b : Addr}, H6 b = none → H b = none := fun {b} nb => b6.free hx6 nb (nx nb)
        refine k ⟨x, dx, oa, td, la, .ref ba, ras, ovs, [], [], []⟩ _ rfl rfl rfl rfl ⟨(b6.trans (But.of sG)).trans But.upd, upd_same, ?_, ?_, ?_, fun a ha => ?_, hnd, hoa0, td0, n0 nla, fun a ha => n0 (hra a ha).1, hlen⟩
        · show upd G x _ oa = some (.lst ovs)
          rw [upd_ne oax]
          exact sG _ _ hoa6
        · show upd G x _ td = some (.dK [])
          rw [upd_ne tdx]
          exact sG _ _ htd6
        · show upd G x _ la = some (.lst (ras.map V.ref))
          rw [upd_ne (nx nla)]
          exact hla
        · show upd G x _ a = some (.lst [])
          rw [upd_ne (nx (hra a ha).1)]
          exact (hra a ha).2
      refine ⟨_, rfl, _, _, _, _, _, rfl, hx6, T.clShelf, T.nShelf_orders, rfl, oa, rfl, ⟨_, SqL.of hoa6⟩, fun D hD => ?_⟩
      refine lc_list (K := K) (a := oa) (xs := ovs) (fun i G => ∃ ras : List Addr, G D = some (.lst (ras.map V.ref)) ∧ ras.length = i ∧ ras.Nodup ∧ (∀ a ∈ ras, a ≠ D ∧ H6 a = none ∧ G a = some (.lst [])) ∧ ∀ b o, b ≠ D → H6 b = some o → G b = some o)
        ⟨[], upd_same, rfl, List.nodup_nil, fun a ha => absurd ha (by simp), fun b o hb hh => by rw [upd_ne hb]; exact hh⟩ (fun i G _ ⟨_, _, _, _, _, kk⟩ => SqL.of (kk _ _ (fun z => by rw [← z, hoa6] at hD; cases hD) hoa6)) ?_ ?_
      · rintro i z G hz ⟨ras, hG, hlen, hnd, hra, kk⟩
        have il : i < ovs.length := (List.getElem?_eq_some_iff.mp hz).1
        refine ⟨rfl, ⟨sz (by decide : 0 ≤ 1000), fun p np => ?_⟩⟩
        have pD : p ≠ D := fun e => by
          rw [e, hG] at np
          cases np
        have pra : p ∉ ras := fun hm => by
          rw [(hra p hm).2.2] at np
          cases np
        have p6 : H6 p = none := by
          cases e : H6 p with
          | none => rfl
          | some o =>
            rw [kk p o pD e] at np
            cases np
        refine ⟨ras.map V.ref, by rw [upd_ne (Ne.symm pD)]; exact hG, sz' (by rw [List.length_map]; omega), ras ++ [p], ?_, by rw [List.length_append, hlen]; rfl, ?_, fun a ha => ?_, fun b o hb hh => ?_⟩
        · rw [upd_same, List.map_append]
          rfl
        · refine List.nodup_append.mpr ⟨hnd, by simp, fun a ha b hb e => ?_⟩
          rw [List.mem_singleton.mp hb] at e
          exact pra (e ▸ ha)
        · rcases List.mem_append.mp ha with h | h
          · obtain ⟨a1, a2, a3⟩ := hra a h
            refine ⟨a1, a2, ?_⟩
            have ap : a ≠ p := fun e => pra (e ▸ h)
            rw [upd_ne a1, upd_ne ap]
            exact a3
          · rw [List.mem_singleton.mp h]
            refine ⟨pD, p6, ?_⟩
            rw [upd_ne pD]
            exact upd_same
        · rw [upd_ne hb, upd_ne (ne_of_none hh p6)]
          exact kk b o hb hh
      · rintro G ⟨ras, hG, hlen, hnd, hra, kk⟩
        exact ⟨_, rfl, last D ras G hD (fun b o hh => kk b o (ne_of_none hh hD) hh) hG hlen hnd fun a ha => ⟨(hra a ha).2.1, (hra a ha).2.2⟩⟩
end
end K67

set_option Elab.async false
set_option linter.all false
set_option maxRecDepth 100000
set_option maxHeartbeats 4000000
/-! What a shelf holds; stand, put. -/
namespace K67
open PySem PySem.Spec PyProof.Rows L2
def thOf (ns : List Str) (tq : Int → List Fq) : Int → Str → Fq := fun n => valOf ns (tq n)
/-- what never changes: F holds it -/
structure Fix (F : Hp) (S : ShS) : Prop where
  ords : F S.oa = some (.lst S.ovs)
  ord : Paired (fun v t => OrdAt F v (trW t)) S.ovs S.ts
  book : NamesAt F S.bv S.ns
  lists : F S.la = some (.lst (S.ras.map V.ref))
  pool : PoolOk S.ns S.ps
  tok : ∀ t ∈ S.ts, OrdOk S.ns S.ps t
  len : S.ras.length = S.ts.length
  t1 : 1 ≤ S.ts.length
  t5 : S.ts.length ≤ 5
  nd : S.ras.Nodup
  x0 : F S.x = none
  td0 : F S.td = none
  ra0 : ∀ a ∈ S.ras, F a = none
/-- a row by an order -/
structure RowOk (ns : List Str) (tq : Int → List Fq) (tb : List (Int × V)) (t : Tr Str) (row : List Int) : Prop where
  srt : row.Pairwise (lt' t (thOf ns tq))
  mem : ∀ n, n ∈ row ↔ n ∈ tb.map (·.1)
/-- the things under their numbers -/
structure TbOk (F : Hp) (S : ShS) (tb : List (Int × V)) (tq : Int → List Fq) (bd : Int) : Prop where
  ths : ∀ p ∈ tb, ThingAt F p.2 (tq p.1) ∧ tq p.1 ∈ S.ps
  asc : (tb.map (·.1)).Pairwise (· < ·)
  lo : ∀ p ∈ tb, 0 ≤ p.1 ∧ p.1 < bd
  len : (tb.length : Int) ≤ bd
structure ShAt (C : Addr) (F : Hp) (S : ShS) (H : Hp) (tb : List (Int × V)) (tq : Int → List Fq) (bd g : Int) (rows : List (List Int)) : Prop where
  keep : Same F H
  inst : H S.x = some (.ins C S.dx (shF S g))
  dict : H S.td = some (.dK (tbK tb))
  rws : Paired (fun a row => H a = some (.lst (row.map V.int))) S.ras rows
  tbo : TbOk F S tb tq bd
  rok : Paired (RowOk S.ns tq tb) S.ts rows
/-- all but the shelf is kept -/
def Keep (S : ShS) (H H' : Hp) : Prop := ∀ b o, b ≠ S.x → b ≠ S.td → b ∉ S.ras → H b = some o → H' b = some o
theorem Keep.refl (S : ShS) (H : Hp) : Keep S H H := fun _ _ _ _ _ h => h
theorem Keep.trans {S : ShS} {H H1 H2 : Hp} (a : Keep S H H1) (b : Keep S H1 H2) : Keep S H H2 := fun c o h1 h2 h3 e => b c o h1 h2 h3 (a c o h1 h2 h3 e)
theorem Keep.of {S : ShS} {H H' : Hp} (s : Same H H') : Keep S H H' := fun b o _ _ _ e => s b o e
theorem Keep.fix {S : ShS} {F H H' : Hp} (fx : Fix F S) (s : Same F H) (k : Keep S H H') : Same F H' := fun b o e =>
  k b o (fun z => by rw [z, fx.x0] at e; cases e) (fun z => by rw [z, fx.td0] at e; cases e) (fun z => by rw [fx.ra0 b z] at e; cases e) (s b o e)
theorem ShAt.mono {C : Addr} {F : Hp} {S : ShS} {H H' : Hp} {tb : List (Int × V)} {tq : Int → List Fq} {bd g : Int} {rows : List (List Int)} (h : ShAt C F S H tb tq bd g rows) (s : Same H H') : ShAt C F S H' tb tq bd g rows :=
  ⟨h.keep.trans s, s _ _ h.inst, s _ _ h.dict, paired_mono (fun _ _ e => s _ _ e) h.rws, h.tbo, h.rok⟩
theorem tb_nodup {tb : List (Int × V)} (h : (tb.map (·.1)).Pairwise (· < ·)) : (tb.map (·.1)).Nodup := h.imp fun {a b} r e => by
  subst e
  exact absurd r (Int.lt_irrefl _)
theorem tb_mem {tb : List (Int × V)} {n : Int} (h : n ∈ tb.map (·.1)) : ∃ v, (n, v) ∈ tb := by
  obtain ⟨⟨m, v⟩, hm, e⟩ := List.mem_map.mp h
  cases (e : m = n)
  exact ⟨v, hm⟩
theorem inPool_at {ns : List Str} {ps : List (List Fq)} {q : List Fq} (h : q ∈ ps) : InPool ns ps (valOf ns q) := ⟨q, h, rfl⟩
theorem nodup_len {l m : List Int} (h : l.Nodup) (k : ∀ x ∈ l, x ∈ m) : l.length ≤ m.length := by
  have : ¬ m.length < l.length := fun z => by
    obtain ⟨x, hx, hn⟩ := out_of m l h z
    exact hn (k x hx)
  omega
/-- what is known of a row -/
theorem RowOk.facts {F : Hp} {S : ShS} {tb : List (Int × V)} {tq : Int → List Fq} {bd : Int} {t : Tr Str} {row : List Int} (r : RowOk S.ns tq tb t row) (b : TbOk F S tb tq bd) (o : OrdOk S.ns S.ps t) :
    (∀ n ∈ row, InPool S.ns S.ps (thOf S.ns tq n)) ∧ row.Nodup ∧ row.length ≤ tb.length := by
  have h1 : ∀ n ∈ row, InPool S.ns S.ps (thOf S.ns tq n) := fun n hn => by
    obtain ⟨v, hv⟩ := tb_mem ((r.mem n).mp hn)
    exact inPool_at (b.ths _ hv).2
  have h2 := row_nodup o.ord h1 r.srt
  refine ⟨h1, h2, ?_⟩
  have := nodup_len h2 (m := tb.map (·.1)) fun x hx => (r.mem x).mp hx
  rw [List.length_map] at this
  exact this
section
variable {P : Program} {w : World} {K : PySem.W.Frag} {mg : Str → Option Value} {base : Heap}
/-- found's needs, from the shelf -/
theorem fnd_of {C : Addr} {F H : Hp} {S : ShS} {i : Nat} {t : Tr Str} {row : List Int} {tq tq' : Int → List Fq} {g bd : Int} {tb : List (Int × V)} {ra : Addr} (fx : Fix F S) (s : Same F H) (hi : H S.x = some (.ins C S.dx (shF S g))) (hd : H S.td = some (.dK (tbK tb))) (b : TbOk F S tb tq bd)
    (ht : S.ts[i]? = some t) (hra : S.ras[i]? = some ra) (hrow : H ra = some (.lst (row.map V.int))) (hm : ∀ n ∈ row, n ∈ tb.map (·.1)) (hl : row.length ≤ 100) (e : ∀ n ∈ tb.map (·.1), tq' n = tq n) : Fnd C H S i t row tq' g tb := by
  have tk := TupK.of s
  obtain ⟨ov, hov, ho⟩ := paired_get' fx.ord ht
  have o := fx.tok t (List.mem_of_getElem? ht)
  refine ⟨hi, ⟨ov, s _ _ fx.ords, hov, ho.mono tk⟩, fx.book.mono tk, ⟨ra, s _ _ fx.lists, hra, hrow⟩, hd, fun n hn => ?_, o.ok, o.deep, hl⟩
  have hn' := hm n hn
  obtain ⟨v, hv⟩ := tb_mem hn'
  obtain ⟨h1, h2⟩ := b.ths _ hv
  rw [e n hn']
  exact ⟨v, tbK_val (tb_nodup b.asc) hv, h1.mono tk, fx.pool.ok _ h2⟩
def withQ (tq : Int → List Fq) (n : Int) (q : List Fq) : Int → List Fq := fun m => if m = n then q else tq m
theorem thOf_ne {ns : List Str} {tq : Int → List Fq} {n m : Int} {q : List Fq} (h : m ≠ n) : thOf ns (withQ tq n q) m = thOf ns tq m := by
  unfold thOf withQ
  rw [if_neg h]
theorem thOf_eq {ns : List Str} {tq : Int → List Fq} {n : Int} {q : List Fq} : thOf ns (withQ tq n q) n = valOf ns q := by
  unfold thOf withQ
  rw [if_pos rfl]
def spStand (C : Addr) : Sp := fun vs H Q _ => ∃ (F : Hp) (S : ShS) (tb : List (Int × V)) (tq : Int → List Fq) (n g : Int) (rows : List (List Int)) (tv : V) (q : List Fq),
  vs = [.ref S.x, .int n, tv] ∧ Fix F S ∧ ShAt C F S H tb tq n g rows ∧ ThingAt F tv q ∧ q ∈ S.ps ∧ 0 ≤ n ∧ n ≤ 50 ∧
  ∀ (H' : Hp) (rows' : List (List Int)), Keep S H H' → ShAt C F S H' (tb ++ [(n, tv)]) (withQ tq n q) (n + 1) g rows' → Q .non H'
theorem sc_Shelf_stand : FnScope ["self", "number", "thing", "which", "row", "place", "last"] ["self", "number", "thing"] (defScope s_Shelf_stand) := ⟨rfl, rfl, rfl, by decide +kernel, rfl, by decide +kernel, by decide +kernel⟩
/-- with the number put in -/
theorem RowOk.put {F : Hp} {S : ShS} {tb : List (Int × V)} {tq : Int → List Fq} {n : Int} {t : Tr Str} {row : List Int} {tv : V} {q : List Fq} {k : Nat} (r : RowOk S.ns tq tb t row) (b : TbOk F S tb tq n) (o : OrdOk S.ns S.ps t) (hq : q ∈ S.ps)
    (hc : Cut (fcut t S.ns (withQ tq n q) q true) row k) : RowOk S.ns (withQ tq n q) (tb ++ [(n, tv)]) t (row.take k ++ [n] ++ row.drop k) := by
  obtain ⟨f1, f2, f3⟩ := r.facts b o
  have lt : ∀ m ∈ row, m < n := fun m hm => by
    obtain ⟨v, hv⟩ := tb_mem ((r.mem m).mp hm)
    exact (b.lo _ hv).2
  have same : ∀ m ∈ row, thOf S.ns (withQ tq n q) m = thOf S.ns tq m := fun m hm => thOf_ne (Int.ne_of_lt (lt m hm))
  refine ⟨row_put (P := InPool S.ns S.ps) o.ord (by rw [thOf_eq]; exact inPool_at hq) (fun m hm => by rw [same m hm]; exact f1 m hm) (lt'_congr r.srt same) lt ?_, fun m => ?_⟩
  · rw [thOf_eq]
    exact hc
  · rw [mem_ins, r.mem m, List.map_append, List.mem_append]
    constructor
    · rintro (h | h)
      · exact .inr (List.mem_singleton.mpr h)
      · exact .inl h
    · rintro (h | h)
      · exact .inr h
      · exact .inl (List.mem_singleton.mp h)
theorem cut_le {p q : Int → Bool} {l : List Int} {k m : Nat} (hp : Cut p l k) (hq : Cut q l m) (h : ∀ x, p x = true → q x = true) : k ≤ m := by
  have : ¬ m < k := fun z => by
    have ml : m < l.length := Nat.lt_of_lt_of_le z hp.1
    have e := List.getElem?_eq_getElem ml
    have := (hq.2 m _ e).mp (h _ ((hp.2 m _ e).mpr z))
    omega
  omega
theorem shF_found {S : ShS} {g : Int} : (shF S g).lookup ("found" : Str) = none := rfl
theorem ras_set {G : Hp} {S : ShS} {cur : List (List Int)} {i : Nat} {ra : Addr} {row' : List Int} (h : Paired (fun a row => G a = some (.lst (row.map V.int))) S.ras cur) (nd : S.ras.Nodup) (hi : S.ras[i]? = some ra) :
    Paired (fun a row => upd G ra (.lst (row'.map V.int)) a = some (.lst (row.map V.int))) S.ras (cur.set i row') := by
  refine paired_of_get (by rw [List.length_set]; exact paired_len h) fun j a r ha hr => ?_
  by_cases e : i = j
  · subst e
    rw [hi] at ha
    cases ha
    have il : i < cur.length := by
      rw [← paired_len h]
      exact (List.getElem?_eq_some_iff.mp hi).1
    rw [List.getElem?_set_self il] at hr
    cases hr
    exact upd_same
  · rw [List.getElem?_set_ne e] at hr
    have ne : a ≠ ra := fun z => by
      subst z
      obtain ⟨h1, e1⟩ := List.getElem?_eq_some_iff.mp hi
      obtain ⟨h2, e2⟩ := List.getElem?_eq_some_iff.mp ha
      exact e ((List.getElem_inj nd).mp (e1.trans e2.symm))
    rw [upd_ne ne]
    obtain ⟨r', hr', f⟩ := paired_get h ha
    rw [hr] at hr'
    cases hr'
    exact f
theorem ok_Shelf_stand (T : Env K mg) : FnOk P w K mg base CX0 13 T.f_Shelf_stand T.fd_Shelf_stand ["self", "number", "thing"] (spStand T.CShelf) := by
  refine T.Shelf_stand.fn.ok sc_Shelf_stand (fun vs H Q E h => ?_) (fun cdv A outer s H vs Q E hr h => ?_)
  · obtain ⟨_, _, _, _, _, _, _, _, _, rfl, _⟩ := h
    rfl
  · obtain ⟨F, S, tb, tq, n, g, rows, tv, q, rfl, fx, sh, ht, hq, n0, n1, k⟩ := h
    refine ⟨_, (pss_cons (ps_for PassesOwn.never rfl (pi_range1 (by rfl) T.b_range (pa_cons (pe_callB call_len_seq (by rfl) T.b_len (by decide +kernel) (pa_cons (pe_fld (pv 0) rfl) pa_nil)) pa_nil)) (pg_name (i := 3) sc_Shelf_stand.nd rfl (Or.inl rfl))
      (pss_cons (ps_set (i := 4) sc_Shelf_stand.nd rfl (Or.inl rfl) (pe_ix ix_list (pe_fld (pv 0) rfl) (pv 3) (fun _ _ => rfl)))
      (pss_cons (ps_set (i := 5) sc_Shelf_stand.nd rfl (Or.inl rfl) (pe_meth (pv 0) T.clShelf T.Shelf_found.mt (ok_Shelf_found T) (hr.mono (by decide)) T.Shelf_found.bd .nil pass0 (pa_cons (pv 3) (pa_cons (pv 2) (pa_cons (pe_tup (pa_cons pe_str pa_nil)) pa_nil)))))
      (pss_cons (ps_set (i := 6) sc_Shelf_stand.nd rfl (Or.inl rfl) (pe_meth (pv 0) T.clShelf T.Shelf_found.mt (ok_Shelf_found T) (hr.mono (by decide)) T.Shelf_found.bd .nil pass0 (pa_cons (pv 3) (pa_cons (pv 2) (pa_cons (pe_tup (pa_cons pe_str (pa_cons pe_str pa_nil))) pa_nil)))))
      (pss_cons (ps_while PassesOwn.never (PW.pt (pw_and (pt_cmpR op_lt (pv 5) (pv 6) (nomark _)) (pw_and1 (pt_cmpR op_lt (pe_ix ix_list (pv 4) (pv 5) (fun _ _ => rfl)) (pv 1) (nomark _)))))
      (pss_one (ps_aug (i := 5) sc_Shelf_stand.nd rfl (Or.inl rfl) pe_int ip_add)))
      (pss_one (ps_expr (pe_bm PySem.F.plainAttrs_list PySem.F.slot_list_insert PySem.F.type_list_insert mt_insert (pv 4) (pa_cons (pv 5) (pa_cons (pv 1) pa_nil))))))))))
      (pss_one (ps_dput (hu_of hr) (pe_fld (pv 0) rfl) (pv 1) (pv 2) rfl))), ?_⟩
    have tlen := sh.tbo.len
    have lr : S.ras.length = S.ts.length := fx.len
    have t5 := fx.t5
    refine ⟨_, rfl, _, _, _, _, _, rfl, sh.inst, T.clShelf, T.nShelf_lists, rfl, S.la, _, rfl, .inl (SqL.of (sh.keep _ _ fx.lists)), _, rfl, by rw [List.length_map]; omega, by rw [List.length_map]; omega, ?_⟩
    rw [show (((S.ras.map V.ref).length : Nat) : Int).toNat = S.ts.length by rw [List.length_map]; omega]
    refine for_range (lo := 0) (n := S.ts.length) (fun i σ G => ∃ (cur : List (List Int)) (kv r4 p5 l6 : Option V), σ = [some (.ref S.x), some (.int n), some tv, kv, r4, p5, l6] ∧ Keep S H G ∧ G S.x = some (.ins T.CShelf S.dx (shF S g)) ∧ G S.td = some (.dK (tbK tb)) ∧
        Paired (fun a row => G a = some (.lst (row.map V.int))) S.ras cur ∧ ∀ (j : Nat) t row', S.ts[j]? = some t → cur[j]? = some row' → (j < i → RowOk S.ns (withQ tq n q) (tb ++ [(n, tv)]) t row') ∧ (¬ j < i → RowOk S.ns tq tb t row'))
      ⟨rows, none, none, none, none, rfl, Keep.refl _ _, sh.inst, sh.dict, sh.rws, fun j t row' h1 h2 => ⟨fun z => absurd z (Nat.not_lt_zero _), fun _ => ?_⟩⟩ ?_ ?_
    · obtain ⟨r, hr', f⟩ := paired_get sh.rok h1
      rw [h2] at hr'
      cases hr'
      exact f
    · rintro i σ G hi ⟨cur, kv, r4, p5, l6, rfl, kG, iG, dG, rG, cG⟩
      have ei : (0 + (i : Int)) = (i : Int) := Int.zero_add _
      rw [ei]
      have sG := Keep.fix fx sh.keep kG
      obtain ⟨t, hti⟩ : ∃ t, S.ts[i]? = some t := ⟨_, List.getElem?_eq_getElem hi⟩
      obtain ⟨ra, hra⟩ : ∃ ra, S.ras[i]? = some ra := ⟨_, List.getElem?_eq_getElem (by omega)⟩
      obtain ⟨row, hrow, hrG⟩ := paired_get rG hra
      have o := fx.tok t (List.mem_of_getElem? hti)
      have rok := (cG i t row hti hrow).2 (Nat.lt_irrefl _)
      obtain ⟨f1, f2, f3⟩ := rok.facts sh.tbo o
      have lt : ∀ m ∈ row, m < n := fun m hm => by
        obtain ⟨v, hv⟩ := tb_mem ((rok.mem m).mp hm)
        exact (sh.tbo.lo _ hv).2
      have same : ∀ m ∈ row, thOf S.ns (withQ tq n q) m = thOf S.ns tq m := fun m hm => thOf_ne (Int.ne_of_lt (lt m hm))
      have srt' := lt'_congr rok.srt same
      have inp : ∀ m ∈ row, InPool S.ns S.ps (thOf S.ns (withQ tq n q) m) := fun m hm => by rw [same m hm]; exact f1 m hm
      obtain ⟨k1, c1⟩ := cut_ahead o.ord (inPool_at hq) inp srt'
      obtain ⟨k2, c2⟩ := cut_upto o.ord (inPool_at hq) inp srt'
      have k12 : k1 ≤ k2 := cut_le c1 c2 fun x hx => by
        have : side t (thOf S.ns (withQ tq n q) x) (valOf S.ns q) = -1 := of_decide_eq_true hx
        exact decide_eq_true (by omega)
      have k2l := c2.1
      have fnd : ∀ (G' : Hp), Same G G' → Fnd T.CShelf G' S i t row (withQ tq n q) g tb := fun G' s => by
        refine fnd_of fx (sG.trans s) (s _ _ iG) (s _ _ dG) sh.tbo hti hra (s _ _ hrG) (fun m hm => (rok.mem m).mp hm) (by omega) fun m hm => ?_
        obtain ⟨v, hv⟩ := tb_mem hm
        unfold withQ
        rw [if_neg (Int.ne_of_lt (sh.tbo.lo _ hv).2)]
      have atra : atI (S.ras.map V.ref) (i : Int) = some (.ref ra) := atI_nat (by rw [List.getElem?_map, hra]; rfl)
      -- row, place, last
      refine ⟨_, rfl, _, _, _, _, _, rfl, iG, T.clShelf, T.nShelf_lists, rfl, _, rfl, S.la, _, _, _, rfl, rfl, SqL.of (sG _ _ fx.lists), atra, ?_⟩
      refine ⟨_, rfl, S.x, S.dx, _, rfl, iG, shF_found, _, rfl, _, rfl, sz (by decide : 1 ≤ 1000), fun wa nwa => ?_⟩
      have s1 := same_new nwa (.tup [V.str "ahead"])
      refine ⟨S, i, t, row, withQ tq n q, g, tb, tv, wa, q, false, k1, rfl, fnd _ s1, ht.mono (TupK.of (sG.trans s1)), fx.pool.ok q hq, upd_same, c1, fun G2 s2 => ?_⟩
      have s12 := s1.trans s2
      refine ⟨_, rfl, S.x, S.dx, _, rfl, s12 _ _ iG, shF_found, _, rfl, _, rfl, sz (by decide : 2 ≤ 1000), fun wa2 nwa2 => ?_⟩
      have s3 := s12.trans (same_new nwa2 (.tup [V.str "ahead", .str "like"]))
      refine ⟨S, i, t, row, withQ tq n q, g, tb, tv, wa2, q, true, k2, rfl, fnd _ s3, ht.mono (TupK.of (sG.trans s3)), fx.pool.ok q hq, upd_same, c2, fun G4 s4 => ?_⟩
      have s5 := s3.trans s4
      have hr5 := s5 _ _ hrG
      -- the loop
      refine while_by (fun σ G' => G4 = G' ∧ ∃ pl : Nat, σ = [some (.ref S.x), some (.int n), some tv, some (.int (i : Int)), some (.ref ra), some (.int (pl : Int)), some (.int (k2 : Int))] ∧ pl ≤ k2)
        (fun σ _ => match σ with | [_, _, _, _, _, some (.int lo), some (.int hi)] => (hi - lo).toNat | _ => 0) ⟨rfl, k1, rfl, k12⟩ ?_ ?_
      · rintro σ G' ⟨rfl, pl, rfl, hpl⟩
        refine ⟨_, rfl, _, rfl, _, _, rfl, rfl, _, rfl, ?_⟩
        by_cases hlt : (pl : Int) < (k2 : Int)
        · refine ifT hlt ?_
          obtain ⟨m, hm⟩ : ∃ m, row[pl]? = some m := ⟨_, List.getElem?_eq_getElem (by omega)⟩
          refine ⟨_, rfl, _, rfl, ra, _, _, _, rfl, rfl, SqL.of hr5, atI_nat (by rw [List.getElem?_map, hm]; rfl), _, rfl, _, _, rfl, rfl, _, rfl, ?_⟩
          refine ifT (lt m (List.mem_of_getElem? hm)) ?_
          refine ⟨_, rfl, _, _, rfl, rfl, ⟨rfl, pl + 1, rfl, by omega⟩, ?_⟩
          show ((k2 : Int) - ((pl : Int) + 1)).toNat < ((k2 : Int) - (pl : Int)).toNat
          omega
        · refine ifF hlt ?_
          have e : pl = k2 := by omega
          subst e
          refine ⟨_, rfl, .inl ⟨rfl, _, SqL.of hr5⟩, _, rfl, _, rfl, ra, _, _, _, rfl, rfl, hr5, sz' (by rw [List.length_map]; omega), by omega, by omega, ?_⟩
          have put := rok.put (tv := tv) sh.tbo o hq c2
          have eq : (row.map V.int).take ((pl : Int)).toNat ++ [V.int n] ++ (row.map V.int).drop ((pl : Int)).toNat = (row.take pl ++ [n] ++ row.drop pl).map V.int := by
            rw [List.map_append, List.map_append, List.map_take, List.map_drop]
            rfl
          rw [eq]
          refine ⟨cur.set i (row.take pl ++ [n] ++ row.drop pl), _, _, _, _, rfl, fun b ob h1 h2 h3 e => ?_, ?_, ?_, ras_set (paired_mono (fun _ _ e => s5 _ _ e) rG) fx.nd hra, fun j t' row' h1 h2 => ?_⟩
          · have hb : b ≠ ra := fun z => h3 (z ▸ List.mem_of_getElem? hra)
            rw [upd_ne hb]
            exact s5 _ _ (kG b ob h1 h2 h3 e)
          · rw [upd_ne (ne_of (s5 _ _ iG) hr5 (by intro z; cases z))]
            exact s5 _ _ iG
          · rw [upd_ne (ne_of (s5 _ _ dG) hr5 (by intro z; cases z))]
            exact s5 _ _ dG
          · by_cases e : i = j
            · subst e
              rw [hti] at h1
              cases h1
              rw [List.getElem?_set_self (List.getElem?_eq_some_iff.mp hrow).1] at h2
              cases h2
              exact ⟨fun _ => put, fun z => absurd (Nat.lt_succ_self _) z⟩
            · rw [List.getElem?_set_ne e] at h2
              obtain ⟨g1, g2⟩ := cG j t' row' h1 h2
              exact ⟨fun z => g1 (by omega), fun z => g2 (by omega)⟩
      · rintro σ G' Q1 Q2 hQ ⟨v, e1, u, e2, i', j', e3, e4, c, e5, z⟩
        refine ⟨v, e1, u, e2, i', j', e3, e4, c, e5, ?_⟩
        by_cases hc : c = true
        · rw [if_pos hc] at z ⊢
          obtain ⟨v1, a1, v2, a2, p', xs', i2, y2, a3, a4, a5, a6, v3, a7, i3, j3, a8, a9, c2, a10, z2⟩ := z
          exact ⟨v1, a1, v2, a2, p', xs', i2, y2, a3, a4, a5, a6, v3, a7, i3, j3, a8, a9, c2, a10, hQ _ _ z2⟩
        · rw [if_neg hc] at z ⊢
          exact hQ _ _ z
    · rintro σ G ⟨cur, kv, r4, p5, l6, rfl, kG, iG, dG, rG, cG⟩
      have no : valV (tbK tb) (.inl n) = none := tbK_no fun z => by
        obtain ⟨v, hv⟩ := tb_mem z
        exact absurd (sh.tbo.lo _ hv).2 (Int.lt_irrefl _)
      refine ⟨_, rfl, _, rfl, _, _, _, _, _, rfl, iG, T.clShelf, T.nShelf_things, rfl, _, rfl, S.td, _, rfl, DPut.k (k := Sum.inl n) dG (sz' (by unfold tbK; rw [List.length_map]; omega)), ?_⟩
      rw [putK_new _ no]
      have et : tbK tb ++ [(Sum.inl n, tv)] = tbK (tb ++ [(n, tv)]) := by
        unfold tbK
        rw [List.map_append]
        rfl
      rw [et]
      have nt : ∀ {a : Addr} {xs : List V}, G a = some (.lst xs) → a ≠ S.td := fun {a xs} e => ne_of e dG (by intro z; cases z)
      have kG2 : Keep S G (upd G S.td (.dK (tbK (tb ++ [(n, tv)])))) := fun b ob h1 h2 h3 e => by
        rw [upd_ne h2]
        exact e
      refine k _ cur (kG.trans kG2) ⟨Keep.fix fx (Keep.fix fx sh.keep kG) kG2, ?_, upd_same, paired_mono (fun a r e => by rw [upd_ne (nt e)]; exact e) rG, ⟨fun p hp => ?_, ?_, fun p hp => ?_, ?_⟩, ?_⟩
      · rw [upd_ne (ne_of iG dG (by intro z; cases z))]
        exact iG
      · rcases List.mem_append.mp hp with h | h
        · have := sh.tbo.ths p h
          have ne := Int.ne_of_lt (sh.tbo.lo p h).2
          unfold withQ
          rw [if_neg ne]
          exact this
        · cases (List.mem_singleton.mp h)
          unfold withQ
          rw [if_pos rfl]
          exact ⟨ht, hq⟩
      · rw [List.map_append]
        refine List.pairwise_append.mpr ⟨sh.tbo.asc, List.pairwise_singleton _ _, fun a ha b hb => ?_⟩
        obtain ⟨v, hv⟩ := tb_mem ha
        cases (List.mem_singleton.mp hb)
        exact (sh.tbo.lo _ hv).2
      · rcases List.mem_append.mp hp with h | h
        · have := sh.tbo.lo p h
          omega
        · cases (List.mem_singleton.mp h)
          exact ⟨n0, Int.lt_succ n⟩
      · rw [List.length_append]
        show ((tb.length + 1 : Nat) : Int) ≤ n + 1
        omega
      · refine paired_of_get (by rw [← paired_len rG]; exact fx.len.symm) fun j t row' h1 h2 => ?_
        exact (cG j t row' h1 h2).1 (List.getElem?_eq_some_iff.mp h1).1
end
end K67

set_option Elab.async false
set_option linter.all false
set_option maxRecDepth 100000
set_option maxHeartbeats 4000000
/-! Shelf.put, thing, numbers, place, take, change; NoField.__init__. -/
namespace K67
open PySem PySem.Spec PyProof.Rows L2
section
variable {P : Program} {w : World} {K : PySem.W.Frag} {mg : Str → Option Value} {base : Heap}
theorem ShAt.give {C : Addr} {F : Hp} {S : ShS} {H : Hp} {tb : List (Int × V)} {tq : Int → List Fq} {bd g : Int} {rows : List (List Int)} (fx : Fix F S) (h : ShAt C F S H tb tq bd g rows) (g' : Int) :
    Keep S H (upd H S.x (.ins C S.dx (shF S g'))) ∧ ShAt C F S (upd H S.x (.ins C S.dx (shF S g'))) tb tq bd g' rows := by
  have kp : Keep S H (upd H S.x (.ins C S.dx (shF S g'))) := fun b o h1 _ _ e => by
    rw [upd_ne h1]
    exact e
  refine ⟨kp, Keep.fix fx h.keep kp, upd_same, ?_, paired_mono (fun a r e => ?_) h.rws, h.tbo, h.rok⟩
  · rw [upd_ne (ne_of h.dict h.inst (by intro z; cases z))]
    exact h.dict
  · rw [upd_ne (ne_of e h.inst (by intro z; cases z))]
    exact e
def spPut (C : Addr) : Sp := fun vs H Q _ => ∃ (F : Hp) (S : ShS) (tb : List (Int × V)) (tq : Int → List Fq) (g : Int) (rows : List (List Int)) (tv : V) (q : List Fq),
  vs = [.ref S.x, tv] ∧ Fix F S ∧ ShAt C F S H tb tq g g rows ∧ ThingAt F tv q ∧ q ∈ S.ps ∧ 0 ≤ g ∧ g ≤ 50 ∧
  ∀ (H' : Hp) (rows' : List (List Int)), Keep S H H' → ShAt C F S H' (tb ++ [(g, tv)]) (withQ tq g q) (g + 1) (g + 1) rows' → Q (.int g) H'
theorem sc_Shelf_put : FnScope ["self", "thing", "number"] ["self", "thing"] (defScope s_Shelf_put) := ⟨rfl, rfl, rfl, by decide +kernel, rfl, by decide +kernel, by decide +kernel⟩
theorem ok_Shelf_put (T : Env K mg) : FnOk P w K mg base CX0 14 T.f_Shelf_put T.fd_Shelf_put ["self", "thing"] (spPut T.CShelf) := by
  refine T.Shelf_put.fn.ok sc_Shelf_put (fun vs H Q E h => ?_) (fun cdv A outer s H vs Q E hr h => ?_)
  · obtain ⟨_, _, _, _, _, _, _, _, rfl, _⟩ := h
    rfl
  · obtain ⟨F, S, tb, tq, g, rows, tv, q, rfl, fx, sh, ht, hq, g0, g1, k⟩ := h
    refine ⟨_, (pss_cons (ps_set (i := 2) sc_Shelf_put.nd rfl (Or.inl rfl) (pe_fld (pv 0) rfl))
      (pss_cons (ps_fldaug (pv 0) pe_int in_add)
      (pss_cons (ps_expr (pe_meth (pv 0) T.clShelf T.Shelf_stand.mt (ok_Shelf_stand T) (hr.mono (by decide)) T.Shelf_stand.bd .nil pass0 (pa_cons (pv 2) (pa_cons (pv 1) pa_nil))))
      (pss_one (ps_ret (pv 2)))))), ?_⟩
    obtain ⟨kp, sh'⟩ := sh.give fx (g + 1)
    refine ⟨_, rfl, _, _, _, _, _, rfl, sh.inst, T.clShelf, T.nShelf_given, rfl, ?_⟩
    refine ⟨_, rfl, S.x, _, _, _, _, rfl, sh.inst, T.clShelf, T.nShelf_given, rfl, g, 1, rfl, rfl, _, _, sh.inst, (by show 5 < 1000; decide), ?_⟩
    refine ⟨_, rfl, S.x, S.dx, _, rfl, sh'.inst, rfl, _, rfl, _, rfl, F, S, tb, tq, g, g + 1, rows, tv, q, rfl, fx, sh', ht, hq, g0, g1, fun H' rows' k2 sh2 => ?_⟩
    exact ⟨_, rfl, k H' rows' (kp.trans k2) sh2⟩
/-! ### thing -/
def spThing (C N : Addr) : Sp := fun vs H Q E => ∃ (F : Hp) (S : ShS) (tb : List (Int × V)) (tq : Int → List Fq) (bd g : Int) (rows : List (List Int)) (n : Int),
  vs = [.ref S.x, .int n] ∧ ShAt C F S H tb tq bd g rows ∧ ((∃ v, (n, v) ∈ tb ∧ Q v H) ∨ (n ∉ tb.map (·.1) ∧ E (.ref N) none H))
theorem sc_Shelf_thing : FnScope ["self", "number"] ["self", "number"] (defScope s_Shelf_thing) := ⟨rfl, rfl, rfl, by decide +kernel, rfl, by decide +kernel, by decide +kernel⟩
theorem ok_Shelf_thing (T : Env K mg) : FnOk P w K mg base (L2.CX P w) 1 T.f_Shelf_thing T.fd_Shelf_thing ["self", "number"] (spThing T.CShelf T.CNoThing) := by
  refine T.Shelf_thing.fn.okX sc_Shelf_thing (fun vs H Q E h => ?_) (fun cdv A outer s H vs Q E hr h => ?_)
  · obtain ⟨_, _, _, _, _, _, _, _, rfl, _⟩ := h
    rfl
  · obtain ⟨F, S, tb, tq, bd, g, rows, n, rfl, sh, k⟩ := h
    refine ⟨_, (pss_cons (ps_if (pt_cmp (pc_dnotin (hu_of hr) (pv 1) (pe_fld (pv 0) rfl)))
      (pss_one (ps_raise rfl (takes_of rfl rfl rfl rfl) (pmk_own PySem.F.excBase_ValueError T.xNoThing T.mgNoThing T.kNoThing (raises_own T.rNoThing1 T.rNoThing2) rfl)))
      pss_nil)
      (pss_one (ps_ret (pe_dget (hu_of hr) (pe_fld (pv 0) rfl) (pv 1) (fun _ _ => rfl))))), ?_⟩
    have dg := DGet.k (k := Sum.inl n) sh.dict
    rcases k with ⟨v, hv, k⟩ | ⟨no, k⟩
    · rw [tbK_val (tb_nodup sh.tbo.asc) hv] at dg
      refine ⟨_, rfl, _, rfl, _, _, _, _, _, rfl, sh.inst, T.clShelf, T.nShelf_things, rfl, S.td, _, rfl, dg, _, rfl, iteF ?_⟩
      exact ⟨_, rfl, _, _, _, _, _, rfl, sh.inst, T.clShelf, T.nShelf_things, rfl, _, rfl, S.td, v, rfl, dg, k⟩
    · rw [tbK_no no] at dg
      exact ⟨_, rfl, _, rfl, _, _, _, _, _, rfl, sh.inst, T.clShelf, T.nShelf_things, rfl, S.td, _, rfl, dg, _, rfl, iteT k⟩
/-! ### numbers -/
def spNumbers (C : Addr) : Sp := fun vs H Q _ => ∃ (F : Hp) (S : ShS) (tb : List (Int × V)) (tq : Int → List Fq) (bd g : Int) (rows : List (List Int)) (i : Nat) (row : List Int),
  vs = [.ref S.x, .int (i : Int)] ∧ Fix F S ∧ ShAt C F S H tb tq bd g rows ∧ rows[i]? = some row ∧ ∀ l, H l = none → Q (.ref l) (upd H l (.lst (row.map V.int)))
theorem sc_Shelf_numbers : FnScope ["self", "which"] ["self", "which"] (defScope s_Shelf_numbers) := ⟨rfl, rfl, rfl, by decide +kernel, rfl, by decide +kernel, by decide +kernel⟩
/-- a row, by its place -/
theorem row_at {C : Addr} {F : Hp} {S : ShS} {H : Hp} {tb : List (Int × V)} {tq : Int → List Fq} {bd g : Int} {rows : List (List Int)} {i : Nat} {row : List Int} (fx : Fix F S) (sh : ShAt C F S H tb tq bd g rows) (hr : rows[i]? = some row) :
    ∃ ra t, S.ras[i]? = some ra ∧ S.ts[i]? = some t ∧ H S.la = some (.lst (S.ras.map V.ref)) ∧ atI (S.ras.map V.ref) (i : Int) = some (.ref ra) ∧ H ra = some (.lst (row.map V.int)) ∧ RowOk S.ns tq tb t row ∧ OrdOk S.ns S.ps t := by
  obtain ⟨ra, hra, h1⟩ := paired_get' sh.rws hr
  obtain ⟨t, ht, h2⟩ := paired_get' sh.rok hr
  exact ⟨ra, t, hra, ht, sh.keep _ _ fx.lists, atI_nat (by rw [List.getElem?_map, hra]; rfl), h1, h2, fx.tok t (List.mem_of_getElem? ht)⟩
theorem ok_Shelf_numbers (T : Env K mg) : FnOk P w K mg base CX0 1 T.f_Shelf_numbers T.fd_Shelf_numbers ["self", "which"] (spNumbers T.CShelf) := by
  refine T.Shelf_numbers.fn.ok sc_Shelf_numbers (fun vs H Q E h => ?_) (fun cdv A outer s H vs Q E hr h => ?_)
  · obtain ⟨_, _, _, _, _, _, _, _, _, rfl, _⟩ := h
    rfl
  · obtain ⟨F, S, tb, tq, bd, g, rows, i, row, rfl, fx, sh, hrow, k⟩ := h
    refine ⟨_, (pss_one (ps_ret (pe_callTy call_list_of (by rfl) T.b_list (by decide +kernel) (pa_cons (pe_ix ix_list (pe_fld (pv 0) rfl) (pv 1) (fun _ _ => rfl)) pa_nil)))), ?_⟩
    obtain ⟨ra, t, h1, h2, h3, h4, h5, _⟩ := row_at fx sh hrow
    exact ⟨_, rfl, _, _, _, _, _, rfl, sh.inst, T.clShelf, T.nShelf_lists, rfl, _, rfl, S.la, _, _, _, rfl, rfl, SqL.of h3, h4, ra, _, rfl, .inl (SqL.of h5), k⟩
/-! ### place, of a number that is not there -/
def spPlace (C N : Addr) : Sp := fun vs H Q E => ∃ (F : Hp) (S : ShS) (tb : List (Int × V)) (tq : Int → List Fq) (bd g : Int) (rows : List (List Int)) (n : Int) (wv : V),
  vs = [.ref S.x, wv, .int n] ∧ ShAt C F S H tb tq bd g rows ∧ n ∉ tb.map (·.1) ∧ E (.ref N) none H
theorem sc_Shelf_place : FnScope ["self", "which", "number"] ["self", "which", "number"] (defScope s_Shelf_place) := ⟨rfl, rfl, rfl, by decide +kernel, rfl, by decide +kernel, by decide +kernel⟩
theorem ok_Shelf_place (T : Env K mg) : FnOk P w K mg base (L2.CX P w) 2 T.f_Shelf_place T.fd_Shelf_place ["self", "which", "number"] (spPlace T.CShelf T.CNoThing) := by
  refine T.Shelf_place.fn.okX sc_Shelf_place (fun vs H Q E h => ?_) (fun cdv A outer s H vs Q E hr h => ?_)
  · obtain ⟨_, _, _, _, _, _, _, _, _, rfl, _⟩ := h
    rfl
  · obtain ⟨F, S, tb, tq, bd, g, rows, n, wv, rfl, sh, no, k⟩ := h
    refine ⟨_, (pss_cons (ps_expr (pe_meth (E := E) (pv 0) T.clShelf T.Shelf_thing.mt (ok_Shelf_thing T) (hr.mono (by decide)) T.Shelf_thing.bd .nil (passes_call (takes_of rfl rfl rfl rfl) fun _ _ _ _ z => z) (pa_cons (pv 2) pa_nil))) pss_never), ?_⟩
    exact ⟨_, rfl, S.x, S.dx, _, rfl, sh.inst, rfl, _, rfl, F, S, tb, tq, bd, g, rows, n, rfl, sh, .inr ⟨no, k⟩⟩
/-! ### take -/
def outOf (tb : List (Int × V)) (n : Int) : List (Int × V) := tb.filter fun p => decide (p.1 ≠ n)
theorem drop_tbK {tb : List (Int × V)} {n : Int} : dropK (tbK tb) (.inl n) = tbK (outOf tb n) := by
  unfold dropK tbK outOf
  rw [List.filter_map]
  refine congrArg _ (List.filter_congr fun p _ => ?_)
  show decide (¬ (Sum.inl p.1 : Key) = Sum.inl n) = decide (p.1 ≠ n)
  exact decide_eq_decide.mpr ⟨fun h z => h (congrArg Sum.inl z), fun h z => h (Sum.inl.inj z)⟩
theorem outOf_keys {tb : List (Int × V)} {n m : Int} : m ∈ (outOf tb n).map (·.1) ↔ m ∈ tb.map (·.1) ∧ m ≠ n := by
  unfold outOf
  constructor
  · intro h
    obtain ⟨p, hp, rfl⟩ := List.mem_map.mp h
    obtain ⟨h1, h2⟩ := List.mem_filter.mp hp
    exact ⟨List.mem_map.mpr ⟨p, h1, rfl⟩, of_decide_eq_true h2⟩
  · rintro ⟨h, hne⟩
    obtain ⟨p, hp, rfl⟩ := List.mem_map.mp h
    exact List.mem_map.mpr ⟨p, List.mem_filter.mpr ⟨hp, decide_eq_true hne⟩, rfl⟩
theorem TbOk.out {F : Hp} {S : ShS} {tb : List (Int × V)} {tq : Int → List Fq} {bd : Int} (b : TbOk F S tb tq bd) (n : Int) : TbOk F S (outOf tb n) tq bd := by
  have sub : ∀ p ∈ outOf tb n, p ∈ tb := fun p hp => (List.mem_filter.mp hp).1
  refine ⟨fun p hp => b.ths p (sub p hp), ?_, fun p hp => b.lo p (sub p hp), ?_⟩
  · show ((tb.filter fun p => decide (p.1 ≠ n)).map (·.1)).Pairwise (· < ·)
    exact b.asc.sublist (List.filter_sublist.map _)
  · have h1 := List.length_filter_le (fun p : Int × V => decide (p.1 ≠ n)) tb
    have h2 := b.len
    unfold outOf
    omega
theorem RowOk.take_ {F : Hp} {S : ShS} {tb : List (Int × V)} {tq : Int → List Fq} {bd : Int} {t : Tr Str} {row : List Int} {n : Int} {j : Nat} (r : RowOk S.ns tq tb t row) (b : TbOk F S tb tq bd) (o : OrdOk S.ns S.ps t) (hj : row[j]? = some n) : RowOk S.ns tq (outOf tb n) t (row.eraseIdx j) := by
  obtain ⟨f1, f2, f3⟩ := r.facts b o
  refine ⟨List.Pairwise.sublist (List.eraseIdx_sublist _ _) r.srt, fun m => ?_⟩
  rw [mem_erase f2 hj, r.mem m, outOf_keys]
def spTake (C N : Addr) : Sp := fun vs H Q E => ∃ (F : Hp) (S : ShS) (tb : List (Int × V)) (tq : Int → List Fq) (bd g : Int) (rows : List (List Int)) (n : Int),
  vs = [.ref S.x, .int n] ∧ Fix F S ∧ ShAt C F S H tb tq bd g rows ∧
  ((n ∈ tb.map (·.1) ∧ ∀ (H' : Hp) (rows' : List (List Int)), Keep S H H' → ShAt C F S H' (outOf tb n) tq bd g rows' → Q .non H') ∨ (n ∉ tb.map (·.1) ∧ E (.ref N) none H))
theorem sc_Shelf_take : FnScope ["self", "number", "row"] ["self", "number"] (defScope s_Shelf_take) := ⟨rfl, rfl, rfl, by decide +kernel, rfl, by decide +kernel, by decide +kernel⟩
theorem ok_Shelf_take (T : Env K mg) : FnOk P w K mg base (L2.CX P w) 2 T.f_Shelf_take T.fd_Shelf_take ["self", "number"] (spTake T.CShelf T.CNoThing) := by
  refine T.Shelf_take.fn.okX sc_Shelf_take (fun vs H Q E h => ?_) (fun cdv A outer s H vs Q E hr h => ?_)
  · obtain ⟨_, _, _, _, _, _, _, _, rfl, _⟩ := h
    rfl
  · obtain ⟨F, S, tb, tq, bd, g, rows, n, rfl, fx, sh, k⟩ := h
    refine ⟨_, (pss_cons (ps_expr (pe_meth (E := E) (pv 0) T.clShelf T.Shelf_thing.mt (ok_Shelf_thing T) (hr.mono (by decide)) T.Shelf_thing.bd .nil (passes_call (takes_of rfl rfl rfl rfl) fun _ _ _ _ z => z) (pa_cons (pv 1) pa_nil)))
      (PSs.nox (pss_cons (ps_for PassesOwn.never rfl (pi_list (pe_fld (pv 0) rfl)) (pg_name (i := 2) sc_Shelf_take.nd rfl (Or.inl rfl))
      (pss_one (ps_expr (pe_bm PySem.F.plainAttrs_list PySem.F.slot_list_remove PySem.F.type_list_remove mt_remove (pv 2) (pa_cons (pv 1) pa_nil)))))
      (pss_one (ps_expr (pe_dpop1 (pe_fld (pv 0) rfl) (pv 1) ⟨by rfl, by rfl, by rfl, by rfl⟩)))))), ?_⟩
    refine ⟨_, rfl, S.x, S.dx, _, rfl, sh.inst, rfl, _, rfl, F, S, tb, tq, bd, g, rows, n, rfl, sh, ?_⟩
    rcases k with ⟨hn, k⟩ | ⟨no, k⟩
    · obtain ⟨v, hv⟩ := tb_mem hn
      refine .inl ⟨v, hv, ?_⟩
      have hla := sh.keep _ _ fx.lists
      have lns : ∀ {G : Hp}, Keep S H G → G S.la = some (.lst (S.ras.map V.ref)) := fun {G} kG => Keep.fix fx sh.keep kG _ _ fx.lists
      refine ⟨_, rfl, _, _, _, _, _, rfl, sh.inst, T.clShelf, T.nShelf_lists, rfl, S.la, rfl, ⟨_, SqL.of hla⟩, ?_⟩
      refine for_list (a := S.la) (xs := S.ras.map V.ref) (fun i σ G => ∃ (cur : List (List Int)) (rv : Option V), σ = [some (.ref S.x), some (.int n), rv] ∧ Keep S H G ∧ G S.x = some (.ins T.CShelf S.dx (shF S g)) ∧ G S.td = some (.dK (tbK tb)) ∧
          Paired (fun a row => G a = some (.lst (row.map V.int))) S.ras cur ∧ ∀ (j : Nat) t row', S.ts[j]? = some t → cur[j]? = some row' → (j < i → RowOk S.ns tq (outOf tb n) t row') ∧ (¬ j < i → RowOk S.ns tq tb t row'))
        ⟨rows, none, rfl, Keep.refl _ _, sh.inst, sh.dict, sh.rws, fun j t row' h1 h2 => ⟨fun z => absurd z (Nat.not_lt_zero _), fun _ => ?_⟩⟩ (fun i σ G _ ⟨_, _, _, kG, _⟩ => SqL.of (lns kG)) ?_ ?_
      · obtain ⟨r, hr', f⟩ := paired_get sh.rok h1
        rw [h2] at hr'
        cases hr'
        exact f
      · rintro i y σ G hy ⟨cur, rv, rfl, kG, iG, dG, rG, cG⟩
        rw [List.getElem?_map] at hy
        cases hra : S.ras[i]? with
        | none =>
          rw [hra] at hy
          cases hy
        | some ra =>
          rw [hra] at hy
          cases (Option.some.inj hy : V.ref ra = y)
          obtain ⟨row, hrow, hrG⟩ := paired_get rG hra
          obtain ⟨t, hti⟩ : ∃ t, S.ts[i]? = some t := ⟨_, List.getElem?_eq_getElem (by rw [← fx.len]; exact (List.getElem?_eq_some_iff.mp hra).1)⟩
          have o := fx.tok t (List.mem_of_getElem? hti)
          have rok := (cG i t row hti hrow).2 (Nat.lt_irrefl _)
          have hnr : n ∈ row := (rok.mem n).mpr hn
          obtain ⟨j, hj, hjno⟩ : ∃ j : Nat, row[j]? = some n ∧ ∀ m : Nat, m < j → row[m]? ≠ some n := by
            have h := List.idxOf_lt_length_iff.mpr hnr
            refine ⟨row.idxOf n, ?_, fun m hm e => ?_⟩
            · rw [List.getElem?_eq_getElem h, List.getElem_idxOf]
            · obtain ⟨h1, e1⟩ := List.getElem?_eq_some_iff.mp e
              have := List.not_of_lt_findIdx (p := (· == n)) (xs := row) hm
              rw [e1] at this
              simp at this
          refine ⟨_, rfl, .inl ⟨rfl, _, SqL.of hrG⟩, _, rfl, ra, row, n, j, rfl, rfl, hrG, hj, hjno, ?_⟩
          refine ⟨cur.set i (row.eraseIdx j), _, rfl, fun b ob h1 h2 h3 e => ?_, ?_, ?_, ras_set rG fx.nd hra, fun j' t' row' h1 h2 => ?_⟩
          · have hb : b ≠ ra := fun z => h3 (z ▸ List.mem_of_getElem? hra)
            rw [upd_ne hb]
            exact kG b ob h1 h2 h3 e
          · rw [upd_ne (ne_of iG hrG (by intro z; cases z))]
            exact iG
          · rw [upd_ne (ne_of dG hrG (by intro z; cases z))]
            exact dG
          · by_cases e : i = j'
            · subst e
              rw [hti] at h1
              cases h1
              rw [List.getElem?_set_self (List.getElem?_eq_some_iff.mp hrow).1] at h2
              cases h2
              exact ⟨fun _ => rok.take_ sh.tbo o hj, fun z => absurd (Nat.lt_succ_self _) z⟩
            · rw [List.getElem?_set_ne e] at h2
              obtain ⟨g1, g2⟩ := cG j' t' row' h1 h2
              exact ⟨fun z => g1 (by omega), fun z => g2 (by omega)⟩
      · rintro σ G ⟨cur, rv, rfl, kG, iG, dG, rG, cG⟩
        refine ⟨_, rfl, _, _, _, _, _, rfl, iG, T.clShelf, T.nShelf_things, rfl, S.td, rfl, .inl ⟨_, .inl dG⟩, _, rfl, _, Sum.inl n, v, dG, rfl, tbK_val (tb_nodup sh.tbo.asc) hv, ?_⟩
        rw [drop_tbK]
        have nt : ∀ {a : Addr} {xs : List V}, G a = some (.lst xs) → a ≠ S.td := fun {a xs} e => ne_of e dG (by intro z; cases z)
        have kG2 : Keep S G (upd G S.td (.dK (tbK (outOf tb n)))) := fun b ob h1 h2 h3 e => by
          rw [upd_ne h2]
          exact e
        refine k _ cur (kG.trans kG2) ⟨Keep.fix fx (Keep.fix fx sh.keep kG) kG2, ?_, upd_same, paired_mono (fun a r e => by rw [upd_ne (nt e)]; exact e) rG, sh.tbo.out n, ?_⟩
        · rw [upd_ne (ne_of iG dG (by intro z; cases z))]
          exact iG
        · refine paired_of_get (by rw [← paired_len rG]; exact fx.len.symm) fun j t row' h1 h2 => ?_
          exact (cG j t row' h1 h2).1 (by rw [List.length_map, fx.len]; exact (List.getElem?_eq_some_iff.mp h1).1)
    · exact .inr ⟨no, k⟩
end
end K67

set_option Elab.async false
set_option linter.all false
set_option maxRecDepth 100000
set_option maxHeartbeats 4000000
/-! NoField.__init__; Shelf.change (refused), between. -/
namespace K67
open PySem PySem.Spec PyProof.Rows L2
section
variable {P : Program} {w : World} {K : PySem.W.Frag} {mg : Str → Option Value} {base : Heap}
def spNFI (C : Addr) : Sp := fun vs H Q _ => ∃ (a : Addr) (x : Str), vs = [.ref a, .str x] ∧ H a = some (exo a C none) ∧ x.length ≤ 900 ∧ ∀ dx, H dx = none → dx ≠ a → Q .non (upd (upd H dx (exd dx [("word", .str x)])) a (exo a C (some dx)))
theorem sc_NoField_init : FnScope ["self", "word"] ["self", "word"] (defScope s_NoField_init) := ⟨rfl, rfl, rfl, by decide +kernel, rfl, by decide +kernel, by decide +kernel⟩
theorem ok_NoField_init (T : Env K mg) : FnOk P w K mg base CX0 1 T.f_NoField_init T.fd_NoField_init ["self", "word"] (spNFI T.CNoField) := by
  refine T.NoField_init.fn.ok sc_NoField_init (fun vs H Q E h => ?_) (fun cdv A outer s H vs Q E hr h => ?_)
  · obtain ⟨_, _, rfl, _⟩ := h
    rfl
  · obtain ⟨a, x, rfl, ha, hx, k⟩ := h
    refine ⟨_, (pss_cons (ps_expr (pe_oinit (pl := _) rfl T.mgOrderError T.spOE T.rdOE T.inOE (pa_cons (pv 0) (pa_cons (pe_op op_add_str pe_str (pv 1)) pa_nil))))
      (pss_one (ps_ost (pv 0) (pv 1)))), ?_⟩
    refine ⟨_, rfl, _, rfl, _, _, rfl, rfl, sz (by show 10 + x.length ≤ 1000; omega), a, T.CNoField, [_], rfl, (by show 1 ≤ 1000; decide), T.oNoField, ha, ?_⟩
    exact ⟨_, rfl, _, rfl, a, T.CNoField, rfl, T.oNoField, T.noWord, .inl ⟨ha, k⟩⟩
/-! ### change, in a field that the book hasn't -/
def spChange (C N M : Addr) : Sp := fun vs H Q E => ∃ (F : Hp) (S : ShS) (tb : List (Int × V)) (tq : Int → List Fq) (bd g : Int) (rows : List (List Int)) (n : Int) (x : Str) (fv : V),
  vs = [.ref S.x, .int n, .str x, fv] ∧ Fix F S ∧ ShAt C F S H tb tq bd g rows ∧ x.length ≤ 900 ∧
  ((n ∉ tb.map (·.1) ∧ E (.ref N) none H) ∨ (n ∈ tb.map (·.1) ∧ x ∉ S.ns ∧ ∀ d H', Same H H' → H' d = some (.xd [("word", .str x)]) → E (.ref M) (some d) H'))
theorem sc_Shelf_change : FnScope ["self", "number", "field", "fraction", "thing", "at"] ["self", "number", "field", "fraction"] (defScope s_Shelf_change) := ⟨rfl, rfl, rfl, by decide +kernel, rfl, by decide +kernel, by decide +kernel⟩
theorem ok_Shelf_change (T : Env K mg) : FnOk P w K mg base (L2.CX P w) 3 T.f_Shelf_change T.fd_Shelf_change ["self", "number", "field", "fraction"] (spChange T.CShelf T.CNoThing T.CNoField) := by
  refine T.Shelf_change.fn.okX sc_Shelf_change (fun vs H Q E h => ?_) (fun cdv A outer s H vs Q E hr h => ?_)
  · obtain ⟨_, _, _, _, _, _, _, _, _, _, rfl, _⟩ := h
    rfl
  · obtain ⟨F, S, tb, tq, bd, g, rows, n, x, fv, rfl, fx, sh, hx, k⟩ := h
    refine ⟨_, (pss_cons (ps_set (i := 4) sc_Shelf_change.nd rfl (Or.inl rfl) (pe_meth (E := E) (pv 0) T.clShelf T.Shelf_thing.mt (ok_Shelf_thing T) (hr.mono (by decide)) T.Shelf_thing.bd .nil (passes_call (takes_of rfl rfl rfl rfl) fun _ _ _ _ z => z) (pa_cons (pv 1) pa_nil)))
      (pss_cons (ps_if (pt_cmpR op_notIn_seq (pv 2) (pe_fld (pv 0) rfl) (by rfl))
      (pss_one (ps_raise rfl (takes_of rfl rfl rfl rfl) (pmk_oex T.oNoField T.inNoField T.tyNoField (ok_NoField_init T) (hr.mono (by decide)) T.NoField_init.bd .nil pass0 rfl T.mgNoField (pa_cons (pv 2) pa_nil))))
      pss_nil) pss_never)), ?_⟩
    refine ⟨_, rfl, S.x, S.dx, _, rfl, sh.inst, rfl, _, rfl, F, S, tb, tq, bd, g, rows, n, rfl, sh, ?_⟩
    rcases k with ⟨no, k⟩ | ⟨hn, no, k⟩
    · exact .inr ⟨no, k⟩
    · obtain ⟨v, hv⟩ := tb_mem hn
      refine .inl ⟨v, hv, ?_⟩
      obtain ⟨ba, ob, hbv, hba, hob⟩ := fx.book.mono (TupK.of sh.keep)
      refine ⟨_, rfl, _, rfl, _, _, _, _, _, rfl, sh.inst, T.clShelf, T.nShelf_book, rfl, ba, _, hbv, .inr (names_sq hba), rfl, flat_strs _, _, rfl, ?_⟩
      rw [inV_strs, decide_eq_false no]
      refine iteT ?_
      refine ⟨_, rfl, (by show 1 ≤ 1000; decide), fun a na => ⟨a, x, rfl, upd_same, hx, fun dx nd ne => ⟨rfl, dx, [("word", .str x)], upd_same, ?_, ?_, ?_⟩⟩⟩
      · rw [upd_ne ne]
        exact upd_same
      · rw [upd_ne ne] at nd
        exact nd
      · rw [upd_ne ne] at nd
        refine k dx _ (fun b o hh => ?_) upd_same
        have h1 : b ≠ a := ne_of_none hh na
        have h2 : b ≠ dx := ne_of_none hh nd
        rw [upd_ne h2, del_ne h1, upd_ne h1, upd_ne h2, upd_ne h1]
        exact hh
/-! ### between -/
def midOf (t : Tr Str) (ns : List Str) (tq : Int → List Fq) (q1 q2 : List Fq) (row : List Int) : List Int := row.filter fun n => !fcut t ns tq q1 false n && fcut t ns tq q2 true n
def spBetween (C : Addr) : Sp := fun vs H Q _ => ∃ (F : Hp) (S : ShS) (tb : List (Int × V)) (tq : Int → List Fq) (bd g : Int) (rows : List (List Int)) (i : Nat) (row : List Int) (t : Tr Str) (v1 v2 : V) (q1 q2 : List Fq),
  vs = [.ref S.x, .int (i : Int), v1, v2] ∧ Fix F S ∧ ShAt C F S H tb tq bd g rows ∧ rows[i]? = some row ∧ S.ts[i]? = some t ∧ ThingAt F v1 q1 ∧ ThingAt F v2 q2 ∧ q1 ∈ S.ps ∧ q2 ∈ S.ps ∧ bd ≤ 50 ∧
  ∀ l H', H l = none → Same H H' → H' l = some (.lst ((midOf t S.ns tq q1 q2 row).map V.int)) → Q (.ref l) H'
theorem sc_Shelf_between : FnScope ["self", "which", "one", "other", "first"] ["self", "which", "one", "other"] (defScope s_Shelf_between) := ⟨rfl, rfl, rfl, by decide +kernel, rfl, by decide +kernel, by decide +kernel⟩
theorem ok_Shelf_between (T : Env K mg) : FnOk P w K mg base CX0 13 T.f_Shelf_between T.fd_Shelf_between ["self", "which", "one", "other"] (spBetween T.CShelf) := by
  refine T.Shelf_between.fn.ok sc_Shelf_between (fun vs H Q E h => ?_) (fun cdv A outer s H vs Q E hr h => ?_)
  · obtain ⟨_, _, _, _, _, _, _, _, _, _, _, _, _, _, rfl, _⟩ := h
    rfl
  · obtain ⟨F, S, tb, tq, bd, g, rows, i, row, t, v1, v2, q1, q2, rfl, fx, sh, hrow, ht, h1, h2, m1, m2, bd1, k⟩ := h
    refine ⟨_, (pss_cons (ps_set (i := 4) sc_Shelf_between.nd rfl (Or.inl rfl) (pe_meth (pv 0) T.clShelf T.Shelf_found.mt (ok_Shelf_found T) (hr.mono (by decide)) T.Shelf_found.bd .nil pass0 (pa_cons (pv 1) (pa_cons (pv 2) (pa_cons (pe_tup (pa_cons pe_str pa_nil)) pa_nil)))))
      (pss_one (ps_ret (pe_slice sl_list (pe_ix ix_list (pe_fld (pv 0) rfl) (pv 1) (fun _ _ => rfl)) (po_some (pv 4)) (po_some (pe_meth (pv 0) T.clShelf T.Shelf_found.mt (ok_Shelf_found T) (hr.mono (by decide)) T.Shelf_found.bd .nil pass0 (pa_cons (pv 1) (pa_cons (pv 3) (pa_cons (pe_tup (pa_cons pe_str (pa_cons pe_str pa_nil))) pa_nil))))))))), ?_⟩
    obtain ⟨ra, t', hra, ht', hla, atra, hrw, rok, o⟩ := row_at fx sh hrow
    rw [ht] at ht'
    cases ht'
    obtain ⟨f1, f2, f3⟩ := rok.facts sh.tbo o
    have tl := sh.tbo.len
    have rl : row.length ≤ 100 := by omega
    obtain ⟨k1, c1⟩ := cut_ahead o.ord (inPool_at m1) f1 rok.srt
    obtain ⟨k2, c2⟩ := cut_upto o.ord (inPool_at m2) f1 rok.srt
    have fnd : ∀ (G' : Hp), Same H G' → Fnd T.CShelf G' S i t row tq g tb := fun G' s =>
      fnd_of fx (sh.keep.trans s) (s _ _ sh.inst) (s _ _ sh.dict) sh.tbo ht hra (s _ _ hrw) (fun m hm => (rok.mem m).mp hm) rl fun _ _ => rfl
    refine ⟨_, rfl, S.x, S.dx, _, rfl, sh.inst, shF_found, _, rfl, _, rfl, sz (by decide : 1 ≤ 1000), fun wa nwa => ?_⟩
    have s1 := same_new nwa (.tup [V.str "ahead"])
    refine ⟨S, i, t, row, tq, g, tb, v1, wa, q1, false, k1, rfl, fnd _ s1, h1.mono (TupK.of (sh.keep.trans s1)), fx.pool.ok q1 m1, upd_same, c1, fun G2 s2 => ?_⟩
    have s12 := s1.trans s2
    refine ⟨_, rfl, _, _, _, _, _, rfl, s12 _ _ sh.inst, T.clShelf, T.nShelf_lists, rfl, _, rfl, S.la, _, _, _, rfl, rfl, SqL.of (s12 _ _ hla), atra, ?_⟩
    refine ⟨_, rfl, _, rfl, ?_⟩
    refine ⟨_, rfl, S.x, S.dx, _, rfl, s12 _ _ sh.inst, shF_found, _, rfl, _, rfl, sz (by decide : 2 ≤ 1000), fun wa2 nwa2 => ?_⟩
    have s3 := s12.trans (same_new nwa2 (.tup [V.str "ahead", .str "like"]))
    refine ⟨S, i, t, row, tq, g, tb, v2, wa2, q2, true, k2, rfl, fnd _ s3, h2.mono (TupK.of (sh.keep.trans s3)), fx.pool.ok q2 m2, upd_same, c2, fun G4 s4 => ?_⟩
    have s5 := s3.trans s4
    refine ⟨_, rfl, ra, _, rfl, SqL.of (s5 _ _ hrw), fun l hl => ?_⟩
    have cv : cutV (row.map V.int) (some (k1 : Int)) (some (k2 : Int)) = (midOf t S.ns tq q1 q2 row).map V.int := by
      unfold cutV midOf
      have e1 := c1.1
      have e2 := c2.1
      rw [HT.sIx_nat, HT.sIx_nat, List.length_map, Nat.min_eq_left e1, Nat.min_eq_left e2, ← List.drop_take, ← List.map_take, ← List.map_drop]
      have cm := cut_mid (p := fcut t S.ns tq q1 false) (q := fcut t S.ns tq q2 true) c1 c2
      rw [cm]
    rw [cv]
    exact k l _ (s5.free hl) (s5.trans (same_new hl _)) upd_same
end
end K67

set_option Elab.async false
set_option linter.all false
set_option maxRecDepth 100000
set_option maxHeartbeats 4000000
/-! _law_shelf. -/
namespace K67
open PySem PySem.Spec PyProof.Rows L2
theorem nxt {t : TS} {D : Ends} {σ : L2.St} {H : Hp} (h : t D σ H) : ({ D with nx := t D } : Ends).nx σ H := h
/-- tuples are kept, and lists that begin with a text -/
structure StrK (H H' : Hp) : Prop where
  tup : TupK H H'
  lst : ∀ b x xs, H b = some (.lst (.str x :: xs)) → H' b = some (.lst (.str x :: xs))
theorem MkAt.monoS {H H' : Hp} {v : V} {isq : Bool} {f : Str} {q : Fq} (k : StrK H H') (h : MkAt H v isq f q) : MkAt H' v isq f q := let ⟨a, z, e, x, y⟩ := h; ⟨a, z, e, k.lst a _ _ x, y.mono k.tup⟩
theorem CsAt.monoS {H H' : Hp} (k : StrK H H') : ∀ {c : Cs Str} {v : V}, CsAt H c v → CsAt H' c v
  | .same f, v, h => let ⟨a, e, x⟩ := h; ⟨a, e, k.lst a _ _ x⟩
  | .both b f q, v, h => let ⟨a, z, e, x, y⟩ := h; ⟨a, z, e, k.lst a _ _ x, y.monoS k⟩
  | .either b f q, v, h => let ⟨a, z, e, x, y⟩ := h; ⟨a, z, e, k.lst a _ _ x, y.monoS k⟩
  | .no c, v, h => let ⟨a, z, e, x, y⟩ := h; ⟨a, z, e, k.lst a _ _ x, CsAt.monoS k y⟩
  | .conj c d, v, h => let ⟨a, y, z, e, x, p, q⟩ := h; ⟨a, y, z, e, k.lst a _ _ x, CsAt.monoS k p, CsAt.monoS k q⟩
  | .disj c d, v, h => let ⟨a, y, z, e, x, p, q⟩ := h; ⟨a, y, z, e, k.lst a _ _ x, CsAt.monoS k p, CsAt.monoS k q⟩
theorem TrAt.monoS {H H' : Hp} (k : StrK H H') : ∀ {t : Tr Str} {v : V}, TrAt H t v → TrAt H' t v
  | .like, v, h => let ⟨a, e, x⟩ := h; ⟨a, e, k.lst a _ _ x⟩
  | .up f, v, h => let ⟨a, e, x⟩ := h; ⟨a, e, k.lst a _ _ x⟩
  | .down f, v, h => let ⟨a, e, x⟩ := h; ⟨a, e, k.lst a _ _ x⟩
  | .turn t, v, h => let ⟨a, z, e, x, y⟩ := h; ⟨a, z, e, k.lst a _ _ x, TrAt.monoS k y⟩
  | .thn s t, v, h => let ⟨a, y, z, e, x, p, q⟩ := h; ⟨a, y, z, e, k.lst a _ _ x, TrAt.monoS k p, TrAt.monoS k q⟩
  | .pick c s t, v, h => let ⟨a, w, y, z, e, x, r, p, q⟩ := h; ⟨a, w, y, z, e, k.lst a _ _ x, CsAt.monoS k r, TrAt.monoS k p, TrAt.monoS k q⟩
theorem TrAt.isRef {H : Hp} : ∀ {t : Tr Str} {v : V}, TrAt H t v → ∃ a, v = .ref a
  | .like, v, h => let ⟨a, e, _⟩ := h; ⟨a, e⟩
  | .up f, v, h => let ⟨a, e, _⟩ := h; ⟨a, e⟩
  | .down f, v, h => let ⟨a, e, _⟩ := h; ⟨a, e⟩
  | .turn t, v, h => let ⟨a, _, e, _⟩ := h; ⟨a, e⟩
  | .thn s t, v, h => let ⟨a, _, _, e, _⟩ := h; ⟨a, e⟩
  | .pick c s t, v, h => let ⟨a, _, _, _, e, _⟩ := h; ⟨a, e⟩
theorem strK_upd {G : Hp} {D : Addr} {acc z : List V} (h : G D = some (.lst acc)) (m : ∀ v ∈ acc, ∃ a, v = .ref a) : StrK G (upd G D (.lst z)) :=
  ⟨tupK_upd h, fun b x xs e => by
    have ne : b ≠ D := fun q => by
      rw [q, h] at e
      cases e
      obtain ⟨a, ea⟩ := m _ List.mem_cons_self
      cases ea
    rw [upd_ne ne]
    exact e⟩
/-- apart from the shelf's own objects -/
structure Apart (S : ShS) (hd ca : Addr) : Prop where
  hx : hd ≠ S.x
  ht : hd ≠ S.td
  hr : hd ∉ S.ras
  cx : ca ≠ S.x
  ct : ca ≠ S.td
  cr : ca ∉ S.ras
section
variable {P : Program} {w : World} {K : PySem.W.Frag} {mg : Str → Option Value} {base : Heap}
/-- all that the law goes on with -/
structure Made (C : Addr) (F : Hp) (S : ShS) (hd : Addr) (tv pv : V) : Prop where
  fix : Fix F S
  trees : TreesAt F tv S.ts
  pool : PoolAt F pv S.ps
  book : BookOk S.ns
  hd0 : F hd = none
def spLShelf (C : Addr) : Sp := fun vs H Q _ => ∃ (hd ca : Addr), vs = [.ref hd] ∧ HandAt H hd ca ∧ ∀ (l : Addr) (F : Hp) (S : ShS) (tv pv nv : V) (rows : List (List Int)) (H' : Hp), HandAt H' hd ca → Apart S hd ca → Made C F S hd tv pv → (∀ tq, ShAt C F S H' [] tq 0 0 rows) →
  H' l = some (.lst [.ref S.x, S.bv, tv, pv, nv]) → Q (.ref l) H'
theorem sc_l_shelf : FnScope ["hand", "book", "numbers", "pool", "trees", "k", "tree"] ["hand"] (defScope s_l_shelf) := ⟨rfl, rfl, rfl, by decide +kernel, rfl, by decide +kernel, by decide +kernel⟩
def tOrdC : TE := tCall spOrder [] E0 (tCons (tVar 0) (tCons (tVar 1) (tCons (tVar 2) (tCons (tVar 3) tNil))))
def tWdC (K : PySem.W.Frag) : TE := tCB (fun xs H Q => ∃ p ys, xs = [.ref p] ∧ ((SqL K H p ys ∧ ∀ l, H l = none → Q (.ref l) (upd H l (.tup ys))) ∨ (SqT K H p ys ∧ Q (.ref p) H))) (tCons (tCall (spWords 7) [] E0 (tCons (tVar 6) tNil)) tNil)
theorem ok_l_shelf (T : Env K mg) : FnOk P w K mg base CX0 10 T.f_l_shelf T.fd_l_shelf ["hand"] (spLShelf T.CShelf) := by
  refine T.l_shelf.fn.ok sc_l_shelf (fun vs H Q E h => ?_) (fun cdv A outer s H vs Q E hr h => ?_)
  · obtain ⟨_, _, rfl, _⟩ := h
    rfl
  · obtain ⟨hd, ca, rfl, hh, k⟩ := h
    refine ⟨_, (pss_cons (ps_asg (pe_call (ok_l_setting T) (hr.mono (by decide)) (by rfl) T.l_setting.mg T.l_setting.fn.kp T.l_setting.bd .nil pass0 (pa_cons (pv 0) pa_nil)) (pg_lst (by rfl) (pgs_cons (pg_name (i := 1) sc_l_shelf.nd rfl (Or.inr rfl)) (pgs_cons (pg_name (i := 2) sc_l_shelf.nd rfl (Or.inr rfl)) (pgs_cons (pg_name (i := 3) sc_l_shelf.nd rfl (Or.inr rfl)) pgs_nil)))))
      (pss_cons (ps_setLc (i := 4) (own := [("k", 5)]) (g := gName 5) (tt := tYes) (te := tOrdC) rfl sc_l_shelf.nd rfl rfl (sw_true rfl rfl rfl (by decide +kernel)) (pi_range1 (by rfl) T.b_range (pa_cons (pe_op op_add pe_int (pe_call (ok_l_draw T) (hr.mono (by decide)) (by rfl) T.l_draw.mg T.l_draw.fn.kp T.l_draw.bd .nil pass0 (pa_cons (pv 0) (pa_cons pe_int pa_nil)))) pa_nil)) (blkOk_by (own := [("k", 5)]) (N := ["hand", "book", "numbers", "pool", "trees", "k", "tree"]) (sc := defScope s_l_shelf) (by decide +kernel)) (fun _ _ _ _ _ => pg_name (i := 5) sc_l_shelf.nd rfl (Or.inl rfl)) (fun _ _ _ _ _ => pts_nil) (fun _ _ _ _ _ => (pe_call (ok_l_order T) (hr.mono (by decide)) (by rfl) T.l_order.mg T.l_order.fn.kp T.l_order.bd .nil pass0 (pa_cons (pv 0) (pa_cons (pv 1) (pa_cons (pv 2) (pa_cons (pv 3) pa_nil)))))))
      (pss_one (ps_ret (pe_lst (pa_cons (pe_make T.mkShelf (ok_Shelf_init T) (hr.mono (by decide)) (by rfl) T.mgShelf T.Shelf_init.bd .nil pass0 (pa_cons (pe_lc (own := [("tree", 6)]) (g := gName 6) (tt := tYes) (te := tWdC K) rfl sc_l_shelf.nd (pi_list (pv 4)) (blkOk_by (own := [("tree", 6)]) (N := ["hand", "book", "numbers", "pool", "trees", "k", "tree"]) (sc := defScope s_l_shelf) (by decide +kernel)) (fun _ _ _ _ _ => pg_name (i := 6) sc_l_shelf.nd rfl (Or.inl rfl)) (fun _ _ _ _ _ => pts_nil) (fun _ _ _ _ _ => (pe_callTy call_tuple_of (by rfl) T.b_tuple (by decide +kernel) (pa_cons (pe_call (ok_l_words T 7 (by decide)) (hr.mono (by decide)) (by rfl) T.l_words.mg T.l_words.fn.kp T.l_words.bd .nil pass0 (pa_cons (pv 6) pa_nil)) pa_nil)))) (pa_cons (pv 1) pa_nil))) (pa_cons (pv 1) (pa_cons (pv 4) (pa_cons (pv 3) (pa_cons (pv 2) pa_nil)))))))))), ?_⟩
    refine ⟨_, rfl, hd, ca, rfl, hh, fun l bv nv pv_ ns qs ps H1 b1 h1 hl hs hp po => ?_⟩
    refine ⟨l, _, rfl, SqL.of hl, rfl, ?_⟩
    refine ⟨_, _, rfl, ?_⟩
    refine ⟨_, _, rfl, ?_⟩
    refine ⟨_, _, rfl, ?_⟩
    refine ⟨rfl, ?_⟩
    -- the trees
    refine nxt (seq_asg (lc_it ?_))
    refine ⟨_, rfl, hd, ca, _, rfl, h1, by decide, by decide, fun m H2 m0 m1 b2 h2 => ?_⟩
    refine ⟨_, _, rfl, rfl, _, rfl, by omega, by omega, ?_⟩
    have sq2 := b2.seqH h1
    have hs2 := hs.mono sq2
    have hp2 := hp.mono sq2
    refine lc_of_range (n := (1 + m).toNat) (p := fun _ => true) (F := fun G y _ => ∃ t, TrAt G t y ∧ OrdOk ns ps t) (R := fun G => But hd H2 G ∧ HandAt G hd ca) (S := fun G G2 => But hd G G2 ∧ HandAt G2 hd ca) (lck_hand h2 (fun G G2 y x hG b f => ?_) (fun G D acc z y x hD e mem f => ?_)) (fun R' r => r) (by omega) (fun x G Q' _ hR q => q G ⟨But.refl _ _, hR.2⟩) (fun x G Q' hx _ hR q => ?_) ?_
    · obtain ⟨t, f1, f2⟩ := f
      exact ⟨t, f1.mono (b.seqH hG), f2⟩
    · obtain ⟨t, f1, f2⟩ := f
      exact ⟨t, f1.monoS (strK_upd e fun v hv => let ⟨_, _, g, _⟩ := mem v hv; g.isRef), f2⟩
    · have sq := hR.1.seqH h2
      exact ⟨_, rfl, _, rfl, _, rfl, _, rfl, hd, ca, bv, nv, pv_, ns, qs, ps, rfl, hR.2, hs2.mono sq, hp2.mono sq, po, fun v t G2 b3 h3 ht o3 => q v G2 ⟨b3, h3⟩ ⟨t, ht, o3⟩⟩
    · intro ta tvs H3 hta0 hta hR3 hP
      rw [filter_all] at hP
      obtain ⟨b3, h3⟩ := hR3
      obtain ⟨ts, pt, tok, tl⟩ := paired_pick (A := fun y t => TrAt H3 t y) hP
      rw [upTo_len] at tl
      have ltv := paired_len pt
      have sq3 := b3.seqH h2
      have hs3 := hs2.mono sq3
      have hp3 := hp2.mono sq3
      -- the words
      refine ⟨_, rfl, ta, rfl, ⟨_, SqL.of hta⟩, fun D hD => ?_⟩
      refine lc_list (K := K) (a := ta) (xs := tvs) (fun i G => ∃ acc, G D = some (.lst acc) ∧ (∀ b o, b ≠ D → H3 b = some o → G b = some o) ∧ Paired (fun y t => OrdAt G y (trW t)) acc (ts.take i))
        ⟨[], upd_same, fun b o hb hh => by rw [upd_ne hb]; exact hh, .nil⟩ (fun i G _ ⟨_, _, kk, _⟩ => SqL.of (kk _ _ (fun z => by rw [← z, hta] at hD; cases hD) hta)) ?_ ?_
      · rintro i z G hz ⟨acc, hG, kk, pa⟩
        obtain ⟨t, hti, hzt⟩ := paired_get pt hz
        have sG : Same H3 G := fun b o hh => kk b o (ne_of_none hh hD) hh
        have o := tok t (List.mem_of_getElem? hti)
        refine ⟨rfl, ?_⟩
        have dp := o.deep
        refine ⟨_, rfl, z, _, rfl, Flat.le (TrAt.flat o.ok (hzt.mono (SeqK.of sG))) (by omega), fun r us G2 s2 hr0 hus pw => ?_⟩
        refine ⟨r, us, rfl, .inl ⟨SqL.of hus, fun l' hl' => ?_⟩⟩
        have s3 := same_new hl' (.tup us)
        have s23 := s2.trans s3
        have hGD := s23 _ _ hG
        have il : i < ts.length := (List.getElem?_eq_some_iff.mp hti).1
        have up : TupK (upd G2 l' (.tup us)) (upd (upd G2 l' (.tup us)) D (.lst (acc ++ [.ref l']))) := tupK_upd hGD
        refine ⟨acc, hGD, sz' (by rw [paired_len pa, List.length_take]; omega), acc ++ [.ref l'], upd_same, fun b o hb hh => ?_, ?_⟩
        · rw [upd_ne hb]
          exact s23 _ _ (kk b o hb hh)
        · rw [take_snoc hti]
          refine paired_app (paired_mono (fun _ _ f => f.mono ((TupK.of s23).trans up)) pa) (paired_one ⟨l', us, rfl, up.at_ _ _ upd_same, paired_mono (fun _ _ f => f.mono ((TupK.of s3).trans up)) pw⟩)
      · rintro G ⟨ovs, hG, kk, po'⟩
        rw [ltv, List.take_length] at po'
        have sG : Same H3 G := fun b o hh => kk b o (ne_of_none hh hD) hh
        have lo := paired_len po'
        refine ⟨_, rfl, fun x dx nx ndx nex => ?_⟩
        have hsG := hs3.mono (SeqK.of sG)
        have s4 : Same G (upd (upd G dx (.own x)) x (.ins T.CShelf dx [])) := fun b o hh => by
          rw [upd_ne (ne_of_none hh nx), upd_ne (ne_of_none hh ndx)]
          exact hh
        refine ⟨x, dx, D, bv, ovs, ns, rfl, upd_same, s4 _ _ hG, fun v hv => ?_, hsG.book.mono (TupK.of s4), by omega, fun S0 H5 ex edx ebv eov nw => ⟨rfl, ?_⟩⟩
        · obtain ⟨_, hv'⟩ := List.getElem?_of_mem hv
          obtain ⟨t, _, a, us, e, ha, _⟩ := paired_get po' hv'
          exact ⟨a, us, e, s4 _ _ ha⟩
        -- the shelf stands
        have sG5 : Same G H5 := fun b o hh => nw.but b o (by rw [ex]; exact ne_of_none hh nx) (s4 b o hh)
        have h5 : HandAt H5 hd ca := (h3.same sG).same sG5
        refine ⟨_, rfl, _, rfl, _, rfl, _, rfl, sz (by decide : 5 ≤ 1000), fun l6 nl6 => ?_⟩
        have s6 := same_new nl6 (.lst [V.ref x, bv, .ref ta, pv_, nv])
        have sG6 := sG5.trans s6
        have h6 := h5.same s6
        let S : ShS := ⟨S0.x, S0.dx, S0.oa, S0.td, S0.la, S0.bv, S0.ras, S0.ovs, ns, ts, ps⟩
        obtain ⟨hk, hke⟩ := (h3.same sG).dk
        obtain ⟨hc, hce⟩ := (h3.same sG).cells
        have f0 : ∀ {b : Addr}, upd (upd G dx (.own x)) x (.ins T.CShelf dx []) b = none → G b = none := fun {b} n => s4.free n
        have ap : Apart S hd ca := by
          refine ⟨?_, ?_, ?_, ?_, ?_, ?_⟩
          · show hd ≠ S0.x
            rw [ex]
            exact ne_of_none hke nx
          · exact ne_of_none hke (f0 nw.td0)
          · exact fun z => ne_of_none hke (f0 (nw.ra0 hd z)) rfl
          · show ca ≠ S0.x
            rw [ex]
            exact ne_of_none hce nx
          · exact ne_of_none hce (f0 nw.td0)
          · exact fun z => ne_of_none hce (f0 (nw.ra0 ca z)) rfl
        let H6 := upd H5 l6 (.lst [V.ref x, bv, .ref ta, pv_, nv])
        let F : Hp := fun b => if b = hd ∨ b = S0.x ∨ b = S0.td ∨ b ∈ S0.ras then none else H6 b
        have FH : Same F H6 := fun b o e => by
          by_cases c : b = hd ∨ b = S0.x ∨ b = S0.td ∨ b ∈ S0.ras
          · have e' : (if b = hd ∨ b = S0.x ∨ b = S0.td ∨ b ∈ S0.ras then none else H6 b) = some o := e
            rw [if_pos c] at e'
            cases e'
          · have e' : (if b = hd ∨ b = S0.x ∨ b = S0.td ∨ b ∈ S0.ras then none else H6 b) = some o := e
            rw [if_neg c] at e'
            exact e'
        have inF : ∀ b o, H6 b = some o → b ≠ hd → b ≠ S0.x → b ≠ S0.td → b ∉ S0.ras → F b = some o := fun b o e n1 n2 n3 n4 => by
          show (if b = hd ∨ b = S0.x ∨ b = S0.td ∨ b ∈ S0.ras then none else H6 b) = some o
          rw [if_neg fun z => z.elim n1 fun z => z.elim n2 fun z => z.elim n3 n4]
          exact e
        have fromG : ∀ b o, G b = some o → (∀ kvs, o ≠ .dK kvs) → F b = some o := fun b o e nd =>
          inF b o (sG6 _ _ e) (fun z => by rw [z, hke] at e; cases e; exact nd _ rfl) (by rw [ex]; exact ne_of_none e nx) (ne_of_none e (f0 nw.td0)) fun z => ne_of_none e (f0 (nw.ra0 b z)) rfl
        have sqF : SeqK G F := ⟨⟨fun b xs e => fromG b _ e (fun _ z => nomatch z), fun b ob xs e => fromG b _ e (fun _ z => nomatch z)⟩, fun b xs e => fromG b _ e (fun _ z => nomatch z)⟩
        have sq3F : SeqK H3 F := (SeqK.of sG).trans sqF
        have out : ∀ b, b = hd ∨ b = S0.x ∨ b = S0.td ∨ b ∈ S0.ras → F b = none := fun b c => if_pos c
        have hx6 : H6 S0.x = some (.ins T.CShelf S0.dx (shF S0 0)) := s6 _ _ nw.inst
        have htd6 : H6 S0.td = some (.dK []) := s6 _ _ nw.td
        have hra6 : ∀ a ∈ S0.ras, H6 a = some (.lst []) := fun a ha => s6 _ _ (nw.ras a ha)
        have hoa6 : H6 S0.oa = some (.lst S0.ovs) := s6 _ _ nw.oa
        have hla6 : H6 S0.la = some (.lst (S0.ras.map V.ref)) := s6 _ _ nw.la
        have lr0 : S0.ras.length = ts.length := by rw [nw.len, eov, lo]
        have hhd6 := sG6 _ _ hke
        have ne_hd : ∀ {b : Addr} {xs : List V}, H6 b = some (.lst xs) → b ≠ hd := fun {b xs} e => ne_of e hhd6 (by intro z; cases z)
        have ne_x : ∀ {b : Addr} {xs : List V}, H6 b = some (.lst xs) → b ≠ S0.x := fun {b xs} e => ne_of e hx6 (by intro z; cases z)
        have ne_td : ∀ {b : Addr} {xs : List V}, H6 b = some (.lst xs) → b ≠ S0.td := fun {b xs} e => ne_of e htd6 (by intro z; cases z)
        have ne_ra : ∀ {b : Addr} {y : V} {xs : List V}, H6 b = some (.lst (y :: xs)) → b ∉ S0.ras := fun {b y xs} e z => by
          rw [hra6 b z] at e
          cases e
        have t1 : 1 ≤ ts.length := by omega
        have Foa : F S0.oa = some (.lst S0.ovs) := by
          cases eo : S0.ovs with
          | nil =>
            rw [← eov, eo] at lo
            simp only [List.length_nil] at lo
            omega
          | cons y ys =>
            rw [eo] at hoa6
            exact inF _ _ hoa6 (ne_hd hoa6) (ne_x hoa6) (ne_td hoa6) (ne_ra hoa6)
        have Fla : F S0.la = some (.lst (S0.ras.map V.ref)) := by
          cases eo : S0.ras with
          | nil =>
            rw [eo] at lr0
            simp only [List.length_nil] at lr0
            omega
          | cons y ys =>
            rw [eo] at hla6
            have e4 := ne_ra hla6
            rw [eo] at e4
            show F S0.la = some (.lst ((y :: ys).map V.ref))
            refine inF _ _ hla6 (ne_hd hla6) (ne_x hla6) (ne_td hla6) ?_
            rw [eo]
            exact e4
        have fx : Fix F S := by
          refine ⟨Foa, ?_, ?_, Fla, po, tok, lr0, t1, (by show ts.length ≤ 5; omega), nw.nd, out _ (.inr (.inl rfl)), out _ (.inr (.inr (.inl rfl))), fun a ha => out _ (.inr (.inr (.inr ha)))⟩
          · show Paired (fun v t => OrdAt F v (trW t)) S0.ovs ts
            rw [eov]
            exact paired_mono (fun _ _ f => f.mono sqF.tup) po'
          · show NamesAt F S0.bv ns
            rw [ebv]
            exact hsG.book.mono sqF.tup
        refine k l6 F S (.ref ta) pv_ nv (List.replicate S0.ras.length []) _ h6 ap ⟨fx, ⟨ta, tvs, rfl, sq3F.lst _ _ hta, paired_mono (fun _ _ f => f.mono sq3F) pt⟩, hp3.mono sq3F, hs.bok, out _ (.inl rfl)⟩ (fun tq => ⟨FH, hx6, htd6, ?_, ⟨fun p hp => absurd hp (by simp), List.Pairwise.nil, fun p hp => absurd hp (by simp), Int.le_refl 0⟩, ?_⟩) ?_
        · exact paired_mono (fun a r ⟨e1, e2⟩ => by rw [e2]; exact e1) (rep_nil (R := fun a => H6 a = some (.lst [])) hra6)
        · refine paired_of_get (by rw [List.length_replicate]; exact lr0.symm) fun i t r h1 h2 => ?_
          have er : r = [] := (List.mem_replicate.mp (List.mem_of_getElem? h2)).2
          subst er
          exact ⟨List.Pairwise.nil, fun n => by simp⟩
        · show H6 l6 = some (.lst [.ref S0.x, S0.bv, .ref ta, pv_, nv])
          rw [ex, ebv]
          exact upd_same
end
end K67

set_option Elab.async false
set_option linter.all false
set_option maxRecDepth 100000
set_option maxHeartbeats 4000000
/-! _law_rows. -/
namespace K67
open PySem PySem.Spec PyProof.Rows L2
theorem gnf {i : Nat} {v : V} {σ : L2.St} {H : Hp} {R : L2.St → Hp → Prop} (h : R (σ.set i (some v)) H) : gName i v σ H R := h
theorem asc_one {ys ks : List Int} (h : ys.Perm ks) (s : ys.Pairwise (· ≤ ·)) (a : ks.Pairwise (· < ·)) : ys = ks := by
  have nd : ys.Nodup := h.nodup_iff.mpr (a.imp fun {x y} r e => by subst e; exact absurd r (Int.lt_irrefl _))
  have st : ys.Pairwise (· < ·) := (List.Pairwise.and s nd).imp fun {x y} ⟨h1, h2⟩ => by
    have := Int.lt_or_eq_of_le h1
    exact this.resolve_right h2
  exact sorted_one (fun x _ y _ h1 h2 => by omega) st a fun x => h.mem_iff
/-- what the law itself knows of the things -/
structure ThsOk (H : Hp) (ns : List Str) (ps : List (List Fq)) (tb : List (Int × V)) (tq : Int → List Fq) : Prop where
  ths : ∀ p ∈ tb, ThingAt H p.2 (tq p.1) ∧ tq p.1 ∈ ps
  asc : (tb.map (·.1)).Pairwise (· < ·)
  len : tb.length ≤ 50
theorem ThsOk.mono {H H' : Hp} {ns : List Str} {ps : List (List Fq)} {tb : List (Int × V)} {tq : Int → List Fq} (k : TupK H H') (h : ThsOk H ns ps tb tq) : ThsOk H' ns ps tb tq := ⟨fun p hp => ⟨(h.ths p hp).1.mono k, (h.ths p hp).2⟩, h.asc, h.len⟩
theorem take_map {tb : List (Int × V)} {j : Nat} {n : Int} {v : V} (h : tb[j]? = some (n, v)) : (tb.take (j + 1)).map (·.1) = (tb.take j).map (·.1) ++ [n] := by
  rw [take_snoc h, List.map_append]
  rfl
/-- the number is put in at the end of those that are not behind it -/
theorem RowOk.next {H : Hp} {ns : List Str} {ps : List (List Fq)} {tb : List (Int × V)} {tq : Int → List Fq} {t : Tr Str} {row : List Int} {j : Nat} {n : Int} {v : V} (b : ThsOk H ns ps tb tq) (o : IsOrd t (InPool ns ps)) (r : RowOk ns tq (tb.take j) t row) (hj : tb[j]? = some (n, v)) :
    RowOk ns tq (tb.take (j + 1)) t (row.take (row.filter fun m => decide (side t (thOf ns tq m) (thOf ns tq n) < 1)).length ++ [n] ++ row.drop (row.filter fun m => decide (side t (thOf ns tq m) (thOf ns tq n) < 1)).length) := by
  have inp : ∀ p ∈ tb, InPool ns ps (thOf ns tq p.1) := fun p hp => inPool_at (b.ths p hp).2
  have hn := inp _ (List.mem_of_getElem? hj)
  have sub : ∀ m ∈ row, ∃ u, (m, u) ∈ tb := fun m hm => by
    obtain ⟨u, hu⟩ := tb_mem ((r.mem m).mp hm)
    exact ⟨u, List.mem_of_mem_take hu⟩
  have f1 : ∀ m ∈ row, InPool ns ps (thOf ns tq m) := fun m hm => let ⟨u, hu⟩ := sub m hm; inp _ hu
  have asc' : ((tb.take (j + 1)).map (·.1)).Pairwise (· < ·) := b.asc.sublist ((List.take_sublist _ _).map _)
  rw [take_map hj] at asc'
  have lt : ∀ m ∈ row, m < n := fun m hm => (List.pairwise_append.mp asc').2.2 m ((r.mem m).mp hm) n (List.mem_singleton.mpr rfl)
  obtain ⟨k, hc⟩ := cut_upto o hn f1 r.srt
  rw [cut_len hc]
  refine ⟨row_put o hn f1 r.srt lt hc, fun m => ?_⟩
  rw [mem_ins, r.mem m, take_map hj, List.mem_append, List.mem_singleton]
  constructor
  · rintro (h | h)
    · exact .inr h
    · exact .inl h
  · rintro (h | h)
    · exact .inr h
    · exact .inl h
theorem len_filter {p : Int → Bool} {pv : V → Bool} (h : ∀ n, pv (.int n) = p n) (row : List Int) : (row.map V.int).filter pv = (row.filter p).map V.int := by
  rw [List.filter_map]
  refine congrArg _ (List.filter_congr fun n _ => h n)
section
variable {P : Program} {w : World} {K : PySem.W.Frag} {mg : Str → Option Value} {base : Heap}
def spRows : Sp := fun vs H Q _ => ∃ (tv bv : V) (ld : Addr) (ns : List Str) (ps : List (List Fq)) (ts : List (Tr Str)) (tb : List (Int × V)) (tq : Int → List Fq), vs = [tv, bv, .ref ld] ∧ TreesAt H tv ts ∧ NamesAt H bv ns ∧ PoolOk ns ps ∧ (∀ t ∈ ts, OrdOk ns ps t) ∧
  H ld = some (.dK (tbK tb)) ∧ ThsOk H ns ps tb tq ∧ ts.length ≤ 5 ∧ ∀ (l : Addr) (ras : List Addr) (rows : List (List Int)) (H' : Hp), Same H H' → H l = none → H' l = some (.lst (ras.map V.ref)) → Paired (fun a r => H' a = some (.lst (r.map V.int))) ras rows → Paired (RowOk ns tq tb) ts rows → Q (.ref l) H'
theorem sc_l_rows : FnScope ["trees", "book", "things", "rows", "tree", "row", "number", "at", "one"] ["trees", "book", "things"] (defScope s_l_rows) := ⟨rfl, rfl, rfl, by decide +kernel, rfl, by decide +kernel, by decide +kernel⟩
def tLess1 : TT := tTest (tOp (rI0 fun i j => .bl (decide (i < j))) (tCall (spSideL 4) [] E0 (tCons (tVar 4) (tCons (tVar 1) (tCons (tDGet (tVar 2) (tVar 8)) (tCons (tDGet (tVar 2) (tVar 6)) tNil))))) (tC (.int 1)))
theorem ok_l_rows (T : Env K mg) : FnOk P w K mg base CX0 8 T.f_l_rows T.fd_l_rows ["trees", "book", "things"] spRows := by
  refine T.l_rows.fn.ok sc_l_rows (fun vs H Q E h => ?_) (fun cdv A outer s H vs Q E hr h => ?_)
  · obtain ⟨_, _, _, _, _, _, _, _, rfl, _⟩ := h
    rfl
  · obtain ⟨tv, bv, ld, ns, ps, ts, tb, tq, rfl, ht, hb, po, tok, hld, th, t5, k⟩ := h
    refine ⟨_, (pss_cons (ps_set (i := 3) sc_l_rows.nd rfl (Or.inl rfl) (pe_lst pa_nil))
      (pss_cons (ps_for PassesOwn.never rfl (pi_list (pv 0)) (pg_name (i := 4) sc_l_rows.nd rfl (Or.inr rfl))
      (pss_cons (ps_set (i := 5) sc_l_rows.nd rfl (Or.inl rfl) (pe_lst pa_nil))
      (pss_cons (ps_for PassesOwn.never rfl (pi_list (pe_callB (call_sortedDI rfl) (by rfl) T.b_sorted (by decide +kernel) (pa_cons (pv 2) pa_nil))) (pg_name (i := 6) sc_l_rows.nd rfl (Or.inr rfl))
      (pss_cons (ps_set (i := 7) sc_l_rows.nd rfl (Or.inl rfl) (pe_callB call_len_seq (by rfl) T.b_len (by decide +kernel) (pa_cons (pe_lc (own := [("one", 8)]) (g := gName 8) (tt := tLess1) (te := tVar 8) rfl sc_l_rows.nd (pi_list (pv 5)) (blkOk_by (own := [("one", 8)]) (N := ["trees", "book", "things", "rows", "tree", "row", "number", "at", "one"]) (sc := defScope s_l_rows) (by decide +kernel)) (fun _ _ _ _ _ => pg_name (i := 8) sc_l_rows.nd rfl (Or.inl rfl)) (fun _ _ _ _ _ => (pts_one (pt_cmpR op_lt (pe_call (ok_l_side T 4) (hr.mono (by decide)) (by rfl) T.l_side.mg T.l_side.fn.kp T.l_side.bd .nil pass0 (pa_cons (pv 4) (pa_cons (pv 1) (pa_cons (pe_dget (hu_of hr) (pv 2) (pv 8) (fun _ _ => rfl)) (pa_cons (pe_dget (hu_of hr) (pv 2) (pv 6) (fun _ _ => rfl)) pa_nil))))) pe_int (nomark _)))) (fun _ _ _ _ _ => (pv 8))) pa_nil)))
      (pss_one (ps_expr (pe_bm PySem.F.plainAttrs_list PySem.F.slot_list_insert PySem.F.type_list_insert mt_insert (pv 5) (pa_cons (pv 7) (pa_cons (pv 6) pa_nil)))))))
      (pss_one (ps_expr (pe_bm PySem.F.plainAttrs_list PySem.F.slot_list_append PySem.F.type_list_append mt_append (pv 3) (pa_cons (pv 5) pa_nil)))))))
      (pss_one (ps_ret (pv 3))))), ?_⟩
    have nd := tb_nodup th.asc
    have tl := th.len
    obtain ⟨ta, tvs, rfl, hta, pt⟩ := ht
    have lt := paired_len pt
    refine ⟨sz (by decide : 0 ≤ 1000), fun p np => ?_⟩
    have s1 := same_new np (.lst [])
    refine ⟨_, rfl, ta, rfl, ⟨_, SqL.of (s1 _ _ hta)⟩, ?_⟩
    refine for_list (a := ta) (xs := tvs) (fun i σ G => ∃ (ras : List Addr) (rows : List (List Int)) (kv rv nv av : Option V), σ = [some (.ref ta), some bv, some (.ref ld), some (.ref p), kv, rv, nv, av, none] ∧ Same H G ∧ G p = some (.lst (ras.map V.ref)) ∧ (∀ a ∈ ras, a ≠ p) ∧
        Paired (fun a r => G a = some (.lst (r.map V.int))) ras rows ∧ Paired (RowOk ns tq tb) (ts.take i) rows)
      ⟨[], [], none, none, none, none, rfl, s1, upd_same, fun a ha => absurd ha (by simp), .nil, .nil⟩ (fun i σ G _ ⟨_, _, _, _, _, _, _, s, _⟩ => SqL.of (s _ _ hta)) ?_ ?_
    · rintro i z σ G hz ⟨ras, rows, kv, rv, nv, av, rfl, sG, hpG, hra, pG, rG⟩
      obtain ⟨t, hti, hzt⟩ := paired_get pt hz
      have o := tok t (List.mem_of_getElem? hti)
      refine ⟨sz (by decide : 0 ≤ 1000), fun r nr => ?_⟩
      have s2 := same_new nr (.lst [])
      have hld2 := s2 _ _ (sG _ _ hld)
      refine ⟨_, rfl, ld, tbK tb, tb.map (·.1), rfl, .inl hld2, (by unfold tbK; rw [List.map_map, List.map_map]; rfl), by rw [List.length_map]; omega, fun ys q pm srt nq => ?_⟩
      rw [asc_one pm srt th.asc]
      have s3 := s2.trans (same_new nq (.lst ((tb.map (·.1)).map V.int)))
      have hr3 : upd (upd G r (.lst [])) q (.lst ((tb.map (·.1)).map V.int)) r = some (.lst []) := (same_new nq _) _ _ upd_same
      have hq3 : upd (upd G r (.lst [])) q (.lst ((tb.map (·.1)).map V.int)) q = some (.lst ((tb.map (·.1)).map V.int)) := upd_same
      have rq : r ≠ q := fun e => by
        rw [← e, upd_same] at nq
        cases nq
      generalize upd (upd G r (.lst [])) q (.lst ((tb.map (·.1)).map V.int)) = G3 at s3 hr3 hq3
      refine ⟨q, rfl, ⟨_, SqL.of hq3⟩, ?_⟩
      refine for_list (a := q) (xs := (tb.map (·.1)).map V.int) (fun j σ G' => ∃ (row : List Int) (nv av : Option V), σ = [some (.ref ta), some bv, some (.ref ld), some (.ref p), some z, some (.ref r), nv, av, none] ∧ (∀ b ob, b ≠ r → G3 b = some ob → G' b = some ob) ∧ G' r = some (.lst (row.map V.int)) ∧ RowOk ns tq (tb.take j) t row)
        ⟨[], _, _, rfl, fun b ob _ e => e, hr3, ⟨List.Pairwise.nil, fun n => by simp⟩⟩ (fun j σ G' _ ⟨_, _, _, _, kk, _⟩ => SqL.of (kk _ _ (Ne.symm rq) hq3)) ?_ ?_
      · rintro j y σ G' hy ⟨row, nv, av, rfl, kk, hrG, rok⟩
        rw [List.map_map, List.getElem?_map] at hy
        cases hj : tb[j]? with
        | none =>
          rw [hj] at hy
          cases hy
        | some nu =>
          obtain ⟨n, u⟩ := nu
          rw [hj] at hy
          cases (Option.some.inj hy : V.int n = y)
          have sG' : Same G G' := fun b ob e => kk b ob (ne_of_none e nr) (s3 b ob e)
          have sH := sG.trans sG'
          have rowl : row.length ≤ 50 := by
            have inp : ∀ m ∈ row, InPool ns ps (thOf ns tq m) := fun m hm => by
              obtain ⟨u', hu⟩ := tb_mem ((rok.mem m).mp hm)
              exact inPool_at (th.ths _ (List.mem_of_mem_take hu)).2
            have h1 := nodup_len (row_nodup o.ord inp rok.srt) (m := (tb.take j).map (·.1)) fun x hx => (rok.mem x).mp hx
            rw [List.length_map, List.length_take] at h1
            omega
          have get : ∀ (m : Int) (G2 : Hp), Same H G2 → m ∈ tb.map (·.1) → ∃ u, DGet G2 ld (.int m) (some u) ∧ ThingAt G2 u (tq m) ∧ ThOk ns (tq m) := fun m G2 s hm => by
            obtain ⟨u, hu⟩ := tb_mem hm
            have dg := DGet.k (k := Sum.inl m) (s _ _ hld)
            rw [tbK_val nd hu] at dg
            exact ⟨u, dg, (th.ths _ hu).1.mono (TupK.of s), po.ok _ (th.ths _ hu).2⟩
          have hn : n ∈ tb.map (·.1) := List.mem_map.mpr ⟨_, List.mem_of_getElem? hj, rfl⟩
          refine gnf (seq_asg (cb_one ?_))
          refine lc_of_list (a := r) (xs := row.map V.int) (p := fun x => match x with | .int m => decide (side t (thOf ns tq m) (thOf ns tq n) < 1) | _ => false) (F := fun G2 y x => Same G' G2 ∧ y = x) (R := Same G') (S := fun G G2 => Same G G2) (lck_same (fun _ _ _ _ _ f => f) (fun _ _ _ _ _ _ _ _ _ _ f => f)) (fun R' r' => ⟨_, rfl, r, rfl, ⟨_, SqL.of hrG⟩, r'⟩) (fun G2 r' => SqL.of (r' _ _ hrG)) (by rw [List.length_map]; omega) (fun x G2 Q' hx hR q => ?_) (fun x G2 Q' hx _ hR q => ?_) ?_
          · obtain ⟨m, hm, rfl⟩ := List.mem_map.mp hx
            have hm' : m ∈ tb.map (·.1) := by
              obtain ⟨u', hu⟩ := tb_mem ((rok.mem m).mp hm)
              exact List.mem_map.mpr ⟨_, List.mem_of_mem_take hu, rfl⟩
            have s4 := sH.trans hR
            obtain ⟨u1, d1, a1, o1⟩ := get m G2 s4 hm'
            obtain ⟨u2, d2, a2, o2⟩ := get n G2 s4 hn
            refine ⟨_, rfl, _, rfl, _, rfl, _, rfl, ld, u1, rfl, d1, _, rfl, _, rfl, ld, u2, rfl, d2, z, bv, u1, u2, ns, tq m, tq n, t, rfl, hzt.mono (SeqK.of s4), ⟨hb.mono (TupK.of s4), a1, a2, o1, o2⟩, o.ok, o.deep, fun G3 s5 => ?_⟩
            exact ⟨_, _, rfl, rfl, _, rfl, q G3 s5⟩
          · exact ⟨_, rfl, q _ _ (Same.refl _) ⟨hR, rfl⟩⟩
          · intro D ys' G4 hD hGD sD hP
            cases paired_eq (A := Same G' G4) hP
            refine ⟨D, _, rfl, .inl (SqL.of hGD), ?_⟩
            rw [len_filter (p := fun m => decide (side t (thOf ns tq m) (thOf ns tq n) < 1)) (fun _ => rfl), List.length_map]
            have nx := rok.next th o.ord hj
            generalize hk : (row.filter fun m => decide (side t (thOf ns tq m) (thOf ns tq n) < 1)).length = kk' at nx
            have kl : kk' ≤ row.length := by
              rw [← hk]
              exact List.length_filter_le _ _
            have hr4 := sD _ _ hrG
            refine ⟨_, rfl, .inl ⟨rfl, _, SqL.of hr4⟩, _, rfl, _, rfl, r, _, _, _, rfl, rfl, hr4, sz' (by rw [List.length_map]; omega), by omega, by omega, ?_⟩
            have eq : (row.map V.int).take ((kk' : Int)).toNat ++ [V.int n] ++ (row.map V.int).drop ((kk' : Int)).toNat = (row.take kk' ++ [n] ++ row.drop kk').map V.int := by
              rw [List.map_append, List.map_append, List.map_take, List.map_drop]
              rfl
            rw [eq]
            refine ⟨_, _, _, rfl, fun b ob hb e => ?_, upd_same, nx⟩
            rw [upd_ne hb]
            exact sD _ _ (kk b ob hb e)
      · rintro σ G' ⟨row, nv', av', rfl, kk, hrG, rok⟩
        rw [List.length_map, List.length_map, List.take_length] at rok
        have sG' : Same G G' := fun b ob e => kk b ob (ne_of_none e nr) (s3 b ob e)
        have hp' := sG' _ _ hpG
        have rp : r ≠ p := fun e => by
          rw [e, hpG] at nr
          cases nr
        have il := (List.getElem?_eq_some_iff.mp hti).1
        refine ⟨_, rfl, .inl ⟨rfl, _, SqL.of hp'⟩, _, rfl, p, _, _, rfl, rfl, hp', sz' (by rw [List.length_map, paired_len pG, ← paired_len rG, List.length_take]; omega), ?_⟩
        refine ⟨ras ++ [r], rows ++ [row], _, _, _, _, rfl, fun b ob e => ?_, ?_, fun a ha => ?_, ?_, ?_⟩
        · rw [upd_ne (ne_of_none e np)]
          exact sG' _ _ (sG b ob e)
        · rw [upd_same, List.map_append]
          rfl
        · rcases List.mem_append.mp ha with h | h
          · exact hra a h
          · rw [List.mem_singleton.mp h]
            exact rp
        · refine paired_app ?_ (paired_one (by rw [upd_ne rp]; exact hrG))
          refine paired_of_get (paired_len pG) fun i' a r' h1 h2 => ?_
          obtain ⟨r2, h3, h4⟩ := paired_get pG h1
          rw [h2] at h3
          cases h3
          rw [upd_ne (hra a (List.mem_of_getElem? h1))]
          exact sG' _ _ h4
        · rw [take_snoc hti]
          exact paired_app rG (paired_one rok)
    · rintro σ G ⟨ras, rows, kv, rv, nv, av, rfl, sG, hpG, hra, pG, rG⟩
      rw [lt, List.take_length] at rG
      exact ⟨_, rfl, k p ras rows G sG np hpG pG rG⟩
end
end K67

set_option Elab.async false
set_option linter.all false
set_option maxRecDepth 100000
set_option maxHeartbeats 4000000
/-! _law_call, _law_refused. -/
namespace K67
open PySem PySem.Spec PyProof.Rows L2
section
variable {P : Program} {w : World} {K : PySem.W.Frag} {mg : Str → Option Value} {base : Heap}
def spLCall (C N M : Addr) : Sp := fun vs H Q E => ∃ (F : Hp) (S : ShS) (tb : List (Int × V)) (tq : Int → List Fq) (bd g : Int) (rows : List (List Int)) (n : Int) (wd x : Str) (fv wv : V),
  vs = [.ref S.x, .str wd, .int n, .str x, fv, wv] ∧ Fix F S ∧ ShAt C F S H tb tq bd g rows ∧ x.length ≤ 900 ∧
  ((n ∉ tb.map (·.1) ∧ E (.ref N) none H) ∨ (wd = "change" ∧ n ∈ tb.map (·.1) ∧ x ∉ S.ns ∧ ∀ d H', Same H H' → H' d = some (.xd [("word", .str x)]) → E (.ref M) (some d) H'))
theorem sc_l_call : FnScope ["shelf", "word", "number", "field", "part", "which"] ["shelf", "word", "number", "field", "part", "which"] (defScope s_l_call) := ⟨rfl, rfl, rfl, by decide +kernel, rfl, by decide +kernel, by decide +kernel⟩
theorem ok_l_call (T : Env K mg) : FnOk P w K mg base (L2.CX P w) 4 T.f_l_call T.fd_l_call ["shelf", "word", "number", "field", "part", "which"] (spLCall T.CShelf T.CNoThing T.CNoField) := by
  refine T.l_call.fn.okX sc_l_call (fun vs H Q E h => ?_) (fun cdv A outer s H vs Q E hr h => ?_)
  · obtain ⟨_, _, _, _, _, _, _, _, _, _, _, _, rfl, _⟩ := h
    rfl
  · obtain ⟨F, S, tb, tq, bd, g, rows, n, wd, x, fv, wv, rfl, fx, sh, hx, k⟩ := h
    refine ⟨_, (pss_one (ps_if (pt_cmpR op_eq (pv 1) pe_str (nomark _))
      (pss_one (ps_expr (pe_meth (E := E) (pv 0) T.clShelf T.Shelf_take.mt (ok_Shelf_take T) (hr.mono (by decide)) T.Shelf_take.bd .nil (passes_call (takes_of rfl rfl rfl rfl) fun _ _ _ _ z => z) (pa_cons (pv 2) pa_nil))))
      (pss_one (ps_if (pt_cmpR op_eq (pv 1) pe_str (nomark _))
      (pss_one (ps_expr (pe_meth (E := E) (pv 0) T.clShelf T.Shelf_change.mt (ok_Shelf_change T) (hr.mono (by decide)) T.Shelf_change.bd .nil (passes_call (takes_of rfl rfl rfl rfl) fun _ _ _ _ z => z) (pa_cons (pv 2) (pa_cons (pv 3) (pa_cons (pv 4) pa_nil))))))
      (pss_one (ps_if (pt_cmpR op_eq (pv 1) pe_str (nomark _))
      (pss_one (ps_expr (pe_meth (E := E) (pv 0) T.clShelf T.Shelf_thing.mt (ok_Shelf_thing T) (hr.mono (by decide)) T.Shelf_thing.bd .nil (passes_call (takes_of rfl rfl rfl rfl) fun _ _ _ _ z => z) (pa_cons (pv 2) pa_nil))))
      (pss_one (ps_expr (pe_meth (E := E) (pv 0) T.clShelf T.Shelf_place.mt (ok_Shelf_place T) (hr.mono (by decide)) T.Shelf_place.bd .nil (passes_call (takes_of rfl rfl rfl rfl) fun _ _ _ _ z => z) (pa_cons (pv 5) (pa_cons (pv 2) pa_nil))))))))))), ?_⟩
    refine ⟨_, rfl, rfl, _, rfl, ?_⟩
    rcases k with ⟨no, k⟩ | ⟨ew, hn, no, k⟩
    · by_cases c1 : V.str wd = V.str "take"
      · refine ifT c1 ?_
        exact ⟨_, rfl, S.x, S.dx, _, rfl, sh.inst, rfl, _, rfl, F, S, tb, tq, bd, g, rows, n, rfl, fx, sh, .inr ⟨no, k⟩⟩
      · refine ifF c1 ?_
        refine ⟨_, rfl, rfl, _, rfl, ?_⟩
        by_cases c2 : V.str wd = V.str "change"
        · refine ifT c2 ?_
          exact ⟨_, rfl, S.x, S.dx, _, rfl, sh.inst, rfl, _, rfl, _, rfl, _, rfl, F, S, tb, tq, bd, g, rows, n, x, fv, rfl, fx, sh, hx, .inl ⟨no, k⟩⟩
        · refine ifF c2 ?_
          refine ⟨_, rfl, rfl, _, rfl, ?_⟩
          by_cases c3 : V.str wd = V.str "thing"
          · refine ifT c3 ?_
            exact ⟨_, rfl, S.x, S.dx, _, rfl, sh.inst, rfl, _, rfl, F, S, tb, tq, bd, g, rows, n, rfl, sh, .inr ⟨no, k⟩⟩
          · refine ifF c3 ?_
            exact ⟨_, rfl, S.x, S.dx, _, rfl, sh.inst, rfl, _, rfl, _, rfl, F, S, tb, tq, bd, g, rows, n, wv, rfl, sh, no, k⟩
    · subst ew
      refine ifF (by decide +kernel) ?_
      refine ⟨_, rfl, rfl, _, rfl, ifT rfl ?_⟩
      exact ⟨_, rfl, S.x, S.dx, _, rfl, sh.inst, rfl, _, rfl, _, rfl, _, rfl, F, S, tb, tq, bd, g, rows, n, x, fv, rfl, fx, sh, hx, .inr ⟨hn, no, k⟩⟩
def spRefused (C : Addr) : Sp := fun vs H Q _ => ∃ (F : Hp) (S : ShS) (tb : List (Int × V)) (tq : Int → List Fq) (bd g : Int) (rows : List (List Int)) (n : Int) (wd x : Str) (fv wv : V),
  vs = [.ref S.x, .str wd, .int n, .str x, fv, wv] ∧ Fix F S ∧ ShAt C F S H tb tq bd g rows ∧ x.length ≤ 900 ∧
  ((n ∉ tb.map (·.1) ∧ ∀ H', Same H H' → Q (.str "thing") H') ∨ (wd = "change" ∧ n ∈ tb.map (·.1) ∧ x ∉ S.ns ∧ ∀ H', Same H H' → Q (.str "field") H'))
theorem sc_l_refused : FnScope ["shelf", "word", "number", "field", "part", "which", "caught", "e"] ["shelf", "word", "number", "field", "part", "which"] (defScope s_l_refused) := ⟨rfl, rfl, rfl, by decide +kernel, rfl, by decide +kernel, by decide +kernel⟩
theorem ok_l_refused (T : Env K mg) : FnOk P w K mg base CX0 5 T.f_l_refused T.fd_l_refused ["shelf", "word", "number", "field", "part", "which"] (spRefused T.CShelf) := by
  refine T.l_refused.fn.ok sc_l_refused (fun vs H Q E h => ?_) (fun cdv A outer s H vs Q E hr h => ?_)
  · obtain ⟨_, _, _, _, _, _, _, _, _, _, _, _, rfl, _⟩ := h
    rfl
  · obtain ⟨F, S, tb, tq, bd, g, rows, n, wd, x, fv, wv, rfl, fx, sh, hx, k⟩ := h
    refine ⟨_, (pss_cons (ps_set (i := 6) sc_l_refused.nd rfl (Or.inl rfl) pe_non)
      (pss_cons (ps_try_trk (i := 7) rfl rfl sc_l_refused.nd rfl rfl ⟨rfl, by decide, .inl T.mgOrderError⟩ takes0
        (fun W pn xe tk _ => pss_one (ps_expr (pe_callS (ok_l_call T) (hr.mono (by decide)) rfl T.l_call.mg T.l_call.fn.kp T.l_call.bd (fun σ => passAt tk σ) (pa_cons (pv 0) (pa_cons (pv 1) (pa_cons (pv 2) (pa_cons (pv 3) (pa_cons (pv 4) (pa_cons (pv 5) pa_nil)))))))))
        (fun a pn => pss_one (ps_set (i := 6) sc_l_refused.nd rfl (Or.inl rfl) (pv 7))))
      (pss_cons (ps_if (PW.pt (pw_or (pt_not (pt_val (pe_callB call_isX (by rfl) T.b_isinstance (by decide +kernel) (pa_cons (pv 6) (pa_cons (pe_bltn (v := .ty "ValueError") (by rfl) T.b_ValueError (by decide +kernel) rfl) pa_nil))))) (pw_or1 (pt_val (pe_callB call_isXT (by rfl) T.b_isinstance (by decide +kernel) (pa_cons (pv 6) (pa_cons (pe_tup (pa_cons (pe_glob (v := .ref T.CClash) rfl T.mgClash rfl) (pa_cons (pe_glob (v := .ref T.CNoAsk) rfl T.mgNoAsk rfl) (pa_cons (pe_glob (v := .ref T.CNoNet) rfl T.mgNoNet rfl) (pa_cons (pe_glob (v := .ref T.CNoNumber) rfl T.mgNoNumber rfl) pa_nil))))) pa_nil)))))))
      (pss_one (ps_ret pe_str)) pss_nil)
      (pss_cons (ps_if (pt_val (pe_callB call_isXT (by rfl) T.b_isinstance (by decide +kernel) (pa_cons (pv 6) (pa_cons (pe_tup (pa_cons (pe_glob (v := .ref T.CNoOrder) rfl T.mgNoOrder rfl) (pa_cons (pe_glob (v := .ref T.CNoPlace) rfl T.mgNoPlace rfl) (pa_cons (pe_glob (v := .ref T.CNoRow) rfl T.mgNoRow rfl) pa_nil)))) pa_nil))))
      (pss_one (ps_ret pe_str)) pss_nil)
      (pss_cons (ps_if (pt_val (pe_callB call_isX (by rfl) T.b_isinstance (by decide +kernel) (pa_cons (pv 6) (pa_cons (pe_glob (v := .ref T.CNoThing) rfl T.mgNoThing rfl) pa_nil))))
      (pss_one (ps_ret (pe_ix ix_list (pe_lst (pa_cons pe_str (pa_cons pe_str pa_nil))) (pe_callTy call_int1 (by rfl) T.b_int (by decide +kernel) (pa_cons (pe_callB call_isX (by rfl) T.b_isinstance (by decide +kernel) (pa_cons (pv 6) (pa_cons (pe_glob (v := .ref T.CNoField) rfl T.mgNoField rfl) pa_nil))) pa_nil)) (fun _ _ => rfl)))) pss_nil)
      (pss_one (ps_ret (pe_ix ix_list (pe_lst (pa_cons pe_str (pa_cons pe_str pa_nil))) (pe_callTy call_int1 (by rfl) T.b_int (by decide +kernel) (pa_cons (pe_and (pe_callB call_isX (by rfl) T.b_isinstance (by decide +kernel) (pa_cons (pv 6) (pa_cons (pe_glob (v := .ref T.CNoField) rfl T.mgNoField rfl) pa_nil))) (pe_one (pe_cmpR op_eq (pe_xfK (pv 6)) (pv 3) (nomark _)))) pa_nil)) (fun _ _ => rfl))))))))), ?_⟩
    refine ⟨_, rfl, _, rfl, _, rfl, _, rfl, _, rfl, _, rfl, F, S, tb, tq, bd, g, rows, n, wd, x, fv, wv, rfl, fx, sh, hx, ?_⟩
    rcases k with ⟨no, k⟩ | ⟨ew, hn, no, k⟩
    · refine .inl ⟨no, true, T.mNoThing, fun _ a na => ?_, fun z => Bool.noConfusion z⟩
      have s1 := same_new na (exE (.ref T.CNoThing) none a)
      have ha : upd H a (exE (.ref T.CNoThing) none a) a = some (exE (.ref T.CNoThing) none a) := upd_same
      generalize upd H a (exE (.ref T.CNoThing) none a) = H1 at s1 ha
      refine ⟨_, rfl, ?_⟩
      refine ⟨_, rfl, a, T.CNoThing, none, _, _, true, rfl, ha, trivial, T.eNoThing, .ty _, T.iNoThing_VE, true, rfl, iteF ?_⟩
      refine ⟨_, rfl, sz (by decide : 4 ≤ 1000), fun p2 np2 => ?_⟩
      have s2 := same_new np2 (.tup [V.ref T.CClash, .ref T.CNoAsk, .ref T.CNoNet, .ref T.CNoNumber])
      have k1 : PySem.W.kitAny K (.ref T.CNoThing) [.ref T.CClash, .ref T.CNoAsk, .ref T.CNoNet, .ref T.CNoNumber] = some false := by
        simp only [PySem.W.kitAny, T.iNoThing_Clash, T.iNoThing_NoAsk, T.iNoThing_NoNet, T.iNoThing_NoNumber]
      refine ⟨a, T.CNoThing, none, p2, _, _, false, rfl, s2 _ _ ha, trivial, T.eNoThing, upd_same, .cons (.own _) (.cons (.own _) (.cons (.own _) (.cons (.own _) .nil))), k1, false, rfl, iteF ?_⟩
      have ha2 := s2 _ _ ha
      have s02 := s1.trans s2
      generalize upd H1 p2 (.tup [V.ref T.CClash, .ref T.CNoAsk, .ref T.CNoNet, .ref T.CNoNumber]) = H2 at ha2 s02
      refine ⟨_, rfl, sz (by decide : 3 ≤ 1000), fun p3 np3 => ?_⟩
      have s3 := same_new np3 (.tup [V.ref T.CNoOrder, .ref T.CNoPlace, .ref T.CNoRow])
      have k2 : PySem.W.kitAny K (.ref T.CNoThing) [.ref T.CNoOrder, .ref T.CNoPlace, .ref T.CNoRow] = some false := by
        simp only [PySem.W.kitAny, T.iNoThing_NoOrder, T.iNoThing_NoPlace, T.iNoThing_NoRow]
      refine ⟨a, T.CNoThing, none, p3, _, _, false, rfl, s3 _ _ ha2, trivial, T.eNoThing, upd_same, .cons (.own _) (.cons (.own _) (.cons (.own _) .nil)), k2, false, rfl, iteF ?_⟩
      have ha3 := s3 _ _ ha2
      have s03 := s02.trans s3
      generalize upd H2 p3 (.tup [V.ref T.CNoOrder, .ref T.CNoPlace, .ref T.CNoRow]) = H3 at ha3 s03
      refine ⟨_, rfl, a, T.CNoThing, none, _, _, true, rfl, ha3, trivial, T.eNoThing, .own _, T.iNoThing_NoThing, true, rfl, iteT ?_⟩
      refine ⟨sz (by decide : 2 ≤ 1000), fun p4 np4 => ?_⟩
      have s4 := same_new np4 (.lst [V.str "thing", .str "other"])
      refine ⟨_, rfl, a, T.CNoThing, none, _, _, false, rfl, s4 _ _ ha3, trivial, T.eNoThing, .own _, T.iNoThing_NoField, .inr ⟨_, rfl, p4, _, 0, .str "thing", rfl, rfl, SqL.of upd_same, rfl, ?_⟩⟩
      exact k _ (s03.trans s4)
    · subst ew
      refine .inr ⟨rfl, hn, no, fun d H1 s0 hd => ⟨true, T.mNoField, fun _ a na => ?_, fun z => Bool.noConfusion z⟩⟩
      have s1 := same_new na (exE (.ref T.CNoField) (some d) a)
      have ha : upd H1 a (exE (.ref T.CNoField) (some d) a) a = some (exE (.ref T.CNoField) (some d) a) := upd_same
      have hd1 := s1 _ _ hd
      have s01 := s0.trans s1
      generalize upd H1 a (exE (.ref T.CNoField) (some d) a) = H1' at s01 ha hd1
      refine ⟨_, rfl, ?_⟩
      refine ⟨_, rfl, a, T.CNoField, some d, _, _, true, rfl, ha, ⟨_, hd1⟩, T.eNoField, .ty _, T.iNoField_VE, true, rfl, iteF ?_⟩
      refine ⟨_, rfl, sz (by decide : 4 ≤ 1000), fun p2 np2 => ?_⟩
      have s2 := same_new np2 (.tup [V.ref T.CClash, .ref T.CNoAsk, .ref T.CNoNet, .ref T.CNoNumber])
      have k1 : PySem.W.kitAny K (.ref T.CNoField) [.ref T.CClash, .ref T.CNoAsk, .ref T.CNoNet, .ref T.CNoNumber] = some false := by
        simp only [PySem.W.kitAny, T.iNoField_Clash, T.iNoField_NoAsk, T.iNoField_NoNet, T.iNoField_NoNumber]
      refine ⟨a, T.CNoField, some d, p2, _, _, false, rfl, s2 _ _ ha, ⟨_, s2 _ _ hd1⟩, T.eNoField, upd_same, .cons (.own _) (.cons (.own _) (.cons (.own _) (.cons (.own _) .nil))), k1, false, rfl, iteF ?_⟩
      have ha2 := s2 _ _ ha
      have hd2 := s2 _ _ hd1
      have s02 := s01.trans s2
      generalize upd H1' p2 (.tup [V.ref T.CClash, .ref T.CNoAsk, .ref T.CNoNet, .ref T.CNoNumber]) = H2 at ha2 s02 hd2
      refine ⟨_, rfl, sz (by decide : 3 ≤ 1000), fun p3 np3 => ?_⟩
      have s3 := same_new np3 (.tup [V.ref T.CNoOrder, .ref T.CNoPlace, .ref T.CNoRow])
      have k2 : PySem.W.kitAny K (.ref T.CNoField) [.ref T.CNoOrder, .ref T.CNoPlace, .ref T.CNoRow] = some false := by
        simp only [PySem.W.kitAny, T.iNoField_NoOrder, T.iNoField_NoPlace, T.iNoField_NoRow]
      refine ⟨a, T.CNoField, some d, p3, _, _, false, rfl, s3 _ _ ha2, ⟨_, s3 _ _ hd2⟩, T.eNoField, upd_same, .cons (.own _) (.cons (.own _) (.cons (.own _) .nil)), k2, false, rfl, iteF ?_⟩
      have ha3 := s3 _ _ ha2
      have hd3 := s3 _ _ hd2
      have s03 := s02.trans s3
      generalize upd H2 p3 (.tup [V.ref T.CNoOrder, .ref T.CNoPlace, .ref T.CNoRow]) = H3 at ha3 s03 hd3
      refine ⟨_, rfl, a, T.CNoField, some d, _, _, false, rfl, ha3, ⟨_, hd3⟩, T.eNoField, .own _, T.iNoField_NoThing, false, rfl, iteF ?_⟩
      refine ⟨sz (by decide : 2 ≤ 1000), fun p4 np4 => ?_⟩
      have s4 := same_new np4 (.lst [V.str "other", .str "field"])
      refine ⟨_, rfl, a, T.CNoField, some d, _, _, true, rfl, s4 _ _ ha3, ⟨_, s4 _ _ hd3⟩, T.eNoField, .own _, T.iNoField_NoField, true, rfl, iteT ?_⟩
      refine ⟨_, rfl, a, T.CNoField, d, _, .str x, rfl, s4 _ _ ha3, s4 _ _ hd3, T.eNoField, T.hdNoField, T.noWord, rfl, ?_⟩
      refine ⟨_, rfl, rfl, ?_⟩
      refine .inr ⟨_, rfl, p4, _, 1, .str "field", rfl, by rw [decide_eq_true rfl]; rfl, SqL.of upd_same, rfl, ?_⟩
      exact k _ (s03.trans s4)
end
end K67

set_option Elab.async false
set_option linter.all false
set_option maxRecDepth 100000
set_option maxHeartbeats 4000000
/-! _law_no_field. -/
namespace K67
open PySem PySem.Spec PyProof.Rows L2
section
variable {P : Program} {w : World} {K : PySem.W.Frag} {mg : Str → Option Value} {base : Heap}
def spNoField : Sp := fun vs H Q _ => ∃ (hd ca : Addr) (bv : V) (ns : List Str), vs = [.ref hd, bv] ∧ HandAt H hd ca ∧ NamesAt H bv ns ∧ BookOk ns ∧ ∀ (x : Str) (H' : Hp), But hd H H' → HandAt H' hd ca → x ∉ ns → x.length ≤ 20 → Q (.str x) H'
theorem sc_l_no_field : FnScope ["hand", "book", "field", "some", "name", "words", "one"] ["hand", "book"] (defScope s_l_no_field) := ⟨rfl, rfl, rfl, by decide +kernel, rfl, by decide +kernel, by decide +kernel⟩
theorem ok_l_no_field (T : Env K mg) : FnOk P w K mg base CX0 2 T.f_l_no_field T.fd_l_no_field ["hand", "book"] spNoField := by
  refine T.l_no_field.fn.ok sc_l_no_field (fun vs H Q E h => ?_) (fun cdv A outer s H vs Q E hr h => ?_)
  · obtain ⟨_, _, _, _, rfl, _⟩ := h
    rfl
  · obtain ⟨hd, ca, bv, ns, rfl, hh, hb, bok, k⟩ := h
    refine ⟨_, (pss_cons (ps_set (i := 2) sc_l_no_field.nd rfl (Or.inl rfl) (pe_ix ix_tup (pv 1) (pe_call (ok_l_draw T) (hr.mono (by decide)) (by rfl) T.l_draw.mg T.l_draw.fn.kp T.l_draw.bd .nil pass0 (pa_cons (pv 0) (pa_cons (pe_callB call_len_seq (by rfl) T.b_len (by decide +kernel) (pa_cons (pv 1) pa_nil)) pa_nil))) (fun _ _ => rfl)))
      (pss_cons (ps_set (i := 3) sc_l_no_field.nd rfl (Or.inl rfl) (pe_lst (pa_cons (pe_slice sl_str (pv 2) po_none (po_some (pe_un un_neg pe_int))) (pa_cons (pe_op op_add_str (pv 2) pe_str) (pa_cons (pe_op op_add_str pe_str (pv 2)) (pa_cons pe_str (pa_cons (pe_revS (pv 2)) (pa_cons pe_str pa_nil))))))))
      (pss_cons (ps_set (i := 4) sc_l_no_field.nd rfl (Or.inl rfl) (pe_slice sl_str (pe_ix ix_list (pv 3) (pe_call (ok_l_draw T) (hr.mono (by decide)) (by rfl) T.l_draw.mg T.l_draw.fn.kp T.l_draw.bd .nil pass0 (pa_cons (pv 0) (pa_cons pe_int pa_nil))) (fun _ _ => rfl)) po_none (po_some pe_int)))
      (pss_cons (ps_set (i := 5) sc_l_no_field.nd rfl (Or.inl rfl) pe_str)
      (pss_cons (ps_if (PW.pt (pw_or (pt_cmpR op_in_seq (pv 4) (pv 1) (by rfl)) (pw_or (pt_cmpR op_eq (pv 4) pe_str (nomark _)) (pw_or1 (pt_cmpR op_in_seq (pv 4) (pe_split (pv 5) pe_str) (by rfl))))))
      (pss_one (ps_ret (pe_ix ix_list (pe_lc (own := [("one", 6)]) (g := gName 6) (tt := tTest (tOp (rIn K true) (tVar 6) (tVar 1))) (te := tVar 6) rfl sc_l_no_field.nd (pi_list (pe_lst (pa_cons pe_str (pa_cons pe_str (pa_cons pe_str (pa_cons pe_str (pa_cons pe_str pa_nil))))))) (blkOk_by (own := [("one", 6)]) (N := ["hand", "book", "field", "some", "name", "words", "one"]) (sc := defScope s_l_no_field) (by decide +kernel)) (fun _ _ _ _ _ => pg_name (i := 6) sc_l_no_field.nd rfl (Or.inl rfl)) (fun _ _ _ _ _ => (pts_one (pt_cmpR op_notIn_seq (pv 6) (pv 1) (by rfl)))) (fun _ _ _ _ _ => (pv 6))) pe_int (fun _ _ => rfl))))
      pss_nil)
      (pss_one (ps_ret (pv 4)))))))), ?_⟩
    refine rd_field rfl rfl hb bok hh fun f H1 b1 h1 hf => ?_
    have hb1 := hb.mono (b1.seqH hh).tup
    have lf := bok.sz f hf
    have nl := bok.hi
    -- some
    refine ⟨_, rfl, ⟨_, rfl, _, rfl, f, rfl, sz (by omega), ?_⟩⟩
    have z1 := cutS_length f none (some (-1))
    refine ⟨_, rfl, _, _, rfl, rfl, sz (by show f.length + 1 ≤ 1000; omega), ?_⟩
    refine ⟨_, rfl, _, _, rfl, rfl, sz (by show 1 + f.length ≤ 1000; omega), ?_⟩
    refine ⟨_, rfl, f, rfl, sz (by omega), fun y ly => ?_⟩
    refine ⟨sz (by decide : 6 ≤ 1000), fun p np => ?_⟩
    have s2 := same_new np (.lst [V.str (cutS f none (some (-1))), .str (f ++ "a"), .str ("b" ++ f), .str "noth", .str y, .str "zz"])
    have h2 := h1.same s2
    -- name
    refine ⟨_, rfl, _, rfl, hd, ca, _, rfl, h2, by decide, by decide, fun i H3 i0 i1 b3 h3 => ?_⟩
    have hp3 := (b3.seqH h2).lst _ _ (upd_same (H := H1) (a := p))
    obtain ⟨u, hu, lu⟩ : ∃ u : Str, atI ([V.str (cutS f none (some (-1))), .str (f ++ "a"), .str ("b" ++ f), .str "noth", .str y, .str "zz"] : List V) i = some (.str u) ∧ u.length ≤ 11 := by
      rcases (show i = 0 ∨ i = 1 ∨ i = 2 ∨ i = 3 ∨ i = 4 ∨ i = 5 by omega) with rfl | rfl | rfl | rfl | rfl | rfl
      · exact ⟨_, rfl, by omega⟩
      · exact ⟨_, rfl, by rw [PySem.Str.length_append]; show f.length + 1 ≤ 11; omega⟩
      · exact ⟨_, rfl, by rw [PySem.Str.length_append]; show 1 + f.length ≤ 11; omega⟩
      · exact ⟨_, rfl, by decide +kernel⟩
      · exact ⟨_, rfl, by omega⟩
      · exact ⟨_, rfl, by decide +kernel⟩
    refine ⟨p, _, _, _, rfl, rfl, SqL.of hp3, hu, ⟨_, rfl, u, rfl, sz (by omega), ?_⟩⟩
    have z2 := cutS_length u none (some 8)
    generalize cutS u none (some 8) = nm at z2
    have hb3 := hb1.mono ((TupK.of s2).trans (b3.seqH h2).tup)
    have b03 := (b1.trans (But.of s2)).trans b3
    obtain ⟨ba, ob, rfl, hba, hob⟩ := hb3
    -- out of the five
    have five : ∀ (G : Hp) (σ : L2.St), Same H3 G → σ[1]? = some (some (.ref ba)) → σ.length = 7 →
        tRet (tOp (rIxL K) (tLc (iList K (tLst (tCons (tC (.str "za")) (tCons (tC (.str "zb")) (tCons (tC (.str "zc")) (tCons (tC (.str "zd")) (tCons (tC (.str "ze")) tNil))))))) (gName 6) (tTest (tOp (rIn K true) (tVar 6) (tVar 1))) (tVar 6) [6]) (tC (.int 0)))
          { nx := fun σ' H' => tRet (tVar 4) { nx := fun _ H' => Q .non H', rt := Q } σ' H', rt := Q } σ G := by
      intro G σ sG e1 el
      show tOp (rIxL K) (tLc (iList K (tLst (tCons (tC (.str "za")) (tCons (tC (.str "zb")) (tCons (tC (.str "zc")) (tCons (tC (.str "zd")) (tCons (tC (.str "ze")) tNil))))))) (gName 6) (tTest (tOp (rIn K true) (tVar 6) (tVar 1))) (tVar 6) [6]) (tC (.int 0)) σ G Q
      refine first_out (i := 6) (j := 1) (cs := ["za", "zb", "zc", "zd", "ze"]) (nm := ns) (b := ba) (fun Q2 q => q) (by rw [el]; decide) (by decide) e1 (.inr (names_sq (sG _ _ hba))) (by show ns.length < 5; omega) (by decide +kernel) (by decide) fun y G3 hy hyn s4 => ?_
      have all : ∀ z ∈ (["za", "zb", "zc", "zd", "ze"] : List Str), z.length ≤ 20 := by decide +kernel
      exact k y G3 (b03.trans (But.of (sG.trans s4))) (h3.same (sG.trans s4)) hyn (all y hy)
    refine ⟨_, rfl, _, rfl, ba, _, rfl, .inr (names_sq hba), rfl, flat_strs ns, _, rfl, ?_⟩
    rw [if_neg Bool.false_ne_true, inV_strs]
    by_cases c : nm ∈ ns
    · rw [decide_eq_true c]
      refine iteT (iteT ?_)
      exact five H3 _ (Same.refl _) rfl rfl
    · rw [decide_eq_false c]
      refine iteF ?_
      refine ⟨_, rfl, rfl, _, rfl, ?_⟩
      by_cases c2 : V.str nm = V.str ""
      · refine ifT c2 (iteT ?_)
        exact five H3 _ (Same.refl _) rfl rfl
      · refine ifF c2 ?_
        refine ⟨_, rfl, _, rfl, ⟨_, rfl⟩, _, _, rfl, rfl, by rfl, sz (by decide +kernel), fun p5 np5 => ?_⟩
        have s5 := same_new np5 (.lst ((Txt.split "like up down then turn pick same both either not and or under is" " ").map V.str))
        refine ⟨p5, _, rfl, .inl (SqL.of upd_same), rfl, flat_strs _, _, rfl, ?_⟩
        rw [if_neg Bool.false_ne_true]
        by_cases c3 : inV (V.str nm) (List.map V.str (Txt.split "like up down then turn pick same both either not and or under is" " ")) = true
        · rw [c3]
          refine iteT ?_
          exact five _ _ s5 rfl rfl
        · rw [Bool.eq_false_iff.mpr c3]
          refine iteF ?_
          exact ⟨_, rfl, k nm _ (b03.trans (But.of s5)) (h3.same s5) c (by omega)⟩
end
end K67

set_option Elab.async false
set_option linter.all false
set_option maxRecDepth 100000
set_option maxHeartbeats 4000000
/-! _law_asked. -/
namespace K67
open PySem PySem.Spec PyProof.Rows L2
theorem op_l {r : R2} {ta tb : TE} {σ : L2.St} {H : Hp} {Q : VK} (h : ta σ H fun x H1 => tb σ H1 fun y H2 => r x y H2 Q) : tOp r ta tb σ H Q := h
theorem cutV_mem {xs : List V} {lo hi : Option Int} {x : V} (h : x ∈ cutV xs lo hi) : x ∈ xs := List.mem_of_mem_drop (List.mem_of_mem_take h)
theorem ShAt.but {C : Addr} {F : Hp} {S : ShS} {H H' : Hp} {tb : List (Int × V)} {tq : Int → List Fq} {bd g : Int} {rows : List (List Int)} {hd ca : Addr} (h : ShAt C F S H tb tq bd g rows) (ap : Apart S hd ca) (f0 : F hd = none) (b : But hd H H') : ShAt C F S H' tb tq bd g rows :=
  ⟨fun c o e => b c o (ne_of_none e f0) (h.keep c o e), b _ _ (Ne.symm ap.hx) h.inst, b _ _ (Ne.symm ap.ht) h.dict,
    paired_of_get (paired_len h.rws) fun i a r h1 h2 => by
      obtain ⟨r', h3, h4⟩ := paired_get h.rws h1
      rw [h2] at h3
      cases h3
      exact b _ _ (fun z => ap.hr (z ▸ List.mem_of_getElem? h1)) h4, h.tbo, h.rok⟩
/-- what stands while the law asks -/
structure Ctx (C : Addr) (F : Hp) (S : ShS) (hd ca ld : Addr) (tb : List (Int × V)) (tq : Int → List Fq) (g : Int) (rows : List (List Int)) (G : Hp) : Prop where
  hand : HandAt G hd ca
  sh : ShAt C F S G tb tq g g rows
  dict : G ld = some (.dK (tbK tb))
/-- what does not change meanwhile -/
structure Set_ (C : Addr) (F : Hp) (S : ShS) (hd ca ld : Addr) (tv pv : V) (g : Int) : Prop where
  made : Made C F S hd tv pv
  ap : Apart S hd ca
  ne : ld ≠ hd
  g0 : 0 ≤ g
  g1 : g ≤ 50
section
variable {C : Addr} {F : Hp} {S : ShS} {hd ca ld : Addr} {tv pv_ : V} {tb : List (Int × V)} {tq : Int → List Fq} {g : Int} {rows : List (List Int)} {G G' : Hp}
theorem Ctx.but (st : Set_ C F S hd ca ld tv pv_ g) (c : Ctx C F S hd ca ld tb tq g rows G) (b : But hd G G') (h : HandAt G' hd ca) : Ctx C F S hd ca ld tb tq g rows G' := ⟨h, c.sh.but st.ap st.made.hd0 b, b _ _ st.ne c.dict⟩
theorem Ctx.same (c : Ctx C F S hd ca ld tb tq g rows G) (s : Same G G') : Ctx C F S hd ca ld tb tq g rows G' := ⟨c.hand.same s, c.sh.mono s, s _ _ c.dict⟩
theorem Ctx.seq (c : Ctx C F S hd ca ld tb tq g rows G) : SeqK F G := SeqK.of c.sh.keep
theorem Ctx.ths (c : Ctx C F S hd ca ld tb tq g rows G) (h : g ≤ 50) : ThsOk G S.ns S.ps tb tq := ⟨fun p hp => ⟨(c.sh.tbo.ths p hp).1.mono c.seq.tup, (c.sh.tbo.ths p hp).2⟩, c.sh.tbo.asc, by have := c.sh.tbo.len; omega⟩
end
theorem notin_keys {C : Addr} {F : Hp} {S : ShS} {G : Hp} {tb : List (Int × V)} {tq : Int → List Fq} {g : Int} {rows : List (List Int)} (sh : ShAt C F S G tb tq g g rows) {n : Int} (h : n < 0 ∨ g ≤ n) : n ∉ tb.map (·.1) := fun z => by
  obtain ⟨v, hv⟩ := tb_mem z
  have := sh.tbo.lo _ hv
  simp only at this
  omega
section
variable {P : Program} {w : World} {K : PySem.W.Frag} {mg : Str → Option Value} {base : Heap}
def spAsked (C : Addr) : Sp := fun vs H Q _ => ∃ (F : Hp) (S : ShS) (hd ca ld : Addr) (tv pv : V) (tb : List (Int × V)) (tq : Int → List Fq) (g : Int) (rows : List (List Int)),
  vs = [.ref hd, .ref S.x, S.bv, tv, pv, .ref ld, .int g] ∧ Set_ C F S hd ca ld tv pv g ∧ Ctx C F S hd ca ld tb tq g rows H ∧ ∀ H', But hd H H' → HandAt H' hd ca → Q (.bl true) H'
theorem sc_l_asked : FnScope ["hand", "shelf", "book", "trees", "pool", "things", "given", "which", "far", "number", "gone", "part", "word", "field", "there", "one", "other", "due", "own", "found"] ["hand", "shelf", "book", "trees", "pool", "things", "given"] (defScope s_l_asked) := ⟨rfl, rfl, rfl, by decide +kernel, rfl, by decide +kernel, by decide +kernel⟩
theorem ok_l_asked (T : Env K mg) : FnOk P w K mg base CX0 14 T.f_l_asked T.fd_l_asked ["hand", "shelf", "book", "trees", "pool", "things", "given"] (spAsked T.CShelf) := by
  refine T.l_asked.fn.ok sc_l_asked (fun vs H Q E h => ?_) (fun cdv A outer s H vs Q E hr h => ?_)
  · obtain ⟨_, _, _, _, _, _, _, _, _, _, _, rfl, _⟩ := h
    rfl
  · obtain ⟨F, S, hd, ca, ld, tv, pv_, tb, tq, g, rows, rfl, st, cx, k⟩ := h
    refine ⟨_, (pss_cons (ps_set (i := 7) sc_l_asked.nd rfl (Or.inl rfl) (pe_call (ok_l_draw T) (hr.mono (by decide)) (by rfl) T.l_draw.mg T.l_draw.fn.kp T.l_draw.bd .nil pass0 (pa_cons (pv 0) (pa_cons (pe_callB call_len_seq (by rfl) T.b_len (by decide +kernel) (pa_cons (pv 3) pa_nil)) pa_nil))))
      (pss_cons (ps_set (i := 8) sc_l_asked.nd rfl (Or.inl rfl) (pe_ix ix_list (pe_lst (pa_cons (pe_call (ok_l_draw T) (hr.mono (by decide)) (by rfl) T.l_draw.mg T.l_draw.fn.kp T.l_draw.bd .nil pass0 (pa_cons (pv 0) (pa_cons pe_int pa_nil))) (pa_cons (pe_call (ok_l_draw T) (hr.mono (by decide)) (by rfl) T.l_draw.mg T.l_draw.fn.kp T.l_draw.bd .nil pass0 (pa_cons (pv 0) (pa_cons (pe_op op_pow pe_int pe_int) pa_nil))) pa_nil))) (pe_call (ok_l_draw T) (hr.mono (by decide)) (by rfl) T.l_draw.mg T.l_draw.fn.kp T.l_draw.bd .nil pass0 (pa_cons (pv 0) (pa_cons pe_int pa_nil))) (fun _ _ => rfl)))
      (pss_cons (ps_setLc (i := 10) (own := [("number", 9)]) (g := gName 9) (tt := tTest (tDNotIn (tVar 9) (tVar 5))) (te := tVar 9) rfl sc_l_asked.nd rfl rfl (sw_true rfl rfl rfl (by decide +kernel)) (pi_range1 (by rfl) T.b_range (pa_cons (pv 6) pa_nil)) (blkOk_by (own := [("number", 9)]) (N := ["hand", "shelf", "book", "trees", "pool", "things", "given", "which", "far", "number", "gone", "part", "word", "field", "there", "one", "other", "due", "own", "found"]) (sc := defScope s_l_asked) (by decide +kernel)) (fun _ _ _ _ _ => pg_name (i := 9) sc_l_asked.nd rfl (Or.inl rfl)) (fun _ _ _ _ _ => (pts_one (pt_cmp (pc_dnotin (hu_of hr) (pv 9) (pv 5))))) (fun _ _ _ _ _ => (pv 9)))
      (pss_cons (ps_set (i := 9) sc_l_asked.nd rfl (Or.inl rfl) (pe_ix ix_list (pe_op op_cat (pv 10) (pe_lst (pa_cons (pe_op op_sub (pe_un un_neg pe_int) (pv 8)) (pa_cons (pe_op op_add (pv 6) (pv 8)) (pa_cons (pv 6) pa_nil))))) (pe_call (ok_l_draw T) (hr.mono (by decide)) (by rfl) T.l_draw.mg T.l_draw.fn.kp T.l_draw.bd .nil pass0 (pa_cons (pv 0) (pa_cons (pe_op op_add (pe_callB call_len_seq (by rfl) T.b_len (by decide +kernel) (pa_cons (pv 10) pa_nil)) pe_int) pa_nil))) (fun _ _ => rfl)))
      (pss_cons (ps_set (i := 11) sc_l_asked.nd rfl (Or.inl rfl) (pe_ix ix_tup (pe_ix ix_list (pv 4) (pe_call (ok_l_draw T) (hr.mono (by decide)) (by rfl) T.l_draw.mg T.l_draw.fn.kp T.l_draw.bd .nil pass0 (pa_cons (pv 0) (pa_cons (pe_callB call_len_seq (by rfl) T.b_len (by decide +kernel) (pa_cons (pv 4) pa_nil)) pa_nil))) (fun _ _ => rfl)) pe_int (fun _ _ => rfl)))
      (pss_cons (ps_for PassesOwn.never rfl (pi_list (pe_lst (pa_cons pe_str (pa_cons pe_str (pa_cons pe_str (pa_cons pe_str pa_nil)))))) (pg_name (i := 12) sc_l_asked.nd rfl (Or.inl rfl))
      (pss_one (ps_if (pt_cmpR op_ne (pe_call (ok_l_refused T) (hr.mono (by decide)) (by rfl) T.l_refused.mg T.l_refused.fn.kp T.l_refused.bd .nil pass0 (pa_cons (pv 1) (pa_cons (pv 12) (pa_cons (pv 9) (pa_cons (pe_ix ix_tup (pv 2) pe_int (fun _ _ => rfl)) (pa_cons (pv 11) (pa_cons (pv 7) pa_nil))))))) pe_str (nomark _))
      (pss_one (ps_ret pe_bl))
      pss_nil)))
      (pss_cons (ps_set (i := 13) sc_l_asked.nd rfl (Or.inl rfl) (pe_call (ok_l_no_field T) (hr.mono (by decide)) (by rfl) T.l_no_field.mg T.l_no_field.fn.kp T.l_no_field.bd .nil pass0 (pa_cons (pv 0) (pa_cons (pv 2) pa_nil))))
      (pss_cons (ps_if (pt_cmpR op_ne (pe_call (ok_l_refused T) (hr.mono (by decide)) (by rfl) T.l_refused.mg T.l_refused.fn.kp T.l_refused.bd .nil pass0 (pa_cons (pv 1) (pa_cons pe_str (pa_cons (pv 9) (pa_cons (pv 13) (pa_cons (pv 11) (pa_cons (pv 7) pa_nil))))))) pe_str (nomark _))
      (pss_one (ps_ret pe_bl))
      pss_nil)
      (pss_cons (ps_for PassesOwn.never rfl (pi_list (pe_slice sl_list (pe_callB (call_sortedDI rfl) (by rfl) T.b_sorted (by decide +kernel) (pa_cons (pv 5) pa_nil)) po_none (po_some pe_int))) (pg_name (i := 14) sc_l_asked.nd rfl (Or.inl rfl))
      (pss_one (ps_if (pt_cmpR op_ne (pe_call (ok_l_refused T) (hr.mono (by decide)) (by rfl) T.l_refused.mg T.l_refused.fn.kp T.l_refused.bd .nil pass0 (pa_cons (pv 1) (pa_cons pe_str (pa_cons (pv 14) (pa_cons (pv 13) (pa_cons (pv 11) (pa_cons (pv 7) pa_nil))))))) pe_str (nomark _))
      (pss_one (ps_ret pe_bl))
      pss_nil)))
      (pss_cons (ps_set (i := 15) sc_l_asked.nd rfl (Or.inl rfl) (pe_ix ix_list (pv 4) (pe_call (ok_l_draw T) (hr.mono (by decide)) (by rfl) T.l_draw.mg T.l_draw.fn.kp T.l_draw.bd .nil pass0 (pa_cons (pv 0) (pa_cons (pe_callB call_len_seq (by rfl) T.b_len (by decide +kernel) (pa_cons (pv 4) pa_nil)) pa_nil))) (fun _ _ => rfl)))
      (pss_cons (ps_set (i := 16) sc_l_asked.nd rfl (Or.inl rfl) (pe_ix ix_list (pv 4) (pe_call (ok_l_draw T) (hr.mono (by decide)) (by rfl) T.l_draw.mg T.l_draw.fn.kp T.l_draw.bd .nil pass0 (pa_cons (pv 0) (pa_cons (pe_callB call_len_seq (by rfl) T.b_len (by decide +kernel) (pa_cons (pv 4) pa_nil)) pa_nil))) (fun _ _ => rfl)))
      (pss_cons (ps_set (i := 17) sc_l_asked.nd rfl (Or.inl rfl) (pe_lst pa_nil))
      (pss_cons (ps_for PassesOwn.never rfl (pi_list (pe_ix ix_list (pe_call (ok_l_rows T) (hr.mono (by decide)) (by rfl) T.l_rows.mg T.l_rows.fn.kp T.l_rows.bd .nil pass0 (pa_cons (pv 3) (pa_cons (pv 2) (pa_cons (pv 5) pa_nil)))) (pv 7) (fun _ _ => rfl))) (pg_name (i := 18) sc_l_asked.nd rfl (Or.inl rfl))
      (pss_one (ps_if (pt_cmpR op_ge (pe_call (ok_l_side T 4) (hr.mono (by decide)) (by rfl) T.l_side.mg T.l_side.fn.kp T.l_side.bd .nil pass0 (pa_cons (pe_ix ix_list (pv 3) (pv 7) (fun _ _ => rfl)) (pa_cons (pv 2) (pa_cons (pe_dget (hu_of hr) (pv 5) (pv 18) (fun _ _ => rfl)) (pa_cons (pv 15) pa_nil))))) pe_int (nomark _))
      (pss_one (ps_if (pt_cmpR op_le (pe_call (ok_l_side T 4) (hr.mono (by decide)) (by rfl) T.l_side.mg T.l_side.fn.kp T.l_side.bd .nil pass0 (pa_cons (pe_ix ix_list (pv 3) (pv 7) (fun _ _ => rfl)) (pa_cons (pv 2) (pa_cons (pe_dget (hu_of hr) (pv 5) (pv 18) (fun _ _ => rfl)) (pa_cons (pv 16) pa_nil))))) pe_int (nomark _))
      (pss_one (ps_expr (pe_bm PySem.F.plainAttrs_list PySem.F.slot_list_append PySem.F.type_list_append mt_append (pv 17) (pa_cons (pv 18) pa_nil))))
      pss_nil))
      pss_nil)))
      (pss_cons (ps_set (i := 19) sc_l_asked.nd rfl (Or.inl rfl) (pe_meth (pv 1) T.clShelf T.Shelf_between.mt (ok_Shelf_between T) (hr.mono (by decide)) T.Shelf_between.bd .nil pass0 (pa_cons (pv 7) (pa_cons (pv 15) (pa_cons (pv 16) pa_nil)))))
      (pss_cons (ps_if (PW.pt (pw_or (pt_not (pt_val (pe_callB call_isi (by rfl) T.b_isinstance (by decide +kernel) (pa_cons (pv 19) (pa_cons (pe_bltn (v := .ty "list") (by rfl) T.b_list (by decide +kernel) rfl) pa_nil))))) (pw_or1 (pt_cmpR (op_neD hr.units) (pv 19) (pv 17) (nomark _)))))
      (pss_one (ps_ret pe_bl))
      pss_nil)
      (pss_cons (ps_expr (pe_bm PySem.F.plainAttrs_list PySem.F.slot_list_append PySem.F.type_list_append mt_append (pv 19) (pa_cons (pe_un un_neg pe_int) pa_nil)))
      (pss_one (ps_ret (pe_cmpR (op_eqD hr.units) (pe_meth (pv 1) T.clShelf T.Shelf_between.mt (ok_Shelf_between T) (hr.mono (by decide)) T.Shelf_between.bd .nil pass0 (pa_cons (pv 7) (pa_cons (pv 15) (pa_cons (pv 16) pa_nil)))) (pv 17) (nomark _)))))))))))))))))))), ?_⟩
    have fx := st.made.fix
    have g0 := st.g0
    have g1 := st.g1
    have t1 := fx.t1
    have t5 := fx.t5
    obtain ⟨ta, tvs, rfl, hta, pt⟩ := st.made.trees
    obtain ⟨pa, pvs, rfl, hpa, pp⟩ := st.made.pool
    have lt := paired_len pt
    have lp := paired_len pp
    have l1 := fx.pool.lo
    have l7 := fx.pool.hi
    have tlen := cx.sh.tbo.len
    -- which
    refine ⟨_, rfl, _, rfl, ta, tvs, rfl, .inl (SqL.of (cx.sh.keep _ _ hta)), hd, ca, _, rfl, cx.hand, by omega, Nat.lt_of_le_of_lt (show ((tvs.length : Nat) : Int).natAbs ≤ 5 by omega) (by decide), fun i H1 i0 i1 b1 h1 => ?_⟩
    have cx1 := cx.but st b1 h1
    obtain ⟨wi, rfl⟩ : ∃ wi : Nat, i = (wi : Int) := ⟨i.toNat, by omega⟩
    obtain ⟨t, hti⟩ : ∃ t, S.ts[wi]? = some t := ⟨_, List.getElem?_eq_getElem (by omega)⟩
    obtain ⟨row, hrow, rok⟩ := paired_get cx.sh.rok hti
    have o := fx.tok t (List.mem_of_getElem? hti)
    obtain ⟨tz, htz, htt⟩ := paired_get' pt hti
    -- far
    refine ⟨_, rfl, hd, ca, _, rfl, h1, by decide, by decide, fun fa H2 fa0 fa1 b2 h2 => ?_⟩
    refine ⟨_, rfl, 10, 30, rfl, rfl, ⟨by decide, by decide, by decide⟩, hd, ca, _, rfl, h2, by decide, by decide, fun fb H3 fb0 fb1 b3 h3 => ?_⟩
    refine ⟨sz (by decide : 2 ≤ 1000), fun p np => ?_⟩
    have s4 := same_new np (.lst [V.int fa, .int fb])
    refine ⟨_, rfl, hd, ca, _, rfl, h3.same s4, by decide, by decide, fun j H5 j0 j1 b5 h5 => ?_⟩
    have hp5 := (b5.seqH (h3.same s4)).lst _ _ (upd_same (H := H3) (a := p))
    obtain ⟨fr, hfr, fr0⟩ : ∃ fr : Int, atI ([.int fa, .int fb] : List V) j = some (.int fr) ∧ 0 ≤ fr := by
      rcases (show j = 0 ∨ j = 1 by omega) with rfl | rfl
      · exact ⟨fa, rfl, fa0⟩
      · exact ⟨fb, rfl, fb0⟩
    refine ⟨p, _, _, _, rfl, rfl, SqL.of hp5, hfr, ?_⟩
    have b05 := (((b1.trans b2).trans b3).trans (But.of s4)).trans b5
    have cx5 := cx.but st b05 h5
    -- gone
    refine gn (seq_asg (lc_it ?_))
    refine ⟨_, rfl, g, rfl, by omega, by omega, ?_⟩
    refine lc_of_range (n := g.toNat) (p := fun x => match x with | .int m => decide (m ∉ tb.map (·.1)) | _ => false) (F := fun G y x => Same H5 G ∧ y = x) (R := Same H5) (S := fun G G2 => Same G G2) (lck_same (fun _ _ _ _ _ f => f) (fun _ _ _ _ _ _ _ _ _ _ f => f)) (fun R' r => r) (by omega) (fun x G Q' hx hR q => ?_) (fun x G Q' hx _ hR q => ?_) ?_
    · obtain ⟨m, hm, rfl⟩ := upTo_mem hx
      have dg := DGet.k (k := Sum.inl (m : Int)) (hR _ _ cx5.dict)
      refine ⟨_, rfl, _, rfl, ld, _, rfl, dg, _, rfl, ?_⟩
      have e : (!(valV (tbK tb) (Sum.inl (m : Int))).isSome) = decide ((m : Int) ∉ tb.map (·.1)) := by
        by_cases c : (m : Int) ∈ tb.map (·.1)
        · obtain ⟨v, hv⟩ := tb_mem c
          rw [tbK_val (tb_nodup cx.sh.tbo.asc) hv, decide_eq_false fun z => z c]
          rfl
        · rw [tbK_no c, decide_eq_true c]
          rfl
      rw [e]
      exact q G (Same.refl G)
    · exact ⟨_, rfl, q _ _ (Same.refl _) ⟨hR, rfl⟩⟩
    intro D ys H6 hD hGD s6 hP
    cases paired_eq (A := Same H5 H6) hP
    have cx6 := cx5.same s6
    have gonelen : ((upTo g.toNat).filter fun x => match x with | .int m => decide (m ∉ tb.map (·.1)) | _ => false).length ≤ 50 := by
      have := List.length_filter_le (fun x : V => match x with | .int m => decide (m ∉ tb.map (·.1)) | _ => false) (upTo g.toNat)
      rw [upTo_len] at this
      omega
    have goneno : ∀ x ∈ ((upTo g.toNat).filter fun x => match x with | .int m => decide (m ∉ tb.map (·.1)) | _ => false), ∃ n, x = .int n ∧ n ∉ tb.map (·.1) := fun x hx => by
      obtain ⟨h1, h2⟩ := List.mem_filter.mp hx
      obtain ⟨m, hm, rfl⟩ := upTo_mem h1
      exact ⟨m, rfl, of_decide_eq_true h2⟩
    generalize ((upTo g.toNat).filter fun x => match x with | .int m => decide (m ∉ tb.map (·.1)) | _ => false) = gone at gonelen goneno hGD
    -- number
    refine ⟨_, rfl, _, rfl, _, rfl, _, _, rfl, rfl, _, rfl, _, rfl, _, _, rfl, rfl, _, rfl, sz (by decide : 3 ≤ 1000), fun p7 np7 => ?_⟩
    have s7 := same_new np7 (.lst [V.int (-1 - fr), .int (g + fr), .int g])
    refine ⟨D, p7, gone, [V.int (-1 - fr), .int (g + fr), .int g], rfl, rfl, s7 _ _ hGD, upd_same, sz (by show gone.length + 3 ≤ 1000; omega), fun p8 np8 => ?_⟩
    have s8 := s7.trans (same_new np8 (.lst (gone ++ [V.int (-1 - fr), .int (g + fr), .int g])))
    have cx8 := cx6.same s8
    refine ⟨_, rfl, _, rfl, D, gone, rfl, .inl (SqL.of (s8 _ _ hGD)), _, _, rfl, rfl, hd, ca, _, rfl, cx8.hand, by omega, Nat.lt_of_le_of_lt (show ((gone.length : Nat) + 3 : Int).natAbs ≤ 53 by omega) (by decide), fun i H9 i0 i1 b9 h9 => ?_⟩
    have hp9 := (b9.seqH cx8.hand).lst _ _ (upd_same (H := upd H6 p7 (.lst [V.int (-1 - fr), .int (g + fr), .int g])) (a := p8))
    have cx9 := cx8.but st b9 h9
    obtain ⟨n, hn, hno⟩ : ∃ n, atI (gone ++ [V.int (-1 - fr), .int (g + fr), .int g]) i = some (.int n) ∧ n ∉ tb.map (·.1) := by
      have hil : i.toNat < (gone ++ [V.int (-1 - fr), .int (g + fr), .int g]).length := by
        rw [List.length_append]
        show i.toNat < gone.length + 3
        omega
      have e := List.getElem?_eq_getElem hil
      have hm := List.mem_of_getElem? e
      have fin : ∃ n, (gone ++ [V.int (-1 - fr), .int (g + fr), .int g])[i.toNat] = .int n ∧ n ∉ tb.map (·.1) := by
        rcases List.mem_append.mp hm with h | h
        · exact goneno _ h
        · rcases List.mem_cons.mp h with h | h
          · exact ⟨_, h, notin_keys cx.sh (.inl (by omega))⟩
          · rcases List.mem_cons.mp h with h | h
            · exact ⟨_, h, notin_keys cx.sh (.inr (by omega))⟩
            · exact ⟨_, List.mem_singleton.mp h, notin_keys cx.sh (.inr (by omega))⟩
      obtain ⟨n, en, hno⟩ := fin
      rw [en] at e
      exact ⟨n, at1 (by omega) e, hno⟩
    refine ⟨p8, _, _, _, rfl, rfl, SqL.of hp9, hn, ?_⟩
    -- part
    refine gn (seq_asg (op_l ?_))
    refine rd_pick (h := 0) (j := 4) rfl rfl (cx9.sh.keep _ _ hpa) (by omega) (by omega) h9 fun pi pz H10 b10 h10 hpz => ?_
    have cx10 := cx9.but st b10 h10
    obtain ⟨qp, hqp, pth⟩ := paired_get pp hpz
    obtain ⟨pad, pfs, rfl, hpad, pfr⟩ := pth.mono cx10.seq.tup
    have oq := fx.pool.ok qp (List.mem_of_getElem? hqp)
    have bl := st.made.book.lo
    obtain ⟨pf, hpf⟩ : ∃ pf, pfs[0]? = some pf := ⟨_, List.getElem?_eq_getElem (by rw [paired_len pfr, oq.len]; exact bl)⟩
    refine ⟨pad, pfs, 0, pf, rfl, rfl, SqT.of hpad, at1 (j := 0) rfl hpf, ?_⟩
    obtain ⟨ba, ob, hbv, hba, hob⟩ := fx.book
    obtain ⟨f0, hf0⟩ : ∃ f0, S.ns[0]? = some f0 := ⟨_, List.getElem?_eq_getElem bl⟩
    have lf0 := st.made.book.sz f0 (List.mem_of_getElem? hf0)
    have b010 := ((((b05.trans (But.of s6)).trans (But.of s8)).trans b9).trans b10)
    -- the four words
    refine ⟨sz (by decide : 4 ≤ 1000), fun p11 np11 => ⟨p11, rfl, ⟨_, SqL.of upd_same⟩, ?_⟩⟩
    have s11 := same_new np11 (.lst [V.str "take", .str "change", .str "thing", .str "place"])
    refine for_list (a := p11) (xs := [V.str "take", .str "change", .str "thing", .str "place"]) (fun i σ G => (∃ wv : Option V, σ = [some (.ref hd), some (.ref S.x), some S.bv, some (.ref ta), some (.ref pa), some (.ref ld), some (.int g), some (.int (wi : Int)), some (.int fr), some (.int n), some (.ref D), some pf, wv, none, none, none, none, none, none, none]) ∧ Same (upd H10 p11 (.lst [V.str "take", .str "change", .str "thing", .str "place"])) G)
      ⟨⟨none, rfl⟩, Same.refl _⟩ (fun i σ G _ ⟨_, sG⟩ => SqL.of (sG _ _ upd_same)) ?_ ?_
    · rintro i y σ G hy ⟨⟨wv, rfl⟩, sG⟩
      have cxG := (cx10.same s11).same sG
      obtain ⟨wd, rfl⟩ : ∃ wd, y = .str wd := by
        have hm := List.mem_of_getElem? hy
        rcases List.mem_cons.mp hm with h | h
        · exact ⟨_, h⟩
        · rcases List.mem_cons.mp h with h | h
          · exact ⟨_, h⟩
          · rcases List.mem_cons.mp h with h | h
            · exact ⟨_, h⟩
            · exact ⟨_, List.mem_singleton.mp h⟩
      refine ⟨_, rfl, _, rfl, _, rfl, _, rfl, ba, _, 0, .str f0, hbv, rfl, names_sq (cxG.seq.tup.frz _ _ _ hba), at1 (j := 0) rfl (by rw [List.getElem?_map, hf0]; rfl), _, rfl, _, rfl, ?_⟩
      refine ⟨F, S, tb, tq, g, g, rows, n, wd, f0, pf, _, rfl, fx, cxG.sh, by omega, .inl ⟨hno, fun G2 s2 => ?_⟩⟩
      exact ⟨rfl, _, rfl, nifF rfl ⟨⟨_, rfl⟩, sG.trans s2⟩⟩
    · rintro σ G ⟨⟨wv, rfl⟩, sG⟩
      have cxG := (cx10.same s11).same sG
      have b0G := (b010.trans (But.of s11)).trans (But.of sG)
      -- field
      refine ⟨_, rfl, _, rfl, hd, ca, S.bv, S.ns, rfl, cxG.hand, fx.book.mono cxG.seq.tup, st.made.book, fun fd H12 b12 h12 hfn lfd => ?_⟩
      have cx12 := cxG.but st b12 h12
      refine ⟨_, rfl, _, rfl, _, rfl, _, rfl, _, rfl, ?_⟩
      refine ⟨F, S, tb, tq, g, g, rows, n, "change", fd, pf, _, rfl, fx, cx12.sh, by omega, .inl ⟨hno, fun H13 s13 => ?_⟩⟩
      refine ⟨rfl, _, rfl, nifF rfl ?_⟩
      have cx13 := cx12.same s13
      -- one that is there
      refine ⟨_, rfl, ld, tbK tb, tb.map (·.1), rfl, .inl cx13.dict, (by unfold tbK; rw [List.map_map, List.map_map]; rfl), by rw [List.length_map]; omega, fun ys q pm srt nq => ?_⟩
      have s14 := same_new nq (.lst (ys.map V.int))
      refine ⟨1, rfl, q, _, rfl, SqL.of upd_same, fun l nl => ⟨l, rfl, ⟨_, SqL.of upd_same⟩, ?_⟩⟩
      have s15 := s14.trans (same_new nl (.lst (cutV (ys.map V.int) none (some 1))))
      have hl15 : upd (upd H13 q (.lst (ys.map V.int))) l (.lst (cutV (ys.map V.int) none (some 1))) l = some (.lst (cutV (ys.map V.int) none (some 1))) := upd_same
      generalize upd (upd H13 q (.lst (ys.map V.int))) l (.lst (cutV (ys.map V.int) none (some 1))) = H15 at s15 hl15
      refine for_list (a := l) (xs := cutV (ys.map V.int) none (some 1)) (fun i σ G => (∃ wv th : Option V, σ = [some (.ref hd), some (.ref S.x), some S.bv, some (.ref ta), some (.ref pa), some (.ref ld), some (.int g), some (.int (wi : Int)), some (.int fr), some (.int n), some (.ref D), some pf, wv, some (.str fd), th, none, none, none, none, none]) ∧ Same H15 G)
        ⟨⟨_, none, rfl⟩, Same.refl _⟩ (fun i σ G _ ⟨_, sG⟩ => SqL.of (sG _ _ hl15)) ?_ ?_
      · rintro i y σ G hy ⟨⟨wv, th, rfl⟩, sG⟩
        have cxG := (cx13.same s15).same sG
        obtain ⟨m, hm, rfl⟩ := List.mem_map.mp (cutV_mem (List.mem_of_getElem? hy))
        have hm' : m ∈ tb.map (·.1) := pm.mem_iff.mp hm
        refine ⟨_, rfl, _, rfl, _, rfl, _, rfl, _, rfl, ?_⟩
        refine ⟨F, S, tb, tq, g, g, rows, m, "change", fd, pf, _, rfl, fx, cxG.sh, by omega, .inr ⟨rfl, hm', hfn, fun G2 s2 => ?_⟩⟩
        exact ⟨rfl, _, rfl, nifF rfl ⟨⟨_, _, rfl⟩, sG.trans s2⟩⟩
      · rintro σ G ⟨⟨wv, th, rfl⟩, sG'⟩
        have cx16 := (cx13.same s15).same sG'
        have b016 := (((b0G.trans b12).trans (But.of s13)).trans (But.of s15)).trans (But.of sG')
        -- one, other
        refine nxt (seq_asg ?_)
        refine rd_pick (h := 0) (j := 4) rfl rfl (cx16.sh.keep _ _ hpa) (by omega) (by omega) cx16.hand fun i1 z1 H17 b17 h17 hz1 => ?_
        have cx17 := cx16.but st b17 h17
        refine gnf (seq_asg ?_)
        refine rd_pick (h := 0) (j := 4) rfl rfl (cx17.sh.keep _ _ hpa) (by omega) (by omega) h17 fun i2 z2 H18 b18 h18 hz2 => ?_
        have cx18 := cx17.but st b18 h18
        obtain ⟨q1, hq1, th1⟩ := paired_get pp hz1
        obtain ⟨q2, hq2, th2⟩ := paired_get pp hz2
        have m1 := List.mem_of_getElem? hq1
        have m2 := List.mem_of_getElem? hq2
        have b018 := (b016.trans b17).trans b18
        -- due
        refine ⟨sz (by decide : 0 ≤ 1000), fun du ndu => ?_⟩
        have s19 := same_new ndu (.lst [])
        have cx19 := cx18.same s19
        have hdu := upd_same (H := H18) (a := du) (o := .lst [])
        generalize upd H18 du (.lst []) = H19 at s19 cx19 hdu
        refine ⟨_, rfl, _, rfl, _, rfl, ?_⟩
        refine ⟨.ref ta, S.bv, ld, S.ns, S.ps, S.ts, tb, tq, rfl, st.made.trees.mono cx19.seq, fx.book.mono cx19.seq.tup, fx.pool, fx.tok, cx19.dict, cx19.ths g1, t5, fun rl ras' rows' H20 s20 nrl hrl prr prk => ?_⟩
        obtain ⟨row', hrow', rok'⟩ := paired_get prk hti
        obtain ⟨ra', hra', hrr'⟩ := paired_get' prr hrow'
        -- both rows are one
        have inp : ∀ m ∈ row, InPool S.ns S.ps (thOf S.ns tq m) := (rok.facts cx.sh.tbo o).1
        have er : row = row' := row_one o.ord inp rok.srt rok'.srt fun m => by rw [rok.mem m, rok'.mem m]
        subst er
        have rowl : row.length ≤ 50 := by
          have := (rok.facts cx.sh.tbo o).2.2
          omega
        have cx20 := cx19.same s20
        have hdu20 := s20 _ _ hdu
        have s1820 : Same H18 H20 := s19.trans s20
        let dueP : Int → Bool := fun m => decide (0 ≤ side t (thOf S.ns tq m) (valOf S.ns q1)) && decide (side t (thOf S.ns tq m) (valOf S.ns q2) ≤ 0)
        refine ⟨_, rfl, rl, _, _, _, rfl, rfl, SqL.of hrl, atI_nat (by rw [List.getElem?_map, hra']; rfl), ra', rfl, ⟨_, SqL.of hrr'⟩, ?_⟩
        refine for_list (a := ra') (xs := row.map V.int) (fun i σ G => (∃ wv th ow : Option V, σ = [some (.ref hd), some (.ref S.x), some S.bv, some (.ref ta), some (.ref pa), some (.ref ld), some (.int g), some (.int (wi : Int)), some (.int fr), some (.int n), some (.ref D), some pf, wv, some (.str fd), th, some z1, some z2, some (.ref du), ow, none]) ∧
            G ra' = some (.lst (row.map V.int)) ∧ (∀ b ob, b ≠ du → H20 b = some ob → G b = some ob) ∧ G du = some (.lst (((row.take i).filter dueP).map V.int)))
          ⟨⟨_, _, none, rfl⟩, hrr', fun b ob _ e => e, hdu20⟩ (fun i σ G _ ⟨_, e, _⟩ => SqL.of e) ?_ ?_
        · rintro i y σ G hy ⟨⟨wv, th, ow, rfl⟩, hrG, kk, hdG⟩
          rw [List.getElem?_map] at hy
          cases hmi : row[i]? with
          | none =>
            rw [hmi] at hy
            cases hy
          | some m =>
            rw [hmi] at hy
            cases (Option.some.inj hy : V.int m = y)
            have dura : du ≠ ra' := fun z => by
              have e1 := hrr'
              rw [← z, hdu20] at e1
              cases hrw : row with
              | nil =>
                rw [hrw] at hmi
                cases hmi
              | cons c cs =>
                rw [hrw] at e1
                cases e1
            have sG : Same H18 G := fun b ob e => kk b ob (ne_of_none e ndu) (s1820 b ob e)
            have cxG := cx18.same sG
            have hmk : m ∈ tb.map (·.1) := (rok.mem m).mp (List.mem_of_getElem? hmi)
            obtain ⟨u, hu⟩ := tb_mem hmk
            have get : ∀ (G2 : Hp), Same G G2 → DGet G2 ld (.int m) (some u) ∧ ThingAt G2 u (tq m) := fun G2 s => by
              have dg := DGet.k (k := Sum.inl m) (s _ _ cxG.dict)
              rw [tbK_val (tb_nodup cx.sh.tbo.asc) hu] at dg
              exact ⟨dg, (cx.sh.tbo.ths _ hu).1.mono (cxG.seq.tup.trans (TupK.of s))⟩
            have om := fx.pool.ok _ (cx.sh.tbo.ths _ hu).2
            have two : ∀ (G2 : Hp) (z : V) (qz : List Fq), Same G G2 → ThingAt F z qz → qz ∈ S.ps → Two G2 S.bv u z S.ns (tq m) qz := fun G2 z qz s hz hm =>
              ⟨fx.book.mono (cxG.seq.tup.trans (TupK.of s)), (get G2 s).2, hz.mono (cxG.seq.tup.trans (TupK.of s)), om, fx.pool.ok _ hm⟩
            have fin : ∀ (G2 : Hp), Same G G2 → dueP m = false → (∃ wv2 th2 ow2 : Option V, [some (.ref hd), some (.ref S.x), some S.bv, some (.ref ta), some (.ref pa), some (.ref ld), some (.int g), some (.int (wi : Int)), some (.int fr), some (.int n), some (.ref D), some pf, wv, some (.str fd), th, some z1, some z2, some (.ref du), some (.int m), none] = [some (.ref hd), some (.ref S.x), some S.bv, some (.ref ta), some (.ref pa), some (.ref ld), some (.int g), some (.int (wi : Int)), some (.int fr), some (.int n), some (.ref D), some pf, wv2, some (.str fd), th2, some z1, some z2, some (.ref du), ow2, none]) ∧
                G2 ra' = some (.lst (row.map V.int)) ∧ (∀ b ob, b ≠ du → H20 b = some ob → G2 b = some ob) ∧ G2 du = some (.lst (((row.take (i + 1)).filter dueP).map V.int)) := fun G2 s hP =>
              ⟨⟨wv, th, _, rfl⟩, s _ _ hrG, fun b ob h1 e => s _ _ (kk b ob h1 e), by rw [take_snoc hmi, List.filter_append, List.filter_cons, if_neg (by rw [hP]; exact Bool.false_ne_true), List.filter_nil, List.append_nil]; exact s _ _ hdG⟩
            refine ⟨_, rfl, _, rfl, ta, tvs, _, tz, rfl, rfl, SqL.of (cxG.sh.keep _ _ hta), atI_nat htz, _, rfl, _, rfl, _, rfl, ld, u, rfl, (get G (Same.refl G)).1, _, rfl, ?_⟩
            refine ⟨tz, S.bv, u, z1, S.ns, tq m, q1, t, rfl, htt.mono cxG.seq, two G z1 q1 (Same.refl G) th1 m1, o.ok, o.deep, fun G2 s2 => ⟨_, _, rfl, rfl, _, rfl, ?_⟩⟩
            by_cases c1 : (0 : Int) ≤ side t (valOf S.ns (tq m)) (valOf S.ns q1)
            · refine ifT c1 ?_
              have cxG2 := cxG.same s2
              refine ⟨_, rfl, _, rfl, ta, tvs, _, tz, rfl, rfl, SqL.of (cxG2.sh.keep _ _ hta), atI_nat htz, _, rfl, _, rfl, _, rfl, ld, u, rfl, (get G2 s2).1, _, rfl, ?_⟩
              refine ⟨tz, S.bv, u, z2, S.ns, tq m, q2, t, rfl, htt.mono cxG2.seq, two G2 z2 q2 s2 th2 m2, o.ok, o.deep, fun G3 s3 => ⟨_, _, rfl, rfl, _, rfl, ?_⟩⟩
              have s23 := s2.trans s3
              by_cases c2 : side t (valOf S.ns (tq m)) (valOf S.ns q2) ≤ 0
              · refine ifT c2 ?_
                have hP : dueP m = true := by
                  show (decide (0 ≤ side t (valOf S.ns (tq m)) (valOf S.ns q1)) && decide (side t (valOf S.ns (tq m)) (valOf S.ns q2) ≤ 0)) = true
                  rw [decide_eq_true c1, decide_eq_true c2]
                  rfl
                have hdu3 := s23 _ _ hdG
                have dl : ((row.take i).filter dueP).length ≤ 50 := by
                  have h1 := List.length_filter_le dueP (row.take i)
                  rw [List.length_take] at h1
                  omega
                refine ⟨_, rfl, .inl ⟨rfl, _, SqL.of hdu3⟩, _, rfl, du, _, _, rfl, rfl, hdu3, sz' (by rw [List.length_map]; omega), ⟨wv, th, _, rfl⟩, ?_, fun b ob h1 e => ?_, ?_⟩
                · rw [upd_ne (Ne.symm dura)]
                  exact s23 _ _ hrG
                · rw [upd_ne h1]
                  exact s23 _ _ (kk b ob h1 e)
                · rw [upd_same, take_snoc hmi, List.filter_append, List.filter_cons, if_pos hP, List.filter_nil, List.map_append]
                  rfl
              · refine ifF c2 (fin G3 s23 ?_)
                show (decide (0 ≤ side t (valOf S.ns (tq m)) (valOf S.ns q1)) && decide (side t (valOf S.ns (tq m)) (valOf S.ns q2) ≤ 0)) = false
                rw [decide_eq_false c2, Bool.and_false]
            · refine ifF c1 (fin G2 s2 ?_)
              show (decide (0 ≤ side t (valOf S.ns (tq m)) (valOf S.ns q1)) && decide (side t (valOf S.ns (tq m)) (valOf S.ns q2) ≤ 0)) = false
              rw [decide_eq_false c1, Bool.false_and]
        · rintro σ G ⟨⟨wv, th, ow, rfl⟩, hrG, kk, hdG⟩
          rw [List.length_map, List.take_length] at hdG
          have sG : Same H18 G := fun b ob e => kk b ob (ne_of_none e ndu) (s1820 b ob e)
          have cxG := cx18.same sG
          have em : midOf t S.ns tq q1 q2 row = row.filter dueP := by
            unfold midOf
            refine List.filter_congr fun m _ => ?_
            have r1 := side_range t (valOf S.ns (tq m)) (valOf S.ns q1)
            have r2 := side_range t (valOf S.ns (tq m)) (valOf S.ns q2)
            show (!decide (side t (valOf S.ns (tq m)) (valOf S.ns q1) = -1) && decide (side t (valOf S.ns (tq m)) (valOf S.ns q2) < 1)) = (decide (0 ≤ side t (valOf S.ns (tq m)) (valOf S.ns q1)) && decide (side t (valOf S.ns (tq m)) (valOf S.ns q2) ≤ 0))
            have e1 : (!decide (side t (valOf S.ns (tq m)) (valOf S.ns q1) = -1)) = decide (0 ≤ side t (valOf S.ns (tq m)) (valOf S.ns q1)) := by
              rw [← decide_not]
              exact decide_eq_decide.mpr ⟨fun h => by omega, fun h => by omega⟩
            have e2 : decide (side t (valOf S.ns (tq m)) (valOf S.ns q2) < 1) = decide (side t (valOf S.ns (tq m)) (valOf S.ns q2) ≤ 0) := decide_eq_decide.mpr ⟨fun h => by omega, fun h => by omega⟩
            rw [e1, e2]
          have eqs : ∀ ks : List Int, PyData.eqv (.list (ks.map PyData.int)) (.list (ks.map PyData.int)) = true := fun ks => by
            have h : PyData.eqv (.list (ks.map PyData.int)) (.list (ks.map PyData.int)) = decide (ks = ks) := eqv_ints ks ks
            rw [h, decide_eq_true rfl]
          -- between
          refine ⟨_, rfl, S.x, S.dx, _, rfl, cxG.sh.inst, rfl, _, rfl, _, rfl, _, rfl, F, S, tb, tq, g, g, rows, wi, row, t, z1, z2, q1, q2, rfl, fx, cxG.sh, hrow, hti, th1, th2, m1, m2, g1, fun fl H22 nfl s22 hfl => ?_⟩
          rw [em] at hfl
          have hdu22 := s22 _ _ hdG
          refine ⟨_, rfl, _, _, .type "list", .type "list", true, rfl, .ty "list", .base (.lst hfl), kit_ty (by decide +kernel), _, rfl, iteF ?_⟩
          refine ⟨_, rfl, _, rfl, .list ((row.filter dueP).map PyData.int), .list ((row.filter dueP).map PyData.int), .lst (SqL.of hfl) (dp_ints _), .lst (SqL.of hdu22) (dp_ints _), PySem.W.ke_shaped_ints _, PySem.W.ke_shaped_ints _, _, rfl, ?_⟩
          rw [eqs]
          refine iteF ?_
          have dl : (row.filter dueP).length ≤ 50 := by
            have h1 := List.length_filter_le dueP row
            omega
          refine ⟨_, rfl, .inl ⟨rfl, _, SqL.of hfl⟩, 1, rfl, fl, _, _, rfl, rfl, hfl, sz' (by rw [List.length_map]; omega), ?_⟩
          have s23 : Same G (upd H22 fl (.lst ((row.filter dueP).map V.int ++ [V.int (-1)]))) := fun b ob e => by
            rw [upd_ne (ne_of_none e nfl)]
            exact s22 b ob e
          have cx23 := cxG.same s23
          refine ⟨_, rfl, S.x, S.dx, _, rfl, cx23.sh.inst, rfl, _, rfl, _, rfl, _, rfl, F, S, tb, tq, g, g, rows, wi, row, t, z1, z2, q1, q2, rfl, fx, cx23.sh, hrow, hti, th1, th2, m1, m2, g1, fun fl2 H24 nfl2 s24 hfl2 => ?_⟩
          rw [em] at hfl2
          have s1824 := (sG.trans s23).trans s24
          refine ⟨_, rfl, .list ((row.filter dueP).map PyData.int), .list ((row.filter dueP).map PyData.int), .lst (SqL.of hfl2) (dp_ints _), .lst (SqL.of ((s23.trans s24) _ _ hdG)) (dp_ints _), PySem.W.ke_shaped_ints _, PySem.W.ke_shaped_ints _, ?_⟩
          rw [eqs]
          exact k H24 (b018.trans (But.of s1824)) (h18.same s1824)
end
end K67

set_option Elab.async false
set_option linter.all false
set_option maxRecDepth 100000
set_option maxHeartbeats 4000000
/-! The law. -/
namespace K67
open PySem PySem.Spec PyProof.Rows L2
/-- d != {} -/
def rNe0 : R2 := fun x y H Q => ∃ a b ks, x = .ref a ∧ y = .ref b ∧ H a = some (.dK ks) ∧ H b = some (.dK []) ∧ Q (.bl (decide (ks ≠ []))) H
theorem op_ne_empty {X : Cx} (hu : X.A.units < cLine) : OpR X (compareOp .NotEq) rNe0 := by
  intro pins s σ H x y v u Q I rx ry h
  obtain ⟨a, b, ks, rfl, rfl, ea, eb, q⟩ := h
  obtain rfl : v = Value.ref a := rx
  obtain rfl : u = Value.ref b := ry
  obtain ⟨_, ya, va, ra, da⟩ := (show ObjOk X.prog X.w H s.heap a (.dK ks) from I.hok a _ ea)
  obtain ⟨_, yb, vb, rb, db⟩ := (show ObjOk X.prog X.w H s.heap b (.dK []) from I.hok b _ eb)
  have la := ra.length
  have lb := rb.length
  refine PySem.W.keq_ne (knd := mixKind X.prog X.w) (r := true) ya yb da db hu (fun e => ?_) (fin_bl I q ?_)
  · have : va = [] := List.length_eq_zero_iff.mp (by rw [e, ← lb]; rfl)
    subst this
    exact .nil
  · rw [← la, ← lb]
    cases ks with
    | nil => rfl
    | cons c cs => simp
theorem dp_rows {K : PySem.W.Frag} {G : Hp} : ∀ {as : List Addr} {rows : List (List Int)}, Paired (fun a r => G a = some (.lst (r.map V.int))) as rows → DpAll K G (as.map V.ref) (rows.map fun r => .list (r.map PyData.int))
  | _, _, .nil => .nil
  | _, _, .cons e t => .cons (.lst (SqL.of e) (dp_ints _)) (dp_rows t)
theorem can_rows : ∀ rows : List (List Int), PyData.canLayAll0 (rows.map fun r => .list (r.map PyData.int)) = true
  | [] => rfl
  | r :: rows => by simp [PyData.canLayAll0, PyData.canLay0, PySem.W.ke_canLayAll0, can_rows rows]
theorem depth_rows : ∀ rows : List (List Int), PyData.depthAll (rows.map fun r => .list (r.map PyData.int)) ≤ 1
  | [] => Nat.zero_le _
  | r :: rows => by
    have := depth_rows rows
    simp only [List.map_cons, PyData.depthAll, PyData.depth, PySem.W.ke_depthAll]
    omega
theorem shaped_rows (rows : List (List Int)) : SeqAt.shaped (.list (rows.map fun r => .list (r.map PyData.int))) = true := by
  have := depth_rows rows
  unfold SeqAt.shaped
  have h1 : PyData.canLay0 (.list (rows.map fun r => .list (r.map PyData.int))) = true := by
    rw [PyData.canLay0]
    exact can_rows rows
  have h2 : PyData.depth (.list (rows.map fun r => .list (r.map PyData.int))) ≤ 64 := by
    rw [PyData.depth]
    omega
  rw [h1, Bool.true_and]
  exact decide_eq_true h2
theorem eqv_rows : ∀ rows : List (List Int), PyData.eqvAll (rows.map fun r => .list (r.map PyData.int)) (rows.map fun r => .list (r.map PyData.int)) = true
  | [] => rfl
  | r :: rows => by
    show (PyData.eqvAll (r.map PyData.int) (r.map PyData.int) && PyData.eqvAll (rows.map fun r => .list (r.map PyData.int)) (rows.map fun r => .list (r.map PyData.int))) = true
    rw [eqv_ints, decide_eq_true rfl, eqv_rows rows]
    rfl
theorem rows_one {R : Tr Str → List Int → Prop} : ∀ {ts : List (Tr Str)} {rows rows' : List (List Int)}, (∀ t ∈ ts, ∀ r r', R t r → R t r' → r = r') → Paired R ts rows → Paired R ts rows' → rows = rows'
  | _, _, _, _, .nil, .nil => rfl
  | _, _, _, h, .cons a s, .cons b t => by rw [h _ List.mem_cons_self _ _ a b, rows_one (fun x hx => h x (List.mem_cons_of_mem _ hx)) s t]
theorem HandAt.keep {S : ShS} {hd ca : Addr} {H H' : Hp} (ap : Apart S hd ca) (k : Keep S H H') (h : HandAt H hd ca) : HandAt H' hd ca :=
  let ⟨kvs, ns, n, r, c, e, a, b, d⟩ := h; ⟨kvs, ns, n, r, c, k _ _ ap.hx ap.ht ap.hr e, a, k _ _ ap.cx ap.ct ap.cr b, d⟩
/-- the law's own things stand apart -/
structure ApartL (F : Hp) (S : ShS) (hd ca ld : Addr) : Prop where
  f0 : F ld = none
  x : ld ≠ S.x
  td : ld ≠ S.td
  ras : ld ∉ S.ras
  hd : ld ≠ hd
  ca : ld ≠ ca
theorem ShAt.updL {C : Addr} {F : Hp} {S : ShS} {H : Hp} {tb : List (Int × V)} {tq : Int → List Fq} {bd g : Int} {rows : List (List Int)} {hd ca ld : Addr} {ob : HO} (h : ShAt C F S H tb tq bd g rows) (ap : ApartL F S hd ca ld) : ShAt C F S (upd H ld ob) tb tq bd g rows :=
  ⟨fun c u e => by rw [upd_ne (ne_of_none e ap.f0)]; exact h.keep c u e, by rw [upd_ne (Ne.symm ap.x)]; exact h.inst, by rw [upd_ne (Ne.symm ap.td)]; exact h.dict,
    paired_of_get (paired_len h.rws) fun i a r h1 h2 => by
      obtain ⟨r', h3, h4⟩ := paired_get h.rws h1
      rw [h2] at h3
      cases h3
      have ne : a ≠ ld := fun z => ap.ras (z ▸ List.mem_of_getElem? h1)
      rw [upd_ne ne]
      exact h4, h.tbo, h.rok⟩
section
variable {σ : L2.St} {H : Hp} {D : Ends}
theorem seq_mid {t v : TS} (M : L2.St → Hp → Prop) (h2 : ∀ σ' H', M σ' H' → v D σ' H') (h1 : (∀ σ' H', M σ' H' → v D σ' H') → t { D with nx := v D } σ H) : tSeq t v D σ H := h1 h2
theorem seq_of {t v : TS} (h : t { D with nx := v D } σ H) : tSeq t v D σ H := h
theorem if_op {r : R2} {ta tb : TE} {t u : TS} (h : ta σ H fun x H1 => tb σ H1 fun y H2 => r x y H2 fun z H3 => ∃ k, z = .bl k ∧ if k = true then t D σ H3 else u D σ H3) : tIfS (tTest (tOp r ta tb)) t u D σ H := h
end
section
variable {P : Program} {w : World} {K : PySem.W.Frag} {mg : Str → Option Value} {base : Heap}
def spLaw (K : PySem.W.Frag) : Sp := fun vs H Q _ => ∃ (a : Addr) (ns : List Int), vs = [.ref a] ∧ SqL K H a (ns.map V.int) ∧ ns.length ≤ 63 ∧ ∀ H', Q (.bl true) H'
theorem sc_law : FnScope ["script", "hand", "shelf", "book", "trees", "pool", "numbers", "things", "given", "turn", "number", "thing", "rows", "which"] ["script"] (defScope s_law) := ⟨rfl, rfl, rfl, by decide +kernel, rfl, by decide +kernel, by decide +kernel⟩
def tNumC (C : Addr) : TE := tMeth C "numbers" (spNumbers C) [] E0 (tVar 2) (tCons (tVar 13) tNil)
theorem ok_law (T : Env K mg) : FnOk P w K mg base CX0 15 T.f_law T.fd_law ["script"] (spLaw K) := by
  refine T.law.fn.ok sc_law (fun vs H Q E h => ?_) (fun cdv A outer s H vs Q E hr h => ?_)
  · obtain ⟨_, _, rfl, _⟩ := h
    rfl
  · obtain ⟨sa, is, rfl, hS, hl, k⟩ := h
    refine ⟨_, (pss_cons (ps_set (i := 1) sc_law.nd rfl (Or.inl rfl) (pe_call (ok_l_hand T) (hr.mono (by decide)) (by rfl) T.l_hand.mg T.l_hand.fn.kp T.l_hand.bd .nil pass0 (pa_cons (pv 0) pa_nil)))
      (pss_cons (ps_asg (pe_call (ok_l_shelf T) (hr.mono (by decide)) (by rfl) T.l_shelf.mg T.l_shelf.fn.kp T.l_shelf.bd .nil pass0 (pa_cons (pv 1) pa_nil)) (pg_lst (by rfl) (pgs_cons (pg_name (i := 2) sc_law.nd rfl (Or.inr rfl)) (pgs_cons (pg_name (i := 3) sc_law.nd rfl (Or.inl rfl)) (pgs_cons (pg_name (i := 4) sc_law.nd rfl (Or.inl rfl)) (pgs_cons (pg_name (i := 5) sc_law.nd rfl (Or.inl rfl)) (pgs_cons (pg_name (i := 6) sc_law.nd rfl (Or.inl rfl)) pgs_nil)))))))
      (pss_cons (ps_set (i := 7) sc_law.nd rfl (Or.inl rfl) pe_dnewK)
      (pss_cons (ps_set (i := 8) sc_law.nd rfl (Or.inl rfl) pe_int)
      (pss_cons (ps_for PassesOwn.never rfl (pi_range1 (by rfl) T.b_range (pa_cons pe_int pa_nil)) (pg_name (i := 9) sc_law.nd rfl (Or.inl rfl))
      (pss_cons (ps_if (PW.pt (pw_and (pt_cmpR (op_ne_empty (Nat.lt_of_le_of_lt (Nat.le_add_right _ 64) hr.units)) (pv 7) pe_dnewK (nomark _)) (pw_and1 (pt_cmpR op_eq (pe_call (ok_l_draw T) (hr.mono (by decide)) (by rfl) T.l_draw.mg T.l_draw.fn.kp T.l_draw.bd .nil pass0 (pa_cons (pv 1) (pa_cons pe_int pa_nil))) pe_int (nomark _)))))
      (pss_cons (ps_set (i := 10) sc_law.nd rfl (Or.inl rfl) (pe_ix ix_list (pe_callB (call_sortedDI rfl) (by rfl) T.b_sorted (by decide +kernel) (pa_cons (pv 7) pa_nil)) (pe_call (ok_l_draw T) (hr.mono (by decide)) (by rfl) T.l_draw.mg T.l_draw.fn.kp T.l_draw.bd .nil pass0 (pa_cons (pv 1) (pa_cons (pe_callB call_lenD (by rfl) T.b_len (by decide +kernel) (pa_cons (pv 7) pa_nil)) pa_nil))) (fun _ _ => rfl)))
      (pss_cons (ps_expr (pe_meth (E := E0) (pv 2) T.clShelf T.Shelf_take.mt (ok_Shelf_take T) (hr.mono (by decide)) T.Shelf_take.bd .nil passL (pa_cons (pv 10) pa_nil)))
      (pss_one (ps_expr (pe_dpop1 (pv 7) (pv 10) ⟨by rfl, by rfl, by rfl, by rfl⟩)))))
      (pss_cons (ps_set (i := 11) sc_law.nd rfl (Or.inl rfl) (pe_ix ix_list (pv 5) (pe_call (ok_l_draw T) (hr.mono (by decide)) (by rfl) T.l_draw.mg T.l_draw.fn.kp T.l_draw.bd .nil pass0 (pa_cons (pv 1) (pa_cons (pe_callB call_len_seq (by rfl) T.b_len (by decide +kernel) (pa_cons (pv 5) pa_nil)) pa_nil))) (fun _ _ => rfl)))
      (pss_cons (ps_if (pt_cmpR op_ne (pe_meth (pv 2) T.clShelf T.Shelf_put.mt (ok_Shelf_put T) (hr.mono (by decide)) T.Shelf_put.bd .nil pass0 (pa_cons (pv 11) pa_nil)) (pv 8) (nomark _))
      (pss_one (ps_ret pe_bl))
      pss_nil)
      (pss_cons (ps_dput (hu_of hr) (pv 7) (pv 8) (pv 11) rfl)
      (pss_one (ps_set (i := 8) sc_law.nd rfl (Or.inl rfl) (pe_op op_add (pv 8) pe_int)))))))
      (pss_cons (ps_if (pt_not (pt_val (pe_call (ok_l_asked T) (hr.mono (by decide)) (by rfl) T.l_asked.mg T.l_asked.fn.kp T.l_asked.bd .nil pass0 (pa_cons (pv 1) (pa_cons (pv 2) (pa_cons (pv 3) (pa_cons (pv 4) (pa_cons (pv 5) (pa_cons (pv 7) (pa_cons (pv 8) pa_nil))))))))))
      (pss_one (ps_ret pe_bl))
      pss_nil)
      (pss_cons (ps_set (i := 12) sc_law.nd rfl (Or.inl rfl) (pe_call (ok_l_rows T) (hr.mono (by decide)) (by rfl) T.l_rows.mg T.l_rows.fn.kp T.l_rows.bd .nil pass0 (pa_cons (pv 4) (pa_cons (pv 3) (pa_cons (pv 7) pa_nil)))))
      (pss_cons (ps_if (pt_cmpR (op_neD hr.units) (pe_lc (own := [("which", 13)]) (g := gName 13) (tt := tYes) (te := tNumC T.CShelf) rfl sc_law.nd (pi_range1 (by rfl) T.b_range (pa_cons (pe_callB call_len_seq (by rfl) T.b_len (by decide +kernel) (pa_cons (pv 4) pa_nil)) pa_nil)) (blkOk_by (own := [("which", 13)]) (N := ["script", "hand", "shelf", "book", "trees", "pool", "numbers", "things", "given", "turn", "number", "thing", "rows", "which"]) (sc := defScope s_law) (by decide +kernel)) (fun _ _ _ _ _ => pg_name (i := 13) sc_law.nd rfl (Or.inl rfl)) (fun _ _ _ _ _ => pts_nil) (fun _ _ _ _ _ => (pe_meth (pv 2) T.clShelf T.Shelf_numbers.mt (ok_Shelf_numbers T) (hr.mono (by decide)) T.Shelf_numbers.bd .nil pass0 (pa_cons (pv 13) pa_nil)))) (pv 12) (nomark _))
      (pss_one (ps_ret pe_bl))
      pss_nil)
      (pss_one (ps_if (PW.pt (pw_and (pt_cmpR op_ge (pe_dget (hu_of hr) (pv 1) pe_str (fun _ _ => rfl)) (pe_callB call_len_seq (by rfl) T.b_len (by decide +kernel) (pa_cons (pe_dget (hu_of hr) (pv 1) pe_str (fun _ _ => rfl)) pa_nil)) (nomark _)) (pw_and1 (pt_cmpR op_gt (pv 9) pe_int (nomark _)))))
      (pss_one (ps_ret pe_bl))
      pss_nil)))))))
      (pss_one (ps_ret pe_bl))))))), ?_⟩
    -- the hand, the shelf
    refine ⟨_, rfl, sa, is, rfl, hS, hl, fun hd ca H1 s1 _ _ h1 => ?_⟩
    refine ⟨_, rfl, hd, ca, rfl, h1, fun l F S tv pv_ nv rows0 H2 h2 ap md sh0 hl2 => ?_⟩
    refine ⟨l, _, rfl, SqL.of hl2, rfl, ?_⟩
    refine ⟨_, _, rfl, ?_⟩
    refine ⟨_, _, rfl, ?_⟩
    refine ⟨_, _, rfl, ?_⟩
    refine ⟨_, _, rfl, ?_⟩
    refine ⟨_, _, rfl, ?_⟩
    refine ⟨rfl, ?_⟩
    intro ld nld
    have s3 := same_new nld (.dK [])
    have sh2 := sh0 fun _ => []
    have fx := md.fix
    obtain ⟨_, hke⟩ := h2.dk
    obtain ⟨_, hce⟩ := h2.cells
    have apL : ApartL F S hd ca ld := by
      refine ⟨?_, fun z => ?_, fun z => ?_, fun z => ?_, fun z => ?_, fun z => ?_⟩
      · exact sh2.keep.free nld
      · rw [z, sh2.inst] at nld
        cases nld
      · rw [z, sh2.dict] at nld
        cases nld
      · obtain ⟨i, hi⟩ := List.getElem?_of_mem z
        obtain ⟨r, _, e⟩ := paired_get sh2.rws hi
        rw [e] at nld
        cases nld
      · rw [z, hke] at nld
        cases nld
      · rw [z, hce] at nld
        cases nld
    have cx0 : Ctx T.CShelf F S hd ca ld [] (fun _ => []) 0 rows0 (upd H2 ld (.dK [])) := ⟨h2.same s3, sh2.mono s3, upd_same⟩
    generalize upd H2 ld (.dK []) = H3 at cx0
    obtain ⟨ta, tvs, rfl, hta, pt⟩ := md.trees
    obtain ⟨pa, pvs, rfl, hpa, pp⟩ := md.pool
    have lt := paired_len pt
    have lp := paired_len pp
    have t1 := fx.t1
    have t5 := fx.t5
    have l1 := fx.pool.lo
    have l7 := fx.pool.hi
    refine ⟨16, rfl, by decide, by decide, ?_⟩
    refine for_range (lo := 0) (n := 16) (fun i σ G => ∃ (tb : List (Int × V)) (tq : Int → List Fq) (g : Int) (rows : List (List Int)) (tn nb tg rw_ : Option V), σ = [some (.ref sa), some (.ref hd), some (.ref S.x), some S.bv, some (.ref ta), some (.ref pa), some nv, some (.ref ld), some (.int g), tn, nb, tg, rw_, none] ∧
        Ctx T.CShelf F S hd ca ld tb tq g rows G ∧ 0 ≤ g ∧ g ≤ (i : Int))
      ⟨[], fun _ => [], 0, rows0, none, none, none, none, rfl, cx0, Int.le_refl 0, Int.le_refl 0⟩ ?_ ?_
    · rintro i σ G hi ⟨tb, tq, g, rows, tn, nb, tg, rw_, rfl, cx, g0, gi⟩
      refine gnf (seq_mid (fun σ' G' => ∃ (tb : List (Int × V)) (tq : Int → List Fq) (g : Int) (rows : List (List Int)) (nb tg rw_ : Option V), σ' = [some (.ref sa), some (.ref hd), some (.ref S.x), some S.bv, some (.ref ta), some (.ref pa), some nv, some (.ref ld), some (.int g), some (.int (0 + (i : Int))), nb, tg, rw_, none] ∧
        Ctx T.CShelf F S hd ca ld tb tq g rows G' ∧ 0 ≤ g ∧ g ≤ (i : Int) + 1) ?_ (fun rest => ?_))
      · -- what is asked, and the rows
        clear cx g0 gi
        rintro σ' G' ⟨tb, tq, g, rows, nb, tg, rw_, rfl, cx, g0, gi⟩
        have st : Set_ T.CShelf F S hd ca ld (.ref ta) (.ref pa) g := ⟨⟨fx, ⟨ta, tvs, rfl, hta, pt⟩, ⟨pa, pvs, rfl, hpa, pp⟩, md.book, md.hd0⟩, ap, apL.hd, g0, by omega⟩
        refine ⟨_, rfl, _, rfl, _, rfl, _, rfl, _, rfl, _, rfl, _, rfl, F, S, hd, ca, ld, .ref ta, .ref pa, tb, tq, g, rows, rfl, st, cx, fun H4 b4 h4 => ⟨true, rfl, iteF ?_⟩⟩
        have cx4 := cx.but st b4 h4
        refine ⟨_, rfl, _, rfl, _, rfl, .ref ta, S.bv, ld, S.ns, S.ps, S.ts, tb, tq, rfl, st.made.trees.mono cx4.seq, fx.book.mono cx4.seq.tup, fx.pool, fx.tok, cx4.dict, cx4.ths (by omega), t5, fun rl ras' rows' H5 s5 nrl hrl prr prk => ?_⟩
        have cx5 := cx4.same s5
        have er : rows = rows' := rows_one (fun t ht r r' h1 h2 => row_one (fx.tok t ht).ord (h1.facts cx.sh.tbo (fx.tok t ht)).1 h1.srt h2.srt fun m => by rw [h1.mem m, h2.mem m]) cx.sh.rok prk
        subst er
        have lrows := paired_len cx.sh.rok
        refine gn (seq_of (if_op (lc_it ?_)))
        refine ⟨_, rfl, ta, tvs, rfl, .inl (SqL.of (cx5.sh.keep _ _ hta)), _, rfl, by omega, by omega, fun D hD => ?_⟩
        rw [show ((tvs.length : Nat) : Int).toNat = S.ts.length by omega]
        refine lc_range (lo := 0) (n := S.ts.length) (fun j G => ∃ as : List Addr, G D = some (.lst (as.map V.ref)) ∧ (∀ a ∈ as, a ≠ D) ∧ Paired (fun a r => G a = some (.lst (r.map V.int))) as (rows.take j) ∧ ∀ b o, b ≠ D → H5 b = some o → G b = some o)
          ⟨[], upd_same, fun a ha => absurd ha (by simp), .nil, fun b o hb hh => by rw [upd_ne hb]; exact hh⟩ ?_ ?_
        · rintro j G hj ⟨as, hG, hne, pas, kk⟩
          have sG : Same H5 G := fun b o hh => kk b o (ne_of_none hh hD) hh
          have cxG := cx5.same sG
          obtain ⟨row, hrow⟩ : ∃ row, rows[j]? = some row := ⟨_, List.getElem?_eq_getElem (by omega)⟩
          have ej : (0 + (j : Int)) = (j : Int) := Int.zero_add _
          rw [ej]
          refine ⟨rfl, ?_⟩
          refine ⟨_, rfl, S.x, S.dx, _, rfl, cxG.sh.inst, rfl, _, rfl, F, S, tb, tq, g, g, rows, j, row, rfl, fx, cxG.sh, hrow, fun l nl => ?_⟩
          have lD : l ≠ D := fun e => by
            rw [e, hG] at nl
            cases nl
          have las : ∀ a ∈ as, a ≠ l := fun a ha e => by
            obtain ⟨i', hi'⟩ := List.getElem?_of_mem ha
            obtain ⟨r, _, er⟩ := paired_get pas hi'
            rw [e, nl] at er
            cases er
          refine ⟨as.map V.ref, by rw [upd_ne (Ne.symm lD)]; exact hG, sz' (by rw [List.length_map, paired_len pas, List.length_take]; omega), as ++ [l], ?_, fun a ha => ?_, ?_, fun b o hb hh => ?_⟩
          · rw [upd_same, List.map_append]
            rfl
          · rcases List.mem_append.mp ha with h | h
            · exact hne a h
            · rw [List.mem_singleton.mp h]
              exact lD
          · rw [take_snoc hrow]
            refine paired_app (paired_of_get (paired_len pas) fun i' a r h1 h2 => ?_) (paired_one (by rw [upd_ne lD]; exact upd_same))
            obtain ⟨r', h3, h4⟩ := paired_get pas h1
            rw [h2] at h3
            cases h3
            have ha := List.mem_of_getElem? h1
            rw [upd_ne (hne a ha), upd_ne (las a ha)]
            exact h4
          · rw [upd_ne hb, upd_ne (ne_of_none (sG b o hh) nl)]
            exact kk b o hb hh
        · rintro G ⟨as, hG, hne, pas, kk⟩
          have sG : Same H5 G := fun b o hh => kk b o (ne_of_none hh hD) hh
          have cxG := cx5.same sG
          rw [lrows, List.take_length] at pas
          have prG : Paired (fun a r => G a = some (.lst (r.map V.int))) ras' rows := paired_mono (fun a r e => sG _ _ e) prr
          refine ⟨_, rfl, .list (rows.map fun r => .list (r.map PyData.int)), .list (rows.map fun r => .list (r.map PyData.int)), .lst (SqL.of hG) (dp_rows pas), .lst (SqL.of (sG _ _ hrl)) (dp_rows prG), shaped_rows _, shaped_rows _, _, rfl, ?_⟩
          have ev : PyData.eqv (.list (rows.map fun r => .list (r.map PyData.int))) (.list (rows.map fun r => .list (r.map PyData.int))) = true := eqv_rows rows
          rw [ev]
          refine iteF ?_
          -- go on, or end
          obtain ⟨kvs, cs, nn, rr, kk2, e, hv, hc, c1, c2, n0, r0⟩ := cxG.hand
          refine ⟨_, rfl, hd, _, rfl, dgetH e hv.next, _, rfl, hd, _, rfl, dgetH e hv.cells, ca, _, rfl, .inl (SqL.of hc), _, _, rfl, rfl, _, rfl, ?_⟩
          have on : ∃ (tb : List (Int × V)) (tq : Int → List Fq) (g' : Int) (rows : List (List Int)) (tn nb2 tg2 rw2 : Option V), [some (.ref sa), some (.ref hd), some (.ref S.x), some S.bv, some (.ref ta), some (.ref pa), some nv, some (.ref ld), some (.int g), some (.int (0 + (i : Int))), nb, tg, some (.ref rl), none] = [some (.ref sa), some (.ref hd), some (.ref S.x), some S.bv, some (.ref ta), some (.ref pa), some nv, some (.ref ld), some (.int g'), tn, nb2, tg2, rw2, none] ∧
              Ctx T.CShelf F S hd ca ld tb tq g' rows G ∧ 0 ≤ g' ∧ g' ≤ ((i + 1 : Nat) : Int) := ⟨tb, tq, g, rows, _, _, _, _, rfl, cxG, g0, by omega⟩
          by_cases c3 : ((cs.map V.int).length : Int) ≤ nn
          · refine ifT c3 ?_
            refine ⟨_, rfl, _, _, rfl, rfl, _, rfl, ?_⟩
            by_cases c4 : (7 : Int) < 0 + (i : Int)
            · exact ifT c4 (k G)
            · exact ifF c4 on
          · exact ifF c3 on
      · -- a thing more, or one less
        have st : Set_ T.CShelf F S hd ca ld (.ref ta) (.ref pa) g := ⟨⟨fx, ⟨ta, tvs, rfl, hta, pt⟩, ⟨pa, pvs, rfl, hpa, pp⟩, md.book, md.hd0⟩, ap, apL.hd, g0, by omega⟩
        have tlen := cx.sh.tbo.len
        have nd := tb_nodup cx.sh.tbo.asc
        refine ⟨_, rfl, fun p np => ⟨ld, p, tbK tb, rfl, rfl, (same_new np _) _ _ cx.dict, upd_same, _, rfl, ?_⟩⟩
        have s4 := same_new np (.dK [])
        have cx4 := cx.same s4
        generalize upd G p (.dK []) = H4 at cx4 s4
        -- one more
        have put : ∀ (H5 : Hp) (DD : Ends), (∀ σ' G', (∃ (tb : List (Int × V)) (tq : Int → List Fq) (g : Int) (rows : List (List Int)) (nb tg rw_ : Option V), σ' = [some (.ref sa), some (.ref hd), some (.ref S.x), some S.bv, some (.ref ta), some (.ref pa), some nv, some (.ref ld), some (.int g), some (.int (0 + (i : Int))), nb, tg, rw_, none] ∧
              Ctx T.CShelf F S hd ca ld tb tq g rows G' ∧ 0 ≤ g ∧ g ≤ (i : Int) + 1) → DD.nx σ' G') → Ctx T.CShelf F S hd ca ld tb tq g rows H5 → tSeq (tAsg (tOp (rIxL K) (tVar 5) (tCall spDraw [] E0 (tCons (tVar 1) (tCons (tCB (Evl.rLenS K) (tCons (tVar 5) tNil)) tNil)))) (gName 11))
            (tSeq (tIfS (tTest (tOp rNe (tMeth T.CShelf "put" (spPut T.CShelf) [] E0 (tVar 2) (tCons (tVar 11) tNil)) (tVar 8))) (tRet (tC (.bl false))) tNext)
            (tSeq (sDPut (tVar 7) (tVar 8) (tVar 11)) (tAsg (tOp (rI0 fun i j => .int (i + j)) (tVar 8) (tC (.int 1))) (gName 8)))) DD [some (.ref sa), some (.ref hd), some (.ref S.x), some S.bv, some (.ref ta), some (.ref pa), some nv, some (.ref ld), some (.int g), some (.int (0 + (i : Int))), nb, tg, rw_, none] H5 := by
          intro H5 DD restD cx5
          refine seq_asg ?_
          refine rd_pick (h := 1) (j := 5) rfl rfl (cx5.sh.keep _ _ hpa) (by omega) (by omega) cx5.hand fun iz z H6 b6 h6 hz => ?_
          have cx6 := cx5.but st b6 h6
          obtain ⟨q, hq, thz⟩ := paired_get pp hz
          refine ⟨_, rfl, S.x, S.dx, _, rfl, cx6.sh.inst, rfl, _, rfl, F, S, tb, tq, g, rows, z, q, rfl, fx, cx6.sh, thz, List.mem_of_getElem? hq, g0, by omega, fun H7 rows' k7 sh7 => ⟨_, rfl, rfl, _, rfl, nifF rfl ?_⟩⟩
          have h7 := h6.keep ap k7
          have d7 := k7 _ _ apL.x apL.td apL.ras cx6.dict
          have no : valV (tbK tb) (.inl g) = none := tbK_no (notin_keys cx.sh (.inr (Int.le_refl g)))
          refine ⟨_, rfl, _, rfl, _, rfl, ld, _, rfl, DPut.k (k := Sum.inl g) d7 (sz' (by unfold tbK; rw [List.length_map]; omega)), ?_⟩
          rw [putK_new _ no]
          have et : tbK tb ++ [(Sum.inl g, z)] = tbK (tb ++ [(g, z)]) := by
            unfold tbK
            rw [List.map_append]
            rfl
          rw [et]
          refine ⟨_, rfl, _, _, rfl, rfl, restD _ _ ⟨tb ++ [(g, z)], withQ tq g q, g + 1, rows', _, _, _, rfl, ⟨h7.upd apL.hd apL.ca, sh7.updL apL, upd_same⟩, by omega, by omega⟩⟩
        by_cases c1 : tbK tb ≠ []
        · refine ifT c1 ?_
          refine ⟨_, rfl, hd, ca, _, rfl, cx4.hand, by decide, by decide, fun v H5 v0 v1 b5 h5 => ?_⟩
          have cx5 := cx4.but st b5 h5
          refine ⟨rfl, _, rfl, ?_⟩
          by_cases c2 : V.int v = V.int 0
          · refine ifT c2 ?_
            -- one less
            have tpos : 0 < (tbK tb).length := by
              cases e : tbK tb with
              | nil => exact absurd e c1
              | cons a r => exact Nat.succ_pos _
            have tbl : (tbK tb).length = tb.length := by
              unfold tbK
              rw [List.length_map]
            refine ⟨_, rfl, ld, tbK tb, tb.map (·.1), rfl, .inl cx5.dict, (by unfold tbK; rw [List.map_map, List.map_map]; rfl), by rw [List.length_map]; omega, fun ys q pm srt nq => ?_⟩
            have s6 := same_new nq (.lst (ys.map V.int))
            have cx6 := cx5.same s6
            refine ⟨_, rfl, _, rfl, ld, tbK tb, rfl, cx6.dict, hd, ca, _, rfl, cx6.hand, by omega, Nat.lt_of_le_of_lt (show (((tbK tb).length : Nat) : Int).natAbs ≤ 16 by omega) (by decide), fun j H7 j0 j1 b7 h7 => ?_⟩
            have hq7 := (b7.seqH cx6.hand).lst _ _ (upd_same (H := H5) (a := q))
            have cx7 := cx6.but st b7 h7
            have yl : ys.length = tb.length := by
              rw [pm.length_eq, List.length_map]
            obtain ⟨n, hn⟩ : ∃ n, ys[j.toNat]? = some n := ⟨_, List.getElem?_eq_getElem (by omega)⟩
            have hnk : n ∈ tb.map (·.1) := pm.mem_iff.mp (List.mem_of_getElem? hn)
            refine ⟨q, _, _, .int n, rfl, rfl, SqL.of hq7, at1 (j := j.toNat) (by omega) (by rw [List.getElem?_map, hn]; rfl), ?_⟩
            refine ⟨_, rfl, S.x, S.dx, _, rfl, cx7.sh.inst, rfl, _, rfl, F, S, tb, tq, g, g, rows, n, rfl, fx, cx7.sh, .inl ⟨hnk, fun H8 rows' k8 sh8 => ?_⟩⟩
            have h8 := h7.keep ap k8
            have d8 := k8 _ _ apL.x apL.td apL.ras cx7.dict
            obtain ⟨u, hu⟩ := tb_mem hnk
            refine ⟨_, rfl, ld, rfl, .inl ⟨_, .inl d8⟩, _, rfl, _, Sum.inl n, u, d8, rfl, tbK_val nd hu, ?_⟩
            rw [drop_tbK]
            exact rest _ _ ⟨outOf tb n, tq, g, rows', _, _, _, rfl, ⟨h8.upd apL.hd apL.ca, sh8.updL apL, upd_same⟩, g0, by omega⟩
          · refine ifF c2 ?_
            exact put H5 _ rest cx5
        · refine ifF c1 ?_
          exact put H4 _ rest cx4
    · rintro σ G _
      exact k G
end
end K67

set_option Elab.async false
open PySem PySem.W PyProof.Rows
set_option maxRecDepth 100000
set_option maxHeartbeats 0
open_top head for PySem.Challenge.rw_ordertext_k67_shelf_refused_and_between

set_option Elab.async false
set_option linter.all false
set_option maxRecDepth 100000
set_option maxHeartbeats 4000000
namespace K67
open PySem PySem.Spec PyProof.Rows L2
theorem kit_self {K : PySem.W.Frag} {C : Addr} : PySem.W.kitOne K (.ref C) (.ref C) = some true := by
  unfold PySem.W.kitOne
  rw [if_pos (beq_iff_eq.mpr rfl)]
theorem kit_ve {K : PySem.W.Frag} {C : Addr} (h : PySem.W.subIn K (.ref C) (.type "ValueError") = some true) : PySem.W.kitOne K (.ref C) (.type "ValueError") = some true := by
  unfold PySem.W.kitOne
  rw [if_neg (by simp)]
  show (if PySem.W.kitMeta "ValueError" = true then PySem.W.subIn K (.ref C) (.type "ValueError") else none) = some true
  rw [if_pos (by decide +kernel), h]
theorem kit_other {K : PySem.W.Frag} {C D : Addr} (own : PySem.W.subIn K (.ref C) (.ref C) = some true) (i : PySem.W.isClsIn K D = true) (t : PySem.W.typeIn K (.ref D) = some (.type "type"))
    (h : PySem.W.subIn K (.ref C) (.ref D) = some false) : PySem.W.kitOne K (.ref C) (.ref D) = some false := by
  have ne : ¬ (Value.ref C == Value.ref D) = true := fun z => by
    have e : C = D := Value.ref.inj (beq_iff_eq.mp z)
    subst e
    rw [own] at h
    cases h
  have i2 : (PySem.W.clsIn K D).isSome = true := i
  unfold PySem.W.kitOne
  rw [if_neg ne]
  show (if ((PySem.W.clsIn K D).isSome && PySem.W.typeIn K (.ref D) == some (.type "type")) = true then PySem.W.subIn K (.ref C) (.ref D) else none) = some false
  rw [if_pos (by rw [i2, t]; rfl), h]
theorem exm_own {K : PySem.W.Frag} {C D : Addr} (b : PySem.W.subIn K (.ref D) (.type "BaseException") = some true) (i : PySem.W.isClsIn K D = true) (t : PySem.W.typeIn K (.ref D) = some (.type "type"))
    (h : PySem.W.subIn K (.ref C) (.ref D) = some true) : PySem.W.exmOne K (.ref C) (.ref D) = some true := by
  have i2 : (PySem.W.clsIn K D).isSome = true := i
  unfold PySem.W.exmOne
  rw [if_pos (by rw [b]; rfl)]
  show (if ((PySem.W.clsIn K D).isSome && PySem.W.typeIn K (.ref D) == some (.type "type")) = true then PySem.W.subIn K (.ref C) (.ref D) else none) = some true
  rw [if_pos (by rw [i2, t]; rfl), h]
/-- what the top has written, together -/
theorem env_mk {K : PySem.W.Frag} {h : Heap} {mg : Str → Option Value} {fa f0 f1 f2 f3 f4 f5 f6 f7 f8 f9 f10 f11 f12 f13 f14 f15 f16 f17 f18 f19 f20 f21 f22 f23 f24 f25 f26 f27 f28 f29 f30 f31 f32 f33 f34 f35 f36 f37 f38 f39 f40 f41 f42 CLook CShelf COrderError CNoNumber CNoOrder CNoField CNoRow CClash CNoNet CNoPlace CNoThing CNoAsk aT : Addr} (X : K.In h) (G : h.Ns mainGlobals mg) (hfa : mg "law" = some (.ref fa))
    {od0 an0 od1 an1 od2 an2 od3 an3 od4 an4 od5 an5 od6 an6 od7 an7 od8 an8 od9 an9 od10 an10 od11 an11 od12 an12 od13 an13 od14 an14 od15 an15 od16 an16 od17 an17 od18 an18 od19 an19 od20 an20 od21 an21 od22 an22 od23 an23 od24 an24 od25 an25 od26 an26 od27 an27 od28 an28 od29 an29 od30 an30 od31 an31 od32 an32 od33 an33 od34 an34 od35 an35 od36 an36 od37 an37 od38 an38 od39 an39 od40 an40 od41 an41 od42 an42 : Option Addr} {sl0 sl1 sl2 sl3 sl4 sl5 sl6 sl7 sl8 sl9 sl10 sl11 sl12 sl13 sl14 sl15 sl16 sl17 sl18 sl19 sl20 sl21 sl22 sl23 sl24 sl25 sl26 sl27 sl28 sl29 sl30 sl31 sl32 sl33 sl34 sl35 sl36 sl37 sl38 sl39 sl40 sl41 sl42 : Array (Option Value)} {oc0 kV0 dc0 pm0 cd0 ct0 oc1 kV1 dc1 pm1 cd1 ct1 oc2 kV2 dc2 pm2 cd2 ct2 oc3 kV3 dc3 pm3 cd3 ct3 oc4 kV4 dc4 pm4 cd4 ct4 oc5 kV5 dc5 pm5 cd5 ct5 oc6 kV6 dc6 pm6 cd6 ct6 oc7 kV7 dc7 pm7 cd7 ct7 oc8 kV8 dc8 pm8 cd8 ct8 oc9 kV9 dc9 pm9 cd9 ct9 oc10 kV10 dc10 pm10 cd10 ct10 oc11 kV11 dc11 pm11 cd11 ct11 oc12 kV12 dc12 pm12 cd12 ct12 oc13 kV13 dc13 pm13 cd13 ct13 oc14 kV14 dc14 pm14 cd14 ct14 oc15 kV15 dc15 pm15 cd15 ct15 oc16 kV16 dc16 pm16 cd16 ct16 oc17 kV17 dc17 pm17 cd17 ct17 oc18 kV18 dc18 pm18 cd18 ct18 oc19 kV19 dc19 pm19 cd19 ct19 oc20 kV20 dc20 pm20 cd20 ct20 oc21 kV21 dc21 pm21 cd21 ct21 oc22 kV22 dc22 pm22 cd22 ct22 oc23 kV23 dc23 pm23 cd23 ct23 oc24 kV24 dc24 pm24 cd24 ct24 oc25 kV25 dc25 pm25 cd25 ct25 oc26 kV26 dc26 pm26 cd26 ct26 oc27 kV27 dc27 pm27 cd27 ct27 oc28 kV28 dc28 pm28 cd28 ct28 oc29 kV29 dc29 pm29 cd29 ct29 oc30 kV30 dc30 pm30 cd30 ct30 oc31 kV31 dc31 pm31 cd31 ct31 oc32 kV32 dc32 pm32 cd32 ct32 oc33 kV33 dc33 pm33 cd33 ct33 oc34 kV34 dc34 pm34 cd34 ct34 oc35 kV35 dc35 pm35 cd35 ct35 oc36 kV36 dc36 pm36 cd36 ct36 oc37 kV37 dc37 pm37 cd37 ct37 oc38 kV38 dc38 pm38 cd38 ct38 oc39 kV39 dc39 pm39 cd39 ct39 oc40 kV40 dc40 pm40 cd40 ct40 oc41 kV41 dc41 pm41 cd41 ct41 oc42 kV42 dc42 pm42 cd42 ct42 : Value} {esT : Array DictEntry} {nT : Nat} {ta tl tb : Tok}
    {nmF qF : Str} {NF : Addr} {bsF bmF : List Value} {snF : List Str} {subF : List Value} {abF : Bool} {colF : Option Bool} {ddF : Option Addr} {m0 m1 m2 m3 m5 : Option Value}
    (aCLook : PySem.W.nsIn K mainGlobals "Look" = some (some (.ref CLook)))
    (aCShelf : PySem.W.nsIn K mainGlobals "Shelf" = some (some (.ref CShelf)))
    (aCOrderError : PySem.W.nsIn K mainGlobals "OrderError" = some (some (.ref COrderError)))
    (aCNoNumber : PySem.W.nsIn K mainGlobals "NoNumber" = some (some (.ref CNoNumber)))
    (aCNoOrder : PySem.W.nsIn K mainGlobals "NoOrder" = some (some (.ref CNoOrder)))
    (aCNoField : PySem.W.nsIn K mainGlobals "NoField" = some (some (.ref CNoField)))
    (aCNoRow : PySem.W.nsIn K mainGlobals "NoRow" = some (some (.ref CNoRow)))
    (aCClash : PySem.W.nsIn K mainGlobals "Clash" = some (some (.ref CClash)))
    (aCNoNet : PySem.W.nsIn K mainGlobals "NoNet" = some (some (.ref CNoNet)))
    (aCNoPlace : PySem.W.nsIn K mainGlobals "NoPlace" = some (some (.ref CNoPlace)))
    (aCNoThing : PySem.W.nsIn K mainGlobals "NoThing" = some (some (.ref CNoThing)))
    (aCNoAsk : PySem.W.nsIn K mainGlobals "NoAsk" = some (some (.ref CNoAsk)))
    (a0 : PySem.W.findIn K (.ref CNoField) "__init__" = some (some (.ref f0)))
    (l0 : K.lookup f0 = some ⟨oc0, od0, .func (PySem.W.fnOf "__init__" "NoField.__init__" (defArgs s_NoField_init) (defBody s_NoField_init) (defScope s_NoField_init) .none kV0 dc0 pm0 an0 cd0 ct0), sl0⟩)
    (c0 : PySem.W.codeIn K cd0 "NoField.__init__" = true)
    (k0 : PySem.W.keepIn K (.ref f0) = true)
    (a1 : PySem.W.nsIn K mainGlobals "compared" = some (some (.ref f1)))
    (l1 : K.lookup f1 = some ⟨oc1, od1, .func (PySem.W.fnOf "compared" "compared" (defArgs s_compared) (defBody s_compared) (defScope s_compared) .none kV1 dc1 pm1 an1 cd1 ct1), sl1⟩)
    (c1 : PySem.W.codeIn K cd1 "compared" = true)
    (k1 : PySem.W.keepIn K (.ref f1) = true)
    (a2 : PySem.W.findIn K (.ref CLook) "__init__" = some (some (.ref f2)))
    (i2 : PySem.W.isFn K (.ref f2) = true)
    (l2 : K.lookup f2 = some ⟨oc2, od2, .func (PySem.W.fnOf "__init__" "Look.__init__" (defArgs s_Look_init) (defBody s_Look_init) (defScope s_Look_init) .none kV2 dc2 pm2 an2 cd2 ct2), sl2⟩)
    (c2 : PySem.W.codeIn K cd2 "Look.__init__" = true)
    (k2 : PySem.W.keepIn K (.ref f2) = true)
    (a3 : PySem.W.findIn K (.ref CLook) "next_word" = some (some (.ref f3)))
    (i3 : PySem.W.isFn K (.ref f3) = true)
    (l3 : K.lookup f3 = some ⟨oc3, od3, .func (PySem.W.fnOf "next_word" "Look.next_word" (defArgs s_Look_next_word) (defBody s_Look_next_word) (defScope s_Look_next_word) .none kV3 dc3 pm3 an3 cd3 ct3), sl3⟩)
    (c3 : PySem.W.codeIn K cd3 "Look.next_word" = true)
    (k3 : PySem.W.keepIn K (.ref f3) = true)
    (a4 : PySem.W.findIn K (.ref CLook) "both_fields" = some (some (.ref f4)))
    (i4 : PySem.W.isFn K (.ref f4) = true)
    (l4 : K.lookup f4 = some ⟨oc4, od4, .func (PySem.W.fnOf "both_fields" "Look.both_fields" (defArgs s_Look_both_fields) (defBody s_Look_both_fields) (defScope s_Look_both_fields) .none kV4 dc4 pm4 an4 cd4 ct4), sl4⟩)
    (c4 : PySem.W.codeIn K cd4 "Look.both_fields" = true)
    (k4 : PySem.W.keepIn K (.ref f4) = true)
    (a5 : PySem.W.findIn K (.ref CLook) "side" = some (some (.ref f5)))
    (i5 : PySem.W.isFn K (.ref f5) = true)
    (l5 : K.lookup f5 = some ⟨oc5, od5, .func (PySem.W.fnOf "side" "Look.side" (defArgs s_Look_side) (defBody s_Look_side) (defScope s_Look_side) .none kV5 dc5 pm5 an5 cd5 ct5), sl5⟩)
    (c5 : PySem.W.codeIn K cd5 "Look.side" = true)
    (k5 : PySem.W.keepIn K (.ref f5) = true)
    (a6 : PySem.W.findIn K (.ref CLook) "case" = some (some (.ref f6)))
    (i6 : PySem.W.isFn K (.ref f6) = true)
    (l6 : K.lookup f6 = some ⟨oc6, od6, .func (PySem.W.fnOf "case" "Look.case" (defArgs s_Look_case) (defBody s_Look_case) (defScope s_Look_case) .none kV6 dc6 pm6 an6 cd6 ct6), sl6⟩)
    (c6 : PySem.W.codeIn K cd6 "Look.case" = true)
    (k6 : PySem.W.keepIn K (.ref f6) = true)
    (a7 : PySem.W.findIn K (.ref CLook) "mark" = some (some (.ref f7)))
    (i7 : PySem.W.isFn K (.ref f7) = true)
    (l7 : K.lookup f7 = some ⟨oc7, od7, .func (PySem.W.fnOf "mark" "Look.mark" (defArgs s_Look_mark) (defBody s_Look_mark) (defScope s_Look_mark) .none kV7 dc7 pm7 an7 cd7 ct7), sl7⟩)
    (c7 : PySem.W.codeIn K cd7 "Look.mark" = true)
    (k7 : PySem.W.keepIn K (.ref f7) = true)
    (a8 : PySem.W.nsIn K mainGlobals "side_of" = some (some (.ref f8)))
    (l8 : K.lookup f8 = some ⟨oc8, od8, .func (PySem.W.fnOf "side_of" "side_of" (defArgs s_side_of) (defBody s_side_of) (defScope s_side_of) .none kV8 dc8 pm8 an8 cd8 ct8), sl8⟩)
    (c8 : PySem.W.codeIn K cd8 "side_of" = true)
    (k8 : PySem.W.keepIn K (.ref f8) = true)
    (a9 : PySem.W.nsIn K mainGlobals "looked" = some (some (.ref f9)))
    (l9 : K.lookup f9 = some ⟨oc9, od9, .func (PySem.W.fnOf "looked" "looked" (defArgs s_looked) (defBody s_looked) (defScope s_looked) .none kV9 dc9 pm9 an9 cd9 ct9), sl9⟩)
    (c9 : PySem.W.codeIn K cd9 "looked" = true)
    (k9 : PySem.W.keepIn K (.ref f9) = true)
    (a10 : PySem.W.findIn K (.ref CShelf) "__init__" = some (some (.ref f10)))
    (i10 : PySem.W.isFn K (.ref f10) = true)
    (l10 : K.lookup f10 = some ⟨oc10, od10, .func (PySem.W.fnOf "__init__" "Shelf.__init__" (defArgs s_Shelf_init) (defBody s_Shelf_init) (defScope s_Shelf_init) .none kV10 dc10 pm10 an10 cd10 ct10), sl10⟩)
    (c10 : PySem.W.codeIn K cd10 "Shelf.__init__" = true)
    (k10 : PySem.W.keepIn K (.ref f10) = true)
    (a11 : PySem.W.findIn K (.ref CShelf) "found" = some (some (.ref f11)))
    (i11 : PySem.W.isFn K (.ref f11) = true)
    (l11 : K.lookup f11 = some ⟨oc11, od11, .func (PySem.W.fnOf "found" "Shelf.found" (defArgs s_Shelf_found) (defBody s_Shelf_found) (defScope s_Shelf_found) .none kV11 dc11 pm11 an11 cd11 ct11), sl11⟩)
    (c11 : PySem.W.codeIn K cd11 "Shelf.found" = true)
    (k11 : PySem.W.keepIn K (.ref f11) = true)
    (a12 : PySem.W.findIn K (.ref CShelf) "stand" = some (some (.ref f12)))
    (i12 : PySem.W.isFn K (.ref f12) = true)
    (l12 : K.lookup f12 = some ⟨oc12, od12, .func (PySem.W.fnOf "stand" "Shelf.stand" (defArgs s_Shelf_stand) (defBody s_Shelf_stand) (defScope s_Shelf_stand) .none kV12 dc12 pm12 an12 cd12 ct12), sl12⟩)
    (c12 : PySem.W.codeIn K cd12 "Shelf.stand" = true)
    (k12 : PySem.W.keepIn K (.ref f12) = true)
    (a13 : PySem.W.findIn K (.ref CShelf) "put" = some (some (.ref f13)))
    (i13 : PySem.W.isFn K (.ref f13) = true)
    (l13 : K.lookup f13 = some ⟨oc13, od13, .func (PySem.W.fnOf "put" "Shelf.put" (defArgs s_Shelf_put) (defBody s_Shelf_put) (defScope s_Shelf_put) .none kV13 dc13 pm13 an13 cd13 ct13), sl13⟩)
    (c13 : PySem.W.codeIn K cd13 "Shelf.put" = true)
    (k13 : PySem.W.keepIn K (.ref f13) = true)
    (a14 : PySem.W.findIn K (.ref CShelf) "thing" = some (some (.ref f14)))
    (i14 : PySem.W.isFn K (.ref f14) = true)
    (l14 : K.lookup f14 = some ⟨oc14, od14, .func (PySem.W.fnOf "thing" "Shelf.thing" (defArgs s_Shelf_thing) (defBody s_Shelf_thing) (defScope s_Shelf_thing) .none kV14 dc14 pm14 an14 cd14 ct14), sl14⟩)
    (c14 : PySem.W.codeIn K cd14 "Shelf.thing" = true)
    (k14 : PySem.W.keepIn K (.ref f14) = true)
    (a15 : PySem.W.findIn K (.ref CShelf) "take" = some (some (.ref f15)))
    (i15 : PySem.W.isFn K (.ref f15) = true)
    (l15 : K.lookup f15 = some ⟨oc15, od15, .func (PySem.W.fnOf "take" "Shelf.take" (defArgs s_Shelf_take) (defBody s_Shelf_take) (defScope s_Shelf_take) .none kV15 dc15 pm15 an15 cd15 ct15), sl15⟩)
    (c15 : PySem.W.codeIn K cd15 "Shelf.take" = true)
    (k15 : PySem.W.keepIn K (.ref f15) = true)
    (a16 : PySem.W.findIn K (.ref CShelf) "change" = some (some (.ref f16)))
    (i16 : PySem.W.isFn K (.ref f16) = true)
    (l16 : K.lookup f16 = some ⟨oc16, od16, .func (PySem.W.fnOf "change" "Shelf.change" (defArgs s_Shelf_change) (defBody s_Shelf_change) (defScope s_Shelf_change) .none kV16 dc16 pm16 an16 cd16 ct16), sl16⟩)
    (c16 : PySem.W.codeIn K cd16 "Shelf.change" = true)
    (k16 : PySem.W.keepIn K (.ref f16) = true)
    (a17 : PySem.W.findIn K (.ref CShelf) "numbers" = some (some (.ref f17)))
    (i17 : PySem.W.isFn K (.ref f17) = true)
    (l17 : K.lookup f17 = some ⟨oc17, od17, .func (PySem.W.fnOf "numbers" "Shelf.numbers" (defArgs s_Shelf_numbers) (defBody s_Shelf_numbers) (defScope s_Shelf_numbers) .none kV17 dc17 pm17 an17 cd17 ct17), sl17⟩)
    (c17 : PySem.W.codeIn K cd17 "Shelf.numbers" = true)
    (k17 : PySem.W.keepIn K (.ref f17) = true)
    (a18 : PySem.W.findIn K (.ref CShelf) "place" = some (some (.ref f18)))
    (i18 : PySem.W.isFn K (.ref f18) = true)
    (l18 : K.lookup f18 = some ⟨oc18, od18, .func (PySem.W.fnOf "place" "Shelf.place" (defArgs s_Shelf_place) (defBody s_Shelf_place) (defScope s_Shelf_place) .none kV18 dc18 pm18 an18 cd18 ct18), sl18⟩)
    (c18 : PySem.W.codeIn K cd18 "Shelf.place" = true)
    (k18 : PySem.W.keepIn K (.ref f18) = true)
    (a19 : PySem.W.findIn K (.ref CShelf) "between" = some (some (.ref f19)))
    (i19 : PySem.W.isFn K (.ref f19) = true)
    (l19 : K.lookup f19 = some ⟨oc19, od19, .func (PySem.W.fnOf "between" "Shelf.between" (defArgs s_Shelf_between) (defBody s_Shelf_between) (defScope s_Shelf_between) .none kV19 dc19 pm19 an19 cd19 ct19), sl19⟩)
    (c19 : PySem.W.codeIn K cd19 "Shelf.between" = true)
    (k19 : PySem.W.keepIn K (.ref f19) = true)
    (a20 : PySem.W.nsIn K mainGlobals "_law_hand" = some (some (.ref f20)))
    (l20 : K.lookup f20 = some ⟨oc20, od20, .func (PySem.W.fnOf "_law_hand" "_law_hand" (defArgs s_l_hand) (defBody s_l_hand) (defScope s_l_hand) .none kV20 dc20 pm20 an20 cd20 ct20), sl20⟩)
    (c20 : PySem.W.codeIn K cd20 "_law_hand" = true)
    (k20 : PySem.W.keepIn K (.ref f20) = true)
    (a21 : PySem.W.nsIn K mainGlobals "_law_draw" = some (some (.ref f21)))
    (l21 : K.lookup f21 = some ⟨oc21, od21, .func (PySem.W.fnOf "_law_draw" "_law_draw" (defArgs s_l_draw) (defBody s_l_draw) (defScope s_l_draw) .none kV21 dc21 pm21 an21 cd21 ct21), sl21⟩)
    (c21 : PySem.W.codeIn K cd21 "_law_draw" = true)
    (k21 : PySem.W.keepIn K (.ref f21) = true)
    (a22 : PySem.W.nsIn K mainGlobals "_law_fraction" = some (some (.ref f22)))
    (l22 : K.lookup f22 = some ⟨oc22, od22, .func (PySem.W.fnOf "_law_fraction" "_law_fraction" (defArgs s_l_fraction) (defBody s_l_fraction) (defScope s_l_fraction) .none kV22 dc22 pm22 an22 cd22 ct22), sl22⟩)
    (c22 : PySem.W.codeIn K cd22 "_law_fraction" = true)
    (k22 : PySem.W.keepIn K (.ref f22) = true)
    (a23 : PySem.W.nsIn K mainGlobals "_law_number" = some (some (.ref f23)))
    (l23 : K.lookup f23 = some ⟨oc23, od23, .func (PySem.W.fnOf "_law_number" "_law_number" (defArgs s_l_number) (defBody s_l_number) (defScope s_l_number) .none kV23 dc23 pm23 an23 cd23 ct23), sl23⟩)
    (c23 : PySem.W.codeIn K cd23 "_law_number" = true)
    (k23 : PySem.W.keepIn K (.ref f23) = true)
    (a24 : PySem.W.nsIn K mainGlobals "_law_name" = some (some (.ref f24)))
    (l24 : K.lookup f24 = some ⟨oc24, od24, .func (PySem.W.fnOf "_law_name" "_law_name" (defArgs s_l_name) (defBody s_l_name) (defScope s_l_name) .none kV24 dc24 pm24 an24 cd24 ct24), sl24⟩)
    (c24 : PySem.W.codeIn K cd24 "_law_name" = true)
    (k24 : PySem.W.keepIn K (.ref f24) = true)
    (a25 : PySem.W.nsIn K mainGlobals "_law_book" = some (some (.ref f25)))
    (l25 : K.lookup f25 = some ⟨oc25, od25, .func (PySem.W.fnOf "_law_book" "_law_book" (defArgs s_l_book) (defBody s_l_book) (defScope s_l_book) .none kV25 dc25 pm25 an25 cd25 ct25), sl25⟩)
    (c25 : PySem.W.codeIn K cd25 "_law_book" = true)
    (k25 : PySem.W.keepIn K (.ref f25) = true)
    (a26 : PySem.W.nsIn K mainGlobals "_law_mark" = some (some (.ref f26)))
    (l26 : K.lookup f26 = some ⟨oc26, od26, .func (PySem.W.fnOf "_law_mark" "_law_mark" (defArgs s_l_mark) (defBody s_l_mark) (defScope s_l_mark) .none kV26 dc26 pm26 an26 cd26 ct26), sl26⟩)
    (c26 : PySem.W.codeIn K cd26 "_law_mark" = true)
    (k26 : PySem.W.keepIn K (.ref f26) = true)
    (a27 : PySem.W.nsIn K mainGlobals "_law_case" = some (some (.ref f27)))
    (l27 : K.lookup f27 = some ⟨oc27, od27, .func (PySem.W.fnOf "_law_case" "_law_case" (defArgs s_l_case) (defBody s_l_case) (defScope s_l_case) .none kV27 dc27 pm27 an27 cd27 ct27), sl27⟩)
    (c27 : PySem.W.codeIn K cd27 "_law_case" = true)
    (k27 : PySem.W.keepIn K (.ref f27) = true)
    (a28 : PySem.W.nsIn K mainGlobals "_law_tree" = some (some (.ref f28)))
    (l28 : K.lookup f28 = some ⟨oc28, od28, .func (PySem.W.fnOf "_law_tree" "_law_tree" (defArgs s_l_tree) (defBody s_l_tree) (defScope s_l_tree) .none kV28 dc28 pm28 an28 cd28 ct28), sl28⟩)
    (c28 : PySem.W.codeIn K cd28 "_law_tree" = true)
    (k28 : PySem.W.keepIn K (.ref f28) = true)
    (a29 : PySem.W.nsIn K mainGlobals "_law_words" = some (some (.ref f29)))
    (l29 : K.lookup f29 = some ⟨oc29, od29, .func (PySem.W.fnOf "_law_words" "_law_words" (defArgs s_l_words) (defBody s_l_words) (defScope s_l_words) .none kV29 dc29 pm29 an29 cd29 ct29), sl29⟩)
    (c29 : PySem.W.codeIn K cd29 "_law_words" = true)
    (k29 : PySem.W.keepIn K (.ref f29) = true)
    (a30 : PySem.W.nsIn K mainGlobals "_law_less" = some (some (.ref f30)))
    (l30 : K.lookup f30 = some ⟨oc30, od30, .func (PySem.W.fnOf "_law_less" "_law_less" (defArgs s_l_less) (defBody s_l_less) (defScope s_l_less) .none kV30 dc30 pm30 an30 cd30 ct30), sl30⟩)
    (c30 : PySem.W.codeIn K cd30 "_law_less" = true)
    (k30 : PySem.W.keepIn K (.ref f30) = true)
    (a31 : PySem.W.nsIn K mainGlobals "_law_holds" = some (some (.ref f31)))
    (l31 : K.lookup f31 = some ⟨oc31, od31, .func (PySem.W.fnOf "_law_holds" "_law_holds" (defArgs s_l_holds) (defBody s_l_holds) (defScope s_l_holds) .none kV31 dc31 pm31 an31 cd31 ct31), sl31⟩)
    (c31 : PySem.W.codeIn K cd31 "_law_holds" = true)
    (k31 : PySem.W.keepIn K (.ref f31) = true)
    (a32 : PySem.W.nsIn K mainGlobals "_law_side" = some (some (.ref f32)))
    (l32 : K.lookup f32 = some ⟨oc32, od32, .func (PySem.W.fnOf "_law_side" "_law_side" (defArgs s_l_side) (defBody s_l_side) (defScope s_l_side) .none kV32 dc32 pm32 an32 cd32 ct32), sl32⟩)
    (c32 : PySem.W.codeIn K cd32 "_law_side" = true)
    (k32 : PySem.W.keepIn K (.ref f32) = true)
    (a33 : PySem.W.nsIn K mainGlobals "_law_is_order" = some (some (.ref f33)))
    (l33 : K.lookup f33 = some ⟨oc33, od33, .func (PySem.W.fnOf "_law_is_order" "_law_is_order" (defArgs s_l_is_order) (defBody s_l_is_order) (defScope s_l_is_order) .none kV33 dc33 pm33 an33 cd33 ct33), sl33⟩)
    (c33 : PySem.W.codeIn K cd33 "_law_is_order" = true)
    (k33 : PySem.W.keepIn K (.ref f33) = true)
    (a34 : PySem.W.nsIn K mainGlobals "_law_setting" = some (some (.ref f34)))
    (l34 : K.lookup f34 = some ⟨oc34, od34, .func (PySem.W.fnOf "_law_setting" "_law_setting" (defArgs s_l_setting) (defBody s_l_setting) (defScope s_l_setting) .none kV34 dc34 pm34 an34 cd34 ct34), sl34⟩)
    (c34 : PySem.W.codeIn K cd34 "_law_setting" = true)
    (k34 : PySem.W.keepIn K (.ref f34) = true)
    (a35 : PySem.W.nsIn K mainGlobals "_law_order" = some (some (.ref f35)))
    (l35 : K.lookup f35 = some ⟨oc35, od35, .func (PySem.W.fnOf "_law_order" "_law_order" (defArgs s_l_order) (defBody s_l_order) (defScope s_l_order) .none kV35 dc35 pm35 an35 cd35 ct35), sl35⟩)
    (c35 : PySem.W.codeIn K cd35 "_law_order" = true)
    (k35 : PySem.W.keepIn K (.ref f35) = true)
    (a36 : PySem.W.nsIn K mainGlobals "_law_shelf" = some (some (.ref f36)))
    (l36 : K.lookup f36 = some ⟨oc36, od36, .func (PySem.W.fnOf "_law_shelf" "_law_shelf" (defArgs s_l_shelf) (defBody s_l_shelf) (defScope s_l_shelf) .none kV36 dc36 pm36 an36 cd36 ct36), sl36⟩)
    (c36 : PySem.W.codeIn K cd36 "_law_shelf" = true)
    (k36 : PySem.W.keepIn K (.ref f36) = true)
    (a37 : PySem.W.nsIn K mainGlobals "_law_rows" = some (some (.ref f37)))
    (l37 : K.lookup f37 = some ⟨oc37, od37, .func (PySem.W.fnOf "_law_rows" "_law_rows" (defArgs s_l_rows) (defBody s_l_rows) (defScope s_l_rows) .none kV37 dc37 pm37 an37 cd37 ct37), sl37⟩)
    (c37 : PySem.W.codeIn K cd37 "_law_rows" = true)
    (k37 : PySem.W.keepIn K (.ref f37) = true)
    (a38 : PySem.W.nsIn K mainGlobals "_law_call" = some (some (.ref f38)))
    (l38 : K.lookup f38 = some ⟨oc38, od38, .func (PySem.W.fnOf "_law_call" "_law_call" (defArgs s_l_call) (defBody s_l_call) (defScope s_l_call) .none kV38 dc38 pm38 an38 cd38 ct38), sl38⟩)
    (c38 : PySem.W.codeIn K cd38 "_law_call" = true)
    (k38 : PySem.W.keepIn K (.ref f38) = true)
    (a39 : PySem.W.nsIn K mainGlobals "_law_refused" = some (some (.ref f39)))
    (l39 : K.lookup f39 = some ⟨oc39, od39, .func (PySem.W.fnOf "_law_refused" "_law_refused" (defArgs s_l_refused) (defBody s_l_refused) (defScope s_l_refused) .none kV39 dc39 pm39 an39 cd39 ct39), sl39⟩)
    (c39 : PySem.W.codeIn K cd39 "_law_refused" = true)
    (k39 : PySem.W.keepIn K (.ref f39) = true)
    (a40 : PySem.W.nsIn K mainGlobals "_law_no_field" = some (some (.ref f40)))
    (l40 : K.lookup f40 = some ⟨oc40, od40, .func (PySem.W.fnOf "_law_no_field" "_law_no_field" (defArgs s_l_no_field) (defBody s_l_no_field) (defScope s_l_no_field) .none kV40 dc40 pm40 an40 cd40 ct40), sl40⟩)
    (c40 : PySem.W.codeIn K cd40 "_law_no_field" = true)
    (k40 : PySem.W.keepIn K (.ref f40) = true)
    (a41 : PySem.W.nsIn K mainGlobals "_law_asked" = some (some (.ref f41)))
    (l41 : K.lookup f41 = some ⟨oc41, od41, .func (PySem.W.fnOf "_law_asked" "_law_asked" (defArgs s_l_asked) (defBody s_l_asked) (defScope s_l_asked) .none kV41 dc41 pm41 an41 cd41 ct41), sl41⟩)
    (c41 : PySem.W.codeIn K cd41 "_law_asked" = true)
    (k41 : PySem.W.keepIn K (.ref f41) = true)
    (a42 : PySem.W.nsIn K mainGlobals "law" = some (some (.ref f42)))
    (l42 : K.lookup f42 = some ⟨oc42, od42, .func (PySem.W.fnOf "law" "law" (defArgs s_law) (defBody s_law) (defScope s_law) .none kV42 dc42 pm42 an42 cd42 ct42), sl42⟩)
    (c42 : PySem.W.codeIn K cd42 "law" = true)
    (k42 : PySem.W.keepIn K (.ref f42) = true)
    (pgLook : PySem.W.plainGet K CLook Str.empty = true)
    (hdLook : PySem.W.hasDictIn K CLook = true)
    (poLook : PySem.W.plainOver K CLook = true)
    (saLook : PySem.W.findIn K (.ref CLook) "__setattr__" = some (some (.builtin "object.__setattr__")))
    (mkLook : PySem.W.makesIn K CLook = true)
    (kcLook : PySem.W.keepIn K (.ref CLook) = true)
    (nLookorder : PySem.W.findIn K (.ref CLook) "order" = some none)
    (nLookbook : PySem.W.findIn K (.ref CLook) "book" = some none)
    (nLookthings : PySem.W.findIn K (.ref CLook) "things" = some none)
    (nLookgone : PySem.W.findIn K (.ref CLook) "gone" = some none)
    (pgShelf : PySem.W.plainGet K CShelf Str.empty = true)
    (hdShelf : PySem.W.hasDictIn K CShelf = true)
    (poShelf : PySem.W.plainOver K CShelf = true)
    (saShelf : PySem.W.findIn K (.ref CShelf) "__setattr__" = some (some (.builtin "object.__setattr__")))
    (mkShelf : PySem.W.makesIn K CShelf = true)
    (kcShelf : PySem.W.keepIn K (.ref CShelf) = true)
    (nShelforders : PySem.W.findIn K (.ref CShelf) "orders" = some none)
    (nShelfbook : PySem.W.findIn K (.ref CShelf) "book" = some none)
    (nShelfthings : PySem.W.findIn K (.ref CShelf) "things" = some none)
    (nShelfgiven : PySem.W.findIn K (.ref CShelf) "given" = some none)
    (nShelflists : PySem.W.findIn K (.ref CShelf) "lists" = some none)
    (zlen : PySem.W.nsIn K mainGlobals "len" = some none)
    (zmax : PySem.W.nsIn K mainGlobals "max" = some none)
    (zmin : PySem.W.nsIn K mainGlobals "min" = some none)
    (zsorted : PySem.W.nsIn K mainGlobals "sorted" = some none)
    (zall : PySem.W.nsIn K mainGlobals "all" = some none)
    (zany : PySem.W.nsIn K mainGlobals "any" = some none)
    (zisinstance : PySem.W.nsIn K mainGlobals "isinstance" = some none)
    (zrange : PySem.W.nsIn K mainGlobals "range" = some none)
    (zint : PySem.W.nsIn K mainGlobals "int" = some none)
    (zlist : PySem.W.nsIn K mainGlobals "list" = some none)
    (ztuple : PySem.W.nsIn K mainGlobals "tuple" = some none)
    (zValueError : PySem.W.nsIn K mainGlobals "ValueError" = some none)
    (aTo : PySem.W.nsIn K mainGlobals "TOLD" = some (some (.ref aT)))
    (lTo : K.lookup aT = some ⟨.type "dict", none, .dict esT nT, #[]⟩)
    (kTo : intKeys esT = true)
    (tA : findBy Value.isInt esT (-1) = some (.str "ahead" ta))
    (tL : findBy Value.isInt esT (0) = some (.str "like" tl))
    (tB : findBy Value.isInt esT (1) = some (.str "behind" tb))
    (xNT : PySem.W.excIn K CNoThing [.type "ValueError", .type "Exception", .type "BaseException", .type "object"] "ValueError.__new__" = true)
    (kNT : PySem.W.keepIn K (.ref CNoThing) = true)
    (r1NoThing : PySem.W.subIn K (.ref CNoThing) (.type "BaseException") = some true)
    (r2NoThing : PySem.W.typeIn K (.ref CNoThing) = some (.type "type"))
    (sNoThingNoThing : PySem.W.subIn K (.ref CNoThing) (.ref CNoThing) = some true)
    (s0NoThing : PySem.W.subIn K (.ref CNoThing) (.ref COrderError) = some true)
    (e2NoThing : PySem.W.findIn K (.ref CNoThing) "__getattribute__" = some (some (.builtin "BaseException.__getattribute__")))
    (e3NoThing : PySem.W.findIn K (.ref CNoThing) "__getattr__" = some none)
    (e4NoThing : PySem.W.findIn K (.ref CNoThing) "__class__" = some (some (.builtin "object.__class__")))
    (e5NoThing : PySem.W.mroIn K CNoThing (.type "object") = some true)
    (iVNoThing : PySem.W.subIn K (.ref CNoThing) (.type "ValueError") = some true)
    (iNoThingNoNumber : PySem.W.subIn K (.ref CNoThing) (.ref CNoNumber) = some false)
    (iNoThingNoOrder : PySem.W.subIn K (.ref CNoThing) (.ref CNoOrder) = some false)
    (iNoThingNoField : PySem.W.subIn K (.ref CNoThing) (.ref CNoField) = some false)
    (iNoThingNoRow : PySem.W.subIn K (.ref CNoThing) (.ref CNoRow) = some false)
    (iNoThingClash : PySem.W.subIn K (.ref CNoThing) (.ref CClash) = some false)
    (iNoThingNoNet : PySem.W.subIn K (.ref CNoThing) (.ref CNoNet) = some false)
    (iNoThingNoPlace : PySem.W.subIn K (.ref CNoThing) (.ref CNoPlace) = some false)
    (iNoThingNoAsk : PySem.W.subIn K (.ref CNoThing) (.ref CNoAsk) = some false)
    (r1NoField : PySem.W.subIn K (.ref CNoField) (.type "BaseException") = some true)
    (r2NoField : PySem.W.typeIn K (.ref CNoField) = some (.type "type"))
    (sNoFieldNoField : PySem.W.subIn K (.ref CNoField) (.ref CNoField) = some true)
    (s0NoField : PySem.W.subIn K (.ref CNoField) (.ref COrderError) = some true)
    (e2NoField : PySem.W.findIn K (.ref CNoField) "__getattribute__" = some (some (.builtin "BaseException.__getattribute__")))
    (e3NoField : PySem.W.findIn K (.ref CNoField) "__getattr__" = some none)
    (e4NoField : PySem.W.findIn K (.ref CNoField) "__class__" = some (some (.builtin "object.__class__")))
    (e5NoField : PySem.W.mroIn K CNoField (.type "object") = some true)
    (iVNoField : PySem.W.subIn K (.ref CNoField) (.type "ValueError") = some true)
    (iNoFieldNoNumber : PySem.W.subIn K (.ref CNoField) (.ref CNoNumber) = some false)
    (iNoFieldNoOrder : PySem.W.subIn K (.ref CNoField) (.ref CNoOrder) = some false)
    (iNoFieldNoRow : PySem.W.subIn K (.ref CNoField) (.ref CNoRow) = some false)
    (iNoFieldClash : PySem.W.subIn K (.ref CNoField) (.ref CClash) = some false)
    (iNoFieldNoNet : PySem.W.subIn K (.ref CNoField) (.ref CNoNet) = some false)
    (iNoFieldNoPlace : PySem.W.subIn K (.ref CNoField) (.ref CNoPlace) = some false)
    (iNoFieldNoThing : PySem.W.subIn K (.ref CNoField) (.ref CNoThing) = some false)
    (iNoFieldNoAsk : PySem.W.subIn K (.ref CNoField) (.ref CNoAsk) = some false)
    (icOrderError : PySem.W.isClsIn K COrderError = true)
    (tyOrderError : PySem.W.typeIn K (.ref COrderError) = some (.type "type"))
    (icNoNumber : PySem.W.isClsIn K CNoNumber = true)
    (tyNoNumber : PySem.W.typeIn K (.ref CNoNumber) = some (.type "type"))
    (icNoOrder : PySem.W.isClsIn K CNoOrder = true)
    (tyNoOrder : PySem.W.typeIn K (.ref CNoOrder) = some (.type "type"))
    (icNoField : PySem.W.isClsIn K CNoField = true)
    (tyNoField : PySem.W.typeIn K (.ref CNoField) = some (.type "type"))
    (icNoRow : PySem.W.isClsIn K CNoRow = true)
    (tyNoRow : PySem.W.typeIn K (.ref CNoRow) = some (.type "type"))
    (icClash : PySem.W.isClsIn K CClash = true)
    (tyClash : PySem.W.typeIn K (.ref CClash) = some (.type "type"))
    (icNoNet : PySem.W.isClsIn K CNoNet = true)
    (tyNoNet : PySem.W.typeIn K (.ref CNoNet) = some (.type "type"))
    (icNoPlace : PySem.W.isClsIn K CNoPlace = true)
    (tyNoPlace : PySem.W.typeIn K (.ref CNoPlace) = some (.type "type"))
    (icNoThing : PySem.W.isClsIn K CNoThing = true)
    (tyNoThing : PySem.W.typeIn K (.ref CNoThing) = some (.type "type"))
    (icNoAsk : PySem.W.isClsIn K CNoAsk = true)
    (tyNoAsk : PySem.W.typeIn K (.ref CNoAsk) = some (.type "type"))
    (bOE : PySem.W.subIn K (.ref COrderError) (.type "BaseException") = some true)
    (sp0 : PySem.W.specialIn K (.builtin "object.__class__") "__get__" = some (some (.builtin "getset_descriptor.__get__")))
    (tk0 : PySem.W.takesIn K (.builtin "object.__class__") = some true)
    (xNF : K.lookup CNoField = some (excClassObj nmF qF CNoField NF bsF bmF true snF subF abF colF ddF m0 m1 m2 m3 m5 "ValueError.__new__"))
    (bNF : PySem.HandSPX.refsVE bmF = true)
    (sNF : PySem.W.findIn K (.ref CNoField) "__setattr__" = some (some (.builtin "object.__setattr__")))
    (tNF : PySem.W.typeIn K (.ref f0) = some (.type "function"))
    (kcNF : PySem.W.keepIn K (.ref CNoField) = true)
    (hNF : PySem.W.hasDictIn K CNoField = true)
    (wNF : PySem.W.findIn K (.ref CNoField) "word" = some none)
    (spOE : PySem.W.specialIn K (.ref COrderError) "__getattribute__" = some (some (.builtin "type.__getattribute__")))
    (rdOE : PySem.W.readsIn K COrderError (.type "type") = true)
    (inOE : PySem.W.findCls K (.ref COrderError) (.type "type") "__init__" = some (.val (.builtin "ValueError.__init__")))
    : ∃ T : Env K mg, fa = T.f_law ∧ (∀ (s : Shared) (v : Value), BindsTo s T.fd_law ⟨[v], []⟩ [("script", v)]) := by
  have e := hfa.symm.trans (PySem.W.mg_of X G a42)
  cases e
  have F0 := fun_mk (st := s_NoField_init) l0 c0 k0
  have B0 := F0.binds (ps := ["self", "word"]) fun _ _ _ _ _ _ us hl => match us, hl with | [_, _], _ => rfl
  have F1 := fun_mk (st := s_compared) l1 c1 k1
  have B1 := F1.binds (ps := ["one", "other"]) fun _ _ _ _ _ _ us hl => match us, hl with | [_, _], _ => rfl
  have F2 := fun_mk (st := s_Look_init) l2 c2 k2
  have B2 := F2.binds (ps := ["self", "order", "book", "one", "other"]) fun _ _ _ _ _ _ us hl => match us, hl with | [_, _, _, _, _], _ => rfl
  have F3 := fun_mk (st := s_Look_next_word) l3 c3 k3
  have B3 := F3.binds (ps := ["self"]) fun _ _ _ _ _ _ us hl => match us, hl with | [_], _ => rfl
  have F4 := fun_mk (st := s_Look_both_fields) l4 c4 k4
  have B4 := F4.binds (ps := ["self"]) fun _ _ _ _ _ _ us hl => match us, hl with | [_], _ => rfl
  have F5 := fun_mk (st := s_Look_side) l5 c5 k5
  have B5 := F5.binds (ps := ["self", "which"]) fun _ _ _ _ _ _ us hl => match us, hl with | [_, _], _ => rfl
  have F6 := fun_mk (st := s_Look_case) l6 c6 k6
  have B6 := F6.binds (ps := ["self"]) fun _ _ _ _ _ _ us hl => match us, hl with | [_], _ => rfl
  have F7 := fun_mk (st := s_Look_mark) l7 c7 k7
  have B7 := F7.binds (ps := ["self"]) fun _ _ _ _ _ _ us hl => match us, hl with | [_], _ => rfl
  have F8 := fun_mk (st := s_side_of) l8 c8 k8
  have B8 := F8.binds (ps := ["order", "book", "one", "other"]) fun _ _ _ _ _ _ us hl => match us, hl with | [_, _, _, _], _ => rfl
  have F9 := fun_mk (st := s_looked) l9 c9 k9
  have B9 := F9.binds (ps := ["order", "book", "one", "other"]) fun _ _ _ _ _ _ us hl => match us, hl with | [_, _, _, _], _ => rfl
  have F10 := fun_mk (st := s_Shelf_init) l10 c10 k10
  have B10 := F10.binds (ps := ["self", "orders", "book"]) fun _ _ _ _ _ _ us hl => match us, hl with | [_, _, _], _ => rfl
  have F11 := fun_mk (st := s_Shelf_found) l11 c11 k11
  have B11 := F11.binds (ps := ["self", "which", "thing", "words"]) fun _ _ _ _ _ _ us hl => match us, hl with | [_, _, _, _], _ => rfl
  have F12 := fun_mk (st := s_Shelf_stand) l12 c12 k12
  have B12 := F12.binds (ps := ["self", "number", "thing"]) fun _ _ _ _ _ _ us hl => match us, hl with | [_, _, _], _ => rfl
  have F13 := fun_mk (st := s_Shelf_put) l13 c13 k13
  have B13 := F13.binds (ps := ["self", "thing"]) fun _ _ _ _ _ _ us hl => match us, hl with | [_, _], _ => rfl
  have F14 := fun_mk (st := s_Shelf_thing) l14 c14 k14
  have B14 := F14.binds (ps := ["self", "number"]) fun _ _ _ _ _ _ us hl => match us, hl with | [_, _], _ => rfl
  have F15 := fun_mk (st := s_Shelf_take) l15 c15 k15
  have B15 := F15.binds (ps := ["self", "number"]) fun _ _ _ _ _ _ us hl => match us, hl with | [_, _], _ => rfl
  have F16 := fun_mk (st := s_Shelf_change) l16 c16 k16
  have B16 := F16.binds (ps := ["self", "number", "field", "fraction"]) fun _ _ _ _ _ _ us hl => match us, hl with | [_, _, _, _], _ => rfl
  have F17 := fun_mk (st := s_Shelf_numbers) l17 c17 k17
  have B17 := F17.binds (ps := ["self", "which"]) fun _ _ _ _ _ _ us hl => match us, hl with | [_, _], _ => rfl
  have F18 := fun_mk (st := s_Shelf_place) l18 c18 k18
  have B18 := F18.binds (ps := ["self", "which", "number"]) fun _ _ _ _ _ _ us hl => match us, hl with | [_, _, _], _ => rfl
  have F19 := fun_mk (st := s_Shelf_between) l19 c19 k19
  have B19 := F19.binds (ps := ["self", "which", "one", "other"]) fun _ _ _ _ _ _ us hl => match us, hl with | [_, _, _, _], _ => rfl
  have F20 := fun_mk (st := s_l_hand) l20 c20 k20
  have B20 := F20.binds (ps := ["script"]) fun _ _ _ _ _ _ us hl => match us, hl with | [_], _ => rfl
  have F21 := fun_mk (st := s_l_draw) l21 c21 k21
  have B21 := F21.binds (ps := ["hand", "limit"]) fun _ _ _ _ _ _ us hl => match us, hl with | [_, _], _ => rfl
  have F22 := fun_mk (st := s_l_fraction) l22 c22 k22
  have B22 := F22.binds (ps := ["above", "below"]) fun _ _ _ _ _ _ us hl => match us, hl with | [_, _], _ => rfl
  have F23 := fun_mk (st := s_l_number) l23 c23 k23
  have B23 := F23.binds (ps := ["hand"]) fun _ _ _ _ _ _ us hl => match us, hl with | [_], _ => rfl
  have F24 := fun_mk (st := s_l_name) l24 c24 k24
  have B24 := F24.binds (ps := ["hand"]) fun _ _ _ _ _ _ us hl => match us, hl with | [_], _ => rfl
  have F25 := fun_mk (st := s_l_book) l25 c25 k25
  have B25 := F25.binds (ps := ["hand"]) fun _ _ _ _ _ _ us hl => match us, hl with | [_], _ => rfl
  have F26 := fun_mk (st := s_l_mark) l26 c26 k26
  have B26 := F26.binds (ps := ["hand", "book", "numbers"]) fun _ _ _ _ _ _ us hl => match us, hl with | [_, _, _], _ => rfl
  have F27 := fun_mk (st := s_l_case) l27 c27 k27
  have B27 := F27.binds (ps := ["hand", "book", "numbers", "deep"]) fun _ _ _ _ _ _ us hl => match us, hl with | [_, _, _, _], _ => rfl
  have F28 := fun_mk (st := s_l_tree) l28 c28 k28
  have B28 := F28.binds (ps := ["hand", "book", "numbers", "deep"]) fun _ _ _ _ _ _ us hl => match us, hl with | [_, _, _, _], _ => rfl
  have F29 := fun_mk (st := s_l_words) l29 c29 k29
  have B29 := F29.binds (ps := ["tree"]) fun _ _ _ _ _ _ us hl => match us, hl with | [_], _ => rfl
  have F30 := fun_mk (st := s_l_less) l30 c30 k30
  have B30 := F30.binds (ps := ["one", "other"]) fun _ _ _ _ _ _ us hl => match us, hl with | [_, _], _ => rfl
  have F31 := fun_mk (st := s_l_holds) l31 c31 k31
  have B31 := F31.binds (ps := ["case", "book", "one", "other"]) fun _ _ _ _ _ _ us hl => match us, hl with | [_, _, _, _], _ => rfl
  have F32 := fun_mk (st := s_l_side) l32 c32 k32
  have B32 := F32.binds (ps := ["tree", "book", "one", "other"]) fun _ _ _ _ _ _ us hl => match us, hl with | [_, _, _, _], _ => rfl
  have F33 := fun_mk (st := s_l_is_order) l33 c33 k33
  have B33 := F33.binds (ps := ["tree", "book", "things"]) fun _ _ _ _ _ _ us hl => match us, hl with | [_, _, _], _ => rfl
  have F34 := fun_mk (st := s_l_setting) l34 c34 k34
  have B34 := F34.binds (ps := ["hand"]) fun _ _ _ _ _ _ us hl => match us, hl with | [_], _ => rfl
  have F35 := fun_mk (st := s_l_order) l35 c35 k35
  have B35 := F35.binds (ps := ["hand", "book", "numbers", "pool"]) fun _ _ _ _ _ _ us hl => match us, hl with | [_, _, _, _], _ => rfl
  have F36 := fun_mk (st := s_l_shelf) l36 c36 k36
  have B36 := F36.binds (ps := ["hand"]) fun _ _ _ _ _ _ us hl => match us, hl with | [_], _ => rfl
  have F37 := fun_mk (st := s_l_rows) l37 c37 k37
  have B37 := F37.binds (ps := ["trees", "book", "things"]) fun _ _ _ _ _ _ us hl => match us, hl with | [_, _, _], _ => rfl
  have F38 := fun_mk (st := s_l_call) l38 c38 k38
  have B38 := F38.binds (ps := ["shelf", "word", "number", "field", "part", "which"]) fun _ _ _ _ _ _ us hl => match us, hl with | [_, _, _, _, _, _], _ => rfl
  have F39 := fun_mk (st := s_l_refused) l39 c39 k39
  have B39 := F39.binds (ps := ["shelf", "word", "number", "field", "part", "which"]) fun _ _ _ _ _ _ us hl => match us, hl with | [_, _, _, _, _, _], _ => rfl
  have F40 := fun_mk (st := s_l_no_field) l40 c40 k40
  have B40 := F40.binds (ps := ["hand", "book"]) fun _ _ _ _ _ _ us hl => match us, hl with | [_, _], _ => rfl
  have F41 := fun_mk (st := s_l_asked) l41 c41 k41
  have B41 := F41.binds (ps := ["hand", "shelf", "book", "trees", "pool", "things", "given"]) fun _ _ _ _ _ _ us hl => match us, hl with | [_, _, _, _, _, _, _], _ => rfl
  have F42 := fun_mk (st := s_law) l42 c42 k42
  have B42 := F42.binds (ps := ["script"]) fun _ _ _ _ _ _ us hl => match us, hl with | [_], _ => rfl
  refine ⟨{
    CLook := CLook
    CShelf := CShelf
    COrderError := COrderError
    CNoNumber := CNoNumber
    CNoOrder := CNoOrder
    CNoField := CNoField
    CNoRow := CNoRow
    CClash := CClash
    CNoNet := CNoNet
    CNoPlace := CNoPlace
    CNoThing := CNoThing
    CNoAsk := CNoAsk
    f_NoField_init := f0
    fd_NoField_init := _
    f_compared := f1
    fd_compared := _
    f_Look_init := f2
    fd_Look_init := _
    f_Look_next_word := f3
    fd_Look_next_word := _
    f_Look_both_fields := f4
    fd_Look_both_fields := _
    f_Look_side := f5
    fd_Look_side := _
    f_Look_case := f6
    fd_Look_case := _
    f_Look_mark := f7
    fd_Look_mark := _
    f_side_of := f8
    fd_side_of := _
    f_looked := f9
    fd_looked := _
    f_Shelf_init := f10
    fd_Shelf_init := _
    f_Shelf_found := f11
    fd_Shelf_found := _
    f_Shelf_stand := f12
    fd_Shelf_stand := _
    f_Shelf_put := f13
    fd_Shelf_put := _
    f_Shelf_thing := f14
    fd_Shelf_thing := _
    f_Shelf_take := f15
    fd_Shelf_take := _
    f_Shelf_change := f16
    fd_Shelf_change := _
    f_Shelf_numbers := f17
    fd_Shelf_numbers := _
    f_Shelf_place := f18
    fd_Shelf_place := _
    f_Shelf_between := f19
    fd_Shelf_between := _
    f_l_hand := f20
    fd_l_hand := _
    f_l_draw := f21
    fd_l_draw := _
    f_l_fraction := f22
    fd_l_fraction := _
    f_l_number := f23
    fd_l_number := _
    f_l_name := f24
    fd_l_name := _
    f_l_book := f25
    fd_l_book := _
    f_l_mark := f26
    fd_l_mark := _
    f_l_case := f27
    fd_l_case := _
    f_l_tree := f28
    fd_l_tree := _
    f_l_words := f29
    fd_l_words := _
    f_l_less := f30
    fd_l_less := _
    f_l_holds := f31
    fd_l_holds := _
    f_l_side := f32
    fd_l_side := _
    f_l_is_order := f33
    fd_l_is_order := _
    f_l_setting := f34
    fd_l_setting := _
    f_l_order := f35
    fd_l_order := _
    f_l_shelf := f36
    fd_l_shelf := _
    f_l_rows := f37
    fd_l_rows := _
    f_l_call := f38
    fd_l_call := _
    f_l_refused := f39
    fd_l_refused := _
    f_l_no_field := f40
    fd_l_no_field := _
    f_l_asked := f41
    fd_l_asked := _
    f_law := fa
    fd_law := _
    NoField_init := ⟨F0, B0⟩
    compared := ⟨F1, B1, PySem.W.mg_of X G a1⟩
    Look_init := ⟨F2, B2⟩
    Look_next_word := ⟨F3, B3, ⟨a3, i3, k3⟩⟩
    Look_both_fields := ⟨F4, B4, ⟨a4, i4, k4⟩⟩
    Look_side := ⟨F5, B5, ⟨a5, i5, k5⟩⟩
    Look_case := ⟨F6, B6, ⟨a6, i6, k6⟩⟩
    Look_mark := ⟨F7, B7, ⟨a7, i7, k7⟩⟩
    side_of := ⟨F8, B8, PySem.W.mg_of X G a8⟩
    looked := ⟨F9, B9, PySem.W.mg_of X G a9⟩
    Shelf_init := ⟨F10, B10⟩
    Shelf_found := ⟨F11, B11, ⟨a11, i11, k11⟩⟩
    Shelf_stand := ⟨F12, B12, ⟨a12, i12, k12⟩⟩
    Shelf_put := ⟨F13, B13, ⟨a13, i13, k13⟩⟩
    Shelf_thing := ⟨F14, B14, ⟨a14, i14, k14⟩⟩
    Shelf_take := ⟨F15, B15, ⟨a15, i15, k15⟩⟩
    Shelf_change := ⟨F16, B16, ⟨a16, i16, k16⟩⟩
    Shelf_numbers := ⟨F17, B17, ⟨a17, i17, k17⟩⟩
    Shelf_place := ⟨F18, B18, ⟨a18, i18, k18⟩⟩
    Shelf_between := ⟨F19, B19, ⟨a19, i19, k19⟩⟩
    l_hand := ⟨F20, B20, PySem.W.mg_of X G a20⟩
    l_draw := ⟨F21, B21, PySem.W.mg_of X G a21⟩
    l_fraction := ⟨F22, B22, PySem.W.mg_of X G a22⟩
    l_number := ⟨F23, B23, PySem.W.mg_of X G a23⟩
    l_name := ⟨F24, B24, PySem.W.mg_of X G a24⟩
    l_book := ⟨F25, B25, PySem.W.mg_of X G a25⟩
    l_mark := ⟨F26, B26, PySem.W.mg_of X G a26⟩
    l_case := ⟨F27, B27, PySem.W.mg_of X G a27⟩
    l_tree := ⟨F28, B28, PySem.W.mg_of X G a28⟩
    l_words := ⟨F29, B29, PySem.W.mg_of X G a29⟩
    l_less := ⟨F30, B30, PySem.W.mg_of X G a30⟩
    l_holds := ⟨F31, B31, PySem.W.mg_of X G a31⟩
    l_side := ⟨F32, B32, PySem.W.mg_of X G a32⟩
    l_is_order := ⟨F33, B33, PySem.W.mg_of X G a33⟩
    l_setting := ⟨F34, B34, PySem.W.mg_of X G a34⟩
    l_order := ⟨F35, B35, PySem.W.mg_of X G a35⟩
    l_shelf := ⟨F36, B36, PySem.W.mg_of X G a36⟩
    l_rows := ⟨F37, B37, PySem.W.mg_of X G a37⟩
    l_call := ⟨F38, B38, PySem.W.mg_of X G a38⟩
    l_refused := ⟨F39, B39, PySem.W.mg_of X G a39⟩
    l_no_field := ⟨F40, B40, PySem.W.mg_of X G a40⟩
    l_asked := ⟨F41, B41, PySem.W.mg_of X G a41⟩
    law := ⟨F42, B42, PySem.W.mg_of X G a42⟩
    clLook := ⟨pgLook, hdLook, poLook, saLook⟩
    mkLook := ⟨mkLook, a2, i2, kcLook⟩
    mgLook := PySem.W.mg_of X G aCLook
    nLook_order := nLookorder
    nLook_book := nLookbook
    nLook_things := nLookthings
    nLook_gone := nLookgone
    clShelf := ⟨pgShelf, hdShelf, poShelf, saShelf⟩
    mkShelf := ⟨mkShelf, a10, i10, kcShelf⟩
    mgShelf := PySem.W.mg_of X G aCShelf
    nShelf_orders := nShelforders
    nShelf_book := nShelfbook
    nShelf_things := nShelfthings
    nShelf_given := nShelfgiven
    nShelf_lists := nShelflists
    mgOrderError := PySem.W.mg_of X G aCOrderError
    mgNoNumber := PySem.W.mg_of X G aCNoNumber
    mgNoOrder := PySem.W.mg_of X G aCNoOrder
    mgNoField := PySem.W.mg_of X G aCNoField
    mgNoRow := PySem.W.mg_of X G aCNoRow
    mgClash := PySem.W.mg_of X G aCClash
    mgNoNet := PySem.W.mg_of X G aCNoNet
    mgNoPlace := PySem.W.mg_of X G aCNoPlace
    mgNoThing := PySem.W.mg_of X G aCNoThing
    mgNoAsk := PySem.W.mg_of X G aCNoAsk
    b_len := PySem.W.mg_none_of X G zlen
    b_max := PySem.W.mg_none_of X G zmax
    b_min := PySem.W.mg_none_of X G zmin
    b_sorted := PySem.W.mg_none_of X G zsorted
    b_all := PySem.W.mg_none_of X G zall
    b_any := PySem.W.mg_none_of X G zany
    b_isinstance := PySem.W.mg_none_of X G zisinstance
    b_range := PySem.W.mg_none_of X G zrange
    b_int := PySem.W.mg_none_of X G zint
    b_list := PySem.W.mg_none_of X G zlist
    b_tuple := PySem.W.mg_none_of X G ztuple
    b_ValueError := PySem.W.mg_none_of X G zValueError
    aTOLD := aT
    mgTOLD := PySem.W.mg_of X G aTo
    told_ahead := ⟨_, _, _, lTo, kTo, tA, ⟨_, rfl⟩⟩
    told_like := ⟨_, _, _, lTo, kTo, tL, ⟨_, rfl⟩⟩
    told_behind := ⟨_, _, _, lTo, kTo, tB, ⟨_, rfl⟩⟩
    xNoThing := xNT
    kNoThing := kNT
    rNoThing1 := r1NoThing
    rNoThing2 := r2NoThing
    eNoThing := ⟨icNoThing, e2NoThing, e3NoThing, r1NoThing, e4NoThing, sp0, tk0, e5NoThing⟩
    mNoThing := exm_own bOE icOrderError tyOrderError s0NoThing
    iNoThing_VE := kit_ve iVNoThing
    iNoThing_NoNumber := kit_other sNoThingNoThing icNoNumber tyNoNumber iNoThingNoNumber
    iNoThing_NoOrder := kit_other sNoThingNoThing icNoOrder tyNoOrder iNoThingNoOrder
    iNoThing_NoField := kit_other sNoThingNoThing icNoField tyNoField iNoThingNoField
    iNoThing_NoRow := kit_other sNoThingNoThing icNoRow tyNoRow iNoThingNoRow
    iNoThing_Clash := kit_other sNoThingNoThing icClash tyClash iNoThingClash
    iNoThing_NoNet := kit_other sNoThingNoThing icNoNet tyNoNet iNoThingNoNet
    iNoThing_NoPlace := kit_other sNoThingNoThing icNoPlace tyNoPlace iNoThingNoPlace
    iNoThing_NoThing := kit_self
    iNoThing_NoAsk := kit_other sNoThingNoThing icNoAsk tyNoAsk iNoThingNoAsk
    rNoField1 := r1NoField
    rNoField2 := r2NoField
    eNoField := ⟨icNoField, e2NoField, e3NoField, r1NoField, e4NoField, sp0, tk0, e5NoField⟩
    mNoField := exm_own bOE icOrderError tyOrderError s0NoField
    iNoField_VE := kit_ve iVNoField
    iNoField_NoNumber := kit_other sNoFieldNoField icNoNumber tyNoNumber iNoFieldNoNumber
    iNoField_NoOrder := kit_other sNoFieldNoField icNoOrder tyNoOrder iNoFieldNoOrder
    iNoField_NoField := kit_self
    iNoField_NoRow := kit_other sNoFieldNoField icNoRow tyNoRow iNoFieldNoRow
    iNoField_Clash := kit_other sNoFieldNoField icClash tyClash iNoFieldClash
    iNoField_NoNet := kit_other sNoFieldNoField icNoNet tyNoNet iNoFieldNoNet
    iNoField_NoPlace := kit_other sNoFieldNoField icNoPlace tyNoPlace iNoFieldNoPlace
    iNoField_NoThing := kit_other sNoFieldNoField icNoThing tyNoThing iNoFieldNoThing
    iNoField_NoAsk := kit_other sNoFieldNoField icNoAsk tyNoAsk iNoFieldNoAsk
    oNoField := ⟨⟨nmF, qF, NF, bsF, bmF, snF, subF, abF, colF, ddF, m0, m1, m2, m3, m5, xNF, bNF⟩, sNF, r1NoField, r2NoField, kcNF⟩
    inNoField := a0
    tyNoField := tNF
    hdNoField := hNF
    noWord := wNF
    spOE := spOE
    rdOE := rdOE
    inOE := inOE
  }, rfl, fun s v => .of_eq rfl⟩

theorem law_end {l : PySem.W.OpenLaw} {w : World} {K : PySem.W.Frag} {h : Heap} {mg : Str → Option Value} {fa : Addr} (X : K.In h)
    (E : ∃ T : Env K mg, fa = T.f_law ∧ (∀ (s : Shared) (v : Value), BindsTo s T.fd_law ⟨[v], []⟩ [("script", v)])) :
    ∃ fd : FuncData, (∀ (s : Shared) (v : Value), BindsTo s fd ⟨[v], []⟩ [("script", v)]) ∧ ∀ base : Heap, K.In base → base.Ns mainGlobals mg → FnOk l.prog w K mg base CX0 100 fa fd ["script"] (spLaw K) := by
  obtain ⟨T, rfl, hb⟩ := E
  exact ⟨T.fd_law, hb, fun base _ _ => (ok_law T).mono (by decide)⟩
theorem walk {l : PySem.W.OpenLaw} {q : Program} {loose : List Str} {XP : (Str → Option Value) → Heap → Prop} {YP : World → Heap → Prop} {d : DefRec} {K : Params → PySem.W.Frag} (hn : l.most = some 63) (hdf : d.params.defaults = [])
    (hY : ∀ (w : World) (h : Heap), YP w h → (K w.params).In h)
    (F : ∀ (w : World) (mg : Str → Option Value) (fa : Addr) (h : Heap), (K w.params).In h → h.Ns mainGlobals mg → mg d.name = some (.ref fa) →
      ∃ fd : FuncData, (∀ (s : Shared) (u : Value), BindsTo s fd ⟨[u], []⟩ [("script", u)]) ∧ ∀ base : Heap, (K w.params).In base → base.Ns mainGlobals mg → FnOk l.prog w (K w.params) mg base CX0 100 fa fd ["script"] (spLaw (K w.params))) :
    PySem.W.WalkO q loose XP YP l.row.toRowW d [] (fun f vs => PySem.call f vs) :=
  L2.walk_of (n := 63) (k := 100) (x := "script") (CX := fun _ => CX0) (sp := fun w => spLaw (K w.params)) hn (by decide) hdf ⟨rfl, by decide, by decide⟩ hY F (fun _ _ a ns hl _ hS => ⟨a, ns, rfl, hS, hl, fun _ => rfl⟩) fun _ _ _ _ _ z => z
end K67
open PySem PySem.W PyProof.Rows
set_option maxRecDepth 100000 in
set_option maxHeartbeats 0 in
theorem PySem.Challenge.cw_ordertext_k67_shelf_refused_and_between_holds : PySem.Challenge.rw_ordertext_k67_shelf_refused_and_between.Holds :=
  head (by
  k_fill
  refine K67.walk (l := PySem.Challenge.rw_ordertext_k67_shelf_refused_and_between) rfl rfl (fun w h Y => PySem.W.kIn_of Y) ?F
  case F =>
    intro w mg fa h KX G hmg
    refine' K67.law_end KX (K67.env_mk KX G hmg ?aCLook ?aCShelf ?aCOrderError ?aCNoNumber ?aCNoOrder ?aCNoField ?aCNoRow ?aCClash ?aCNoNet ?aCNoPlace ?aCNoThing ?aCNoAsk ?a0 ?l0 ?c0 ?k0 ?a1 ?l1 ?c1 ?k1 ?a2 ?i2 ?l2 ?c2 ?k2 ?a3 ?i3 ?l3 ?c3 ?k3 ?a4 ?i4 ?l4 ?c4 ?k4 ?a5 ?i5 ?l5 ?c5 ?k5 ?a6 ?i6 ?l6 ?c6 ?k6 ?a7 ?i7 ?l7 ?c7 ?k7 ?a8 ?l8 ?c8 ?k8 ?a9 ?l9 ?c9 ?k9 ?a10 ?i10 ?l10 ?c10 ?k10 ?a11 ?i11 ?l11 ?c11 ?k11 ?a12 ?i12 ?l12 ?c12 ?k12 ?a13 ?i13 ?l13 ?c13 ?k13 ?a14 ?i14 ?l14 ?c14 ?k14 ?a15 ?i15 ?l15 ?c15 ?k15 ?a16 ?i16 ?l16 ?c16 ?k16 ?a17 ?i17 ?l17 ?c17 ?k17 ?a18 ?i18 ?l18 ?c18 ?k18 ?a19 ?i19 ?l19 ?c19 ?k19 ?a20 ?l20 ?c20 ?k20 ?a21 ?l21 ?c21 ?k21 ?a22 ?l22 ?c22 ?k22 ?a23 ?l23 ?c23 ?k23 ?a24 ?l24 ?c24 ?k24 ?a25 ?l25 ?c25 ?k25 ?a26 ?l26 ?c26 ?k26 ?a27 ?l27 ?c27 ?k27 ?a28 ?l28 ?c28 ?k28 ?a29 ?l29 ?c29 ?k29 ?a30 ?l30 ?c30 ?k30 ?a31 ?l31 ?c31 ?k31 ?a32 ?l32 ?c32 ?k32 ?a33 ?l33 ?c33 ?k33 ?a34 ?l34 ?c34 ?k34 ?a35 ?l35 ?c35 ?k35 ?a36 ?l36 ?c36 ?k36 ?a37 ?l37 ?c37 ?k37 ?a38 ?l38 ?c38 ?k38 ?a39 ?l39 ?c39 ?k39 ?a40 ?l40 ?c40 ?k40 ?a41 ?l41 ?c41 ?k41 ?a42 ?l42 ?c42 ?k42 ?pgLook ?hdLook ?poLook ?saLook ?mkLook ?kcLook ?nLookorder ?nLookbook ?nLookthings ?nLookgone ?pgShelf ?hdShelf ?poShelf ?saShelf ?mkShelf ?kcShelf ?nShelforders ?nShelfbook ?nShelfthings ?nShelfgiven ?nShelflists ?zlen ?zmax ?zmin ?zsorted ?zall ?zany ?zisinstance ?zrange ?zint ?zlist ?ztuple ?zValueError ?aTo ?lTo ?kTo ?tA ?tL ?tB ?xNT ?kNT ?r1NoThing ?r2NoThing ?sNoThingNoThing ?s0NoThing ?e2NoThing ?e3NoThing ?e4NoThing ?e5NoThing ?iVNoThing ?iNoThingNoNumber ?iNoThingNoOrder ?iNoThingNoField ?iNoThingNoRow ?iNoThingClash ?iNoThingNoNet ?iNoThingNoPlace ?iNoThingNoAsk ?r1NoField ?r2NoField ?sNoFieldNoField ?s0NoField ?e2NoField ?e3NoField ?e4NoField ?e5NoField ?iVNoField ?iNoFieldNoNumber ?iNoFieldNoOrder ?iNoFieldNoRow ?iNoFieldClash ?iNoFieldNoNet ?iNoFieldNoPlace ?iNoFieldNoThing ?iNoFieldNoAsk ?icOrderError ?tyOrderError ?icNoNumber ?tyNoNumber ?icNoOrder ?tyNoOrder ?icNoField ?tyNoField ?icNoRow ?tyNoRow ?icClash ?tyClash ?icNoNet ?tyNoNet ?icNoPlace ?tyNoPlace ?icNoThing ?tyNoThing ?icNoAsk ?tyNoAsk ?bOE ?sp0 ?tk0 ?xNF ?bNF ?sNF ?tNF ?kcNF ?hNF ?wNF ?spOE ?rdOE ?inOE)
    (case aCLook => k_is)
    (case aCShelf => k_is)
    (case aCOrderError => k_is)
    (case aCNoNumber => k_is)
    (case aCNoOrder => k_is)
    (case aCNoField => k_is)
    (case aCNoRow => k_is)
    (case aCClash => k_is)
    (case aCNoNet => k_is)
    (case aCNoPlace => k_is)
    (case aCNoThing => k_is)
    (case aCNoAsk => k_is)
    (case a0 => k_is)
    (case l0 => k_is)
    (case c0 => k_is)
    (case k0 => k_is)
    (case a1 => k_is)
    (case l1 => k_is)
    (case c1 => k_is)
    (case k1 => k_is)
    (case a2 => k_is)
    (case i2 => k_is)
    (case l2 => k_is)
    (case c2 => k_is)
    (case k2 => k_is)
    (case a3 => k_is)
    (case i3 => k_is)
    (case l3 => k_is)
    (case c3 => k_is)
    (case k3 => k_is)
    (case a4 => k_is)
    (case i4 => k_is)
    (case l4 => k_is)
    (case c4 => k_is)
    (case k4 => k_is)
    (case a5 => k_is)
    (case i5 => k_is)
    (case l5 => k_is)
    (case c5 => k_is)
    (case k5 => k_is)
    (case a6 => k_is)
    (case i6 => k_is)
    (case l6 => k_is)
    (case c6 => k_is)
    (case k6 => k_is)
    (case a7 => k_is)
    (case i7 => k_is)
    (case l7 => k_is)
    (case c7 => k_is)
    (case k7 => k_is)
    (case a8 => k_is)
    (case l8 => k_is)
    (case c8 => k_is)
    (case k8 => k_is)
    (case a9 => k_is)
    (case l9 => k_is)
    (case c9 => k_is)
    (case k9 => k_is)
    (case a10 => k_is)
    (case i10 => k_is)
    (case l10 => k_is)
    (case c10 => k_is)
    (case k10 => k_is)
    (case a11 => k_is)
    (case i11 => k_is)
    (case l11 => k_is)
    (case c11 => k_is)
    (case k11 => k_is)
    (case a12 => k_is)
    (case i12 => k_is)
    (case l12 => k_is)
    (case c12 => k_is)
    (case k12 => k_is)
    (case a13 => k_is)
    (case i13 => k_is)
    (case l13 => k_is)
    (case c13 => k_is)
    (case k13 => k_is)
    (case a14 => k_is)
    (case i14 => k_is)
    (case l14 => k_is)
    (case c14 => k_is)
    (case k14 => k_is)
    (case a15 => k_is)
    (case i15 => k_is)
    (case l15 => k_is)
    (case c15 => k_is)
    (case k15 => k_is)
    (case a16 => k_is)
    (case i16 => k_is)
    (case l16 => k_is)
    (case c16 => k_is)
    (case k16 => k_is)
    (case a17 => k_is)
    (case i17 => k_is)
    (case l17 => k_is)
    (case c17 => k_is)
    (case k17 => k_is)
    (case a18 => k_is)
    (case i18 => k_is)
    (case l18 => k_is)
    (case c18 => k_is)
    (case k18 => k_is)
    (case a19 => k_is)
    (case i19 => k_is)
    (case l19 => k_is)
    (case c19 => k_is)
    (case k19 => k_is)
    (case a20 => k_is)
    (case l20 => k_is)
    (case c20 => k_is)
    (case k20 => k_is)
    (case a21 => k_is)
    (case l21 => k_is)
    (case c21 => k_is)
    (case k21 => k_is)
    (case a22 => k_is)
    (case l22 => k_is)
    (case c22 => k_is)
    (case k22 => k_is)
    (case a23 => k_is)
    (case l23 => k_is)
    (case c23 => k_is)
    (case k23 => k_is)
    (case a24 => k_is)
    (case l24 => k_is)
    (case c24 => k_is)
    (case k24 => k_is)
    (case a25 => k_is)
    (case l25 => k_is)
    (case c25 => k_is)
    (case k25 => k_is)
    (case a26 => k_is)
    (case l26 => k_is)
    (case c26 => k_is)
    (case k26 => k_is)
    (case a27 => k_is)
    (case l27 => k_is)
    (case c27 => k_is)
    (case k27 => k_is)
    (case a28 => k_is)
    (case l28 => k_is)
    (case c28 => k_is)
    (case k28 => k_is)
    (case a29 => k_is)
    (case l29 => k_is)
    (case c29 => k_is)
    (case k29 => k_is)
    (case a30 => k_is)
    (case l30 => k_is)
    (case c30 => k_is)
    (case k30 => k_is)
    (case a31 => k_is)
    (case l31 => k_is)
    (case c31 => k_is)
    (case k31 => k_is)
    (case a32 => k_is)
    (case l32 => k_is)
    (case c32 => k_is)
    (case k32 => k_is)
    (case a33 => k_is)
    (case l33 => k_is)
    (case c33 => k_is)
    (case k33 => k_is)
    (case a34 => k_is)
    (case l34 => k_is)
    (case c34 => k_is)
    (case k34 => k_is)
    (case a35 => k_is)
    (case l35 => k_is)
    (case c35 => k_is)
    (case k35 => k_is)
    (case a36 => k_is)
    (case l36 => k_is)
    (case c36 => k_is)
    (case k36 => k_is)
    (case a37 => k_is)
    (case l37 => k_is)
    (case c37 => k_is)
    (case k37 => k_is)
    (case a38 => k_is)
    (case l38 => k_is)
    (case c38 => k_is)
    (case k38 => k_is)
    (case a39 => k_is)
    (case l39 => k_is)
    (case c39 => k_is)
    (case k39 => k_is)
    (case a40 => k_is)
    (case l40 => k_is)
    (case c40 => k_is)
    (case k40 => k_is)
    (case a41 => k_is)
    (case l41 => k_is)
    (case c41 => k_is)
    (case k41 => k_is)
    (case a42 => k_is)
    (case l42 => k_is)
    (case c42 => k_is)
    (case k42 => k_is)
    (case pgLook => k_is)
    (case hdLook => k_is)
    (case poLook => k_is)
    (case saLook => k_is)
    (case mkLook => k_is)
    (case kcLook => k_is)
    (case nLookorder => k_is)
    (case nLookbook => k_is)
    (case nLookthings => k_is)
    (case nLookgone => k_is)
    (case pgShelf => k_is)
    (case hdShelf => k_is)
    (case poShelf => k_is)
    (case saShelf => k_is)
    (case mkShelf => k_is)
    (case kcShelf => k_is)
    (case nShelforders => k_is)
    (case nShelfbook => k_is)
    (case nShelfthings => k_is)
    (case nShelfgiven => k_is)
    (case nShelflists => k_is)
    (case zlen => k_is)
    (case zmax => k_is)
    (case zmin => k_is)
    (case zsorted => k_is)
    (case zall => k_is)
    (case zany => k_is)
    (case zisinstance => k_is)
    (case zrange => k_is)
    (case zint => k_is)
    (case zlist => k_is)
    (case ztuple => k_is)
    (case zValueError => k_is)
    (case aTo => k_is)
    (case lTo => k_is)
    (case kTo => decide +kernel)
    (case tA => rfl)
    (case tL => rfl)
    (case tB => rfl)
    (case xNT => k_exc)
    (case kNT => k_is)
    (case r1NoThing => k_is)
    (case r2NoThing => k_is)
    (case sNoThingNoThing => first | rfl | k_is)
    (case s0NoThing => k_is)
    (case e2NoThing => k_is)
    (case e3NoThing => k_is)
    (case e4NoThing => k_is)
    (case e5NoThing => k_is)
    (case iVNoThing => k_is)
    (case iNoThingNoNumber => k_is)
    (case iNoThingNoOrder => k_is)
    (case iNoThingNoField => k_is)
    (case iNoThingNoRow => k_is)
    (case iNoThingClash => k_is)
    (case iNoThingNoNet => k_is)
    (case iNoThingNoPlace => k_is)
    (case iNoThingNoAsk => k_is)
    (case r1NoField => k_is)
    (case r2NoField => k_is)
    (case sNoFieldNoField => first | rfl | k_is)
    (case s0NoField => k_is)
    (case e2NoField => k_is)
    (case e3NoField => k_is)
    (case e4NoField => k_is)
    (case e5NoField => k_is)
    (case iVNoField => k_is)
    (case iNoFieldNoNumber => k_is)
    (case iNoFieldNoOrder => k_is)
    (case iNoFieldNoRow => k_is)
    (case iNoFieldClash => k_is)
    (case iNoFieldNoNet => k_is)
    (case iNoFieldNoPlace => k_is)
    (case iNoFieldNoThing => k_is)
    (case iNoFieldNoAsk => k_is)
    (case icOrderError => k_is)
    (case tyOrderError => k_is)
    (case icNoNumber => k_is)
    (case tyNoNumber => k_is)
    (case icNoOrder => k_is)
    (case tyNoOrder => k_is)
    (case icNoField => k_is)
    (case tyNoField => k_is)
    (case icNoRow => k_is)
    (case tyNoRow => k_is)
    (case icClash => k_is)
    (case tyClash => k_is)
    (case icNoNet => k_is)
    (case tyNoNet => k_is)
    (case icNoPlace => k_is)
    (case tyNoPlace => k_is)
    (case icNoThing => k_is)
    (case tyNoThing => k_is)
    (case icNoAsk => k_is)
    (case tyNoAsk => k_is)
    (case bOE => k_is)
    (case sp0 => k_is)
    (case tk0 => k_is)
    (case xNF => k_is)
    (case bNF => decide +kernel)
    (case sNF => k_is)
    (case tNF => k_is)
    (case kcNF => k_is)
    (case hNF => k_is)
    (case wNF => k_is)
    (case spOE => k_is)
    (case rdOE => k_is)
    (case inOE => k_is))
