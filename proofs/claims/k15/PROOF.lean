import PyProof.Rows.All
import Wide.All
import OpenK.AllK
import Wide.FinOn
import KE.RegKIsAll
import HandS.Evl
import HandS.ForMost
import HandS.ForExc
import HandS.ExcIs
import HandS.Wide
import HandS.IsInst
import HandS.Style
import HandS.More
import HandS.Flow
import HandS.SortKw
import HandS.Zip
import PySem.Challenge.RW_twistbrackets_k15_each_refusal_its_own
import KE.DataMinMax
import KE.SortKeyHeap
import HandS.DictComp
import HandS.Strs
import HandS.SetFor
import HandS.Text
set_option Elab.async false
set_option linter.all false
set_option maxRecDepth 100000
set_option maxHeartbeats 4000000
/-! ## TbLex -/
/-! Words (lists of codes) in dictionary order; plain words; the cut; merges of two words. -/
namespace TB
abbrev W := List Nat
def lx : W → W → Bool
  | [], [] => false
  | [], _ :: _ => true
  | _ :: _, [] => false
  | a :: x, b :: y => if a < b then true else if b < a then false else lx x y
theorem lx_iff : ∀ x y : W, (x < y) ↔ lx x y = true
  | [], [] => by
    constructor
    · intro h; exact absurd h (List.not_lt_nil _)
    · intro h; cases h
  | [], b :: y => ⟨fun _ => rfl, fun _ => List.nil_lt_cons _ _⟩
  | a :: x, [] => by
    constructor
    · intro h; exact absurd h (List.not_lt_nil _)
    · intro h; cases h
  | a :: x, b :: y => by
    rw [List.cons_lt_cons_iff, lx_iff x y]
    show _ ↔ (if a < b then true else if b < a then false else lx x y) = true
    by_cases h1 : a < b
    · rw [if_pos h1]; exact ⟨fun _ => rfl, fun _ => .inl h1⟩
    · rw [if_neg h1]
      by_cases h2 : b < a
      · rw [if_pos h2]
        constructor
        · rintro (h | ⟨h, _⟩)
          · exact absurd h h1
          · omega
        · intro h; cases h
      · rw [if_neg h2]
        constructor
        · rintro (h | ⟨_, h⟩)
          · exact absurd h h1
          · exact h
        · intro h; exact .inr ⟨by omega, h⟩
theorem lx_dec (x y : W) [d : Decidable (x < y)] : decide (x < y) = lx x y := by
  cases h : lx x y with
  | true => exact decide_eq_true ((lx_iff x y).mpr h)
  | false => exact decide_eq_false fun q => by rw [(lx_iff x y).mp q] at h; cases h
theorem lx_cons (a b : Nat) (x y : W) : lx (a :: x) (b :: y) = if a < b then true else if b < a then false else lx x y := rfl
theorem lx_same (a : Nat) (x y : W) : lx (a :: x) (a :: y) = lx x y := by
  rw [lx_cons, if_neg (Nat.lt_irrefl a), if_neg (Nat.lt_irrefl a)]
theorem lx_irr : ∀ x : W, lx x x = false
  | [] => rfl
  | a :: x => by rw [lx_same]; exact lx_irr x
theorem lx_nil_r (x : W) : lx x [] = false := by cases x <;> rfl
theorem lx_nil_l {x : W} (h : x ≠ []) : lx [] x = true := by
  cases x with
  | nil => exact absurd rfl h
  | cons a x => rfl
theorem lx_cons_iff {a b : Nat} {x y : W} : lx (a :: x) (b :: y) = true ↔ a < b ∨ (a = b ∧ lx x y = true) := by
  rw [lx_cons]
  by_cases h1 : a < b
  · rw [if_pos h1]; exact ⟨fun _ => .inl h1, fun _ => rfl⟩
  · rw [if_neg h1]
    by_cases h2 : b < a
    · rw [if_pos h2]
      exact ⟨fun h => (by cases h), fun h => by omega⟩
    · rw [if_neg h2]
      refine ⟨fun h => .inr ⟨by omega, h⟩, fun h => ?_⟩
      rcases h with h | h
      · exact absurd h h1
      · exact h.2
theorem lx_trans : ∀ {x y z : W}, lx x y = true → lx y z = true → lx x z = true
  | [], [], _, h, _ => by cases h
  | _ :: _, [], _, h, _ => by cases h
  | _, _ :: _, [], _, h => by cases h
  | [], _ :: _, _ :: _, _, _ => rfl
  | a :: x, b :: y, c :: z, h1, h2 => by
    rw [lx_cons_iff] at h1 h2 ⊢
    rcases h1 with h1 | ⟨h1, k1⟩
    · rcases h2 with h2 | ⟨h2, k2⟩
      · exact .inl (by omega)
      · exact .inl (by omega)
    · rcases h2 with h2 | ⟨h2, k2⟩
      · exact .inl (by omega)
      · exact .inr ⟨by omega, lx_trans k1 k2⟩
theorem lx_asymm {x y : W} (h : lx x y = true) : lx y x = false := by
  cases q : lx y x with
  | false => rfl
  | true =>
    have := lx_trans h q
    rw [lx_irr] at this
    cases this
theorem lx_tri : ∀ x y : W, lx x y = true ∨ x = y ∨ lx y x = true
  | [], [] => .inr (.inl rfl)
  | [], _ :: _ => .inl rfl
  | _ :: _, [] => .inr (.inr rfl)
  | a :: x, b :: y => by
    rcases Nat.lt_trichotomy a b with h | h | h
    · exact .inl (lx_cons_iff.mpr (.inl h))
    · subst h
      rcases lx_tri x y with h | h | h
      · exact .inl (by rw [lx_same]; exact h)
      · exact .inr (.inl (by rw [h]))
      · exact .inr (.inr (by rw [lx_same]; exact h))
    · exact .inr (.inr (lx_cons_iff.mpr (.inl h)))
/-- x at most y -/
def le (x y : W) : Prop := lx y x = false
theorem le_of_lx {x y : W} (h : lx x y = true) : le x y := lx_asymm h
theorem le_refl (x : W) : le x x := lx_irr x
theorem le_cases {x y : W} (h : le x y) : x = y ∨ lx x y = true := by
  rcases lx_tri x y with q | q | q
  · exact .inr q
  · exact .inl q
  · rw [show lx y x = false from h] at q; cases q
theorem le_or (x y : W) : le x y ∨ lx y x = true := by
  cases h : lx y x with
  | true => exact .inr rfl
  | false => exact .inl h
theorem le_trans {x y z : W} (h1 : le x y) (h2 : le y z) : le x z := by
  rcases le_cases h1 with rfl | h1
  · exact h2
  · rcases le_cases h2 with rfl | h2
    · exact le_of_lx h1
    · exact le_of_lx (lx_trans h1 h2)
theorem lx_of_le {x y z : W} (h1 : le x y) (h2 : lx y z = true) : lx x z = true := by
  rcases le_cases h1 with rfl | h1
  · exact h2
  · exact lx_trans h1 h2
theorem lx_le {x y z : W} (h1 : lx x y = true) (h2 : le y z) : lx x z = true := by
  rcases le_cases h2 with rfl | h2
  · exact h1
  · exact lx_trans h1 h2
theorem le_anti {x y : W} (h1 : le x y) (h2 : le y x) : x = y := by
  rcases le_cases h1 with h | h
  · exact h
  · rw [show lx x y = false from h2] at h; cases h
theorem lx_pre (p : W) (x y : W) : lx (p ++ x) (p ++ y) = lx x y := by
  induction p with
  | nil => rfl
  | cons a p ih => rw [List.cons_append, List.cons_append, lx_same, ih]
theorem le_pre {p x y : W} : le (p ++ x) (p ++ y) ↔ le x y := by unfold le; rw [lx_pre]
theorem lx_ext {x y : W} (h : y ≠ []) : lx x (x ++ y) = true := by
  have e := lx_pre x [] y
  rw [List.append_nil] at e
  rw [e]
  exact lx_nil_l h
/-- of one length: what stands behind makes no difference -/
theorem lx_len : ∀ {x y : W} (u v : W), x.length = y.length → lx x y = true → lx (x ++ u) (y ++ v) = true
  | [], [], _, _, _, h => by cases h
  | [], _ :: _, _, _, e, _ => by cases e
  | _ :: _, [], _, _, e, _ => by cases e
  | a :: x, b :: y, u, v, e, h => by
    rw [List.cons_append, List.cons_append]
    rw [lx_cons_iff] at h ⊢
    rcases h with h | ⟨h, k⟩
    · exact .inl h
    · exact .inr ⟨h, lx_len u v (by simpa using e) k⟩
/-- x before y: they differ at a place, or x is a front of y -/
theorem lx_split : ∀ {x y : W}, lx x y = true → (∀ u v, lx (x ++ u) (y ++ v) = true) ∨ ∃ t, t ≠ [] ∧ y = x ++ t
  | [], [], h => by cases h
  | [], b :: y, _ => .inr ⟨b :: y, by simp, rfl⟩
  | _ :: _, [], h => by cases h
  | a :: x, b :: y, h => by
    rw [lx_cons_iff] at h
    rcases h with h | ⟨rfl, h⟩
    · exact .inl fun u v => lx_cons_iff.mpr (.inl h)
    · rcases lx_split h with q | ⟨t, ht, q⟩
      · exact .inl fun u v => by rw [List.cons_append, List.cons_append, lx_same]; exact q u v
      · exact .inr ⟨t, ht, by rw [q]; rfl⟩
/-! ### plain words -/
/-- as the program looks: ahead of each proper end -/
def plain (w : W) : Bool := !w.isEmpty && (List.range' 1 (w.length - 1)).all fun k => lx w (w.drop k)
/-- as the laws look: ahead of each proper turn -/
def turn (w : W) (k : Nat) : W := w.drop k ++ w.take k
def rplain (w : W) : Bool := !w.isEmpty && (List.range' 1 (w.length - 1)).all fun k => lx w (turn w k)
def Pl (w : W) : Prop := w ≠ [] ∧ ∀ k, 0 < k → k < w.length → lx w (w.drop k) = true
theorem plain_iff {w : W} : plain w = true ↔ Pl w := by
  unfold plain Pl
  rw [Bool.and_eq_true, List.all_eq_true]
  constructor
  · rintro ⟨h1, h2⟩
    refine ⟨(by intro e; rw [e] at h1; cases h1), fun k h0 hk => h2 k ?_⟩
    rw [List.mem_range'_1]; omega
  · rintro ⟨h1, h2⟩
    refine ⟨?_, fun k hk => ?_⟩
    · cases w with
      | nil => exact absurd rfl h1
      | cons _ _ => rfl
    · rw [List.mem_range'_1] at hk
      exact h2 k (by omega) (by omega)
theorem rplain_iff {w : W} : rplain w = true ↔ w ≠ [] ∧ ∀ k, 0 < k → k < w.length → lx w (turn w k) = true := by
  unfold rplain
  rw [Bool.and_eq_true, List.all_eq_true]
  constructor
  · rintro ⟨h1, h2⟩
    refine ⟨(by intro e; rw [e] at h1; cases h1), fun k h0 hk => h2 k ?_⟩
    rw [List.mem_range'_1]; omega
  · rintro ⟨h1, h2⟩
    refine ⟨?_, fun k hk => ?_⟩
    · cases w with
      | nil => exact absurd rfl h1
      | cons _ _ => rfl
    · rw [List.mem_range'_1] at hk
      exact h2 k (by omega) (by omega)
theorem Pl.ends {u v : W} (h : Pl (u ++ v)) (hu : u ≠ []) (hv : v ≠ []) : lx (u ++ v) v = true := by
  have q := h.2 u.length (List.length_pos_iff.mpr hu) (by rw [List.length_append]; have := List.length_pos_iff.mpr hv; omega)
  rwa [List.drop_left] at q
theorem Pl.of {w : W} (h0 : w ≠ []) (h : ∀ u v, u ≠ [] → v ≠ [] → w = u ++ v → lx w v = true) : Pl w := by
  refine ⟨h0, fun k h1 h2 => h (w.take k) (w.drop k) ?_ ?_ (List.take_append_drop k w).symm⟩
  · intro e
    have := congrArg List.length e
    rw [List.length_take] at this
    simp only [List.length_nil] at this
    omega
  · intro e
    have := congrArg List.length e
    rw [List.length_drop] at this
    simp only [List.length_nil] at this
    omega
theorem Pl.turns {u v : W} (h : Pl (u ++ v)) (hu : u ≠ []) (hv : v ≠ []) : lx (u ++ v) (v ++ u) = true := by
  have q := h.ends hu hv
  rcases lx_split q with z | ⟨t, _, z⟩
  · have := z [] u
    rwa [List.append_nil] at this
  · exfalso
    have e := congrArg List.length z
    have := List.length_pos_iff.mpr hu
    rw [List.length_append, List.length_append] at e
    omega
theorem plain_turn (w : W) : rplain w = plain w := by
  have key : rplain w = true ↔ plain w = true := by
    rw [rplain_iff, plain_iff]
    constructor
    · rintro ⟨h0, h⟩
      refine .of h0 fun u v hu hv e => ?_
      have hw : lx w (v ++ u) = true := by
        have := h u.length (List.length_pos_iff.mpr hu) (by rw [e, List.length_append]; have := List.length_pos_iff.mpr hv; omega)
        unfold turn at this
        rw [e, List.drop_left, List.take_left] at this
        rw [e]; exact this
      rcases lx_tri w v with q | q | q
      · exact q
      · exfalso
        have e2 := congrArg List.length (q.symm.trans e)
        have := List.length_pos_iff.mpr hu
        rw [List.length_append] at e2
        omega
      · exfalso
        rcases lx_split q with z | ⟨t, ht, z⟩
        · have := z u []
          rw [List.append_nil] at this
          have := lx_trans hw this
          rw [lx_irr] at this; cases this
        · -- w = v ++ t = u ++ v
          rw [z, lx_pre] at hw
          have lt : t.length = u.length := by
            have e2 := congrArg List.length (z.symm.trans e)
            rw [List.length_append, List.length_append] at e2
            omega
          have hr := h v.length (List.length_pos_iff.mpr hv) (by rw [z, List.length_append]; have := List.length_pos_iff.mpr ht; omega)
          unfold turn at hr
          rw [z, List.drop_left, List.take_left, ← z, e] at hr
          have := lx_len v v lt hw
          have := lx_trans this hr
          rw [lx_irr] at this; cases this
    · intro h
      refine ⟨h.1, fun k h0 hk => ?_⟩
      have hu : w.take k ≠ [] := by intro e; have := congrArg List.length e; rw [List.length_take] at this; simp only [List.length_nil] at this; omega
      have hv : w.drop k ≠ [] := by intro e; have := congrArg List.length e; rw [List.length_drop] at this; simp only [List.length_nil] at this; omega
      have h' : Pl (w.take k ++ w.drop k) := by rw [List.take_append_drop]; exact h
      have := h'.turns hu hv
      rw [List.take_append_drop] at this
      exact this
  cases h1 : rplain w <;> cases h2 : plain w <;> simp_all
theorem pl_one (a : Nat) : Pl [a] := ⟨by simp, fun k h0 h => by simp at h; omega⟩
theorem plain_one (a : Nat) : plain [a] = true := rfl
theorem plain_nil : plain [] = false := rfl
/-! ### the cut -/
/-- the first place from k on, in n places, whose end is plain -/
def seek (w : W) : Nat → Nat → Nat
  | k, 0 => k
  | k, n + 1 => if plain (w.drop k) = true then k else seek w (k + 1) n
def cutAt (w : W) : Nat := seek w 1 (w.length - 1)
theorem seek_spec (w : W) : ∀ (n k : Nat), k + n = w.length → 0 < n → k ≤ seek w k n ∧ seek w k n < w.length ∧ plain (w.drop (seek w k n)) = true ∧ ∀ j, k ≤ j → j < seek w k n → plain (w.drop j) = false
  | 0, k, _, h => absurd h (Nat.lt_irrefl 0)
  | n + 1, k, e, _ => by
    unfold seek
    by_cases hp : plain (w.drop k) = true
    · rw [if_pos hp]
      exact ⟨Nat.le_refl _, by omega, hp, fun j h1 h2 => by omega⟩
    · rw [if_neg hp]
      by_cases hn : n = 0
      · exfalso
        subst hn
        apply hp
        have hl : (w.drop k).length = 1 := by rw [List.length_drop]; omega
        match w.drop k, hl with
        | [a], _ => rfl
      · obtain ⟨h1, h2, h3, h4⟩ := seek_spec w n (k + 1) (by omega) (by omega)
        refine ⟨by omega, h2, h3, fun j hj hj2 => ?_⟩
        by_cases hjk : j = k
        · subst hjk
          cases q : plain (w.drop j) with
          | true => exact absurd q hp
          | false => rfl
        · exact h4 j (by omega) hj2
structure Cut (w : W) (k : Nat) : Prop where
  pos : 0 < k
  lt : k < w.length
  pl : plain (w.drop k) = true
  min : ∀ j, 0 < j → j < k → plain (w.drop j) = false
theorem cutAt_ok {w : W} (h : 2 ≤ w.length) : Cut w (cutAt w) := by
  obtain ⟨h1, h2, h3, h4⟩ := seek_spec w (w.length - 1) 1 (by omega) (by omega)
  exact ⟨h1, h2, h3, fun j a b => h4 j a b⟩
theorem Cut.uniq {w : W} {k j : Nat} (a : Cut w k) (b : Cut w j) : k = j := by
  rcases Nat.lt_trichotomy k j with h | h | h
  · have := b.min k a.pos h; rw [a.pl] at this; cases this
  · exact h
  · have := a.min j b.pos h; rw [b.pl] at this; cases this
/-- what stands ahead of the cut is plain -/
theorem cut_front {w : W} {k : Nat} (hw : Pl w) (c : Cut w k) : Pl (w.take k) := by
  have ek : (w.take k).length = k := by rw [List.length_take]; have := c.lt; omega
  refine .of (by intro e; rw [e] at ek; have := c.pos; simp at ek; omega) fun u v hu hv e => ?_
  have lu := List.length_pos_iff.mpr hu
  have lv := List.length_pos_iff.mpr hv
  have euv : u.length + v.length = k := by rw [← List.length_append, ← e]; exact ek
  let m := w.drop k
  have hm0 : m ≠ [] := by intro z; have z' := congrArg List.length z; rw [List.length_drop] at z'; simp at z'; have := c.lt; omega
  have ew : w = (u ++ v) ++ m := by rw [← e]; exact (List.take_append_drop k w).symm
  have hmP : Pl m := plain_iff.mp c.pl
  -- v ++ m is not plain
  have np : plain (v ++ m) = false := by
    have q := c.min u.length lu (by omega)
    have ed : w.drop u.length = v ++ m := by
      conv => lhs; rw [ew, List.append_assoc]
      exact List.drop_left
    rwa [ed] at q
  -- so an end t of it is ahead of it
  have : ∃ a t, a ≠ [] ∧ t ≠ [] ∧ v ++ m = a ++ t ∧ lx t (v ++ m) = true := by
    apply Classical.byContradiction
    intro hno
    have : Pl (v ++ m) := .of (by simp [hv]) fun a t ha ht e2 => by
      rcases lx_tri (v ++ m) t with q | q | q
      · exact q
      · exfalso
        have := congrArg List.length (q.symm.trans e2)
        have := List.length_pos_iff.mpr ha
        rw [List.length_append] at *
        omega
      · exact absurd ⟨a, t, ha, ht, e2, q⟩ hno
    rw [plain_iff.mpr this] at np
    cases np
  obtain ⟨a, t, ha, ht, e2, q⟩ := this
  have la := List.length_pos_iff.mpr ha
  have lt := List.length_pos_iff.mpr ht
  have etl : v.length + m.length = a.length + t.length := by rw [← List.length_append, ← List.length_append, e2]
  -- t at most v
  have htv : le t v := by
    rcases le_or t v with z | z
    · exact z
    · exfalso
      rcases lx_split z with y | ⟨t', ht', y⟩
      · have := y m []
        rw [List.append_nil] at this
        have := lx_trans this q
        rw [lx_irr] at this; cases this
      · rw [y, lx_pre] at q
        -- t' an end of m
        have lt' : t.length = v.length + t'.length := by rw [y, List.length_append]
        have hd : t' = m.drop (m.length - t'.length) := by
          have e3 : (v ++ m).drop (a.length + v.length) = t' := by
            rw [e2, y, ← List.append_assoc]
            have : (a ++ v).length = a.length + v.length := List.length_append
            rw [← this]
            exact List.drop_left
          have e4 : (v ++ m).drop (a.length + v.length) = m.drop a.length := by
            rw [Nat.add_comm, ← List.drop_drop, List.drop_left]
          rw [e4] at e3
          have : m.length - t'.length = a.length := by omega
          rw [this]; exact e3.symm
        have lt2 := List.length_pos_iff.mpr ht'
        have := hmP.2 (m.length - t'.length) (by omega) (by omega)
        rw [← hd] at this
        have := lx_trans this q
        rw [lx_irr] at this; cases this
  -- w ahead of t
  have hwt : lx w t = true := by
    have e5 : w = (u ++ a) ++ t := by rw [ew, List.append_assoc, e2, ← List.append_assoc]
    have h' : Pl ((u ++ a) ++ t) := by rw [← e5]; exact hw
    have := h'.ends (by simp [hu]) ht
    rwa [← e5] at this
  rw [e]
  have hwv : lx w v = true := lx_le hwt htv
  have : lx (u ++ v) w = true := by rw [ew]; exact lx_ext hm0
  exact lx_trans this hwv
/-! ### merges -/
/-- z is a merge of x and y -/
inductive Mrg : W → W → W → Prop
  | nil : Mrg [] [] []
  | left {a : Nat} {x y z : W} : Mrg x y z → Mrg (a :: x) y (a :: z)
  | right {a : Nat} {x y z : W} : Mrg x y z → Mrg x (a :: y) (a :: z)
theorem Mrg.len {x y z : W} (h : Mrg x y z) : z.length = x.length + y.length := by
  induction h with
  | nil => rfl
  | left _ ih => simp only [List.length_cons, ih]; omega
  | right _ ih => simp only [List.length_cons, ih]; omega
theorem Mrg.nil_r {x z : W} : Mrg x [] z → z = x := by
  intro h
  generalize e : ([] : W) = y at h
  induction h with
  | nil => rfl
  | left h ih => rw [ih e]
  | right h _ => cases e
theorem Mrg.nil_l {y z : W} : Mrg [] y z → z = y := by
  intro h
  generalize e : ([] : W) = x at h
  induction h with
  | nil => rfl
  | left h _ => cases e
  | right h ih => rw [ih e]
/-- p at least q: a merge of s ++ p and q is no greater than some merge of p and s ++ q -/
theorem mrg_swap : ∀ (n : Nat) (s p q z : W), s.length + p.length + q.length = n → le q p → Mrg (s ++ p) q z → ∃ z', Mrg p (s ++ q) z' ∧ le z z' := by
  intro n
  induction n with
  | zero =>
    intro s p q z hn _ h
    have h1 : s = [] := List.eq_nil_of_length_eq_zero (by omega)
    have h2 : p = [] := List.eq_nil_of_length_eq_zero (by omega)
    have h3 : q = [] := List.eq_nil_of_length_eq_zero (by omega)
    subst h1; subst h2; subst h3
    exact ⟨z, h, le_refl z⟩
  | succ n ih =>
    intro s p q z hn hqp h
    cases s with
    | nil => exact ⟨z, h, le_refl z⟩
    | cons c s =>
      rw [List.cons_append] at h
      cases h with
      | left h =>
        obtain ⟨z', h1, h2⟩ := ih s p q _ (by simp only [List.length_cons] at hn; omega) hqp h
        exact ⟨c :: z', .right h1, by unfold le at h2 ⊢; rw [lx_same]; exact h2⟩
      | @right d _ q' z1 h =>
        -- q = d :: q', p at least q
        cases p with
        | nil => exact absurd (show lx [] (d :: q') = false from hqp) (by rw [lx_nil_l (by simp)]; decide)
        | cons e p' =>
          have hde : d ≤ e ∧ (d = e → le q' p') := by
            unfold le at hqp ⊢
            rw [lx_cons] at hqp
            by_cases h1 : e < d
            · rw [if_pos h1] at hqp; cases hqp
            · rw [if_neg h1] at hqp
              refine ⟨by omega, fun he => ?_⟩
              rw [if_neg (by omega)] at hqp
              exact hqp
          by_cases he : d = e
          · subst he
            -- d :: z1, z1 a merge of c :: (s ++ d :: p') and q'
            have h' : Mrg ((c :: s ++ [d]) ++ p') q' z1 := by
              have e1 : (c :: s ++ [d]) ++ p' = c :: (s ++ d :: p') := by simp
              rw [e1]; exact h
            obtain ⟨z', h1, h2⟩ := ih (c :: s ++ [d]) p' q' z1 (by simp only [List.length_cons, List.length_append, List.length_nil] at hn ⊢; omega) (hde.2 rfl) h'
            refine ⟨d :: z', ?_, by unfold le at h2 ⊢; rw [lx_same]; exact h2⟩
            have e2 : (c :: s ++ [d]) ++ q' = c :: s ++ d :: q' := by simp
            rw [e2] at h1
            exact .left h1
          · -- any merge that begins with e
            have hlt : d < e := by omega
            have : ∃ z', Mrg p' (c :: s ++ d :: q') z' := ⟨p' ++ (c :: s ++ d :: q'), by
              have mk : ∀ a b : W, Mrg a b (a ++ b) := fun a b => by
                induction a with
                | nil =>
                  induction b with
                  | nil => exact .nil
                  | cons x b ihb => exact .right ihb
                | cons x a iha => exact .left iha
              exact mk _ _⟩
            obtain ⟨z', hz⟩ := this
            exact ⟨e :: z', .left hz, by unfold le; rw [lx_cons, if_neg (by omega), if_pos hlt]⟩
theorem mrg_app (x y : W) : Mrg x y (x ++ y) := by
  induction x with
  | nil =>
    induction y with
    | nil => exact .nil
    | cons a y ih => exact .right ih
  | cons a x ih => exact .left ih
/-- every end of x at least y: x ++ y is the greatest merge -/
theorem mrg_max : ∀ (x y z : W), (∀ u v, x = u ++ v → v ≠ [] → le y v) → Mrg x y z → le z (x ++ y)
  | [], y, z, _, h => by rw [h.nil_l]; exact le_refl _
  | a :: x, y, z, he, h => by
    cases h with
    | left h =>
      have := mrg_max x y _ (fun u v e hv => he (a :: u) v (by rw [e]; rfl) hv) h
      unfold le at this ⊢
      rw [List.cons_append, lx_same]
      exact this
    | @right b _ y' z1 h =>
      have h0 := he [] (a :: x) rfl (by simp)
      by_cases hba : b = a
      · subst hba
        have hle : le y' x := by unfold le at h0 ⊢; rw [lx_same] at h0; exact h0
        obtain ⟨z', h1, h2⟩ := mrg_swap _ [b] x y' z1 rfl hle h
        have := mrg_max x (b :: y') z' (fun u v e hv => he (b :: u) v (by rw [e]; rfl) hv) h1
        unfold le at this h2 ⊢
        rw [List.cons_append, lx_same]
        exact le_trans h2 this
      · have hlt : b < a := by
          unfold le at h0
          rw [lx_cons] at h0
          by_cases q : a < b
          · rw [if_pos q] at h0; cases h0
          · omega
        unfold le
        rw [List.cons_append, lx_cons, if_neg (by omega), if_pos hlt]
/-- a word that is not plain is the greatest merge of two parts of it -/
theorem not_plain {w : W} (h0 : w ≠ []) (hp : plain w = false) : ∃ x y, x ≠ [] ∧ y ≠ [] ∧ w = x ++ y ∧ ∀ z, Mrg x y z → le z w := by
  -- the least end
  have least : ∀ n, ∀ w : W, w.length = n → w ≠ [] → ∃ x y, w = x ++ y ∧ y ≠ [] ∧ ∀ u v, w = u ++ v → v ≠ [] → le y v := by
    intro n
    induction n with
    | zero => intro w hl hw; exact absurd (List.eq_nil_of_length_eq_zero hl) hw
    | succ n ih =>
      intro w hl hw
      cases w with
      | nil => exact absurd rfl hw
      | cons a r =>
        by_cases hr : r = []
        · subst hr
          refine ⟨[], [a], rfl, by simp, fun u v e hv => ?_⟩
          cases u with
          | nil => rw [show v = [a] from e.symm]; exact le_refl _
          | cons b u =>
            have := congrArg List.length e
            have := List.length_pos_iff.mpr hv
            simp only [List.length_cons, List.length_append, List.length_nil] at *
            omega
        · obtain ⟨x, y, e, hy, h⟩ := ih r (by simpa using hl) hr
          rcases le_or y (a :: r) with q | q
          · refine ⟨a :: x, y, by rw [e]; rfl, hy, fun u v e2 hv => ?_⟩
            cases u with
            | nil => rw [show v = a :: r from e2.symm]; exact q
            | cons b u =>
              injection e2 with _ e3
              exact h u v e3 hv
          · refine ⟨[], a :: r, rfl, by simp, fun u v e2 hv => ?_⟩
            cases u with
            | nil => rw [show v = a :: r from e2.symm]; exact le_refl _
            | cons b u =>
              injection e2 with _ e3
              exact le_trans (le_of_lx q) (h u v e3 hv)
  obtain ⟨x, y, e, hy, h⟩ := least _ w rfl h0
  have hx : x ≠ [] := by
    rintro rfl
    have ewy : w = y := e
    have : Pl w := .of h0 fun u v hu hv e2 => by
      have q := h u v e2 hv
      rw [← ewy] at q
      rcases le_cases q with z | z
      · exfalso
        have e3 := congrArg List.length (z.symm.trans e2)
        have := List.length_pos_iff.mpr hu
        rw [List.length_append] at e3
        omega
      · exact z
    rw [plain_iff.mpr this] at hp
    cases hp
  refine ⟨x, y, hx, hy, e, fun z hz => ?_⟩
  rw [e]
  refine mrg_max x y z (fun u v ex hv => ?_) hz
  -- v an end of x: y at most v
  have hvy : le y (v ++ y) := h u (v ++ y) (by rw [e, ex, List.append_assoc]) (by simp [hv])
  rcases le_or y v with q | q
  · exact q
  · exfalso
    rcases lx_split q with k | ⟨t, ht, k⟩
    · have := k y []
      rw [List.append_nil] at this
      rw [show lx (v ++ y) y = false from hvy] at this
      cases this
    · -- y = v ++ t
      have hty : le y t := h (x ++ v) t (by rw [e]; conv => lhs; rw [k]
                                            rw [List.append_assoc]) ht
      have e6 : le (v ++ t) (v ++ y) := by rw [← k]; exact hvy
      rw [le_pre] at e6
      have := le_anti hty e6
      have e7 := congrArg List.length k
      have l1 := List.length_pos_iff.mpr hv
      rw [List.length_append] at e7
      have e8 : y.length = t.length := by rw [← this]
      omega
end TB
/-! ## TbPoly -/
/-! Sums of words; brackets as functionals; what a bracket's words keep: merges, the right-hand brackets; plain brackets. -/
namespace TB
/-- a bracket: a letter's code, or two brackets -/
inductive Br where
  | leaf (c : Nat)
  | node (l r : Br)
  deriving DecidableEq
def Br.wt : Br → Nat
  | .leaf _ => 1
  | .node l r => l.wt + r.wt
def Br.depth : Br → Nat
  | .leaf _ => 0
  | .node l r => max l.depth r.depth + 1
def Br.letters : Br → W
  | .leaf c => [c]
  | .node l r => l.letters ++ r.letters
theorem Br.wt_pos : ∀ t : Br, 0 < t.wt
  | .leaf _ => Nat.one_pos
  | .node l r => Nat.lt_of_lt_of_le l.wt_pos (Nat.le_add_right _ _)
theorem Br.letters_len : ∀ t : Br, t.letters.length = t.wt
  | .leaf _ => rfl
  | .node l r => by show (l.letters ++ r.letters).length = _; rw [List.length_append, l.letters_len, r.letters_len]; rfl
theorem Br.depth_lt : ∀ t : Br, t.depth < t.wt
  | .leaf _ => Nat.one_pos
  | .node l r => by
    have h1 := l.depth_lt
    have h2 := r.depth_lt
    show max l.depth r.depth + 1 < l.wt + r.wt
    have := l.wt_pos
    have := r.wt_pos
    rcases Nat.le_total l.depth r.depth with h | h
    · rw [Nat.max_eq_right h]; omega
    · rw [Nat.max_eq_left h]; omega
/-! ### a sum of words, its pairing with a function -/
abbrev P := List (W × Int)
def pr : P → (W → Int) → Int
  | [], _ => 0
  | (w, c) :: r, φ => c * φ w + pr r φ
theorem pr_nil (φ : W → Int) : pr [] φ = 0 := rfl
theorem pr_cons (w : W) (c : Int) (r : P) (φ : W → Int) : pr ((w, c) :: r) φ = c * φ w + pr r φ := rfl
theorem pr_app : ∀ (p q : P) (φ : W → Int), pr (p ++ q) φ = pr p φ + pr q φ
  | [], q, φ => by rw [List.nil_append, pr_nil, Int.zero_add]
  | (w, c) :: r, q, φ => by rw [List.cons_append, pr_cons, pr_cons, pr_app r q φ, Int.add_assoc]
theorem pr_congr : ∀ {p : P} {φ ψ : W → Int}, (∀ x ∈ p, φ x.1 = ψ x.1) → pr p φ = pr p ψ
  | [], _, _, _ => rfl
  | (w, c) :: r, φ, ψ, h => by
    rw [pr_cons, pr_cons, h (w, c) List.mem_cons_self, pr_congr fun x hx => h x (List.mem_cons_of_mem _ hx)]
theorem pr_add (p : P) (φ ψ : W → Int) : pr p (fun w => φ w + ψ w) = pr p φ + pr p ψ := by
  induction p with
  | nil => rfl
  | cons x r ih =>
    obtain ⟨w, c⟩ := x
    rw [pr_cons, pr_cons, pr_cons, ih, Int.mul_add]; omega
theorem pr_mul (p : P) (k : Int) (φ : W → Int) : pr p (fun w => k * φ w) = k * pr p φ := by
  induction p with
  | nil => simp [pr_nil]
  | cons x r ih =>
    obtain ⟨w, c⟩ := x
    rw [pr_cons, pr_cons, ih, Int.mul_add, ← Int.mul_assoc, ← Int.mul_assoc, Int.mul_comm c k]
theorem pr_zero (p : P) : pr p (fun _ => 0) = 0 := by
  induction p with
  | nil => rfl
  | cons x r ih => obtain ⟨w, c⟩ := x; rw [pr_cons, ih, Int.mul_zero]; rfl
theorem pr_neg (p : P) (φ : W → Int) : pr p (fun w => - φ w) = - pr p φ := by
  have := pr_mul p (-1) φ
  rw [Int.neg_mul, Int.one_mul] at this
  rw [← this]
  exact pr_congr fun x _ => by rw [Int.neg_mul, Int.one_mul]
theorem pr_sub (p : P) (φ ψ : W → Int) : pr p (fun w => φ w - ψ w) = pr p φ - pr p ψ := by
  have h := pr_add p φ (fun w => - ψ w)
  rw [pr_neg] at h
  rw [Int.sub_eq_add_neg, ← h]
  exact pr_congr fun x _ => by rw [Int.sub_eq_add_neg]
theorem pr_mulr (p : P) (k : Int) (φ : W → Int) : pr p (fun w => φ w * k) = pr p φ * k := by
  rw [Int.mul_comm, ← pr_mul]; exact pr_congr fun x _ => Int.mul_comm _ _
/-! ### functionals that are linear -/
structure Lin (L : (W → Int) → Int) : Prop where
  add : ∀ φ ψ, L (fun w => φ w + ψ w) = L φ + L ψ
  mul : ∀ (k : Int) φ, L (fun w => k * φ w) = k * L φ
theorem Lin.zero {L : (W → Int) → Int} (h : Lin L) : L (fun _ => 0) = 0 := by
  have e : L (fun w => (0 : Int) * (fun _ : W => (0 : Int)) w) = (0 : Int) * L (fun _ => 0) := h.mul 0 (fun _ => 0)
  rw [Int.zero_mul] at e
  exact e
theorem Lin.neg {L : (W → Int) → Int} (h : Lin L) (φ : W → Int) : L (fun w => - φ w) = - L φ := by
  have := h.mul (-1) φ
  have e : (fun w => (-1 : Int) * φ w) = fun w => - φ w := by funext w; omega
  rw [e] at this
  omega
theorem Lin.sub {L : (W → Int) → Int} (h : Lin L) (φ ψ : W → Int) : L (fun w => φ w - ψ w) = L φ - L ψ := by
  have := h.add φ (fun w => - ψ w)
  rw [h.neg] at this
  rw [Int.sub_eq_add_neg, ← this]; congr 1
theorem lin_pr (p : P) : Lin (pr p) := ⟨pr_add p, fun k φ => pr_mul p k φ⟩
/-- sums of words and linear functionals change places -/
theorem Lin.pr {L : (W → Int) → Int} (h : Lin L) (p : P) (f : W → W → Int) : L (fun a => TB.pr p (fun b => f a b)) = TB.pr p (fun b => L (fun a => f a b)) := by
  induction p with
  | nil => exact h.zero
  | cons x r ih =>
    obtain ⟨w, c⟩ := x
    show L (fun a => c * f a w + TB.pr r (fun b => f a b)) = c * L (fun a => f a w) + TB.pr r (fun b => L (fun a => f a b))
    rw [h.add, h.mul, ih]
/-! ### a bracket's words, as a functional -/
def br : Br → (W → Int) → Int
  | .leaf c, φ => φ [c]
  | .node l r, φ => br l fun a => br r fun b => φ (a ++ b) - φ (b ++ a)
theorem br_node (l r : Br) (φ : W → Int) : br (.node l r) φ = br l fun a => br r fun b => φ (a ++ b) - φ (b ++ a) := rfl
theorem br_lin : ∀ t : Br, Lin (br t)
  | .leaf _ => ⟨fun _ _ => rfl, fun _ _ => rfl⟩
  | .node l r => by
    have hl := br_lin l
    have hr := br_lin r
    refine ⟨fun φ ψ => ?_, fun k φ => ?_⟩
    · rw [br_node, br_node, br_node, ← hl.add]
      congr 1; funext a
      rw [← hr.add]
      congr 1; funext b
      omega
    · rw [br_node, br_node, ← hl.mul]
      congr 1; funext a
      rw [← hr.mul]
      congr 1; funext b
      rw [Int.mul_sub]
/-- two brackets change places -/
theorem br_swap : ∀ (t u : Br) (f : W → W → Int), (br t fun a => br u fun b => f a b) = br u fun b => br t fun a => f a b
  | .leaf _, _, _ => rfl
  | .node l r, u, f => by
    rw [br_node]
    have e1 : (fun a => br r fun b => (br u fun c => f (a ++ b) c) - br u fun c => f (b ++ a) c) = fun a => br u fun c => br r fun b => f (a ++ b) c - f (b ++ a) c := by
      funext a
      rw [← br_swap r u]
      congr 1; funext b
      rw [(br_lin u).sub]
    rw [e1, br_swap l u]
    rfl
/-- the words of a bracket, with repeats -/
def ws : Br → List W
  | .leaf c => [[c]]
  | .node l r => (ws l).flatMap fun a => (ws r).flatMap fun b => [a ++ b, b ++ a]
theorem mem_ws_node {l r : Br} {w : W} : w ∈ ws (.node l r) ↔ ∃ a ∈ ws l, ∃ b ∈ ws r, w = a ++ b ∨ w = b ++ a := by
  show w ∈ (ws l).flatMap _ ↔ _
  rw [List.mem_flatMap]
  constructor
  · rintro ⟨a, ha, h⟩
    rw [List.mem_flatMap] at h
    obtain ⟨b, hb, h⟩ := h
    rw [List.mem_cons, List.mem_cons] at h
    refine ⟨a, ha, b, hb, ?_⟩
    rcases h with h | h | h
    · exact .inl h
    · exact .inr h
    · cases h
  · rintro ⟨a, ha, b, hb, h⟩
    refine ⟨a, ha, ?_⟩
    rw [List.mem_flatMap]
    refine ⟨b, hb, ?_⟩
    rw [List.mem_cons, List.mem_cons]
    rcases h with h | h
    · exact .inl h
    · exact .inr (.inl h)
theorem br_congr : ∀ (t : Br) {φ ψ : W → Int}, (∀ w ∈ ws t, φ w = ψ w) → br t φ = br t ψ
  | .leaf c, φ, ψ, h => h [c] (by simp [ws])
  | .node l r, φ, ψ, h => by
    rw [br_node, br_node]
    refine br_congr l fun a ha => br_congr r fun b hb => ?_
    rw [h (a ++ b) (mem_ws_node.mpr ⟨a, ha, b, hb, .inl rfl⟩), h (b ++ a) (mem_ws_node.mpr ⟨a, ha, b, hb, .inr rfl⟩)]
theorem ws_perm : ∀ (t : Br) {w : W}, w ∈ ws t → w.Perm t.letters
  | .leaf c, w, h => by
    have : w = [c] := by simpa [ws] using h
    rw [this]
    exact List.Perm.refl _
  | .node l r, w, h => by
    obtain ⟨a, ha, b, hb, h⟩ := mem_ws_node.mp h
    have h1 := ws_perm l ha
    have h2 := ws_perm r hb
    rcases h with rfl | rfl
    · exact h1.append h2
    · exact List.perm_append_comm.trans (h1.append h2)
theorem ws_len {t : Br} {w : W} (h : w ∈ ws t) : w.length = t.wt := by rw [(ws_perm t h).length_eq, t.letters_len]
theorem ws_ne {t : Br} {w : W} (h : w ∈ ws t) : w ≠ [] := by
  intro e
  have := ws_len h
  rw [e] at this
  have := t.wt_pos
  simp at *; omega
theorem ws_lets {t : Br} {w : W} (h : w ∈ ws t) {c : Nat} (hc : c ∈ w) : c ∈ t.letters := (ws_perm t h).mem_iff.mp hc
/-! ### merges: a bracket's words and unmerging -/
/-- over all ways to part a word in two -/
def un : W → (W → W → Int) → Int
  | [], φ => φ [] []
  | a :: w, φ => un w (fun x y => φ (a :: x) y) + un w (fun x y => φ x (a :: y))
theorem un_cons (a : Nat) (w : W) (φ : W → W → Int) : un (a :: w) φ = un w (fun x y => φ (a :: x) y) + un w (fun x y => φ x (a :: y)) := rfl
theorem un_app : ∀ (u v : W) (φ : W → W → Int), un (u ++ v) φ = un u fun x1 y1 => un v fun x2 y2 => φ (x1 ++ x2) (y1 ++ y2)
  | [], v, φ => rfl
  | a :: u, v, φ => by
    rw [List.cons_append, un_cons, un_cons, un_app u v, un_app u v]
    rfl
theorem un_add : ∀ (w : W) (φ ψ : W → W → Int), un w (fun x y => φ x y + ψ x y) = un w φ + un w ψ
  | [], _, _ => rfl
  | a :: w, φ, ψ => by
    have h1 := un_add w (fun x y => φ (a :: x) y) (fun x y => ψ (a :: x) y)
    have h2 := un_add w (fun x y => φ x (a :: y)) (fun x y => ψ x (a :: y))
    rw [un_cons, un_cons, un_cons, h1, h2]; omega
theorem un_lin {L : (W → Int) → Int} (h : Lin L) : ∀ (w : W) (f : W → W → W → Int), L (fun b => un w (fun x y => f b x y)) = un w fun x y => L fun b => f b x y
  | [], _ => rfl
  | a :: w, f => by
    rw [un_cons, ← un_lin h w, ← un_lin h w, ← h.add]
    rfl
/-- a bracket's words unmerge to the word and nothing -/
theorem br_un : ∀ (t : Br) (φ : W → W → Int), (br t fun w => un w φ) = (br t fun w => φ w []) + br t fun w => φ [] w
  | .leaf c, φ => rfl
  | .node l r, φ => by
    have hl := br_lin l
    have hr := br_lin r
    have one : (br l fun a => br r fun b => un (a ++ b) φ) = (br l fun a => br r fun b => φ (a ++ b) [] + φ a b) + br l fun a => br r fun b => φ b a + φ [] (a ++ b) := by
      have e1 : (fun a => br r fun b => un (a ++ b) φ) = fun a => un a fun x1 y1 => br r (fun b => φ (x1 ++ b) y1 + φ x1 (y1 ++ b)) := by
        funext a
        have e2 : (fun b => un (a ++ b) φ) = fun b => un a fun x1 y1 => un b fun x2 y2 => φ (x1 ++ x2) (y1 ++ y2) := by
          funext b; rw [un_app]
        rw [e2, un_lin hr]
        congr 1; funext x1 y1
        rw [br_un r, ← hr.add]
        congr 1; funext b
        rw [List.append_nil, List.append_nil]
      rw [e1, br_un l]
      rfl
    have two : (br l fun a => br r fun b => un (b ++ a) φ) = (br l fun a => br r fun b => φ (b ++ a) [] + φ a b) + br l fun a => br r fun b => φ b a + φ [] (b ++ a) := by
      have e0 : (br l fun a => br r fun b => un (b ++ a) φ) = br r fun b => br l fun a => un (b ++ a) φ := br_swap l r _
      have e1 : (fun b => br l fun a => un (b ++ a) φ) = fun b => un b fun x1 y1 => br l (fun a => φ (x1 ++ a) y1 + φ x1 (y1 ++ a)) := by
        funext b
        have e2 : (fun a => un (b ++ a) φ) = fun a => un b fun x1 y1 => un a fun x2 y2 => φ (x1 ++ x2) (y1 ++ y2) := by
          funext a; rw [un_app]
        rw [e2, un_lin hl]
        congr 1; funext x1 y1
        rw [br_un l, ← hl.add]
        congr 1; funext a
        rw [List.append_nil, List.append_nil]
      rw [e0, e1, br_un r, ← hr.add, ← hl.add]
      have e3 : (fun w => (br l fun a => φ (w ++ a) ([] : W) + φ w ([] ++ a)) + br l fun a => φ ([] ++ a) w + φ [] (w ++ a)) = fun w => br l fun a => (φ (w ++ a) [] + φ w a) + (φ a w + φ [] (w ++ a)) := by
        funext w
        rw [← hl.add]
        rfl
      rw [e3, br_swap r l]
      congr 1; funext a
      rw [← hr.add]
      congr 1; funext b
      show φ (b ++ a) [] + φ b a + (φ a b + φ [] (b ++ a)) = φ (b ++ a) [] + φ a b + (φ b a + φ [] (b ++ a))
      omega
    have split : ∀ f g : W → W → Int, (br l fun a => br r fun b => f a b - g a b) = (br l fun a => br r fun b => f a b) - br l fun a => br r fun b => g a b := fun f g => by
      rw [← hl.sub]; congr 1; funext a; rw [← hr.sub]
    rw [br_node, br_node, br_node, split, one, two, ← hl.add, ← hl.add, ← hl.sub, ← hl.add]
    congr 1; funext a
    rw [← hr.add, ← hr.add, ← hr.sub, ← hr.add]
    congr 1; funext b
    omega
/-- one at the pair (x, y) -/
def dl (x y : W) (x' y' : W) : Int := if x' = x ∧ y' = y then 1 else 0
def mg (x y w : W) : Int := un w (dl x y)
theorem un_zero : ∀ (w : W), un w (fun _ _ => 0) = 0
  | [] => rfl
  | a :: w => by rw [un_cons, un_zero w]; rfl
theorem mg_nil (x y : W) : mg x y [] = if x = [] ∧ y = [] then 1 else 0 := by
  show (if [] = x ∧ [] = y then (1 : Int) else 0) = _
  by_cases h1 : x = []
  · by_cases h2 : y = []
    · rw [if_pos ⟨h1.symm, h2.symm⟩, if_pos ⟨h1, h2⟩]
    · rw [if_neg fun q => h2 q.2.symm, if_neg fun q => h2 q.2]
  · rw [if_neg fun q => h1 q.1.symm, if_neg fun q => h1 q.1]
theorem dl_left (a : Nat) (x y : W) : (fun x' y' => dl x y (a :: x') y') = match x with | [] => fun _ _ => 0 | b :: r => if a = b then dl r y else fun _ _ => 0 := by
  cases x with
  | nil =>
    funext x' y'
    show (if a :: x' = [] ∧ y' = y then (1 : Int) else 0) = 0
    rw [if_neg (by simp)]
  | cons b r =>
    funext x' y'
    show (if a :: x' = b :: r ∧ y' = y then (1 : Int) else 0) = (if a = b then dl r y else fun _ _ => 0) x' y'
    by_cases h : a = b
    · subst h
      rw [if_pos rfl]
      unfold dl
      by_cases q : x' = r ∧ y' = y
      · rw [if_pos q, if_pos ⟨by rw [q.1], q.2⟩]
      · rw [if_neg q, if_neg fun z => q ⟨by simpa using z.1, z.2⟩]
    · rw [if_neg h, if_neg fun z => h (by have := z.1; injection this)]
theorem dl_right (a : Nat) (x y : W) : (fun x' y' => dl x y x' (a :: y')) = match y with | [] => fun _ _ => 0 | b :: r => if a = b then dl x r else fun _ _ => 0 := by
  cases y with
  | nil =>
    funext x' y'
    show (if x' = x ∧ a :: y' = [] then (1 : Int) else 0) = 0
    rw [if_neg (by simp)]
  | cons b r =>
    funext x' y'
    show (if x' = x ∧ a :: y' = b :: r then (1 : Int) else 0) = (if a = b then dl x r else fun _ _ => 0) x' y'
    by_cases h : a = b
    · subst h
      rw [if_pos rfl]
      unfold dl
      by_cases q : x' = x ∧ y' = r
      · rw [if_pos q, if_pos ⟨q.1, by rw [q.2]⟩]
      · rw [if_neg q, if_neg fun z => q ⟨z.1, by simpa using z.2⟩]
    · rw [if_neg h, if_neg fun z => h (by have := z.2; injection this)]
theorem mg_cons (x y : W) (a : Nat) (w : W) : mg x y (a :: w) = (match x with | [] => 0 | b :: r => if a = b then mg r y w else 0) + (match y with | [] => 0 | b :: r => if a = b then mg x r w else 0) := by
  unfold mg
  rw [un_cons, dl_left, dl_right]
  congr 1
  · cases x with
    | nil => exact un_zero w
    | cons b r =>
      show un w (if a = b then dl r y else fun _ _ => 0) = if a = b then un w (dl r y) else 0
      by_cases h : a = b
      · rw [if_pos h, if_pos h]
      · rw [if_neg h, if_neg h]; exact un_zero w
  · cases y with
    | nil => exact un_zero w
    | cons b r =>
      show un w (if a = b then dl x r else fun _ _ => 0) = if a = b then un w (dl x r) else 0
      by_cases h : a = b
      · rw [if_pos h, if_pos h]
      · rw [if_neg h, if_neg h]; exact un_zero w
theorem mg_nonneg : ∀ (w x y : W), 0 ≤ mg x y w
  | [], x, y => by rw [mg_nil]; split <;> decide
  | a :: w, x, y => by
    rw [mg_cons]
    have h1 : 0 ≤ (match x with | [] => (0 : Int) | b :: r => if a = b then mg r y w else 0) := by
      cases x with
      | nil => exact Int.le_refl 0
      | cons b r =>
        show 0 ≤ if a = b then mg r y w else 0
        split
        · exact mg_nonneg w r y
        · exact Int.le_refl 0
    have h2 : 0 ≤ (match y with | [] => (0 : Int) | b :: r => if a = b then mg x r w else 0) := by
      cases y with
      | nil => exact Int.le_refl 0
      | cons b r =>
        show 0 ≤ if a = b then mg x r w else 0
        split
        · exact mg_nonneg w x r
        · exact Int.le_refl 0
    exact Int.add_nonneg h1 h2
theorem mg_mrg : ∀ (w x y : W), mg x y w ≠ 0 → Mrg x y w
  | [], x, y, h => by
    rw [mg_nil] at h
    by_cases q : x = [] ∧ y = []
    · rw [q.1, q.2]; exact .nil
    · rw [if_neg q] at h; exact absurd rfl h
  | a :: w, x, y, h => by
    rw [mg_cons] at h
    by_cases h1 : (match x with | [] => (0 : Int) | b :: r => if a = b then mg r y w else 0) = 0
    · rw [h1, Int.zero_add] at h
      cases y with
      | nil => exact absurd rfl h
      | cons b r =>
        have h' : (if a = b then mg x r w else 0) ≠ 0 := h
        by_cases q : a = b
        · subst q
          rw [if_pos rfl] at h'
          exact .right (mg_mrg w x r h')
        · rw [if_neg q] at h'; exact absurd rfl h'
    · cases x with
      | nil => exact absurd rfl h1
      | cons b r =>
        have h' : (if a = b then mg r y w else 0) ≠ 0 := h1
        by_cases q : a = b
        · subst q
          rw [if_pos rfl] at h'
          exact .left (mg_mrg w r y h')
        · rw [if_neg q] at h'; exact absurd rfl h'
theorem mg_app : ∀ (x y : W), 0 < mg x y (x ++ y)
  | [], [] => by rw [List.nil_append, mg_nil, if_pos ⟨rfl, rfl⟩]; decide
  | [], b :: y => by
    rw [List.nil_append, mg_cons]
    show 0 < (0 : Int) + if b = b then mg [] y y else 0
    rw [if_pos rfl, Int.zero_add]
    exact mg_app [] y
  | a :: x, y => by
    rw [List.cons_append, mg_cons]
    show 0 < (if a = a then mg x y (x ++ y) else 0) + _
    rw [if_pos rfl]
    have h1 := mg_app x y
    have h2 : 0 ≤ (match y with | [] => (0 : Int) | b :: r => if a = b then mg (a :: x) r (x ++ y) else 0) := by
      cases y with
      | nil => exact Int.le_refl 0
      | cons b r =>
        show 0 ≤ if a = b then mg (a :: x) r (x ++ b :: r) else 0
        split
        · exact mg_nonneg _ _ _
        · exact Int.le_refl 0
    exact Int.lt_of_lt_of_le h1 (Int.le_add_of_nonneg_right h2)
theorem br_mg (t : Br) {x y : W} (hx : x ≠ []) (hy : y ≠ []) : br t (mg x y) = 0 := by
  show (br t fun w => un w (dl x y)) = 0
  rw [br_un]
  have e1 : (fun w => dl x y w []) = fun _ => 0 := by
    funext w
    show (if w = x ∧ [] = y then (1 : Int) else 0) = 0
    rw [if_neg fun q => hy q.2.symm]
  have e2 : (fun w => dl x y [] w) = fun _ => 0 := by
    funext w
    show (if [] = x ∧ w = y then (1 : Int) else 0) = 0
    rw [if_neg fun q => hx q.1.symm]
  rw [e1, e2, (br_lin t).zero]
  rfl
theorem br_nil (t : Br) {φ : W → Int} (h : ∀ w, w ≠ [] → φ w = 0) : br t φ = 0 := by
  rw [br_congr t (ψ := fun _ => 0) fun w hw => h w (ws_ne hw)]
  exact (br_lin t).zero
/-! ### the brackets from the right -/
/-- the bracket of a word's letters from the right -/
def rn : W → Br
  | [] => .leaf 0
  | [a] => .leaf a
  | a :: b :: w => .node (.leaf a) (rn (b :: w))
def ad1 (a : Nat) (φ : W → Int) : W → Int := fun b => φ (a :: b) - φ (b ++ [a])
def adT : W → (W → Int) → (W → Int)
  | [], φ => φ
  | a :: u, φ => adT u (ad1 a φ)
/-- the bracket of a word from the right, as a functional of the word -/
def dk (φ : W → Int) (w : W) : Int := br (rn w) φ
theorem dk_one (φ : W → Int) (a : Nat) : dk φ [a] = φ [a] := rfl
theorem dk_cons (φ : W → Int) (a : Nat) {w : W} (h : w ≠ []) : dk φ (a :: w) = dk (ad1 a φ) w := by
  cases w with
  | nil => exact absurd rfl h
  | cons b w => rfl
theorem dk_app (φ : W → Int) : ∀ (u : W) {v : W}, v ≠ [] → dk φ (u ++ v) = dk (adT u φ) v
  | [], _, _ => rfl
  | a :: u, v, h => by
    rw [List.cons_append, dk_cons φ a (by simp [h])]
    show _ = dk (adT u (ad1 a φ)) v
    rw [dk_app _ u h]
theorem adT_app : ∀ (u v : W) (φ : W → Int), adT (u ++ v) φ = adT v (adT u φ)
  | [], _, _ => rfl
  | a :: u, v, φ => adT_app u v (ad1 a φ)
theorem br_ad : ∀ (t : Br) (φ : W → Int) (f : W), (br t fun u => adT u φ f) = br t fun u => φ (u ++ f) - φ (f ++ u)
  | .leaf c, φ, f => rfl
  | .node l r, φ, f => by
    have hl := br_lin l
    have hr := br_lin r
    have split : ∀ f g : W → W → Int, (br l fun a => br r fun b => f a b - g a b) = (br l fun a => br r fun b => f a b) - br l fun a => br r fun b => g a b := fun f g => by
      rw [← hl.sub]; congr 1; funext a; rw [← hr.sub]
    have one : ∀ (t u : Br), (∀ (φ : W → Int) (f : W), (br t fun u => adT u φ f) = br t fun u => φ (u ++ f) - φ (f ++ u)) → (∀ (φ : W → Int) (f : W), (br u fun a => adT a φ f) = br u fun a => φ (a ++ f) - φ (f ++ a)) →
        (br t fun a => br u fun b => adT (a ++ b) φ f) = br t fun a => br u fun b => φ (a ++ (b ++ f)) - φ ((b ++ f) ++ a) - (φ (a ++ (f ++ b)) - φ ((f ++ b) ++ a)) := by
      intro t u h1 h2
      have e1 : (fun a => br u fun b => adT (a ++ b) φ f) = fun a => br u fun b => adT a φ (b ++ f) - adT a φ (f ++ b) := by
        funext a
        rw [← h2]
        congr 1; funext b
        rw [adT_app]
      rw [e1, br_swap t u, br_swap t u]
      congr 1; funext b
      rw [(br_lin t).sub, h1, h1, ← (br_lin t).sub]
    have two := one l r (br_ad l) (br_ad r)
    have three := one r l (br_ad r) (br_ad l)
    rw [br_node, br_node, split, two]
    have e0 : (br l fun a => br r fun b => adT (b ++ a) φ f) = br r fun b => br l fun a => adT (b ++ a) φ f := br_swap l r _
    rw [e0, three, br_swap r l, ← split]
    congr 1; funext a
    congr 1; funext b
    simp only [List.append_assoc]
    omega
/-- Dynkin's rule -/
theorem br_dk : ∀ (t : Br) (φ : W → Int), br t (dk φ) = (t.wt : Int) * br t φ
  | .leaf c, φ => by
    show φ [c] = ((1 : Nat) : Int) * φ [c]
    omega
  | .node l r, φ => by
    have hl := br_lin l
    have hr := br_lin r
    have split : ∀ f g : W → W → Int, (br l fun a => br r fun b => f a b - g a b) = (br l fun a => br r fun b => f a b) - br l fun a => br r fun b => g a b := fun f g => by
      rw [← hl.sub]; congr 1; funext a; rw [← hr.sub]
    have one : ∀ t u : Br, (∀ φ, br u (dk φ) = (u.wt : Int) * br u φ) → (br t fun a => br u fun b => dk φ (a ++ b)) = (u.wt : Int) * br t fun a => br u fun b => φ (a ++ b) - φ (b ++ a) := by
      intro t u hu
      have e1 : (fun a => br u fun b => dk φ (a ++ b)) = fun a => (u.wt : Int) * br u (adT a φ) := by
        funext a
        rw [← hu]
        exact br_congr u fun b hb => dk_app φ a (ws_ne hb)
      rw [e1, (br_lin t).mul]
      congr 1
      show (br t fun a => br u fun b => adT a φ b) = _
      rw [br_swap t u, br_swap t u]
      congr 1; funext b
      exact br_ad t φ b
    rw [br_node, br_node, split, one l r (br_dk r)]
    have e0 : (br l fun a => br r fun b => dk φ (b ++ a)) = br r fun b => br l fun a => dk φ (b ++ a) := br_swap l r _
    rw [e0, one r l (br_dk l)]
    have e1 : (br r fun b => br l fun a => φ (b ++ a) - φ (a ++ b)) = - br l fun a => br r fun b => φ (a ++ b) - φ (b ++ a) := by
      rw [br_swap r l, ← hl.neg]
      congr 1; funext a
      rw [← hr.neg]
      congr 1; funext b
      omega
    rw [e1]
    show _ = ((l.wt + r.wt : Nat) : Int) * _
    rw [Int.natCast_add, Int.add_mul, Int.mul_neg]
    omega
/-! ### the plain bracket -/
def pb (w : W) : Br :=
  if h : 2 ≤ w.length then .node (pb (w.take (cutAt w))) (pb (w.drop (cutAt w))) else .leaf (w.headD 0)
termination_by w.length
decreasing_by
  · have c := cutAt_ok h
    rw [List.length_take]
    have := c.lt
    omega
  · have c := cutAt_ok h
    rw [List.length_drop]
    have := c.pos
    omega
theorem pb_one (a : Nat) : pb [a] = .leaf a := by rw [pb, dif_neg (by simp)]; rfl
theorem pb_two {w : W} (h : 2 ≤ w.length) : pb w = .node (pb (w.take (cutAt w))) (pb (w.drop (cutAt w))) := by
  conv => lhs; rw [pb]
  rw [dif_pos h]
/-- by parts, for a plain word -/
theorem pl_ind {C : W → Prop} (one : ∀ a, C [a]) (two : ∀ u v, Pl (u ++ v) → Pl u → Pl v → Cut (u ++ v) u.length → pb (u ++ v) = .node (pb u) (pb v) → C u → C v → C (u ++ v)) : ∀ (n : Nat) (w : W), w.length = n → Pl w → C w := by
  intro n
  induction n using Nat.strongRecOn with
  | _ n ih =>
    intro w hn hw
    by_cases h2 : 2 ≤ w.length
    · have c := cutAt_ok h2
      have h1 := c.pos
      have h3 := c.lt
      have eu : (w.take (cutAt w)).length = cutAt w := by rw [List.length_take]; omega
      have ev : (w.drop (cutAt w)).length = w.length - cutAt w := List.length_drop
      have ew : w.take (cutAt w) ++ w.drop (cutAt w) = w := List.take_append_drop _ _
      have pu := cut_front hw c
      have pv := plain_iff.mp c.pl
      have := two (w.take (cutAt w)) (w.drop (cutAt w)) (by rw [ew]; exact hw) pu pv (by rw [ew, eu]; exact c) (by rw [ew]; exact pb_two h2)
        (ih _ (by omega) _ eu pu) (ih _ (by omega) _ ev pv)
      rwa [ew] at this
    · have := List.length_pos_iff.mpr hw.1
      match w, h2, this with
      | [a], _, _ => exact one a
      | _ :: _ :: _, h2, _ => exact absurd (by simp) h2
theorem pb_letters {w : W} (h : Pl w) : (pb w).letters = w := by
  refine pl_ind (C := fun w => (pb w).letters = w) (fun a => by rw [pb_one]; rfl) (fun u v _ _ _ _ e h1 h2 => ?_) _ w rfl h
  rw [e]
  show (pb u).letters ++ (pb v).letters = _
  rw [h1, h2]
theorem pb_wt {w : W} (h : Pl w) : (pb w).wt = w.length := by rw [← Br.letters_len, pb_letters h]
/-- one at a word -/
def dw (w : W) (x : W) : Int := if x = w then 1 else 0
theorem dw_same (w : W) : dw w w = 1 := if_pos rfl
theorem dw_ne {w x : W} (h : x ≠ w) : dw w x = 0 := if_neg h
/-- among the words of the plain bracket the word stands once, and is the least -/
theorem pb_first {w : W} (h : Pl w) : (∀ x ∈ ws (pb w), le w x) ∧ br (pb w) (dw w) = 1 := by
  refine pl_ind (C := fun w => (∀ x ∈ ws (pb w), le w x) ∧ br (pb w) (dw w) = 1) (fun a => ?_) (fun u v hw pu pv _ e h1 h2 => ?_) _ w rfl h
  · rw [pb_one]
    refine ⟨fun x hx => ?_, dw_same _⟩
    have : x = [a] := by simpa [ws] using hx
    rw [this]; exact le_refl _
  · have lenU : ∀ a ∈ ws (pb u), a.length = u.length := fun a ha => by rw [ws_len ha, pb_wt pu]
    have lenV : ∀ b ∈ ws (pb v), b.length = v.length := fun b hb => by rw [ws_len hb, pb_wt pv]
    have hvu : lx (u ++ v) (v ++ u) = true := hw.turns pu.1 pv.1
    have ab : ∀ a ∈ ws (pb u), ∀ b ∈ ws (pb v), le (u ++ v) (a ++ b) ∧ lx (u ++ v) (b ++ a) = true := by
      intro a ha b hb
      have la := lenU a ha
      have lb := lenV b hb
      constructor
      · rcases le_cases (h1.1 a ha) with q | q
        · rw [← q, le_pre]; exact h2.1 b hb
        · exact le_of_lx (lx_len v b la.symm q)
      · refine lx_le hvu ?_
        rcases le_cases (h2.1 b hb) with q | q
        · rw [← q, le_pre]; exact h1.1 a ha
        · exact le_of_lx (lx_len u a lb.symm q)
    rw [e]
    refine ⟨fun x hx => ?_, ?_⟩
    · obtain ⟨a, ha, b, hb, h⟩ := mem_ws_node.mp hx
      rcases h with rfl | rfl
      · exact (ab a ha b hb).1
      · exact le_of_lx (ab a ha b hb).2
    · rw [br_node]
      have e1 : (br (pb u) fun a => br (pb v) fun b => dw (u ++ v) (a ++ b) - dw (u ++ v) (b ++ a)) = br (pb u) fun a => dw u a * br (pb v) (dw v) := by
        refine br_congr _ fun a ha => ?_
        rw [← (br_lin (pb v)).mul]
        refine br_congr _ fun b hb => ?_
        have n1 : b ++ a ≠ u ++ v := fun z => by
          have := (ab a ha b hb).2
          rw [z, lx_irr] at this; cases this
        rw [dw_ne n1, Int.sub_zero]
        by_cases q : a = u
        · subst q
          rw [dw_same, Int.one_mul]
          by_cases z : b = v
          · subst z; rw [dw_same, dw_same]
          · rw [dw_ne z, dw_ne fun y => z (List.append_cancel_left y)]
        · rw [dw_ne q, Int.zero_mul, dw_ne]
          intro y
          exact q (List.append_inj_left y (lenU a ha))
      rw [e1, h2.2]
      have e2 : (fun a => dw u a * 1) = dw u := by funext a; rw [Int.mul_one]
      rw [e2, h1.2]
end TB
/-! ## TbDict -/
/-! Counts of words as lists of pairs, as the dicts of the program hold them; plain sums. -/
namespace TB
def look (p : P) (w : W) : Option Int := (p.find? fun x => decide (x.1 = w)).map (·.2)
def get (p : P) (w : W) : Int := (look p w).getD 0
def set (p : P) (w : W) (v : Int) : P := if (p.any fun x => decide (x.1 = w)) = true then p.map (fun x => if x.1 = w then (x.1, v) else x) else p ++ [(w, v)]
def del (p : P) (w : W) : P := p.filter fun x => decide (x.1 ≠ w)
/-- counts[w] = counts.get(w, 0) + c, taken away where it comes to 0 -/
def put (p : P) (w : W) (c : Int) : P := if get p w + c = 0 then del (set p w (get p w + c)) w else set p w (get p w + c)
def keys (p : P) : List W := p.map (·.1)
/-- each word once, no count nought -/
structure Nrm (p : P) : Prop where
  nd : (keys p).Nodup
  nz : ∀ x ∈ p, x.2 ≠ 0
theorem look_nil (w : W) : look [] w = none := rfl
theorem look_cons (w x : W) (c : Int) (r : P) : look ((w, c) :: r) x = if w = x then some c else look r x := by
  unfold look
  rw [List.find?_cons]
  by_cases h : w = x
  · rw [show decide (w = x) = true from decide_eq_true h, if_pos h]; rfl
  · rw [show decide (w = x) = false from decide_eq_false h, if_neg h]
theorem get_nil (w : W) : get [] w = 0 := rfl
theorem get_cons (w x : W) (c : Int) (r : P) : get ((w, c) :: r) x = if w = x then c else get r x := by
  unfold get
  rw [look_cons]
  split <;> rfl
theorem look_some : ∀ {p : P} {w : W} {c : Int}, look p w = some c → (w, c) ∈ p
  | [], _, _, h => by cases h
  | (x, d) :: r, w, c, h => by
    rw [look_cons] at h
    by_cases q : x = w
    · rw [if_pos q] at h; cases h; subst q; exact List.mem_cons_self
    · rw [if_neg q] at h; exact List.mem_cons_of_mem _ (look_some h)
theorem look_none : ∀ {p : P} {w : W}, look p w = none ↔ w ∉ keys p
  | [], _ => by constructor
                · intro _ h; cases h
                · intro _; rfl
  | (x, d) :: r, w => by
    rw [look_cons]
    show _ ↔ w ∉ x :: keys r
    rw [List.mem_cons]
    by_cases q : x = w
    · rw [if_pos q]
      constructor
      · intro h; cases h
      · intro h; exact absurd (.inl q.symm) h
    · rw [if_neg q, look_none (p := r)]
      constructor
      · rintro h (z | z)
        · exact q z.symm
        · exact h z
      · intro h z; exact h (.inr z)
theorem look_mem : ∀ {p : P}, (keys p).Nodup → ∀ {w : W} {c : Int}, (w, c) ∈ p → look p w = some c
  | [], _, _, _, h => by cases h
  | (x, d) :: r, nd, w, c, h => by
    rw [look_cons]
    have nd' : (x :: keys r).Nodup := nd
    rw [List.nodup_cons] at nd'
    rcases List.mem_cons.mp h with h | h
    · cases h; rw [if_pos rfl]
    · have hk : w ∈ keys r := List.mem_map.mpr ⟨(w, c), h, rfl⟩
      rw [if_neg fun z => nd'.1 (by rw [z]; exact hk)]
      exact look_mem nd'.2 h
theorem get_mem {p : P} (nd : (keys p).Nodup) {w : W} {c : Int} (h : (w, c) ∈ p) : get p w = c := by unfold get; rw [look_mem nd h]; rfl
theorem get_not {p : P} {w : W} (h : w ∉ keys p) : get p w = 0 := by unfold get; rw [look_none.mpr h]; rfl
theorem mem_keys {p : P} {w : W} : w ∈ keys p ↔ ∃ c, (w, c) ∈ p := by
  unfold keys
  rw [List.mem_map]
  constructor
  · rintro ⟨⟨x, c⟩, h, rfl⟩; exact ⟨c, h⟩
  · rintro ⟨c, h⟩; exact ⟨(w, c), h, rfl⟩
theorem Nrm.get_ne {p : P} (n : Nrm p) {w : W} (h : w ∈ keys p) : get p w ≠ 0 := by
  obtain ⟨c, hc⟩ := mem_keys.mp h
  rw [get_mem n.nd hc]
  exact n.nz _ hc
theorem any_key (p : P) (w : W) : (p.any fun x => decide (x.1 = w)) = decide (w ∈ keys p) := by
  induction p with
  | nil => rfl
  | cons x r ih =>
    rw [List.any_cons, ih]
    show (decide (x.1 = w) || decide (w ∈ keys r)) = decide (w ∈ x.1 :: keys r)
    by_cases h : x.1 = w
    · subst h; simp
    · have h' : ¬ w = x.1 := fun z => h z.symm
      simp [h, h']
theorem set_in {p : P} {w : W} (h : w ∈ keys p) (v : Int) : set p w v = p.map (fun x => if x.1 = w then (x.1, v) else x) := by
  unfold set; rw [any_key, if_pos (decide_eq_true h)]
theorem set_out {p : P} {w : W} (h : w ∉ keys p) (v : Int) : set p w v = p ++ [(w, v)] := by
  unfold set; rw [any_key, if_neg (by simpa using h)]
theorem keys_map (p : P) (w : W) (v : Int) : keys (p.map (fun x => if x.1 = w then (x.1, v) else x)) = keys p := by
  unfold keys
  rw [List.map_map]
  refine List.map_congr_left fun x _ => ?_
  show (if x.1 = w then (x.1, v) else x).1 = x.1
  split <;> rfl
theorem keys_set (p : P) (w : W) (v : Int) : keys (set p w v) = if w ∈ keys p then keys p else keys p ++ [w] := by
  by_cases h : w ∈ keys p
  · rw [if_pos h, set_in h, keys_map]
  · rw [if_neg h, set_out h]; unfold keys; rw [List.map_append]; rfl
theorem nd_set {p : P} (nd : (keys p).Nodup) (w : W) (v : Int) : (keys (set p w v)).Nodup := by
  rw [keys_set]
  by_cases h : w ∈ keys p
  · rw [if_pos h]; exact nd
  · rw [if_neg h, List.nodup_append]
    refine ⟨nd, by simp, fun a ha b hb => ?_⟩
    have : b = w := by simpa using hb
    rw [this]; rintro rfl; exact h ha
theorem look_map (p : P) (w x : W) (v : Int) : look (p.map (fun y => if y.1 = w then (y.1, v) else y)) x = if x = w then (look p x).map (fun _ => v) else look p x := by
  induction p with
  | nil => rw [List.map_nil, look_nil]; split <;> rfl
  | cons y r ih =>
    obtain ⟨y, c⟩ := y
    rw [List.map_cons]
    show look ((if y = w then (y, v) else (y, c)) :: _) x = _
    have e : (if y = w then (y, v) else (y, c)) = (y, if y = w then v else c) := by split <;> rfl
    rw [e, look_cons, ih, look_cons]
    by_cases h1 : y = x
    · subst h1
      rw [if_pos rfl, if_pos rfl]
      by_cases h2 : y = w
      · rw [if_pos h2, if_pos h2]; rfl
      · rw [if_neg h2, if_neg h2]
    · rw [if_neg h1, if_neg h1]
theorem look_app (p q : P) (x : W) : look (p ++ q) x = if x ∈ keys p then look p x else look q x := by
  induction p with
  | nil => rw [List.nil_append, if_neg (by simp [keys])]
  | cons y r ih =>
    obtain ⟨y, c⟩ := y
    rw [List.cons_append, look_cons, look_cons, ih]
    show _ = if x ∈ y :: keys r then _ else _
    by_cases h : y = x
    · rw [if_pos h, if_pos h, if_pos (by rw [h]; exact List.mem_cons_self)]
    · rw [if_neg h, if_neg h]
      by_cases h2 : x ∈ keys r
      · rw [if_pos h2, if_pos (List.mem_cons_of_mem _ h2)]
      · rw [if_neg h2, if_neg]
        rw [List.mem_cons]
        rintro (z | z)
        · exact h z.symm
        · exact h2 z
theorem look_set (p : P) (w x : W) (v : Int) : look (set p w v) x = if x = w then some v else look p x := by
  by_cases h : w ∈ keys p
  · rw [set_in h, look_map]
    by_cases q : x = w
    · subst q
      rw [if_pos rfl, if_pos rfl]
      cases e : look p x with
      | none => exact absurd h (look_none.mp e)
      | some c => rfl
    · rw [if_neg q, if_neg q]
  · rw [set_out h, look_app]
    by_cases q : x = w
    · subst q
      rw [if_neg h, if_pos rfl, look_cons, if_pos rfl]
    · rw [if_neg q]
      by_cases hx : x ∈ keys p
      · rw [if_pos hx]
      · rw [if_neg hx, look_cons, if_neg fun z => q z.symm, look_nil, look_none.mpr hx]
theorem look_del (p : P) (w x : W) : look (del p w) x = if x = w then none else look p x := by
  induction p with
  | nil => show look [] x = _; rw [look_nil]; split <;> rfl
  | cons y r ih =>
    obtain ⟨y, c⟩ := y
    unfold del at ih ⊢
    rw [List.filter_cons]
    by_cases h : y = w
    · subst h
      rw [if_neg (by simp), ih, look_cons]
      by_cases q : x = y
      · rw [if_pos q, if_pos q]
      · rw [if_neg q, if_neg q, if_neg fun z => q z.symm]
    · rw [if_pos (by simpa using h), look_cons, ih, look_cons]
      by_cases q : y = x
      · subst q
        rw [if_pos rfl, if_neg h, if_pos rfl]
      · rw [if_neg q, if_neg q]
theorem get_set (p : P) (w x : W) (v : Int) : get (set p w v) x = if x = w then v else get p x := by
  unfold get; rw [look_set]; split <;> rfl
theorem get_del (p : P) (w x : W) : get (del p w) x = if x = w then 0 else get p x := by
  unfold get; rw [look_del]; split <;> rfl
theorem get_put (p : P) (w x : W) (c : Int) : get (put p w c) x = get p x + if x = w then c else 0 := by
  unfold put
  by_cases h : get p w + c = 0
  · rw [if_pos h, get_del]
    by_cases q : x = w
    · rw [if_pos q, if_pos q, q, h]
    · rw [if_neg q, if_neg q, get_set, if_neg q, Int.add_zero]
  · rw [if_neg h, get_set]
    by_cases q : x = w
    · rw [if_pos q, if_pos q, q]
    · rw [if_neg q, if_neg q, Int.add_zero]
theorem keys_del (p : P) (w : W) : keys (del p w) = (keys p).filter fun x => decide (x ≠ w) := by
  unfold keys del
  rw [List.filter_map]
  rfl
theorem Nrm.nil : Nrm [] := ⟨List.nodup_nil, fun _ h => by cases h⟩
theorem Nrm.put {p : P} (n : Nrm p) (w : W) (c : Int) : Nrm (put p w c) := by
  have nzS : ∀ v, v ≠ 0 → ∀ x ∈ set p w v, x.2 ≠ 0 := fun v hv x hx => by
    by_cases h : w ∈ keys p
    · rw [set_in h] at hx
      obtain ⟨y, hy, rfl⟩ := List.mem_map.mp hx
      show (if y.1 = w then (y.1, v) else y).2 ≠ 0
      split
      · exact hv
      · exact n.nz y hy
    · rw [set_out h] at hx
      rcases List.mem_append.mp hx with hx | hx
      · exact n.nz x hx
      · have : x = (w, v) := by simpa using hx
        rw [this]; exact hv
  unfold TB.put
  by_cases h : get p w + c = 0
  · rw [if_pos h]
    refine ⟨?_, fun x hx => ?_⟩
    · rw [keys_del]
      exact (nd_set n.nd w _).filter _
    · unfold del at hx
      obtain ⟨h1, h2⟩ := List.mem_filter.mp hx
      have h2 : x.1 ≠ w := by simpa using h2
      by_cases hk : w ∈ keys p
      · rw [set_in hk] at h1
        obtain ⟨y, hy, rfl⟩ := List.mem_map.mp h1
        by_cases q : y.1 = w
        · rw [if_pos q] at h2; exact absurd q h2
        · rw [if_neg q]; exact n.nz y hy
      · rw [set_out hk] at h1
        rcases List.mem_append.mp h1 with h1 | h1
        · exact n.nz x h1
        · have : x = (w, get p w + c) := by simpa using h1
          rw [this] at h2; exact absurd rfl h2
  · rw [if_neg h]
    exact ⟨nd_set n.nd w _, nzS _ h⟩
theorem keys_put {p : P} {w : W} {c : Int} {x : W} (h : x ∈ keys (put p w c)) : x ∈ keys p ∨ x = w := by
  have hs : ∀ v, x ∈ keys (set p w v) → x ∈ keys p ∨ x = w := fun v h => by
    rw [keys_set] at h
    by_cases q : w ∈ keys p
    · rw [if_pos q] at h; exact .inl h
    · rw [if_neg q] at h
      rcases List.mem_append.mp h with h | h
      · exact .inl h
      · exact .inr (by simpa using h)
  unfold put at h
  split at h
  · rw [keys_del] at h
    exact hs _ (List.mem_filter.mp h).1
  · exact hs _ h
theorem set_len (p : P) (w : W) (v : Int) : (set p w v).length ≤ p.length + 1 := by
  by_cases h : w ∈ keys p
  · rw [set_in h, List.length_map]; omega
  · rw [set_out h, List.length_append]; exact Nat.le_refl _
theorem put_len (p : P) (w : W) (c : Int) : (put p w c).length ≤ p.length + 1 := by
  unfold put
  split
  · exact Nat.le_trans (List.length_filter_le _ _) (set_len p w _)
  · exact set_len p w _
/-- one word taken out of the pairing -/
theorem pr_del {p : P} (nd : (keys p).Nodup) (w : W) (φ : W → Int) : pr p φ = get p w * φ w + pr (del p w) φ := by
  induction p with
  | nil => show 0 = 0 * φ w + 0; omega
  | cons y r ih =>
    obtain ⟨y, c⟩ := y
    have nd' : (y :: keys r).Nodup := nd
    rw [List.nodup_cons] at nd'
    unfold del
    rw [List.filter_cons, get_cons]
    by_cases h : y = w
    · subst h
      rw [if_pos rfl, if_neg (by simp), pr_cons]
      congr 1
      have e : del r y = r := by
        unfold del
        rw [List.filter_eq_self]
        intro x hx
        have : x.1 ≠ y := fun z => nd'.1 (by rw [← z]; exact List.mem_map.mpr ⟨x, hx, rfl⟩)
        simpa using this
      unfold del at e
      rw [e]
    · rw [if_neg h, if_pos (by simpa using h), pr_cons, pr_cons, ih nd'.2]
      unfold del
      omega
theorem pr_set {p : P} (nd : (keys p).Nodup) (w : W) (v : Int) (φ : W → Int) : pr (set p w v) φ = pr p φ + (v - get p w) * φ w := by
  rw [pr_del (nd_set nd w v) w, get_set, if_pos rfl, pr_del nd w]
  have e : del (set p w v) w = del p w := by
    by_cases h : w ∈ keys p
    · rw [set_in h]
      unfold del
      clear nd h
      induction p with
      | nil => rfl
      | cons y r ih =>
        rw [List.map_cons, List.filter_cons, List.filter_cons, ih]
        by_cases q : y.1 = w
        · rw [if_pos q, if_neg (by simpa using q), if_neg (by simpa using q)]
        · rw [if_neg q]
    · rw [set_out h]
      unfold del
      rw [List.filter_append, List.filter_cons, if_neg (by simp)]
      simp
  rw [e, Int.sub_mul]
  omega
theorem pr_put {p : P} (nd : (keys p).Nodup) (w : W) (c : Int) (φ : W → Int) : pr (put p w c) φ = pr p φ + c * φ w := by
  unfold put
  by_cases h : get p w + c = 0
  · rw [if_pos h]
    have e := pr_del (nd_set nd w (get p w + c)) w φ
    rw [pr_set nd, get_set, if_pos rfl] at e
    have e2 : (get p w + c - get p w) = c := by omega
    have e3 : (get p w + c) * φ w = 0 := by rw [h, Int.zero_mul]
    rw [e2, e3] at e
    omega
  · rw [if_neg h, pr_set nd]
    have e2 : get p w + c - get p w = c := by omega
    rw [e2]
theorem pr_dw {p : P} (nd : (keys p).Nodup) (w : W) : pr p (dw w) = get p w := by
  rw [pr_del nd w, dw_same, Int.mul_one]
  have e : pr (del p w) (dw w) = pr (del p w) (fun _ => 0) := pr_congr fun x hx => by
    have : x.1 ≠ w := by
      have := (List.mem_filter.mp hx).2
      simpa using this
    exact dw_ne this
  rw [e, pr_zero, Int.add_zero]
theorem nd_del {p : P} (nd : (keys p).Nodup) (w : W) : (keys (del p w)).Nodup := by rw [keys_del]; exact nd.filter _
theorem len_sub : ∀ {l m : List W}, l.Nodup → (∀ x ∈ l, x ∈ m) → l.length ≤ m.length
  | [], _, _, _ => Nat.zero_le _
  | a :: l, m, nd, h => by
    rw [List.nodup_cons] at nd
    have ha := h a List.mem_cons_self
    have := len_sub (l := l) (m := m.erase a) nd.2 fun x hx => (List.mem_erase_of_ne (by rintro rfl; exact nd.1 hx)).mpr (h x (List.mem_cons_of_mem _ hx))
    have e := List.length_erase_of_mem ha
    have := List.length_pos_of_mem ha
    rw [List.length_cons]
    omega
/-- two that tell the same of each word pair the same -/
theorem pr_ext : ∀ {p q : P}, (keys p).Nodup → (keys q).Nodup → (∀ w, get p w = get q w) → ∀ φ, pr p φ = pr q φ
  | [], q, _, nq, h, φ => by
    have : ∀ x ∈ q, x.2 = 0 := fun x hx => by
      have := get_mem nq (w := x.1) (c := x.2) hx
      rw [← h] at this
      exact this.symm
    have e : ∀ q : P, (∀ x ∈ q, x.2 = 0) → pr q φ = 0 := fun q => by
      induction q with
      | nil => intro _; rfl
      | cons y r ih =>
        intro hq
        obtain ⟨y, c⟩ := y
        have hc : c = 0 := hq (y, c) List.mem_cons_self
        rw [pr_cons, hc, ih fun x hx => hq x (List.mem_cons_of_mem _ hx)]
        omega
    rw [e q this]; rfl
  | (y, c) :: r, q, np, nq, h, φ => by
    have np' : (y :: keys r).Nodup := np
    rw [List.nodup_cons] at np'
    rw [pr_cons, pr_del nq y]
    have hc := h y
    rw [get_cons, if_pos rfl] at hc
    rw [← hc]
    congr 1
    refine pr_ext np'.2 (nd_del nq y) (fun w => ?_) φ
    have hw := h w
    rw [get_cons] at hw
    rw [get_del]
    by_cases q : w = y
    · rw [if_pos q, q]; exact get_not np'.1
    · rw [if_neg q, ← hw, if_neg fun z => q z.symm]
theorem pr_iff {p q : P} (np : (keys p).Nodup) (nq : (keys q).Nodup) : (∀ w, get p w = get q w) ↔ ∀ φ, pr p φ = pr q φ :=
  ⟨fun h => pr_ext np nq h, fun h w => by rw [← pr_dw np, ← pr_dw nq, h]⟩
/-- == of two dicts -/
def peq (p q : P) : Bool := p.length == q.length && p.all fun x => decide (look q x.1 = some x.2)
theorem peq_iff {p q : P} (np : Nrm p) (nq : Nrm q) : peq p q = true ↔ ∀ w, get p w = get q w := by
  unfold peq
  rw [Bool.and_eq_true, List.all_eq_true, beq_iff_eq]
  constructor
  · rintro ⟨hl, h⟩ w
    have hsub : ∀ x ∈ keys p, x ∈ keys q := fun x hx => by
      obtain ⟨c, hc⟩ := mem_keys.mp hx
      have := look_some (of_decide_eq_true (h _ hc))
      exact mem_keys.mpr ⟨c, this⟩
    by_cases hw : w ∈ keys p
    · obtain ⟨c, hc⟩ := mem_keys.mp hw
      have := of_decide_eq_true (h _ hc)
      rw [get_mem np.nd hc]
      unfold get
      rw [this]; rfl
    · rw [get_not hw]
      have hw2 : w ∉ keys q := fun hq => by
        have h1 : (w :: keys p).Nodup := List.nodup_cons.mpr ⟨hw, np.nd⟩
        have h2 : ∀ x ∈ w :: keys p, x ∈ keys q := fun x hx => by
          rcases List.mem_cons.mp hx with rfl | hx
          · exact hq
          · exact hsub x hx
        have h3 := len_sub h1 h2
        have l1 : (keys p).length = p.length := List.length_map _
        have l2 : (keys q).length = q.length := List.length_map _
        rw [List.length_cons, l1, l2] at h3
        omega
      rw [get_not hw2]
  · intro h
    have key : ∀ {p q : P}, Nrm p → Nrm q → (∀ w, get p w = get q w) → ∀ x ∈ keys p, x ∈ keys q := fun {p q} np nq h x hx => by
      apply Classical.byContradiction
      intro hq
      have := np.get_ne hx
      rw [h, get_not hq] at this
      exact this rfl
    refine ⟨?_, fun x hx => ?_⟩
    · have h1 := len_sub np.nd (key np nq h)
      have h2 := len_sub nq.nd (key nq np fun w => (h w).symm)
      have l1 : (keys p).length = p.length := List.length_map _
      have l2 : (keys q).length = q.length := List.length_map _
      rw [l1, l2] at h1 h2
      omega
    · have hx' : (x.1, x.2) ∈ p := hx
      have hk := key np nq h x.1 (mem_keys.mpr ⟨x.2, hx'⟩)
      obtain ⟨c, hc⟩ := mem_keys.mp hk
      have e1 := get_mem nq.nd hc
      have e2 := get_mem np.nd hx'
      rw [h, e1] at e2
      rw [← e2, look_mem nq.nd hc]
      exact decide_eq_true rfl
theorem nrm_nil {p : P} (n : Nrm p) (h : ∀ w, get p w = 0) : p = [] := by
  cases p with
  | nil => rfl
  | cons x r =>
    exfalso
    exact n.get_ne (w := x.1) (List.mem_map.mpr ⟨x, List.mem_cons_self, rfl⟩) (h x.1)
/-! ### how great: the number of words, the counts together -/
def tot : P → Nat
  | [] => 0
  | (_, c) :: r => c.natAbs + tot r
theorem tot_app (p q : P) : tot (p ++ q) = tot p + tot q := by
  induction p with
  | nil => exact (Nat.zero_add _).symm
  | cons x r ih => obtain ⟨w, c⟩ := x; rw [List.cons_append]; show c.natAbs + tot (r ++ q) = c.natAbs + tot r + tot q; omega
theorem tot_mem {p : P} {x : W × Int} (h : x ∈ p) : x.2.natAbs ≤ tot p := by
  induction p with
  | nil => cases h
  | cons y r ih =>
    obtain ⟨w, c⟩ := y
    show _ ≤ c.natAbs + tot r
    rcases List.mem_cons.mp h with rfl | h
    · exact Nat.le_add_right _ _
    · exact Nat.le_trans (ih h) (Nat.le_add_left _ _)
theorem tot_get (p : P) (w : W) : (get p w).natAbs ≤ tot p := by
  unfold get
  cases e : look p w with
  | none => exact Nat.zero_le _
  | some c => exact tot_mem (x := (w, c)) (look_some e)
theorem tot_del {p : P} (nd : (keys p).Nodup) (w : W) : tot p = (get p w).natAbs + tot (del p w) := by
  induction p with
  | nil => rfl
  | cons y r ih =>
    obtain ⟨y, c⟩ := y
    have nd' : (y :: keys r).Nodup := nd
    rw [List.nodup_cons] at nd'
    unfold del
    rw [List.filter_cons, get_cons]
    show c.natAbs + tot r = _
    by_cases h : y = w
    · subst h
      rw [if_pos rfl, if_neg (by simp)]
      have e : del r y = r := by
        unfold del
        rw [List.filter_eq_self]
        intro x hx
        have : x.1 ≠ y := fun z => nd'.1 (by rw [← z]; exact List.mem_map.mpr ⟨x, hx, rfl⟩)
        simpa using this
      unfold del at e
      rw [e]
    · rw [if_neg h, if_pos (by simpa using h)]
      show _ = _ + (c.natAbs + tot _)
      have := ih nd'.2
      unfold del at this
      omega
theorem tot_put {p : P} (nd : (keys p).Nodup) (w : W) (c : Int) : tot (put p w c) ≤ tot p + c.natAbs := by
  have e : ∀ v, del (set p w v) w = del p w := fun v => by
    by_cases h : w ∈ keys p
    · rw [set_in h]
      unfold del
      clear nd h
      induction p with
      | nil => rfl
      | cons y r ih =>
        rw [List.map_cons, List.filter_cons, List.filter_cons, ih]
        by_cases q : y.1 = w
        · rw [if_pos q, if_neg (by simpa using q), if_neg (by simpa using q)]
        · rw [if_neg q]
    · rw [set_out h]
      unfold del
      rw [List.filter_append, List.filter_cons, if_neg (by simp)]
      simp
  have h1 := tot_del nd w
  unfold put
  split
  · rw [e]; omega
  · have h2 := tot_del (nd_set nd w (get p w + c)) w
    rw [e, get_set, if_pos rfl] at h2
    rw [h2]
    omega
/-! ### puts one behind the other -/
def puts {α : Type} (k : α → W) (v : α → Int) (l : List α) (f : P) : P := l.foldl (fun f x => put f (k x) (v x)) f
section
variable {α : Type} (k : α → W) (v : α → Int)
theorem puts_nrm : ∀ (l : List α) {f : P}, Nrm f → Nrm (puts k v l f)
  | [], _, n => n
  | x :: r, f, n => puts_nrm r (n.put (k x) (v x))
theorem puts_pr : ∀ (l : List α) {f : P}, Nrm f → ∀ φ, pr (puts k v l f) φ = pr f φ + (l.map fun x => v x * φ (k x)).sum
  | [], f, n, φ => by show pr f φ = pr f φ + 0; omega
  | x :: r, f, n, φ => by
    show pr (puts k v r (put f (k x) (v x))) φ = _
    rw [puts_pr r (n.put (k x) (v x)), pr_put n.nd, List.map_cons, List.sum_cons]
    omega
theorem puts_len : ∀ (l : List α) (f : P), (puts k v l f).length ≤ f.length + l.length
  | [], f => Nat.le_refl _
  | x :: r, f => by
    have h1 := puts_len r (put f (k x) (v x))
    have h2 := put_len f (k x) (v x)
    show (puts k v r (put f (k x) (v x))).length ≤ f.length + (r.length + 1)
    omega
theorem puts_tot : ∀ (l : List α) {f : P}, Nrm f → tot (puts k v l f) ≤ tot f + (l.map fun x => (v x).natAbs).sum
  | [], f, _ => Nat.le_refl _
  | x :: r, f, n => by
    have h1 := puts_tot r (n.put (k x) (v x))
    have h2 := tot_put n.nd (k x) (v x)
    show tot (puts k v r (put f (k x) (v x))) ≤ tot f + ((v x).natAbs :: r.map fun x => (v x).natAbs).sum
    rw [List.sum_cons]
    omega
theorem puts_keys : ∀ {l : List α} {f : P} {w : W}, w ∈ keys (puts k v l f) → w ∈ keys f ∨ ∃ x ∈ l, w = k x
  | [], _, _, h => .inl h
  | x :: r, f, w, h => by
    rcases puts_keys (l := r) (f := put f (k x) (v x)) h with h | ⟨y, hy, e⟩
    · rcases keys_put h with h | h
      · exact .inl h
      · exact .inr ⟨x, List.mem_cons_self, h⟩
    · exact .inr ⟨y, List.mem_cons_of_mem _ hy, e⟩
theorem puts_take {l : List α} {i : Nat} {x : α} (h : l[i]? = some x) (f : P) : puts k v (l.take (i + 1)) f = put (puts k v (l.take i) f) (k x) (v x) := by
  unfold puts
  rw [List.take_add_one, h, List.foldl_append]
  rfl
end
theorem sum_pr (p : P) (φ : W → Int) : (p.map fun x => x.2 * φ x.1).sum = pr p φ := by
  induction p with
  | nil => rfl
  | cons x r ih => obtain ⟨w, c⟩ := x; rw [List.map_cons, List.sum_cons, ih]; rfl
theorem sum_tot (p : P) : (p.map fun x => x.2.natAbs).sum = tot p := by
  induction p with
  | nil => rfl
  | cons x r ih => obtain ⟨w, c⟩ := x; rw [List.map_cons, List.sum_cons, ih]; rfl
/-- each word of the other behind each of the one -/
def times (p q : P) : P := p.foldl (fun f a => puts (fun b => a.1 ++ b.1) (fun b => a.2 * b.2) q f) []
def timesT (q : P) (l : P) (f : P) : P := l.foldl (fun f a => puts (fun b => a.1 ++ b.1) (fun b => a.2 * b.2) q f) f
def twist (p q : P) : P := puts (fun x => x.1) (fun x => 0 - x.2) (times q p) (times p q)
/-- as the laws do it -/
def ltwistT (q : P) (l : P) (f : P) : P := l.foldl (fun f a => q.foldl (fun f b => put (put f (a.1 ++ b.1) (a.2 * b.2)) (b.1 ++ a.1) (0 - a.2 * b.2)) f) f
def ltwist (p q : P) : P := ltwistT q p []
theorem timesT_nrm (q : P) : ∀ (l : P) {f : P}, Nrm f → Nrm (timesT q l f)
  | [], _, n => n
  | a :: r, f, n => timesT_nrm q r (puts_nrm _ _ q n)
theorem times_nrm (p q : P) : Nrm (times p q) := timesT_nrm q p Nrm.nil
theorem timesT_pr (q : P) : ∀ (l : P) {f : P}, Nrm f → ∀ φ, pr (timesT q l f) φ = pr f φ + pr l fun a => pr q fun b => φ (a ++ b)
  | [], f, n, φ => by show pr f φ = pr f φ + 0; omega
  | (a, c) :: r, f, n, φ => by
    show pr (timesT q r (puts _ _ q f)) φ = _
    rw [timesT_pr q r (puts_nrm _ _ q n), puts_pr _ _ q n, pr_cons]
    have e : (q.map fun x => c * x.2 * φ (a ++ x.1)).sum = c * pr q fun b => φ (a ++ b) := by
      rw [← pr_mul, ← sum_pr]
      congr 1
      refine List.map_congr_left fun x _ => ?_
      rw [Int.mul_left_comm, Int.mul_assoc, Int.mul_left_comm]
    show pr f φ + (q.map fun x => c * x.2 * φ (a ++ x.1)).sum + _ = _
    rw [e]
    omega
theorem times_pr (p q : P) (φ : W → Int) : pr (times p q) φ = pr p fun a => pr q fun b => φ (a ++ b) := by
  have := timesT_pr q p Nrm.nil φ
  rw [pr_nil, Int.zero_add] at this
  exact this
theorem twist_nrm (p q : P) : Nrm (twist p q) := puts_nrm _ _ _ (times_nrm p q)
theorem twist_pr (p q : P) (φ : W → Int) : pr (twist p q) φ = pr p fun a => pr q fun b => φ (a ++ b) - φ (b ++ a) := by
  unfold twist
  rw [puts_pr _ _ _ (times_nrm p q), times_pr]
  have e1 : ((times q p).map fun x => (0 - x.2) * φ x.1).sum = - pr (times q p) φ := by
    rw [← pr_neg, ← sum_pr]
    congr 1
    refine List.map_congr_left fun x _ => ?_
    rw [Int.zero_sub, Int.neg_mul, Int.mul_neg]
  rw [e1, times_pr]
  have e2 : (pr q fun b => pr p fun a => φ (b ++ a)) = pr p fun a => pr q fun b => φ (b ++ a) := ((lin_pr p).pr q _).symm
  rw [e2, ← Int.sub_eq_add_neg, ← pr_sub]
  exact pr_congr fun x _ => (pr_sub q _ _).symm
theorem ltwistT_nrm (q : P) : ∀ (l : P) {f : P}, Nrm f → Nrm (ltwistT q l f)
  | [], _, n => n
  | a :: r, f, n => ltwistT_nrm q r (by
    have : ∀ (q : P) {f : P}, Nrm f → Nrm (q.foldl (fun f b => put (put f (a.1 ++ b.1) (a.2 * b.2)) (b.1 ++ a.1) (0 - a.2 * b.2)) f) := fun q => by
      induction q with
      | nil => intro f n; exact n
      | cons b t ih => intro f n; exact ih ((n.put _ _).put _ _)
    exact this q n)
theorem ltwist_nrm (p q : P) : Nrm (ltwist p q) := ltwistT_nrm q p Nrm.nil
theorem ltwistT_pr (q : P) : ∀ (l : P) {f : P}, Nrm f → ∀ φ, pr (ltwistT q l f) φ = pr f φ + pr l fun a => pr q fun b => φ (a ++ b) - φ (b ++ a)
  | [], f, n, φ => by show pr f φ = pr f φ + 0; omega
  | (a, c) :: r, f, n, φ => by
    have inner : ∀ (q : P) {f : P}, Nrm f → Nrm (q.foldl (fun f b => put (put f (a ++ b.1) (c * b.2)) (b.1 ++ a) (0 - c * b.2)) f) ∧
        pr (q.foldl (fun f b => put (put f (a ++ b.1) (c * b.2)) (b.1 ++ a) (0 - c * b.2)) f) φ = pr f φ + c * pr q fun b => φ (a ++ b) - φ (b ++ a) := fun q => by
      induction q with
      | nil => intro f n; exact ⟨n, by show pr f φ = pr f φ + c * 0; omega⟩
      | cons b t ih =>
        intro f n
        obtain ⟨b, d⟩ := b
        obtain ⟨h1, h2⟩ := ih ((n.put (a ++ b) (c * d)).put (b ++ a) (0 - c * d))
        refine ⟨h1, ?_⟩
        show pr (t.foldl _ (put (put f (a ++ b) (c * d)) (b ++ a) (0 - c * d))) φ = _
        rw [h2, pr_put (n.put _ _).nd, pr_put n.nd, pr_cons, Int.mul_add]
        have e1 : c * (d * (φ (a ++ b) - φ (b ++ a))) = c * d * φ (a ++ b) - c * d * φ (b ++ a) := by rw [← Int.mul_assoc, Int.mul_sub]
        have e2 : (0 - c * d) * φ (b ++ a) = - (c * d * φ (b ++ a)) := by rw [Int.zero_sub, Int.neg_mul]
        rw [e1, e2]
        omega
    obtain ⟨h1, h2⟩ := inner q n
    show pr (ltwistT q r (q.foldl _ f)) φ = _
    rw [ltwistT_pr q r h1, h2, pr_cons]
    omega
theorem ltwist_pr (p q : P) (φ : W → Int) : pr (ltwist p q) φ = pr p fun a => pr q fun b => φ (a ++ b) - φ (b ++ a) := by
  have := ltwistT_pr q p Nrm.nil φ
  rw [pr_nil, Int.zero_add] at this
  exact this
/-! bounds -/
theorem timesT_len (q : P) : ∀ (l f : P), (timesT q l f).length ≤ f.length + l.length * q.length
  | [], f => by show f.length ≤ f.length + 0 * q.length; omega
  | a :: r, f => by
    have h1 := timesT_len q r (puts (fun b => a.1 ++ b.1) (fun b => a.2 * b.2) q f)
    have h2 := puts_len (fun b : W × Int => a.1 ++ b.1) (fun b => a.2 * b.2) q f
    show (timesT q r (puts _ _ q f)).length ≤ f.length + (r.length + 1) * q.length
    rw [Nat.add_mul, Nat.one_mul]
    omega
theorem times_len (p q : P) : (times p q).length ≤ p.length * q.length := by
  have := timesT_len q p []
  rw [List.length_nil, Nat.zero_add] at this
  exact this
theorem twist_len (p q : P) : (twist p q).length ≤ 2 * (p.length * q.length) := by
  have h1 := puts_len (fun x : W × Int => x.1) (fun x => 0 - x.2) (times q p) (times p q)
  have h2 := times_len p q
  have h3 := times_len q p
  rw [Nat.mul_comm q.length] at h3
  show (puts _ _ (times q p) (times p q)).length ≤ _
  omega
theorem timesT_tot (q : P) : ∀ (l : P) {f : P}, Nrm f → tot (timesT q l f) ≤ tot f + tot l * tot q
  | [], f, _ => by show tot f ≤ tot f + 0 * tot q; omega
  | (a, c) :: r, f, n => by
    have h1 := timesT_tot q r (puts_nrm (fun b => a ++ b.1) (fun b => c * b.2) q n)
    have h2 := puts_tot (fun b : W × Int => a ++ b.1) (fun b => c * b.2) q n
    have e : (q.map fun x => (c * x.2).natAbs).sum = c.natAbs * tot q := by
      rw [← sum_tot]
      clear h1 h2
      induction q with
      | nil => exact (Nat.mul_zero _).symm
      | cons y t ih => rw [List.map_cons, List.sum_cons, List.map_cons, List.sum_cons, ih, Nat.mul_add, Int.natAbs_mul]
    show tot (timesT q r (puts (fun b => a ++ b.1) (fun b => c * b.2) q f)) ≤ tot f + (c.natAbs + tot r) * tot q
    rw [Nat.add_mul]
    rw [e] at h2
    omega
theorem times_tot (p q : P) : tot (times p q) ≤ tot p * tot q := by
  have := timesT_tot q p Nrm.nil
  rw [show tot [] = 0 from rfl, Nat.zero_add] at this
  exact this
theorem twist_tot (p q : P) : tot (twist p q) ≤ 2 * (tot p * tot q) := by
  have h1 := puts_tot (fun x : W × Int => x.1) (fun x => 0 - x.2) (times q p) (times_nrm p q)
  have h2 := times_tot p q
  have h3 := times_tot q p
  have e : ((times q p).map fun x => (0 - x.2).natAbs).sum = tot (times q p) := by
    rw [← sum_tot]
    congr 1
    refine List.map_congr_left fun x _ => ?_
    omega
  rw [Nat.mul_comm (tot q)] at h3
  show tot (puts _ _ (times q p) (times p q)) ≤ _
  omega
theorem ltwistT_len (q : P) : ∀ (l f : P), (ltwistT q l f).length ≤ f.length + 2 * (l.length * q.length)
  | [], f => by show f.length ≤ f.length + 2 * (0 * q.length); omega
  | a :: r, f => by
    have inner : ∀ (q f : P), (q.foldl (fun f b => put (put f (a.1 ++ b.1) (a.2 * b.2)) (b.1 ++ a.1) (0 - a.2 * b.2)) f).length ≤ f.length + 2 * q.length := fun q => by
      induction q with
      | nil => intro f; exact Nat.le_refl _
      | cons b t ih =>
        intro f
        have h1 := ih (put (put f (a.1 ++ b.1) (a.2 * b.2)) (b.1 ++ a.1) (0 - a.2 * b.2))
        have h2 := put_len (put f (a.1 ++ b.1) (a.2 * b.2)) (b.1 ++ a.1) (0 - a.2 * b.2)
        have h3 := put_len f (a.1 ++ b.1) (a.2 * b.2)
        show (t.foldl _ (put (put f (a.1 ++ b.1) (a.2 * b.2)) (b.1 ++ a.1) (0 - a.2 * b.2))).length ≤ f.length + 2 * (t.length + 1)
        omega
    have h1 := ltwistT_len q r (q.foldl (fun f b => put (put f (a.1 ++ b.1) (a.2 * b.2)) (b.1 ++ a.1) (0 - a.2 * b.2)) f)
    have h2 := inner q f
    show (ltwistT q r (q.foldl _ f)).length ≤ f.length + 2 * ((r.length + 1) * q.length)
    rw [Nat.add_mul, Nat.one_mul]
    omega
theorem ltwist_len (p q : P) : (ltwist p q).length ≤ 2 * (p.length * q.length) := by
  have := ltwistT_len q p []
  rw [List.length_nil, Nat.zero_add] at this
  exact this
theorem ltwistT_tot (q : P) : ∀ (l : P) {f : P}, Nrm f → tot (ltwistT q l f) ≤ tot f + 2 * (tot l * tot q)
  | [], f, _ => by show tot f ≤ tot f + 2 * (0 * tot q); omega
  | (a, c) :: r, f, n => by
    have inner : ∀ (q : P) {f : P}, Nrm f → Nrm (q.foldl (fun f b => put (put f (a ++ b.1) (c * b.2)) (b.1 ++ a) (0 - c * b.2)) f) ∧
        tot (q.foldl (fun f b => put (put f (a ++ b.1) (c * b.2)) (b.1 ++ a) (0 - c * b.2)) f) ≤ tot f + 2 * (c.natAbs * tot q) := fun q => by
      induction q with
      | nil => intro f n; exact ⟨n, by show tot f ≤ tot f + 2 * (c.natAbs * 0); omega⟩
      | cons b t ih =>
        intro f n
        obtain ⟨b, d⟩ := b
        obtain ⟨h1, h2⟩ := ih ((n.put (a ++ b) (c * d)).put (b ++ a) (0 - c * d))
        refine ⟨h1, ?_⟩
        have h3 := tot_put (n.put (a ++ b) (c * d)).nd (b ++ a) (0 - c * d)
        have h4 := tot_put n.nd (a ++ b) (c * d)
        show tot (t.foldl _ (put (put f (a ++ b) (c * d)) (b ++ a) (0 - c * d))) ≤ tot f + 2 * (c.natAbs * (d.natAbs + tot t))
        have e1 : (0 - c * d).natAbs = c.natAbs * d.natAbs := by rw [Int.zero_sub, Int.natAbs_neg, Int.natAbs_mul]
        have e2 : (c * d).natAbs = c.natAbs * d.natAbs := Int.natAbs_mul _ _
        rw [Nat.mul_add]
        omega
    obtain ⟨h1, h2⟩ := inner q n
    have h3 := ltwistT_tot q r h1
    show tot (ltwistT q r (q.foldl (fun f b => put (put f (a ++ b.1) (c * b.2)) (b.1 ++ a) (0 - c * b.2)) f)) ≤ tot f + 2 * ((c.natAbs + tot r) * tot q)
    rw [Nat.add_mul]
    omega
theorem ltwist_tot (p q : P) : tot (ltwist p q) ≤ 2 * (tot p * tot q) := by
  have := ltwistT_tot q p Nrm.nil
  rw [show tot [] = 0 from rfl, Nat.zero_add] at this
  exact this
/-! keys -/
theorem timesT_keys (q : P) : ∀ {l f : P} {w : W}, w ∈ keys (timesT q l f) → w ∈ keys f ∨ ∃ a ∈ keys l, ∃ b ∈ keys q, w = a ++ b
  | [], _, _, h => .inl h
  | a :: r, f, w, h => by
    rcases timesT_keys q (l := r) h with h | ⟨x, hx, b, hb, e⟩
    · rcases puts_keys _ _ h with h | ⟨b, hb, e⟩
      · exact .inl h
      · exact .inr ⟨a.1, List.mem_cons_self, b.1, List.mem_map.mpr ⟨b, hb, rfl⟩, e⟩
    · exact .inr ⟨x, List.mem_cons_of_mem _ hx, b, hb, e⟩
theorem times_keys {p q : P} {w : W} (h : w ∈ keys (times p q)) : ∃ a ∈ keys p, ∃ b ∈ keys q, w = a ++ b := by
  rcases timesT_keys q (l := p) (f := []) h with h | h
  · cases h
  · exact h
theorem twist_keys {p q : P} {w : W} (h : w ∈ keys (twist p q)) : ∃ a ∈ keys p, ∃ b ∈ keys q, w = a ++ b ∨ w = b ++ a := by
  rcases puts_keys _ _ h with h | ⟨x, hx, e⟩
  · obtain ⟨a, ha, b, hb, e⟩ := times_keys h
    exact ⟨a, ha, b, hb, .inl e⟩
  · obtain ⟨b, hb, a, ha, e2⟩ := times_keys (p := q) (q := p) (w := x.1) (List.mem_map.mpr ⟨x, hx, rfl⟩)
    exact ⟨a, ha, b, hb, .inr (e.trans e2)⟩
theorem ltwistT_keys (q : P) : ∀ {l f : P} {w : W}, w ∈ keys (ltwistT q l f) → w ∈ keys f ∨ ∃ a ∈ keys l, ∃ b ∈ keys q, w = a ++ b ∨ w = b ++ a
  | [], _, _, h => .inl h
  | a :: r, f, w, h => by
    have inner : ∀ {q f : P} {w : W}, w ∈ keys (q.foldl (fun f b => put (put f (a.1 ++ b.1) (a.2 * b.2)) (b.1 ++ a.1) (0 - a.2 * b.2)) f) → w ∈ keys f ∨ ∃ b ∈ keys q, w = a.1 ++ b ∨ w = b ++ a.1 := fun {q} => by
      induction q with
      | nil => intro f w h; exact .inl h
      | cons b t ih =>
        intro f w h
        rcases ih (f := put (put f (a.1 ++ b.1) (a.2 * b.2)) (b.1 ++ a.1) (0 - a.2 * b.2)) h with h | ⟨x, hx, e⟩
        · rcases keys_put h with h | h
          · rcases keys_put h with h | h
            · exact .inl h
            · exact .inr ⟨b.1, List.mem_cons_self, .inl h⟩
          · exact .inr ⟨b.1, List.mem_cons_self, .inr h⟩
        · exact .inr ⟨x, List.mem_cons_of_mem _ hx, e⟩
    rcases ltwistT_keys q (l := r) h with h | ⟨x, hx, b, hb, e⟩
    · rcases inner h with h | ⟨b, hb, e⟩
      · exact .inl h
      · exact .inr ⟨a.1, List.mem_cons_self, b, hb, e⟩
    · exact .inr ⟨x, List.mem_cons_of_mem _ hx, b, hb, e⟩
theorem ltwist_keys {p q : P} {w : W} (h : w ∈ keys (ltwist p q)) : ∃ a ∈ keys p, ∃ b ∈ keys q, w = a ++ b ∨ w = b ++ a := by
  rcases ltwistT_keys q (l := p) (f := []) h with h | h
  · cases h
  · exact h
/-! ### a bracket's counts -/
def cnt : Br → P
  | .leaf c => [([c], 1)]
  | .node l r => twist (cnt l) (cnt r)
def lcnt : Br → P
  | .leaf c => [([c], 1)]
  | .node l r => ltwist (lcnt l) (lcnt r)
theorem one_nrm (w : W) {c : Int} (h : c ≠ 0) : Nrm [(w, c)] := by
  refine ⟨by simp [keys], fun x hx => ?_⟩
  have e : x = (w, c) := by simpa using hx
  rw [e]; exact h
theorem cnt_nrm : ∀ t : Br, Nrm (cnt t)
  | .leaf c => one_nrm _ (by decide)
  | .node l r => twist_nrm _ _
theorem lcnt_nrm : ∀ t : Br, Nrm (lcnt t)
  | .leaf c => one_nrm _ (by decide)
  | .node l r => ltwist_nrm _ _
theorem cnt_pr : ∀ (t : Br) (φ : W → Int), pr (cnt t) φ = br t φ
  | .leaf c, φ => by show 1 * φ [c] + 0 = φ [c]; omega
  | .node l r, φ => by
    show pr (twist (cnt l) (cnt r)) φ = _
    rw [twist_pr, cnt_pr l, br_node]
    congr 1; funext a
    exact cnt_pr r _
theorem lcnt_pr : ∀ (t : Br) (φ : W → Int), pr (lcnt t) φ = br t φ
  | .leaf c, φ => by show 1 * φ [c] + 0 = φ [c]; omega
  | .node l r, φ => by
    show pr (ltwist (lcnt l) (lcnt r)) φ = _
    rw [ltwist_pr, lcnt_pr l, br_node]
    congr 1; funext a
    exact lcnt_pr r _
theorem cnt_keys : ∀ {t : Br} {w : W}, w ∈ keys (cnt t) → w ∈ ws t
  | .leaf c, w, h => h
  | .node l r, w, h => by
    obtain ⟨a, ha, b, hb, e⟩ := twist_keys h
    exact mem_ws_node.mpr ⟨a, cnt_keys ha, b, cnt_keys hb, e⟩
theorem lcnt_keys : ∀ {t : Br} {w : W}, w ∈ keys (lcnt t) → w ∈ ws t
  | .leaf c, w, h => h
  | .node l r, w, h => by
    obtain ⟨a, ha, b, hb, e⟩ := ltwist_keys h
    exact mem_ws_node.mpr ⟨a, lcnt_keys ha, b, lcnt_keys hb, e⟩
theorem pow_two_wt (l r : Br) : 2 * (2 ^ (l.wt - 1) * 2 ^ (r.wt - 1)) = 2 ^ ((Br.node l r).wt - 1) := by
  have h1 := l.wt_pos
  have h2 := r.wt_pos
  have e : (Br.node l r).wt - 1 = (l.wt - 1) + (r.wt - 1) + 1 := by show l.wt + r.wt - 1 = _; omega
  rw [e, Nat.pow_succ, Nat.pow_add]
  omega
theorem cnt_len : ∀ t : Br, (cnt t).length ≤ 2 ^ (t.wt - 1)
  | .leaf c => Nat.le_refl 1
  | .node l r => by
    have h := twist_len (cnt l) (cnt r)
    have h2 := Nat.mul_le_mul (cnt_len l) (cnt_len r)
    rw [← pow_two_wt]
    show (twist (cnt l) (cnt r)).length ≤ _
    omega
theorem cnt_tot : ∀ t : Br, tot (cnt t) ≤ 2 ^ (t.wt - 1)
  | .leaf c => Nat.le_refl 1
  | .node l r => by
    have h := twist_tot (cnt l) (cnt r)
    have h2 := Nat.mul_le_mul (cnt_tot l) (cnt_tot r)
    rw [← pow_two_wt]
    show tot (twist (cnt l) (cnt r)) ≤ _
    omega
theorem lcnt_len : ∀ t : Br, (lcnt t).length ≤ 2 ^ (t.wt - 1)
  | .leaf c => Nat.le_refl 1
  | .node l r => by
    have h := ltwist_len (lcnt l) (lcnt r)
    have h2 := Nat.mul_le_mul (lcnt_len l) (lcnt_len r)
    rw [← pow_two_wt]
    show (ltwist (lcnt l) (lcnt r)).length ≤ _
    omega
theorem lcnt_tot : ∀ t : Br, tot (lcnt t) ≤ 2 ^ (t.wt - 1)
  | .leaf c => Nat.le_refl 1
  | .node l r => by
    have h := ltwist_tot (lcnt l) (lcnt r)
    have h2 := Nat.mul_le_mul (lcnt_tot l) (lcnt_tot r)
    rw [← pow_two_wt]
    show tot (ltwist (lcnt l) (lcnt r)) ≤ _
    omega
end TB
/-! ## TbBase -/
/-! What all the walks use: where a def stands, its call; texts as lists of codes; counts as dicts of the heap; loops over a locked dict. -/
namespace TB
open PySem PySem.Spec PyProof.Rows L2
/-! ### a def of the top -/
structure DefAt (K : PySem.W.Frag) (mg : Str → Option Value) (x : Str) (st : Stmt) (ps : List Str) where
  f : Addr
  fd : FuncData
  F : Fun K x x st f fd
  gm : mg x = some (.ref f)
  b : Binds K fd ps []
/-- the built-ins that the text calls are the built-ins still -/
structure Blt (mg : Str → Option Value) : Prop where
  len : mg "len" = none
  isinstance : mg "isinstance" = none
  str : mg "str" = none
  int : mg "int" = none
  bool : mg "bool" = none
  list : mg "list" = none
  tuple : mg "tuple" = none
  dict : mg "dict" = none
  set : mg "set" = none
  sorted : mg "sorted" = none
  min : mg "min" = none
  max : mg "max" = none
  sum : mg "sum" = none
  abs : mg "abs" = none
  all : mg "all" = none
  range : mg "range" = none
  zip : mg "zip" = none
  enumerate : mg "enumerate" = none
  reversed : mg "reversed" = none
  ValueError : mg "ValueError" = none
section
variable {X : Cx} {k k' : Nat} {x : Str} {st : Stmt} {ps : List Str} {sp : Sp} {e : Expr} {es : List Expr} {t : TA} {p pos : Pos}
/-- a call of a def that raises nothing -/
theorem cl (D : DefAt X.K X.mg x st ps) (G : FnOk X.prog X.w X.K X.mg X.base CX0 k D.f D.fd ps sp) (hr : Room k' X.A) (ha : PA X (e :: es) t) (hk : k ≤ k' := by decide) (hg : Gl X x := by rfl)
    (hdb : (x == ("__debug__" : Str)) = false := by decide) (he : starEach (e :: es) X.env = (false, eval e X.env) :: starEach es X.env := by rfl) (hpl : (backTo pos (starEach es X.env)).any (·.1) = false := by rfl) :
    PE X (.Call (.Name x p) (e :: es) [] pos) (tCall sp [] E0 t) := pe_call G (hr.mono hk) hg D.gm D.F.kp D.b .nil pass0 ha hdb he hpl
/-- .. that raises nothing here -/
theorem clN (D : DefAt X.K X.mg x st ps) (G : FnOk X.prog X.w X.K X.mg X.base (L2.CX X.prog X.w) k D.f D.fd ps sp) (hr : Room k' X.A) (ha : PA X (e :: es) t) (hk : k ≤ k' := by decide) (hg : Gl X x := by rfl)
    (hdb : (x == ("__debug__" : Str)) = false := by decide) (he : starEach (e :: es) X.env = (false, eval e X.env) :: starEach es X.env := by rfl) (hpl : (backTo pos (starEach es X.env)).any (·.1) = false := by rfl) :
    PE X (.Call (.Name x p) (e :: es) [] pos) (tCall sp [] E0 t) := pe_call G (hr.mono hk) hg D.gm D.F.kp D.b .nil passL ha hdb he hpl
/-- .. whose exceptions leave the def that calls -/
theorem clX {E : XK} {Q1 : Value → Shared → Prop} (D : DefAt X.K X.mg x st ps) (G : FnOk X.prog X.w X.K X.mg X.base (L2.CX X.prog X.w) k D.f D.fd ps sp) (hr : Room k' X.A) (hx : Passes (L2.CX X.prog X.w) X E) (ha : PA X (e :: es) t) (hk : k ≤ k' := by decide) (hg : Gl X x := by rfl)
    (hdb : (x == ("__debug__" : Str)) = false := by decide) (he : starEach (e :: es) X.env = (false, eval e X.env) :: starEach es X.env := by rfl) (hpl : (backTo pos (starEach es X.env)).any (·.1) = false := by rfl) :
    PE X (.Call (.Name x p) (e :: es) [] pos) (tCall sp [] E t) := pe_call G (hr.mono hk) hg D.gm D.F.kp D.b .nil hx ha hdb he hpl
/-- .. in a try's body -/
theorem clS {W : WX} (D : DefAt X.K X.mg x st ps) (G : FnOk X.prog X.w X.K X.mg X.base (L2.CX X.prog X.w) k D.f D.fd ps sp) (hr : Room k' X.A) (tk : Takes X W) (ha : PA X (e :: es) t) (hk : k ≤ k' := by decide) (hg : Gl X x := by rfl)
    (hdb : (x == ("__debug__" : Str)) = false := by decide) (he : starEach (e :: es) X.env = (false, eval e X.env) :: starEach es X.env := by rfl) (hpl : (backTo pos (starEach es X.env)).any (·.1) = false := by rfl) :
    PE X (.Call (.Name x p) (e :: es) [] pos) (tCallS sp (WE W) t) := pe_callS G (hr.mono hk) hg D.gm D.F.kp D.b (fun σ => passAt tk σ) ha hdb he hpl
end
/-! ### heaps -/
theorem new_same {H : Hp} {p : Addr} {o : HO} (h : H p = none) : Same H (upd H p o) := fun b u e => by rw [upd_ne (ne_of_none e h)]; exact e
/-- what H does not know may change -/
theorem Same.mut {H H' : Hp} {p : Addr} {o : HO} (e : Same H H') (h : H p = none) : Same H (upd H' p o) := fun a u ha => by
  rw [upd_ne (ne_of_none ha h)]
  exact e a u ha
theorem Same.tup {K : PySem.W.Frag} {H H' : Hp} {a : Addr} {xs : List V} (e : Same H H') (h : SqT K H a xs) : SqT K H' a xs := by
  rcases h with (h | ⟨o, h⟩) | h
  · exact .inl (.inl (e _ _ h))
  · exact .inl (.inr ⟨o, e _ _ h⟩)
  · exact .inr h
theorem Same.rd {H H' : Hp} {a : Addr} {u : HO} (e : Same H H') (h : Rd H a u) : Rd H' a u := by
  rcases h with h | ⟨o, h⟩
  · exact .inl (e _ _ h)
  · exact .inr ⟨o, e _ _ h⟩
/-! ### texts as lists of codes -/
def sOf (w : W) : Str := ⟨w.toArray⟩
theorem sOf_inj {a b : W} (h : sOf a = sOf b) : a = b := by
  have := congrArg (fun s : Str => s.cps.toList) h
  simpa [sOf] using this
theorem sOf_cps (w : W) : (sOf w).cps.toList = w := by simp [sOf]
theorem sOf_len (w : W) : (sOf w).length = w.length := by simp [sOf, PySem.Str.length]
theorem sOf_app (a b : W) : sOf a ++ sOf b = sOf (a ++ b) := by
  show PySem.Str.append (sOf a) (sOf b) = _
  simp [PySem.Str.append, sOf]
theorem sOf_of (s : Str) : s = sOf s.cps.toList := by
  cases s with
  | mk c => simp [sOf]
theorem sOf_eq {a b : W} : (sOf a = sOf b) ↔ a = b := ⟨sOf_inj, fun h => by rw [h]⟩
theorem dec_str (a b : W) : decide (V.str (sOf a) = V.str (sOf b)) = decide (a = b) := by
  by_cases h : a = b
  · rw [h, decide_eq_true rfl, decide_eq_true rfl]
  · rw [decide_eq_false h, decide_eq_false fun z => h (sOf_inj (V.str.inj z))]
theorem one_sign (c : Nat) : (⟨#[c]⟩ : Str) = sOf [c] := rfl
abbrev tx (w : W) : V := .str (sOf w)
theorem cutS_from (w : W) (k : Nat) : cutS (sOf w) (some (k : Int)) none = sOf (w.drop k) := by
  unfold cutS
  rw [sOf_len, sOf_cps, show HT.sIx w.length 0 (some (k : Int)) = min k w.length from HT.sIx_nat _ _ _, HT.sIx_none]
  show sOf _ = sOf _
  congr 1
  rcases Nat.le_total k w.length with h | h
  · rw [Nat.min_eq_left h, List.take_of_length_le (by rw [List.length_drop]; omega)]
  · rw [Nat.min_eq_right h, List.drop_eq_nil_of_le (Nat.le_refl _), List.drop_eq_nil_of_le h, List.take_nil]
theorem cutS_to (w : W) (k : Nat) : cutS (sOf w) none (some (k : Int)) = sOf (w.take k) := by
  unfold cutS
  rw [sOf_len, sOf_cps, show HT.sIx w.length w.length (some (k : Int)) = min k w.length from HT.sIx_nat _ _ _, HT.sIx_none, List.drop_zero, Nat.sub_zero]
  show sOf _ = sOf _
  congr 1
  rcases Nat.le_total k w.length with h | h
  · rw [Nat.min_eq_left h]
  · rw [Nat.min_eq_right h, List.take_of_length_le (Nat.le_refl _), List.take_of_length_le h]
theorem cutS_mid (w : W) (j k : Nat) : cutS (sOf w) (some (j : Int)) (some (k : Int)) = sOf ((w.drop j).take (k - j)) := by
  unfold cutS
  rw [sOf_len, sOf_cps, show HT.sIx w.length w.length (some (k : Int)) = min k w.length from HT.sIx_nat _ _ _, show HT.sIx w.length 0 (some (j : Int)) = min j w.length from HT.sIx_nat _ _ _]
  show sOf _ = sOf _
  congr 1
  rcases Nat.le_total j w.length with h | h
  · rw [Nat.min_eq_left h]
    rcases Nat.le_total k w.length with h2 | h2
    · rw [Nat.min_eq_left h2]
    · rw [Nat.min_eq_right h2, List.take_of_length_le (by rw [List.length_drop]; omega), List.take_of_length_le (by rw [List.length_drop]; omega)]
  · rw [Nat.min_eq_right h, List.drop_eq_nil_of_le (Nat.le_refl _), List.drop_eq_nil_of_le h, List.take_nil, List.take_nil]
theorem small_line {n : Nat} (h : n ≤ 1000000) : n ≤ sizeLine := Nat.le_trans h (by decide)
/-! ### counts as dicts -/
def kv (p : P) : List (Key × V) := p.map fun x => (Sum.inr (sOf x.1), V.int x.2)
theorem kv_len (p : P) : (kv p).length = p.length := List.length_map _
theorem kv_val (p : P) (w : W) : valV (kv p) (Sum.inr (sOf w)) = (look p w).map V.int := by
  induction p with
  | nil => rfl
  | cons x r ih =>
    obtain ⟨y, c⟩ := x
    rw [look_cons]
    by_cases h : y = w
    · subst h
      rw [if_pos rfl]
      exact valV_pos rfl
    · rw [if_neg h, ← ih]
      exact valV_neg fun z => h (sOf_inj (Sum.inr.inj z))
theorem kv_getD (p : P) (w : W) : (valV (kv p) (Sum.inr (sOf w))).getD (.int 0) = .int (get p w) := by
  rw [kv_val]
  unfold get
  cases look p w <;> rfl
theorem any_kv (p : P) (w : W) : ((kv p).any fun x => decide (x.1 = Sum.inr (sOf w))) = (p.any fun x => decide (x.1 = w)) := by
  unfold kv
  rw [List.any_map]
  congr 1
  funext x
  show decide ((Sum.inr (sOf x.1) : Key) = Sum.inr (sOf w)) = decide (x.1 = w)
  by_cases h : x.1 = w
  · rw [h, decide_eq_true rfl, decide_eq_true rfl]
  · rw [decide_eq_false h, decide_eq_false fun z => h (sOf_inj (Sum.inr.inj z))]
theorem kv_put (p : P) (w : W) (c : Int) : putK (kv p) (Sum.inr (sOf w)) (.int c) = kv (set p w c) := by
  unfold putK set
  rw [any_kv]
  split
  · unfold kv
    rw [List.map_map, List.map_map]
    refine List.map_congr_left fun x _ => ?_
    show (if (Sum.inr (sOf x.1) : Key) = Sum.inr (sOf w) then _ else _) = _
    by_cases h : x.1 = w
    · rw [if_pos (by rw [h])]
      show _ = ((Sum.inr (sOf (if x.1 = w then (x.1, c) else x).1) : Key), V.int (if x.1 = w then (x.1, c) else x).2)
      rw [if_pos h]
    · rw [if_neg fun z => h (sOf_inj (Sum.inr.inj z))]
      show _ = ((Sum.inr (sOf (if x.1 = w then (x.1, c) else x).1) : Key), V.int (if x.1 = w then (x.1, c) else x).2)
      rw [if_neg h]
  · unfold kv
    rw [List.map_append]
    rfl
theorem kv_drop (p : P) (w : W) : dropK (kv p) (Sum.inr (sOf w)) = kv (del p w) := by
  unfold dropK del kv
  rw [List.filter_map]
  congr 1
  refine List.filter_congr fun x _ => ?_
  show decide ((Sum.inr (sOf x.1) : Key) ≠ Sum.inr (sOf w)) = decide (x.1 ≠ w)
  by_cases h : x.1 = w
  · rw [h]; simp
  · have h' : ¬ ((Sum.inr (sOf x.1) : Key) = Sum.inr (sOf w)) := fun z => h (sOf_inj (Sum.inr.inj z))
    simp [h, h']
theorem kv_get {p : P} {i : Nat} {k : Key} {v : V} (h : (kv p)[i]? = some (k, v)) : ∃ w c, p[i]? = some (w, c) ∧ k = Sum.inr (sOf w) ∧ v = .int c := by
  unfold kv at h
  rw [List.getElem?_map] at h
  cases e : p[i]? with
  | none => rw [e] at h; cases h
  | some x =>
    obtain ⟨w, c⟩ := x
    rw [e] at h
    cases h
    exact ⟨w, c, rfl, rfl, rfl⟩
/-- at d the counts p stand, to be read -/
def DR (H : Hp) (d : Addr) (p : P) : Prop := Rd H d (.dK (kv p))
theorem DR.of {H : Hp} {d : Addr} {p : P} (h : H d = some (.dK (kv p))) : DR H d p := .inl h
theorem DR.get {H : Hp} {d : Addr} {p : P} (h : DR H d p) (w : W) : DGet H d (tx w) ((look p w).map V.int) := by
  rw [← kv_val]
  exact .inl ⟨kv p, Sum.inr (sOf w), h, rfl, rfl⟩
theorem Same.dr {H H' : Hp} {d : Addr} {p : P} (e : Same H H') (h : DR H d p) : DR H' d p := Same.rd e h
/-! ### for k in d, d locked -/
theorem for_lock {td : TE} {j : Nat} {tb : TS} {D : Ends} {σ : L2.St} {H : Hp} {d : Addr} {kvs : List (Key × V)} (hd : H d = some (.dK kvs)) (ht : ∀ H' (Q : VK), Q (.ref d) H' → td σ H' Q) (Pv : Obj → Nat → L2.St → Hp → Prop)
    (h0 : ∀ od, Pv od 0 σ (upd H d (.frz od (.dK kvs)))) (hst : ∀ od i σ' H', Pv od i σ' H' → H' d = some (.frz od (.dK kvs)))
    (hs : ∀ od i k v σ' H', kvs[i]? = some (k, v) → Pv od i σ' H' → tb { nx := Pv od (i + 1), ct := Pv od (i + 1), rt := fun v H' => H' d = some (.frz od (.dK kvs)) ∧ D.rt v (upd H' d (.dK kvs)), bk := fun σ' H' => H' d = some (.frz od (.dK kvs)) ∧ D.nx σ' (upd H' d (.dK kvs)) } (σ'.set j (some (kV k))) H')
    (he : ∀ od σ' H', Pv od kvs.length σ' H' → D.nx σ' (upd H' d (.dK kvs))) : tLock (tFor (iKeys td) (gName j) tb) D σ H := by
  refine ⟨d, _, hd, trivial, fun od => ?_⟩
  refine ht _ _ ⟨d, od, rfl, .inl ⟨kvs, upd_same, ?_⟩⟩
  refine ⟨fun i m σ' H' => Pv od i σ' H' ∧ i + m = kvs.length, ⟨kvs.length, h0 od, by omega⟩, fun i m σ' H' ⟨hp, hm⟩ => ?_⟩
  have hfz := hst od i σ' H' hp
  by_cases hi : i < kvs.length
  · refine .inr ⟨⟨hfz, hi⟩, Pv od (i + 1), fun σ2 H2 hn => ⟨m - 1, by omega, hn, by omega⟩, fun x H2 hy => ?_⟩
    obtain ⟨rfl, k, v, hk, rfl⟩ := hy
    exact hs od i k v σ' H2 hk hp
  · refine .inl ⟨⟨hfz, by omega⟩, hfz, ?_⟩
    have e : i = kvs.length := by omega
    subst e
    exact he od σ' H' hp
/-- .. locked already -/
theorem for_frz {td : TE} {j : Nat} {tb : TS} {D : Ends} {σ : L2.St} {H : Hp} {d : Addr} {od : Obj} {kvs : List (Key × V)} (hd : H d = some (.frz od (.dK kvs))) (ht : ∀ H' (Q : VK), Q (.ref d) H' → td σ H' Q) (Pv : Nat → L2.St → Hp → Prop)
    (h0 : Pv 0 σ H) (hst : ∀ i σ' H', Pv i σ' H' → H' d = some (.frz od (.dK kvs)))
    (hs : ∀ i k v σ' H', kvs[i]? = some (k, v) → Pv i σ' H' → tb { D with nx := Pv (i + 1), ct := Pv (i + 1), bk := D.nx } (σ'.set j (some (kV k))) H')
    (he : ∀ σ' H', Pv kvs.length σ' H' → D.nx σ' H') : tFor (iKeys td) (gName j) tb D σ H := by
  refine ht _ _ ⟨d, od, rfl, .inl ⟨kvs, hd, ?_⟩⟩
  refine ⟨fun i m σ' H' => Pv i σ' H' ∧ i + m = kvs.length, ⟨kvs.length, h0, by omega⟩, fun i m σ' H' ⟨hp, hm⟩ => ?_⟩
  have hfz := hst i σ' H' hp
  by_cases hi : i < kvs.length
  · refine .inr ⟨⟨hfz, hi⟩, Pv (i + 1), fun σ2 H2 hn => ⟨m - 1, by omega, hn, by omega⟩, fun x H2 hy => ?_⟩
    obtain ⟨rfl, k, v, hk, rfl⟩ := hy
    exact hs i k v σ' H2 hk hp
  · refine .inl ⟨⟨hfz, by omega⟩, ?_⟩
    have e : i = kvs.length := by omega
    subst e
    exact he σ' H' hp
/-! ### brackets in the heap -/
def BrAt (K : PySem.W.Frag) (H : Hp) : V → Br → Prop
  | v, .leaf c => v = tx [c]
  | v, .node l r => ∃ p x y, v = .ref p ∧ SqT K H p [x, y] ∧ BrAt K H x l ∧ BrAt K H y r
theorem BrAt.mono {K : PySem.W.Frag} {H H' : Hp} (e : Same H H') : ∀ {t : Br} {v : V}, BrAt K H v t → BrAt K H' v t
  | .leaf _, _, h => h
  | .node l r, _, ⟨p, x, y, ev, hs, hx, hy⟩ => ⟨p, x, y, ev, Same.tup e hs, hx.mono e, hy.mono e⟩
end TB
/-! ## TbEv -/
/-! Readings that evaluate: texts, slices, isinstance, calls whose results are told by a relation, comprehensions over ranges. -/
namespace TB
open PySem PySem.Spec PyProof.Rows L2 Evl
section
variable {K : PySem.W.Frag} {σ : L2.St} {H H' : Hp} {ta tb te ti tj : TE} {t u : TT} {x y z v : V} {r : R2}
/-! ### told by a relation -/
def Er (te : TE) (σ : L2.St) (H : Hp) (R : V → Hp → Prop) : Prop := ∀ H1, Ex H H1 → ∀ Q : VK, (∀ v H2, Ex H1 H2 → R v H2 → Q v H2) → te σ H1 Q
def Ear (ta : TA) (σ : L2.St) (H : Hp) (R : List V → Hp → Prop) : Prop := ∀ H1, Ex H H1 → ∀ Q : List V → Hp → Prop, (∀ vs H2, Ex H1 H2 → R vs H2 → Q vs H2) → ta σ H1 Q
def SpR (sp : Sp) (vs : List V) (H : Hp) (R : V → Hp → Prop) : Prop := ∀ H1, Ex H H1 → ∀ Q : VK, (∀ v H2, Ex H1 H2 → R v H2 → Q v H2) → ∀ E : XK, sp vs H1 Q E
theorem Er.mono {R : V → Hp → Prop} (e : Ex H H') (h : Er te σ H R) : Er te σ H' R := fun H1 a Q q => h H1 (e.trans a) Q q
theorem Er.imp {R R' : V → Hp → Prop} (h : Er te σ H R) (i : ∀ v H2, Ex H H2 → R v H2 → R' v H2) : Er te σ H R' := fun H1 a Q q => h H1 a Q fun v H2 e r => q v H2 e (i v H2 (a.trans e) r)
theorem ev_er {R : V → Hp → Prop} (h : Ev te σ H v) (hr : ∀ H2, Ex H H2 → R v H2) : Er te σ H R := fun H1 a Q q => h H1 a Q fun H2 e => q v H2 e (hr H2 (a.trans e))
theorem er_ev (h : Er te σ H fun x _ => x = v) : Ev te σ H v := fun H1 a Q q => h H1 a Q fun x H2 e ex => by rw [ex]; exact q H2 e
theorem eu_er {xs : List V} (h : EvU te σ H xs) : Er te σ H fun v H2 => ∃ p, v = .ref p ∧ H p = none ∧ H2 p = some (.tup xs) := fun H1 a Q q => h H1 a Q fun p H2 hp e hh => q _ H2 e ⟨p, rfl, fresh_back a hp, hh⟩
theorem el_er {xs : List V} (h : EvL te σ H xs) : Er te σ H fun v H2 => ∃ p, v = .ref p ∧ H p = none ∧ H2 p = some (.lst xs) := fun H1 a Q q => h H1 a Q fun p H2 hp e hh => q _ H2 e ⟨p, rfl, fresh_back a hp, hh⟩
theorem ear_nil : Ear tNil σ H fun vs _ => vs = [] := fun H1 _ Q q => q [] H1 (Ex.refl H1) rfl
theorem ear_cons {tr : TA} {R : V → Hp → Prop} {S : List V → Hp → Prop} (h : Er te σ H R) (hr : ∀ x H1, Ex H H1 → R x H1 → Ear tr σ H1 fun vs H2 => S (x :: vs) H2) : Ear (tCons te tr) σ H S := fun H1 a Q q =>
  h H1 a _ fun x H2 e2 hx => hr x H2 (a.trans e2) hx H2 (Ex.refl H2) _ fun vs H3 e3 hs => q _ H3 (e2.trans e3) hs
theorem ea_ear {tr : TA} {vs : List V} (h : EvA tr σ H vs) : Ear tr σ H fun ws _ => ws = vs := fun H1 a Q q => h H1 a Q fun H2 e => q vs H2 e rfl
theorem ear_of {tr : TA} {vs : List V} {S : List V → Hp → Prop} (h : EvA tr σ H vs) (k : ∀ H2, Ex H H2 → S vs H2) : Ear tr σ H S := fun H1 a Q q => h H1 a Q fun H2 e => q vs H2 e (k H2 (a.trans e))
/-- a call, its arguments told by values | by a relation -/
theorem er_call {sp : Sp} {dvs vs : List V} {E : XK} {ta : TA} {R : V → Hp → Prop} (h : EvA ta σ H vs) (hs : SpR sp (vs ++ dvs) H R) : Er (tCall sp dvs E ta) σ H R := fun H1 e Q q =>
  h H1 e _ fun H2 e2 => hs H2 (e.trans e2) Q (fun v H3 e3 hr => q v H3 (e2.trans e3) hr) E
theorem er_callR {sp : Sp} {dvs : List V} {E : XK} {ta : TA} {A : List V → Hp → Prop} {R : V → Hp → Prop} (h : Ear ta σ H A) (hs : ∀ vs H1, Ex H H1 → A vs H1 → SpR sp (vs ++ dvs) H1 R) : Er (tCall sp dvs E ta) σ H R := fun H1 e Q q =>
  h H1 e _ fun vs H2 e2 ha => hs vs H2 (e.trans e2) ha H2 (Ex.refl H2) Q (fun v H3 e3 hr => q v H3 (e2.trans e3) hr) E
theorem spv_r {sp : Sp} {vs : List V} (h : SpV sp vs H z) : SpR sp vs H fun x _ => x = z := fun H1 e Q q E => h H1 e Q (fun H2 e2 => q z H2 e2 rfl) E
/-- a call's value, its argument told by a relation -/
theorem ev_callR {sp : Sp} {dvs : List V} {E : XK} {ta : TA} {A : List V → Hp → Prop} (h : Ear ta σ H A) (hs : ∀ vs H1, Ex H H1 → A vs H1 → SpV sp (vs ++ dvs) H1 z) : Ev (tCall sp dvs E ta) σ H z := fun H1 e Q q =>
  h H1 e _ fun vs H2 e2 ha => hs vs H2 (e.trans e2) ha H2 (Ex.refl H2) Q (fun H3 e3 => q H3 (e2.trans e3)) E
/-! ### texts -/
theorem tx_len {w : W} (h : w.length ≤ 100000) : (sOf w).length ≤ sizeLine := by rw [sOf_len]; exact sz_of h
theorem rv_addS {a b : W} (h : a.length + b.length ≤ 100000) : RV (fun x y H Q => ∃ i j, x = .str i ∧ y = .str j ∧ i.length + j.length ≤ sizeLine ∧ Q (.str (i ++ j)) H) (tx a) (tx b) H (tx (a ++ b)) := fun H1 _ Q q =>
  ⟨sOf a, sOf b, rfl, rfl, by rw [sOf_len, sOf_len]; exact sz_of h, by rw [sOf_app]; exact q H1 (Ex.refl H1)⟩
theorem rv_ltS {a b : W} : RV (fun x y H Q => ∃ i j, x = .str i ∧ y = .str j ∧ Q (.bl (decide (i.cps.toList < j.cps.toList))) H) (tx a) (tx b) H (.bl (lx a b)) := fun H1 _ Q q =>
  ⟨sOf a, sOf b, rfl, rfl, by rw [lx_dec, sOf_cps, sOf_cps]; exact q H1 (Ex.refl H1)⟩
theorem rv_eqS {a b : W} : RV rEq (tx a) (tx b) H (.bl (decide (a = b))) := fun H1 _ Q q => ⟨rfl, by rw [dec_str]; exact q H1 (Ex.refl H1)⟩
theorem rv_neS {a b : W} : RV rNe (tx a) (tx b) H (.bl (!decide (a = b))) := fun H1 _ Q q => ⟨rfl, by rw [dec_str]; exact q H1 (Ex.refl H1)⟩
theorem dec_int (i j : Int) : decide (V.int i = V.int j) = decide (i = j) := by
  by_cases h : i = j
  · rw [h, decide_eq_true rfl, decide_eq_true rfl]
  · rw [decide_eq_false h, decide_eq_false fun z => h (V.int.inj z)]
theorem dec_bl (i j : Bool) : decide (V.bl i = V.bl j) = (i == j) := by cases i <;> cases j <;> decide
theorem rv_eqI {i j : Int} : RV rEq (.int i) (.int j) H (.bl (decide (i = j))) := fun H1 _ Q q => ⟨rfl, by rw [dec_int]; exact q H1 (Ex.refl H1)⟩
theorem rv_neI {i j : Int} : RV rNe (.int i) (.int j) H (.bl (!decide (i = j))) := fun H1 _ Q q => ⟨rfl, by rw [dec_int]; exact q H1 (Ex.refl H1)⟩
theorem rv_eqB {i j : Bool} : RV rEq (.bl i) (.bl j) H (.bl (i == j)) := fun H1 _ Q q => ⟨rfl, by rw [dec_bl]; exact q H1 (Ex.refl H1)⟩
theorem rv_neB {i j : Bool} : RV rNe (.bl i) (.bl j) H (.bl (i != j)) := fun H1 _ Q q => ⟨rfl, by rw [dec_bl]; exact q H1 (Ex.refl H1)⟩
theorem rv_isB {i j : Bool} : RV rIsB (.bl i) (.bl j) H (.bl (decide (i = j))) := fun H1 _ Q q => ⟨i, j, rfl, rfl, q H1 (Ex.refl H1)⟩
theorem rv_notB {i j : Bool} : RV rNotB (.bl i) (.bl j) H (.bl (!decide (i = j))) := fun H1 _ Q q => ⟨i, j, rfl, rfl, q H1 (Ex.refl H1)⟩
/-- a written text -/
theorem ev_tx {s : Str} {w : W} (h : s = sOf w) : Ev (tC (.str s)) σ H (tx w) := by rw [h]; exact ev_c
theorem atI_nat' {α : Type} {xs : List α} {i : Int} {v : α} (h0 : 0 ≤ i) (h : xs[i.toNat]? = some v) : atI xs i = some v := by
  have := atI_nat (xs := xs) (j := i.toNat) h
  rwa [Int.toNat_of_nonneg h0] at this
theorem rv_ixW {w : W} {i : Int} {c : Nat} (h : w.length ≤ 100000) (h0 : 0 ≤ i) (hc : w[i.toNat]? = some c) : RV rIxS (tx w) (.int i) H (tx [c]) := rv_ixS (by rw [sOf_len]; exact h) (by rw [sOf_cps]; exact atI_nat' h0 hc)
theorem sl_any {lo hi : Option Int} {w w' : W} {tl th : TO} (h : Ev te σ H (tx w)) (h1 : EvO tl σ H lo) (h2 : EvO th σ H hi) (hl : w.length ≤ 100000) (e : cutS (sOf w) lo hi = sOf w') : Ev (tSl rSlS te tl th) σ H (tx w') := fun H1 a Q q =>
  h H1 a _ fun H2 e2 => h1 H2 (a.trans e2) _ fun H3 e3 => h2 H3 ((a.trans e2).trans e3) _ fun H4 e4 => ⟨sOf w, rfl, tx_len hl, by rw [e]; exact q H4 ((e2.trans e3).trans e4)⟩
theorem sl_from {w : W} {k : Nat} (h : Ev te σ H (tx w)) (h1 : Ev ti σ H (.int (k : Int))) (hl : w.length ≤ 100000) : Ev (tSl rSlS te (tPart ti) tNoPart) σ H (tx (w.drop k)) := sl_any h (eo_some h1) eo_none hl (cutS_from w k)
theorem sl_to {w : W} {k : Nat} (h : Ev te σ H (tx w)) (h1 : Ev ti σ H (.int (k : Int))) (hl : w.length ≤ 100000) : Ev (tSl rSlS te tNoPart (tPart ti)) σ H (tx (w.take k)) := sl_any h eo_none (eo_some h1) hl (cutS_to w k)
theorem sl_mid {w : W} {j k : Nat} (h : Ev te σ H (tx w)) (h1 : Ev ti σ H (.int (j : Int))) (h2 : Ev tj σ H (.int (k : Int))) (hl : w.length ≤ 100000) : Ev (tSl rSlS te (tPart ti) (tPart tj)) σ H (tx ((w.drop j).take (k - j))) := sl_any h (eo_some h1) (eo_some h2) hl (cutS_mid w j k)
theorem ev_lenW {w : W} (h : Ev te σ H (tx w)) (hl : w.length ≤ 100000) : Ev (tCB (fun xs H Q => ∃ z, xs = [.str z] ∧ z.length ≤ sizeLine ∧ Q (.int z.length) H) (tCons te tNil)) σ H (.int (w.length : Int)) := fun H1 a Q q =>
  h H1 a _ fun H2 e2 => ⟨sOf w, rfl, tx_len hl, by rw [sOf_len]; exact q H2 e2⟩
theorem ev_lenQ {p : Addr} {xs : List V} (h : Ev te σ H (.ref p)) (hs : SqL K H p xs) : Ev (tCB (fun xs H Q => ∃ p ys, xs = [.ref p] ∧ (SqL K H p ys ∨ SqT K H p ys) ∧ Q (.int ys.length) H) (tCons te tNil)) σ H (.int (xs.length : Int)) := fun H1 a Q q =>
  h H1 a _ fun H2 e2 => ⟨p, xs, rfl, .inl (ex_l (a.trans e2) hs), q H2 e2⟩
/-! ### numbers -/
theorem mulL {i j : Int} (h : -(2 ^ 64) < i ∧ i < 2 ^ 64) : CMul i j := .inl h
theorem mulR {i j : Int} (h : -(2 ^ 64) < j ∧ j < 2 ^ 64) : CMul i j := .inr h
/-! ### isinstance -/
inductive Ty5 (K : PySem.W.Frag) (H : Hp) : V → String → Prop where
  | str (s : Str) : Ty5 K H (.str s) "str"
  | int (i : Int) : Ty5 K H (.int i) "int"
  | bl (b : Bool) : Ty5 K H (.bl b) "bool"
  | tup {a : Addr} {xs : List V} (h : SqT K H a xs) : Ty5 K H (.ref a) "tuple"
  | lst {a : Addr} {xs : List V} (h : SqL K H a xs) : Ty5 K H (.ref a) "list"
theorem Ty5.mono {n : String} (e : Ex H H') (h : Ty5 K H x n) : Ty5 K H' x n := by
  cases h with
  | str s => exact .str s
  | int i => exact .int i
  | bl b => exact .bl b
  | tup h => exact .tup (ex_t e h)
  | lst h => exact .lst (ex_l e h)
theorem Ty5.tx' {n : String} (h : Ty5 K H x n) : TyX K H x (.type n) := by
  cases h with
  | str s => exact .base (.str s)
  | int i => exact .base (.int i)
  | bl b => exact .base (.bl b)
  | tup h =>
    rcases h with (h | ⟨o, h⟩) | ⟨o, its, n, hk, hc, _⟩
    · exact .base (.tup h)
    · exact .fTuple h
    · exact .kTuple hk hc
  | lst h =>
    rcases h with (h | ⟨o, h⟩) | ⟨o, its, n, hk, hc, _⟩
    · exact .base (.lst h)
    · exact .base (.frz h)
    · exact .kList hk hc
theorem rc_isi {n m : String} {b : Bool} (h : Ty5 K H x n) (hk : kitB n m = some b) : RC (rIsi K) [x, .ty m] H (.bl b) := fun H1 e Q q =>
  ⟨x, .ty m, .type n, .type m, b, rfl, .ty m, (h.mono e).tx', kit_ty hk, q H1 (Ex.refl H1)⟩
theorem ev_isi {n m : String} {b : Bool} (h : Ev te σ H x) (hc : Ev ti σ H (.ty m)) (ht : Ty5 K H x n) (hk : kitB n m = some b) : Ev (tCB (rIsi K) (tCons te (tCons ti tNil))) σ H (.bl b) := ev_cb (ea_cons h (ea_cons hc ea_nil)) (rc_isi ht hk)
theorem kitAny_first {n a : String} {r : List Value} (h1 : kitB n a = some true) : PySem.W.kitAny K (.type n) (.type a :: r) = some true := by
  unfold PySem.W.kitAny
  rw [kit_ty h1]
theorem kitAny_next {n a : String} {r : List Value} {b : Option Bool} (h1 : kitB n a = some false) (h2 : PySem.W.kitAny K (.type n) r = b) : PySem.W.kitAny K (.type n) (.type a :: r) = b := by
  unfold PySem.W.kitAny
  rw [kit_ty h1]
  exact h2
/-- isinstance(x, (a, b)) -/
theorem ev_isi2 {n a b : String} {r : Bool} (h : Ev te σ H x) (ht : Ty5 K H x n) (hk : PySem.W.kitAny K (.type n) [.type a, .type b] = some r) : Ev (tCB (rIsiT K) (tCons te (tCons (tTup (tCons (tC (.ty a)) (tCons (tC (.ty b)) tNil))) tNil))) σ H (.bl r) := fun H1 e Q q =>
  h H1 e _ fun H2 e2 => ⟨by show 2 ≤ sizeLine; decide, fun p hp => ⟨x, p, _, .type n, _, r, rfl, upd_same, .cons (.ty a) (.cons (.ty b) .nil), (ht.mono ((e.trans e2).trans (Ex.new hp))).tx', hk, q _ (e2.trans (Ex.new hp))⟩⟩
/-! ### all of a new list of tests; least of a new list of numbers -/
theorem ev_all {bs : List Bool} (h : EvL te σ H (bs.map V.bl)) : Ev (tCB (rAll K) (tCons te tNil)) σ H (.bl (bs.all id)) := fun H1 e Q q =>
  h H1 e _ fun p H2 _ e2 hp => ⟨p, bs, rfl, SqL.of hp, q H2 e2⟩
theorem ev_minN {ns : List Int} {m : Int} (h : EvL te σ H (ns.map V.int)) (hm : m ∈ ns) (hl : ∀ y ∈ ns, m ≤ y) : Ev (tCB (rMin K) (tCons te tNil)) σ H (.int m) := fun H1 e Q q =>
  h H1 e _ fun p H2 _ e2 hp => ⟨p, ns, rfl, SqL.of hp, List.length_pos_of_mem hm, fun m' h1 h2 => by
    have : m' = m := Int.le_antisymm (h2 m hm) (hl m' h1)
    rw [this]; exact q H2 e2⟩
/-! ### a comprehension over range(lo, n) -/
theorem el_lcR2 {ta : TA} {j : Nat} {vs : List Nat} {lo n : Int} (f : Nat → Bool) (v : Nat → V) (h : EvA ta σ H [.int lo, .int n]) (hn : 0 ≤ lo ∧ lo ≤ 40000 ∧ -40000 ≤ n ∧ n ≤ 40000) (hw : ∀ x, wipe ((wipe σ vs).set j (some x)) vs = wipe σ vs)
    (ht : ∀ (i : Nat) H1, Ex H H1 → lo + (i : Int) < n → EvT t ((wipe σ vs).set j (some (.int (lo + (i : Int))))) H1 (f i)) (he : ∀ (i : Nat) H1, Ex H H1 → lo + (i : Int) < n → f i = true → Ev te ((wipe σ vs).set j (some (.int (lo + (i : Int))))) H1 (v i)) :
    EvL (tLc (iRng2 ta) (gName j) t te vs) σ H (given (n - lo).toNat f v) := fun H0 e Q q => h H0 e _ fun H1 e1 => ⟨lo, n, rfl, ⟨by omega, by omega, by omega, by omega⟩, fun Dl hD =>
  lc_range (lo := lo) (n := (n - lo).toNat) (Cw H1 f v Dl) ⟨hD, Ex.new hD, upd_same⟩ (fun i H' hi p => ⟨hw _, cw_turn p (by omega) (ht i H1 (e.trans e1) (by omega)) (fun hf => he i H1 (e.trans e1) (by omega) hf)⟩)
    (fun H' p => q Dl H' (fresh_back e1 p.1) (e1.trans p.2.1) p.2.2)⟩
theorem el_is {xs ys : List V} (h : EvL te σ H xs) (e : xs = ys) : EvL te σ H ys := by rw [← e]; exact h
theorem et_yes : EvT tYes σ H true := fun H1 _ Q q => q H1 (Ex.refl H1)
theorem given_all (n : Nat) (v : Nat → V) : given n (fun _ => true) v = (List.range n).map v := by
  unfold given
  rw [List.filter_eq_self.mpr (fun _ _ => rfl)]
/-! ### letters -/
def ABC (w : W) : Prop := ∀ c ∈ w, c = 97 ∨ c = 98 ∨ c = 99
theorem ABC.nil : ABC [] := fun _ h => by cases h
theorem ABC.snoc {w : W} {c : Nat} (h : ABC w) (hc : c = 97 ∨ c = 98 ∨ c = 99) : ABC (w ++ [c]) := fun x hx => by
  rcases List.mem_append.mp hx with hx | hx
  · exact h x hx
  · have : x = c := by simpa using hx
    rw [this]; exact hc
/-- a sign of the text abc at a rest by 3 -/
theorem abcW (c : Int) : ∃ l : Nat, ([97, 98, 99] : W)[(c % 3).toNat]? = some l ∧ (l = 97 ∨ l = 98 ∨ l = 99) := by
  have h0 := Int.emod_nonneg c (show (3 : Int) ≠ 0 by decide)
  have h1 := Int.emod_lt_of_pos c (show (0 : Int) < 3 by decide)
  have : (c % 3).toNat = 0 ∨ (c % 3).toNat = 1 ∨ (c % 3).toNat = 2 := by omega
  rcases this with h | h | h <;> rw [h]
  · exact ⟨97, rfl, .inl rfl⟩
  · exact ⟨98, rfl, .inr (.inl rfl)⟩
  · exact ⟨99, rfl, .inr (.inr rfl)⟩
/-! ### statements by relations -/
section
variable {D : Ends} {tz : TS} {i : Nat} {R : V → Hp → Prop}
theorem q_asgR (h : Er te σ H R) (k : ∀ v H1, Ex H H1 → R v H1 → tz D (σ.set i (some v)) H1) : tSeq (tAsg te (gName i)) tz D σ H := h H (Ex.refl H) _ fun v H1 e r => k v H1 e r
theorem s_asgR (h : Er te σ H R) (k : ∀ v H1, Ex H H1 → R v H1 → D.nx (σ.set i (some v)) H1) : tAsg te (gName i) D σ H := h H (Ex.refl H) _ fun v H1 e r => k v H1 e r
theorem s_retR (h : Er te σ H R) (k : ∀ v H1, Ex H H1 → R v H1 → D.rt v H1) : tRet te D σ H := h H (Ex.refl H) _ fun v H1 e r => k v H1 e r
end
/-! ### data compared -/
mutual
theorem Dp.up {K : PySem.W.Frag} {H H' : Hp} (e : Ex H H') : ∀ {v : V} {d : PyData}, Dp K H v d → Dp K H' v d
  | _, _, .non => .non
  | _, _, .bl b => .bl b
  | _, _, .int i => .int i
  | _, _, .str x => .str x
  | _, _, .lst h r => .lst (ex_l e h) (DpAll.up e r)
  | _, _, .tup h r => .tup (ex_t e h) (DpAll.up e r)
theorem DpAll.up {K : PySem.W.Frag} {H H' : Hp} (e : Ex H H') : ∀ {vs : List V} {ds : List PyData}, DpAll K H vs ds → DpAll K H' vs ds
  | _, _, .nil => .nil
  | _, _, .cons a b => .cons (Dp.up e a) (DpAll.up e b)
end
theorem rv_eqD {d e : PyData} (hx : Dp K H x d) (hy : Dp K H y e) (s1 : SeqAt.shaped d = true) (s2 : SeqAt.shaped e = true) : RV (rEqD K) x y H (.bl (PyData.eqv d e)) := fun H1 a Q q => ⟨d, e, Dp.up a hx, Dp.up a hy, s1, s2, q H1 (Ex.refl H1)⟩
theorem rv_neD {d e : PyData} (hx : Dp K H x d) (hy : Dp K H y e) (s1 : SeqAt.shaped d = true) (s2 : SeqAt.shaped e = true) : RV (rNeD K) x y H (.bl (!PyData.eqv d e)) := fun H1 a Q q => ⟨d, e, Dp.up a hx, Dp.up a hy, s1, s2, q H1 (Ex.refl H1)⟩
theorem minus_one {n : Nat} : ((n : Int) - 1).toNat = n - 1 := by omega
end
theorem ns_at {ns : List Int} {k : Int} (h0 : 0 ≤ k) (h : k < ns.length) : atI (ns.map V.int) k = some (.int (ns.getD k.toNat 0)) := by
  have hk : k.toNat < ns.length := by omega
  refine atI_nat' h0 ?_
  rw [List.getElem?_map, List.getElem?_eq_getElem hk, List.getD_eq_getElem?_getD, List.getElem?_eq_getElem hk]
  rfl
end TB
/-! ## TbExc -/
/-! The errors' classes: where one stands, raising it, catching it by the class above it, asking the caught one. -/
namespace TB
open PySem PySem.Spec PyProof.Rows L2 Evl
structure ErrAt (K : PySem.W.Frag) (mg : Str → Option Value) (x : Str) where
  C : Addr
  gm : mg x = some (.ref C)
  xc : PySem.W.excIn K C [.type "ValueError", .type "Exception", .type "BaseException", .type "object"] "ValueError.__new__" = true
  kp : PySem.W.keepIn K (.ref C) = true
  sb : PySem.W.subIn K (.ref C) (.type "BaseException") = some true
  ty : PySem.W.typeIn K (.ref C) = some (.type "type")
  ex : ExcC K C
section
variable {X : Cx} {x m : Str} {j : Nat} {p p2 pos : Pos}
theorem ErrAt.pm (T : ErrAt X.K X.mg x) (hg : Gl X x := by rfl) (hdb : (x == ("__debug__" : Str)) = false := by decide) : PMk X (.Call (.Name x p) [.Constant (.str m) j p2] [] pos) (fun _ H Q => Q (.ref T.C) none H) :=
  pmk_own PySem.F.excBase_ValueError T.xc T.gm T.kp (raises_own T.sb T.ty) hg hdb
end
/-- C's errors are caught by the clause that names D -/
theorem exm_up {K : PySem.W.Frag} {mg : Str → Option Value} {x : Str} (T : ErrAt K mg x) {C : Addr} (h : PySem.W.subIn K (.ref C) (.ref T.C) = some true) : PySem.W.exmOne K (.ref C) (.ref T.C) = some true := PySem.W.exm_ref T.sb T.ex.hd T.ty h
section
variable {K : PySem.W.Frag} {σ : L2.St} {H : Hp} {te ti : TE}
/-- isinstance(e, D), e the error of the class at C that the suite holds at a -/
theorem ev_isE {C a : Addr} {c : V} {cv : Value} {b : Bool} (h : Ev te σ H (.ref a)) (hc : Ev ti σ H c) (hr : ∀ u, RelV c u → u = cv) (hk : PySem.W.kitOne K (.ref C) cv = some b) : Ev (tCB (rIsE K C a) (tCons te (tCons ti tNil))) σ H (.bl b) :=
  ev_cb (ea_cons h (ea_cons hc ea_nil)) fun H1 _ Q q => ⟨c, cv, b, rfl, hr, hk, q H1 (Ex.refl H1)⟩
theorem rel_ref {a : Addr} (u : Value) (r : RelV (.ref a) u) : u = .ref a := r
theorem rel_ty {n : String} (u : Value) (r : RelV (.ty n) u) : u = .type n := r
end
section
variable {X : Cx}
/-- a suite read where something is known of the error -/
theorem pss_guard {st : List Stmt} {ts : TS} {P : Prop} (h : P → PSs X st ts) : PSs X st (fun D σ H => P ∧ ts D σ H) := ⟨fun pins s σ H D I hw => (h hw.1).run pins s σ H D I hw.2⟩
end
/-- three answers of isinstance, of the error in slot i -/
def tIs3 (K : PySem.W.Frag) (i : Nat) (C C1 C3 : Addr) (a : Addr) : TA := tCons (tCB (rIsE K C a) (tCons (tVar i) (tCons (tC (.ref C1)) tNil))) (tCons (tCB (rIsE K C a) (tCons (tVar i) (tCons (tC (.ty "ValueError")) tNil))) (tCons (tCB (rIsE K C a) (tCons (tVar i) (tCons (tC (.ref C3)) tNil))) tNil))
theorem ea_is3 {K : PySem.W.Frag} {σ : L2.St} {H : Hp} {i : Nat} {C C1 C3 a : Addr} {b1 b2 b3 : Bool} (hi : σ[i]? = some (some (.ref a))) (k1 : PySem.W.kitOne K (.ref C) (.ref C1) = some b1) (k2 : PySem.W.kitOne K (.ref C) (.type "ValueError") = some b2) (k3 : PySem.W.kitOne K (.ref C) (.ref C3) = some b3) :
    EvA (tIs3 K i C C1 C3 a) σ H [.bl b1, .bl b2, .bl b3] :=
  ea_cons (ev_isE (ev_var hi) ev_c rel_ref k1) (ea_cons (ev_isE (ev_var hi) ev_c rel_ty k2) (ea_cons (ev_isE (ev_var hi) ev_c rel_ref k3) ea_nil))
end TB
/-! ## TbEnd -/
/-! From what the top has written to the facts of a def, of an error's class. -/
namespace TB
open PySem PySem.Spec PyProof.Rows L2
section
variable {K : PySem.W.Frag} {mg : Str → Option Value} {h : Heap}
def defAt_mk {x : Str} {st : Stmt} {ps : List Str} {f : Addr} {od an : Option Addr} {sl : Array (Option Value)} {oc kV dc pm cd ct : Value} (X : K.In h) (G : h.Ns mainGlobals mg)
    (a : PySem.W.nsIn K mainGlobals x = some (some (.ref f))) (l : K.lookup f = some ⟨oc, od, .func (PySem.W.fnOf x x (defArgs st) (defBody st) (defScope st) .none kV dc pm an cd ct), sl⟩) (c : PySem.W.codeIn K cd x = true) (k : PySem.W.keepIn K (.ref f) = true)
    (hb : ∀ (kV doc pm : Value) (an : Option Addr) (cdv ct : Value) (us : List Value), us.length = ps.length → bindArgs (PySem.W.fnOf x x (defArgs st) (defBody st) (defScope st) .none kV doc pm an cdv ct) ⟨us, []⟩ = pure (ps.zip us)) : DefAt K mg x st ps where
  f := f
  fd := PySem.W.fnOf x x (defArgs st) (defBody st) (defScope st) .none kV dc pm an cd ct
  F := fun_mk l c k
  gm := PySem.W.mg_of X G a
  b := (fun_mk (st := st) l c k).binds hb
def errAt_mk {x : Str} {C : Addr} (X : K.In h) (G : h.Ns mainGlobals mg) (a : PySem.W.nsIn K mainGlobals x = some (some (.ref C))) (xc : PySem.W.excIn K C [.type "ValueError", .type "Exception", .type "BaseException", .type "object"] "ValueError.__new__" = true)
    (kp : PySem.W.keepIn K (.ref C) = true) (sb : PySem.W.subIn K (.ref C) (.type "BaseException") = some true) (ty : PySem.W.typeIn K (.ref C) = some (.type "type"))
    (hg : PySem.W.findIn K (.ref C) "__getattribute__" = some (some (.builtin "BaseException.__getattribute__"))) (hk : PySem.W.findIn K (.ref C) "__getattr__" = some none) (hd : PySem.W.hasDictIn K C = true)
    (ha : PySem.W.findIn K (.ref C) "__class__" = some (some (.builtin "object.__class__"))) (hn : PySem.W.specialIn K (.builtin "object.__class__") "__get__" = some (some (.builtin "getset_descriptor.__get__"))) (ht : PySem.W.takesIn K (.builtin "object.__class__") = some true) (hm : PySem.W.mroIn K C (.type "object") = some true) : ErrAt K mg x where
  C := C
  gm := PySem.W.mg_of X G a
  xc := xc
  kp := kp
  sb := sb
  ty := ty
  ex := ⟨hg, hk, sb, hd, ha, hn, ht, hm⟩
end
end TB
/-! ## TbTop -/
/-! The text of the law by places. -/
namespace TB
open PySem L2
def topS (i : Nat) : Stmt := PySem.Challenge.pw_twistbrackets_k15_each_refusal_its_own.main.body.getD i (.Pass ⟨0, 0, 0, 0⟩)
abbrev s_weight : Stmt := topS 1
theorem sc_weight : FnScope ["bracket"] ["bracket"] (defScope s_weight) := ⟨rfl, rfl, rfl, by decide +kernel, rfl, by decide +kernel, by decide +kernel⟩
abbrev s_put_to : Stmt := topS 2
theorem sc_put_to : FnScope ["counts", "word", "count"] ["counts", "word", "count"] (defScope s_put_to) := ⟨rfl, rfl, rfl, by decide +kernel, rfl, by decide +kernel, by decide +kernel⟩
abbrev s_times : Stmt := topS 3
theorem sc_times : FnScope ["one", "other", "found", "first", "second"] ["one", "other"] (defScope s_times) := ⟨rfl, rfl, rfl, by decide +kernel, rfl, by decide +kernel, by decide +kernel⟩
abbrev s_twisted : Stmt := topS 4
theorem sc_twisted : FnScope ["one", "other", "found", "back", "word"] ["one", "other"] (defScope s_twisted) := ⟨rfl, rfl, rfl, by decide +kernel, rfl, by decide +kernel, by decide +kernel⟩
abbrev s_counts_of : Stmt := topS 5
theorem sc_counts_of : FnScope ["bracket"] ["bracket"] (defScope s_counts_of) := ⟨rfl, rfl, rfl, by decide +kernel, rfl, by decide +kernel, by decide +kernel⟩
abbrev s_counts_of_sum : Stmt := topS 6
theorem sc_counts_of_sum : FnScope ["total", "found", "count", "bracket", "counts", "word"] ["total"] (defScope s_counts_of_sum) := ⟨rfl, rfl, rfl, by decide +kernel, rfl, by decide +kernel, by decide +kernel⟩
abbrev s_by_length : Stmt := topS 7
theorem sc_by_length : FnScope ["word"] ["word"] (defScope s_by_length) := ⟨rfl, rfl, rfl, by decide +kernel, rfl, by decide +kernel, by decide +kernel⟩
abbrev s_sign_at : Stmt := topS 20
theorem sc_sign_at : FnScope ["text", "at", "sign"] ["text", "at", "sign"] (defScope s_sign_at) := ⟨rfl, rfl, rfl, by decide +kernel, rfl, by decide +kernel, by decide +kernel⟩
abbrev s_bracket_at : Stmt := topS 21
theorem sc_bracket_at : FnScope ["text", "at", "deep", "letter", "first", "end", "second"] ["text", "at", "deep"] (defScope s_bracket_at) := ⟨rfl, rfl, rfl, by decide +kernel, rfl, by decide +kernel, by decide +kernel⟩
abbrev s_count_at : Stmt := topS 22
theorem sc_count_at : FnScope ["text", "at", "sign", "end", "word"] ["text", "at"] (defScope s_count_at) := ⟨rfl, rfl, rfl, by decide +kernel, rfl, by decide +kernel, by decide +kernel⟩
abbrev s_read : Stmt := topS 23
theorem sc_read : FnScope ["text", "found", "at", "count", "bracket"] ["text"] (defScope s_read) := ⟨rfl, rfl, rfl, by decide +kernel, rfl, by decide +kernel, by decide +kernel⟩
abbrev s_is_plain : Stmt := topS 28
theorem sc_is_plain : FnScope ["word", "at"] ["word"] (defScope s_is_plain) := ⟨rfl, rfl, rfl, by decide +kernel, rfl, by decide +kernel, by decide +kernel⟩
abbrev s_cut : Stmt := topS 29
theorem sc_cut : FnScope ["word", "at"] ["word"] (defScope s_cut) := ⟨rfl, rfl, rfl, by decide +kernel, rfl, by decide +kernel, by decide +kernel⟩
abbrev s_plain_bracket : Stmt := topS 30
theorem sc_plain_bracket : FnScope ["word", "front", "end"] ["word"] (defScope s_plain_bracket) := ⟨rfl, rfl, rfl, by decide +kernel, rfl, by decide +kernel, by decide +kernel⟩
abbrev s_ask_numbers : Stmt := topS 31
theorem sc_ask_numbers : FnScope ["letters", "length", "most"] ["letters", "length", "most"] (defScope s_ask_numbers) := ⟨rfl, rfl, rfl, by decide +kernel, rfl, by decide +kernel, by decide +kernel⟩
abbrev s_plain_words : Stmt := topS 32
theorem sc_plain_words : FnScope ["letters", "length", "words", "place", "longer", "word", "letter"] ["letters", "length"] (defScope s_plain_words) := ⟨rfl, rfl, rfl, by decide +kernel, rfl, by decide +kernel, by decide +kernel⟩
abbrev s_mark_of : Stmt := topS 33
theorem sc_mark_of : FnScope ["number", "found", "prime"] ["number"] (defScope s_mark_of) := ⟨rfl, rfl, rfl, by decide +kernel, rfl, by decide +kernel, by decide +kernel⟩
abbrev s_power_of : Stmt := topS 34
theorem sc_power_of : FnScope ["number", "often", "found", "turn"] ["number", "often"] (defScope s_power_of) := ⟨rfl, rfl, rfl, by decide +kernel, rfl, by decide +kernel, by decide +kernel⟩
abbrev s_how_many : Stmt := topS 35
theorem sc_how_many : FnScope ["letters", "length", "total", "part"] ["letters", "length"] (defScope s_how_many) := ⟨rfl, rfl, rfl, by decide +kernel, rfl, by decide +kernel, by decide +kernel⟩
abbrev s_plain_of : Stmt := topS 38
theorem sc_plain_of : FnScope ["counts", "left", "found", "word", "less", "other"] ["counts"] (defScope s_plain_of) := ⟨rfl, rfl, rfl, by decide +kernel, rfl, by decide +kernel, by decide +kernel⟩
abbrev s_greatest : Stmt := topS 39
theorem sc_greatest : FnScope ["total", "count", "bracket"] ["total"] (defScope s_greatest) := ⟨rfl, rfl, rfl, by decide +kernel, rfl, by decide +kernel, by decide +kernel⟩
abbrev s_bracket_of : Stmt := topS 40
theorem sc_bracket_of : FnScope ["one", "other"] ["one", "other"] (defScope s_bracket_of) := ⟨rfl, rfl, rfl, by decide +kernel, rfl, by decide +kernel, by decide +kernel⟩
abbrev s_letters_of : Stmt := topS 41
theorem sc_letters_of : FnScope ["bracket"] ["bracket"] (defScope s_letters_of) := ⟨rfl, rfl, rfl, by decide +kernel, rfl, by decide +kernel, by decide +kernel⟩
abbrev s_ask_weights : Stmt := topS 42
theorem sc_ask_weights : FnScope ["total", "sums", "count", "bracket", "weights", "letter"] ["total", "sums"] (defScope s_ask_weights) := ⟨rfl, rfl, rfl, by decide +kernel, rfl, by decide +kernel, by decide +kernel⟩
abbrev s_filled : Stmt := topS 43
theorem sc_filled : FnScope ["bracket", "counts"] ["bracket", "counts"] (defScope s_filled) := ⟨rfl, rfl, rfl, by decide +kernel, rfl, by decide +kernel, by decide +kernel⟩
abbrev s_put_in : Stmt := topS 44
theorem sc_put_in : FnScope ["total", "a", "b", "c", "sums", "counts", "letter", "found", "count", "bracket", "made", "word"] ["total", "a", "b", "c"] (defScope s_put_in) := ⟨rfl, rfl, rfl, by decide +kernel, rfl, by decide +kernel, by decide +kernel⟩
abbrev s_gathered : Stmt := topS 45
theorem sc_gathered : FnScope ["words", "counts", "word", "count"] ["words"] (defScope s_gathered) := ⟨rfl, rfl, rfl, by decide +kernel, rfl, by decide +kernel, by decide +kernel⟩
abbrev s__law_stir : Stmt := topS 47
theorem sc__law_stir : FnScope ["cell", "found", "factor", "mixed"] ["cell"] (defScope s__law_stir) := ⟨rfl, rfl, rfl, by decide +kernel, rfl, by decide +kernel, by decide +kernel⟩
abbrev s__law_cell : Stmt := topS 48
theorem sc__law_cell : FnScope ["script", "k"] ["script", "k"] (defScope s__law_cell) := ⟨rfl, rfl, rfl, by decide +kernel, rfl, by decide +kernel, by decide +kernel⟩
abbrev s__law_no_word : Stmt := topS 49
theorem sc__law_no_word : FnScope ["cell"] ["cell"] (defScope s__law_no_word) := ⟨rfl, rfl, rfl, by decide +kernel, rfl, by decide +kernel, by decide +kernel⟩
abbrev s__law_too_great : Stmt := topS 50
theorem sc__law_too_great : FnScope ["cell", "four"] ["cell"] (defScope s__law_too_great) := ⟨rfl, rfl, rfl, by decide +kernel, rfl, by decide +kernel, by decide +kernel⟩
abbrev s__law_done : Stmt := topS 51
theorem sc__law_done : FnScope ["mode", "cell", "far"] ["mode", "cell", "far"] (defScope s__law_done) := ⟨rfl, rfl, rfl, by decide +kernel, rfl, by decide +kernel, by decide +kernel⟩
abbrev s_law : Stmt := topS 52
theorem sc_law : FnScope ["script", "mode", "flags", "e", "k"] ["script"] (defScope s_law) := ⟨rfl, rfl, rfl, by decide +kernel, rfl, by decide +kernel, by decide +kernel⟩
end TB
/-! ## TbD_is_plain -/
namespace TB
open PySem PySem.Spec PyProof.Rows L2 Evl
section
variable {P : Program} {wd : World} {K : PySem.W.Frag} {mg : Str → Option Value} {base : Heap}
/-! is_plain -/
def sp_is_plain : Sp := fun vs H Q _ => ∃ w : W, vs = [tx w] ∧ w.length ≤ 1000 ∧ ∀ H', Ex H H' → Q (.bl (plain w)) H'
theorem sv_is_plain {w : W} {H : Hp} (h : w.length ≤ 1000) : SpV sp_is_plain [tx w] H (.bl (plain w)) := fun H1 _ Q q E => ⟨w, rfl, h, q⟩
theorem ok_is_plain (B : Blt mg) (D : DefAt K mg "is_plain" s_is_plain ["word"]) : FnOk P wd K mg base CX0 1 D.f D.fd ["word"] sp_is_plain := by
  refine D.F.ok sc_is_plain (fun vs H Q E h => ?_) (fun cdv A outer s H vs Q E hr h => ?_)
  · obtain ⟨w, rfl, _⟩ := h
    rfl
  obtain ⟨w, rfl, hl, q⟩ := h
  have hu := hu_of hr
  refine ⟨_, (pss_cons (ps_if (pt_cmpR op_eq (pv 0) pe_str (nomark _))
      (pss_one (ps_ret pe_bl))
      pss_nil)
    (pss_one (ps_ret (pe_callB (cr_all rfl) (by rfl) B.all (by decide +kernel) (pa_cons (pe_lc (own := [("at", 1)]) rfl sc_is_plain.nd (pi_range2 (by rfl) B.range (pa_cons pe_int (pa_cons (pe_callB call_len_str (by rfl) B.len PySem.boot_len (pa_cons (pv 0) pa_nil)) pa_nil))) (blkOk_by (N := ["word", "at"]) (sc := defScope s_is_plain) (by decide +kernel)) (fun _ _ _ _ _ => (pg_name (i := 1) sc_is_plain.nd rfl (by first | exact .inl rfl | exact .inr rfl))) (fun _ _ _ _ _ => pts_nil) (fun _ _ _ _ _ => (pe_cmpR op_lt_str (pv 0) (pe_slice sl_str (pv 0) (po_some (pv 1)) po_none) (nomark _)))) pa_nil))))), ?_⟩
  refine q_when (et_test (ev_op (ev_var rfl) (ev_tx (w := []) (by decide +kernel)) rv_eqS)) (fun hb H1 e1 => ?_) (fun hb H1 e1 => ?_)
  · have e : w = [] := of_decide_eq_true hb
    subst e
    exact s_ret ev_c fun H2 e2 => q H2 (e1.trans e2)
  · have e0 : w ≠ [] := of_decide_eq_false hb
    refine s_ret (v := .bl (plain w)) ?_ (fun H2 e2 => q H2 (e1.trans e2))
    refine ev_is (ev_all (bs := (List.range (w.length - 1)).map fun i => lx w (w.drop (1 + i))) (el_is (el_lcR2 (fun _ => true) (fun i => .bl (lx w (w.drop (1 + i)))) (ea_cons ev_c (ea_cons (ev_lenW (ev_var rfl) (by omega)) ea_nil)) (by omega) (fun x => rfl) (fun i H2 e2 hi => et_yes)
      (fun i H2 e2 hi _ => ev_op (ev_var rfl) (sl_from (ev_var rfl) (ev_is (ev_var rfl) (by rw [Int.natCast_add]; rfl)) (by omega)) rv_ltS)) ?_)) ?_
    · rw [given_all, List.map_map]
      have : ((w.length : Int) - 1).toNat = w.length - 1 := by omega
      rw [this]
      rfl
    · congr 1
      unfold plain
      cases w with
      | nil => exact absurd rfl e0
      | cons a r =>
        rw [List.range'_eq_map_range, List.all_map, List.all_map]
        rfl
end
end TB
/-! ## TbD_cut -/
namespace TB
open PySem PySem.Spec PyProof.Rows L2 Evl
section
variable {P : Program} {wd : World} {K : PySem.W.Frag} {mg : Str → Option Value} {base : Heap}
/-! cut -/
def sp_cut (C : Addr) : Sp := fun vs H Q E => ∃ w : W, vs = [tx w] ∧ w.length ≤ 1000 ∧ ((plain w = false ∨ w.length < 2) → ∀ H', Ex H H' → E (.ref C) none H') ∧
  (plain w = true → 2 ≤ w.length → ∀ p H', H p = none → Ex H H' → H' p = some (.tup [tx (w.take (cutAt w)), tx (w.drop (cutAt w))]) → Q (.ref p) H')
theorem ok_cut (B : Blt mg) (D : DefAt K mg "cut" s_cut ["word"]) (D_is_plain : DefAt K mg "is_plain" s_is_plain ["word"]) (EC_NoWord : ErrAt K mg "NoWord") : FnOk P wd K mg base (L2.CX P wd) 2 D.f D.fd ["word"] (sp_cut EC_NoWord.C) := by
  have G_is_plain := ok_is_plain (P := P) (wd := wd) (base := base) B D_is_plain
  refine D.F.okX sc_cut (fun vs H Q E h => ?_) (fun cdv A outer s H vs Q E hr h => ?_)
  · obtain ⟨w, rfl, _⟩ := h
    rfl
  obtain ⟨w, rfl, hl, qE, qQ⟩ := h
  refine ⟨_, (pss_cons (ps_if (PW.pt (pw_or (pt_not (pt_val (cl D_is_plain G_is_plain hr (pa_cons (pv 0) pa_nil)))) (pw_or1 (pt_cmpR op_lt (pe_callB call_len_str (by rfl) B.len PySem.boot_len (pa_cons (pv 0) pa_nil)) pe_int (nomark _)))))
      (pss_one (ps_raise rfl (takes_of rfl rfl rfl rfl) (EC_NoWord.pm)))
      pss_nil)
    (pss_cons (ps_set (i := 1) sc_cut.nd rfl (by first | exact .inl rfl | exact .inr rfl) pe_int)
    (pss_cons (ps_while (passes_of rfl) (pt_not (pt_val (cl D_is_plain G_is_plain hr (pa_cons (pe_slice sl_str (pv 0) (po_some (pv 1)) po_none) pa_nil))))
      (pss_one (ps_set (i := 1) sc_cut.nd rfl (by first | exact .inl rfl | exact .inr rfl) (pe_op op_add (pv 1) pe_int))))
    (pss_one (ps_ret (pe_tup (pa_cons (pe_slice sl_str (pv 0) po_none (po_some (pv 1))) (pa_cons (pe_slice sl_str (pv 0) (po_some (pv 1)) po_none) pa_nil)))))))), ?_⟩
  refine q_when (et_or (et_not (et_B (ev_call (ea_cons (ev_var rfl) ea_nil) (sv_is_plain hl)))) (fun hc => (et_test (ev_op (ev_lenW (ev_var rfl) (by omega)) ev_c rv_I0)))) (fun hb H1 e1 => ?_) (fun hb H1 e1 => ?_)
  · refine qE ?_ H1 e1
    rcases Bool.or_eq_true _ _ ▸ hb with h | h
    · exact .inl (by simpa using h)
    · exact .inr (by have := of_decide_eq_true h; omega)
  · rw [Bool.or_eq_false_iff] at hb
    have hp : plain w = true := by simpa using hb.1
    have h2 : 2 ≤ w.length := by have := of_decide_eq_false hb.2; omega
    have c := cutAt_ok h2
    refine q_asg ev_c (fun H2 e2 => ?_)
    refine q_while (fun m σ H3 => ∃ k : Nat, σ = [some (tx w), some (.int (k : Int))] ∧ 0 < k ∧ k ≤ cutAt w ∧ m = w.length - k ∧ Ex H2 H3) (w.length - 1) ⟨1, rfl, by omega, c.pos, rfl, Ex.refl _⟩ ?_
    rintro m σ H3 ⟨k, rfl, k0, kc, rfl, e3⟩
    have hd : (w.drop k).length ≤ 1000 := by rw [List.length_drop]; omega
    refine ⟨_, et_not (et_B (ev_call (ea_cons (sl_from (ev_var rfl) (ev_var rfl) (by omega)) ea_nil) (sv_is_plain hd))), fun hb H4 e4 => ?_, fun hb H4 e4 => ?_⟩
    · have hk : plain (w.drop k) = false := by simpa using hb
      have hne : k ≠ cutAt w := fun e => by rw [e, c.pl] at hk; cases hk
      refine ⟨_, fun σ2 H5 hn => hn, ?_⟩
      refine s_asg (ev_op (ev_var rfl) ev_c rv_I0) (fun H5 e5 => ?_)
      exact ⟨w.length - (k + 1), by have := c.lt; omega, k + 1, rfl, by omega, by omega, rfl, (e3.trans e4).trans e5⟩
    · have hk : plain (w.drop k) = true := by simpa using hb
      have he : k = cutAt w := by
        rcases Nat.lt_or_ge k (cutAt w) with h | h
        · have := c.min k k0 h; rw [hk] at this; cases this
        · omega
      subst he
      refine s_retU (eu_tup (ea_cons (sl_to (ev_var rfl) (ev_var rfl) (by omega)) (ea_cons (sl_from (ev_var rfl) (ev_var rfl) (by omega)) ea_nil)) (by show 2 ≤ 100000; decide)) (fun p H5 np e5 hp5 => ?_)
      have e : Ex H H4 := ((e1.trans e2).trans e3).trans e4
      exact qQ hp h2 p H5 (fresh_back e np) (e.trans e5) hp5
end
end TB
/-! ## TbData -/
/-! Data that are compared: words, brackets, sums, plain sums, as PyData. -/
namespace TB
open PySem PySem.Spec PyProof.Rows L2 Evl
theorem sh_of {d : PyData} (h : d.canLay0 = true) (hd : d.depth ≤ 64) : SeqAt.shaped d = true := by
  unfold SeqAt.shaped
  rw [h, decide_eq_true hd]
  rfl
theorem lay_tx {w : W} (h : ∀ c ∈ w, c < 0x110000) : (PyData.str (sOf w)).canLay0 = true := by
  show (sOf w).cps.all (· < 0x110000) = true
  simpa [sOf] using h
theorem ABC.lt {w : W} (h : ABC w) : ∀ c ∈ w, c < 0x110000 := fun c hc => by rcases h c hc with h | h | h <;> omega
theorem lay_two {d e : PyData} (h : d.canLay0 = true) (h2 : e.canLay0 = true) : (PyData.tuple [d, e]).canLay0 = true := by
  show (d.canLay0 && (e.canLay0 && true)) = true
  rw [h, h2]; rfl
theorem depth_tx (w : W) : (PyData.str (sOf w)).depth = 0 := by rw [PyData.depth]
theorem depth_two (d e : PyData) : (PyData.tuple [d, e]).depth = max d.depth e.depth + 1 := by
  rw [PyData.depth, PyData.depthAll, PyData.depthAll, PyData.depthAll, Nat.max_zero]
theorem sh_two {u v : W} (hu : ABC u) (hv : ABC v) : SeqAt.shaped (PyData.tuple [.str (sOf u), .str (sOf v)]) = true :=
  sh_of (lay_two (lay_tx hu.lt) (lay_tx hv.lt)) (by rw [depth_two, depth_tx, depth_tx]; decide)
theorem ABC.take {w : W} (h : ABC w) (k : Nat) : ABC (w.take k) := fun c hc => h c (List.mem_of_mem_take hc)
theorem ABC.drop {w : W} (h : ABC w) (k : Nat) : ABC (w.drop k) := fun c hc => h c (List.mem_of_mem_drop hc)
theorem eqv_str (x y : Str) : PyData.eqv (.str x) (.str y) = decide (x = y) := by
  rw [PyData.eqv]
  by_cases h : x = y
  · subst h; simp
  · rw [decide_eq_false h]
    exact beq_eq_false_iff_ne.mpr h
theorem eqv_tx (u v : W) : PyData.eqv (.str (sOf u)) (.str (sOf v)) = decide (u = v) := by
  rw [eqv_str]
  by_cases h : u = v
  · rw [h, decide_eq_true rfl, decide_eq_true rfl]
  · rw [decide_eq_false h, decide_eq_false fun z => h (sOf_inj z)]
theorem eqv_int (i j : Int) : PyData.eqv (.int i) (.int j) = decide (i = j) := by
  rw [PyData.eqv]
  by_cases h : i = j
  · subst h; simp
  · rw [decide_eq_false h]
    exact beq_eq_false_iff_ne.mpr h
theorem eqv_two (a b c d : PyData) : PyData.eqv (.tuple [a, b]) (.tuple [c, d]) = (PyData.eqv a c && PyData.eqv b d) := by
  rw [PyData.eqv, PyData.eqvAll, PyData.eqvAll, PyData.eqvAll, Bool.and_true]
theorem sh_int {i : Int} : SeqAt.shaped (PyData.int i) = true := sh_of rfl (by rw [PyData.depth]; decide)
/-! ### brackets -/
def pdBr : Br → PyData
  | .leaf c => .str (sOf [c])
  | .node l r => .tuple [pdBr l, pdBr r]
theorem lay_br : ∀ {t : Br}, ABC t.letters → (pdBr t).canLay0 = true
  | .leaf c, h => lay_tx h.lt
  | .node l r, h => lay_two (lay_br fun c hc => h c (List.mem_append_left _ hc)) (lay_br fun c hc => h c (List.mem_append_right _ hc))
theorem depth_br : ∀ t : Br, (pdBr t).depth = t.depth
  | .leaf c => depth_tx [c]
  | .node l r => by
    show (PyData.tuple [pdBr l, pdBr r]).depth = max l.depth r.depth + 1
    rw [depth_two, depth_br l, depth_br r]
theorem eqv_br : ∀ t u : Br, PyData.eqv (pdBr t) (pdBr u) = decide (t = u)
  | .leaf c, .leaf d => by
    show PyData.eqv (.str (sOf [c])) (.str (sOf [d])) = _
    rw [eqv_tx]
    by_cases h : c = d
    · subst h; simp
    · have h2 : ¬ ([c] = [d]) := fun z => h (by injection z)
      have h3 : ¬ (Br.leaf c = Br.leaf d) := fun z => h (by injection z)
      rw [decide_eq_false h2, decide_eq_false h3]
  | .leaf c, .node l r => by
    show PyData.eqv (.str (sOf [c])) (.tuple [pdBr l, pdBr r]) = _
    rw [PyData.eqv, decide_eq_false fun z => nomatch z]
  | .node l r, .leaf c => by
    show PyData.eqv (.tuple [pdBr l, pdBr r]) (.str (sOf [c])) = _
    rw [PyData.eqv, decide_eq_false fun z => nomatch z]
  | .node l r, .node l' r' => by
    show PyData.eqv (.tuple [pdBr l, pdBr r]) (.tuple [pdBr l', pdBr r']) = _
    rw [eqv_two, eqv_br l l', eqv_br r r']
    by_cases h1 : l = l'
    · by_cases h2 : r = r'
      · subst h1; subst h2; simp
      · have h3 : ¬ (Br.node l r = Br.node l' r') := fun z => h2 (by injection z)
        rw [decide_eq_false h2, decide_eq_false h3, Bool.and_false]
    · have h3 : ¬ (Br.node l r = Br.node l' r') := fun z => h1 (by injection z)
      rw [decide_eq_false h1, decide_eq_false h3, Bool.false_and]
theorem dp_br {K : PySem.W.Frag} {H : Hp} : ∀ {t : Br} {v : V}, BrAt K H v t → Dp K H v (pdBr t)
  | .leaf c, v, h => by
    have e : v = tx [c] := h
    subst e
    exact .str _
  | .node l r, v, ⟨p, x, y, ev, hs, hx, hy⟩ => by
    subst ev
    exact .tup hs (.cons (dp_br hx) (.cons (dp_br hy) .nil))
end TB
/-! ## TbWords -/
/-! The places whose ends are plain; brackets made in the heap. -/
namespace TB
open PySem PySem.Spec PyProof.Rows L2 Evl
def ends (w : W) : List Int := ((List.range (w.length - 1)).filter fun i => plain (w.drop (1 + i))).map (fun i : Nat => 1 + (i : Int))
/-- the least place whose end is plain -/
theorem cut_min {w : W} (h2 : 2 ≤ w.length) : ((cutAt w : Nat) : Int) ∈ ends w ∧ ∀ y ∈ ends w, ((cutAt w : Nat) : Int) ≤ y := by
  have c := cutAt_ok h2
  have h1 := c.pos
  have h3 := c.lt
  constructor
  · refine List.mem_map.mpr ⟨cutAt w - 1, List.mem_filter.mpr ⟨List.mem_range.mpr (by omega), ?_⟩, by omega⟩
    have : 1 + (cutAt w - 1) = cutAt w := by omega
    rw [this]
    exact c.pl
  · intro y hy
    obtain ⟨i, hi, rfl⟩ := List.mem_map.mp hy
    obtain ⟨h4, h5⟩ := List.mem_filter.mp hi
    rcases Nat.lt_or_ge (1 + i) (cutAt w) with h | h
    · have := c.min (1 + i) (by omega) h
      rw [this] at h5
      cases h5
    · omega
theorem ends_first {w : W} (h2 : 2 ≤ w.length) : (ends w)[0]? = some ((cutAt w : Nat) : Int) := by
  obtain ⟨m1, m2⟩ := cut_min h2
  have sorted : (ends w).Pairwise (· < ·) := by
    unfold ends
    rw [List.pairwise_map]
    refine List.Pairwise.filter _ ?_
    exact List.pairwise_lt_range.imp fun h => by omega
  cases e : ends w with
  | nil => rw [e] at m1; cases m1
  | cons y r =>
    rw [e] at m1 m2 sorted
    rcases List.mem_cons.mp m1 with h | h
    · rw [h]; rfl
    · have h3 := (List.pairwise_cons.mp sorted).1 _ h
      have h4 := m2 y List.mem_cons_self
      omega
section
variable {K : PySem.W.Frag} {σ : L2.St} {H : Hp} {ta tb te : TE} {t : TT}
/-- the list of the places, as a comprehension over range(1, n) makes it -/
theorem ends_given (w : W) : given ((w.length : Int) - 1).toNat (fun i => plain (w.drop (1 + i))) (fun i => .int (1 + (i : Int))) = (ends w).map V.int := by
  unfold given ends
  rw [minus_one, List.map_map]
  rfl
/-- a new tuple of two brackets -/
theorem er_two {l r : Br} (h1 : Er ta σ H fun v H2 => BrAt K H2 v l) (h2 : Er tb σ H fun v H2 => BrAt K H2 v r) : Er (tTup (tCons ta (tCons tb tNil))) σ H fun v H2 => BrAt K H2 v (.node l r) := fun H1 e Q q =>
  h1 H1 e _ fun x H2 e2 hx => h2 H2 (e.trans e2) _ fun y H3 e3 hy => ⟨by show 2 ≤ sizeLine; decide, fun p hp =>
    q _ _ ((e2.trans e3).trans (Ex.new hp)) ⟨p, x, y, rfl, SqT.of upd_same, (hx.mono e3).mono (Ex.new hp), hy.mono (Ex.new hp)⟩⟩
theorem br_ty {x : V} : ∀ {t : Br}, BrAt K H x t → Ty5 K H x "str" ∨ Ty5 K H x "tuple"
  | .leaf c, h => by
    have e : x = tx [c] := h
    subst e
    exact .inl (.str _)
  | .node l r, ⟨p, a, b, ev, hs, _, _⟩ => by
    subst ev
    exact .inr (.tup hs)
theorem br_isi2 {x : V} {t : Br} (h : BrAt K H x t) (hx : Ev te σ H x) : Ev (tCB (rIsiT K) (tCons te (tCons (tTup (tCons (tC (.ty "tuple")) (tCons (tC (.ty "str")) tNil))) tNil))) σ H (.bl true) := by
  rcases br_ty h with h | h
  · exact ev_isi2 hx h (kitAny_next (by decide +kernel) (kitAny_first (by decide +kernel)))
  · exact ev_isi2 hx h (kitAny_first (by decide +kernel))
theorem sh_br {t : Br} (h : ABC t.letters) (hd : t.wt ≤ 64) : SeqAt.shaped (pdBr t) = true := sh_of (lay_br h) (by rw [depth_br]; have := t.depth_lt; omega)
theorem sh_pb {w : W} (h : ABC w) (hp : plain w = true) (hd : w.length ≤ 64) : SeqAt.shaped (pdBr (pb w)) = true := sh_br (by rw [pb_letters (plain_iff.mp hp)]; exact h) (by rw [pb_wt (plain_iff.mp hp)]; exact hd)
end
end TB
/-! ## TbD_plain_bracket -/
namespace TB
open PySem PySem.Spec PyProof.Rows L2 Evl
section
variable {P : Program} {wd : World} {K : PySem.W.Frag} {mg : Str → Option Value} {base : Heap}
/-! plain_bracket -/
def sp_plain_bracket (K : PySem.W.Frag) (C : Addr) (n : Nat) : Sp := fun vs H Q E => ∃ w : W, vs = [tx w] ∧ w.length < n ∧ w.length ≤ 1000 ∧ (plain w = false → ∀ H', Ex H H' → E (.ref C) none H') ∧ (plain w = true → ∀ v H', Ex H H' → BrAt K H' v (pb w) → Q v H')
theorem sv_plain_bracket {K : PySem.W.Frag} {C : Addr} {n : Nat} {w : W} {H : Hp} (h : w.length < n) (hl : w.length ≤ 1000) (hp : plain w = true) : SpR (sp_plain_bracket K C n) [tx w] H (fun v H2 => BrAt K H2 v (pb w)) := fun H1 e Q q E =>
  ⟨w, rfl, h, hl, fun z => (by rw [hp] at z; cases z), fun _ v H' e2 hv => q v H' e2 hv⟩
theorem sv_cut {C : Addr} {w : W} {H : Hp} (hl : w.length ≤ 1000) (hp : plain w = true) (h2 : 2 ≤ w.length) : SpR (sp_cut C) [tx w] H (fun v H2 => ∃ p, v = .ref p ∧ H2 p = some (.tup [tx (w.take (cutAt w)), tx (w.drop (cutAt w))])) := fun H1 e Q q E =>
  ⟨w, rfl, hl, fun z => (Or.elim z (fun z => by rw [hp] at z; cases z) (fun z => by omega)), fun _ _ p H' np e2 hh => q _ H' e2 ⟨p, rfl, hh⟩⟩
theorem none_plain_bracket {k : Nat} {C f : Addr} {fd : FuncData} : FnOk P wd K mg base (L2.CX P wd) k f fd ["word"] (sp_plain_bracket K C 0) := by
  have no : ∀ vs H Q E, ¬ sp_plain_bracket K C 0 vs H Q E := fun vs H Q E h => by
    obtain ⟨w, _, h, _⟩ := h
    omega
  exact ⟨fun vs H Q E h => absurd h (no vs H Q E), fun A outer s H args us vs Q E _ _ _ _ h => absurd h (no vs H Q E)⟩
theorem step_plain_bracket {n : Nat} (B : Blt mg) (D : DefAt K mg "plain_bracket" s_plain_bracket ["word"]) (D_cut : DefAt K mg "cut" s_cut ["word"]) (D_is_plain : DefAt K mg "is_plain" s_is_plain ["word"]) (EC_NoWord : ErrAt K mg "NoWord")
    (G : FnOk P wd K mg base (L2.CX P wd) (n + 3) D.f D.fd ["word"] (sp_plain_bracket K EC_NoWord.C n)) : FnOk P wd K mg base (L2.CX P wd) (n + 4) D.f D.fd ["word"] (sp_plain_bracket K EC_NoWord.C (n + 1)) := by
  have G_is_plain := ok_is_plain (P := P) (wd := wd) (base := base) B D_is_plain
  have G_cut := ok_cut (P := P) (wd := wd) (base := base) B D_cut D_is_plain EC_NoWord
  refine D.F.okX sc_plain_bracket (fun vs H Q E h => ?_) (fun cdv A outer s H vs Q E hr h => ?_)
  · obtain ⟨w, rfl, _⟩ := h
    rfl
  obtain ⟨w, rfl, hn, hl, qE, qQ⟩ := h
  refine ⟨_, (pss_cons (ps_if (pt_not (pt_val (cl D_is_plain G_is_plain hr (pa_cons (pv 0) pa_nil) (by omega))))
      (pss_one (ps_raise rfl (takes_of rfl rfl rfl rfl) (EC_NoWord.pm)))
      pss_nil)
    (pss_cons (ps_if (pt_cmpR op_eq (pe_callB call_len_str (by rfl) B.len PySem.boot_len (pa_cons (pv 0) pa_nil)) pe_int (nomark _))
      (pss_one (ps_ret (pv 0)))
      pss_nil)
    (pss_cons (ps_asg (clN D_cut G_cut hr (pa_cons (pv 0) pa_nil) (by omega)) (pg_tup rfl (pgs_cons (pg_name (i := 1) sc_plain_bracket.nd rfl (by first | exact .inl rfl | exact .inr rfl)) (pgs_cons (pg_name (i := 2) sc_plain_bracket.nd rfl (by first | exact .inl rfl | exact .inr rfl)) pgs_nil))))
    (pss_one (ps_ret (pe_tup (pa_cons (clN D G hr (pa_cons (pv 1) pa_nil) (by omega)) (pa_cons (clN D G hr (pa_cons (pv 2) pa_nil) (by omega)) pa_nil)))))))), ?_⟩
  refine q_when (et_not (et_B (ev_call (ea_cons (ev_var rfl) ea_nil) (sv_is_plain hl)))) (fun hb H1 e1 => ?_) (fun hb H1 e1 => ?_)
  · exact qE (by simpa using hb) H1 e1
  have hp : plain w = true := by simpa using hb
  refine q_when (et_test (ev_op (ev_lenW (ev_var rfl) (by omega)) ev_c rv_eqI)) (fun hb H2 e2 => ?_) (fun hb H2 e2 => ?_)
  · have h1 : (w.length : Int) = 1 := of_decide_eq_true hb
    refine s_ret (ev_var rfl) (fun H3 e3 => qQ hp _ H3 ((e1.trans e2).trans e3) ?_)
    match w, h1 with
    | [c], _ =>
      rw [pb_one]
      exact rfl
  have h1 : ¬ (w.length : Int) = 1 := of_decide_eq_false hb
  have h0 := List.length_pos_iff.mpr (plain_iff.mp hp).1
  have h2 : 2 ≤ w.length := by omega
  have c := cutAt_ok h2
  have c1 := c.pos
  have c2 := c.lt
  refine (er_call (ea_cons (ev_var rfl) ea_nil) (sv_cut hl hp h2)) _ (Ex.refl _) _ fun v H3 e3 hv => ?_
  obtain ⟨p, rfl, hp3⟩ := hv
  refine ⟨p, _, rfl, SqT.of hp3, rfl, _, _, rfl, _, _, rfl, rfl, ?_⟩
  have l1 : (w.take (cutAt w)).length = cutAt w := by rw [List.length_take]; omega
  have l2 : (w.drop (cutAt w)).length = w.length - cutAt w := List.length_drop
  refine s_retR (er_two (er_call (ea_cons (ev_var rfl) ea_nil) (sv_plain_bracket (by omega) (by omega) (plain_iff.mpr (cut_front (plain_iff.mp hp) c)))) (er_call (ea_cons (ev_var rfl) ea_nil) (sv_plain_bracket (by omega) (by omega) c.pl))) (fun v H4 e4 hv => ?_)
  refine qQ hp v H4 (((e1.trans e2).trans e3).trans e4) ?_
  rw [pb_two h2]
  exact hv
theorem ok_plain_bracket (B : Blt mg) (D : DefAt K mg "plain_bracket" s_plain_bracket ["word"]) (D_cut : DefAt K mg "cut" s_cut ["word"]) (D_is_plain : DefAt K mg "is_plain" s_is_plain ["word"]) (EC_NoWord : ErrAt K mg "NoWord") :
    ∀ n : Nat, FnOk P wd K mg base (L2.CX P wd) (n + 3) D.f D.fd ["word"] (sp_plain_bracket K EC_NoWord.C n)
  | 0 => none_plain_bracket
  | n + 1 => step_plain_bracket B D D_cut D_is_plain EC_NoWord (ok_plain_bracket B D D_cut D_is_plain EC_NoWord n)
end
end TB
/-! ## TbD__law_no_word -/
namespace TB
open PySem PySem.Spec PyProof.Rows L2 Evl
section
variable {P : Program} {wd : World} {K : PySem.W.Frag} {mg : Str → Option Value} {base : Heap}
/-! _law_no_word -/
section
variable {σ : L2.St} {H : Hp} {te ta tb tc td : TE}
theorem s_callX {sp : Sp} {dvs vs : List V} {E : XK} {tr : TA} {D : Ends} (h : EvA tr σ H vs) (k : ∀ H1, Ex H H1 → sp (vs ++ dvs) H1 (fun _ H' => D.nx σ H') E) : tDrop (tCall sp dvs E tr) D σ H := h H (Ex.refl H) _ k
theorem s_callXR {sp : Sp} {dvs : List V} {E : XK} {tr : TA} {D : Ends} {A : List V → Hp → Prop} (h : Ear tr σ H A) (k : ∀ vs H1, Ex H H1 → A vs H1 → sp (vs ++ dvs) H1 (fun _ H' => D.nx σ H') E) : tDrop (tCall sp dvs E tr) D σ H := h H (Ex.refl H) _ fun vs H1 e1 hv => k vs H1 e1 hv
/-- one of some texts written out -/
theorem ev_pick {ws : List W} {i : Int} (h : EvL ta σ H (ws.map tx)) (hi : ∀ H1, Ex H H1 → Ev tb σ H1 (.int i)) (h0 : 0 ≤ i) (hl : i.toNat < ws.length) : Ev (tOp (rIxL K) ta tb) σ H (tx (ws[i.toNat])) := ev_opL1 h hi (fun p H1 hp e => rv_ixL (sq_of hp) (atI_nat' h0 (by rw [List.getElem?_map, List.getElem?_eq_getElem hl]; rfl)))
end
def nw1 : List W := [[], [97], [98, 97], [97, 97], [97, 98, 97, 98], [98], [97, 98, 97]]
def nw2 : List W := [[], [98, 97], [97, 97], [97, 98, 97, 98], [99, 97, 98]]
theorem nw1_bad : ∀ u ∈ nw1, plain u = false ∨ u.length < 2 := by decide +kernel
theorem nw2_bad : ∀ u ∈ nw2, plain u = false := by decide +kernel
def sp__law_no_word (C : Addr) : Sp := fun vs H Q E => ∃ (c : Int), vs = [.int c] ∧ ∀ H', Ex H H' → E (.ref C) none H'
theorem ok__law_no_word (B : Blt mg) (D__law_no_word : DefAt K mg "_law_no_word" s__law_no_word ["cell"]) (D_cut : DefAt K mg "cut" s_cut ["word"]) (D_plain_bracket : DefAt K mg "plain_bracket" s_plain_bracket ["word"]) (D_is_plain : DefAt K mg "is_plain" s_is_plain ["word"]) (EC_NoWord : ErrAt K mg "NoWord") : FnOk P wd K mg base (L2.CX P wd) 20 D__law_no_word.f D__law_no_word.fd ["cell"] (sp__law_no_word EC_NoWord.C) := by
  have G_cut := ok_cut (P := P) (wd := wd) (base := base) B D_cut D_is_plain EC_NoWord
  have G_plain_bracket := ok_plain_bracket (P := P) (wd := wd) (base := base) B D_plain_bracket D_cut D_is_plain EC_NoWord 10
  refine D__law_no_word.F.okX sc__law_no_word (fun vs H Q E h => ?_) (fun cdv A outer st H vs Q E hr h => ?_)
  · obtain ⟨c, rfl, _⟩ := h
    rfl
  obtain ⟨c, rfl, q⟩ := h
  refine ⟨_, (pss_one (ps_if (pt_cmpR op_eq (pe_op op_mod (pv 0) pe_int) pe_int (nomark _))
      (pss_one (ps_expr (clX (E := E) (Q1 := fun _ _ => True) D_cut G_cut hr (passes_call (takes_of rfl rfl rfl rfl) (fun _ _ _ _ h => h)) (pa_cons (pe_ix ix_list (pe_lst (pa_cons pe_str (pa_cons pe_str (pa_cons pe_str (pa_cons pe_str (pa_cons pe_str (pa_cons pe_str (pa_cons pe_str pa_nil)))))))) (pe_op op_mod (pe_op op_fdiv (pv 0) pe_int) pe_int) (fun _ _ => rfl)) pa_nil))))
      (pss_one (ps_expr (clX (E := E) (Q1 := fun _ _ => True) D_plain_bracket G_plain_bracket hr (passes_call (takes_of rfl rfl rfl rfl) (fun _ _ _ _ h => h)) (pa_cons (pe_ix ix_list (pe_lst (pa_cons pe_str (pa_cons pe_str (pa_cons pe_str (pa_cons pe_str (pa_cons pe_str pa_nil)))))) (pe_op op_mod (pe_op op_fdiv (pv 0) pe_int) pe_int) (fun _ _ => rfl)) pa_nil)))))), ?_⟩
  refine s_if (et_test (ev_op (ev_op (ev_var rfl) ev_c (rv_I (by decide))) ev_c rv_eqI)) (fun hb H1 e1 => ?_) (fun hb H1 e1 => ?_)
  · have h0 := Int.emod_nonneg (c / 2) (show (7 : Int) ≠ 0 by decide)
    have h1 := Int.emod_lt_of_pos (c / 2) (show (0 : Int) < 7 by decide)
    have hl : (c / 2 % 7).toNat < nw1.length := by show _ < 7; omega
    refine s_callX (ea_cons (ev_pick (ws := nw1) (el_lst (ea_cons (ev_tx (by decide +kernel)) (ea_cons (ev_tx (by decide +kernel)) (ea_cons (ev_tx (by decide +kernel)) (ea_cons (ev_tx (by decide +kernel)) (ea_cons (ev_tx (by decide +kernel)) (ea_cons (ev_tx (by decide +kernel)) (ea_cons (ev_tx (by decide +kernel)) ea_nil))))))) (by show 7 ≤ 100000; decide)) (fun H2 e2 => ev_op (ev_op (ev_var rfl) ev_c (rv_I ⟨by decide, by decide⟩)) ev_c (rv_I (by decide))) h0 hl) ea_nil) (fun H2 e2 => ⟨_, rfl, ?_, fun _ H3 e3 => q H3 ((e1.trans e2).trans e3), fun hp h2 => ?_⟩)
    · have : ∀ u ∈ nw1, u.length ≤ 1000 := by decide
      exact this _ (List.getElem_mem hl)
    · exfalso
      rcases nw1_bad _ (List.getElem_mem hl) with h | h
      · rw [h] at hp; cases hp
      · omega
  · have h0 := Int.emod_nonneg (c / 2) (show (5 : Int) ≠ 0 by decide)
    have h1 := Int.emod_lt_of_pos (c / 2) (show (0 : Int) < 5 by decide)
    have hl : (c / 2 % 5).toNat < nw2.length := by show _ < 5; omega
    refine s_callX (ea_cons (ev_pick (ws := nw2) (el_lst (ea_cons (ev_tx (by decide +kernel)) (ea_cons (ev_tx (by decide +kernel)) (ea_cons (ev_tx (by decide +kernel)) (ea_cons (ev_tx (by decide +kernel)) (ea_cons (ev_tx (by decide +kernel)) ea_nil))))) (by show 5 ≤ 100000; decide)) (fun H2 e2 => ev_op (ev_op (ev_var rfl) ev_c (rv_I ⟨by decide, by decide⟩)) ev_c (rv_I (by decide))) h0 hl) ea_nil) (fun H2 e2 => ⟨_, rfl, ?_, ?_, fun _ H3 e3 => q H3 ((e1.trans e2).trans e3), fun hp => ?_⟩)
    · have : ∀ u ∈ nw2, u.length < 10 := by decide
      exact this _ (List.getElem_mem hl)
    · have : ∀ u ∈ nw2, u.length ≤ 1000 := by decide
      exact this _ (List.getElem_mem hl)
    · exfalso
      rw [nw2_bad _ (List.getElem_mem hl)] at hp
      cases hp
end
end TB
/-! ## TbRules -/
/-! Rules of our own: the least of a list of texts, of a dict's keys. -/
namespace TB
open PySem PySem.Spec PyProof.Rows L2 Evl
theorem argBest_lx (nm : Nat → W) : ∀ k, argBest (fun i j => lx (nm i) (nm j)) k ≤ k ∧ ∀ j, j ≤ k → le (nm (argBest (fun i j => lx (nm i) (nm j)) k)) (nm j)
  | 0 => ⟨Nat.le_refl _, fun j hj => by
    have : j = 0 := by omega
    subst this
    exact le_refl _⟩
  | k + 1 => by
    obtain ⟨h1, h2⟩ := argBest_lx nm k
    simp only [argBest]
    by_cases hc : lx (nm (k + 1)) (nm (argBest (fun i j => lx (nm i) (nm j)) k)) = true
    · rw [if_pos hc]
      refine ⟨Nat.le_refl _, fun j hj => ?_⟩
      rcases Nat.lt_or_ge j (k + 1) with h | h
      · exact le_of_lx (lx_le hc (h2 j (by omega)))
      · have : j = k + 1 := by omega
        subst this
        exact le_refl _
    · rw [if_neg hc]
      refine ⟨by omega, fun j hj => ?_⟩
      rcases Nat.lt_or_ge j (k + 1) with h | h
      · exact h2 j (by omega)
      · have : j = k + 1 := by omega
        subst this
        exact Bool.eq_false_iff.mpr hc
section
variable {prog : Program} {w : World} {A : Around}
theorem cmp_strs {Pv : Nat → Value → Prop} (nm : Nat → W) (hval : ∀ i v, Pv i v → ∃ t, v = .str (sOf (nm i)) t) : CmpOf prog w A .Lt Pv (fun i j => lx (nm i) (nm j)) := fun i j vi vj s Q E hi hj h => by
  obtain ⟨t, rfl⟩ := hval i vi hi
  obtain ⟨u, rfl⟩ := hval j vj hj
  refine lt_str (x := sOf (nm i)) (y := sOf (nm j)) ?_
  have e : decide ((sOf (nm i)).cps.toList < (sOf (nm j)).cps.toList) = lx (nm i) (nm j) := by rw [lx_dec, sOf_cps, sOf_cps]
  rw [e]
  exact h
end
section
variable {X : Cx}
theorem vals_tx : ∀ {ws : List W} {us : List Value}, Vals (ws.map tx) us → ∀ (i : Nat) v, us[i]? = some v → ∃ t, v = .str (sOf (ws.getD i [])) t
  | [], _, .nil, _, _, h => by simp at h
  | w :: ws, _, .cons r rs, 0, v, h => by
    have : v = _ := (Option.some.inj (by simpa using h)).symm
    subst this
    exact r
  | w :: ws, _, .cons r rs, i + 1, v, h => vals_tx rs i v (by simpa using h)
/-- min of a list of texts -/
def rMinL (K : PySem.W.Frag) : List V → Hp → VK → Prop := fun vs H Q => ∃ (a : Addr) (ws : List W), vs = [V.ref a] ∧ SqL K H a (ws.map tx) ∧ ws ≠ [] ∧ ∀ m, m ∈ ws → (∀ x ∈ ws, le m x) → Q (tx m) H
theorem cr_minL (hc : X.calm = true) : CallR X (.builtin "min") (rMinL X.K) := by
  intro pins s σ H vs us Q I r h
  obtain ⟨a, ws, rfl, hs, hne, q⟩ := h
  obtain ⟨its, rv, hl, _⟩ := I.list hs
  rw [Vals.ref1 r]
  have hlen : its.length = ws.length := by
    have := rv.length
    rw [List.length_map] at this
    exact this.symm
  have hpos : 0 < ws.length := List.length_pos_iff.mpr hne
  have at' : ∀ (i : Nat) (v : Value), its.toArray[i]? = some v → its[i]? = some v := fun i v h => by simpa using h
  refine call_min_walkS (PySem.W.iter_listW (A := X.A.in1) (I.ok.hd hc) hl.isList fun s2 e W st hfp hw hk => ?_)
  refine ⟨_, _, _, _, _, _, _, _, rfl, W, st, hfp, (by rw [List.size_toArray]; omega), cmp_strs (fun i => ws.getD i []) (fun i v hv => vals_tx rv i v (at' i v hv)), fun v s' hP m => ?_⟩
  obtain ⟨h', tk, rfl, hk'⟩ := PySem.W.moved_old e rfl m
  obtain ⟨t, rfl⟩ := vals_tx rv _ v (at' _ v hP)
  obtain ⟨b1, b2⟩ := argBest_lx (fun i => ws.getD i []) (its.toArray.size - 1)
  have hs2 : its.toArray.size = ws.length := by rw [List.size_toArray]; exact hlen
  refine ⟨tx _, H, I.kept (t' := tk) hk', ⟨t, rfl⟩, q _ ?_ fun x hx => ?_⟩
  · have hb : argBest (fun i j => lx (ws.getD i []) (ws.getD j [])) (its.toArray.size - 1) < ws.length := by omega
    rw [List.getD_eq_getElem?_getD, List.getElem?_eq_getElem hb]
    exact List.getElem_mem hb
  · obtain ⟨i, hi, e⟩ := List.mem_iff_getElem.mp hx
    have e2 : ws.getD i [] = x := by rw [List.getD_eq_getElem?_getD, List.getElem?_eq_getElem hi, ← e] <;> rfl
    rw [← e2]
    exact b2 i (by omega)
/-- min of a dict's keys, texts -/
def rMinT : List V → Hp → VK → Prop := fun vs H Q => ∃ (a : Addr) (p : TB.P), vs = [V.ref a] ∧ H a = some (.dK (kv p)) ∧ p ≠ [] ∧ ∀ m, m ∈ keys p → (∀ x ∈ keys p, le m x) → Q (tx m) H
theorem cr_minT (hc : X.calm = true) : CallR X (.builtin "min") rMinT := by
  intro pins s σ H vs us Q I r h
  obtain ⟨a, p, rfl, ha, hne, q⟩ := h
  rw [Vals.ref1 r]
  obtain ⟨_, hsys, vs, rel, dof⟩ := dk_of I.hok ha
  obtain ⟨ep, dat⟩ := dof.dictAt
  obtain ⟨ob, es, ho, hex, hdat, hko, hpr, hnd⟩ := id dat
  have hlt : a < s.heap.objs.size := Heap.lt_size ho
  have hkeys : vs.map (·.1) = (keys p).map fun w => (Sum.inr (sOf w) : Key) := by
    rw [(KV.keys rel).symm]
    unfold kv keys
    rw [List.map_map, List.map_map]
    rfl
  have hlv : vs.length = (keys p).length := by
    have e1 := congrArg List.length hkeys
    rw [List.length_map, List.length_map] at e1
    exact e1
  have hpos : 0 < (keys p).length := by
    unfold keys
    rw [List.length_map]
    exact List.length_pos_iff.mpr hne
  have hval : ∀ (i : Nat) (v : Value), (∃ k x, vs[i]? = some (k, x) ∧ (mixKind X.prog X.w).is k v = true) → ∃ t, v = Value.str (sOf ((keys p).getD i [])) t := fun i v ⟨k, x, hk, hkey⟩ => by
    have e1 : (vs.map (·.1))[i]? = some k := by rw [List.getElem?_map, hk] <;> rfl
    rw [hkeys, List.getElem?_map] at e1
    obtain ⟨j, hj, e2⟩ := Option.map_eq_some_iff.mp e1
    subst e2
    have hi : Value.isStrOf (sOf j) v = true := hkey
    obtain ⟨t, e3⟩ := Value.isStrOf_shape (x := sOf j) (v := v) hi
    refine ⟨t, ?_⟩
    rw [e3, List.getD_eq_getElem?_getD, hj] <;> rfl
  refine call_min_walk (wpAny_pyIter_dict (knd := mixKind X.prog X.w) hsys dat ?_)
  refine ⟨_, _, _, _, _, _, _, rfl, Walks.dictKeys (knd := mixKind X.prog X.w) (A := X.A.in1) (I.ok.hd hc) s.heap.objs.size a (Nat.ne_of_lt hlt) vs ep,
    ⟨⟨_, Heap.get?_push_size _ rfl, rfl, rfl⟩, dat.keep fun b u e => Heap.get?_push_of_some _ e⟩, fun b hb => ?_, (by omega), cmp_strs (fun i => (keys p).getD i []) hval, fun v h' tk hP hk => ?_⟩
  · show b < (s.heap.push _).objs.size
    rw [Heap.size_push]
    rcases List.mem_cons.mp hb with e | hb
    · rw [e]
      exact Nat.lt_succ_self _
    · rw [List.mem_singleton.mp hb]
      exact Nat.lt_succ_of_lt hlt
  · obtain ⟨t, rfl⟩ := hval _ v hP
    obtain ⟨b1, b2⟩ := argBest_lx (fun i => (keys p).getD i []) (vs.length - 1)
    refine ⟨tx _, H, I.kept (t' := tk) fun b u e => hk b u (fun hmem => ?_) (Heap.get?_push_of_some _ e), ⟨t, rfl⟩, q _ ?_ fun j hj => ?_⟩
    · have e1 : b = s.heap.objs.size := List.mem_singleton.mp hmem
      have e2 := Heap.lt_size e
      rw [e1] at e2
      exact absurd e2 (Nat.lt_irrefl _)
    · have hb : argBest (fun i j => lx ((keys p).getD i []) ((keys p).getD j [])) (vs.length - 1) < (keys p).length := by omega
      rw [List.getD_eq_getElem?_getD, List.getElem?_eq_getElem hb]
      exact List.getElem_mem hb
    · obtain ⟨i, hi, e⟩ := List.mem_iff_getElem.mp hj
      have e2 : (keys p).getD i [] = j := by rw [List.getD_eq_getElem?_getD, List.getElem?_eq_getElem hi, ← e] <;> rfl
      rw [← e2]
      exact b2 i (by omega)
end
theorem er_minT {σ : L2.St} {H : Hp} {te : TE} {d : Addr} {p : TB.P} (h : Ev te σ H (.ref d)) (hd : H d = some (.dK (kv p))) (hp : p ≠ []) : Er (tCB rMinT (tCons te tNil)) σ H fun v _ => ∃ m, v = tx m ∧ m ∈ keys p ∧ ∀ x ∈ keys p, le m x := fun H1 e Q q =>
  h H1 e _ fun H2 e2 => ⟨d, p, rfl, (e.trans e2) _ _ hd, hp, fun m h1 h2 => q _ H2 e2 ⟨m, rfl, h1, h2⟩⟩
end TB
/-! ## TbHeap -/
/-! Counts in the heap: read, put to, walked. -/
namespace TB
open PySem PySem.Spec PyProof.Rows L2 Evl
/-- two to the n, closed up -/
@[irreducible] def bit (n : Nat) : Nat := 2 ^ n
theorem bit_of (a : Nat) : bit a = 2 ^ a := by unfold bit; rfl
theorem bit_add (a b : Nat) : bit a * bit b = bit (a + b) := by rw [bit_of, bit_of, bit_of, Nat.pow_add]
theorem bit_le {a b : Nat} (h : a ≤ b) : bit a ≤ bit b := by rw [bit_of, bit_of]; exact Nat.pow_le_pow_right (by decide) h
theorem bit_lt {a b : Nat} (h : a < b) : bit a < bit b := by rw [bit_of, bit_of]; exact Nat.pow_lt_pow_right (by decide) h
theorem bit_pos (a : Nat) : 0 < bit a := by rw [bit_of]; exact Nat.pow_pos (by decide)
theorem bit1 : bit 1 = 2 := by rw [bit_of]
theorem bit_dbl (a : Nat) : bit a * 2 = bit (a + 1) := by rw [← bit_add, bit1]
theorem bit7 : (128 : Nat) = bit 7 := by rw [bit_of]
theorem bit8 : (256 : Nat) = bit 8 := by rw [bit_of]
theorem bit14 : (10000 : Nat) ≤ bit 14 := by rw [bit_of]; decide
theorem bit100 : (10 ^ 29 : Nat) < bit 100 := by rw [bit_of]; decide
theorem mulW {i j : Int} (hi : i.natAbs < bit 200000) (hj : j.natAbs < bit 200000) : CMulW i j := by
  rw [bit_of] at hi hj
  exact wide_mul (a := 200000) (b := 200000) hi hj (by decide) (by decide) (by decide)
/-- counts fit to be reckoned with: n words at most, none longer than L -/
structure Fit (p : TB.P) (n L : Nat) : Prop where
  nrm : Nrm p
  len : p.length ≤ n
  tot : tot p < bit 200000
  wl : ∀ w ∈ keys p, w.length ≤ L
theorem Fit.mono {p : TB.P} {n L n' L' : Nat} (h : Fit p n L) (hn : n ≤ n') (hL : L ≤ L') : Fit p n' L' := ⟨h.nrm, Nat.le_trans h.len hn, h.tot, fun w hw => Nat.le_trans (h.wl w hw) hL⟩
theorem Fit.val {p : TB.P} {n L : Nat} (h : Fit p n L) {x : W × Int} (hx : x ∈ p) : x.2.natAbs < bit 200000 := Nat.lt_of_le_of_lt (tot_mem hx) h.tot
/-- all but what stands at d, e is as it was -/
def But (d e : Addr) (H H' : Hp) : Prop := ∀ b o, b ≠ d → b ≠ e → H b = some o → H' b = some o
theorem But.refl {d e : Addr} {H : Hp} : But d e H H := fun _ _ _ _ h => h
theorem But.ex {d e : Addr} {H H1 H2 : Hp} (a : But d e H H1) (b : Ex H1 H2) : But d e H H2 := fun x o h1 h2 h => b x o (a x o h1 h2 h)
theorem But.put {d e l : Addr} {o : HO} {H H1 : Hp} (a : But d e H H1) (n : H l = none) : But d e H (upd H1 l o) := fun x u h1 h2 h => by
  rw [upd_ne (ne_of_none h n)]
  exact a x u h1 h2 h
/-- counts[w] = counts.get(w, 0) + c, away where it comes to 0 -/
def sp_put : Sp := fun vs H Q _ => ∃ (d : Addr) (p : TB.P) (w : W) (c : Int), vs = [.ref d, tx w, .int c] ∧ H d = some (.dK (kv p)) ∧ p.length ≤ 10000000 ∧ Q .non (upd H d (.dK (kv (put p w c))))
section
variable {K : PySem.W.Frag} {σ : L2.St} {H H' : Hp} {ta tb te ti tj : TE} {t u : TT} {x y z v : V} {r : R2} {D : Ends}
theorem ev_dget {d : Addr} {p : TB.P} {w : W} {c : Int} (h : Ev ta σ H (.ref d)) (hw : Ev tb σ H (tx w)) (hd : DR H d p) (hl : look p w = some c) : Ev (tDGet ta tb) σ H (.int c) := fun H1 a Q q =>
  h H1 a _ fun H2 e2 => hw H2 (a.trans e2) _ fun H3 e3 => ⟨d, .int c, rfl, (by
    have := DR.get (Same.dr ((a.trans e2).trans e3) hd) w
    rw [hl] at this
    exact this), q H3 (e2.trans e3)⟩
theorem s_put {l : Addr} {p : TB.P} {w : W} {c : Int} {tr : TA} {E : XK} (hl : H l = some (.dK (kv p))) (ha : EvA tr σ H [.ref l, tx w, .int c]) (hz : p.length ≤ 10000000) (k : ∀ H1, Ex H H1 → D.nx σ (upd H1 l (.dK (kv (put p w c))))) : tDrop (tCall sp_put [] E tr) D σ H :=
  ha H (Ex.refl H) _ fun H1 e1 => ⟨l, p, w, c, rfl, e1 _ _ hl, hz, k H1 e1⟩
theorem q_put {tz : TS} {l : Addr} {p : TB.P} {w : W} {c : Int} {tr : TA} {E : XK} (hl : H l = some (.dK (kv p))) (ha : EvA tr σ H [.ref l, tx w, .int c]) (hz : p.length ≤ 10000000) (k : ∀ H1, Ex H H1 → tz D σ (upd H1 l (.dK (kv (put p w c))))) : tSeq (tDrop (tCall sp_put [] E tr)) tz D σ H := s_put (D := { D with nx := tz D }) hl ha hz k
/-- d[w] = c -/
theorem q_dput {tz : TS} {tv td ty : TE} {l : Addr} {p : TB.P} {w : W} {c : Int} (hv : Ev tv σ H (.int c)) (hd : Ev td σ H (.ref l)) (hi : Ev ty σ H (tx w)) (hl : H l = some (.dK (kv p))) (hz : p.length ≤ 10000000) (k : ∀ H1, Ex H H1 → tz D σ (upd H1 l (.dK (kv (set p w c))))) : tSeq (sDPut td ty tv) tz D σ H :=
  hv H (Ex.refl H) _ fun H1 e1 => hd H1 e1 _ fun H2 e2 => hi H2 (e1.trans e2) _ fun H3 e3 => ⟨l, _, rfl, DPut.k (k := Sum.inr (sOf w)) (((e1.trans e2).trans e3) _ _ hl) (by rw [kv_len]; exact Nat.lt_of_le_of_lt hz (by decide)), by rw [kv_put]; exact k H3 ((e1.trans e2).trans e3)⟩
theorem et_dict {t : TE} {l : Addr} {p : TB.P} (h : Ev t σ H (.ref l)) (hl : H l = some (.dK (kv p))) : EvT (fun σ H Q => t σ H fun x H' => ∃ k, TruV K x H' k ∧ Q k H') σ H (!p.isEmpty) := fun H1 e Q q =>
  h H1 e _ fun H2 e2 => ⟨!p.isEmpty, .inr (.inr ⟨kv p, (e.trans e2) _ _ hl, by cases p <;> rfl⟩), q H2 e2⟩
/-- x = {} -/
theorem q_dnew {tz : TS} {i : Nat} (k : ∀ d, H d = none → tz D (σ.set i (some (.ref d))) (upd H d (.dK (kv [])))) : tSeq (tAsg (fun _ H Q => ∀ d, H d = none → Q (.ref d) (upd H d (.dK []))) (gName i)) tz D σ H := fun d hd => k d hd
end
theorem kv_inj : ∀ {p q : TB.P}, kv p = kv q → p = q
  | [], [], _ => rfl
  | [], _ :: _, h => by cases h
  | _ :: _, [], h => by cases h
  | (w, c) :: p, (v, d) :: q, h => by
    have h' : ((Sum.inr (sOf w) : Key), V.int c) :: kv p = ((Sum.inr (sOf v) : Key), V.int d) :: kv q := h
    injection h' with h1 h2
    have e1 := congrArg Prod.fst h1
    have e2 := congrArg Prod.snd h1
    have e3 : w = v := sOf_inj (Sum.inr.inj e1)
    have e4 : c = d := V.int.inj e2
    rw [e3, e4, kv_inj h2]
/-- a new dict of the counts p -/
def newD (H : Hp) (p : TB.P) (v : V) (H2 : Hp) : Prop := ∃ r, v = .ref r ∧ H r = none ∧ H2 r = some (.dK (kv p))
theorem newD.back {H H' : Hp} {p : TB.P} {v : V} {H2 : Hp} (e : Ex H H') (h : newD H' p v H2) : newD H p v H2 := by
  obtain ⟨r, rfl, n, hr⟩ := h
  exact ⟨r, rfl, fresh_back e n, hr⟩
theorem twist_fit {p q : TB.P} {n m L : Nat} (hp : Fit p n L) (hq : Fit q m L) (ht : tot p * tot q * 2 < bit 200000) : Fit (twist p q) (2 * (n * m)) (L + L) := by
  refine ⟨twist_nrm p q, Nat.le_trans (twist_len p q) (Nat.mul_le_mul_left 2 (Nat.mul_le_mul hp.len hq.len)), ?_, fun w hw => ?_⟩
  · have := twist_tot p q
    omega
  · obtain ⟨a, ha, b, hb, e⟩ := twist_keys hw
    have h1 := hp.wl a ha
    have h2 := hq.wl b hb
    rcases e with rfl | rfl <;> rw [List.length_append] <;> omega
/-- fit for a bracket of the weight -/
theorem cnt_fit (t : Br) (h : t.wt ≤ 12) : Fit (cnt t) (2 ^ (t.wt - 1)) t.wt := by
  refine ⟨cnt_nrm t, cnt_len t, Nat.lt_of_le_of_lt (cnt_tot t) ?_, fun w hw => Nat.le_of_eq (ws_len (cnt_keys hw))⟩
  rw [← bit_of]; exact bit_lt (by omega)
theorem lcnt_fit (t : Br) (h : t.wt ≤ 12) : Fit (lcnt t) (2 ^ (t.wt - 1)) t.wt := by
  refine ⟨lcnt_nrm t, lcnt_len t, Nat.lt_of_le_of_lt (lcnt_tot t) ?_, fun w hw => Nat.le_of_eq (ws_len (lcnt_keys hw))⟩
  rw [← bit_of]; exact bit_lt (by omega)
theorem wt_pow {l r : Br} (h : (Br.node l r).wt ≤ 12) : 2 ^ (l.wt - 1) * 2 ^ (r.wt - 1) ≤ 1024 := by
  rw [← Nat.pow_add]
  have e : l.wt + r.wt ≤ 12 := h
  have h1 := l.wt_pos
  have h2 := r.wt_pos
  exact Nat.le_trans (Nat.pow_le_pow_right (by decide) (show l.wt - 1 + (r.wt - 1) ≤ 10 by omega)) (by decide)
/-! ### for word in counts: put_to(found, word, ..) -/
section
variable {K : PySem.W.Frag} {σ : L2.St} {H H' : Hp} {td : TE} {tr : TA} {D : Ends} {E : XK} {j : Nat} {d r : Addr} {p f0 : TB.P}
theorem for_put (hd : H d = some (.dK (kv p))) (hr : H r = some (.dK (kv f0))) (hdr : r ≠ d) (v : Int → Int) (hz : f0.length + p.length ≤ 10000000) (ht : ∀ σ' H' (Q : VK), (σ' = σ ∨ ∃ z, σ' = σ.set j z) → Q (.ref d) H' → td σ' H' Q)
    (ha : ∀ w c H', (w, c) ∈ p → DR H' d p → But r d H H' → EvA tr (σ.set j (some (tx w))) H' [.ref r, tx w, .int (v c)])
    (k : ∀ σ' H', (σ' = σ ∨ ∃ z, σ' = σ.set j z) → But r r H H' → H' r = some (.dK (kv (puts (fun x => x.1) (fun x => v x.2) p f0))) → D.nx σ' H') : tLock (tFor (iKeys td) (gName j) (tDrop (tCall sp_put [] E tr))) D σ H := by
  have lenB : ∀ i, (puts (fun x : W × Int => x.1) (fun x => v x.2) (p.take i) f0).length ≤ 10000000 := fun i => by
    have h1 := puts_len (fun x : W × Int => x.1) (fun x => v x.2) (p.take i) f0
    rw [List.length_take] at h1
    omega
  refine for_lock (kvs := kv p) hd (fun H' Q q => ht σ H' Q (.inl rfl) q) (fun od i σ' H' => (σ' = σ ∨ ∃ z, σ' = σ.set j z) ∧ But r d H H' ∧ H' d = some (.frz od (.dK (kv p))) ∧ H' r = some (.dK (kv (puts (fun x => x.1) (fun x => v x.2) (p.take i) f0)))) (fun od => ⟨.inl rfl, ?_, upd_same, ?_⟩) (fun od i σ' H' h => h.2.2.1) ?_ ?_
  · intro b o h1 h2 h
    rw [upd_ne h2]; exact h
  · rw [upd_ne hdr]; exact hr
  · rintro od i kk vv σ' H' hk ⟨hσ, hb, hf, hrr⟩
    obtain ⟨w, c, hi, rfl, rfl⟩ := kv_get hk
    have hmem : (w, c) ∈ p := List.mem_of_getElem? hi
    have es : σ'.set j (some (tx w)) = σ.set j (some (tx w)) := by
      rcases hσ with rfl | ⟨z, rfl⟩
      · rfl
      · rw [List.set_set]
    show tDrop _ _ (σ'.set j (some (tx w))) H'
    rw [es]
    refine s_put hrr (ha w c H' hmem (.inr ⟨_, hf⟩) hb) (lenB i) (fun H1 e1 => ?_)
    refine ⟨.inr ⟨_, rfl⟩, fun b o h1 h2 h => ?_, by rw [upd_ne hdr.symm]; exact e1 _ _ hf, ?_⟩
    · rw [upd_ne h1]
      exact e1 _ _ (hb b o h1 h2 h)
    · rw [upd_same, puts_take _ _ hi]
  · rintro od σ' H' ⟨hσ, hb, hf, hrr⟩
    refine k σ' _ hσ (fun b o h1 _ h => ?_) ?_
    · by_cases e : b = d
      · rw [e, upd_same, ← hd, ← e, h]
      · rw [upd_ne e]; exact hb b o h1 e h
    · rw [upd_ne hdr, hrr, kv_len, List.take_length]
end
/-! ### sums -/
/-- the tuples of a sum -/
def Tups (K : PySem.W.Frag) (H : Hp) : List V → List (Int × Br) → Prop
  | [], [] => True
  | x :: xs, (c, t) :: s => (∃ p v, x = .ref p ∧ SqT K H p [.int c, v] ∧ BrAt K H v t) ∧ Tups K H xs s
  | _, _ => False
def SumAt (K : PySem.W.Frag) (H : Hp) (a : Addr) (s : List (Int × Br)) : Prop := ∃ xs, SqL K H a xs ∧ Tups K H xs s
theorem Tups.mono {K : PySem.W.Frag} {H H' : Hp} (e : Ex H H') : ∀ {xs : List V} {s : List (Int × Br)}, Tups K H xs s → Tups K H' xs s
  | [], [], _ => trivial
  | x :: xs, (c, t) :: s, ⟨⟨p, v, e1, hs, hv⟩, h⟩ => ⟨⟨p, v, e1, ex_t e hs, hv.mono e⟩, Tups.mono e h⟩
  | [], _ :: _, h => h
  | _ :: _, [], h => h
theorem SumAt.mono {K : PySem.W.Frag} {H H' : Hp} (e : Ex H H') {a : Addr} {s : List (Int × Br)} (h : SumAt K H a s) : SumAt K H' a s := by
  obtain ⟨xs, h1, h2⟩ := h
  exact ⟨xs, ex_l e h1, h2.mono e⟩
theorem Tups.len {K : PySem.W.Frag} {H : Hp} : ∀ {xs : List V} {s : List (Int × Br)}, Tups K H xs s → xs.length = s.length
  | [], [], _ => rfl
  | x :: xs, (c, t) :: s, ⟨_, h⟩ => congrArg (· + 1) h.len
  | [], _ :: _, h => h.elim
  | _ :: _, [], h => h.elim
theorem Tups.get {K : PySem.W.Frag} {H : Hp} : ∀ {xs : List V} {s : List (Int × Br)} {i : Nat} {x : V}, Tups K H xs s → xs[i]? = some x → ∃ c t, s[i]? = some (c, t) ∧ ∃ p v, x = .ref p ∧ SqT K H p [.int c, v] ∧ BrAt K H v t
  | [], [], _, _, _, h => by simp at h
  | x :: xs, (c, t) :: s, 0, y, ⟨h1, _⟩, h => by
    have : x = y := by simpa using h
    subst this
    exact ⟨c, t, rfl, h1⟩
  | x :: xs, (c, t) :: s, i + 1, y, ⟨_, h2⟩, h => h2.get (by simpa using h)
  | [], _ :: _, _, _, h, _ => h.elim
  | _ :: _, [], _, _, h, _ => h.elim
theorem Tups.app {K : PySem.W.Frag} {H : Hp} : ∀ {xs : List V} {s : List (Int × Br)} {ys : List V} {u : List (Int × Br)}, Tups K H xs s → Tups K H ys u → Tups K H (xs ++ ys) (s ++ u)
  | [], [], _, _, _, h => h
  | x :: xs, (c, t) :: s, _, _, ⟨h1, h2⟩, h => ⟨h1, h2.app h⟩
  | [], _ :: _, _, _, h, _ => h.elim
  | _ :: _, [], _, _, h, _ => h.elim
/-- the words of a sum -/
def addTo (f p : TB.P) (k : Int) : TB.P := puts (fun x => x.1) (fun x => k * x.2) p f
def cntS (s : List (Int × Br)) : TB.P := s.foldl (fun f x => addTo f (cnt x.2) x.1) []
def lcntS (s : List (Int × Br)) : TB.P := s.foldl (fun f x => addTo f (lcnt x.2) x.1) []
/-- a sum as a functional -/
def sb : List (Int × Br) → (W → Int) → Int
  | [], _ => 0
  | (c, t) :: r, φ => c * br t φ + sb r φ
theorem addTo_nrm {f p : TB.P} (n : Nrm f) (k : Int) : Nrm (addTo f p k) := puts_nrm _ _ _ n
theorem addTo_pr {f p : TB.P} (n : Nrm f) (k : Int) (φ : W → Int) : pr (addTo f p k) φ = pr f φ + k * pr p φ := by
  unfold addTo
  rw [puts_pr _ _ _ n, ← sum_pr p φ]
  congr 1
  induction p with
  | nil => exact (Int.mul_zero _).symm
  | cons x t ih => rw [List.map_cons, List.sum_cons, List.map_cons, List.sum_cons, ih, Int.mul_add, Int.mul_assoc]
theorem addTo_tot {f p : TB.P} (n : Nrm f) (k : Int) : tot (addTo f p k) ≤ tot f + k.natAbs * tot p := by
  have h := puts_tot (fun x : W × Int => x.1) (fun x => k * x.2) p n
  have e : (p.map fun x => (k * x.2).natAbs).sum = k.natAbs * tot p := by
    rw [← sum_tot p]
    clear h
    induction p with
    | nil => exact (Nat.mul_zero _).symm
    | cons x t ih => rw [List.map_cons, List.sum_cons, List.map_cons, List.sum_cons, ih, Nat.mul_add, Int.natAbs_mul]
  rw [e] at h
  exact h
section
variable (g : Br → TB.P)
def sumT (s : List (Int × Br)) (f : TB.P) : TB.P := s.foldl (fun f x => addTo f (g x.2) x.1) f
theorem sumT_nrm : ∀ (s : List (Int × Br)) {f : TB.P}, Nrm f → Nrm (sumT g s f)
  | [], _, n => n
  | x :: r, f, n => sumT_nrm r (addTo_nrm n x.1)
theorem sumT_pr (hg : ∀ t φ, pr (g t) φ = br t φ) : ∀ (s : List (Int × Br)) {f : TB.P}, Nrm f → ∀ φ, pr (sumT g s f) φ = pr f φ + sb s φ
  | [], f, n, φ => by show pr f φ = pr f φ + 0; omega
  | (c, t) :: r, f, n, φ => by
    show pr (sumT g r (addTo f (g t) c)) φ = _
    rw [sumT_pr hg r (addTo_nrm n c), addTo_pr n, hg]
    show _ = pr f φ + (c * br t φ + sb r φ)
    omega
theorem sumT_take {s : List (Int × Br)} {i : Nat} {x : Int × Br} (h : s[i]? = some x) (f : TB.P) : sumT g (s.take (i + 1)) f = addTo (sumT g (s.take i) f) (g x.2) x.1 := by
  unfold sumT
  rw [List.take_add_one, h, List.foldl_append]
  rfl
theorem sumT_len (hl : ∀ t, (g t).length ≤ 2 ^ (t.wt - 1)) : ∀ (s : List (Int × Br)) (f : TB.P), (∀ x ∈ s, x.2.wt ≤ 8) → (sumT g s f).length ≤ f.length + s.length * 128
  | [], f, _ => by show f.length ≤ f.length + 0 * 128; omega
  | x :: r, f, h => by
    have h1 := sumT_len hl r (addTo f (g x.2) x.1) fun y hy => h y (List.mem_cons_of_mem _ hy)
    have h2 := puts_len (fun y : W × Int => y.1) (fun y => x.1 * y.2) (g x.2) f
    have h3 := hl x.2
    have h4 := h x List.mem_cons_self
    have h5 : 2 ^ (x.2.wt - 1) ≤ 128 := Nat.le_trans (Nat.pow_le_pow_right (by decide) (show x.2.wt - 1 ≤ 7 by omega)) (by decide)
    show (sumT g r (addTo f (g x.2) x.1)).length ≤ f.length + (r.length + 1) * 128
    have h6 : (addTo f (g x.2) x.1).length ≤ f.length + (g x.2).length := h2
    omega
theorem sumT_tot (hl : ∀ t, tot (g t) ≤ 2 ^ (t.wt - 1)) : ∀ (s : List (Int × Br)) {f : TB.P}, Nrm f → (∀ x ∈ s, x.2.wt ≤ 8 ∧ x.1.natAbs < bit 190000) → tot (sumT g s f) ≤ tot f + s.length * (bit 190000 * 128)
  | [], f, _, _ => by show tot f ≤ tot f + 0 * _; omega
  | x :: r, f, n, h => by
    have h1 := sumT_tot hl r (addTo_nrm (p := g x.2) n x.1) fun y hy => h y (List.mem_cons_of_mem _ hy)
    have h2 := addTo_tot (p := g x.2) n x.1
    have h3 := hl x.2
    obtain ⟨h4, h7⟩ := h x List.mem_cons_self
    have h5 : 2 ^ (x.2.wt - 1) ≤ 128 := Nat.le_trans (Nat.pow_le_pow_right (by decide) (show x.2.wt - 1 ≤ 7 by omega)) (by decide)
    have h6 : x.1.natAbs * tot (g x.2) ≤ bit 190000 * 128 := Nat.mul_le_mul (Nat.le_of_lt h7) (Nat.le_trans h3 h5)
    show tot (sumT g r (addTo f (g x.2) x.1)) ≤ tot f + (r.length + 1) * (bit 190000 * 128)
    rw [Nat.add_mul, Nat.one_mul]
    omega
theorem sumT_keys : ∀ {s : List (Int × Br)} {f : TB.P} {w : W}, w ∈ keys (sumT g s f) → w ∈ keys f ∨ ∃ x ∈ s, w ∈ keys (g x.2)
  | [], _, _, h => .inl h
  | x :: r, f, w, h => by
    rcases sumT_keys (s := r) (f := addTo f (g x.2) x.1) h with h | ⟨y, hy, h⟩
    · rcases puts_keys _ _ h with h | ⟨z, hz, e⟩
      · exact .inl h
      · exact .inr ⟨x, List.mem_cons_self, by rw [e]; exact List.mem_map.mpr ⟨z, hz, rfl⟩⟩
    · exact .inr ⟨y, List.mem_cons_of_mem _ hy, h⟩
end
/-- a sum that is not too great to be reckoned with -/
structure SOk (s : List (Int × Br)) (m : Nat) : Prop where
  len : s.length ≤ 10000
  it : ∀ x ∈ s, x.2.wt ≤ m ∧ x.1.natAbs < bit 190000
  abc : ∀ x ∈ s, ABC x.2.letters
theorem SOk.mono {s : List (Int × Br)} {m n : Nat} (h : SOk s m) (hm : m ≤ n) : SOk s n := ⟨h.len, fun x hx => ⟨Nat.le_trans (h.it x hx).1 hm, (h.it x hx).2⟩, h.abc⟩
theorem SOk.take {s : List (Int × Br)} {m : Nat} (h : SOk s m) (i : Nat) : SOk (s.take i) m := ⟨by have := h.len; rw [List.length_take]; omega, fun x hx => h.it x (List.mem_of_mem_take hx), fun x hx => h.abc x (List.mem_of_mem_take hx)⟩
theorem cof {c : Int} (h : c.natAbs < bit 190000) : c.natAbs < bit 200000 := Nat.lt_of_lt_of_le h (bit_le (by decide))
theorem wt_128 {n : Nat} (h : n ≤ 8) : 2 ^ (n - 1) ≤ 128 := Nat.le_trans (Nat.pow_le_pow_right (by decide) (show n - 1 ≤ 7 by omega)) (by decide)
theorem cntS_eq (s : List (Int × Br)) : cntS s = sumT cnt s [] := rfl
theorem lcntS_eq (s : List (Int × Br)) : lcntS s = sumT lcnt s [] := rfl
theorem cntS_nrm (s : List (Int × Br)) : Nrm (cntS s) := sumT_nrm cnt s Nrm.nil
theorem lcntS_nrm (s : List (Int × Br)) : Nrm (lcntS s) := sumT_nrm lcnt s Nrm.nil
theorem cntS_pr (s : List (Int × Br)) (φ : W → Int) : pr (cntS s) φ = sb s φ := by
  rw [cntS_eq, sumT_pr cnt cnt_pr s Nrm.nil, pr_nil, Int.zero_add]
theorem lcntS_pr (s : List (Int × Br)) (φ : W → Int) : pr (lcntS s) φ = sb s φ := by
  rw [lcntS_eq, sumT_pr lcnt lcnt_pr s Nrm.nil, pr_nil, Int.zero_add]
theorem tot_big {n : Nat} (h : n ≤ 10000) : n * (bit 190000 * 128) < bit 200000 := by
  have e : (128 : Nat) = bit 7 := bit7
  have h1 : n * (bit 190000 * 128) ≤ bit 14 * (bit 190000 * 128) := Nat.mul_le_mul_right _ (Nat.le_trans h bit14)
  rw [e, bit_add, bit_add] at h1
  rw [e, bit_add]
  exact Nat.lt_of_le_of_lt h1 (bit_lt (by decide))
theorem sumT_fit (g : Br → TB.P) (hn : ∀ t, Nrm (g t)) (hl : ∀ t, (g t).length ≤ 2 ^ (t.wt - 1)) (ht : ∀ t, tot (g t) ≤ 2 ^ (t.wt - 1)) (hk : ∀ {t w}, w ∈ keys (g t) → w ∈ ws t) {s : List (Int × Br)} {m : Nat} (h : SOk s m) (hm : m ≤ 8) : Fit (sumT g s []) 1280000 m := by
  refine ⟨sumT_nrm g s Nrm.nil, ?_, ?_, fun w hw => ?_⟩
  · have := sumT_len g hl s [] fun x hx => Nat.le_trans (h.it x hx).1 hm
    have h2 := h.len
    rw [List.length_nil] at this
    omega
  · have := sumT_tot g ht s Nrm.nil fun x hx => ⟨Nat.le_trans (h.it x hx).1 hm, (h.it x hx).2⟩
    rw [show tot [] = 0 from rfl, Nat.zero_add] at this
    exact Nat.lt_of_le_of_lt this (tot_big h.len)
  · rcases sumT_keys g hw with hw | ⟨x, hx, hw⟩
    · cases hw
    · rw [ws_len (hk hw)]
      exact (h.it x hx).1
theorem cntS_fit {s : List (Int × Br)} {m : Nat} (h : SOk s m) (hm : m ≤ 8) : Fit (cntS s) 1280000 m := sumT_fit cnt cnt_nrm cnt_len cnt_tot cnt_keys h hm
theorem lcntS_fit {s : List (Int × Br)} {m : Nat} (h : SOk s m) (hm : m ≤ 8) : Fit (lcntS s) 1280000 m := sumT_fit lcnt lcnt_nrm lcnt_len lcnt_tot lcnt_keys h hm
theorem sumT_abc (g : Br → TB.P) (hk : ∀ {t w}, w ∈ keys (g t) → w ∈ ws t) {s : List (Int × Br)} {m : Nat} (h : SOk s m) {w : W} (hw : w ∈ keys (sumT g s [])) : ABC w := by
  rcases sumT_keys g hw with hw | ⟨x, hx, hw⟩
  · cases hw
  · exact fun c hc => h.abc x hx c (ws_lets (hk hw) hc)
theorem cntS_abc {s : List (Int × Br)} {m : Nat} (h : SOk s m) {w : W} (hw : w ∈ keys (cntS s)) : ABC w := sumT_abc cnt cnt_keys h hw
theorem lcntS_abc {s : List (Int × Br)} {m : Nat} (h : SOk s m) {w : W} (hw : w ∈ keys (lcntS s)) : ABC w := sumT_abc lcnt lcnt_keys h hw
theorem cl_get (s : List (Int × Br)) (w : W) : get (cntS s) w = get (lcntS s) w := by
  rw [← pr_dw (cntS_nrm s).nd, ← pr_dw (lcntS_nrm s).nd, cntS_pr, lcntS_pr]
theorem sumT_totB (g : Br → TB.P) (hl : ∀ t, tot (g t) ≤ 2 ^ (t.wt - 1)) {B : Nat} : ∀ (s : List (Int × Br)) {f : TB.P}, Nrm f → (∀ x ∈ s, x.2.wt ≤ 8 ∧ x.1.natAbs ≤ B) → tot (sumT g s f) ≤ tot f + s.length * (B * 128)
  | [], f, _, _ => by show tot f ≤ tot f + 0 * _; omega
  | x :: r, f, n, h => by
    have h1 := sumT_totB g hl r (addTo_nrm (p := g x.2) n x.1) fun y hy => h y (List.mem_cons_of_mem _ hy)
    have h2 := addTo_tot (p := g x.2) n x.1
    have h3 := hl x.2
    obtain ⟨h4, h7⟩ := h x List.mem_cons_self
    have h6 : x.1.natAbs * tot (g x.2) ≤ B * 128 := Nat.mul_le_mul h7 (Nat.le_trans h3 (wt_128 h4))
    show tot (sumT g r (addTo f (g x.2) x.1)) ≤ tot f + (r.length + 1) * (B * 128)
    rw [Nat.add_mul, Nat.one_mul]
    omega
/-- a sum's counts, when its own are small -/
theorem cntS_tot {s : List (Int × Br)} {b : Nat} (ok : SOk s 8) (h : ∀ x ∈ s, x.1.natAbs ≤ bit b) : tot (cntS s) ≤ bit (b + 21) := by
  have h1 := sumT_totB cnt cnt_tot s Nrm.nil fun x hx => ⟨(ok.it x hx).1, h x hx⟩
  have h2 : s.length * (bit b * 128) ≤ bit 14 * (bit b * bit 7) := by
    rw [bit7]
    exact Nat.mul_le_mul_right _ (Nat.le_trans ok.len bit14)
  rw [bit_add, bit_add] at h2
  have h3 : 14 + (b + 7) = b + 21 := by omega
  rw [h3] at h2
  have h4 : tot ([] : TB.P) = 0 := rfl
  have h5 : tot (cntS s) ≤ tot ([] : TB.P) + s.length * (bit b * 128) := h1
  omega
theorem small_bit {c : Int} (h : c.natAbs ≤ 10 ^ 29) : c.natAbs ≤ bit 100 := Nat.le_trans h (Nat.le_of_lt bit100)
end TB
/-! ## TbSum -/
/-! Loops over the tuples of a sum. -/
namespace TB
open PySem PySem.Spec PyProof.Rows L2 Evl
section
variable {K : PySem.W.Frag} {σ : L2.St} {H H' : Hp} {ta tb te ti tj tl : TE} {tu tz : TS} {D : Ends}
theorem BrAt.ex {K : PySem.W.Frag} {H H' : Hp} (e : Ex H H') {v : V} {t : Br} (h : BrAt K H v t) : BrAt K H' v t := h.mono e
/-- for count, bracket in sum: -/
theorem q_forSum {H0 : Hp} {a : Addr} {s : List (Int × Br)} {i j : Nat} (h : Ev tl σ H (.ref a)) (hs : SumAt K H0 a s) (e0 : Ex H0 H) (Pv : Nat → L2.St → Hp → Prop) (h0 : ∀ H1, Ex H H1 → Pv 0 σ H1) (hl : ∀ k σ' H', Pv k σ' H' → Ex H0 H')
    (hb : ∀ k c t v σ' H', s[k]? = some (c, t) → Pv k σ' H' → BrAt K H' v t → tu { D with nx := Pv (k + 1), ct := Pv (k + 1), bk := tz D } ((σ'.set i (some (.int c))).set j (some v)) H') (hd : ∀ σ' H', Pv s.length σ' H' → tz D σ' H') :
    tSeq (tFor (iList K tl) (gTup K 2 (gCons (gName i) (gCons (gName j) gNil))) tu) tz D σ H := by
  obtain ⟨xs, hx, ht⟩ := hs
  refine q_forL h (ex_l e0 hx) Pv h0 (fun k σ' H' _ p => ex_l (hl k σ' H' p) hx) (fun k x σ' H' hk p => ?_) (fun σ' H' p => hd σ' H' (by rw [← ht.len]; exact p))
  obtain ⟨c, t, hs, q, v, rfl, hq, hv⟩ := ht.get hk
  exact ⟨q, [.int c, v], rfl, ex_t (hl k σ' H' p) hq, rfl, .int c, [v], rfl, v, [], rfl, rfl, hb k c t v σ' H' hs p (hv.mono (hl k σ' H' p))⟩
/-- a, b = what makes a new tuple of two -/
theorem q_two {i j : Nat} {R : V → V → Hp → Prop} (h : Er te σ H fun v H2 => ∃ p x y, v = .ref p ∧ H2 p = some (.tup [x, y]) ∧ R x y H2) (k : ∀ x y H1, Ex H H1 → R x y H1 → tz D ((σ.set i (some x)).set j (some y)) H1) : tSeq (tAsg te (gTup K 2 (gCons (gName i) (gCons (gName j) gNil)))) tz D σ H :=
  h H (Ex.refl H) _ fun v H1 e1 hv => by
    obtain ⟨p, x, y, rfl, hp, r⟩ := hv
    exact ⟨p, [x, y], rfl, SqT.of hp, rfl, x, [y], rfl, y, [], rfl, rfl, k x y H1 e1 r⟩
/-- a bracket of three letters of a weight, at most of a weight -/
def brR (K : PySem.W.Frag) (m : Nat) (v : V) (H : Hp) : Prop := ∃ t, BrAt K H v t ∧ t.wt = m ∧ ABC t.letters
def brL (K : PySem.W.Frag) (m : Nat) (v : V) (H : Hp) : Prop := ∃ t, BrAt K H v t ∧ t.wt ≤ m ∧ ABC t.letters
theorem brR.mono {m : Nat} {v : V} (e : Ex H H') (h : brR K m v H) : brR K m v H' := by
  obtain ⟨t, h1, h2⟩ := h
  exact ⟨t, h1.mono e, h2⟩
theorem brL.mono {m : Nat} {v : V} (e : Ex H H') (h : brL K m v H) : brL K m v H' := by
  obtain ⟨t, h1, h2⟩ := h
  exact ⟨t, h1.mono e, h2⟩
/-- the letter of the text abc at a rest by 3 -/
theorem ev_abc {c : Int} (h : Ev ti σ H (.int (c % 3))) : ∃ l : Nat, Ev (tOp rIxS (tC (.str "abc")) ti) σ H (tx [l]) ∧ (l = 97 ∨ l = 98 ∨ l = 99) := by
  obtain ⟨l, hl, hl2⟩ := abcW c
  exact ⟨l, ev_op (ev_tx (w := [97, 98, 99]) (by decide +kernel)) h (rv_ixW (by decide) (Int.emod_nonneg _ (by decide)) hl), hl2⟩
theorem leaf_ok {m l : Nat} (h : l = 97 ∨ l = 98 ∨ l = 99) (hm : m = 1) : brR K m (tx [l]) H := ⟨.leaf l, rfl, hm.symm, fun c hc => by
  have e : c = l := by simpa [Br.letters] using hc
  rw [e]; exact h⟩
theorem er_twoR {m n k : Nat} (h1 : Er ta σ H (brR K m)) (h2 : Er tb σ H (brR K n)) (hk : m + n = k) : Er (tTup (tCons ta (tCons tb tNil))) σ H (brR K k) := fun H1 e Q q =>
  h1 H1 e _ fun x H2 e2 hx => h2 H2 (e.trans e2) _ fun y H3 e3 hy => ⟨by show 2 ≤ sizeLine; decide, fun p hp => by
    obtain ⟨t, tx, wt, at'⟩ := hx
    obtain ⟨u, ux, wu, au⟩ := hy
    refine q _ _ ((e2.trans e3).trans (Ex.new hp)) ⟨.node t u, ⟨p, x, y, rfl, SqT.of upd_same, (tx.mono e3).mono (Ex.new hp), ux.mono (Ex.new hp)⟩, ?_, fun c hc => ?_⟩
    · show t.wt + u.wt = k
      omega
    · rcases List.mem_append.mp (show c ∈ t.letters ++ u.letters from hc) with h | h
      · exact at' c h
      · exact au c h⟩
/-- a new tuple of two -/
theorem er_pair {R S : V → Hp → Prop} (h1 : Er ta σ H R) (h2 : Er tb σ H S) (m1 : ∀ {v H H'}, Ex H H' → R v H → R v H') (m2 : ∀ {v H H'}, Ex H H' → S v H → S v H') : Er (tTup (tCons ta (tCons tb tNil))) σ H fun v H2 => ∃ p x y, v = .ref p ∧ H2 p = some (.tup [x, y]) ∧ (R x H2 ∧ S y H2) := fun H1 e Q q =>
  h1 H1 e _ fun x H2 e2 hx => h2 H2 (e.trans e2) _ fun y H3 e3 hy => ⟨by show 2 ≤ sizeLine; decide, fun p hp =>
    q _ _ ((e2.trans e3).trans (Ex.new hp)) ⟨p, x, y, rfl, upd_same, m1 (Ex.new hp) (m1 e3 hx), m2 (Ex.new hp) hy⟩⟩
theorem ear_one {R : V → Hp → Prop} (h : Er te σ H R) (m : ∀ {v H H'}, Ex H H' → R v H → R v H') : Ear (tCons te tNil) σ H (fun vs H2 => ∃ v, vs = [v] ∧ R v H2) := ear_cons h fun x H1 e1 hx => ear_of ea_nil fun H2 e2 => ⟨x, rfl, m e2 hx⟩
theorem ear_pair {R S : V → Hp → Prop} (h : Er ta σ H R) (h2 : Er tb σ H S) (m : ∀ {v H H'}, Ex H H' → R v H → R v H') (m2 : ∀ {v H H'}, Ex H H' → S v H → S v H') : Ear (tCons ta (tCons tb tNil)) σ H (fun vs H2 => ∃ v w, vs = [v, w] ∧ R v H2 ∧ S w H2) := ear_cons h fun x H1 e1 hx => ear_cons (h2.mono e1) fun y H2 e2 hy => ear_of ea_nil fun H3 e3 => ⟨x, y, rfl, m (e2.trans e3) hx, m2 e3 hy⟩
theorem SpR.back {sp : Sp} {vs : List V} {p : TB.P} (e : Ex H H') (h : SpR sp vs H' (newD H' p)) : SpR sp vs H' (newD H p) := fun H1 e1 Q q E => h H1 e1 Q (fun v H2 e2 r => q v H2 e2 (r.back e)) E
theorem er_int {i : Int} (h : Ev te σ H (.int i)) : Er te σ H fun v _ => ∃ c : Int, v = .int c := ev_er h fun _ _ => ⟨i, rfl⟩
theorem s_appR {l : Addr} {xs : List V} {R : V → Hp → Prop} (hl : H l = some (.lst xs)) (ha : Ev ta σ H (.ref l)) (h : Er te σ H R) (hz : xs.length < 100000) (k : ∀ v H1, Ex H H1 → R v H1 → D.nx σ (upd H1 l (.lst (xs ++ [v])))) :
    tDrop (tBM K "list" rAppend ta (tCons te tNil)) D σ H := ha H (Ex.refl H) _ fun H1 e1 =>
  ⟨Or.inl ⟨rfl, xs, sq_of (e1 l _ hl)⟩, h H1 e1 _ fun v H2 e2 hv => ⟨l, xs, v, rfl, rfl, e2 l _ (e1 l _ hl), sz_lt hz, k v H2 (e1.trans e2) hv⟩⟩
theorem q_appR {l : Addr} {xs : List V} {R : V → Hp → Prop} (hl : H l = some (.lst xs)) (ha : Ev ta σ H (.ref l)) (h : Er te σ H R) (hz : xs.length < 100000) (k : ∀ v H1, Ex H H1 → R v H1 → tz D σ (upd H1 l (.lst (xs ++ [v])))) :
    tSeq (tDrop (tBM K "list" rAppend ta (tCons te tNil))) tz D σ H := s_appR (D := { D with nx := tz D }) hl ha h hz k
/-- a list may change: tuples stand -/
theorem SqT.updL {H : Hp} {p l : Addr} {xs ys zs : List V} (hl : H l = some (.lst ys)) (h : SqT K H p xs) : SqT K (upd H l (.lst zs)) p xs := by
  rcases h with (h | ⟨o, h⟩) | h
  · exact .inl (.inl (by rw [upd_ne (fun z => by rw [z, hl] at h; cases h)]; exact h))
  · exact .inl (.inr ⟨o, by rw [upd_ne (fun z => by rw [z, hl] at h; cases h)]; exact h⟩)
  · exact .inr h
theorem BrAt.updL {H : Hp} {l : Addr} {ys zs : List V} (hl : H l = some (.lst ys)) : ∀ {t : Br} {v : V}, BrAt K H v t → BrAt K (upd H l (.lst zs)) v t
  | .leaf _, _, h => h
  | .node a b, _, ⟨p, x, y, ev, hs, hx, hy⟩ => ⟨p, x, y, ev, SqT.updL hl hs, hx.updL hl, hy.updL hl⟩
theorem Tups.updL {H : Hp} {l : Addr} {ys zs : List V} (hl : H l = some (.lst ys)) : ∀ {xs : List V} {s : List (Int × Br)}, Tups K H xs s → Tups K (upd H l (.lst zs)) xs s
  | [], [], h => h
  | x :: xs, (c, t) :: s, ⟨⟨p, v, e, hs, hv⟩, h⟩ => ⟨⟨p, v, e, SqT.updL hl hs, hv.updL hl⟩, h.updL hl⟩
  | [], _ :: _, h => h.elim
  | _ :: _, [], h => h.elim
/-- a new tuple of a sum -/
def tpR (K : PySem.W.Frag) (R : Int → Br → Prop) (v : V) (H : Hp) : Prop := ∃ c t p b, v = .ref p ∧ SqT K H p [.int c, b] ∧ BrAt K H b t ∧ R c t
theorem Tups.up {H H' : Hp} {xs : List V} {s : List (Int × Br)} (h : Tups K H xs s) (e : Ex H H') : Tups K H' xs s := h.mono e
/-- a list of tuples that no one else knows stands when it changes itself -/
theorem Tups.snoc {H : Hp} {xs : List V} {s : List (Int × Br)} {c : Int} {t : Br} {p : Addr} {b : V} (h : Tups K H xs s) (hp : SqT K H p [.int c, b]) (hb : BrAt K H b t) : Tups K H (xs ++ [.ref p]) (s ++ [(c, t)]) := h.app ⟨⟨p, b, rfl, hp, hb⟩, trivial⟩
/-- a new list of tuples -/
def newS (K : PySem.W.Frag) (H : Hp) (s : List (Int × Br)) (v : V) (H2 : Hp) : Prop := ∃ p xs, v = .ref p ∧ H p = none ∧ H2 p = some (.lst xs) ∧ Tups K H2 xs s
theorem newS.sum {s : List (Int × Br)} {v : V} {H2 : Hp} (h : newS K H s v H2) : ∃ p, v = .ref p ∧ SumAt K H2 p s := by
  obtain ⟨p, xs, rfl, _, h1, h2⟩ := h
  exact ⟨p, rfl, xs, sq_of h1, h2⟩
end
/-! ### sums as data -/
def pdT (x : Int × Br) : PyData := .tuple [.int x.1, pdBr x.2]
def pdSum (s : List (Int × Br)) : PyData := .list (s.map pdT)
theorem lay_all : ∀ {ds : List PyData}, (∀ d ∈ ds, d.canLay0 = true) → PyData.canLayAll0 ds = true
  | [], _ => rfl
  | d :: ds, h => by
    show (d.canLay0 && PyData.canLayAll0 ds) = true
    rw [h d List.mem_cons_self, lay_all fun e he => h e (List.mem_cons_of_mem _ he)]; rfl
theorem depth_all {n : Nat} : ∀ {ds : List PyData}, (∀ d ∈ ds, d.depth ≤ n) → PyData.depthAll ds ≤ n
  | [], _ => by rw [PyData.depthAll]; exact Nat.zero_le _
  | d :: ds, h => by
    rw [PyData.depthAll]
    have h1 := h d List.mem_cons_self
    have h2 := depth_all (ds := ds) fun e he => h e (List.mem_cons_of_mem _ he)
    omega
theorem lay_lst {ds : List PyData} (h : ∀ d ∈ ds, d.canLay0 = true) : (PyData.list ds).canLay0 = true := by
  show PyData.canLayAll0 ds = true
  exact lay_all h
theorem lay_tup {ds : List PyData} (h : ∀ d ∈ ds, d.canLay0 = true) : (PyData.tuple ds).canLay0 = true := by
  show PyData.canLayAll0 ds = true
  exact lay_all h
theorem lay_sum {s : List (Int × Br)} (h : ∀ x ∈ s, ABC x.2.letters) : (pdSum s).canLay0 = true := lay_lst fun d hd => by
  obtain ⟨x, hx, rfl⟩ := List.mem_map.mp hd
  exact lay_two rfl (lay_br (h x hx))
theorem depth_sum {s : List (Int × Br)} {m : Nat} (h : ∀ x ∈ s, x.2.wt ≤ m) : (pdSum s).depth ≤ m + 2 := by
  show (PyData.list (s.map pdT)).depth ≤ m + 2
  rw [PyData.depth]
  have : PyData.depthAll (s.map pdT) ≤ m + 1 := depth_all fun d hd => by
    obtain ⟨x, hx, rfl⟩ := List.mem_map.mp hd
    show (PyData.tuple [.int x.1, pdBr x.2]).depth ≤ m + 1
    rw [depth_two, depth_br]
    have h1 : (PyData.int x.1).depth = 0 := by rw [PyData.depth]
    have h2 := h x hx
    have h3 := x.2.depth_lt
    omega
  omega
theorem sh_sum {s : List (Int × Br)} {m : Nat} (h : SOk s m) (hm : m ≤ 60) : SeqAt.shaped (pdSum s) = true := sh_of (lay_sum h.abc) (by have := depth_sum fun x hx => (h.it x hx).1; omega)
theorem tups_dp {K : PySem.W.Frag} {H : Hp} : ∀ {xs : List V} {s : List (Int × Br)}, Tups K H xs s → DpAll K H xs (s.map pdT)
  | [], [], _ => .nil
  | x :: xs, (c, t) :: s, ⟨⟨p, v, e, hs, hv⟩, h⟩ => by
    subst e
    exact .cons (.tup hs (.cons (.int c) (.cons (dp_br hv) .nil))) (tups_dp h)
  | [], _ :: _, h => h.elim
  | _ :: _, [], h => h.elim
theorem dp_sum {K : PySem.W.Frag} {H : Hp} {a : Addr} {s : List (Int × Br)} (h : SumAt K H a s) : Dp K H (.ref a) (pdSum s) := by
  obtain ⟨xs, h1, h2⟩ := h
  exact .lst h1 (tups_dp h2)
theorem eqv_sum {s : List (Int × Br)} (h : ∀ x ∈ s, ABC x.2.letters) : PyData.eqv (pdSum s) (pdSum s) = true := PySem.SeqAt.eqv_refl _ (lay_sum h)
end TB
/-! ## TbD_weight -/
namespace TB
open PySem PySem.Spec PyProof.Rows L2 Evl
section
variable {P : Program} {wd : World} {K : PySem.W.Frag} {mg : Str → Option Value} {base : Heap}
/-! weight -/
def sp_weight (K : PySem.W.Frag) (n : Nat) : Sp := fun vs H Q _ => ∃ (v : V) (t : Br), vs = [v] ∧ BrAt K H v t ∧ t.depth < n ∧ ∀ H', Ex H H' → Q (.int (t.wt : Int)) H'
theorem sv_weight {n : Nat} {H : Hp} {v : V} {t : Br} (hv : BrAt K H v t) (hn : t.depth < n) : SpV (sp_weight K n) [v] H (.int (t.wt : Int)) := fun H1 e Q q E => ⟨v, t, rfl, hv.mono e, hn, q⟩
theorem ok_weight (B : Blt mg) (D : DefAt K mg "weight" s_weight ["bracket"]) : ∀ n : Nat, FnOk P wd K mg base CX0 (n + 1) D.f D.fd ["bracket"] (sp_weight K n)
  | 0 => by
    have no : ∀ vs H Q E, ¬ sp_weight K 0 vs H Q E := fun vs H Q E h => by
      obtain ⟨v, t, _, _, h, _⟩ := h
      omega
    exact ⟨fun vs H Q E h => absurd h (no vs H Q E), fun A outer s H args us vs Q E _ _ _ _ h => absurd h (no vs H Q E)⟩
  | n + 1 => by
    have G := ok_weight B D n
    refine D.F.ok sc_weight (fun vs H Q E h => ?_) (fun cdv A outer s H vs Q E hr h => ?_)
    · obtain ⟨v, t, rfl, _⟩ := h
      rfl
    obtain ⟨v, t, rfl, hv, hn, q⟩ := h
    refine ⟨_, (pss_cons (ps_if (pt_val (pe_callB call_isi (by rfl) B.isinstance (by decide +kernel) (pa_cons (pv 0) (pa_cons (pe_bltn (v := .ty "str") (by rfl) B.str (by decide +kernel) rfl) pa_nil))))
      (pss_one (ps_ret pe_int))
      pss_nil)
    (pss_one (ps_ret (pe_op op_add (cl D G hr (pa_cons (pe_ix ix_tup (pv 0) pe_int (fun _ _ => rfl)) pa_nil) (by omega)) (cl D G hr (pa_cons (pe_ix ix_tup (pv 0) pe_int (fun _ _ => rfl)) pa_nil) (by omega)))))), ?_⟩
    cases t with
    | leaf c =>
      have e : v = tx [c] := hv
      subst e
      refine q_when (et_B (ev_isi (b := true) (ev_var rfl) ev_c (.str _) (by decide +kernel))) (fun hb H1 e1 => s_ret ev_c (fun H2 e2 => q H2 (e1.trans e2))) (fun hb H1 e1 => by cases hb)
    | node l r =>
      obtain ⟨p, x, y, rfl, hs, hx, hy⟩ := hv
      have dl : l.depth < n := by have : max l.depth r.depth + 1 < n + 1 := hn; omega
      have dr : r.depth < n := by have : max l.depth r.depth + 1 < n + 1 := hn; omega
      refine q_when (et_B (ev_isi (b := false) (ev_var rfl) ev_c (.tup hs) (by decide +kernel))) (fun hb H1 e1 => by cases hb) (fun hb H1 e1 => ?_)
      refine s_ret (ev_op (ev_call (ea_cons (ev_op (ev_var rfl) ev_c (rv_ixT (ex_t e1 hs) (atI_nat' (by decide) rfl))) ea_nil) (sv_weight (hx.mono e1) dl)) (ev_call (ea_cons (ev_op (ev_var rfl) ev_c (rv_ixT (ex_t e1 hs) (atI_nat' (by decide) rfl))) ea_nil) (sv_weight (hy.mono e1) dr)) rv_I0) (fun H2 e2 => ?_)
      have := q H2 (e1.trans e2)
      rw [show (Br.node l r).wt = l.wt + r.wt from rfl, Int.natCast_add] at this
      exact this
end
end TB
/-! ## TbSort -/
/-! Rules of our own: sorted(texts), sorted(texts, key=a name of the module), sorted(texts, key=len). -/
namespace TB
open PySem PySem.Spec PyProof.Rows L2 Evl
def IsTx (v : Value) (w : W) : Prop := ∃ t, v = .str (sOf w) t
def encW (w : W) : PyData := .str (sOf w)
def encL (w : W) : PyData := .int (w.length : Int)
def encB (w : W) : PyData := .tuple [.int (w.length : Int), .str (sOf w)]
theorem vals_each : ∀ {ws : List W} {us : List Value}, Vals (ws.map tx) us → PySem.W.EachIs IsTx us ws
  | [], _, .nil => .nil
  | w :: ws, _, .cons r rs => .cons r (vals_each rs)
theorem each_vals : ∀ {us : List Value} {ws : List W}, PySem.W.EachIs IsTx us ws → Vals (ws.map tx) us
  | _, _, .nil => .nil
  | _, _, .cons r rs => .cons r (each_vals rs)
/-- the orders -/
def leW (a b : W) : Bool := !lx b a
def leL (a b : W) : Bool := decide (a.length ≤ b.length)
def leB (a b : W) : Bool := decide (a.length < b.length) || (decide (a.length = b.length) && !lx b a)
theorem ord_W : PySem.W.dataLe false encW = leW := by
  unfold encW
  rw [PySem.W.dataLe_str]
  funext a b
  unfold leW
  rw [← lx_dec, sOf_cps, sOf_cps]
  by_cases h : b < a
  · rw [decide_eq_true h, decide_eq_false fun z => List.not_lt.mpr z h]; rfl
  · rw [decide_eq_false h, decide_eq_true (List.not_lt.mp h)]; rfl
theorem ord_L : PySem.W.dataLe false encL = leL := by
  unfold encL
  rw [PySem.W.dataLe_int (β := W) (fun w => (w.length : Int))]
  funext a b
  unfold leL
  by_cases h : a.length ≤ b.length
  · rw [decide_eq_true h, decide_eq_true (by omega)]
  · rw [decide_eq_false h, decide_eq_false (by omega)]
theorem ord_B : PySem.W.dataLe false encB = leB := by
  funext a b
  show (!PySem.W.dataLt (encB b) (encB a)) = _
  unfold encB
  rw [PySem.W.dataLt_pair (by simp [PySem.W.alike]) (by simp [PySem.W.alike]), PySem.W.dataLt_int, PySem.W.dataLt_str]
  unfold leB
  rw [lx_dec, sOf_cps, sOf_cps]
  have e1 : PyData.eqv (.int (b.length : Int)) (.int (a.length : Int)) = decide (a.length = b.length) := by
    rw [eqv_int]
    by_cases h : a.length = b.length
    · rw [decide_eq_true h, decide_eq_true (by omega)]
    · rw [decide_eq_false h, decide_eq_false (by omega)]
  rw [e1, eqv_tx]
  by_cases h : a.length = b.length
  · rw [decide_eq_true h, if_pos rfl, decide_eq_false (show ¬ a.length < b.length by omega), Bool.false_or, Bool.true_and]
    by_cases h2 : b = a
    · subst h2
      rw [decide_eq_true rfl, if_pos rfl, lx_irr]
    · rw [decide_eq_false h2, if_neg (by decide)]
  · rw [decide_eq_false h, if_neg (by decide), Bool.false_and, Bool.or_false]
    by_cases h3 : a.length < b.length
    · rw [decide_eq_true h3, decide_eq_false (show ¬ ((b.length : Int) < (a.length : Int)) by omega)]; rfl
    · rw [decide_eq_false h3, decide_eq_true (show ((b.length : Int) < (a.length : Int)) by omega)]; rfl
/-- the values of a sorted list, back in the walk -/
def rSortW (K : PySem.W.Frag) (lt : W → W → Bool) : List V → Hp → VK → Prop := fun vs H Q => ∃ (a : Addr) (ws : List W), vs = [.ref a] ∧ SqL K H a (ws.map tx) ∧ ∀ p, H p = none → Q (.ref p) (upd H p (.lst ((ws.mergeSort lt).map tx)))
section
variable {X : Cx}
theorem reads_tx {h : Heap} {v : Value} {w : W} (r : IsTx v w) : Reads h v (encW w) [] := by
  obtain ⟨t, rfl⟩ := r
  exact .str _ _
theorem cr_sortW (hr : Room 1 X.A) : CallR X (.builtin "sorted") (rSortW X.K leW) := by
  intro pins s σ H vs us Q I r h
  obtain ⟨a, ws, rfl, hs, q⟩ := h
  obtain ⟨its, rv, hl, hz⟩ := I.list hs
  rw [Vals.ref1 r]
  have e := vals_each rv
  have hz' : ws.length ≤ sizeLine := by
    rw [List.length_map] at hz
    exact hz
  refine PySem.W.sorted_data (enc := encW) hl.isList e (e.mono fun v w hv => ⟨[], reads_tx hv⟩) (PySem.W.AllAlike.of fun _ _ => by simp [PySem.W.alike, encW]) (PySem.W.Sortable.others fun w => ⟨(fun z => by cases z), (fun xs z => by cases z)⟩) hz'
    (fun w _ => by have := hr.un; have hd : (encW w).depth = 0 := by simp [encW, PyData.depth]
                   omega) fun out ho eo => ?_
  rw [ord_W] at eo
  obtain ⟨ep, he'⟩ := PyProof.Rows.sortedAll_at s.heap its out.toArray
  have hlen : ((ws.mergeSort leW).map tx).length ≤ sizeLine := by
    rw [List.length_map, List.length_mergeSort]
    exact hz'
  exact ⟨.ref _, upd H (s.heap.objs.size + 1) (.lst ((ws.mergeSort leW).map tx)), I.laid (t' := s.toks) (fun _ _ => PyProof.Rows.sortedAll_old) (Nat.le_succ _) ⟨hlen, out, ep, each_vals eo, he'⟩, rfl, q _ (I.hok.fresh (Nat.le_succ _))⟩
/-- a function of the module that is asked for a key alone: it keeps all that stands -/
def Keyed (X : Cx) (f : Value) (k : W → PyData) (m : Nat) : Prop := ∀ (pins : List (Addr × Obj)) (s : Shared) (σ : L2.St) (H : Hp) (v : Value) (w : W), Inv X pins σ H s → IsTx v w → w.length ≤ m → wpAny (model X.prog X.w) X.A.in1.in1 (call f [v]) (PySem.W.KeyPure (k w) s) (fun _ _ => False) s
theorem sort_key {pins : List (Addr × Obj)} {s : Shared} {σ : L2.St} {H : Hp} {a : Addr} {ws : List W} {Q : VK} {f : Value} {k : W → PyData} {lt : W → W → Bool} {m : Nat} (kf : Keyed X f k m) (hd : ∀ w, (k w).depth ≤ 5) (hal : ∀ a b, PySem.W.alike (k a) (k b) = true) (hk : PySem.W.Sortable (ws.map k)) (ho : PySem.W.dataLe false k = lt)
    (ht : ∀ x, Builtin.«list.sort» ⟨[.ref x], [(Str.ofString "key", f)]⟩ = ksk_tree x f false) (hr : Room 1 X.A) (I : Inv X pins σ H s) (hs : SqL X.K H a (ws.map tx)) (hm : ∀ w ∈ ws, w.length ≤ m)
    (q : ∀ p, H p = none → Q (.ref p) (upd H p (.lst ((ws.mergeSort lt).map tx)))) : wpAny (model X.prog X.w) X.A (call (.builtin "sorted") [.ref a] [(Str.ofString "key", f)]) (EP X pins σ Q) X.xe s := by
  obtain ⟨its, rv, hl, hz⟩ := I.list hs
  have e := vals_each rv
  have hz' : ws.length ≤ sizeLine := by
    rw [List.length_map] at hz
    exact hz
  refine PySem.W.sorted_key_data (b := false) k hl.isList e (PySem.W.AllAlike.of hal) hk hz' (fun w _ => by have := hr.un; have := hd w; omega) (ksk_s1 _ _) (fun _ => ksk_l1 _ _) ht
    (fun v w hv hw h tk kp => kf pins _ σ H v w (I.kept (t' := tk) kp) hv (hm w hw)) fun out c h' tk kp hn hD _ eo => ?_
  rw [ho] at eo
  have hlen : ((ws.mergeSort lt).map tx).length ≤ sizeLine := by
    rw [List.length_map, List.length_mergeSort]
    exact hz'
  exact ⟨.ref _, upd H (s.heap.objs.size + 1) (.lst ((ws.mergeSort lt).map tx)), I.laid (t' := tk) kp (Nat.le_succ _) ⟨hlen, out, c, each_vals eo, hD⟩, rfl, q _ (I.hok.fresh (Nat.le_succ _))⟩
theorem keyed_len (hr : Room 1 X.A) : Keyed X (.builtin "len") encL 1000000 := by
  intro pins s σ H v w I hv hw
  obtain ⟨t, rfl⟩ := hv
  refine PyProof.Rows.len_str (by rw [sOf_len]; omega) ⟨s.heap, _, rfl, fun _ _ h => h, ?_⟩
  rw [sOf_len]
  exact .int _ _
/-- sorted(.., key=len) -/
def tSortLen (K : PySem.W.Frag) (t : TA) : TE := tCB (fun vs H Q => ∃ (a : Addr) (ws : List W), vs = [.ref a] ∧ SqL K H a (ws.map tx) ∧ (∀ w ∈ ws, w.length ≤ 1000000) ∧ ∀ p, H p = none → Q (.ref p) (upd H p (.lst ((ws.mergeSort leL).map tx)))) t
theorem pe_sortLen {e : Expr} {t : TA} {p p2 p3 pos : Pos} (hr : Room 1 X.A) (hg : Gl X "sorted") (hm : X.mg "sorted" = none) (hgl : Gl X "len") (hml : X.mg "len" = none) (ha : PA X [e] t) (hs : starEach [e] X.env = [(false, eval e X.env)] := by rfl) :
    PE X (.Call (.Name "sorted" p) [e] [⟨some "key", .Name "len" p2, p3⟩] pos) (tSortLen X.K t) := by
  refine ⟨fun pins s σ H Q I h => ?_⟩
  refine wpAny_Call_Name_kw (ld_blt I hg hm (u := .builtin "sorted") (by decide +kernel) ?_ (by decide) (by decide))
  refine PyProof.Rows.callWith_kw (e := e) (rest := []) (kws := [⟨some "key", .Name "len" p2, p3⟩]) (thn (ha.run pos pins s σ H _ I h) fun us s1 ⟨vs, H1, I1, r1, q1⟩ => ?_) (by rw [hs]; rfl) (by rw [hs]; rfl)
  refine wpAny_evalAll_cons (wpAny_bind (ld_blt I1 hgl hml (u := .builtin "len") PySem.boot_len ?_ (by decide) (by decide)))
  refine wpAny_bind (wpAny_standAt (wpAny_pure (wpAny_evalAll_nil ?_)))
  obtain ⟨a, ws, rfl, hq, hw, q⟩ := q1
  rw [Vals.ref1 r1]
  exact sort_key (keyed_len hr) (fun w => by simp [encL, PyData.depth]) (fun _ _ => by simp [PySem.W.alike, encL]) (PySem.W.Sortable.others fun w => ⟨(fun z => by cases z), (fun xs z => by cases z)⟩) ord_L (fun _ => ksk_t4 _ _) hr I1 hq hw q
end
end TB
/-! ## TbComp -/
/-! Comprehensions whose elements are made: told by a relation. Sorted lists. -/
namespace TB
open PySem PySem.Spec PyProof.Rows L2 Evl
structure LSt (R : V → Hp → Prop) : Prop where
  ex : ∀ {v H H'}, Ex H H' → R v H → R v H'
  up : ∀ {v H l ys zs}, H l = some (.lst ys) → R v H → R v (upd H l (.lst zs))
/-- a new list, item by item -/
def lcR (R : Nat → V → Hp → Prop) (n : Nat) (H : Hp) (v : V) (H2 : Hp) : Prop := ∃ p ys, v = .ref p ∧ H p = none ∧ H2 p = some (.lst ys) ∧ ys.length = n ∧ ∀ i y, ys[i]? = some y → R i y H2
section
variable {K : PySem.W.Frag} {σ : L2.St} {H H' : Hp} {ta tb te ti tl : TE} {R : Nat → V → Hp → Prop}
theorem lcR.back {n : Nat} {v : V} {H2 : Hp} (e : Ex H H') (h : lcR R n H' v H2) : lcR R n H v H2 := by
  obtain ⟨p, ys, h1, h2, h3⟩ := h
  exact ⟨p, ys, h1, fresh_back e h2, h3⟩
theorem lc_turn {σ2 : L2.St} {H1 H' : Hp} {Dl : Addr} {i : Nat} (hR : ∀ i, LSt (R i)) (p : H1 Dl = none ∧ Ex H1 H' ∧ ∃ ys, H' Dl = some (.lst ys) ∧ ys.length = i ∧ ∀ j y, ys[j]? = some y → R j y H') (hi : i < 10000000) (he : Er te σ2 H' (R i)) :
    tYes σ2 H' fun b H3 => if b = true then te σ2 H3 fun y H4 => ∃ acc, H4 Dl = some (.lst acc) ∧ acc.length < sizeLine ∧ (H1 Dl = none ∧ Ex H1 (upd H4 Dl (.lst (acc ++ [y]))) ∧ ∃ ys, (upd H4 Dl (.lst (acc ++ [y]))) Dl = some (.lst ys) ∧ ys.length = i + 1 ∧ ∀ j z, ys[j]? = some z → R j z (upd H4 Dl (.lst (acc ++ [y]))))
      else (H1 Dl = none ∧ Ex H1 H3 ∧ ∃ ys, H3 Dl = some (.lst ys) ∧ ys.length = i + 1 ∧ ∀ j y, ys[j]? = some y → R j y H3) := by
  obtain ⟨p1, p2, ys, p3, p4, p5⟩ := p
  show te σ2 H' _
  refine he H' (Ex.refl H') _ fun y H4 e4 hy => ⟨ys, e4 _ _ p3, Nat.lt_trans (show ys.length < 10000000 by omega) (by decide), p1, Ex.mut (p2.trans e4) p1, ys ++ [y], upd_same, by rw [List.length_append, p4]; rfl, fun j z hz => ?_⟩
  rcases Nat.lt_or_ge j ys.length with h | h
  · rw [List.getElem?_append_left h] at hz
    exact (hR j).up (e4 _ _ p3) ((hR j).ex e4 (p5 j z hz))
  · rw [List.getElem?_append_right h] at hz
    have h0 : j - ys.length = 0 := by
      rcases Nat.eq_zero_or_pos (j - ys.length) with h0 | h0
      · exact h0
      · rw [List.getElem?_eq_none (by show 1 ≤ _; omega)] at hz
        cases hz
    rw [h0] at hz
    have e1 : z = y := by simpa using hz.symm
    have e2 : j = i := by omega
    rw [e1, e2]
    exact (hR i).up (e4 _ _ p3) hy
theorem er_lcN {xs : List V} {j : Nat} {vs : List Nat} (hR : ∀ i, LSt (R i)) (h : EvL tl σ H xs) (hz : xs.length ≤ 2000000) (hw : ∀ x, wipe ((wipe σ vs).set j (some x)) vs = wipe σ vs)
    (he : ∀ (i : Nat) (x : V) H1, Ex H H1 → xs[i]? = some x → Er te ((wipe σ vs).set j (some x)) H1 (R i)) : Er (tLc (iList K tl) (gName j) tYes te vs) σ H (lcR R xs.length H) := fun H0 e Q q => h H0 e _ fun a H1 ha e1 hx => ⟨a, rfl, ⟨xs, sq_of hx⟩, fun Dl hD =>
  lc_list (xs := xs) (fun i H' => H1 Dl = none ∧ Ex H1 H' ∧ ∃ ys, H' Dl = some (.lst ys) ∧ ys.length = i ∧ ∀ j y, ys[j]? = some y → R j y H') ⟨hD, Ex.new hD, [], upd_same, rfl, fun j y h => by simp at h⟩
    (fun i H' _ p => sq_of (p.2.1 a _ hx)) (fun i x H' hi p => ⟨hw x, lc_turn hR p (by have := (List.getElem?_eq_some_iff.mp hi).1; omega) (he i x H' ((e.trans e1).trans p.2.1) hi)⟩)
    (fun H' p => by
      obtain ⟨p1, p2, ys, p3, p4, p5⟩ := p
      exact q _ H' (e1.trans p2) ⟨Dl, ys, rfl, fresh_back (e.trans e1) p1, p3, p4, p5⟩)⟩
/-- over the tuples of a sum -/
theorem er_lcS {a : Addr} {s : List (Int × Br)} {j k : Nat} {vs : List Nat} (hR : ∀ i, LSt (R i)) (h : Ev tl σ H (.ref a)) (hs : SumAt K H a s) (hz : s.length ≤ 2000000) (hw : ∀ x y, wipe (((wipe σ vs).set j (some x)).set k (some y)) vs = wipe σ vs)
    (he : ∀ (i : Nat) (c : Int) (t : Br) (v : V) H1, Ex H H1 → s[i]? = some (c, t) → BrAt K H1 v t → Er te (((wipe σ vs).set j (some (.int c))).set k (some v)) H1 (R i)) : Er (tLc (iList K tl) (gTup K 2 (gCons (gName j) (gCons (gName k) gNil))) tYes te vs) σ H (lcR R s.length H) := fun H0 e Q q => h H0 e _ fun H1 e1 => by
  obtain ⟨xs, hx, ht⟩ := hs
  have hlen := ht.len
  refine ⟨a, rfl, ⟨xs, ex_l (e.trans e1) hx⟩, fun Dl hD =>
  lc_list (xs := xs) (fun i H' => H1 Dl = none ∧ Ex H1 H' ∧ ∃ ys, H' Dl = some (.lst ys) ∧ ys.length = i ∧ ∀ j y, ys[j]? = some y → R j y H') ⟨hD, Ex.new hD, [], upd_same, rfl, fun j y h => by simp at h⟩
    (fun i H' _ p => ex_l ((e.trans e1).trans p.2.1) hx) (fun i x H' hi p => ?_)
    (fun H' p => by
      obtain ⟨p1, p2, ys, p3, p4, p5⟩ := p
      exact q _ H' (e1.trans p2) ⟨Dl, ys, rfl, fresh_back (e.trans e1) p1, p3, by rw [p4, hlen], p5⟩)⟩
  obtain ⟨c, t, hs, b, v, rfl, hq, hv⟩ := ht.get hi
  have ee := (e.trans e1).trans p.2.1
  exact ⟨b, [.int c, v], rfl, ex_t ee hq, rfl, .int c, [v], rfl, v, [], rfl, rfl, hw _ _, lc_turn hR p (by have := (List.getElem?_eq_some_iff.mp hi).1; omega) (he i c t v H' ee hs (hv.mono ee))⟩
theorem LSt.two {K : PySem.W.Frag} {x y : V} : LSt fun v H => ∃ p, v = .ref p ∧ SqT K H p [x, y] := ⟨fun e ⟨p, h1, h2⟩ => ⟨p, h1, ex_t e h2⟩, fun hl ⟨p, h1, h2⟩ => ⟨p, h1, SqT.updL hl h2⟩⟩
theorem LSt.val {x : V} : LSt fun v _ => v = x := ⟨fun _ h => h, fun _ h => h⟩
/-- values alone -/
theorem lcR_val {f : Nat → V} {n : Nat} {v : V} {H2 : Hp} (h : lcR (fun i v _ => v = f i) n H v H2) : ∃ p, v = .ref p ∧ H p = none ∧ H2 p = some (.lst ((List.range n).map f)) := by
  obtain ⟨p, ys, h1, h2, h3, h4, h5⟩ := h
  refine ⟨p, h1, h2, ?_⟩
  rw [h3]
  congr 2
  refine List.ext_getElem? fun i => ?_
  rw [List.getElem?_map]
  rcases Nat.lt_or_ge i n with hi | hi
  · have hi2 : i < ys.length := by omega
    rw [List.getElem?_range hi, List.getElem?_eq_getElem hi2, h5 i _ (List.getElem?_eq_getElem hi2)]
    rfl
  · rw [List.getElem?_eq_none (by omega), List.getElem?_eq_none (by rw [List.length_range]; omega)]
    rfl
theorem el_of {R : V → Hp → Prop} {xs : List V} (h : Er te σ H R) (k : ∀ v H1 H2, Ex H H1 → Ex H1 H2 → R v H2 → ∃ p, v = .ref p ∧ H1 p = none ∧ H2 p = some (.lst xs)) : EvL te σ H xs := fun H1 e Q q => h H1 e _ fun v H2 e2 r => by
  obtain ⟨p, rfl, h1, h2⟩ := k v H1 H2 e e2 r
  exact q p H2 h1 e2 h2
/-! sorted -/
theorem keys_kv (p : TB.P) : ((kv p).map fun x => kV x.1) = (keys p).map tx := by
  unfold kv keys
  rw [List.map_map, List.map_map]
  rfl
def rListD : List V → Hp → VK → Prop := fun xs H Q => ∃ (a : Addr) (kvs : List (Key × V)), xs = [.ref a] ∧ Rd H a (.dK kvs) ∧ ∀ p, H p = none → Q (.ref p) (upd H p (.lst (kvs.map fun kv => kV kv.1)))
theorem el_listD {d : Addr} {p : TB.P} (h : Ev te σ H (.ref d)) (hd : DR H d p) : EvL (tCB rListD (tCons te tNil)) σ H ((keys p).map tx) := fun H1 e Q q =>
  h H1 e _ fun H2 e2 => ⟨d, kv p, rfl, ex_rd (e.trans e2) hd, fun l hl => q l _ (fresh_back e2 hl) (e2.trans (Ex.new hl)) (by rw [upd_same, keys_kv])⟩
def rDictD : List V → Hp → VK → Prop := fun xs H Q => ∃ (a : Addr) (kvs : List (Key × V)), xs = [.ref a] ∧ Rd H a (.dK kvs) ∧ ∀ p, H p = none → Q (.ref p) (upd H p (.dK kvs))
theorem er_dictD {d : Addr} {p : TB.P} (h : Ev te σ H (.ref d)) (hd : DR H d p) : Er (tCB rDictD (tCons te tNil)) σ H (newD H p) := fun H1 e Q q =>
  h H1 e _ fun H2 e2 => ⟨d, kv p, rfl, ex_rd (e.trans e2) hd, fun l hl => q _ _ (e2.trans (Ex.new hl)) ⟨l, rfl, fresh_back (e.trans e2) hl, upd_same⟩⟩
theorem el_sortWN {ws : List W} (h : EvL te σ H (ws.map tx)) : EvL (tCB (rSortW K leW) (tCons te tNil)) σ H ((ws.mergeSort leW).map tx) := fun H1 e Q q =>
  h H1 e _ fun p H2 hp e2 h2 => ⟨p, ws, rfl, sq_of h2, fun l hl => q l _ (fresh_back e2 hl) (e2.trans (Ex.new hl)) upd_same⟩
theorem el_sortW {a : Addr} {ws : List W} (h : Ev te σ H (.ref a)) (hs : SqL K H a (ws.map tx)) : EvL (tCB (rSortW K leW) (tCons te tNil)) σ H ((ws.mergeSort leW).map tx) := fun H1 e Q q =>
  h H1 e _ fun H2 e2 => ⟨a, ws, rfl, ex_l (e.trans e2) hs, fun l hl => q l _ (fresh_back e2 hl) (e2.trans (Ex.new hl)) upd_same⟩
theorem el_sortLenN {ws : List W} (h : EvL te σ H (ws.map tx)) (hw : ∀ w ∈ ws, w.length ≤ 1000000) : EvL (tSortLen K (tCons te tNil)) σ H ((ws.mergeSort leL).map tx) := fun H1 e Q q =>
  h H1 e _ fun p H2 hp e2 h2 => ⟨p, ws, rfl, sq_of h2, hw, fun l hl => q l _ (fresh_back e2 hl) (e2.trans (Ex.new hl)) upd_same⟩
/-- len(d) -/
theorem ev_lenD {d : Addr} {p : TB.P} (h : Ev te σ H (.ref d)) (hd : H d = some (.dK (kv p))) : Ev (tCB (fun xs H Q => ∃ a kvs, xs = [V.ref a] ∧ H a = some (.dK kvs) ∧ Q (.int kvs.length) H) (tCons te tNil)) σ H (.int (p.length : Int)) := fun H1 e Q q =>
  h H1 e _ fun H2 e2 => ⟨d, kv p, rfl, (e.trans e2) _ _ hd, by rw [kv_len]; exact q H2 e2⟩
theorem ev_lenT {a : Addr} {xs : List V} (h : Ev te σ H (.ref a)) (hs : SqT K H a xs) : Ev (tCB (fun xs H Q => ∃ p ys, xs = [.ref p] ∧ (SqL K H p ys ∨ SqT K H p ys) ∧ Q (.int ys.length) H) (tCons te tNil)) σ H (.int (xs.length : Int)) := fun H1 e Q q =>
  h H1 e _ fun H2 e2 => ⟨a, xs, rfl, .inr (ex_t (e.trans e2) hs), q H2 e2⟩
/-- a call on a new list -/
theorem el_callN {sp : Sp} {dvs : List V} {E : XK} {xs zs : List V} (h : EvL te σ H xs) (hs : ∀ p H1, H1 p = some (.lst xs) → Ex H H1 → SpL sp (.ref p :: dvs) H1 zs) : EvL (tCall sp dvs E (tCons te tNil)) σ H zs := fun H1 e Q q =>
  h H1 e _ fun p H2 hp e2 h2 => hs p H2 h2 (e.trans e2) H2 (Ex.refl _) Q (fun r H3 hr e3 h3 => q r H3 (fresh_back e2 hr) (e2.trans e3) h3) E
theorem er_callN {sp : Sp} {dvs : List V} {E : XK} {xs : List V} {R : V → Hp → Prop} (h : EvL te σ H xs) (hs : ∀ p H1, H1 p = some (.lst xs) → Ex H H1 → SpR sp (.ref p :: dvs) H1 R) : Er (tCall sp dvs E (tCons te tNil)) σ H R := fun H1 e Q q =>
  h H1 e _ fun p H2 hp e2 h2 => hs p H2 h2 (e.trans e2) H2 (Ex.refl _) Q (fun v H3 e3 r => q v H3 (e2.trans e3) r) E
theorem el_tx1 {ws : List W} {i : Nat} {x : V} (h : (ws.map tx)[i]? = some x) : ∃ w, ws[i]? = some w ∧ x = tx w := by
  rw [List.getElem?_map] at h
  cases e : ws[i]? with
  | none => rw [e] at h; cases h
  | some w => rw [e] at h; cases h; exact ⟨w, rfl, rfl⟩
/-- for a, b in zip(xs, ys), where nothing that stands is changed -/
theorem q_forZip {tr : TA} {tu tz : TS} {D : Ends} {j k : Nat} {xs ys : List V} (hl : xs.length = ys.length) (h : Ear tr σ H (fun vs H1 => ∃ a b, vs = [.ref a, .ref b] ∧ SqL K H1 a xs ∧ SqL K H1 b ys)) (Sv : Nat → L2.St → Prop) (h0 : Sv 0 σ)
    (hs : ∀ B, Ex H B → ∀ i x y σ' H', xs[i]? = some x → ys[i]? = some y → Sv i σ' → Ex B H' → tu { D with nx := fun σ2 H2 => Sv (i + 1) σ2 ∧ Ex B H2, ct := fun σ2 H2 => Sv (i + 1) σ2 ∧ Ex B H2, bk := tz D } ((σ'.set j (some x)).set k (some y)) H')
    (hd : ∀ σ' H', Sv xs.length σ' → Ex H H' → tz D σ' H') :
    tSeq (tFor (iZip K tr) (gTup K 2 (gCons (gName j) (gCons (gName k) gNil))) tu) tz D σ H := h H (Ex.refl H) _ fun vs H1 e1 hv => by
  obtain ⟨a, b, rfl, ha, hb⟩ := hv
  refine ⟨a, b, xs, ys, rfl, ha, hb, RZ.for_zipL (D := { D with nx := tz D }) hl (fun i σ' H' => Sv i σ' ∧ Ex H1 H') ⟨h0, Ex.refl _⟩ (fun i σ' H' p => ⟨ex_l p.2 ha, ex_l p.2 hb⟩) (fun i x y T σ' H' hx hy p hT => ?_) (fun σ' H' p => hd σ' H' p.1 (e1.trans p.2))⟩
  exact ⟨T, [x, y], rfl, st_of upd_same, rfl, x, [y], rfl, y, [], rfl, rfl, hs H1 e1 i x y σ' _ hx hy p.1 (p.2.trans (Ex.new hT))⟩
end
/-! ### orders -/
theorem leW_trans (a b c : W) : leW a b = true → leW b c = true → leW a c = true := fun h1 h2 => by
  unfold leW at *
  have h1 : lx b a = false := by simpa using h1
  have h2 : lx c b = false := by simpa using h2
  rcases lx_tri c a with h | h | h
  · rcases lx_tri b c with g | g | g
    · rw [lx_trans g h] at h1; cases h1
    · subst g; rw [h] at h1; cases h1
    · rw [g] at h2; cases h2
  · subst h; simp [lx_irr]
  · simp [lx_asymm h]
theorem leW_total (a b : W) : (leW a b || leW b a) = true := by
  unfold leW
  rcases lx_tri a b with h | h | h
  · simp [lx_asymm h]
  · subst h; simp [lx_irr]
  · simp [lx_asymm h]
theorem leW_anti {a b : W} (h1 : leW a b = true) (h2 : leW b a = true) : a = b := by
  unfold leW at *
  have h1 : lx b a = false := by simpa using h1
  have h2 : lx a b = false := by simpa using h2
  rcases lx_tri a b with h | h | h
  · rw [h] at h2; cases h2
  · exact h
  · rw [h] at h1; cases h1
theorem leB_iff {a b : W} : leB a b = true ↔ a.length < b.length ∨ (a.length = b.length ∧ leW a b = true) := by
  unfold leB leW
  simp
theorem leB_trans (a b c : W) (h1 : leB a b = true) (h2 : leB b c = true) : leB a c = true := by
  rw [leB_iff] at *
  rcases h1 with h1 | ⟨h1, g1⟩ <;> rcases h2 with h2 | ⟨h2, g2⟩
  · exact .inl (by omega)
  · exact .inl (by omega)
  · exact .inl (by omega)
  · exact .inr ⟨by omega, leW_trans _ _ _ g1 g2⟩
theorem leB_total (a b : W) : (leB a b || leB b a) = true := by
  rcases Nat.lt_trichotomy a.length b.length with h | h | h
  · rw [leB_iff.mpr (.inl h)]; rfl
  · have := leW_total a b
    rcases Bool.or_eq_true_iff.mp this with g | g
    · rw [leB_iff.mpr (.inr ⟨h, g⟩)]; rfl
    · rw [leB_iff.mpr (.inr ⟨h.symm, g⟩), Bool.or_true]
  · rw [leB_iff.mpr (.inl h), Bool.or_true]
theorem leB_anti {a b : W} (h1 : leB a b = true) (h2 : leB b a = true) : a = b := by
  rw [leB_iff] at *
  rcases h1 with h1 | ⟨h1, g1⟩ <;> rcases h2 with h2 | ⟨h2, g2⟩
  · omega
  · omega
  · omega
  · exact leW_anti g1 g2
/-- words in the order of the document -/
def ord (ws : List W) : List W := ws.mergeSort leB
theorem ord_sorted (ws : List W) : (ord ws).Pairwise fun a b => leB a b = true := List.pairwise_mergeSort leB_trans leB_total ws
theorem ord_perm (ws : List W) : (ord ws).Perm ws := List.mergeSort_perm ws leB
/-- what is in order is in order in one way -/
theorem sorted_uniq : ∀ {xs ys : List W}, xs.Pairwise (fun a b => leB a b = true) → ys.Pairwise (fun a b => leB a b = true) → xs.Perm ys → xs = ys
  | [], ys, _, _, h => (List.Perm.nil_eq h)
  | x :: xs, [], _, _, h => (by have := h.length_eq; simp at this)
  | x :: xs, y :: ys, h1, h2, h => by
    have hx := List.pairwise_cons.mp h1
    have hy := List.pairwise_cons.mp h2
    have e : x = y := by
      have m1 : x ∈ y :: ys := h.mem_iff.mp List.mem_cons_self
      have m2 : y ∈ x :: xs := h.mem_iff.mpr List.mem_cons_self
      rcases List.mem_cons.mp m1 with e | m1
      · exact e
      · rcases List.mem_cons.mp m2 with e | m2
        · exact e.symm
        · exact leB_anti (hx.1 _ m2) (hy.1 _ m1)
    subst e
    rw [sorted_uniq hx.2 hy.2 (List.Perm.cons_inv h)]
theorem two_way : ∀ {R : List W} {a b : W}, R.Nodup → List.Sublist [a, b] R → List.Sublist [b, a] R → False
  | [], a, b, _, h, _ => by cases h
  | x :: R, a, b, hn, h1, h2 => by
    obtain ⟨n1, n2⟩ := List.nodup_cons.mp hn
    cases h1 with
    | cons _ h1 =>
      cases h2 with
      | cons _ h2 => exact two_way n2 h1 h2
      | cons_cons _ h2 => exact n1 (h1.subset (by simp))
    | cons_cons _ h1 =>
      cases h2 with
      | cons _ h2 => exact n1 (h2.subset (by simp))
      | cons_cons _ h2 => exact n1 (h2.subset (by simp))
theorem pair_sub {R : List W} : ∀ {a b : W}, a ∈ R → b ∈ R → a ≠ b → List.Sublist [a, b] R ∨ List.Sublist [b, a] R := by
  induction R with
  | nil => intro a b h; cases h
  | cons x R ih =>
    intro a b ha hb hab
    rcases List.mem_cons.mp ha with e1 | ha'
    · rcases List.mem_cons.mp hb with e | hb'
      · exact absurd (e1.trans e.symm) hab
      · rw [e1]
        exact .inl (.cons_cons _ (List.singleton_sublist.mpr hb'))
    · rcases List.mem_cons.mp hb with e | hb'
      · rw [e]
        exact .inr (.cons_cons _ (List.singleton_sublist.mpr ha'))
      · exact (ih ha' hb' hab).imp (.cons _) (.cons _)
/-- sorted twice, the second time by length -/
theorem ord_twice {ws : List W} (hn : ws.Nodup) : (ws.mergeSort leW).mergeSort leL = ord ws := by
  have t : ∀ a b c : W, leL a b = true → leL b c = true → leL a c = true := fun a b c h1 h2 => by
    unfold leL at *
    have := of_decide_eq_true h1
    have := of_decide_eq_true h2
    exact decide_eq_true (by omega)
  have tot : ∀ a b : W, (leL a b || leL b a) = true := fun a b => by
    unfold leL
    rcases Nat.le_total a.length b.length with h | h
    · rw [decide_eq_true h]; rfl
    · rw [decide_eq_true h, Bool.or_true]
  have p1 : (ws.mergeSort leW).Perm ws := List.mergeSort_perm ws leW
  have p2 : ((ws.mergeSort leW).mergeSort leL).Perm (ws.mergeSort leW) := List.mergeSort_perm _ leL
  have s1 : (ws.mergeSort leW).Pairwise fun a b => leW a b = true := List.pairwise_mergeSort leW_trans leW_total ws
  have s2 : ((ws.mergeSort leW).mergeSort leL).Pairwise fun a b => leL a b = true := List.pairwise_mergeSort t tot _
  have n2 : ((ws.mergeSort leW).mergeSort leL).Nodup := (p2.trans p1).nodup_iff.mpr hn
  refine sorted_uniq ?_ (ord_sorted ws) ((p2.trans p1).trans (ord_perm ws).symm)
  rw [List.pairwise_iff_forall_sublist] at s2 ⊢
  intro a b hab
  have hl : a.length ≤ b.length := of_decide_eq_true (s2 hab)
  rw [leB_iff]
  rcases Nat.lt_or_ge a.length b.length with h | h
  · exact .inl h
  · refine .inr ⟨by omega, ?_⟩
    have ne : a ≠ b := fun e => by
      subst e
      exact two_way n2 hab hab
    have ma : a ∈ ws.mergeSort leW := p2.mem_iff.mp (hab.subset (by simp))
    have mb : b ∈ ws.mergeSort leW := p2.mem_iff.mp (hab.subset (by simp))
    rcases pair_sub ma mb ne with h1 | h1
    · exact List.pairwise_iff_forall_sublist.mp s1 h1
    · exact (two_way n2 hab (List.pair_sublist_mergeSort t tot (by unfold leL; exact decide_eq_true (by omega)) h1)).elim
/-- the words of counts, in order, with their counts, in tuples -/
def WdAt (K : PySem.W.Frag) (p : TB.P) (i : Nat) (v : V) (H : Hp) : Prop := ∃ q, v = .ref q ∧ SqT K H q [tx ((ord (keys p)).getD i []), .int (get p ((ord (keys p)).getD i []))]
theorem WdAt.st (K : PySem.W.Frag) (p : TB.P) (i : Nat) : LSt (WdAt K p i) := LSt.two
theorem look_key {p : TB.P} (nd : (keys p).Nodup) {w : W} (h : w ∈ keys p) : look p w = some (get p w) := by
  obtain ⟨c, hc⟩ := mem_keys.mp h
  rw [get_mem nd hc, look_mem nd hc]
theorem ord_len (ws : List W) : (ord ws).length = ws.length := (ord_perm ws).length_eq
theorem ord_get {ws : List W} {i : Nat} {w : W} (h : (ord ws)[i]? = some w) : w ∈ ws ∧ (ord ws).getD i [] = w := ⟨(ord_perm ws).mem_iff.mp (List.mem_of_getElem? h), by rw [List.getD_eq_getElem?_getD, h]; rfl⟩
theorem ord_ord (ws : List W) : ord (ord ws) = ord ws := sorted_uniq (ord_sorted _) (ord_sorted _) (ord_perm _)
theorem ord_nd {ws : List W} (h : ws.Nodup) : (ord ws).Nodup := (ord_perm ws).nodup_iff.mpr h
/-- lists of words as data -/
def pdWs (ws : List W) : PyData := .list (ws.map fun w => .str (sOf w))
theorem dp_ws {K : PySem.W.Frag} {H : Hp} {a : Addr} {ws : List W} (h : SqL K H a (ws.map tx)) : Dp K H (.ref a) (pdWs ws) := .lst h (by
  clear h
  induction ws with
  | nil => exact .nil
  | cons w r ih => exact .cons (.str _) ih)
theorem sh_ws {ws : List W} (h : ∀ w ∈ ws, ABC w) : SeqAt.shaped (pdWs ws) = true := sh_of (lay_lst fun d hd => by
    obtain ⟨w, hw, rfl⟩ := List.mem_map.mp hd
    exact lay_tx (h w hw).lt) (by
  show (PyData.list (ws.map fun w => .str (sOf w))).depth ≤ 64
  rw [PyData.depth]
  have : PyData.depthAll (ws.map fun w => PyData.str (sOf w)) ≤ 0 := depth_all fun d hd => by
    obtain ⟨w, hw, rfl⟩ := List.mem_map.mp hd
    rw [depth_tx]; exact Nat.le_refl _
  omega)
theorem eqv_ws {ws : List W} (h : ∀ w ∈ ws, ABC w) : PyData.eqv (pdWs ws) (pdWs ws) = true := PySem.SeqAt.eqv_refl _ (lay_lst fun d hd => by
    obtain ⟨w, hw, rfl⟩ := List.mem_map.mp hd
    exact lay_tx (h w hw).lt)
theorem tups_at {K : PySem.W.Frag} {H : Hp} : ∀ {ys : List V} {s : List (Int × Br)}, ys.length = s.length → (∀ (i : Nat) (y : V), ys[i]? = some y → ∃ c t, s[i]? = some (c, t) ∧ ∃ (q : Addr) (b : V), y = .ref q ∧ SqT K H q [.int c, b] ∧ BrAt K H b t) → Tups K H ys s
  | [], [], _, _ => trivial
  | [], _ :: _, h, _ => by simp at h
  | _ :: _, [], h, _ => by simp at h
  | y :: ys, (c, t) :: s, h, k => by
    refine ⟨?_, tups_at (by simpa using h) fun i z hz => by
      have := k (i + 1) z (by simpa using hz)
      simpa using this⟩
    obtain ⟨c', t', e, q, b, h1, h2, h3⟩ := k 0 y rfl
    have e' : (c, t) = (c', t') := by simpa using e
    injection e' with e1 e2
    subst e1; subst e2
    exact ⟨q, b, h1, h2, h3⟩
section
variable {K : PySem.W.Frag} {σ : L2.St} {H H' : Hp} {ta tb te ti tl : TE} {tr : TA} {R : Nat → V → Hp → Prop}
/-- over a list that stands -/
theorem er_lcV {a : Addr} {xs : List V} {j : Nat} {vs : List Nat} (hR : ∀ i, LSt (R i)) (h : Ev tl σ H (.ref a)) (hs : SqL K H a xs) (hz : xs.length ≤ 2000000) (hw : ∀ x, wipe ((wipe σ vs).set j (some x)) vs = wipe σ vs)
    (he : ∀ (i : Nat) (x : V) H1, Ex H H1 → xs[i]? = some x → Er te ((wipe σ vs).set j (some x)) H1 (R i)) : Er (tLc (iList K tl) (gName j) tYes te vs) σ H (lcR R xs.length H) := fun H0 e Q q => h H0 e _ fun H1 e1 => ⟨a, rfl, ⟨xs, ex_l (e.trans e1) hs⟩, fun Dl hD =>
  lc_list (xs := xs) (fun i H' => H1 Dl = none ∧ Ex H1 H' ∧ ∃ ys, H' Dl = some (.lst ys) ∧ ys.length = i ∧ ∀ j y, ys[j]? = some y → R j y H') ⟨hD, Ex.new hD, [], upd_same, rfl, fun j y h => by simp at h⟩
    (fun i H' _ p => ex_l ((e.trans e1).trans p.2.1) hs) (fun i x H' hi p => ⟨hw x, lc_turn hR p (by have := (List.getElem?_eq_some_iff.mp hi).1; omega) (he i x H' ((e.trans e1).trans p.2.1) hi)⟩)
    (fun H' p => by
      obtain ⟨p1, p2, ys, p3, p4, p5⟩ := p
      exact q _ H' (e1.trans p2) ⟨Dl, ys, rfl, fresh_back (e.trans e1) p1, p3, p4, p5⟩)⟩
/-- lists of brackets -/
def BrsAt (K : PySem.W.Frag) (H : Hp) : List V → List Br → Prop
  | [], [] => True
  | v :: vs, t :: ts => BrAt K H v t ∧ BrsAt K H vs ts
  | _, _ => False
theorem BrsAt.mono (e : Ex H H') : ∀ {vs : List V} {ts : List Br}, BrsAt K H vs ts → BrsAt K H' vs ts
  | [], [], _ => trivial
  | v :: vs, t :: ts, h => ⟨h.1.mono e, h.2.mono e⟩
  | [], _ :: _, h => h
  | _ :: _, [], h => h
theorem BrsAt.len : ∀ {vs : List V} {ts : List Br}, BrsAt K H vs ts → vs.length = ts.length
  | [], [], _ => rfl
  | v :: vs, t :: ts, h => congrArg (· + 1) h.2.len
  | [], _ :: _, h => h.elim
  | _ :: _, [], h => h.elim
theorem BrsAt.get : ∀ {vs : List V} {ts : List Br} {i : Nat} {v : V}, BrsAt K H vs ts → vs[i]? = some v → ∃ t, ts[i]? = some t ∧ BrAt K H v t
  | [], [], _, _, _, h => by simp at h
  | v :: vs, t :: ts, 0, x, h, e => by
    have : v = x := by simpa using e
    exact ⟨t, rfl, this ▸ h.1⟩
  | v :: vs, t :: ts, i + 1, x, h, e => h.2.get (by simpa using e)
  | [], _ :: _, _, _, h, _ => h.elim
  | _ :: _, [], _, _, h, _ => h.elim
theorem ear_brs0 : Ear tNil σ H fun vs H2 => BrsAt K H2 vs [] := fun H1 _ Q q => q [] H1 (Ex.refl H1) trivial
theorem ear_brs {t : Br} {ts : List Br} (h : Er ta σ H fun v H2 => BrAt K H2 v t) (hr : Ear tr σ H fun vs H2 => BrsAt K H2 vs ts) : Ear (tCons ta tr) σ H fun vs H2 => BrsAt K H2 vs (t :: ts) := fun H1 a Q q =>
  h H1 a _ fun x H2 e2 hx => hr H2 (a.trans e2) _ fun vs H3 e3 hs => q _ H3 (e2.trans e3) ⟨hx.mono e3, hs⟩
def BrL (K : PySem.W.Frag) (ts : List Br) (v : V) (H2 : Hp) : Prop := ∃ p vs, v = .ref p ∧ SqL K H2 p vs ∧ BrsAt K H2 vs ts
theorem BrL.mono {ts : List Br} {v : V} (e : Ex H H') (h : BrL K ts v H) : BrL K ts v H' := by
  obtain ⟨p, vs, h1, h2, h3⟩ := h
  exact ⟨p, vs, h1, ex_l e h2, h3.mono e⟩
theorem er_brl {ts : List Br} (h : Ear tr σ H fun vs H2 => BrsAt K H2 vs ts) (hl : ts.length ≤ 100000) : Er (tLst tr) σ H (BrL K ts) := fun H1 e Q q =>
  h H1 e _ fun vs H2 e2 hv => ⟨by rw [hv.len]; exact sz_of hl, fun p hp => q _ _ (e2.trans (Ex.new hp)) ⟨p, vs, rfl, sq_of upd_same, hv.mono (Ex.new hp)⟩⟩
end
section
variable {K : PySem.W.Frag} {σ : L2.St} {H H' : Hp} {ta tb tc ti : TE} {tr : TA}
theorem ear_3 {R S T : V → Hp → Prop} (h1 : Er ta σ H R) (h2 : Er tb σ H S) (h3 : Er tc σ H T) (m1 : ∀ {v H H'}, Ex H H' → R v H → R v H') (m2 : ∀ {v H H'}, Ex H H' → S v H → S v H') (m3 : ∀ {v H H'}, Ex H H' → T v H → T v H') : Ear (tCons ta (tCons tb (tCons tc tNil))) σ H fun vs H2 => ∃ a b c, vs = [a, b, c] ∧ R a H2 ∧ S b H2 ∧ T c H2 :=
  ear_cons h1 fun x H1 e1 hx => ear_cons (h2.mono e1) fun y H2 e2 hy => ear_cons (h3.mono (e1.trans e2)) fun z H3 e3 hz => ear_of ea_nil fun H4 e4 => ⟨x, y, z, rfl, m1 ((e2.trans e3).trans e4) hx, m2 (e3.trans e4) hy, m3 e4 hz⟩
theorem er_ixL {S : List V → Hp → Prop} {R : V → Hp → Prop} {i : Int} (h : Ear tr σ H S) (hl : ∀ {vs H1}, S vs H1 → vs.length ≤ 100000) (hi : Ev ti σ H (.int i)) (h0 : 0 ≤ i) (k : ∀ {vs H1}, S vs H1 → ∃ v, vs[i.toNat]? = some v ∧ R v H1) (m : ∀ {v H H'}, Ex H H' → R v H → R v H') : Er (tOp (rIxL K) (tLst tr) ti) σ H R := fun H1 e Q q =>
  h H1 e _ fun vs H2 e2 hv => ⟨sz_of (hl hv), fun p hp => hi _ ((e.trans e2).trans (Ex.new hp)) _ fun H3 e3 => by
    obtain ⟨v, h1, h2⟩ := k hv
    exact ⟨p, vs, i, v, rfl, rfl, ex_l e3 (sq_of upd_same), atI_nat' h0 h1, q v H3 ((e2.trans (Ex.new hp)).trans e3) (m ((Ex.new hp).trans e3) h2)⟩⟩
theorem er_lst2 {R S : V → Hp → Prop} (h1 : Er ta σ H R) (h2 : Er tb σ H S) (m1 : ∀ {v H H'}, Ex H H' → R v H → R v H') (m2 : ∀ {v H H'}, Ex H H' → S v H → S v H') : Er (tLst (tCons ta (tCons tb tNil))) σ H fun v H2 => ∃ p x y, v = .ref p ∧ SqL K H2 p [x, y] ∧ R x H2 ∧ S y H2 := fun H1 e Q q =>
  h1 H1 e _ fun x H2 e2 hx => h2 H2 (e.trans e2) _ fun y H3 e3 hy => ⟨by show 2 ≤ sizeLine; decide, fun p hp => q _ _ ((e2.trans e3).trans (Ex.new hp)) ⟨p, x, y, rfl, sq_of upd_same, m1 (e3.trans (Ex.new hp)) hx, m2 (Ex.new hp) hy⟩⟩
end
end TB
/-! ## TbMax -/
/-! max(numbers, default=d). -/
namespace TB
open PySem PySem.Spec PyProof.Rows L2 Evl
def mx (d : Int) : List Int → Int
  | [] => d
  | n :: ns => ns.foldl (fun m y => if m < y then y else m) n
theorem fold_mx : ∀ (ns : List Int) (n : Int), n ≤ ns.foldl (fun m y => if m < y then y else m) n ∧ (∀ y ∈ ns, y ≤ ns.foldl (fun m y => if m < y then y else m) n) ∧ (ns.foldl (fun m y => if m < y then y else m) n = n ∨ ns.foldl (fun m y => if m < y then y else m) n ∈ ns)
  | [], n => ⟨Int.le_refl _, (fun _ h => by cases h), .inl rfl⟩
  | y :: ns, n => by
    obtain ⟨h1, h2, h3⟩ := fold_mx ns (if n < y then y else n)
    rw [List.foldl_cons]
    have a1 : n ≤ if n < y then y else n := by split <;> omega
    have a2 : y ≤ if n < y then y else n := by split <;> omega
    refine ⟨Int.le_trans a1 h1, fun z hz => ?_, ?_⟩
    · rcases List.mem_cons.mp hz with e | hz
      · rw [e]; exact Int.le_trans a2 h1
      · exact h2 z hz
    · rcases h3 with h3 | h3
      · rw [h3]
        split
        · exact .inr List.mem_cons_self
        · exact .inl rfl
      · exact .inr (List.mem_cons_of_mem _ h3)
theorem maxD_ints : ∀ (ns : List Int) (n : Int), PySem.W.maxD (.int n) (ns.map PyData.int) = .int (ns.foldl (fun m y => if m < y then y else m) n)
  | [], n => rfl
  | y :: ns, n => by
    have ih := maxD_ints ns (if n < y then y else n)
    unfold PySem.W.maxD at ih ⊢
    rw [List.map_cons, List.foldl_cons, List.foldl_cons, ← ih, PySem.W.dataLt_int]
    by_cases h : n < y
    · rw [if_pos h, decide_eq_true h]; rfl
    · rw [if_neg h, decide_eq_false h]; rfl
section
variable {X : Cx}
theorem reads_ints {h : Heap} : ∀ {ns : List Int} {us : List Value}, Vals (ns.map V.int) us → ReadsAll h us (ns.map PyData.int) []
  | [], _, .nil => .nil
  | n :: ns, _, .cons r rs => by
    obtain ⟨t, rfl⟩ := r
    exact .cons (as := []) (bs := []) (.int _ _) (reads_ints rs)
theorem alike_nums (ns : List Int) : PySem.W.AlikeAll (ns.map PyData.int) := ⟨fun x hx y hy => by
  obtain ⟨i, _, rfl⟩ := List.mem_map.mp hx
  obtain ⟨j, _, rfl⟩ := List.mem_map.mp hy
  rfl, fun x hx e => by
  obtain ⟨i, _, rfl⟩ := List.mem_map.mp hx
  cases e⟩
def rMaxD (K : PySem.W.Frag) : List V → List V → Hp → VK → Prop := fun vs zs H Q => ∃ (a : Addr) (ns : List Int) (d : Int), vs = [.ref a] ∧ zs = [.int d] ∧ SqL K H a (ns.map V.int) ∧ Q (.int (mx d ns)) H
theorem cr_maxD (hr : Room 1 X.A) (hc : X.calm = true) : CallRK X (.builtin "max") [Str.ofString "default"] (rMaxD X.K) := by
  intro pins s σ H xs zs us ws Q I rx rz h
  obtain ⟨a, ns, d, rfl, rfl, hq, q⟩ := h
  obtain ⟨its, rv, hl, _⟩ := I.list hq
  obtain ⟨wv, rfl, t, rfl⟩ := vals1 rz
  rw [Vals.ref1 rx]
  have hd : PyData.depthAll (ns.map PyData.int) = 0 := PySem.W.depth_ints ns
  refine PySem.W.max_list_default (xs := ns.map PyData.int) (as := []) (I.ok.hd hc) hl.isList (by simpa using reads_ints rv) (alike_nums ns) (by rw [hd]; have := hr.un; omega) (fun h0 h' tk hk => ?_) (fun y ys i v h' tk bs h0 hv hrd hk => ?_)
  · have : ns = [] := List.map_eq_nil_iff.mp h0
    subst this
    exact ⟨.int d, H, I.kept (t' := tk) hk, ⟨t, rfl⟩, q⟩
  · cases ns with
    | nil => cases h0
    | cons n ns =>
      rw [List.map_cons] at h0
      injection h0 with e1 e2
      subst e1; subst e2
      rw [maxD_ints] at hrd
      cases hrd with
      | int i t => exact ⟨.int _, H, I.kept (t' := tk) hk, ⟨_, rfl⟩, q⟩
end
theorem ev_maxD {K : PySem.W.Frag} {σ : L2.St} {H : Hp} {te : TE} {ns : List Int} {d : Int} (h : EvL te σ H (ns.map V.int)) : Ev (tCKw (rMaxD K) (tCons te tNil) (tCons (tC (.int d)) tNil)) σ H (.int (mx d ns)) := fun H1 e Q q =>
  h H1 e _ fun p H2 _ e2 hp => ⟨p, ns, d, rfl, rfl, sq_of hp, q H2 e2⟩
/-! ### the greatest weight of a sum -/
def grt (s : List (Int × Br)) : Int := mx 0 (s.map fun x => (x.2.wt : Int))
theorem grt_le {s : List (Int × Br)} {x : Int × Br} (h : x ∈ s) : (x.2.wt : Int) ≤ grt s := by
  cases s with
  | nil => cases h
  | cons y r =>
    obtain ⟨h1, h2, _⟩ := fold_mx (r.map fun x => (x.2.wt : Int)) (y.2.wt : Int)
    rcases List.mem_cons.mp h with rfl | h
    · exact h1
    · exact h2 _ (List.mem_map.mpr ⟨x, h, rfl⟩)
theorem grt_at {s : List (Int × Br)} (h : s ≠ []) : ∃ x ∈ s, grt s = (x.2.wt : Int) := by
  cases s with
  | nil => exact absurd rfl h
  | cons y r =>
    obtain ⟨_, _, h3⟩ := fold_mx (r.map fun x => (x.2.wt : Int)) (y.2.wt : Int)
    rcases h3 with h3 | h3
    · exact ⟨y, List.mem_cons_self, h3⟩
    · obtain ⟨x, hx, e⟩ := List.mem_map.mp h3
      exact ⟨x, List.mem_cons_of_mem _ hx, e.symm⟩
theorem grt_nil : grt [] = 0 := rfl
theorem grt_nonneg (s : List (Int × Br)) : 0 ≤ grt s := by
  by_cases h : s = []
  · rw [h]; exact Int.le_refl _
  · obtain ⟨x, _, e⟩ := grt_at h
    omega
end TB
/-! ## TbPrim -/
/-! Counts that are some sum's, and their plain sums: what the loop of plain_of keeps. -/
namespace TB
/-! ### places of words in the order of texts -/
def sz : Nat → Nat
  | 0 => 1
  | n + 1 => 1 + 3 * sz n
def rk : Nat → W → Nat
  | _, [] => 0
  | 0, _ :: _ => 0
  | n + 1, c :: u => 1 + (c - 97) * sz n + rk n u
theorem sz_pos : ∀ n, 0 < sz n
  | 0 => Nat.one_pos
  | n + 1 => by show 0 < 1 + _; omega
theorem ABC.tail {c : Nat} {u : W} (h : ABC (c :: u)) : ABC u := fun x hx => h x (List.mem_cons_of_mem _ hx)
theorem rk_lt : ∀ (n : Nat) (w : W), w.length ≤ n → ABC w → rk n w < sz n
  | n, [], _, _ => by
    have : rk n [] = 0 := by cases n <;> rfl
    rw [this]; exact sz_pos n
  | 0, _ :: _, h, _ => by simp at h
  | n + 1, c :: u, h, a => by
    have h1 := rk_lt n u (by simpa using h) a.tail
    have h2 := a c List.mem_cons_self
    show 1 + (c - 97) * sz n + rk n u < 1 + 3 * sz n
    rcases h2 with rfl | rfl | rfl
    · omega
    · omega
    · omega
theorem rk_mono : ∀ (n : Nat) (u v : W), u.length ≤ n → v.length ≤ n → ABC u → ABC v → lx u v = true → rk n u < rk n v
  | n, u, [], _, _, _, _, h => by rw [lx_nil_r] at h; cases h
  | 0, _, _ :: _, _, h, _, _, _ => by simp at h
  | n + 1, [], c :: v, _, _, _, _, _ => by
    show 0 < 1 + (c - 97) * sz n + rk n v
    omega
  | n + 1, a :: u, b :: v, h1, h2, a1, a2, h => by
    have hu := a1 a List.mem_cons_self
    have hv := a2 b List.mem_cons_self
    have hr := rk_lt n u (by simpa using h1) a1.tail
    show 1 + (a - 97) * sz n + rk n u < 1 + (b - 97) * sz n + rk n v
    rcases lx_cons_iff.mp h with g | ⟨g0, g⟩
    · rcases hu with rfl | rfl | rfl <;> rcases hv with rfl | rfl | rfl <;> omega
    · have := rk_mono n u v (by simpa using h1) (by simpa using h2) a1.tail a2.tail g
      rw [g0]
      omega
theorem rk_inj {n : Nat} {u v : W} (hu : u.length ≤ n) (hv : v.length ≤ n) (au : ABC u) (av : ABC v) (h : rk n u = rk n v) : u = v := by
  rcases lx_tri u v with g | g | g
  · have := rk_mono n u v hu hv au av g; omega
  · exact g
  · have := rk_mono n v u hv hu av au g; omega
theorem nums_few : ∀ {n : Nat} {l : List Nat}, l.Nodup → (∀ x ∈ l, x < n) → l.length ≤ n
  | 0, [], _, _ => Nat.le_refl _
  | 0, x :: _, _, h => absurd (h x List.mem_cons_self) (Nat.not_lt_zero _)
  | n + 1, l, nd, h => by
    have h1 : (l.erase n).length ≤ n := nums_few (nd.erase n) fun x hx => by
      have h2 := h x (List.mem_of_mem_erase hx)
      have h3 : x ≠ n := fun e => by
        subst e
        exact (List.Nodup.not_mem_erase nd) hx
      omega
    have h2 := List.length_erase (l := l) (a := n)
    split at h2 <;> omega
/-- how many different words there are -/
theorem words_few {n : Nat} {ws : List W} (nd : ws.Nodup) (h : ∀ w ∈ ws, w.length ≤ n ∧ ABC w) : ws.length ≤ sz n := by
  have h1 : (ws.map (rk n)).Nodup := by
    rw [List.nodup_iff_pairwise_ne, List.pairwise_map]
    rw [List.nodup_iff_pairwise_ne] at nd
    exact nd.imp_of_mem fun {a b} ha hb hab e => hab (rk_inj (h a ha).1 (h b hb).1 (h a ha).2 (h b hb).2 e)
  have h2 : (ws.map (rk n)).length ≤ sz n := nums_few h1 fun x hx => by
    obtain ⟨w, hw, rfl⟩ := List.mem_map.mp hx
    exact rk_lt n w (h w hw).1 (h w hw).2
  rw [List.length_map] at h2
  exact h2
/-! ### some sum's counts -/
structure Prim (p : P) : Prop where
  nil : pr p (dw []) = 0
  mg : ∀ x y, x ≠ [] → y ≠ [] → pr p (TB.mg x y) = 0
theorem Prim.of_eq {p q : P} (h : Prim p) (e : ∀ φ, pr q φ = pr p φ) : Prim q := ⟨by rw [e]; exact h.nil, fun x y hx hy => by rw [e]; exact h.mg x y hx hy⟩
theorem br_dn (t : Br) : br t (dw []) = 0 := br_nil t fun w h => dw_ne h
theorem Prim.sb {p : P} {s : List (Int × Br)} (e : ∀ φ, pr p φ = TB.sb s φ) : Prim p := by
  have z : ∀ φ, (∀ t, br t φ = 0) → TB.sb s φ = 0 := fun φ h => by
    induction s with
    | nil => rfl
    | cons x r ih =>
      obtain ⟨c, t⟩ := x
      show c * br t φ + TB.sb r φ = 0
      have : TB.sb r φ = 0 := by
        clear e ih
        induction r with
        | nil => rfl
        | cons y r ih =>
          obtain ⟨d, u⟩ := y
          show d * br u φ + TB.sb r φ = 0
          rw [h u, ih]; omega
      rw [h t, this]; omega
  exact ⟨by rw [e]; exact z _ br_dn, fun x y hx hy => by rw [e]; exact z _ fun t => br_mg t hx hy⟩
/-- the least word of some sum's counts is plain -/
theorem least_plain {p : P} {m : W} (n : Nrm p) (h : Prim p) (hm : m ∈ keys p) (hl : ∀ w ∈ keys p, le m w) : plain m = true := by
  have g0 := n.get_ne hm
  rcases Bool.eq_false_or_eq_true (plain m) with hp | hp
  · exact hp
  exfalso
  have h0 : m ≠ [] := fun e => g0 (by rw [← pr_dw n.nd, e]; exact h.nil)
  obtain ⟨x, y, hx, hy, e, hz⟩ := not_plain h0 hp
  have h1 := h.mg x y hx hy
  have h2 : pr p (TB.mg x y) = pr p (fun w => TB.mg x y m * dw m w) := pr_congr fun z hz' => by
    have hk : z.1 ∈ keys p := List.mem_map.mpr ⟨z, hz', rfl⟩
    by_cases hzm : z.1 = m
    · rw [hzm, dw_same, Int.mul_one]
    · rw [dw_ne hzm, Int.mul_zero]
      by_cases hq : TB.mg x y z.1 = 0
      · exact hq
      · exact absurd (le_anti (hz z.1 (mg_mrg _ _ _ hq)) (hl z.1 hk)) hzm
  rw [h2, pr_mul, pr_dw n.nd] at h1
  have h3 := mg_app x y
  rw [← e] at h3
  rcases Int.mul_eq_zero.mp h1 with h4 | h4
  · omega
  · exact g0 h4
/-! ### one turn -/
def subW (p : P) (m : W) : P := addTo p (cnt (pb m)) (-(get p m))
theorem subW_eq (p : P) (m : W) : subW p m = puts (fun x => x.1) (fun x => 0 - get p m * x.2) (cnt (pb m)) p := by
  unfold subW addTo
  congr 1
  funext x
  rw [Int.neg_mul, Int.zero_sub]
theorem subW_nrm {p : P} (n : Nrm p) (m : W) : Nrm (subW p m) := addTo_nrm n _
theorem subW_pr {p : P} (n : Nrm p) (m : W) (φ : W → Int) : pr (subW p m) φ = pr p φ - get p m * br (pb m) φ := by
  unfold subW
  rw [addTo_pr n, cnt_pr, Int.neg_mul]
  omega
theorem subW_keys {p : P} {m w : W} (n : Nrm p) (hp : Pl m) (hl : ∀ w ∈ keys p, le m w) (h : w ∈ keys (subW p m)) : lx m w = true ∧ (w ∈ keys p ∨ w ∈ ws (pb m)) := by
  obtain ⟨f1, f2⟩ := pb_first hp
  have hk : w ∈ keys p ∨ w ∈ ws (pb m) := by
    rcases puts_keys _ _ h with h | ⟨x, hx, rfl⟩
    · exact .inl h
    · exact .inr (cnt_keys (List.mem_map.mpr ⟨x, hx, rfl⟩))
  have hle : le m w := hk.elim (hl w) (f1 w)
  refine ⟨?_, hk⟩
  rcases le_cases hle with e | g
  · exfalso
    have hg := (subW_nrm n m).get_ne h
    rw [← pr_dw (subW_nrm n m).nd, subW_pr n, ← e, pr_dw n.nd, f2] at hg
    omega
  · exact g
/-- a plain sum as a functional -/
def ps (F : P) (φ : W → Int) : Int := pr F fun w => br (pb w) φ
structure PInv (N : Nat) (p0 left F : P) (b : Nat) : Prop where
  nl : Nrm left
  nF : Nrm F
  kl : ∀ w ∈ keys left, w.length ≤ N ∧ ABC w
  lb : ∀ w ∈ keys left, b ≤ rk N w
  pF : ∀ w ∈ keys F, Pl w ∧ w.length ≤ N ∧ ABC w ∧ rk N w < b
  eq : ∀ φ, pr left φ + ps F φ = pr p0 φ
  bb : b ≤ sz N
  ll : left.length ≤ p0.length + 128 * b
  tl : tot left ≤ tot p0 * bit (8 * b)
  fl : F.length ≤ b
  ft : ∀ x ∈ F, x.2.natAbs ≤ tot p0 * bit (8 * b)
theorem PInv.start {N : Nat} {p : P} (n : Nrm p) (k : ∀ w ∈ keys p, w.length ≤ N ∧ ABC w) : PInv N p p [] 0 :=
  ⟨n, Nrm.nil, k, fun _ _ => Nat.zero_le _, (fun _ h => by cases h), fun φ => Int.add_zero _, Nat.zero_le _, Nat.le_add_right _ _, Nat.le_trans (Nat.le_of_eq (Nat.mul_one _).symm) (Nat.mul_le_mul_left _ (bit_pos _)), Nat.zero_le _, (fun _ h => by cases h)⟩
theorem bit_step {t a b : Nat} (h : a ≤ t * bit (8 * b)) {c : Nat} (hc : b < c) : a * 256 ≤ t * bit (8 * c) := by
  have h1 : a * 256 ≤ t * bit (8 * b) * bit 8 := by rw [← bit8]; exact Nat.mul_le_mul_right _ h
  rw [Nat.mul_assoc, bit_add] at h1
  exact Nat.le_trans h1 (Nat.mul_le_mul_left _ (bit_le (by omega)))
theorem PInv.step {N : Nat} {p0 left F : P} {b : Nat} {m : W} (I : PInv N p0 left F b) (hN : N ≤ 8) (hm : m ∈ keys left) (hl : ∀ w ∈ keys left, le m w) (hp : Pl m) : m ∉ keys F ∧ PInv N p0 (subW left m) (F ++ [(m, get left m)]) (rk N m + 1) := by
  obtain ⟨km1, km2⟩ := I.kl m hm
  have hb := I.lb m hm
  have hout : m ∉ keys F := fun h => by have := (I.pF m h).2.2.2; omega
  have kx : ∀ w ∈ keys (subW left m), w.length ≤ N ∧ ABC w := fun w hw => by
    rcases (subW_keys I.nl hp hl hw).2 with h | h
    · exact I.kl w h
    · refine ⟨?_, fun c hc => ?_⟩
      · rw [ws_len h, pb_wt hp]; exact km1
      · have := ws_lets h hc
        rw [pb_letters hp] at this
        exact km2 c this
  have hw8 : (pb m).wt ≤ 8 := by rw [pb_wt hp]; omega
  have h128 : 2 ^ ((pb m).wt - 1) ≤ 128 := wt_128 hw8
  have hg : (get left m).natAbs ≤ tot left := tot_get left m
  have htot : tot (subW left m) ≤ tot left * 256 := by
    have h1 := addTo_tot (f := left) (p := cnt (pb m)) I.nl (-(get left m))
    have h2 : (-(get left m)).natAbs * tot (cnt (pb m)) ≤ tot left * 128 := Nat.mul_le_mul (by rw [Int.natAbs_neg]; exact hg) (Nat.le_trans (cnt_tot _) h128)
    have h3 : tot (subW left m) ≤ tot left + (-(get left m)).natAbs * tot (cnt (pb m)) := h1
    omega
  have up : tot p0 * bit (8 * b) ≤ tot p0 * bit (8 * (rk N m + 1)) := Nat.mul_le_mul_left _ (bit_le (by omega))
  refine ⟨hout, ⟨subW_nrm I.nl m, ?_, kx, fun w hw => ?_, fun w hw => ?_, fun φ => ?_, ?_, ?_, ?_, ?_, fun x hx => ?_⟩⟩
  · refine ⟨?_, fun x hx => ?_⟩
    · have e : keys (F ++ [(m, get left m)]) = keys F ++ [m] := by unfold keys; rw [List.map_append]; rfl
      rw [e, List.nodup_append]
      refine ⟨I.nF.nd, by simp, fun a ha c hc => ?_⟩
      rw [List.mem_singleton.mp hc]
      exact fun e => hout (e ▸ ha)
    · rcases List.mem_append.mp hx with hx | hx
      · exact I.nF.nz x hx
      · rw [List.mem_singleton.mp hx]
        exact I.nl.get_ne hm
  · have h1 := (subW_keys I.nl hp hl hw).1
    have h2 := kx w hw
    exact rk_mono N m w km1 h2.1 km2 h2.2 h1
  · have hw' : w ∈ keys F ++ [m] := by
      have e : keys (F ++ [(m, get left m)]) = keys F ++ [m] := by unfold keys; rw [List.map_append]; rfl
      rw [← e]; exact hw
    rcases List.mem_append.mp hw' with h | h
    · obtain ⟨g1, g2, g3, g4⟩ := I.pF w h
      exact ⟨g1, g2, g3, by omega⟩
    · rw [List.mem_singleton.mp h]
      exact ⟨hp, km1, km2, Nat.lt_succ_self _⟩
  · have e := I.eq φ
    have h2 : ps (F ++ [(m, get left m)]) φ = ps F φ + get left m * br (pb m) φ := by
      unfold ps
      rw [pr_app, pr_cons, pr_nil, Int.add_zero]
    rw [subW_pr I.nl, h2]
    omega
  · exact rk_lt N m km1 km2
  · have h1 := puts_len (fun x : W × Int => x.1) (fun x => -(get left m) * x.2) (cnt (pb m)) left
    have h2 : (subW left m).length ≤ left.length + (cnt (pb m)).length := h1
    have h3 := cnt_len (pb m)
    have h4 := I.ll
    omega
  · exact Nat.le_trans htot (bit_step I.tl (by omega))
  · rw [List.length_append]
    have := I.fl
    show F.length + 1 ≤ _
    omega
  · rcases List.mem_append.mp hx with hx | hx
    · exact Nat.le_trans (I.ft x hx) up
    · rw [List.mem_singleton.mp hx]
      exact Nat.le_trans (Nat.le_trans hg I.tl) up
/-- what plain_of finds -/
structure PlainOf (N : Nat) (p F : P) : Prop where
  nrm : Nrm F
  pl : ∀ w ∈ keys F, Pl w ∧ w.length ≤ N ∧ ABC w
  eq : ∀ φ, ps F φ = pr p φ
  len : F.length ≤ sz N
  big : ∀ x ∈ F, x.2.natAbs ≤ tot p * bit (8 * sz N)
theorem PInv.done {N : Nat} {p0 F : P} {b : Nat} (I : PInv N p0 [] F b) : PlainOf N p0 F := ⟨I.nF, fun w h => ⟨(I.pF w h).1, (I.pF w h).2.1, (I.pF w h).2.2.1⟩, fun φ => by
  have := I.eq φ
  rw [pr_nil] at this
  omega, Nat.le_trans I.fl I.bb, fun x hx => Nat.le_trans (I.ft x hx) (Nat.mul_le_mul_left _ (bit_le (Nat.mul_le_mul_left 8 I.bb)))⟩
theorem PInv.prim {N : Nat} {p0 left F : P} {b : Nat} (I : PInv N p0 left F b) (h : Prim p0) : Prim left := by
  have z : ∀ φ, (∀ t, br t φ = 0) → ps F φ = 0 := fun φ h => by
    unfold ps
    have : pr F (fun w => br (pb w) φ) = pr F fun _ => 0 := pr_congr fun x _ => h _
    rw [this, pr_zero]
  refine ⟨?_, fun x y hx hy => ?_⟩
  · have := I.eq (dw [])
    rw [z _ br_dn, h.nil] at this
    omega
  · have := I.eq (mg x y)
    rw [z _ fun t => br_mg t hx hy, h.mg x y hx hy] at this
    omega
theorem PlainOf.prim {N : Nat} {p F : P} (h : PlainOf N p F) : Prim p := by
  have z : ∀ φ, (∀ t, br t φ = 0) → ps F φ = 0 := fun φ h => by
    unfold ps
    have : pr F (fun w => br (pb w) φ) = pr F fun _ => 0 := pr_congr fun x _ => h _
    rw [this, pr_zero]
  exact ⟨by rw [← h.eq]; exact z _ br_dn, fun x y hx hy => by rw [← h.eq]; exact z _ fun t => br_mg t hx hy⟩
/-! ### one plain sum alone -/
theorem least_ex : ∀ {ws : List W}, ws ≠ [] → ∃ m ∈ ws, ∀ w ∈ ws, le m w
  | [], h => absurd rfl h
  | [w], _ => ⟨w, by simp, fun x hx => by rw [List.mem_singleton.mp hx]; exact le_refl _⟩
  | w :: v :: r, _ => by
    obtain ⟨m, hm, hl⟩ := least_ex (ws := v :: r) (by simp)
    rcases le_or w m with h | h
    · refine ⟨w, List.mem_cons_self, fun x hx => ?_⟩
      rcases List.mem_cons.mp hx with rfl | hx
      · exact le_refl _
      · exact le_trans h (hl x hx)
    · refine ⟨m, List.mem_cons_of_mem _ hm, fun x hx => ?_⟩
      rcases List.mem_cons.mp hx with rfl | hx
      · exact le_of_lx h
      · exact hl x hx
theorem ps_nought {E : P} (n : Nrm E) (hp : ∀ w ∈ keys E, Pl w) (h : ∀ φ, ps E φ = 0) : E = [] := by
  apply Classical.byContradiction
  intro he
  have hk : keys E ≠ [] := fun e => he (by unfold keys at e; exact List.map_eq_nil_iff.mp e)
  obtain ⟨m, hm, hl⟩ := least_ex hk
  have h1 := h (dw m)
  have h2 : ps E (dw m) = pr E (dw m) := pr_congr fun x hx => by
    have hx' : x.1 ∈ keys E := List.mem_map.mpr ⟨x, hx, rfl⟩
    by_cases e : x.1 = m
    · rw [e, dw_same, (pb_first (hp m hm)).2]
    · rw [dw_ne e]
      have : br (pb x.1) (dw m) = br (pb x.1) fun _ => 0 := br_congr _ fun w hw => dw_ne fun e2 => by
        have := (pb_first (hp x.1 hx')).1 w hw
        rw [e2] at this
        exact e (le_anti this (hl x.1 hx'))
      rw [this]
      exact (br_lin _).zero
  rw [h2, pr_dw n.nd] at h1
  exact n.get_ne hm h1
theorem ps_one {F G : P} (nF : Nrm F) (nG : Nrm G) (pF : ∀ w ∈ keys F, Pl w) (pG : ∀ w ∈ keys G, Pl w) (h : ∀ φ, ps F φ = ps G φ) : ∀ w, get F w = get G w := by
  have nE : Nrm (addTo F G (-1)) := addTo_nrm nF _
  have e : addTo F G (-1) = [] := ps_nought nE (fun w hw => by
    rcases puts_keys _ _ hw with hw | ⟨x, hx, rfl⟩
    · exact pF w hw
    · exact pG x.1 (List.mem_map.mpr ⟨x, hx, rfl⟩)) fun φ => by
      have : ps (addTo F G (-1)) φ = ps F φ + (-1) * ps G φ := addTo_pr nF _ _
      rw [this, h]; omega
  intro w
  have h1 := pr_dw nE.nd w
  rw [addTo_pr nF, pr_dw nF.nd, pr_dw nG.nd, e, get_nil] at h1
  omega
end TB
/-! ## TbSet -/
/-! len(set(texts)), the texts different from one another. -/
namespace TB
open PySem PySem.Spec PyProof.Rows L2 Evl
section
variable {prog : Program} {w : World} {A : Around} {R : Result → Shared → Prop} {I : Addr} {fp wr : List Addr} {G : Array GenState → Array GenState → Prop} {n : Nat} {P : Nat → Value → Prop} {St : Nat → Shared → Prop}
/-- the words put in so far, at S -/
def SetSoFar (prog : Program) (w : World) (h : Heap) (S : Addr) (ws : List W) (i : Nat) : Prop := h.SetOf (PySem.strKind prog w) S (fun k => decide (∃ u ∈ ws.take i, k = sOf u)) i
theorem SetSoFar.keep {h h' : Heap} {S : Addr} {ws : List W} {i : Nat} (x : SetSoFar prog w h S ws i) (k : ∀ o, h.get? S = some o → h'.get? S = some o) : SetSoFar prog w h' S ws i := by
  obtain ⟨o, es, ep, t, ho, rest⟩ := x
  exact ⟨o, es, ep, t, k o ho, rest⟩
theorem set_fill (Wk : WalksS prog w A.in1 I fp wr G n P St) (S : Addr) (hSf : S ∉ fp) (ws : List W) (hsz : ws.length = n) (hnd : ws.Nodup) (hb : n + 1 < scanBound) (hval : ∀ i v, P i v → ∃ t, v = .str (sOf (ws.getD i [])) t) :
    ∀ (k i : Nat) (s : Shared), i + k = n → St i s → SetSoFar prog w s.heap S ws i → (∀ s', Moved (S :: wr) G s s' → SetSoFar prog w s'.heap S ws n → R (.ok (.ret .none)) s') → codeAny (model prog w) A (.builtin "set.update.loop" ⟨[.ref S, .ref I], []⟩) R s := by
  have hSw : S ∉ wr := fun h => hSf (Wk.sub _ h)
  have up : ∀ b ∈ wr, b ∈ S :: wr := fun b hb => List.mem_cons_of_mem _ hb
  intro k
  induction k with
  | zero =>
    intro i s hk hst hS hR
    have hin : i = n := hk
    subst hin
    refine codeAny_builtin PyProof.Rows.F.entry_set_update_loop ?_
    rw [Around.under_plainId PyProof.Rows.F.plain_set_update_loop _]
    refine wpAny_bind (m := pyNext (.ref I)) (Wk.done s _ _ hst fun s' hm => ?_)
    exact wpAny_pure (hR s' (hm.mono up) (hS.keep fun o e => hm.heap S _ hSw e))
  | succ k ih =>
    intro i s hk hst hS hR
    have hlt : i < n := by omega
    have hw : i < ws.length := by omega
    have egd : ws.getD i [] = ws[i] := by rw [List.getD_eq_getElem?_getD, List.getElem?_eq_getElem hw] <;> rfl
    refine codeAny_builtin PyProof.Rows.F.entry_set_update_loop ?_
    rw [Around.under_plainId PyProof.Rows.F.plain_set_update_loop _]
    refine wpAny_bind (m := pyNext (.ref I)) (Wk.item i s _ _ hlt hst fun v s' hP hst' hm => ?_)
    obtain ⟨t, rfl⟩ := hval i v hP
    have hS' : SetSoFar prog w s'.heap S ws i := hS.keep fun o e => hm.heap S _ hSw e
    refine wpAny_bind (m := holding [Value.str (sOf (ws.getD i [])) t] (setAdd S (.str (sOf (ws.getD i [])) t))) (wpAny_holding ?_)
    unfold setAdd
    refine wpAny_holding (wpAny_bind ((PySem.strKind prog w).pyHash (k := sOf (ws.getD i [])) (strKind_is _ _ _ _) ?_))
    refine wpAny_setAddHashed_of (knd := PySem.strKind prog w) (s := { s' with toks := s'.toks + 1 }) (strKind_is _ _ _ _) rfl hS' (by omega) fun h' hsb hS2 => ?_
    have new : decide (∃ u ∈ ws.take i, sOf (ws.getD i []) = sOf u) = false := decide_eq_false fun ⟨u, hu, e⟩ => by
      have e2 := sOf_inj e
      rw [egd] at e2
      obtain ⟨j, hj, ej⟩ := List.mem_iff_getElem.mp hu
      rw [List.length_take] at hj
      rw [List.getElem_take] at ej
      have := (List.getElem_inj hnd (h₀ := hw) (h₁ := by omega)).mp (e2.trans ej.symm)
      omega
    have hS3 : SetSoFar prog w h' S ws (i + 1) := by
      refine PyProof.Rows.SetOf_congr hS2 (fun key => ?_) (by rw [new]; rfl)
      rw [List.take_add_one, List.getElem?_eq_getElem hw, egd]
      refine Bool.eq_iff_iff.mpr ⟨fun h => decide_eq_true ?_, fun h => ?_⟩
      · rcases Bool.or_eq_true_iff.mp h with h | h
        · obtain ⟨u, h1, h2⟩ := of_decide_eq_true h
          exact ⟨u, List.mem_append_left _ h1, h2⟩
        · exact ⟨_, List.mem_append_right _ (by simp), of_decide_eq_true h⟩
      · obtain ⟨u, h1, h2⟩ := of_decide_eq_true h
        rcases List.mem_append.mp h1 with h1 | h1
        · exact Bool.or_eq_true_iff.mpr (.inl (decide_eq_true ⟨u, h1, h2⟩))
        · have e3 : u = ws[i] := by simpa using h1
          exact Bool.or_eq_true_iff.mpr (.inr (decide_eq_true (by rw [h2, e3])))
    refine wpAny_pure ⟨plainId_quiet PyProof.Rows.F.plain_set_update_loop _, ih (i + 1) _ (by omega) (Wk.frame _ s' _ _ hst' (Nat.le_succ _) fun b hb o e => ?_) hS3 fun s'' hm2 hS4 => ?_⟩
    · rw [hsb.2 b (fun h : b = S => hSf (h ▸ hb))]; exact e
    · refine hR s'' (Moved.trans Wk.gtrans ((hm.mono up).then_heap (Nat.le_succ _) fun b o hb e => ?_) hm2) hS4
      rw [hsb.2 b (fun h : b = S => hb (h ▸ List.mem_cons_self))]; exact e
end
theorem each_at : ∀ {vs : List Value} {ws : List W}, PySem.W.EachIs IsTx vs ws → ∀ (i : Nat) (v : Value), vs[i]? = some v → ∃ t, v = .str (sOf (ws.getD i [])) t
  | _, _, .nil, i, v, h => by simp at h
  | _, _, .cons r t, 0, v, h => by
    have e := Option.some.inj (by simpa using h)
    subst e
    exact r
  | _, _, .cons r t, i + 1, v, h => each_at t i v (by simpa using h)
abbrev newSet (led : Bool) : Obj := { cls := .type "set", dict := none, data := .set #[] 0 (.fresh 0 0 led) }
section
variable {prog : Program} {w : World} {A : Around} {E : Value → Shared → Prop} {s : Shared}
/-- set(texts), as the walk of the call shows it -/
theorem set_made {l : Addr} {items : Array Value} {ws : List W} {Q : Value → Shared → Prop} (hh : A.handled = none) (hl : s.heap.IsList l items) (hi : PySem.W.EachIs IsTx items.toList ws) (hnd : ws.Nodup) (hb : ws.length + 1 < scanBound)
    (h : ∀ (h' : Heap) (tk : Nat), SetSoFar prog w h' s.heap.objs.size ws ws.length → (∀ b o, s.heap.get? b = some o → h'.get? b = some o) → Q (.ref s.heap.objs.size) { s with heap := h', toks := tk }) :
    wpAny (model prog w) A (call (.type "set") [.ref l]) Q E s := by
  have hsz : ws.length = items.size := by rw [← hi.length, Array.length_toList]
  obtain ⟨c, tl, hmro⟩ := PySem.F.called_set.mro
  have hmade := PySem.F.called_set.made
  have hsub := PySem.F.called_set.sub
  refine wpAny_call (codeAny_of_tree ?_)
  show wpAny _ _ (callAny (.type "set") _) _ _ _
  refine wpAny_pure ⟨Code.quiet_builtin _ (by decide +kernel), codeAny_builtin PySem.F.entry_type_call ?_⟩
  rw [Around.under_plain (weight_type_call_type "set" [.ref l] []) rfl]
  have h1 := PySem.F.called_set.notType
  have h2 := PySem.F.called_set.canCreate
  have hct := PySem.F.typeCall_set_1 (.ref l)
  repeat (any_goals (first | assumption | wp_step))
  refine codeAny_mono (code_set_new_1 (.ref l) (E := E) (Q₁ := fun obj s1 => ∃ led : Bool, obj = .ref s.heap.objs.size ∧ s1 = { s with heap := s.heap.push { cls := .type "set", dict := none, data := .set #[] 0 (.fresh 0 0 led) } }) fun led => ⟨led, rfl, rfl⟩) fun r s1 hr => ?_
  cases r with
  | error e => exact hr
  | ok fl =>
    cases fl with
    | ret obj =>
      obtain ⟨led, rfl, rfl⟩ := hr
      have hS : (s.heap.push (newSet led)).get? s.heap.objs.size = some (newSet led) := Heap.get?_push_size _ rfl
      have hT : Shared.TypeIs { s with heap := s.heap.push (newSet led) } (.ref s.heap.objs.size) "set" := ⟨_, hS, rfl⟩
      have hli := PySem.F.called_set.init.lookup
      have hbi := PySem.F.called_set.init.bind (.ref s.heap.objs.size)
      repeat (any_goals (first | assumption | wp_step))
      refine codeAny_mono (codeAny_call_builtin (R := wants (fun r s2 => r = .none ∧ ∃ h' tk, s2 = { s with heap := h', toks := tk } ∧ SetSoFar prog w h' s.heap.objs.size ws ws.length ∧ (∀ b o, s.heap.get? b = some o → h'.get? b = some o)) E)
        PySem.F.called_set.init.plain PySem.F.entry_set_init (check_set_init_1 hT ?_)) fun r2 s2 hr2 => ?_
      · have hlt : l < s.heap.objs.size := by
          obtain ⟨ol, hol, _⟩ := hl
          exact Heap.lt_size hol
        have hl1 : (s.heap.push (newSet led)).IsList l items := hl.push _
        obtain ⟨ol, hol, hcl, nl, hdl⟩ := id hl1
        obtain ⟨ocls, odict, odata, oslots⟩ := ol
        simp only at hcl hdl
        subst hcl; subst hdl
        have hsls := PySem.F.sub_list_set
        have hslf := PySem.F.sub_list_frozenset
        have hne : (Value.type "list" == Value.type "dict") = false := by decide
        unfold Builtin.«set.__init__» noKeywords Builtin.Frozenset.updateFrom
        generalize hPI : pyIter = PI
        wp_walk
        subst hPI
        refine wpAny_pyIter_list hl1 (wpAny_bind (wpAny_runValue ?_))
        have hz : (s.heap.push (newSet led)).objs.size = s.heap.objs.size + 1 := Heap.size_push ..
        have hh3 : A.in1.in1.in1.handled = none := by simp [hh]
        have nI : l ≠ (s.heap.push (newSet led)).objs.size := by rw [hz]; exact Nat.ne_of_lt (Nat.lt_succ_of_lt hlt)
        refine set_fill ((Walks.list hh3 _ l nI items).toS) s.heap.objs.size (by rw [hz]; simp only [List.mem_cons, List.not_mem_nil, or_false, not_or]; exact ⟨Nat.ne_of_lt (Nat.lt_succ_self _), Nat.ne_of_gt hlt⟩) ws hsz hnd (by omega) (fun i v hv => ?_) (items.size) 0 _ (Nat.zero_add _) ⟨⟨_, Heap.get?_push_size _ rfl, rfl, rfl⟩, (hl1.push _)⟩ ?_ ?_
        · exact each_at hi i v (by rw [Array.getElem?_toList]; exact hv)
        · exact PyProof.Rows.SetOf_congr ((PyProof.Rows.setObjOf_fresh (knd := PySem.strKind prog w) led).setOf (Heap.get?_push_of_some _ hS) (by unfold scanBound; omega)) (fun k => by simp) rfl
        · intro s' hm hS'
          obtain ⟨h', g', d', tk', os'⟩ := s'
          have eg : g' = s.gens := hm.gens
          have ed : d' = s.drawn := hm.drawn
          have eo : os' = s.os := hm.os
          subst eg; subst ed; subst eo
          refine wpAny_pure (wpAny_pure ⟨rfl, h', tk', rfl, by rw [hsz]; exact hS', fun b o e => ?_⟩)
          have hb0 : b < s.heap.objs.size := Heap.lt_size e
          exact hm.heap b o (by rw [hz]; simp only [List.mem_cons, List.not_mem_nil, or_false, not_or]; exact ⟨Nat.ne_of_lt hb0, Nat.ne_of_lt (Nat.lt_succ_of_lt hb0)⟩) (Heap.get?_push_of_some _ (Heap.get?_push_of_some _ e))
      · cases r2 with
        | error e => exact hr2
        | ok fl2 =>
          cases fl2 with
          | ret r =>
            obtain ⟨rfl, h', tk, rfl, hS', hk'⟩ := hr2
            repeat (any_goals (first | assumption | wp_step))
            exact h _ _ hS' hk'
          | _ => exact hr2.elim
    | _ => exact hr.elim
end
section
variable {X : Cx}
/-- len(set(texts)) -/
def tLenSetW (K : PySem.W.Frag) (ta : TE) : TE := fun σ H Q => ta σ H fun x H1 => ∃ (l : Addr) (ws : List W), x = .ref l ∧ SqL K H1 l (ws.map tx) ∧ ws.Nodup ∧ ws.length ≤ 4000 ∧ Q (.int (ws.length : Nat)) H1
theorem pe_lenSetW {a : Expr} {ta : TE} {p p2 q pos : Pos} (hg : Gl X "len") (hm : X.mg "len" = none) (hg2 : Gl X "set") (hm2 : X.mg "set" = none) (ha : PE X a ta) (hc : X.calm = true := by rfl)
    (na : starEach [a] X.env = (false, eval a X.env) :: starEach [] X.env := by rfl) : PE X (.Call (.Name "len" p) [.Call (.Name "set" p2) [a] [] q] [] pos) (tLenSetW X.K ta) := by
  refine ⟨fun pins s σ H Q I h => ?_⟩
  refine Call_ (ld_blt I hg hm boot_len ?_)
  refine PyProof.Rows.callWith_builtin1 (PyProof.Rows.args_cons ?_ rfl) rfl rfl
  refine Call_ (ld_blt I hg2 hm2 boot_set ?_)
  refine PyProof.Rows.callWith_type1 (PyProof.Rows.args_cons (thn (ha.run pins s σ H _ I h) fun v s1 ⟨x, H1, I1, r1, q1⟩ => PyProof.Rows.args_nil ?_) na) na rfl
  obtain ⟨l, ws, rfl, hq, hnd, hl, q1⟩ := q1
  cases r1
  obtain ⟨its, r, pl, hz⟩ := I1.list hq
  refine set_made (I1.ok.hd hc) pl.isList (by simpa using vals_each r) hnd (by unfold scanBound; omega) fun h' tk hS hk => ?_
  refine PyProof.Rows.args_nil ?_
  obtain ⟨o, es, ep, t, ho, hex, hd, _, _, _, hf, hn⟩ := hS
  have I2 : Inv X pins σ H1 { s1 with heap := h', toks := tk } := I1.kept hk
  exact call_len_set ho hex hd hf (by rw [hn] <;> omega) ⟨.int ws.length, H1, I2.tok _, ⟨_, by rw [hn]⟩, q1⟩
theorem ev_lenSetW {K : PySem.W.Frag} {σ : L2.St} {H : Hp} {te : TE} {l : Addr} {ws : List W} (h : Ev te σ H (.ref l)) (hs : SqL K H l (ws.map tx)) (hn : ws.Nodup) (hl : ws.length ≤ 4000) : Ev (tLenSetW K te) σ H (.int (ws.length : Nat)) := fun H1 e Q q =>
  h H1 e _ fun H2 e2 => ⟨l, ws, rfl, ex_l (e.trans e2) hs, hn, hl, q H2 e2⟩
end
end TB
/-! ## TbDeq -/
/-! Counts compared; plain sums as lists of tuples, walked. -/
namespace TB
open PySem PySem.Spec PyProof.Rows L2 Evl
theorem hits_kv {A : Around} {s : Shared} {q : TB.P} {vb : List (Key × Value)} (rb : KV (kv q) vb) : ∀ {p : TB.P} {va : List (Key × Value)}, KV (kv p) va → PySem.W.KeqHits A s vb va (p.all fun x => decide (look q x.1 = some x.2))
  | [], va, r => by cases r; exact .nil
  | (w, c) :: p, va, r => by
    unfold KV at r
    cases r with
    | @cons _ y _ ys h t =>
      obtain ⟨k, v⟩ := y
      obtain ⟨h1, h2⟩ := h
      have h1' : (Sum.inr (sOf w) : Key) = k := h1
      subst h1'
      obtain ⟨t0, rfl⟩ := h2
      have rr := rb.val (Sum.inr (sOf w))
      rw [kv_val] at rr
      have ih := hits_kv (A := A) (s := s) rb (p := p) t
      rw [List.all_cons]
      cases e : look q w with
      | none =>
        rw [e] at rr
        have hn : valueAt vb (Sum.inr (sOf w)) = none := by
          cases hv : valueAt vb (Sum.inr (sOf w)) with
          | none => rfl
          | some y => rw [hv] at rr; exact (show False from rr).elim
        have : decide ((none : Option Int) = some c) = false := rfl
        rw [this, Bool.false_and]
        exact .miss hn
      | some d =>
        rw [e] at rr
        obtain ⟨y, hy, ry⟩ := rr.some_of
        obtain ⟨t1, rfl⟩ := ry
        have e2 : decide (some d = some c) = (c == d) := by
          by_cases hcd : c = d
          · subst hcd; simp
          · have : ¬ d = c := fun z => hcd z.symm
            simp [hcd, this]
        rw [e2]
        exact .hit hy (PySem.SeqAt.EqAt.int_int _ _ _ _) ih
section
variable {X : Cx}
def rEqP : R2 := fun x y H Q => ∃ a b p q, x = .ref a ∧ y = .ref b ∧ H a = some (.dK (kv p)) ∧ H b = some (.dK (kv q)) ∧ Q (.bl (peq p q)) H
def rNeP : R2 := fun x y H Q => ∃ a b p q, x = .ref a ∧ y = .ref b ∧ H a = some (.dK (kv p)) ∧ H b = some (.dK (kv q)) ∧ Q (.bl (!peq p q)) H
theorem op_eqP (hu : X.A.units < cLine) : OpR X (compareOp .Eq) rEqP := by
  intro pins s σ H x y v u Q I rx ry h
  obtain ⟨a, b, p, q, rfl, rfl, ea, eb, k⟩ := h
  obtain rfl : v = Value.ref a := rx
  obtain rfl : u = Value.ref b := ry
  obtain ⟨_, ya, va, ra, da⟩ := (show ObjOk X.prog X.w H s.heap a (.dK (kv p)) from I.hok a _ ea)
  obtain ⟨_, yb, vb, rb, db⟩ := (show ObjOk X.prog X.w H s.heap b (.dK (kv q)) from I.hok b _ eb)
  have la : va.length = p.length := by rw [← ra.length, kv_len]
  have lb : vb.length = q.length := by rw [← rb.length, kv_len]
  exact PySem.W.keq_eq (knd := mixKind X.prog X.w) ya yb da db hu (fun _ => hits_kv rb ra) (fin_bl I k (by rw [la, lb]; rfl))
theorem op_neP (hu : X.A.units < cLine) : OpR X (compareOp .NotEq) rNeP := by
  intro pins s σ H x y v u Q I rx ry h
  obtain ⟨a, b, p, q, rfl, rfl, ea, eb, k⟩ := h
  obtain rfl : v = Value.ref a := rx
  obtain rfl : u = Value.ref b := ry
  obtain ⟨_, ya, va, ra, da⟩ := (show ObjOk X.prog X.w H s.heap a (.dK (kv p)) from I.hok a _ ea)
  obtain ⟨_, yb, vb, rb, db⟩ := (show ObjOk X.prog X.w H s.heap b (.dK (kv q)) from I.hok b _ eb)
  have la : va.length = p.length := by rw [← ra.length, kv_len]
  have lb : vb.length = q.length := by rw [← rb.length, kv_len]
  exact PySem.W.keq_ne (knd := mixKind X.prog X.w) ya yb da db hu (fun _ => hits_kv rb ra) (fin_bl I k (by rw [la, lb]; rfl))
end
section
variable {K : PySem.W.Frag} {σ : L2.St} {H H' : Hp} {ta tb te ti tl : TE} {tu tz : TS} {D : Ends}
theorem rv_eqP {a b : Addr} {p q : TB.P} (ha : H a = some (.dK (kv p))) (hb : H b = some (.dK (kv q))) : RV rEqP (.ref a) (.ref b) H (.bl (peq p q)) := fun H1 e Q k => ⟨a, b, p, q, rfl, rfl, e _ _ ha, e _ _ hb, k H1 (Ex.refl _)⟩
theorem rv_neP {a b : Addr} {p q : TB.P} (ha : H a = some (.dK (kv p))) (hb : H b = some (.dK (kv q))) : RV rNeP (.ref a) (.ref b) H (.bl (!peq p q)) := fun H1 e Q k => ⟨a, b, p, q, rfl, rfl, e _ _ ha, e _ _ hb, k H1 (Ex.refl _)⟩
/-- an operation on what relations tell -/
theorem ev_opR {r : R2} {z : V} {R S : V → Hp → Prop} (h1 : Er ta σ H R) (h2 : ∀ H1, Ex H H1 → Er tb σ H1 S) (hr : ∀ x y H1 H2, Ex H H1 → R x H1 → Ex H1 H2 → S y H2 → RV r x y H2 z) : Ev (tOp r ta tb) σ H z := fun H0 e Q q =>
  h1 H0 e _ fun x H1 e1 hx => h2 H1 (e.trans e1) H1 (Ex.refl _) _ fun y H2 e2 hy => hr x y H1 H2 (e.trans e1) hx e2 hy H2 (Ex.refl _) Q fun H3 e3 => q H3 ((e1.trans e2).trans e3)
/-- a list of tuples of two values -/
def Pairs (K : PySem.W.Frag) (H : Hp) (xs : List V) (f : Nat → V × V) : Prop := ∀ i x, xs[i]? = some x → ∃ q, x = .ref q ∧ SqT K H q [(f i).1, (f i).2]
theorem Pairs.mono {xs : List V} {f : Nat → V × V} (e : Ex H H') (h : Pairs K H xs f) : Pairs K H' xs f := fun i x hx => by
  obtain ⟨q, h1, h2⟩ := h i x hx
  exact ⟨q, h1, ex_t e h2⟩
/-- [.. for a, b in pairs] -/
theorem er_lcT {a : Addr} {xs : List V} {f : Nat → V × V} {R : Nat → V → Hp → Prop} {j k : Nat} {vs : List Nat} (hR : ∀ i, LSt (R i)) (h : Ev tl σ H (.ref a)) (hs : SqL K H a xs) (hp : Pairs K H xs f) (hz : xs.length ≤ 2000000) (hw : ∀ x y, wipe (((wipe σ vs).set j (some x)).set k (some y)) vs = wipe σ vs)
    (he : ∀ (i : Nat) H1, i < xs.length → Ex H H1 → Er te (((wipe σ vs).set j (some (f i).1)).set k (some (f i).2)) H1 (R i)) : Er (tLc (iList K tl) (gTup K 2 (gCons (gName j) (gCons (gName k) gNil))) tYes te vs) σ H (lcR R xs.length H) := fun H0 e Q q => h H0 e _ fun H1 e1 => by
  refine ⟨a, rfl, ⟨xs, ex_l (e.trans e1) hs⟩, fun Dl hD =>
  lc_list (xs := xs) (fun i H' => H1 Dl = none ∧ Ex H1 H' ∧ ∃ ys, H' Dl = some (.lst ys) ∧ ys.length = i ∧ ∀ j y, ys[j]? = some y → R j y H') ⟨hD, Ex.new hD, [], upd_same, rfl, fun j y h => by simp at h⟩
    (fun i H' _ p => ex_l ((e.trans e1).trans p.2.1) hs) (fun i x H' hi p => ?_)
    (fun H' p => by
      obtain ⟨p1, p2, ys, p3, p4, p5⟩ := p
      exact q _ H' (e1.trans p2) ⟨Dl, ys, rfl, fresh_back (e.trans e1) p1, p3, p4, p5⟩)⟩
  obtain ⟨b, rfl, hq⟩ := hp i x hi
  have ee := (e.trans e1).trans p.2.1
  have hlt := (List.getElem?_eq_some_iff.mp hi).1
  exact ⟨b, [(f i).1, (f i).2], rfl, ex_t ee hq, rfl, (f i).1, [(f i).2], rfl, (f i).2, [], rfl, rfl, hw _ _, lc_turn hR p (by omega) (he i H' hlt ee)⟩
/-! a plain sum, told as a list -/
def PlAt (K : PySem.W.Frag) (F : TB.P) (i : Nat) (v : V) (H : Hp) : Prop := ∃ q, v = .ref q ∧ SqT K H q [.int (get F ((ord (keys F)).getD i [])), tx ((ord (keys F)).getD i [])]
theorem PlAt.st (K : PySem.W.Frag) (F : TB.P) (i : Nat) : LSt (PlAt K F i) := LSt.two
def plR (K : PySem.W.Frag) (F : TB.P) (H : Hp) (v : V) (H2 : Hp) : Prop := lcR (PlAt K F) (keys F).length H v H2
theorem pl_pairs {F : TB.P} {ys : List V} (h : ∀ i y, ys[i]? = some y → PlAt K F i y H) : Pairs K H ys fun i => (.int (get F ((ord (keys F)).getD i [])), tx ((ord (keys F)).getD i [])) := h
end
/-! ### a plain sum as a sum of brackets -/
def sumOf (F : P) : List (Int × Br) := (ord (keys F)).map fun w => (get F w, pb w)
theorem sb_perm {f : W → Int × Br} {φ : W → Int} {xs ys : List W} (h : xs.Perm ys) : sb (xs.map f) φ = sb (ys.map f) φ := by
  induction h with
  | nil => rfl
  | cons x _ ih =>
    show (f x).1 * br (f x).2 φ + sb _ φ = (f x).1 * br (f x).2 φ + sb _ φ
    rw [ih]
  | swap x y l =>
    show (f y).1 * br (f y).2 φ + ((f x).1 * br (f x).2 φ + sb _ φ) = (f x).1 * br (f x).2 φ + ((f y).1 * br (f y).2 φ + sb _ φ)
    omega
  | trans _ _ h1 h2 => exact h1.trans h2
theorem sb_keys : ∀ {F G : P} {φ : W → Int}, (∀ w c, (w, c) ∈ F → get G w = c) → sb ((keys F).map fun w => (get G w, pb w)) φ = ps F φ
  | [], _, _, _ => rfl
  | (w, c) :: F, G, φ, h => by
    show get G w * br (pb w) φ + sb ((keys F).map fun w => (get G w, pb w)) φ = c * br (pb w) φ + ps F φ
    rw [h w c List.mem_cons_self, sb_keys fun w' c' hm => h w' c' (List.mem_cons_of_mem _ hm)]
theorem sb_sumOf {F : P} (n : Nrm F) (φ : W → Int) : sb (sumOf F) φ = ps F φ := by
  unfold sumOf
  rw [sb_perm (ord_perm _)]
  exact sb_keys fun w c h => get_mem n.nd h
theorem sumOf_len (F : P) : (sumOf F).length = (keys F).length := by
  unfold sumOf
  rw [List.length_map, ord_len]
theorem sumOf_at (F : P) (i : Nat) (h : i < (keys F).length) : (sumOf F)[i]? = some (get F ((ord (keys F)).getD i []), pb ((ord (keys F)).getD i [])) := by
  have h' : i < (ord (keys F)).length := by rw [ord_len]; exact h
  unfold sumOf
  rw [List.getElem?_map, List.getElem?_eq_getElem h', List.getD_eq_getElem?_getD, List.getElem?_eq_getElem h']
  rfl
theorem getD_mem {F : P} {i : Nat} (h : i < (keys F).length) : (ord (keys F)).getD i [] ∈ keys F := by
  have h' : i < (ord (keys F)).length := by rw [ord_len]; exact h
  rw [List.getD_eq_getElem?_getD, List.getElem?_eq_getElem h']
  exact (ord_perm _).mem_iff.mp (List.getElem_mem h')
/-- a plain sum that is not too great -/
structure FOk (F : P) : Prop where
  nrm : Nrm F
  pl : ∀ w ∈ keys F, Pl w ∧ w.length ≤ 8 ∧ ABC w
  len : F.length ≤ 4000
  big : ∀ x ∈ F, x.2.natAbs < bit 190000
theorem FOk.sok {F : P} (h : FOk F) : SOk (sumOf F) 8 := by
  have m : ∀ x ∈ sumOf F, ∃ w ∈ keys F, x = (get F w, pb w) := fun x hx => by
    obtain ⟨w, hw, rfl⟩ := List.mem_map.mp hx
    exact ⟨w, (ord_perm _).mem_iff.mp hw, rfl⟩
  refine ⟨?_, fun x hx => ?_, fun x hx => ?_⟩
  · rw [sumOf_len]
    have : (keys F).length = F.length := List.length_map _
    have := h.len
    omega
  · obtain ⟨w, hw, rfl⟩ := m x hx
    obtain ⟨p1, p2, p3⟩ := h.pl w hw
    refine ⟨by show (pb w).wt ≤ 8; rw [pb_wt p1]; exact p2, ?_⟩
    obtain ⟨c, hc⟩ := mem_keys.mp hw
    show (get F w).natAbs < _
    rw [get_mem h.nrm.nd hc]
    exact h.big _ hc
  · obtain ⟨w, hw, rfl⟩ := m x hx
    obtain ⟨p1, p2, p3⟩ := h.pl w hw
    show ABC (pb w).letters
    rw [pb_letters p1]
    exact p3
/-! plain sums as data -/
def pdPl (F : P) : PyData := .list ((ord (keys F)).map fun w => .tuple [.int (get F w), .str (sOf w)])
theorem dpAll_at {K : PySem.W.Frag} {H : Hp} : ∀ {ys : List V} {ds : List PyData}, ys.length = ds.length → (∀ (i : Nat) (y : V), ys[i]? = some y → ∃ d, ds[i]? = some d ∧ Dp K H y d) → DpAll K H ys ds
  | [], [], _, _ => .nil
  | [], _ :: _, h, _ => by simp at h
  | _ :: _, [], h, _ => by simp at h
  | y :: ys, d :: ds, h, k => by
    refine .cons ?_ (dpAll_at (by simpa using h) fun i z hz => by
      have := k (i + 1) z (by simpa using hz)
      simpa using this)
    obtain ⟨d', e, h1⟩ := k 0 y rfl
    have e' : d = d' := by simpa using e
    rw [e']; exact h1
theorem dp_pl {K : PySem.W.Frag} {H : Hp} {a : Addr} {ys : List V} {F : P} (hs : SqL K H a ys) (hl : ys.length = (keys F).length) (hy : ∀ i y, ys[i]? = some y → PlAt K F i y H) : Dp K H (.ref a) (pdPl F) := .lst hs (dpAll_at (by rw [List.length_map, ord_len, hl]) fun i y h => by
  obtain ⟨q, rfl, hq⟩ := hy i y h
  have hi := (List.getElem?_eq_some_iff.mp h).1
  have h' : i < (ord (keys F)).length := by rw [ord_len]; omega
  refine ⟨.tuple [.int (get F ((ord (keys F)).getD i [])), .str (sOf ((ord (keys F)).getD i []))], ?_, .tup hq (.cons (.int _) (.cons (.str _) .nil))⟩
  rw [List.getElem?_map, List.getElem?_eq_getElem h', List.getD_eq_getElem?_getD, List.getElem?_eq_getElem h']
  rfl)
theorem lay_pl {F : P} (h : FOk F) : (pdPl F).canLay0 = true := lay_lst fun d hd => by
  obtain ⟨w, hw, rfl⟩ := List.mem_map.mp hd
  exact lay_two rfl (lay_tx (h.pl w ((ord_perm _).mem_iff.mp hw)).2.2.lt)
theorem sh_pl {F : P} (h : FOk F) : SeqAt.shaped (pdPl F) = true := sh_of (lay_pl h) (by
  show (PyData.list _).depth ≤ 64
  rw [PyData.depth]
  have : PyData.depthAll ((ord (keys F)).map fun w => PyData.tuple [.int (get F w), .str (sOf w)]) ≤ 1 := depth_all fun d hd => by
    obtain ⟨w, hw, rfl⟩ := List.mem_map.mp hd
    rw [depth_two, depth_tx]
    have : (PyData.int (get F w)).depth = 0 := by rw [PyData.depth]
    omega
  omega)
theorem eqv_pl {F : P} (h : FOk F) : PyData.eqv (pdPl F) (pdPl F) = true := PySem.SeqAt.eqv_refl _ (lay_pl h)
theorem mem_get {p : P} (n : Nrm p) (w : W) : w ∈ keys p ↔ get p w ≠ 0 := ⟨fun h => n.get_ne h, fun h => by
  apply Classical.byContradiction
  intro hk
  exact h (get_not hk)⟩
theorem ord_same {p q : P} (n1 : Nrm p) (n2 : Nrm q) (h : ∀ w, get p w = get q w) : ord (keys p) = ord (keys q) := sorted_uniq (ord_sorted _) (ord_sorted _) (((ord_perm _).trans ((List.perm_ext_iff_of_nodup n1.nd n2.nd).mpr fun w => by rw [mem_get n1, mem_get n2, h])).trans (ord_perm _).symm)
theorem pdPl_same {F G : P} (n1 : Nrm F) (n2 : Nrm G) (h : ∀ w, get F w = get G w) : pdPl F = pdPl G := by
  unfold pdPl
  rw [ord_same n1 n2 h]
  congr 1
  refine List.map_congr_left fun w _ => ?_
  rw [h]
section
variable {K : PySem.W.Frag} {σ : L2.St} {H H' : Hp} {ta tb te ti tl : TE} {tu tz : TS} {D : Ends} {g : TG}
/-- for x in what makes a list -/
theorem q_forE {G : List V → Hp → Prop} (h : Er tl σ H fun v H1 => ∃ a xs, v = .ref a ∧ SqL K H1 a xs ∧ G xs H1)
    (k : ∀ a xs H1, Ex H H1 → SqL K H1 a xs → G xs H1 → ∃ Pv : Nat → L2.St → Hp → Prop, Pv 0 σ H1 ∧ (∀ i σ' H', i ≤ xs.length → Pv i σ' H' → SqL K H' a xs) ∧ (∀ i x σ' H', xs[i]? = some x → Pv i σ' H' → g x σ' H' fun σ2 H2 => tu { D with nx := Pv (i + 1), ct := Pv (i + 1), bk := tz D } σ2 H2) ∧ (∀ σ' H', Pv xs.length σ' H' → tz D σ' H')) :
    tSeq (tFor (iList K tl) g tu) tz D σ H := h H (Ex.refl H) _ fun v H1 e1 hv => by
  obtain ⟨a, xs, rfl, hs, hg⟩ := hv
  obtain ⟨Pv, h0, hl, hb, hd⟩ := k a xs H1 e1 hs hg
  exact ⟨a, rfl, ⟨xs, hs⟩, for_list (D := { D with nx := tz D }) Pv h0 hl hb hd⟩
/-- a list of tuples that may be changed -/
def LSum (K : PySem.W.Frag) (H : Hp) (a : Addr) (s : List (Int × Br)) : Prop := ∃ xs, H a = some (.lst xs) ∧ Tups K H xs s
theorem LSum.mono {a : Addr} {s : List (Int × Br)} (e : Ex H H') (h : LSum K H a s) : LSum K H' a s := by
  obtain ⟨xs, h1, h2⟩ := h
  exact ⟨xs, e _ _ h1, h2.mono e⟩
theorem LSum.at {a : Addr} {s : List (Int × Br)} (h : LSum K H a s) : SumAt K H a s := by
  obtain ⟨xs, h1, h2⟩ := h
  exact ⟨xs, sq_of h1, h2⟩
theorem newS.lsum {s : List (Int × Br)} {v : V} {H2 : Hp} (h : newS K H s v H2) : ∃ p, v = .ref p ∧ H p = none ∧ LSum K H2 p s := by
  obtain ⟨p, xs, h1, h2, h3, h4⟩ := h
  exact ⟨p, h1, h2, xs, h3, h4⟩
theorem er_cat {a b : Addr} {s u : List (Int × Br)} (h1 : Ev ta σ H (.ref a)) (h2 : Ev tb σ H (.ref b)) (hs : LSum K H a s) (hu : LSum K H b u) (hz : s.length + u.length ≤ 100000) : Er (tOp rCat ta tb) σ H fun v H2 => ∃ p, v = .ref p ∧ H p = none ∧ LSum K H2 p (s ++ u) := fun H1 e Q q =>
  h1 H1 e _ fun H2 e2 => h2 H2 (e.trans e2) _ fun H3 e3 => by
    obtain ⟨xs, g1, g2⟩ := hs.mono ((e.trans e2).trans e3)
    obtain ⟨ys, g3, g4⟩ := hu.mono ((e.trans e2).trans e3)
    exact ⟨a, b, xs, ys, rfl, rfl, g1, g3, by rw [g2.len, g4.len]; exact sz_of hz, fun p hp => q _ _ ((e2.trans e3).trans (Ex.new hp)) ⟨p, rfl, fresh_back ((e.trans e2).trans e3) hp, xs ++ ys, upd_same, (g2.app g4).mono (Ex.new hp)⟩⟩
theorem Tups.nil : Tups K H [] [] := trivial
end
theorem sb_app : ∀ (s u : List (Int × Br)) (φ : W → Int), sb (s ++ u) φ = sb s φ + sb u φ
  | [], u, φ => (Int.zero_add _).symm
  | (c, t) :: s, u, φ => by
    show c * br t φ + sb (s ++ u) φ = c * br t φ + sb s φ + sb u φ
    rw [sb_app s u φ]
    omega
theorem SOk.app {s u : List (Int × Br)} {m : Nat} (h : SOk s m) (k : SOk u m) (hl : s.length + u.length ≤ 10000) : SOk (s ++ u) m := ⟨by rw [List.length_append]; exact hl, fun x hx => (List.mem_append.mp hx).elim (h.it x) (k.it x), fun x hx => (List.mem_append.mp hx).elim (h.abc x) (k.abc x)⟩
def MkAt (K : PySem.W.Frag) (F : TB.P) (i : Nat) (v : V) (H : Hp) : Prop := ∃ q b, v = .ref q ∧ SqT K H q [.int (get F ((ord (keys F)).getD i [])), b] ∧ BrAt K H b (pb ((ord (keys F)).getD i []))
theorem MkAt.st (K : PySem.W.Frag) (F : TB.P) (i : Nat) : LSt (MkAt K F i) := ⟨fun e ⟨q, b, h1, h2, h3⟩ => ⟨q, b, h1, ex_t e h2, h3.mono e⟩, fun hl ⟨q, b, h1, h2, h3⟩ => ⟨q, b, h1, SqT.updL hl h2, h3.updL hl⟩⟩
theorem mk_sum {K : PySem.W.Frag} {F : TB.P} {H : Hp} {ys : List V} (hl : ys.length = (keys F).length) (h : ∀ i y, ys[i]? = some y → MkAt K F i y H) : Tups K H ys (sumOf F) := tups_at (by rw [sumOf_len, hl]) fun i y hy => by
  obtain ⟨q, b, h1, h2, h3⟩ := h i y hy
  have hi := (List.getElem?_eq_some_iff.mp hy).1
  exact ⟨_, _, sumOf_at F i (by omega), q, b, h1, h2, h3⟩
end TB
/-! ## TbD_greatest -/
namespace TB
open PySem PySem.Spec PyProof.Rows L2 Evl
section
variable {P : Program} {wd : World} {K : PySem.W.Frag} {mg : Str → Option Value} {base : Heap}
/-! greatest -/
theorem map_getD (s : List (Int × Br)) : (s.map fun x => (x.2.wt : Int)).map V.int = (List.range s.length).map fun i => V.int ((s.getD i (0, .leaf 0)).2.wt : Int) := by
  rw [List.map_map]
  refine List.ext_getElem? fun i => ?_
  rw [List.getElem?_map, List.getElem?_map]
  rcases Nat.lt_or_ge i s.length with hi | hi
  · have e : s.getD i (0, .leaf 0) = s[i] := by rw [List.getD_eq_getElem?_getD, List.getElem?_eq_getElem hi]; rfl
    rw [List.getElem?_range hi, List.getElem?_eq_getElem hi]
    show some (V.int (s[i].2.wt : Int)) = some (V.int ((s.getD i (0, .leaf 0)).2.wt : Int))
    rw [e]
  · rw [List.getElem?_eq_none hi, List.getElem?_eq_none (by rw [List.length_range]; exact hi)]
    rfl
def sp_greatest (K : PySem.W.Frag) : Sp := fun vs H Q _ => ∃ (a : Addr) (s : List (Int × Br)), vs = [.ref a] ∧ SumAt K H a s ∧ s.length ≤ 100000 ∧ (∀ x ∈ s, x.2.wt ≤ 12) ∧ ∀ H', Ex H H' → Q (.int (grt s)) H'
theorem sv_greatest {H : Hp} {a : Addr} {s : List (Int × Br)} (hs : SumAt K H a s) (hl : s.length ≤ 100000) (hw : ∀ x ∈ s, x.2.wt ≤ 12) : SpV (sp_greatest K) [.ref a] H (.int (grt s)) := fun H1 e Q q E => ⟨a, s, rfl, hs.mono e, hl, hw, q⟩
theorem ok_greatest (B : Blt mg) (D_greatest : DefAt K mg "greatest" s_greatest ["total"]) (D_weight : DefAt K mg "weight" s_weight ["bracket"]) : FnOk P wd K mg base CX0 15 D_greatest.f D_greatest.fd ["total"] (sp_greatest K) := by
  have G_weight := ok_weight (P := P) (wd := wd) (base := base) B D_weight 12
  refine D_greatest.F.ok sc_greatest (fun vs H Q E h => ?_) (fun cdv A outer s H vs Q E hr h => ?_)
  · obtain ⟨a, s, rfl, _⟩ := h
    rfl
  obtain ⟨a, s, rfl, hs, hl, hw, q⟩ := h
  refine ⟨_, (pss_one (ps_ret (pe_callBK (id := "max") (cr_maxD (hr.mono (by omega)) rfl) (by rfl) B.max (by decide +kernel) (pa_cons (pe_lc (g := gTup K 2 (gCons (gName 1) (gCons (gName 2) gNil))) (own := [("count", 1), ("bracket", 2)]) rfl sc_greatest.nd (pi_list (pv 0)) (blkOk_by (N := ["total", "count", "bracket"]) (sc := defScope s_greatest) (by decide +kernel)) (fun _ _ _ _ _ => (pg_tup rfl (pgs_cons (pg_name (i := 1) sc_greatest.nd rfl (by first | exact .inl rfl | exact .inr rfl)) (pgs_cons (pg_name (i := 2) sc_greatest.nd rfl (by first | exact .inl rfl | exact .inr rfl)) pgs_nil)))) (fun _ _ _ _ _ => pts_nil) (fun _ _ _ _ _ => (cl D_weight G_weight hr (pa_cons (pv 2) pa_nil)))) pa_nil) (pk_cons pe_int pk_nil)))), ?_⟩
  refine s_ret (v := .int (grt s)) (ev_maxD (ns := s.map fun x => (x.2.wt : Int)) (fun H1 e1 Q1 q1 => er_lcS (H := H1) (R := fun i v _ => v = .int ((s.getD i (0, .leaf 0)).2.wt : Int)) (fun i => LSt.val) (ev_var rfl) (hs.mono e1) (by omega) (fun x y => rfl) (fun i c t v H2 e2 hi hv => ?_) H1 (Ex.refl _) _ fun v H2 e2 hv => ?_)) (fun H1 e1 => q H1 e1)
  · have e : s.getD i (0, .leaf 0) = (c, t) := by rw [List.getD_eq_getElem?_getD, hi]; rfl
    rw [e]
    have h12 : t.wt ≤ 12 := hw _ (List.mem_of_getElem? hi)
    exact ev_er (ev_call (ea_cons (ev_var rfl) ea_nil) (sv_weight hv (show t.depth < 12 by have := t.depth_lt; omega))) fun _ _ => rfl
  · obtain ⟨p, rfl, np, hp⟩ := lcR_val (f := fun i => .int ((s.getD i (0, .leaf 0)).2.wt : Int)) hv
    exact q1 p H2 np e2 (by rw [hp, map_getD])
end
end TB
/-! ## TbD_put_to -/
namespace TB
open PySem PySem.Spec PyProof.Rows L2 Evl
section
variable {P : Program} {wd : World} {K : PySem.W.Frag} {mg : Str → Option Value} {base : Heap}
/-! put_to -/
theorem ok_put_to (B : Blt mg) (D : DefAt K mg "put_to" s_put_to ["counts", "word", "count"]) : FnOk P wd K mg base CX0 1 D.f D.fd ["counts", "word", "count"] sp_put := by
  refine D.F.ok sc_put_to (fun vs H Q E h => ?_) (fun cdv A outer s H vs Q E hr h => ?_)
  · obtain ⟨d, p, w, c, rfl, _⟩ := h
    rfl
  obtain ⟨d, p, w, c, rfl, hd, hz, q⟩ := h
  have hu := hu_of hr
  refine ⟨_, (pss_cons (ps_dput hu (pv 0) (pv 1) (pe_op op_add (pe_dget2 hu (pv 0) (pv 1) pe_int ⟨rfl, rfl, rfl, rfl⟩) (pv 2)) rfl)
    (pss_one (ps_if (pt_cmpR op_eq (pe_dget hu (pv 0) (pv 1) (fun _ _ => rfl)) pe_int (nomark _))
      (pss_one (ps_expr (pe_dpop1 (pv 0) (pv 1) ⟨rfl, rfl, rfl, rfl⟩)))
      pss_nil))), ?_⟩
  refine ⟨_, rfl, d, rfl, .inl ⟨_, .inl hd⟩, _, rfl, _, DR.get (DR.of hd) w, _, rfl, _, _, by rw [← kv_val, kv_getD], rfl, _, rfl, _, rfl, d, _, rfl, DPut.k (k := Sum.inr (sOf w)) hd (by rw [kv_len]; exact Nat.lt_of_le_of_lt hz (by decide)), ?_⟩
  rw [kv_put]
  have hs : look (set p w (get p w + c)) w = some (get p w + c) := by rw [look_set, if_pos rfl]
  refine ⟨_, rfl, _, rfl, d, _, rfl, (by
    have := DR.get (H := upd H d (.dK (kv (set p w (get p w + c))))) (DR.of upd_same) w
    rw [hs] at this
    exact this), rfl, _, rfl, ?_⟩
  refine ite2 (fun c0 => ?_) (fun c0 => ?_)
  · have h0 : get p w + c = 0 := V.int.inj (of_decide_eq_true c0)
    refine ⟨_, rfl, d, rfl, .inl ⟨_, .inl upd_same⟩, _, rfl, kv (set p w (get p w + c)), Sum.inr (sOf w), _, upd_same, rfl, (by rw [kv_val, hs]; rfl), ?_⟩
    rw [kv_drop, upd_upd]
    unfold put at q
    rw [if_pos h0] at q
    exact q
  · have h0 : ¬ get p w + c = 0 := fun z => c0 (by rw [z]; rfl)
    unfold put at q
    rw [if_neg h0] at q
    exact q
end
end TB
/-! ## TbD_times -/
namespace TB
open PySem PySem.Spec PyProof.Rows L2 Evl
section
variable {P : Program} {wd : World} {K : PySem.W.Frag} {mg : Str → Option Value} {base : Heap}
/-! times -/
def sp_times : Sp := fun vs H Q _ => ∃ (d1 d2 : Addr) (p q : TB.P) (n m L : Nat), vs = [.ref d1, .ref d2] ∧ H d1 = some (.dK (kv p)) ∧ H d2 = some (.dK (kv q)) ∧ Fit p n L ∧ Fit q m L ∧ n * m ≤ 1000000 ∧ L ≤ 1000 ∧
  ∀ r H', H r = none → Ex H H' → H' r = some (.dK (kv (times p q))) → Q (.ref r) H'
theorem timesT_take {p q : TB.P} {i : Nat} {a : W × Int} (h : p[i]? = some a) (f : TB.P) : timesT q (p.take (i + 1)) f = puts (fun b => a.1 ++ b.1) (fun b => a.2 * b.2) q (timesT q (p.take i) f) := by
  unfold timesT
  rw [List.take_add_one, h, List.foldl_append]
  rfl
theorem ok_times (B : Blt mg) (D : DefAt K mg "times" s_times ["one", "other"]) (D_put_to : DefAt K mg "put_to" s_put_to ["counts", "word", "count"]) : FnOk P wd K mg base CX0 2 D.f D.fd ["one", "other"] sp_times := by
  have G_put_to := ok_put_to (P := P) (wd := wd) (base := base) B D_put_to
  refine D.F.ok sc_times (fun vs H Q E h => ?_) (fun cdv A outer s H vs Q E hr h => ?_)
  · obtain ⟨d1, d2, p, q, n, m, L, rfl, _⟩ := h
    rfl
  obtain ⟨d1, d2, p, q, n, m, L, rfl, hd1, hd2, fp, fq, hnm, hL, qQ⟩ := h
  have hu := hu_of hr
  -- one step
  have lenB : ∀ (i j : Nat), i < p.length → j ≤ q.length → (puts (fun b : W × Int => (p.getD i ([], 0)).1 ++ b.1) (fun b => (p.getD i ([], 0)).2 * b.2) (q.take j) (timesT q (p.take i) [])).length ≤ 10000000 := fun i j hi hj => by
    have h1 := puts_len (fun b : W × Int => (p.getD i ([], 0)).1 ++ b.1) (fun b => (p.getD i ([], 0)).2 * b.2) (q.take j) (timesT q (p.take i) [])
    have h2 := timesT_len q (p.take i) []
    rw [List.length_take, List.length_nil] at h2
    rw [List.length_take] at h1
    have h3 : (i + 1) * q.length ≤ n * m := Nat.mul_le_mul (by have := fp.len; omega) fq.len
    rw [Nat.add_mul] at h3
    have h4 : min i p.length = i := by omega
    rw [h4] at h2
    omega
  have mul : ∀ {a b : W × Int}, a ∈ p → b ∈ q → CMulW a.2 b.2 := fun ha hb => mulW (fp.val ha) (fq.val hb)
  have wlen : ∀ {a b : W × Int}, a ∈ p → b ∈ q → a.1.length + b.1.length ≤ 100000 := fun {a b} ha hb => by
    have h1 := fp.wl a.1 (List.mem_map.mpr ⟨a, ha, rfl⟩)
    have h2 := fq.wl b.1 (List.mem_map.mpr ⟨b, hb, rfl⟩)
    omega
  by_cases hdd : d1 = d2
  · subst hdd
    have epq : p = q := kv_inj (HO.dK.inj (Option.some.inj (hd1.symm.trans hd2)))
    subst epq
    refine ⟨_, (pss_cons (ps_set (i := 2) sc_times.nd rfl (by first | exact .inl rfl | exact .inr rfl) pe_dnewK)
    (pss_cons (ps_lock (ps_for PassesOwn.never rfl (pi_keys (pv 0)) (pg_name (i := 3) sc_times.nd rfl (by first | exact .inl rfl | exact .inr rfl))
      (pss_one (ps_for PassesOwn.never rfl (pi_keys (pv 1)) (pg_name (i := 4) sc_times.nd rfl (by first | exact .inl rfl | exact .inr rfl))
        (pss_one (ps_expr (cl D_put_to G_put_to hr (pa_cons (pv 2) (pa_cons (pe_op op_add_str (pv 3) (pv 4)) (pa_cons (pe_op op_mulW (pe_dget hu (pv 0) (pv 3) (fun _ _ => rfl)) (pe_dget hu (pv 1) (pv 4) (fun _ _ => rfl))) pa_nil))))))))))
    (pss_one (ps_ret (pv 2))))), ?_⟩
    refine q_dnew fun r nr => ?_
    have hr1 : r ≠ d1 := fun e => by rw [e, hd1] at nr; cases nr
    refine for_lock (kvs := kv p) (by rw [upd_ne hr1.symm]; exact hd1) (fun H' Q q => ⟨_, rfl, q⟩) (fun od i σ H' => (∃ y z, σ = [some (.ref d1), some (.ref d1), some (.ref r), y, z]) ∧ But d1 d1 H H' ∧ H' d1 = some (.frz od (.dK (kv p))) ∧ H' r = some (.dK (kv (timesT p (p.take i) [])))) (fun od => ⟨⟨none, none, rfl⟩, ?_, upd_same, ?_⟩) (fun od i σ' H' h => h.2.2.1) ?_ ?_
    · intro b o h1 _ h
      rw [upd_ne h1, upd_ne (ne_of_none h nr)]
      exact h
    · rw [upd_ne hr1]
      exact upd_same
    · rintro od i k v σ' H' hk ⟨⟨y, z, rfl⟩, hb, hf, hrr⟩
      obtain ⟨w, c, hi, rfl, rfl⟩ := kv_get hk
      have hi1 : i < p.length := (List.getElem?_eq_some_iff.mp hi).1
      have hmem : (w, c) ∈ p := List.mem_of_getElem? hi
      have egd : p.getD i ([], 0) = (w, c) := by rw [List.getD_eq_getElem?_getD, hi]; rfl
      refine for_frz (kvs := kv p) hf (fun H' Q q => ⟨_, rfl, q⟩) (fun j σ H' => (∃ z, σ = [some (.ref d1), some (.ref d1), some (.ref r), some (tx w), z]) ∧ But d1 d1 H H' ∧ H' d1 = some (.frz od (.dK (kv p))) ∧ H' r = some (.dK (kv (puts (fun b => w ++ b.1) (fun b => c * b.2) (p.take j) (timesT p (p.take i) []))))) ⟨⟨_, rfl⟩, hb, hf, hrr⟩ (fun j σ' H' h => h.2.2.1) ?_ ?_
      · rintro j k2 v2 σ' H2 hk2 ⟨⟨z, rfl⟩, hb, hf, hrr⟩
        obtain ⟨w2, c2, hj, rfl, rfl⟩ := kv_get hk2
        have hj1 : j < p.length := (List.getElem?_eq_some_iff.mp hj).1
        have hmem2 : (w2, c2) ∈ p := List.mem_of_getElem? hj
        have hlen := lenB i j hi1 (Nat.le_of_lt hj1)
        rw [egd] at hlen
        have dr : DR H2 d1 p := .inr ⟨_, hf⟩
        refine s_put hrr (ea_cons (ev_var rfl) (ea_cons (ev_op (ev_var rfl) (ev_var rfl) (rv_addS (wlen hmem hmem2))) (ea_cons (ev_op (ev_dget (ev_var rfl) (ev_var rfl) dr (look_mem fp.nrm.nd hmem)) (ev_dget (ev_var rfl) (ev_var rfl) dr (look_mem fp.nrm.nd hmem2)) (rv_I (mul hmem hmem2))) ea_nil))) hlen (fun H3 e3 => ?_)
        refine ⟨⟨_, rfl⟩, (hb.ex e3).put nr, by rw [upd_ne hr1.symm]; exact e3 _ _ hf, ?_⟩
        rw [upd_same, puts_take _ _ hj]
      · rintro σ' H2 ⟨⟨z, rfl⟩, hb, hf, hrr⟩
        refine ⟨⟨_, _, rfl⟩, hb, hf, ?_⟩
        rw [hrr, timesT_take hi, kv_len, List.take_length]
    · rintro od σ' H' ⟨⟨y, z, rfl⟩, hb, hf, hrr⟩
      refine s_ret (ev_var rfl) (fun H3 e3 => ?_)
      have es : Ex H (upd H' d1 (.dK (kv p))) := fun b o h => by
        by_cases e : b = d1
        · rw [e, upd_same, ← hd1, ← e, h]
        · rw [upd_ne e]; exact hb b o e e h
      refine qQ r H3 nr (es.trans e3) (e3 _ _ ?_)
      rw [upd_ne hr1, hrr, kv_len, List.take_length]
      rfl
  · refine ⟨_, (pss_cons (ps_set (i := 2) sc_times.nd rfl (by first | exact .inl rfl | exact .inr rfl) pe_dnewK)
    (pss_cons (ps_lock (ps_for PassesOwn.never rfl (pi_keys (pv 0)) (pg_name (i := 3) sc_times.nd rfl (by first | exact .inl rfl | exact .inr rfl))
      (pss_one (ps_lock (ps_for PassesOwn.never rfl (pi_keys (pv 1)) (pg_name (i := 4) sc_times.nd rfl (by first | exact .inl rfl | exact .inr rfl))
        (pss_one (ps_expr (cl D_put_to G_put_to hr (pa_cons (pv 2) (pa_cons (pe_op op_add_str (pv 3) (pv 4)) (pa_cons (pe_op op_mulW (pe_dget hu (pv 0) (pv 3) (fun _ _ => rfl)) (pe_dget hu (pv 1) (pv 4) (fun _ _ => rfl))) pa_nil)))))))))))
    (pss_one (ps_ret (pv 2))))), ?_⟩
    refine q_dnew fun r nr => ?_
    have hr1 : r ≠ d1 := fun e => by rw [e, hd1] at nr; cases nr
    have hr2 : r ≠ d2 := fun e => by rw [e, hd2] at nr; cases nr
    refine for_lock (kvs := kv p) (by rw [upd_ne hr1.symm]; exact hd1) (fun H' Q q => ⟨_, rfl, q⟩) (fun od i σ H' => (∃ y z, σ = [some (.ref d1), some (.ref d2), some (.ref r), y, z]) ∧ But d1 d1 H H' ∧ H' d1 = some (.frz od (.dK (kv p))) ∧ H' r = some (.dK (kv (timesT q (p.take i) [])))) (fun od => ⟨⟨none, none, rfl⟩, ?_, upd_same, ?_⟩) (fun od i σ' H' h => h.2.2.1) ?_ ?_
    · intro b o h1 _ h
      rw [upd_ne h1, upd_ne (ne_of_none h nr)]
      exact h
    · rw [upd_ne hr1]
      exact upd_same
    · rintro od i k v σ' H' hk ⟨⟨y, z, rfl⟩, hb, hf, hrr⟩
      obtain ⟨w, c, hi, rfl, rfl⟩ := kv_get hk
      have hi1 : i < p.length := (List.getElem?_eq_some_iff.mp hi).1
      have hmem : (w, c) ∈ p := List.mem_of_getElem? hi
      have egd : p.getD i ([], 0) = (w, c) := by rw [List.getD_eq_getElem?_getD, hi]; rfl
      have hd2' : H' d2 = some (.dK (kv q)) := hb d2 _ (Ne.symm hdd) (Ne.symm hdd) hd2
      refine for_lock (kvs := kv q) hd2' (fun H' Q q => ⟨_, rfl, q⟩) (fun od2 j σ H' => (∃ z, σ = [some (.ref d1), some (.ref d2), some (.ref r), some (tx w), z]) ∧ But d1 d2 H H' ∧ H' d1 = some (.frz od (.dK (kv p))) ∧ H' d2 = some (.frz od2 (.dK (kv q))) ∧ H' r = some (.dK (kv (puts (fun b => w ++ b.1) (fun b => c * b.2) (q.take j) (timesT q (p.take i) []))))) (fun od2 => ⟨⟨_, rfl⟩, ?_, ?_, upd_same, ?_⟩) (fun od2 j σ' H' h => h.2.2.2.1) ?_ ?_
      · intro b o h1 h2 h
        rw [upd_ne h2]
        exact hb b o h1 h1 h
      · rw [upd_ne hdd]; exact hf
      · rw [upd_ne hr2]; exact hrr
      · rintro od2 j k2 v2 σ' H2 hk2 ⟨⟨z, rfl⟩, hb, hf, hf2, hrr⟩
        obtain ⟨w2, c2, hj, rfl, rfl⟩ := kv_get hk2
        have hj1 : j < q.length := (List.getElem?_eq_some_iff.mp hj).1
        have hmem2 : (w2, c2) ∈ q := List.mem_of_getElem? hj
        have hlen := lenB i j hi1 (Nat.le_of_lt hj1)
        rw [egd] at hlen
        refine s_put hrr (ea_cons (ev_var rfl) (ea_cons (ev_op (ev_var rfl) (ev_var rfl) (rv_addS (wlen hmem hmem2))) (ea_cons (ev_op (ev_dget (ev_var rfl) (ev_var rfl) (.inr ⟨_, hf⟩) (look_mem fp.nrm.nd hmem)) (ev_dget (ev_var rfl) (ev_var rfl) (.inr ⟨_, hf2⟩) (look_mem fq.nrm.nd hmem2)) (rv_I (mul hmem hmem2))) ea_nil))) hlen (fun H3 e3 => ?_)
        refine ⟨⟨_, rfl⟩, (hb.ex e3).put nr, by rw [upd_ne hr1.symm]; exact e3 _ _ hf, by rw [upd_ne hr2.symm]; exact e3 _ _ hf2, ?_⟩
        rw [upd_same, puts_take _ _ hj]
      · rintro od2 σ' H2 ⟨⟨z, rfl⟩, hb2, hf, hf2, hrr⟩
        refine ⟨⟨_, _, rfl⟩, fun b o h1 _ h => ?_, by rw [upd_ne hdd]; exact hf, ?_⟩
        · by_cases e : b = d2
          · rw [e, upd_same, ← hd2, ← e, h]
          · rw [upd_ne e]; exact hb2 b o h1 e h
        · rw [upd_ne hr2, hrr, timesT_take hi, kv_len, List.take_length]
    · rintro od σ' H' ⟨⟨y, z, rfl⟩, hb, hf, hrr⟩
      refine s_ret (ev_var rfl) (fun H3 e3 => ?_)
      have es : Ex H (upd H' d1 (.dK (kv p))) := fun b o h => by
        by_cases e : b = d1
        · rw [e, upd_same, ← hd1, ← e, h]
        · rw [upd_ne e]; exact hb b o e e h
      refine qQ r H3 nr (es.trans e3) (e3 _ _ ?_)
      rw [upd_ne hr1, hrr, kv_len, List.take_length]
      rfl
end
end TB
/-! ## TbD_twisted -/
namespace TB
open PySem PySem.Spec PyProof.Rows L2 Evl
section
variable {P : Program} {wd : World} {K : PySem.W.Frag} {mg : Str → Option Value} {base : Heap}
/-! twisted -/
def sp_twisted : Sp := fun vs H Q _ => ∃ (d1 d2 : Addr) (p q : TB.P) (n m L : Nat), vs = [.ref d1, .ref d2] ∧ H d1 = some (.dK (kv p)) ∧ H d2 = some (.dK (kv q)) ∧ Fit p n L ∧ Fit q m L ∧ n * m ≤ 1000000 ∧ L ≤ 1000 ∧
  ∀ r H', H r = none → Ex H H' → H' r = some (.dK (kv (twist p q))) → Q (.ref r) H'
theorem sv_times {H : Hp} {d1 d2 : Addr} {p q : TB.P} {n m L : Nat} (hd1 : H d1 = some (.dK (kv p))) (hd2 : H d2 = some (.dK (kv q))) (fp : Fit p n L) (fq : Fit q m L) (hnm : n * m ≤ 1000000) (hL : L ≤ 1000) : SpR sp_times [.ref d1, .ref d2] H (newD H (times p q)) := fun H1 e Q k E =>
  ⟨d1, d2, p, q, n, m, L, rfl, e _ _ hd1, e _ _ hd2, fp, fq, hnm, hL, fun r H' nr e2 hr => k _ H' e2 ⟨r, rfl, fresh_back e nr, hr⟩⟩
theorem sv_twisted {H : Hp} {d1 d2 : Addr} {p q : TB.P} {n m L : Nat} (hd1 : H d1 = some (.dK (kv p))) (hd2 : H d2 = some (.dK (kv q))) (fp : Fit p n L) (fq : Fit q m L) (hnm : n * m ≤ 1000000) (hL : L ≤ 1000) : SpR sp_twisted [.ref d1, .ref d2] H (newD H (twist p q)) := fun H1 e Q k E =>
  ⟨d1, d2, p, q, n, m, L, rfl, e _ _ hd1, e _ _ hd2, fp, fq, hnm, hL, fun r H' nr e2 hr => k _ H' e2 ⟨r, rfl, fresh_back e nr, hr⟩⟩
theorem ok_twisted (B : Blt mg) (D : DefAt K mg "twisted" s_twisted ["one", "other"]) (D_times : DefAt K mg "times" s_times ["one", "other"]) (D_put_to : DefAt K mg "put_to" s_put_to ["counts", "word", "count"]) : FnOk P wd K mg base CX0 3 D.f D.fd ["one", "other"] sp_twisted := by
  have G_put_to := ok_put_to (P := P) (wd := wd) (base := base) B D_put_to
  have G_times := ok_times (P := P) (wd := wd) (base := base) B D_times D_put_to
  refine D.F.ok sc_twisted (fun vs H Q E h => ?_) (fun cdv A outer s H vs Q E hr h => ?_)
  · obtain ⟨d1, d2, p, q, n, m, L, rfl, _⟩ := h
    rfl
  obtain ⟨d1, d2, p, q, n, m, L, rfl, hd1, hd2, fp, fq, hnm, hL, qQ⟩ := h
  have hu := hu_of hr
  refine ⟨_, (pss_cons (ps_set (i := 2) sc_twisted.nd rfl (by first | exact .inl rfl | exact .inr rfl) (cl D_times G_times hr (pa_cons (pv 0) (pa_cons (pv 1) pa_nil))))
    (pss_cons (ps_set (i := 3) sc_twisted.nd rfl (by first | exact .inl rfl | exact .inr rfl) (cl D_times G_times hr (pa_cons (pv 1) (pa_cons (pv 0) pa_nil))))
    (pss_cons (ps_lock (ps_for PassesOwn.never rfl (pi_keys (pv 3)) (pg_name (i := 4) sc_twisted.nd rfl (by first | exact .inl rfl | exact .inr rfl))
      (pss_one (ps_expr (cl D_put_to G_put_to hr (pa_cons (pv 2) (pa_cons (pv 4) (pa_cons (pe_op op_sub pe_int (pe_dget hu (pv 3) (pv 4) (fun _ _ => rfl))) pa_nil))))))))
    (pss_one (ps_ret (pv 2)))))), ?_⟩
  refine q_asgR (er_call (ea_cons (ev_var rfl) (ea_cons (ev_var rfl) ea_nil)) (sv_times hd1 hd2 fp fq hnm hL)) (fun v H1 e1 hv => ?_)
  obtain ⟨r, rfl, nr, hr1⟩ := hv
  refine q_asgR (er_call (ea_cons (ev_var rfl) (ea_cons (ev_var rfl) ea_nil)) (sv_times (e1 _ _ hd2) (e1 _ _ hd1) fq fp (by rw [Nat.mul_comm]; exact hnm) hL)) (fun v H2 e2 hv => ?_)
  obtain ⟨b, rfl, nb, hb⟩ := hv
  have hrb : r ≠ b := fun e => by rw [← e, hr1] at nb; cases nb
  have hr2 := e2 _ _ hr1
  have lenB : ∀ j, (puts (fun x : W × Int => x.1) (fun x => 0 - x.2) ((times q p).take j) (times p q)).length ≤ 10000000 := fun j => by
    have h1 := puts_len (fun x : W × Int => x.1) (fun x => 0 - x.2) ((times q p).take j) (times p q)
    have h2 := times_len p q
    have h3 := times_len q p
    rw [List.length_take] at h1
    have h4 : p.length * q.length ≤ n * m := Nat.mul_le_mul fp.len fq.len
    rw [Nat.mul_comm q.length] at h3
    omega
  refine for_lock (kvs := kv (times q p)) hb (fun H' Q q => ⟨_, rfl, q⟩) (fun od j σ H' => (∃ z, σ = [some (.ref d1), some (.ref d2), some (.ref r), some (.ref b), z]) ∧ Ex H H' ∧ H' b = some (.frz od (.dK (kv (times q p)))) ∧ H' r = some (.dK (kv (puts (fun x : W × Int => x.1) (fun x => 0 - x.2) ((times q p).take j) (times p q))))) (fun od => ⟨⟨none, rfl⟩, ?_, upd_same, ?_⟩) (fun od j σ' H' h => h.2.2.1) ?_ ?_
  · exact (e1.trans e2).mut (fresh_back e1 nb)
  · rw [upd_ne hrb]; exact hr2
  · rintro od j k v σ' H3 hk ⟨⟨z, rfl⟩, e3, hf, hrr⟩
    obtain ⟨w, c, hj, rfl, rfl⟩ := kv_get hk
    have hmem : (w, c) ∈ times q p := List.mem_of_getElem? hj
    refine s_put hrr (ea_cons (ev_var rfl) (ea_cons (ev_var rfl) (ea_cons (ev_op ev_c (ev_dget (ev_var rfl) (ev_var rfl) (.inr ⟨_, hf⟩) (look_mem (times_nrm q p).nd hmem)) rv_I0) ea_nil))) (lenB j) (fun H4 e4 => ?_)
    refine ⟨⟨_, rfl⟩, (e3.trans e4).mut nr, by rw [upd_ne hrb.symm]; exact e4 _ _ hf, ?_⟩
    rw [upd_same, puts_take _ _ hj]
  · rintro od σ' H3 ⟨⟨z, rfl⟩, e3, hf, hrr⟩
    refine s_ret (ev_var rfl) (fun H4 e4 => ?_)
    refine qQ r H4 nr ((e3.mut (fresh_back e1 nb)).trans e4) (e4 _ _ ?_)
    rw [upd_ne hrb, hrr, kv_len, List.take_length]
    rfl
end
end TB
/-! ## TbD_counts_of -/
namespace TB
open PySem PySem.Spec PyProof.Rows L2 Evl
section
variable {P : Program} {wd : World} {K : PySem.W.Frag} {mg : Str → Option Value} {base : Heap}
/-! counts_of -/
def sp_counts_of (K : PySem.W.Frag) (n : Nat) : Sp := fun vs H Q _ => ∃ (v : V) (t : Br), vs = [v] ∧ BrAt K H v t ∧ t.depth < n ∧ t.wt ≤ 12 ∧ ∀ r H', H r = none → Ex H H' → H' r = some (.dK (kv (cnt t))) → Q (.ref r) H'
theorem sv_counts_of {n : Nat} {H : Hp} {v : V} {t : Br} (hv : BrAt K H v t) (hn : t.depth < n) (hw : t.wt ≤ 12) : SpR (sp_counts_of K n) [v] H (newD H (cnt t)) := fun H1 e Q k E => ⟨v, t, rfl, hv.mono e, hn, hw, fun r H' nr e2 hr => k _ H' e2 ⟨r, rfl, fresh_back e nr, hr⟩⟩
theorem none_counts_of {k : Nat} {f : Addr} {fd : FuncData} : FnOk P wd K mg base CX0 k f fd ["bracket"] (sp_counts_of K 0) := by
  have no : ∀ vs H Q E, ¬ sp_counts_of K 0 vs H Q E := fun vs H Q E h => by
    obtain ⟨v, t, _, _, h, _⟩ := h
    omega
  exact ⟨fun vs H Q E h => absurd h (no vs H Q E), fun A outer s H args us vs Q E _ _ _ _ h => absurd h (no vs H Q E)⟩
theorem step_counts_of {n : Nat} (B : Blt mg) (D : DefAt K mg "counts_of" s_counts_of ["bracket"]) (D_twisted : DefAt K mg "twisted" s_twisted ["one", "other"]) (D_times : DefAt K mg "times" s_times ["one", "other"]) (D_put_to : DefAt K mg "put_to" s_put_to ["counts", "word", "count"])
    (G : FnOk P wd K mg base CX0 (n + 3) D.f D.fd ["bracket"] (sp_counts_of K n)) : FnOk P wd K mg base CX0 (n + 4) D.f D.fd ["bracket"] (sp_counts_of K (n + 1)) := by
  have G_twisted := ok_twisted (P := P) (wd := wd) (base := base) B D_twisted D_times D_put_to
  refine D.F.ok sc_counts_of (fun vs H Q E h => ?_) (fun cdv A outer s H vs Q E hr h => ?_)
  · obtain ⟨v, t, rfl, _⟩ := h
    rfl
  obtain ⟨v, t, rfl, hv, hn, hw, qQ⟩ := h
  refine ⟨_, (pss_cons (ps_if (pt_val (pe_callB call_isi (by rfl) B.isinstance (by decide +kernel) (pa_cons (pv 0) (pa_cons (pe_bltn (v := .ty "str") (by rfl) B.str (by decide +kernel) rfl) pa_nil))))
      (pss_one (ps_ret (pe_disp (pps_cons (pv 0) pe_int pps_nil) (by rfl) (by rfl) (fun z => by cases z) (by decide))))
      pss_nil)
    (pss_one (ps_ret (cl D_twisted G_twisted hr (pa_cons (cl D G hr (pa_cons (pe_ix ix_tup (pv 0) pe_int (fun _ _ => rfl)) pa_nil) (by omega)) (pa_cons (cl D G hr (pa_cons (pe_ix ix_tup (pv 0) pe_int (fun _ _ => rfl)) pa_nil) (by omega)) pa_nil)) (by omega))))), ?_⟩
  cases t with
  | leaf c =>
    have e : v = tx [c] := hv
    subst e
    refine q_when (et_B (ev_isi (b := true) (ev_var rfl) ev_c (.str _) (by decide +kernel))) (fun hb H1 e1 => ?_) (fun hb H1 e1 => by cases hb)
    intro p hp
    refine ⟨_, rfl, upd_same, [(Sum.inr (sOf [c]), .int 1)], rfl, (by show 1 ≤ 15; decide), ?_⟩
    rw [upd_upd]
    refine qQ p _ (fresh_back e1 hp) (e1.trans (Ex.new hp)) ?_
    rw [upd_same]
    rfl
  | node l r =>
    obtain ⟨p, x, y, rfl, hs, hx, hy⟩ := hv
    have dl : l.depth < n := by have : max l.depth r.depth + 1 < n + 1 := hn; omega
    have dr : r.depth < n := by have : max l.depth r.depth + 1 < n + 1 := hn; omega
    have wl : l.wt ≤ 12 := Nat.le_trans (Nat.le_add_right _ _) (show l.wt + r.wt ≤ 12 from hw)
    have wr : r.wt ≤ 12 := Nat.le_trans (Nat.le_add_left _ _) (show l.wt + r.wt ≤ 12 from hw)
    refine q_when (et_B (ev_isi (b := false) (ev_var rfl) ev_c (.tup hs) (by decide +kernel))) (fun hb H1 e1 => by cases hb) (fun hb H1 e1 => ?_)
    refine s_retR (er_callR (A := fun vs H2 => ∃ d1 d2, vs = [.ref d1, .ref d2] ∧ H1 d1 = none ∧ H2 d1 = some (.dK (kv (cnt l))) ∧ H2 d2 = some (.dK (kv (cnt r)))) (R := newD H1 (cnt (.node l r)))
      (ear_cons (er_call (ea_cons (ev_op (ev_var rfl) ev_c (rv_ixT (ex_t e1 hs) (atI_nat' (by decide) rfl))) ea_nil) (sv_counts_of (hx.mono e1) dl wl)) (fun v2 H2 e2 hv2 => by
        obtain ⟨d1, rfl, n1, h1⟩ := hv2
        exact ear_cons (er_call (ea_cons (ev_op (ev_var rfl) ev_c (rv_ixT (ex_t (e1.trans e2) hs) (atI_nat' (by decide) rfl))) ea_nil) (sv_counts_of (hy.mono (e1.trans e2)) dr wr)) (fun v3 H3 e3 hv3 => by
          obtain ⟨d2, rfl, n2, h2⟩ := hv3
          exact ear_of ea_nil (fun H4 e4 => ⟨d1, d2, rfl, n1, e4 _ _ (e3 _ _ h1), e4 _ _ h2⟩))))
      (fun vs H2 e2 hv2 => by
        obtain ⟨d1, d2, rfl, n1, h1, h2⟩ := hv2
        intro H3 e3 Q2 k2 E2
        exact sv_twisted h1 h2 ((cnt_fit l wl).mono (Nat.le_refl _) wl) ((cnt_fit r wr).mono (Nat.le_refl _) wr) (Nat.le_trans (wt_pow hw) (by decide)) (by decide) H3 e3 Q2 (fun v4 H4 e4 h4 => k2 v4 H4 e4 (h4.back e2)) E2)) (fun v4 H4 e4 h4 => ?_)
    obtain ⟨d, rfl, nd, hd⟩ := h4
    exact qQ d H4 (fresh_back e1 nd) (e1.trans e4) hd
theorem ok_counts_of (B : Blt mg) (D : DefAt K mg "counts_of" s_counts_of ["bracket"]) (D_twisted : DefAt K mg "twisted" s_twisted ["one", "other"]) (D_times : DefAt K mg "times" s_times ["one", "other"]) (D_put_to : DefAt K mg "put_to" s_put_to ["counts", "word", "count"]) :
    ∀ n : Nat, FnOk P wd K mg base CX0 (n + 3) D.f D.fd ["bracket"] (sp_counts_of K n)
  | 0 => none_counts_of
  | n + 1 => step_counts_of B D D_twisted D_times D_put_to (ok_counts_of B D D_twisted D_times D_put_to n)
end
end TB
/-! ## TbD_by_length -/
namespace TB
open PySem PySem.Spec PyProof.Rows L2 Evl
section
variable {P : Program} {wd : World} {K : PySem.W.Frag} {mg : Str → Option Value} {base : Heap}
/-! by_length, as sorted asks it for keys: it keeps all that stands -/
theorem ld_var {X : Cx} {pins : List (Addr × Obj)} {s : Shared} {σ : L2.St} {H : Hp} {i : Nat} {x : Str} {v : V} {pos : Pos} {Q : Value → Shared → Prop} {E : Value → Shared → Prop} (I : Inv X pins σ H s) (hN : X.N[i]? = some x) (e : σ[i]? = some (some v)) (hv : Vis X.env.scope x)
    (h : ∀ u, RelV v u → Q u s) (hd : (x == ("__debug__" : Str)) = false := by decide) (hcd : (x == ("__classdict__" : Str)) = false := by decide) : wpAny (model X.prog X.w) X.A (eval (.Name x pos) X.env) Q E s := by
  obtain ⟨m, hn, hl⟩ := I.loc
  obtain ⟨u, r, l⟩ := hl i x v hN e hv
  rcases l with ⟨hk, hm⟩ | ⟨hk, c, hc, hcell⟩
  · exact wpAny_Name (wpAny_loadName_local I.ok.kind hk hn hm (h u r)) hd
  · rcases hk with hk | hk
    · exact wpAny_Name (wpAny_loadName_cell I.ok.kind hk hc hcell (h u r)) hd
    · exact wpAny_Name (wpAny_loadName_free I.ok.kind hk hc hcell (h u r) hcd) hd
theorem run_by_length (B : Blt mg) (D : DefAt K mg "by_length" s_by_length ["word"]) {A : Around} {outer : List Env} {s : Shared} {H : Hp} {x : Str} {t : Tok} (hr : Room 1 A) (e0 : Env0 P wd K mg base A outer s H) (hx : x.length ≤ 1000000) :
    wpAny (model P wd) A (call (.ref D.f) [.str x t]) (PySem.W.KeyPure (.tuple [.int x.length, .str x]) s) (fun _ _ => False) s := by
  obtain ⟨f, fd, F, gm, b⟩ := D
  obtain ⟨oc, od, kV, doc, pm, an, cdv, ct, osl, rfl, lk, hcd⟩ := F.ex
  have KX : K.In s.heap := e0.mod.kin.keeps fun b o e => (e0.bs b o e).1
  have lim : s.heap.NoLimit := e0.mod.nolimit.keeps fun b o e => (e0.bs b o e).1
  have S := sc_by_length
  have hb := b s [.str x t] KX rfl
  have hkind : ∀ y ∈ (["word"] : List Str).zip ([Value.str x t] ++ []), (defScope s_by_length).names.lookup y.1 = some .local ∨ ((defScope s_by_length).names.lookup y.1 = some .cell ∧ ((cellsFrom (s.heap.objs.size + 1) (defScope s_by_length).names []).lookup y.1).isSome = true) := fun ⟨n, v⟩ hy => by
    rcases S.par n (List.of_mem_zip hy).1 with q | q
    · exact .inl q
    · exact .inr ⟨q, PySem.W.cellsFrom_some _ _ _ (.inl q)⟩
  refine wpAny_call (codeAny_call_function hr.depth (KX _ _ lk) rfl S.co S.gen rfl (PySem.W.codeRec_of KX hcd) (hb _ _ _ _ ?_))
  refine wpAny_newFunctionEnv_cells S.kind hkind fun env he s1 x1 => ?_
  subst he
  refine ⟨lim.keeps x1.toInCall.keep, codeAny_func ?_⟩
  have I : Inv (cxOf CX0 P wd K mg base ["word"] "by_length" (defScope s_by_length) f cdv A outer s H E0) [] (start ["word"] [.str x]) H s1 := inv_start S hr.hd e0 rfl (.cons ⟨t, rfl⟩ .nil) x1
  obtain ⟨h1, tk1, rfl, hk1⟩ := x1.toInCall.done
  refine wpAny_execs_cons (wpAny_Return_some (wpAny_Tuple_spliced (Calls.spliced_cons ?_)))
  refine wpAny_Call_Name_kw (ld_blt I (by rfl) B.len (u := .builtin "len") PySem.boot_len ?_ (by decide) (by decide))
  refine PyProof.Rows.callWith_builtin1 (rest := []) (Calls.spliced_cons (ld_var (i := 0) I rfl rfl (by first | exact .inl rfl | exact .inr (.inl rfl) | exact .inr rfl) (fun u hu => Calls.spliced_nil ?_))) (by rfl) (by rfl)
  obtain ⟨t1, rfl⟩ := hu
  refine PyProof.Rows.len_str (by omega) ?_
  refine Calls.spliced_cons (ld_var (i := 0) (I.tok _) rfl rfl (by first | exact .inl rfl | exact .inr (.inl rfl) | exact .inr rfl) (fun u hu => Calls.spliced_nil ⟨by show 2 ≤ sizeLine; decide, ?_⟩))
  obtain ⟨t2, rfl⟩ := hu
  refine ⟨_, _, rfl, fun b o e => Heap.get?_push_of_some _ (hk1 b o e), ?_⟩
  exact .tuple (Heap.get?_push_size _ rfl) rfl rfl (.cons (as := []) (bs := []) (.int _ _) (.cons (as := []) (bs := []) (.str _ _) .nil))
/-- by_length as a key -/
theorem keyed_by_length {X : Cx} {k : Nat} (B : Blt X.mg) (D : DefAt X.K X.mg "by_length" s_by_length ["word"]) (hr : Room k X.A) (hk : 3 ≤ k := by decide) : Keyed X (.ref D.f) encB 1000000 := by
  intro pins s σ H v w I hv hw
  obtain ⟨t, rfl⟩ := hv
  have e := run_by_length (t := t) (x := sOf w) B D (hr.mono hk).in1.in1 I.env0.in1.in1 (by rw [sOf_len]; exact hw)
  rw [sOf_len] at e
  exact e
def tSortBy (K : PySem.W.Frag) (f : Addr) (t : TA) : TE := tCKw (fun vs zs H Q => ∃ (a : Addr) (ws : List W), vs = [.ref a] ∧ zs = [.ref f] ∧ SqL K H a (ws.map tx) ∧ (∀ w ∈ ws, w.length ≤ 1000000) ∧ ∀ p, H p = none → Q (.ref p) (upd H p (.lst ((ws.mergeSort leB).map tx)))) t (tCons (tC (.ref f)) tNil)
/-- sorted(.., key=by_length) -/
theorem pe_sortBy {X : Cx} {k : Nat} {e : Expr} {t : TA} {p p2 p3 pos : Pos} (B : Blt X.mg) (D : DefAt X.K X.mg "by_length" s_by_length ["word"]) (hr : Room k X.A) (hg : Gl X "sorted") (hgl : Gl X "by_length") (ha : PA X [e] t) (hk : 3 ≤ k := by decide)
    (he : backTo pos (starEach [e] X.env) = (false, eval e X.env) :: backTo pos (starEach [] X.env) := by rfl) (hpl : (backTo pos (starEach [e] X.env)).any (·.1) = false := by rfl) :
    PE X (.Call (.Name "sorted" p) [e] [⟨some "key", .Name "by_length" p2, p3⟩] pos) (tSortBy X.K D.f t) := by
  refine pe_callBK (id := "sorted") (ks := [Str.ofString "key"]) ?_ hg B.sorted (by decide +kernel) ha (pk_cons (pe_glob hgl D.gm rfl) pk_nil) (he := he) (hpl := hpl)
  intro pins s σ H xs zs us ws' Q I rx rz h
  obtain ⟨a, ws, rfl, rfl, hq, hw, q⟩ := h
  rw [Vals.ref1 rx, Vals.ref1 rz]
  exact sort_key (keyed_by_length B D hr hk) (fun w => by simp [encB, PyData.depth, PyData.depthAll]) (fun _ _ => by simp [PySem.W.alike, PySem.W.alikeAll, encB]) (PySem.W.Sortable.tuples fun _ => ⟨_, _, rfl⟩) ord_B (fun _ => ksk_t1 _ _) (hr.mono (by omega)) I hq hw q
end
theorem el_sortByN {K : PySem.W.Frag} {σ : L2.St} {H : Hp} {te : TE} {f : Addr} {ws : List W} (h : EvL te σ H (ws.map tx)) (hw : ∀ w ∈ ws, w.length ≤ 1000000) : EvL (tSortBy K f (tCons te tNil)) σ H ((ord ws).map tx) := fun H1 e Q q =>
  h H1 e _ fun p H2 hp e2 h2 => ⟨p, ws, rfl, rfl, sq_of h2, hw, fun l hl => q l _ (fresh_back e2 hl) (e2.trans (Ex.new hl)) upd_same⟩
end TB
/-! ## TbD_plain_of -/
namespace TB
open PySem PySem.Spec PyProof.Rows L2 Evl
section
variable {P : Program} {wd : World} {K : PySem.W.Frag} {mg : Str → Option Value} {base : Heap}
/-! plain_of -/
structure POk (N : Nat) (p : TB.P) : Prop where
  nrm : Nrm p
  kl : ∀ w ∈ keys p, w.length ≤ N ∧ ABC w
  n8 : N ≤ 8
  len : p.length ≤ 1000000
  tt : TB.tot p < bit 100000
def sp_plain_of (K : PySem.W.Frag) (C : Addr) : Sp := fun vs H Q E => ∃ (a : Addr) (p : TB.P) (N : Nat), vs = [.ref a] ∧ DR H a p ∧ POk N p ∧ (¬ Prim p → ∀ H', Ex H H' → E (.ref C) none H') ∧ (∀ F, PlainOf N p F → ∀ v H', Ex H H' → plR K F H v H' → Q v H')
theorem sz8 : sz 8 = 9841 := rfl
theorem sz_le : ∀ {n m : Nat}, n ≤ m → sz n ≤ sz m
  | n, 0, h => by have : n = 0 := by omega
                  rw [this]; exact Nat.le_refl _
  | n, m + 1, h => by
    rcases Nat.lt_or_ge n (m + 1) with g | g
    · have := sz_le (n := n) (m := m) (by omega)
      show sz n ≤ 1 + 3 * sz m
      omega
    · have : n = m + 1 := by omega
      rw [this]; exact Nat.le_refl _
theorem POk.many {N : Nat} {p left F : TB.P} {b : Nat} (o : POk N p) (I : PInv N p left F b) : TB.tot left < bit 200000 ∧ left.length + 128 ≤ 10000000 ∧ F.length ≤ 9841 := by
  have h1 : sz N ≤ 9841 := by have := sz_le o.n8; rw [sz8] at this; exact this
  have h2 := I.bb
  refine ⟨?_, ?_, ?_⟩
  · have h3 : TB.tot p * bit (8 * b) ≤ bit 100000 * bit (8 * b) := Nat.mul_le_mul_right _ (Nat.le_of_lt o.tt)
    rw [bit_add] at h3
    exact Nat.lt_of_le_of_lt (Nat.le_trans I.tl h3) (bit_lt (by omega))
  · have := I.ll
    have := o.len
    omega
  · have := I.fl
    omega
/-- all words of three letters, up to a length -/
def aw : Nat → List W
  | 0 => [[]]
  | n + 1 => [] :: ((aw n).map (97 :: ·) ++ ((aw n).map (98 :: ·) ++ (aw n).map (99 :: ·)))
theorem aw_all : ∀ (n : Nat) (w : W), w.length ≤ n → ABC w → w ∈ aw n
  | 0, [], _, _ => List.mem_singleton.mpr rfl
  | 0, _ :: _, h, _ => by simp at h
  | n + 1, [], _, _ => List.mem_cons_self
  | n + 1, c :: u, h, a => by
    have ih := aw_all n u (by simpa using h) a.tail
    refine List.mem_cons_of_mem _ ?_
    rcases a c List.mem_cons_self with rfl | rfl | rfl
    · exact List.mem_append_left _ (List.mem_map.mpr ⟨u, ih, rfl⟩)
    · exact List.mem_append_right _ (List.mem_append_left _ (List.mem_map.mpr ⟨u, ih, rfl⟩))
    · exact List.mem_append_right _ (List.mem_append_right _ (List.mem_map.mpr ⟨u, ih, rfl⟩))
theorem plain_few : ((aw 8).filter plain).length ≤ 4000 := by decide +kernel
theorem PlainOf.ok {N : Nat} {p F : TB.P} (o : POk N p) (h : PlainOf N p F) : FOk F := by
  refine ⟨h.nrm, fun w hw => ⟨(h.pl w hw).1, by have := (h.pl w hw).2.1; have := o.n8; omega, (h.pl w hw).2.2⟩, ?_, fun x hx => ?_⟩
  · have h1 := len_sub h.nrm.nd (m := (aw 8).filter plain) fun w hw => List.mem_filter.mpr ⟨aw_all 8 w (by have := (h.pl w hw).2.1; have := o.n8; omega) (h.pl w hw).2.2, plain_iff.mpr (h.pl w hw).1⟩
    have h2 : (keys F).length = F.length := List.length_map _
    have := plain_few
    omega
  · have h1 := h.big x hx
    have h2 : sz N ≤ 9841 := by have := sz_le o.n8; rw [sz8] at this; exact this
    have h3 : TB.tot p * bit (8 * sz N) ≤ bit 100000 * bit (8 * sz N) := Nat.mul_le_mul_right _ (Nat.le_of_lt o.tt)
    rw [bit_add] at h3
    exact Nat.lt_of_le_of_lt (Nat.le_trans h1 h3) (bit_lt (by omega))
theorem set_new {F : TB.P} {m : W} (h : m ∉ keys F) (c : Int) : set F m c = F ++ [(m, c)] := set_out h c
theorem sv_pb {n : Nat} {C : Addr} {w : W} {H : Hp} (h : w.length < n) (hl : w.length ≤ 1000) (hp : plain w = true) : SpR (sp_plain_bracket K C n) [tx w] H (fun v H2 => BrAt K H2 v (pb w)) := sv_plain_bracket h hl hp
theorem ok_plain_of (B : Blt mg) (D_plain_of : DefAt K mg "plain_of" s_plain_of ["counts"]) (D_is_plain : DefAt K mg "is_plain" s_is_plain ["word"]) (D_cut : DefAt K mg "cut" s_cut ["word"]) (D_plain_bracket : DefAt K mg "plain_bracket" s_plain_bracket ["word"]) (D_counts_of : DefAt K mg "counts_of" s_counts_of ["bracket"]) (D_twisted : DefAt K mg "twisted" s_twisted ["one", "other"]) (D_times : DefAt K mg "times" s_times ["one", "other"]) (D_put_to : DefAt K mg "put_to" s_put_to ["counts", "word", "count"]) (D_by_length : DefAt K mg "by_length" s_by_length ["word"]) (EC_NoWord : ErrAt K mg "NoWord") (EC_NoSum : ErrAt K mg "NoSum") : FnOk P wd K mg base (L2.CX P wd) 20 D_plain_of.f D_plain_of.fd ["counts"] (sp_plain_of K EC_NoSum.C) := by
  have G_is_plain := ok_is_plain (P := P) (wd := wd) (base := base) B D_is_plain
  have G_plain_bracket := ok_plain_bracket (P := P) (wd := wd) (base := base) B D_plain_bracket D_cut D_is_plain EC_NoWord 12
  have G_counts_of := ok_counts_of (P := P) (wd := wd) (base := base) B D_counts_of D_twisted D_times D_put_to 12
  have G_put_to := ok_put_to (P := P) (wd := wd) (base := base) B D_put_to
  refine D_plain_of.F.okX sc_plain_of (fun vs H Q E h => ?_) (fun cdv A outer s H vs Q E hr h => ?_)
  · obtain ⟨a, p, N, rfl, _⟩ := h
    rfl
  obtain ⟨a, p, N, rfl, ha, o, qE, qQ⟩ := h
  have hu := hu_of hr
  refine ⟨_, (pss_cons (ps_set (i := 1) sc_plain_of.nd rfl (by first | exact .inl rfl | exact .inr rfl) (pe_callTy call_dictD (by rfl) B.dict (by decide +kernel) (pa_cons (pv 0) pa_nil)))
    (pss_cons (ps_set (i := 2) sc_plain_of.nd rfl (by first | exact .inl rfl | exact .inr rfl) pe_dnewK)
    (pss_cons (ps_while (passes_of rfl) (pt_truth (pv 1) (by intro _; rfl))
      (pss_cons (ps_set (i := 3) sc_plain_of.nd rfl (by first | exact .inl rfl | exact .inr rfl) (pe_callB (cr_minT rfl) (by rfl) B.min (by decide +kernel) (pa_cons (pv 1) pa_nil)))
      (pss_cons (ps_if (pt_not (pt_val (cl D_is_plain G_is_plain hr (pa_cons (pv 3) pa_nil))))
        (pss_one (ps_raise rfl (takes_of rfl rfl rfl rfl) (EC_NoSum.pm)))
        pss_nil)
      (pss_cons (ps_dput hu (pv 2) (pv 3) (pe_dget hu (pv 1) (pv 3) (fun _ _ => rfl)) rfl)
      (pss_cons (ps_set (i := 4) sc_plain_of.nd rfl (by first | exact .inl rfl | exact .inr rfl) (cl D_counts_of G_counts_of hr (pa_cons (clN D_plain_bracket G_plain_bracket hr (pa_cons (pv 3) pa_nil)) pa_nil)))
      (pss_one (ps_lock (ps_for (passes_of rfl) rfl (pi_keys (pv 4)) (pg_name (i := 5) sc_plain_of.nd rfl (by first | exact .inl rfl | exact .inr rfl))
        (pss_one (ps_expr (cl D_put_to G_put_to hr (pa_cons (pv 1) (pa_cons (pv 5) (pa_cons (pe_op op_sub pe_int (pe_op op_mulW (pe_dget hu (pv 2) (pv 3) (fun _ _ => rfl)) (pe_dget hu (pv 4) (pv 5) (fun _ _ => rfl)))) pa_nil))))))))))))))
    (pss_one (ps_ret (pe_lc (own := [("word", 3)]) rfl sc_plain_of.nd (pi_list (pe_sortBy B D_by_length hr (by rfl) (by rfl) (pa_cons (pe_callTy (call_listD rfl) (by rfl) B.list (by decide +kernel) (pa_cons (pv 2) pa_nil)) pa_nil))) (blkOk_by (N := ["counts", "left", "found", "word", "less", "other"]) (sc := defScope s_plain_of) (by decide +kernel)) (fun _ _ _ _ _ => (pg_name (i := 3) sc_plain_of.nd rfl (by first | exact .inl rfl | exact .inr rfl))) (fun _ _ _ _ _ => pts_nil) (fun _ _ _ _ _ => (pe_tup (pa_cons (pe_dget hu (pv 2) (pv 3) (fun _ _ => rfl)) (pa_cons (pv 3) pa_nil)))))))))), ?_⟩
  refine q_asgR (er_dictD (ev_var rfl) ha) (fun v H1 e1 hv => ?_)
  obtain ⟨d, rfl, nd, hd⟩ := hv
  refine q_dnew fun f nf => ?_
  have nf0 := fresh_back e1 nf
  have hdf : d ≠ f := fun z => by rw [← z, hd] at nf; cases nf
  refine q_while (fun m σ H' => ∃ left F b, m = sz N - b ∧ (∃ x y z, σ = [some (.ref a), some (.ref d), some (.ref f), x, y, z]) ∧ Ex H H' ∧ H' d = some (.dK (kv left)) ∧ H' f = some (.dK (kv F)) ∧ PInv N p left F b) (sz N) ⟨p, [], 0, rfl, ⟨none, none, none, rfl⟩, e1.trans (Ex.new nf), by rw [upd_ne hdf]; exact hd, upd_same, PInv.start o.nrm o.kl⟩ ?_
  rintro m0 σ H2 ⟨left, F, b, rfl, ⟨x, y, z, rfl⟩, e2, hd2, hf2, I⟩
  refine ⟨!left.isEmpty, et_dict (ev_var rfl) hd2, fun hb H3 e3 => ?_, fun hb H3 e3 => ?_⟩
  · have hne : left ≠ [] := fun e => by rw [e] at hb; cases hb
    obtain ⟨bt, bl, bf⟩ := o.many I
    refine ⟨fun σ H' => ∃ m', m' < sz N - b ∧ ∃ left F b, m' = sz N - b ∧ (∃ x y z, σ = [some (.ref a), some (.ref d), some (.ref f), x, y, z]) ∧ Ex H H' ∧ H' d = some (.dK (kv left)) ∧ H' f = some (.dK (kv F)) ∧ PInv N p left F b, fun σ2 H2 h => h, ?_⟩
    refine q_asgR (er_minT (ev_var rfl) (e3 _ _ hd2) hne) (fun v H4 e4 hv => ?_)
    obtain ⟨m, rfl, hm, hl⟩ := hv
    obtain ⟨mN, mA⟩ := I.kl m hm
    have n8 := o.n8
    refine q_when (et_not (et_B (ev_call (ea_cons (ev_var rfl) ea_nil) (sv_is_plain (show m.length ≤ 1000 by omega))))) (fun hb H5 e5 => ?_) (fun hb H5 e5 => ?_)
    · refine qE (fun hp => ?_) H5 (((e2.trans e3).trans e4).trans e5)
      rw [least_plain I.nl (I.prim hp) hm hl] at hb
      cases hb
    · have hp : plain m = true := by simpa using hb
      have hpl := plain_iff.mp hp
      obtain ⟨hout, I2⟩ := I.step n8 hm hl hpl
      have e35 := (e3.trans e4).trans e5
      refine q_dput (c := get left m) (w := m) (p := F) (ev_dget (ev_var rfl) (ev_var rfl) (.inl (e35 _ _ hd2)) (look_key I.nl.nd hm)) (ev_var rfl) (ev_var rfl) (e35 _ _ hf2) (by omega) (fun H6 e6 => ?_)
      rw [set_new hout]
      have e26 := (e2.trans e35).trans e6
      have hd6 : upd H6 f (.dK (kv (F ++ [(m, get left m)]))) d = some (.dK (kv left)) := by rw [upd_ne hdf]; exact (e35.trans e6) _ _ hd2
      refine q_asgR (R := newD (upd H6 f (.dK (kv (F ++ [(m, get left m)])))) (cnt (pb m))) (er_callR (ear_one (er_call (ea_cons (ev_var rfl) ea_nil) (sv_pb (n := 12) (show m.length < 12 by omega) (by omega) hp)) (fun e h => h.mono e)) (fun vs H7 e7 hv => ?_)) (fun v H7 e7 hv => ?_)
      · obtain ⟨v, rfl, hv⟩ := hv
        have hw8 : (pb m).wt ≤ 8 := by rw [pb_wt hpl]; omega
        exact SpR.back e7 (sv_counts_of hv (by have := (pb m).depth_lt; omega) (by omega))
      obtain ⟨l, rfl, nl, hl7⟩ := hv
      have hdl : d ≠ l := fun z => by rw [← z, hd6] at nl; cases nl
      have hfl : f ≠ l := fun z => by rw [← z, upd_same] at nl; cases nl
      have hd7 := e7 _ _ hd6
      have hf7 := e7 _ _ (upd_same (H := H6) (a := f) (o := .dK (kv (F ++ [(m, get left m)]))))
      have hw8 : (pb m).wt ≤ 8 := by rw [pb_wt hpl]; omega
      have h128 := wt_128 hw8
      have hcl := cnt_len (pb m)
      have ft := cnt_fit (pb m) (by omega)
      have hg : (get left m).natAbs < bit 200000 := Nat.lt_of_le_of_lt (tot_get left m) bt
      have lk : look (F ++ [(m, get left m)]) m = some (get left m) := look_mem I2.nF.nd (by simp)
      refine for_put (p := cnt (pb m)) (f0 := left) hl7 hd7 hdl (fun x => 0 - get left m * x) (by omega) ?_ ?_ ?_
      · rintro σ2 H8 Q2 (rfl | ⟨z, rfl⟩) q2
        · exact ⟨_, rfl, q2⟩
        · exact ⟨_, rfl, q2⟩
      · exact fun w x H8 hmem dr hbut => ea_cons (ev_var rfl) (ea_cons (ev_var rfl) (ea_cons (ev_op ev_c (ev_op (ev_dget (ev_var rfl) (ev_var rfl) (.inl (hbut f _ hdf.symm hfl hf7)) lk) (ev_dget (ev_var rfl) (ev_var rfl) dr (look_mem (cnt_nrm _).nd hmem)) (rv_I (mulW hg (ft.val hmem)))) rv_I0) ea_nil))
      · intro σ2 H8 hσ hbut hr8
        have hrk : b ≤ rk N m := I.lb m hm
        have hbb := I2.bb
        refine ⟨sz N - (rk N m + 1), by omega, subW left m, F ++ [(m, get left m)], rk N m + 1, rfl, ?_, fun b' o' hb' => ?_, ?_, hbut f _ hdf.symm hdf.symm hf7, I2⟩
        · rcases hσ with rfl | ⟨z, rfl⟩
          · exact ⟨_, _, _, rfl⟩
          · exact ⟨_, _, _, rfl⟩
        · refine hbut b' o' (ne_of_none hb' nd) (ne_of_none hb' nd) (e7 _ _ ?_)
          rw [upd_ne (ne_of_none hb' nf0)]
          exact e26 _ _ hb'
        · rw [hr8, subW_eq]
  · have hl0 : left = [] := by
      cases left with
      | nil => rfl
      | cons x r => cases hb
    subst hl0
    have PO := I.done
    have hf3 := e3 _ _ hf2
    have wl : ∀ w ∈ keys F, w.length ≤ 1000000 := fun w hw => by have := (PO.pl w hw).2.1; have := o.n8; omega
    have hlen : (ord (keys F)).length = (keys F).length := ord_len _
    have hk : (keys F).length = F.length := List.length_map _
    refine s_retR (er_lcN (R := PlAt K F) (PlAt.st K _) (el_sortByN (el_listD (ev_var rfl) (.inl hf3)) wl) (by rw [List.length_map, hlen, hk]; have := (o.many I).2.2; omega) (fun x => rfl) (fun i x H4 e4 hx => ?_)) (fun v H4 e4 hv => ?_)
    · obtain ⟨w, hw, rfl⟩ := el_tx1 hx
      obtain ⟨mw, hg⟩ := ord_get hw
      unfold PlAt
      rw [hg]
      exact (eu_er (eu_tup (ea_cons (ev_dget (ev_var rfl) (ev_var rfl) (.inl (e4 _ _ hf3)) (look_key PO.nrm.nd mw)) (ea_cons (ev_var rfl) ea_nil)) (by show 2 ≤ 100000; decide))).imp fun v H5 _ ⟨q, e, _, hq⟩ => ⟨q, e, SqT.of hq⟩
    · rw [List.length_map, hlen] at hv
      exact qQ F PO v H4 ((e2.trans e3).trans e4) (hv.back (e2.trans e3))
end
end TB
/-! ## TbD_plr -/
namespace TB
open PySem PySem.Spec PyProof.Rows L2 Evl
section
variable {P : Program} {wd : World} {K : PySem.W.Frag} {mg : Str → Option Value} {base : Heap}
/-! plain sums told -/
theorem sok_pok {s : List (Int × Br)} {b : Nat} (ok : SOk s 8) (hb : ∀ x ∈ s, x.1.natAbs ≤ bit b) (h9 : b ≤ 90000) : POk 8 (cntS s) := by
  have f := cntS_fit ok (Nat.le_refl _)
  have kl : ∀ w ∈ keys (cntS s), w.length ≤ 8 ∧ ABC w := fun w hw => ⟨f.wl w hw, cntS_abc ok hw⟩
  refine ⟨f.nrm, kl, Nat.le_refl _, ?_, Nat.lt_of_le_of_lt (cntS_tot ok hb) (bit_lt (by omega))⟩
  have := words_few f.nrm.nd kl
  rw [sz8] at this
  have h2 : (keys (cntS s)).length = (cntS s).length := List.length_map _
  omega
/-- some plain sum of the counts -/
def psR (K : PySem.W.Frag) (N : Nat) (p : TB.P) (H : Hp) (v : V) (H2 : Hp) : Prop := ∃ F, PlainOf N p F ∧ FOk F ∧ plR K F H v H2
def pqR (K : PySem.W.Frag) (N : Nat) (p : TB.P) (v : V) (H2 : Hp) : Prop := ∃ F, PlainOf N p F ∧ FOk F ∧ ∃ q ys, v = .ref q ∧ H2 q = some (.lst ys) ∧ ys.length = (keys F).length ∧ ∀ i y, ys[i]? = some y → PlAt K F i y H2
theorem psR.weak {N : Nat} {p : TB.P} {H : Hp} {v : V} {H2 : Hp} (h : psR K N p H v H2) : pqR K N p v H2 := by
  obtain ⟨F, h1, h2, q, ys, h3, _, h4, h5, h6⟩ := h
  exact ⟨F, h1, h2, q, ys, h3, h4, h5, h6⟩
theorem pqR.mono {N : Nat} {p : TB.P} {v : V} {H H2 : Hp} (e : Ex H H2) (h : pqR K N p v H) : pqR K N p v H2 := by
  obtain ⟨F, h1, h2, q, ys, h3, h4, h5, h6⟩ := h
  exact ⟨F, h1, h2, q, ys, h3, e _ _ h4, h5, fun i y hy => (PlAt.st K F i).ex e (h6 i y hy)⟩
theorem PlainOf.up {N M : Nat} {p F : TB.P} (h : PlainOf N p F) (hm : N ≤ M) : PlainOf M p F := ⟨h.nrm, fun w hw => ⟨(h.pl w hw).1, Nat.le_trans (h.pl w hw).2.1 hm, (h.pl w hw).2.2⟩, h.eq, Nat.le_trans h.len (sz_le hm), fun x hx => Nat.le_trans (h.big x hx) (Nat.mul_le_mul_left _ (bit_le (Nat.mul_le_mul_left 8 (sz_le hm))))⟩
theorem pqR.up {N M : Nat} {p : TB.P} {v : V} {H2 : Hp} (h : pqR K N p v H2) (hm : N ≤ M) : pqR K M p v H2 := by
  obtain ⟨F, h1, h2⟩ := h
  exact ⟨F, h1.up hm, h2⟩
theorem psR.back {N : Nat} {p : TB.P} {H H' : Hp} {v : V} {H2 : Hp} (e : Ex H H') (h : psR K N p H' v H2) : psR K N p H v H2 := by
  obtain ⟨F, h1, h2, h3⟩ := h
  exact ⟨F, h1, h2, h3.back e⟩
theorem sv_plain_of {C : Addr} {H : Hp} {a : Addr} {p : TB.P} {N : Nat} (hp : DR H a p) (o : POk N p) (h : Prim p) : SpR (sp_plain_of K C) [.ref a] H (psR K N p H) := fun H1 e Q k E =>
  ⟨a, p, N, rfl, ex_rd e hp, o, fun z => absurd h z, fun F h1 v H' e2 h3 => k v H' e2 ⟨F, h1, h1.ok o, h3.back e⟩⟩
end
end TB
/-! ## TbD_counts_of_sum -/
namespace TB
open PySem PySem.Spec PyProof.Rows L2 Evl
section
variable {P : Program} {wd : World} {K : PySem.W.Frag} {mg : Str → Option Value} {base : Heap}
/-! counts_of_sum -/
def sp_counts_of_sum (K : PySem.W.Frag) : Sp := fun vs H Q _ => ∃ (a : Addr) (s : List (Int × Br)), vs = [.ref a] ∧ SumAt K H a s ∧ SOk s 8 ∧ ∀ r H', H r = none → Ex H H' → H' r = some (.dK (kv (cntS s))) → Q (.ref r) H'
theorem sv_counts_of_sum {H : Hp} {a : Addr} {s : List (Int × Br)} (hs : SumAt K H a s) (ok : SOk s 8) : SpR (sp_counts_of_sum K) [.ref a] H (newD H (cntS s)) := fun H1 e Q k E => ⟨a, s, rfl, hs.mono e, ok, fun r H' nr e2 hr => k _ H' e2 ⟨r, rfl, fresh_back e nr, hr⟩⟩
theorem ok_counts_of_sum (B : Blt mg) (D : DefAt K mg "counts_of_sum" s_counts_of_sum ["total"]) (D_counts_of : DefAt K mg "counts_of" s_counts_of ["bracket"]) (D_twisted : DefAt K mg "twisted" s_twisted ["one", "other"]) (D_times : DefAt K mg "times" s_times ["one", "other"]) (D_put_to : DefAt K mg "put_to" s_put_to ["counts", "word", "count"]) : FnOk P wd K mg base CX0 20 D.f D.fd ["total"] (sp_counts_of_sum K) := by
  have G_counts_of := ok_counts_of (P := P) (wd := wd) (base := base) B D_counts_of D_twisted D_times D_put_to 16
  have G_put_to := ok_put_to (P := P) (wd := wd) (base := base) B D_put_to
  refine D.F.ok sc_counts_of_sum (fun vs H Q E h => ?_) (fun cdv A outer s H vs Q E hr h => ?_)
  · obtain ⟨a, s, rfl, _⟩ := h
    rfl
  obtain ⟨a, s, rfl, hs, ok, q⟩ := h
  have hu := hu_of hr
  refine ⟨_, (pss_cons (ps_set (i := 1) sc_counts_of_sum.nd rfl (by first | exact .inl rfl | exact .inr rfl) pe_dnewK)
    (pss_cons (ps_for PassesOwn.never rfl (pi_list (pv 0)) (pg_tup rfl (pgs_cons (pg_name (i := 2) sc_counts_of_sum.nd rfl (by first | exact .inl rfl | exact .inr rfl)) (pgs_cons (pg_name (i := 3) sc_counts_of_sum.nd rfl (by first | exact .inl rfl | exact .inr rfl)) pgs_nil)))
      (pss_cons (ps_set (i := 4) sc_counts_of_sum.nd rfl (by first | exact .inl rfl | exact .inr rfl) (cl D_counts_of G_counts_of hr (pa_cons (pv 3) pa_nil)))
      (pss_one (ps_lock (ps_for PassesOwn.never rfl (pi_keys (pv 4)) (pg_name (i := 5) sc_counts_of_sum.nd rfl (by first | exact .inl rfl | exact .inr rfl))
        (pss_one (ps_expr (cl D_put_to G_put_to hr (pa_cons (pv 1) (pa_cons (pv 5) (pa_cons (pe_op op_mulW (pv 2) (pe_dget hu (pv 4) (pv 5) (fun _ _ => rfl))) pa_nil)))))))))))
    (pss_one (ps_ret (pv 1))))), ?_⟩
  refine q_dnew fun r nr => ?_
  have f : ∀ i, Fit (cntS (s.take i)) 1280000 8 := fun i => cntS_fit (m := 8) (ok.take i) (by decide)
  refine q_forSum (s := s) (ev_var rfl) hs (Ex.new nr) (fun i σ H' => (∃ c b d w, σ = [some (.ref a), some (.ref r), c, b, d, w]) ∧ Ex H H' ∧ H' r = some (.dK (kv (cntS (s.take i))))) ?_ ?_ ?_ ?_
  · exact fun H1 e1 => ⟨⟨none, none, none, none, rfl⟩, (Ex.new nr).trans e1, e1 _ _ upd_same⟩
  · exact fun k σ' H' h => h.2.1
  · rintro k c t v σ' H' hk ⟨⟨_, _, _, _, rfl⟩, e1, hr1⟩ hv
    have hmem := List.mem_of_getElem? hk
    have hw : t.wt ≤ 8 := (ok.it _ hmem).1
    have ft := cnt_fit t (Nat.le_trans hw (by decide))
    refine q_asgR (er_call (ea_cons (ev_var rfl) ea_nil) (sv_counts_of hv (show t.depth < 16 by have := t.depth_lt; omega) (Nat.le_trans hw (by decide)))) (fun v2 H2 e2 hv2 => ?_)
    obtain ⟨d, rfl, nd, hd⟩ := hv2
    have hrd : r ≠ d := fun z => by rw [← z, hr1] at nd; cases nd
    have cb := cof (ok.it _ hmem).2
    refine for_put (p := cnt t) (f0 := cntS (s.take k)) hd (e2 _ _ hr1) hrd (fun x => c * x) ?_ ?_ ?_ ?_
    · have h1 := (f k).len
      have h2 := ft.len
      have h3 := wt_128 hw
      omega
    · rintro σ2 H3 Q2 (rfl | ⟨z, rfl⟩) q2
      · exact ⟨_, rfl, q2⟩
      · exact ⟨_, rfl, q2⟩
    · exact fun w x H3 hm dr _ => ea_cons (ev_var rfl) (ea_cons (ev_var rfl) (ea_cons (ev_op (ev_var rfl) (ev_dget (ev_var rfl) (ev_var rfl) dr (look_mem (cnt_nrm t).nd hm)) (rv_I (mulW cb (ft.val hm)))) ea_nil))
    · rintro σ2 H3 hσ hbut hr3
      refine ⟨?_, fun b o hb => ?_, ?_⟩
      · rcases hσ with rfl | ⟨z, rfl⟩
        · exact ⟨_, _, _, _, rfl⟩
        · exact ⟨_, _, _, _, rfl⟩
      · exact hbut b o (ne_of_none hb nr) (ne_of_none hb nr) ((e1.trans e2) b o hb)
      · rw [hr3, cntS_eq, cntS_eq, sumT_take cnt hk]
        rfl
  · rintro σ' H' ⟨⟨_, _, _, _, rfl⟩, e1, hr1⟩
    rw [List.take_length] at hr1
    exact s_ret (ev_var rfl) (fun H2 e2 => q r H2 nr (e1.trans e2) (e2 _ _ hr1))
end
end TB
/-! ## TbTwist -/
/-! The bracket of two sums, as a sum. -/
namespace TB
def prodS (s u : List (Int × Br)) : List (Int × Br) := s.flatMap fun x => u.map fun y => (x.1 * y.1, .node x.2 y.2)
theorem sb_lin (s : List (Int × Br)) : Lin (sb s) := by
  induction s with
  | nil => exact ⟨fun _ _ => rfl, fun k _ => (Int.mul_zero k).symm⟩
  | cons x r ih =>
    obtain ⟨c, t⟩ := x
    refine ⟨fun φ ψ => ?_, fun k φ => ?_⟩
    · show c * br t (fun w => φ w + ψ w) + sb r (fun w => φ w + ψ w) = (c * br t φ + sb r φ) + (c * br t ψ + sb r ψ)
      rw [(br_lin t).add, ih.add, Int.mul_add]
      omega
    · show c * br t (fun w => k * φ w) + sb r (fun w => k * φ w) = k * (c * br t φ + sb r φ)
      rw [(br_lin t).mul, ih.mul, Int.mul_add, Int.mul_left_comm]
theorem sb_one (c : Int) (t : Br) : ∀ (u : List (Int × Br)) (φ : W → Int), sb (u.map fun y => (c * y.1, .node t y.2)) φ = c * br t fun a => sb u fun b => φ (a ++ b) - φ (b ++ a)
  | [], φ => by
    show (0 : Int) = c * br t fun _ => 0
    rw [(br_lin t).zero, Int.mul_zero]
  | (d, v) :: u, φ => by
    show c * d * br (.node t v) φ + sb (u.map fun y => (c * y.1, .node t y.2)) φ = _
    rw [sb_one c t u φ, br_node]
    have e : (fun a => sb ((d, v) :: u) fun b => φ (a ++ b) - φ (b ++ a)) = fun a => d * (br v fun b => φ (a ++ b) - φ (b ++ a)) + sb u fun b => φ (a ++ b) - φ (b ++ a) := rfl
    rw [e, (br_lin t).add, (br_lin t).mul, Int.mul_add, Int.mul_assoc]
theorem sb_prod : ∀ (s u : List (Int × Br)) (φ : W → Int), sb (prodS s u) φ = sb s fun a => sb u fun b => φ (a ++ b) - φ (b ++ a)
  | [], u, φ => rfl
  | (c, t) :: s, u, φ => by
    show sb ((u.map fun y => (c * y.1, Br.node t y.2)) ++ prodS s u) φ = c * br t (fun a => sb u fun b => φ (a ++ b) - φ (b ++ a)) + sb s (fun a => sb u fun b => φ (a ++ b) - φ (b ++ a))
    rw [sb_app, sb_one, sb_prod s u φ]
theorem twist_sb (s u : List (Int × Br)) (φ : W → Int) : pr (twist (cntS s) (cntS u)) φ = sb (prodS s u) φ := by
  rw [twist_pr, sb_prod, cntS_pr]
  congr 1
  funext a
  rw [cntS_pr]
theorem twist_prim (s u : List (Int × Br)) : Prim (twist (cntS s) (cntS u)) := Prim.sb (twist_sb s u)
theorem sz_mul : ∀ a ≤ 8, ∀ b ≤ 8, a + b ≤ 8 → sz a * sz b ≤ 1000000 := by decide
theorem twist_none_l {p q : TB.P} (h : p = []) : twist p q = [] := by
  refine nrm_nil (twist_nrm _ _) fun w => ?_
  rw [← pr_dw (twist_nrm p q).nd, twist_pr, h, pr_nil]
theorem twist_none_r {p q : TB.P} (h : q = []) : twist p q = [] := by
  refine nrm_nil (twist_nrm _ _) fun w => ?_
  rw [← pr_dw (twist_nrm p q).nd, twist_pr, h]
  have : (fun a => pr ([] : TB.P) fun b => dw w (a ++ b) - dw w (b ++ a)) = fun _ => 0 := rfl
  rw [this, pr_zero]
end TB
/-! ## TbD_bracket_of_k15 -/
namespace TB
open PySem PySem.Spec PyProof.Rows L2 Evl
section
variable {P : Program} {wd : World} {K : PySem.W.Frag} {mg : Str → Option Value} {base : Heap}
/-! bracket_of -/
theorem fit_of {s : List (Int × Br)} (ok : SOk s 8) {g : Nat} (hg : ∀ x ∈ s, x.2.wt ≤ g) (h8 : g ≤ 8) : Fit (cntS s) (sz g) g := by
  have okg : SOk s g := ⟨ok.len, fun x hx => ⟨hg x hx, (ok.it x hx).2⟩, ok.abc⟩
  have f := cntS_fit okg h8
  refine ⟨f.nrm, ?_, f.tot, f.wl⟩
  have := words_few (n := g) f.nrm.nd fun w hw => ⟨f.wl w hw, cntS_abc okg hw⟩
  have h2 : (keys (cntS s)).length = (cntS s).length := List.length_map _
  omega
theorem twist_pok {s u : List (Int × Br)} {g h x y : Nat} (ok : SOk s 8) (ok2 : SOk u 8) (hg : ∀ z ∈ s, z.2.wt ≤ g) (hh : ∀ z ∈ u, z.2.wt ≤ h) (h8 : g + h ≤ 8) (bx : ∀ z ∈ s, z.1.natAbs ≤ bit x) (hy : ∀ z ∈ u, z.1.natAbs ≤ bit y) (hxy : x + y ≤ 90000) : POk (g + h) (twist (cntS s) (cntS u)) := by
  have f1 := fit_of ok hg (by omega)
  have f2 := fit_of ok2 hh (by omega)
  have kl : ∀ w ∈ keys (twist (cntS s) (cntS u)), w.length ≤ g + h ∧ ABC w := fun w hw => by
    obtain ⟨a, ha, b, hb, e⟩ := twist_keys hw
    have la := f1.wl a ha
    have lb := f2.wl b hb
    have aa := cntS_abc ok ha
    have ab := cntS_abc ok2 hb
    have app : ∀ {p q : W}, ABC p → ABC q → ABC (p ++ q) := fun h1 h2 c hc => (List.mem_append.mp hc).elim (h1 c) (h2 c)
    rcases e with rfl | rfl
    · exact ⟨by rw [List.length_append]; omega, app aa ab⟩
    · exact ⟨by rw [List.length_append]; omega, app ab aa⟩
  refine ⟨twist_nrm _ _, kl, h8, ?_, ?_⟩
  · have := words_few (twist_nrm (cntS s) (cntS u)).nd kl
    have h9 := sz_le h8
    rw [sz8] at h9
    have h2 : (keys (twist (cntS s) (cntS u))).length = (twist (cntS s) (cntS u)).length := List.length_map _
    omega
  · have h1 := twist_tot (cntS s) (cntS u)
    have h2 := cntS_tot ok bx
    have h3 := cntS_tot ok2 hy
    have h4 : tot (cntS s) * tot (cntS u) ≤ bit (x + 21) * bit (y + 21) := Nat.mul_le_mul h2 h3
    rw [bit_add] at h4
    have h5 := bit_dbl (x + 21 + (y + 21))
    have h6 : bit (x + 21 + (y + 21) + 1) < bit 100000 := bit_lt (by omega)
    omega
theorem nil_plain {N : Nat} : PlainOf N ([] : TB.P) [] := ⟨Nrm.nil, (fun _ h => by cases h), fun _ => rfl, Nat.zero_le _, (fun _ h => by cases h)⟩
theorem nil_fok : FOk [] := ⟨Nrm.nil, (fun _ h => by cases h), Nat.zero_le _, (fun _ h => by cases h)⟩
/-- what bracket_of tells -/
def bqR (K : PySem.W.Frag) (s u : List (Int × Br)) (v : V) (H2 : Hp) : Prop := ∃ N : Nat, (N : Int) ≤ grt s + grt u ∧ N ≤ 8 ∧ pqR K N (twist (cntS s) (cntS u)) v H2
/-- too great a weight -/
def TooBig (s u : List (Int × Br)) : Prop := s ≠ [] ∧ u ≠ [] ∧ 8 < grt s + grt u
def sp_bracket_of (K : PySem.W.Frag) (C : Addr) : Sp := fun vs H Q E => ∃ (a b : Addr) (s u : List (Int × Br)) (x y : Nat), vs = [.ref a, .ref b] ∧ SumAt K H a s ∧ SumAt K H b u ∧ SOk s 8 ∧ SOk u 8 ∧ (∀ z ∈ s, z.1.natAbs ≤ bit x) ∧ (∀ z ∈ u, z.1.natAbs ≤ bit y) ∧ x + y ≤ 90000 ∧
  (TooBig s u → ∀ H', Ex H H' → E (.ref C) none H') ∧ (¬ TooBig s u → ∀ v H', Ex H H' → bqR K s u v H' → Q v H')
theorem sv_bracket_of {C : Addr} {H : Hp} {a b : Addr} {s u : List (Int × Br)} {x y : Nat} (hs : SumAt K H a s) (hu : SumAt K H b u) (ok : SOk s 8) (ok2 : SOk u 8) (bx : ∀ z ∈ s, z.1.natAbs ≤ bit x) (hy : ∀ z ∈ u, z.1.natAbs ≤ bit y) (hxy : x + y ≤ 90000) (hn : ¬ TooBig s u) : SpR (sp_bracket_of K C) [.ref a, .ref b] H (bqR K s u) := fun H1 e Q k E =>
  ⟨a, b, s, u, x, y, rfl, hs.mono e, hu.mono e, ok, ok2, bx, hy, hxy, fun z => absurd z hn, fun _ v H' e2 h => k v H' e2 h⟩
theorem ok_bracket_of (B : Blt mg) (D_bracket_of : DefAt K mg "bracket_of" s_bracket_of ["one", "other"]) (D_greatest : DefAt K mg "greatest" s_greatest ["total"]) (D_weight : DefAt K mg "weight" s_weight ["bracket"]) (D_plain_of : DefAt K mg "plain_of" s_plain_of ["counts"]) (D_is_plain : DefAt K mg "is_plain" s_is_plain ["word"]) (D_cut : DefAt K mg "cut" s_cut ["word"]) (D_plain_bracket : DefAt K mg "plain_bracket" s_plain_bracket ["word"]) (D_counts_of : DefAt K mg "counts_of" s_counts_of ["bracket"]) (D_twisted : DefAt K mg "twisted" s_twisted ["one", "other"]) (D_times : DefAt K mg "times" s_times ["one", "other"]) (D_put_to : DefAt K mg "put_to" s_put_to ["counts", "word", "count"]) (D_by_length : DefAt K mg "by_length" s_by_length ["word"]) (D_counts_of_sum : DefAt K mg "counts_of_sum" s_counts_of_sum ["total"]) (EC_NoWord : ErrAt K mg "NoWord") (EC_NoSum : ErrAt K mg "NoSum") (EC_TooGreat : ErrAt K mg "TooGreat") {tg : Tok} (c_GREATEST : mg "GREATEST_sums" = some (.int 8 tg)) : FnOk P wd K mg base (L2.CX P wd) 22 D_bracket_of.f D_bracket_of.fd ["one", "other"] (sp_bracket_of K EC_TooGreat.C) := by
  have G_plain_of := ok_plain_of (P := P) (wd := wd) (base := base) B D_plain_of D_is_plain D_cut D_plain_bracket D_counts_of D_twisted D_times D_put_to D_by_length EC_NoWord EC_NoSum
  have G_counts_of_sum := ok_counts_of_sum (P := P) (wd := wd) (base := base) B D_counts_of_sum D_counts_of D_twisted D_times D_put_to
  have G_twisted := ok_twisted (P := P) (wd := wd) (base := base) B D_twisted D_times D_put_to
  have G_greatest := ok_greatest (P := P) (wd := wd) (base := base) B D_greatest D_weight
  refine D_bracket_of.F.okX sc_bracket_of (fun vs H Q E h => ?_) (fun cdv A outer s H vs Q E hr h => ?_)
  · obtain ⟨a, b, s, u, x, y, rfl, _⟩ := h
    rfl
  obtain ⟨a, b, s, u, x, y, rfl, hs, hu, ok, ok2, bx, hy, hxy, qE, qQ⟩ := h
  refine ⟨_, (pss_cons (ps_if (PW.pt (pw_or (pt_cmpR op_eq (pe_callB call_len_seq (by rfl) B.len PySem.boot_len (pa_cons (pv 0) pa_nil)) pe_int (nomark _)) (pw_or1 (pt_cmpR op_eq (pe_callB call_len_seq (by rfl) B.len PySem.boot_len (pa_cons (pv 1) pa_nil)) pe_int (nomark _)))))
      (pss_one (ps_ret (pe_lst pa_nil)))
      pss_nil)
    (pss_cons (ps_if (pt_cmpR op_gt (pe_op op_add (cl D_greatest G_greatest hr (pa_cons (pv 0) pa_nil)) (cl D_greatest G_greatest hr (pa_cons (pv 1) pa_nil))) (pe_glob (v := .int 8) (by rfl) c_GREATEST ⟨_, rfl⟩) (nomark _))
      (pss_one (ps_raise rfl (takes_of rfl rfl rfl rfl) (EC_TooGreat.pm)))
      pss_nil)
    (pss_one (ps_ret (clN D_plain_of G_plain_of hr (pa_cons (cl D_twisted G_twisted hr (pa_cons (cl D_counts_of_sum G_counts_of_sum hr (pa_cons (pv 0) pa_nil)) (pa_cons (cl D_counts_of_sum G_counts_of_sum hr (pa_cons (pv 1) pa_nil)) pa_nil))) pa_nil)))))), ?_⟩
  obtain ⟨xs, hx1, hx2⟩ := id hs
  obtain ⟨ys, hy1, hy2⟩ := id hu
  refine q_when (et_or (et_test (ev_op (ev_lenQ (ev_var rfl) hx1) ev_c rv_eqI)) (fun hc => (et_test (ev_op (ev_lenQ (ev_var rfl) hy1) ev_c rv_eqI)))) (fun hb H1 e1 => ?_) (fun hb H1 e1 => ?_)
  · have hnil : s = [] ∨ u = [] := by
      rcases Bool.or_eq_true_iff.mp hb with h | h
      · have := of_decide_eq_true h
        exact .inl (List.length_eq_zero_iff.mp (by rw [← hx2.len]; omega))
      · have := of_decide_eq_true h
        exact .inr (List.length_eq_zero_iff.mp (by rw [← hy2.len]; omega))
    have hn : ¬ TooBig s u := fun h => hnil.elim h.1 h.2.1
    have ht : twist (cntS s) (cntS u) = [] := hnil.elim (fun h => twist_none_l (by rw [h]; rfl)) fun h => twist_none_r (by rw [h]; rfl)
    refine s_retL (el_lst ea_nil (by show 0 ≤ 100000; decide)) (fun p H2 np e2 hp => qQ hn _ H2 (e1.trans e2) ?_)
    refine ⟨0, by have := grt_nonneg s; have := grt_nonneg u; omega, by decide, ?_⟩
    rw [ht]
    exact ⟨[], nil_plain, nil_fok, p, [], rfl, hp, rfl, fun i y h => by simp at h⟩
  have hne : s ≠ [] ∧ u ≠ [] := by
    obtain ⟨h1, h2⟩ := Bool.or_eq_false_iff.mp hb
    have h1 := of_decide_eq_false h1
    have h2 := of_decide_eq_false h2
    exact ⟨fun h => h1 (by rw [hx2.len, h]; rfl), fun h => h2 (by rw [hy2.len, h]; rfl)⟩
  have l1 := ok.len
  have l2 := ok2.len
  refine q_when (et_test (ev_op (ev_op (ev_call (ea_cons (ev_var rfl) ea_nil) (sv_greatest (hs.mono e1) (by omega) fun z hz => Nat.le_trans (ok.it z hz).1 (by decide))) (ev_call (ea_cons (ev_var rfl) ea_nil) (sv_greatest (hu.mono e1) (by omega) fun z hz => Nat.le_trans (ok2.it z hz).1 (by decide))) rv_I0) ev_c rv_I0)) (fun hb2 H2 e2 => ?_) (fun hb2 H2 e2 => ?_)
  · exact qE ⟨hne.1, hne.2, by have := of_decide_eq_true hb2; omega⟩ H2 (e1.trans e2)
  have h8 : grt s + grt u ≤ 8 := by have := of_decide_eq_false hb2; omega
  have hn : ¬ TooBig s u := fun h => by have := h.2.2; omega
  have g0 := grt_nonneg s
  have g1 := grt_nonneg u
  have hg : ∀ z ∈ s, z.2.wt ≤ (grt s).toNat := fun z hz => by have := grt_le hz; omega
  have hh : ∀ z ∈ u, z.2.wt ≤ (grt u).toNat := fun z hz => by have := grt_le hz; omega
  have h8' : (grt s).toNat + (grt u).toNat ≤ 8 := by omega
  have po := twist_pok ok ok2 hg hh h8' bx hy hxy
  have f1 := fit_of ok hg (by omega)
  have f2 := fit_of ok2 hh (by omega)
  have e12 := e1.trans e2
  have cA : ∀ {te : TE} {σ : L2.St} {H3 : Hp} {c : Addr} {s' : List (Int × Br)}, Ev te σ H3 (.ref c) → SumAt K H3 c s' → SOk s' 8 → Er (tCall (sp_counts_of_sum K) [] E0 (tCons te tNil)) σ H3 fun v H4 => ∃ d, v = .ref d ∧ H4 d = some (.dK (kv (cntS s'))) := fun h hc ok => (er_call (ea_cons h ea_nil) (sv_counts_of_sum hc ok)).imp fun v H4 _ ⟨d, e, _, hd⟩ => ⟨d, e, hd⟩
  refine s_retR (R := bqR K s u) (er_callR (ear_one (R := fun v H4 => ∃ d, v = .ref d ∧ H4 d = some (.dK (kv (twist (cntS s) (cntS u))))) (er_callR (ear_pair (cA (ev_var rfl) (hs.mono e12) ok) (cA (ev_var rfl) (hu.mono e12) ok2) (fun e ⟨d, h1, h2⟩ => ⟨d, h1, e _ _ h2⟩) (fun e ⟨d, h1, h2⟩ => ⟨d, h1, e _ _ h2⟩)) (fun vs H3 e3 hv => ?_)) (fun e ⟨d, h1, h2⟩ => ⟨d, h1, e _ _ h2⟩)) (fun vs H3 e3 hv => ?_)) (fun v H3 e3 hv => qQ hn v H3 (e12.trans e3) hv)
  · obtain ⟨v, w, rfl, ⟨d1, rfl, hd1⟩, ⟨d2, rfl, hd2⟩⟩ := hv
    intro H4 e4 Q4 k4 E4
    exact sv_twisted hd1 hd2 (f1.mono (Nat.le_refl _) (show (grt s).toNat ≤ 8 by omega)) (f2.mono (Nat.le_refl _) (show (grt u).toNat ≤ 8 by omega)) (sz_mul _ (by omega) _ (by omega) h8') (by decide) H4 e4 Q4 (fun v5 H5 e5 ⟨d, h1, _, h2⟩ => k4 v5 H5 e5 ⟨d, h1, h2⟩) E4
  · obtain ⟨v, rfl, d, rfl, hd⟩ := hv
    intro H4 e4 Q4 k4 E4
    exact sv_plain_of (.inl hd) po (twist_prim s u) H4 e4 Q4 (fun v5 H5 e5 h5 => k4 v5 H5 e5 ⟨(grt s).toNat + (grt u).toNat, by omega, h8', h5.weak⟩) E4
end
end TB
/-! ## TbJac -/
/-! Three sums turned round. -/
namespace TB
theorem pr_swap (p q : P) (f : W → W → Int) : (pr p fun a => pr q fun b => f a b) = pr q fun b => pr p fun a => f a b := (lin_pr p).pr q f
theorem pr2_add (p q : P) (f g : W → W → Int) : (pr p fun a => pr q fun b => f a b + g a b) = (pr p fun a => pr q fun b => f a b) + pr p fun a => pr q fun b => g a b := by
  have : (fun a => pr q fun b => f a b + g a b) = fun a => (pr q fun b => f a b) + pr q fun b => g a b := by
    funext a
    exact pr_add q _ _
  rw [this, pr_add]
theorem pr3_add (p q r : P) (f g : W → W → W → Int) : (pr p fun a => pr q fun b => pr r fun c => f a b c + g a b c) = (pr p fun a => pr q fun b => pr r fun c => f a b c) + pr p fun a => pr q fun b => pr r fun c => g a b c := by
  have : (fun a => pr q fun b => pr r fun c => f a b c + g a b c) = fun a => (pr q fun b => pr r fun c => f a b c) + pr q fun b => pr r fun c => g a b c := by
    funext a
    exact pr2_add q r _ _
  rw [this, pr_add]
theorem pr3_zero (p q r : P) : (pr p fun _ => pr q fun _ => pr r fun _ => (0 : Int)) = 0 := by
  have h : (fun _ : W => pr q fun _ => pr r fun _ => (0 : Int)) = fun _ => 0 := by
    funext _
    have : (fun _ : W => pr r fun _ => (0 : Int)) = fun _ => 0 := by funext _; exact pr_zero r
    rw [this, pr_zero]
  rw [h, pr_zero]
theorem prot1 (x y z : P) (f : W → W → W → Int) : (pr y fun b => pr z fun c => pr x fun a => f a b c) = pr x fun a => pr y fun b => pr z fun c => f a b c := by
  have : (fun b => pr z fun c => pr x fun a => f a b c) = fun b => pr x fun a => pr z fun c => f a b c := by
    funext b
    exact pr_swap z x fun c a => f a b c
  rw [this]
  exact pr_swap y x fun b a => pr z fun c => f a b c
theorem prot2 (x y z : P) (f : W → W → W → Int) : (pr z fun c => pr x fun a => pr y fun b => f a b c) = pr x fun a => pr y fun b => pr z fun c => f a b c := by
  have h1 : (pr z fun c => pr x fun a => pr y fun b => f a b c) = pr x fun a => pr z fun c => pr y fun b => f a b c := pr_swap z x fun c a => pr y fun b => f a b c
  rw [h1]
  congr 1
  funext a
  exact pr_swap z y fun c b => f a b c
/-- what the bracket of counts with counts told elsewhere comes to -/
theorem deep_pr (p q r i : P) (hi : ∀ φ, pr i φ = pr (twist q r) φ) (φ : W → Int) : pr (twist p i) φ = pr p fun a => pr q fun b => pr r fun c => (φ (a ++ (b ++ c)) - φ ((b ++ c) ++ a)) - (φ (a ++ (c ++ b)) - φ ((c ++ b) ++ a)) := by
  rw [twist_pr]
  congr 1
  funext a
  rw [hi, twist_pr]
theorem jac (x y z i j k : P) (hi : ∀ φ, pr i φ = pr (twist y z) φ) (hj : ∀ φ, pr j φ = pr (twist z x) φ) (hk : ∀ φ, pr k φ = pr (twist x y) φ) (φ : W → Int) : pr (twist x i) φ + pr (twist y j) φ + pr (twist z k) φ = 0 := by
  rw [deep_pr x y z i hi, deep_pr y z x j hj, deep_pr z x y k hk, prot1 x y z (fun a b c => (φ (b ++ (c ++ a)) - φ ((c ++ a) ++ b)) - (φ (b ++ (a ++ c)) - φ ((a ++ c) ++ b))), prot2 x y z (fun a b c => (φ (c ++ (a ++ b)) - φ ((a ++ b) ++ c)) - (φ (c ++ (b ++ a)) - φ ((b ++ a) ++ c))), ← pr3_add, ← pr3_add]
  refine Eq.trans ?_ (pr3_zero x y z)
  congr 1
  funext a
  congr 1
  funext b
  congr 1
  funext c
  simp only [List.append_assoc]
  omega
theorem twist_self (p : P) (φ : W → Int) : pr (twist p p) φ = 0 := by
  rw [twist_pr]
  have h : (pr p fun a => pr p fun b => φ (a ++ b) - φ (b ++ a)) = pr p fun a => pr p fun b => φ (b ++ a) - φ (a ++ b) := pr_swap p p fun a b => φ (a ++ b) - φ (b ++ a)
  have h2 : (pr p fun a => pr p fun b => (φ (a ++ b) - φ (b ++ a)) + (φ (b ++ a) - φ (a ++ b))) = 0 := by
    have : (fun a => pr p fun b => (φ (a ++ b) - φ (b ++ a)) + (φ (b ++ a) - φ (a ++ b))) = fun _ => 0 := by
      funext a
      have : (fun b => (φ (a ++ b) - φ (b ++ a)) + (φ (b ++ a) - φ (a ++ b))) = fun _ => (0 : Int) := by funext b; omega
      rw [this, pr_zero]
    rw [this, pr_zero]
  rw [pr2_add] at h2
  omega
theorem twist_about (p q : P) (φ : W → Int) : pr (twist q p) φ = - pr (twist p q) φ := by
  rw [twist_pr, twist_pr, pr_swap q p, ← pr_neg]
  congr 1
  funext a
  rw [← pr_neg]
  congr 1
  funext b
  omega
end TB
/-! ## TbComp2 -/
/-! Lists of new lists; what stands beside a dict that changes. -/
namespace TB
open PySem PySem.Spec PyProof.Rows L2 Evl
section
variable {K : PySem.W.Frag} {σ : L2.St} {H H' : Hp} {ta tb te ti tl : TE}
/-- what is known of an object at an address, kept by new objects and by stores into other lists -/
structure PSt (R : Addr → Hp → Prop) : Prop where
  ex : ∀ {p H H'}, Ex H H' → R p H → R p H'
  up : ∀ {p H l ys zs}, l ≠ p → H l = some (.lst ys) → R p H → R p (upd H l (.lst zs))
theorem LSum.updL {p l : Addr} {ys zs : List V} {s : List (Int × Br)} (hne : l ≠ p) (hl : H l = some (.lst ys)) (h : LSum K H p s) : LSum K (upd H l (.lst zs)) p s := by
  obtain ⟨xs, h1, h2⟩ := h
  exact ⟨xs, by rw [upd_ne hne.symm]; exact h1, h2.updL hl⟩
/-- [new list for i in range(n)] -/
theorem er_lcR1N {tr : TA} {j : Nat} {vs : List Nat} {n : Int} {R : Nat → Addr → Hp → Prop} (hR : ∀ i, PSt (R i)) (h : EvA tr σ H [.int n]) (hn : 0 ≤ n ∧ n ≤ 40000) (hw : ∀ x, wipe ((wipe σ vs).set j (some x)) vs = wipe σ vs)
    (he : ∀ (i : Nat) H1, Ex H H1 → (i : Int) < n → Er te ((wipe σ vs).set j (some (.int (i : Int)))) H1 (fun v H2 => ∃ p, v = .ref p ∧ H1 p = none ∧ R i p H2)) :
    Er (tLc (iRng1 tr) (gName j) tYes te vs) σ H (fun v H2 => ∃ q ys, v = .ref q ∧ H q = none ∧ H2 q = some (.lst ys) ∧ ys.length = n.toNat ∧ ∀ i y, ys[i]? = some y → ∃ p, y = .ref p ∧ R i p H2) := fun H0 e Q q => h H0 e _ fun H1 e1 => ⟨n, rfl, by omega, by omega, fun Dl hD =>
  lc_range (lo := 0) (n := n.toNat) (fun i H' => H1 Dl = none ∧ Ex H1 H' ∧ ∃ ys, H' Dl = some (.lst ys) ∧ ys.length = i ∧ ∀ j y, ys[j]? = some y → ∃ p, y = .ref p ∧ p ≠ Dl ∧ R j p H') ⟨hD, Ex.new hD, [], upd_same, rfl, fun j y h => by simp at h⟩ (fun i H' hi p => by
    obtain ⟨p1, p2, ys, p3, p4, p5⟩ := p
    refine ⟨hw _, ?_⟩
    have e0 : (0 : Int) + (i : Int) = (i : Int) := Int.zero_add _
    show te ((wipe σ vs).set j (some (.int ((0 : Int) + (i : Int))))) H' fun y H4 => _
    rw [e0]
    refine he i H' ((e.trans e1).trans p2) (by omega) H' (Ex.refl H') _ fun y H4 e4 hy => ?_
    obtain ⟨p, rfl, np, hp⟩ := hy
    have hne : Dl ≠ p := ne_of_none p3 np
    refine ⟨ys, e4 _ _ p3, Nat.lt_trans (show ys.length < 10000000 by omega) (by decide), p1, Ex.mut (p2.trans e4) p1, ys ++ [.ref p], upd_same, by rw [List.length_append, p4]; rfl, fun j z hz => ?_⟩
    rcases Nat.lt_or_ge j ys.length with h | h
    · rw [List.getElem?_append_left h] at hz
      obtain ⟨p', h1, h2, h3⟩ := p5 j z hz
      exact ⟨p', h1, h2, (hR j).up h2.symm (e4 _ _ p3) ((hR j).ex e4 h3)⟩
    · rw [List.getElem?_append_right h] at hz
      have h0 : j - ys.length = 0 := by
        rcases Nat.eq_zero_or_pos (j - ys.length) with h0 | h0
        · exact h0
        · rw [List.getElem?_eq_none (by show 1 ≤ _; omega)] at hz
          cases hz
      rw [h0] at hz
      have e1 : z = .ref p := by simpa using hz.symm
      have e2 : j = i := by omega
      rw [e1, e2]
      exact ⟨p, rfl, hne.symm, (hR i).up hne (e4 _ _ p3) hp⟩)
    (fun H' p => by
      obtain ⟨p1, p2, ys, p3, p4, p5⟩ := p
      exact q _ H' (e1.trans p2) ⟨Dl, ys, rfl, fresh_back (e.trans e1) p1, p3, p4, fun i y hy => by
        obtain ⟨p', h1, _, h3⟩ := p5 i y hy
        exact ⟨p', h1, h3⟩⟩)⟩
/-- [.. for a, b in what makes a list of tuples of two] -/
theorem er_lcTE {β : Type} {S : β → List V → Prop} {f : β → Nat → V × V} {R : β → Nat → V → Hp → Prop} {j k : Nat} {vs : List Nat} (hR : ∀ b i, LSt (R b i)) (h : Er tl σ H fun v H1 => ∃ b a xs, v = .ref a ∧ SqL K H1 a xs ∧ Pairs K H1 xs (f b) ∧ xs.length ≤ 2000000 ∧ S b xs)
    (hw : ∀ x y, wipe (((wipe σ vs).set j (some x)).set k (some y)) vs = wipe σ vs)
    (he : ∀ b xs (i : Nat) H1, S b xs → i < xs.length → Ex H H1 → Er te (((wipe σ vs).set j (some (f b i).1)).set k (some (f b i).2)) H1 (R b i)) : Er (tLc (iList K tl) (gTup K 2 (gCons (gName j) (gCons (gName k) gNil))) tYes te vs) σ H (fun v H2 => ∃ b xs, S b xs ∧ lcR (R b) xs.length H v H2) := fun H0 e Q q => h H0 e _ fun v H1 e1 hv => by
  obtain ⟨b, a, xs, rfl, hs, hp, hz, hS⟩ := hv
  refine ⟨a, rfl, ⟨xs, hs⟩, fun Dl hD =>
  lc_list (xs := xs) (fun i H' => H1 Dl = none ∧ Ex H1 H' ∧ ∃ ys, H' Dl = some (.lst ys) ∧ ys.length = i ∧ ∀ j y, ys[j]? = some y → R b j y H') ⟨hD, Ex.new hD, [], upd_same, rfl, fun j y h => by simp at h⟩
    (fun i H' _ p => ex_l p.2.1 hs) (fun i x H' hi p => ?_)
    (fun H' p => by
      obtain ⟨p1, p2, ys, p3, p4, p5⟩ := p
      exact q _ H' (e1.trans p2) ⟨b, xs, hS, Dl, ys, rfl, fresh_back (e.trans e1) p1, p3, p4, p5⟩)⟩
  obtain ⟨u, rfl, hq⟩ := hp i x hi
  have ee := (e.trans e1).trans p.2.1
  have hlt := (List.getElem?_eq_some_iff.mp hi).1
  exact ⟨u, [(f b i).1, (f b i).2], rfl, ex_t p.2.1 hq, rfl, (f b i).1, [(f b i).2], rfl, (f b i).2, [], rfl, rfl, hw _ _, lc_turn (hR b) p (by omega) (he b xs i H' hS hlt ee)⟩
/-- {} -/
theorem er_dnew : Er (fun _ H Q => ∀ d, H d = none → Q (.ref d) (upd H d (.dK []))) σ H (newD H []) := fun H1 e Q q d hd => q _ _ (Ex.new hd) ⟨d, rfl, fresh_back e hd, upd_same⟩
/-- for x in what makes a list, as the last statement -/
theorem s_forE {G : List V → Hp → Prop} {tu : TS} {D : Ends} {g : TG} (h : Er tl σ H fun v H1 => ∃ a xs, v = .ref a ∧ SqL K H1 a xs ∧ G xs H1)
    (k : ∀ a xs H1, Ex H H1 → SqL K H1 a xs → G xs H1 → ∃ Pv : Nat → L2.St → Hp → Prop, Pv 0 σ H1 ∧ (∀ i σ' H', i ≤ xs.length → Pv i σ' H' → SqL K H' a xs) ∧ (∀ i x σ' H', xs[i]? = some x → Pv i σ' H' → g x σ' H' fun σ2 H2 => tu { D with nx := Pv (i + 1), ct := Pv (i + 1), bk := D.nx } σ2 H2) ∧ (∀ σ' H', Pv xs.length σ' H' → D.nx σ' H')) :
    tFor (iList K tl) g tu D σ H := h H (Ex.refl H) _ fun v H1 e1 hv => by
  obtain ⟨a, xs, rfl, hs, hg⟩ := hv
  obtain ⟨Pv, h0, hl, hb, hd⟩ := k a xs H1 e1 hs hg
  exact ⟨a, rfl, ⟨xs, hs⟩, for_list (D := D) Pv h0 hl hb hd⟩
/-! beside a dict that changes -/
theorem But.sql {d : Addr} {H H' : Hp} {kvs : List (Key × V)} (b : But d d H H') (hd : H d = some (.dK kvs)) {a : Addr} {xs : List V} (h : SqL K H a xs) : SqL K H' a xs := by
  have ne : ∀ {o : HO}, H a = some o → (∀ z, o ≠ .dK z) → a ≠ d := fun h1 h2 e => by
    rw [e, hd] at h1
    exact h2 _ (Option.some.inj h1).symm
  rcases h with (h | ⟨o, h⟩) | h
  · have := ne h (fun z e => by cases e)
    exact .inl (.inl (b _ _ this this h))
  · have := ne h (fun z e => by cases e)
    exact .inl (.inr ⟨o, b _ _ this this h⟩)
  · exact .inr h
theorem But.sqt {d : Addr} {H H' : Hp} {kvs : List (Key × V)} (b : But d d H H') (hd : H d = some (.dK kvs)) {a : Addr} {xs : List V} (h : SqT K H a xs) : SqT K H' a xs := by
  have ne : ∀ {o : HO}, H a = some o → (∀ z, o ≠ .dK z) → a ≠ d := fun h1 h2 e => by
    rw [e, hd] at h1
    exact h2 _ (Option.some.inj h1).symm
  rcases h with (h | ⟨o, h⟩) | h
  · have := ne h (fun z e => by cases e)
    exact .inl (.inl (b _ _ this this h))
  · have := ne h (fun z e => by cases e)
    exact .inl (.inr ⟨o, b _ _ this this h⟩)
  · exact .inr h
/-- a call as a statement, told by its promise -/
theorem q_callX {sp : Sp} {dvs vs : List V} {E : XK} {tr : TA} {tz : TS} {D : Ends} (h : EvA tr σ H vs) (k : ∀ H1, Ex H H1 → sp (vs ++ dvs) H1 (fun _ H' => tz D σ H') E) : tSeq (tDrop (tCall sp dvs E tr)) tz D σ H := h H (Ex.refl H) _ k
end
end TB
/-! ## TbThree -/
/-! What the law of three sums turned round asks. -/
namespace TB
open PySem PySem.Spec PyProof.Rows L2 Evl
/-- the bracket of p with the bracket of q with r -/
def dp (p q r : P) (φ : W → Int) : Int := pr p fun a => pr q fun b => pr r fun c => (φ (a ++ (b ++ c)) - φ ((b ++ c) ++ a)) - (φ (a ++ (c ++ b)) - φ ((c ++ b) ++ a))
theorem dp_pr {p q r i : P} (hi : ∀ φ, pr i φ = pr (twist q r) φ) (φ : W → Int) : pr (twist p i) φ = dp p q r φ := deep_pr p q r i hi φ
theorem dp_jac (x y z : P) (φ : W → Int) : dp x y z φ + dp y z x φ + dp z x y φ = 0 := by
  rw [← dp_pr (i := twist y z) (fun _ => rfl), ← dp_pr (i := twist z x) (fun _ => rfl), ← dp_pr (i := twist x y) (fun _ => rfl)]
  exact jac x y z _ _ _ (fun _ => rfl) (fun _ => rfl) (fun _ => rfl) φ
theorem sumOf_pr {F : P} (n : Nrm F) (φ : W → Int) : pr (cntS (sumOf F)) φ = ps F φ := by rw [cntS_pr, sb_sumOf n]
/-- a plain sum put to counts, word by word in order -/
def plPut (F C : P) : P := puts (fun w => w) (fun w => get F w) (ord (keys F)) C
theorem perm_sum {xs ys : List Int} (h : xs.Perm ys) : xs.sum = ys.sum := by
  induction h with
  | nil => rfl
  | cons x _ ih => rw [List.sum_cons, List.sum_cons, ih]
  | swap x y l => rw [List.sum_cons, List.sum_cons, List.sum_cons, List.sum_cons]; omega
  | trans _ _ h1 h2 => exact h1.trans h2
theorem sum_ord {F : P} (n : Nrm F) (φ : W → Int) : ((ord (keys F)).map fun w => get F w * φ w).sum = pr F φ := by
  have h1 : ((ord (keys F)).map fun w => get F w * φ w).sum = ((keys F).map fun w => get F w * φ w).sum := perm_sum ((ord_perm (keys F)).map _)
  rw [h1, ← sum_pr F φ]
  unfold keys
  rw [List.map_map]
  congr 1
  refine List.map_congr_left fun x hx => ?_
  show get F x.1 * φ x.1 = x.2 * φ x.1
  rw [get_mem n.nd (show (x.1, x.2) ∈ F from hx)]
theorem plPut_pr {F C : P} (n : Nrm F) (c : Nrm C) (φ : W → Int) : pr (plPut F C) φ = pr C φ + pr F φ := by
  unfold plPut
  rw [puts_pr _ _ _ c, sum_ord n]
theorem plPut_nrm {F C : P} (c : Nrm C) : Nrm (plPut F C) := puts_nrm _ _ _ c
theorem plPut_len (F C : P) : (plPut F C).length ≤ C.length + F.length := by
  have := puts_len (fun w : W => w) (fun w => get F w) (ord (keys F)) C
  have h1 : (ord (keys F)).length = (keys F).length := ord_len _
  have h2 : (keys F).length = F.length := List.length_map _
  unfold plPut
  omega
theorem plPut_keys {F C : P} {w : W} (h : w ∈ keys (plPut F C)) : w ∈ keys C ∨ w ∈ keys F := by
  rcases puts_keys _ _ h with h | ⟨x, hx, rfl⟩
  · exact .inl h
  · exact .inr ((ord_perm _).mem_iff.mp hx)
/-- what is put together so far: plain words alone -/
structure Acc (C : P) (n : Nat) (f : (W → Int) → Int) : Prop where
  nrm : Nrm C
  pl : ∀ w ∈ keys C, Pl w
  len : C.length ≤ n
  eq : ∀ φ, ps C φ = f φ
theorem Acc.nil : Acc [] 0 fun _ => 0 := ⟨Nrm.nil, (fun _ h => by cases h), Nat.le_refl _, fun _ => rfl⟩
theorem Acc.put {C F : P} {n m : Nat} {f g : (W → Int) → Int} (h : Acc C n f) (nF : Nrm F) (pF : ∀ w ∈ keys F, Pl w) (hl : F.length ≤ m) (e : ∀ φ, ps F φ = g φ) : Acc (plPut F C) (n + m) fun φ => f φ + g φ :=
  ⟨plPut_nrm h.nrm, fun w hw => (plPut_keys hw).elim (h.pl w) (pF w), by have := plPut_len F C; have := h.len; omega, fun φ => by
    have h1 := plPut_pr nF h.nrm fun w => br (pb w) φ
    have h2 := h.eq φ
    have h3 := e φ
    unfold ps at h2 h3 ⊢
    rw [h1, h2, h3]⟩
theorem Acc.nought {C : P} {n : Nat} {f : (W → Int) → Int} (h : Acc C n f) (z : ∀ φ, f φ = 0) : C = [] := ps_nought h.nrm h.pl fun φ => by rw [h.eq, z]
/-- the plain sum of the bracket of a sum with itself -/
theorem self_nil {N : Nat} {p F : P} (h : PlainOf N (twist p p) F) : F = [] := ps_nought h.nrm (fun w hw => (h.pl w hw).1) fun φ => by rw [h.eq, twist_self]
/-- turned about: contrary counts -/
theorem about_get {N M : Nat} {p q F G : P} (hF : PlainOf N (twist p q) F) (hG : PlainOf M (twist q p) G) : ∀ w, get F w = 0 - get G w := by
  have nG : Nrm (addTo [] G (-1)) := addTo_nrm Nrm.nil _
  have h := ps_one hF.nrm nG (fun w hw => (hF.pl w hw).1) (fun w hw => by
    rcases puts_keys _ _ hw with hw | ⟨x, hx, rfl⟩
    · cases hw
    · exact (hG.pl _ (List.mem_map.mpr ⟨x, hx, rfl⟩)).1) fun φ => by
      have e : ps (addTo [] G (-1)) φ = pr [] (fun w => br (pb w) φ) + (-1) * ps G φ := addTo_pr Nrm.nil _ _
      rw [e, pr_nil, hF.eq, hG.eq, twist_about p q]
      omega
  intro w
  rw [h w, ← pr_dw nG.nd, addTo_pr Nrm.nil, pr_dw hG.nrm.nd, pr_nil]
  omega
theorem about_keys {F G : P} (nF : Nrm F) (nG : Nrm G) (h : ∀ w, get F w = 0 - get G w) : ord (keys F) = ord (keys G) := by
  refine sorted_uniq (ord_sorted _) (ord_sorted _) (((ord_perm _).trans ((List.perm_ext_iff_of_nodup nF.nd nG.nd).mpr fun w => ?_)).trans (ord_perm _).symm)
  rw [mem_get nF, mem_get nG, h]
  omega
theorem keys_nil {F : P} (h : F = []) : (keys F).length = 0 := by rw [h]; rfl
/-- the weights of a plain sum -/
theorem sumOf_wt {F : P} {N : Nat} (h : ∀ w ∈ keys F, Pl w ∧ w.length ≤ N ∧ ABC w) : ∀ x ∈ sumOf F, x.2.wt ≤ N := fun x hx => by
  obtain ⟨w, hw, rfl⟩ := List.mem_map.mp hx
  obtain ⟨h1, h2, _⟩ := h w ((ord_perm _).mem_iff.mp hw)
  show (pb w).wt ≤ N
  rw [pb_wt h1]; exact h2
theorem sumOf_bit {F : P} (n : Nrm F) {b : Nat} (h : ∀ x ∈ F, x.2.natAbs ≤ bit b) : ∀ x ∈ sumOf F, x.1.natAbs ≤ bit b := fun x hx => by
  obtain ⟨w, hw, rfl⟩ := List.mem_map.mp hx
  obtain ⟨c, hc⟩ := mem_keys.mp ((ord_perm _).mem_iff.mp hw)
  show (get F w).natAbs ≤ _
  rw [get_mem n.nd hc]
  exact h _ hc
/-- the list of the contrary counts, as data -/
def NgAt (K : PySem.W.Frag) (F : TB.P) (i : Nat) (v : V) (H : Hp) : Prop := ∃ q, v = .ref q ∧ SqT K H q [.int (0 - get F ((ord (keys F)).getD i [])), tx ((ord (keys F)).getD i [])]
theorem NgAt.st (K : PySem.W.Frag) (F : TB.P) (i : Nat) : LSt (NgAt K F i) := LSt.two
theorem ng_pl {K : PySem.W.Frag} {F G : P} {H : Hp} {i : Nat} {v : V} (e : ord (keys F) = ord (keys G)) (h : ∀ w, get F w = 0 - get G w) (hv : NgAt K G i v H) : PlAt K F i v H := by
  obtain ⟨q, h1, h2⟩ := hv
  rw [← e, ← h] at h2
  exact ⟨q, h1, h2⟩
end TB
/-! ## TbFill -/
/-! Brackets whose letters stand for sums. -/
namespace TB
open PySem PySem.Spec PyProof.Rows L2 Evl
def fillP (g : Nat → P) : Br → P
  | .leaf c => g c
  | .node l r => twist (fillP g l) (fillP g r)
def lfillP (g : Nat → P) : Br → P
  | .leaf c => g c
  | .node l r => ltwist (lfillP g l) (lfillP g r)
def fillS (S : Nat → List (Int × Br)) : Br → List (Int × Br)
  | .leaf c => S c
  | .node l r => prodS (fillS S l) (fillS S r)
theorem fillP_pr {g : Nat → P} {S : Nat → List (Int × Br)} (hg : ∀ c φ, pr (g c) φ = sb (S c) φ) : ∀ (t : Br) (φ : W → Int), pr (fillP g t) φ = sb (fillS S t) φ
  | .leaf c, φ => hg c φ
  | .node l r, φ => by
    show pr (twist (fillP g l) (fillP g r)) φ = sb (prodS (fillS S l) (fillS S r)) φ
    rw [twist_pr, sb_prod, fillP_pr hg l]
    congr 1
    funext a
    rw [fillP_pr hg r]
theorem lfillP_pr {g : Nat → P} {S : Nat → List (Int × Br)} (hg : ∀ c φ, pr (g c) φ = sb (S c) φ) : ∀ (t : Br) (φ : W → Int), pr (lfillP g t) φ = sb (fillS S t) φ
  | .leaf c, φ => hg c φ
  | .node l r, φ => by
    show pr (ltwist (lfillP g l) (lfillP g r)) φ = sb (prodS (fillS S l) (fillS S r)) φ
    rw [ltwist_pr, sb_prod, lfillP_pr hg l]
    congr 1
    funext a
    rw [lfillP_pr hg r]
/-- letters for themselves -/
theorem fill_self : ∀ {t : Br}, ABC t.letters → ∀ {S : Nat → List (Int × Br)}, (∀ c, c = 97 ∨ c = 98 ∨ c = 99 → S c = [(1, .leaf c)]) → ∀ φ, sb (fillS S t) φ = br t φ
  | .leaf c, h, S, hS, φ => by
    show sb (S c) φ = φ [c]
    rw [hS c (h c (by simp [Br.letters]))]
    show 1 * φ [c] + 0 = φ [c]
    omega
  | .node l r, h, S, hS, φ => by
    show sb (prodS (fillS S l) (fillS S r)) φ = br (.node l r) φ
    have h1 : ABC l.letters := fun c hc => h c (List.mem_append_left _ hc)
    have h2 : ABC r.letters := fun c hc => h c (List.mem_append_right _ hc)
    rw [sb_prod, fill_self h1 hS, br_node]
    congr 1
    funext a
    exact fill_self h2 hS _
/-! ### bounds -/
/-- counts small enough to be filled in -/
structure Lf (p : P) : Prop where
  nrm : Nrm p
  len : p.length ≤ 8
  tot : tot p ≤ bit 121
  wl : ∀ w ∈ keys p, w.length ≤ 3
theorem bit200k {n : Nat} (h : n < 200000) : bit n < bit 200000 := bit_lt h
structure FF (p : P) (k : Nat) : Prop where
  nrm : Nrm p
  len : p.length ≤ 2 ^ (4 * k - 1)
  tot : tot p ≤ bit (122 * k - 1)
  wl : ∀ w ∈ keys p, w.length ≤ 3 * k
theorem Lf.ff {p : P} (h : Lf p) : FF p 1 := ⟨h.nrm, h.len, h.tot, h.wl⟩
theorem FF.fit {p : P} {k : Nat} (h : FF p k) (hk : k ≤ 12) : Fit p (2 ^ (4 * k - 1)) 36 := ⟨h.nrm, h.len, Nat.lt_of_le_of_lt h.tot (bit_lt (by omega)), fun w hw => Nat.le_trans (h.wl w hw) (by omega)⟩
theorem ff_len {k j : Nat} (hk : 1 ≤ k) (hj : 1 ≤ j) : 2 * (2 ^ (4 * k - 1) * 2 ^ (4 * j - 1)) = 2 ^ (4 * (k + j) - 1) := by
  rw [← Nat.pow_add, ← Nat.pow_succ']
  congr 1
  omega
theorem ff_tot {k j a b : Nat} (hk : 1 ≤ k) (hj : 1 ≤ j) (ha : a ≤ bit (122 * k - 1)) (hb : b ≤ bit (122 * j - 1)) : 2 * (a * b) ≤ bit (122 * (k + j) - 1) := by
  have h1 : a * b ≤ bit (122 * k - 1) * bit (122 * j - 1) := Nat.mul_le_mul ha hb
  rw [bit_add] at h1
  have h2 := bit_dbl (122 * k - 1 + (122 * j - 1))
  have e : 122 * k - 1 + (122 * j - 1) + 1 = 122 * (k + j) - 1 := by omega
  rw [e] at h2
  omega
theorem FF.twist {p q : P} {k j : Nat} (hp : FF p k) (hq : FF q j) (hk : 1 ≤ k) (hj : 1 ≤ j) : FF (TB.twist p q) (k + j) := ⟨twist_nrm _ _, by
  have h1 := twist_len p q
  have h2 : p.length * q.length ≤ 2 ^ (4 * k - 1) * 2 ^ (4 * j - 1) := Nat.mul_le_mul hp.len hq.len
  have h3 := ff_len hk hj
  omega, Nat.le_trans (twist_tot p q) (ff_tot hk hj hp.tot hq.tot), fun w hw => by
  obtain ⟨a, ha, b, hb, e⟩ := twist_keys hw
  have h1 := hp.wl a ha
  have h2 := hq.wl b hb
  rcases e with rfl | rfl <;> rw [List.length_append] <;> omega⟩
theorem FF.ltwist {p q : P} {k j : Nat} (hp : FF p k) (hq : FF q j) (hk : 1 ≤ k) (hj : 1 ≤ j) : FF (TB.ltwist p q) (k + j) := ⟨ltwist_nrm _ _, by
  have h1 := ltwist_len p q
  have h2 : p.length * q.length ≤ 2 ^ (4 * k - 1) * 2 ^ (4 * j - 1) := Nat.mul_le_mul hp.len hq.len
  have h3 := ff_len hk hj
  omega, Nat.le_trans (ltwist_tot p q) (ff_tot hk hj hp.tot hq.tot), fun w hw => by
  obtain ⟨a, ha, b, hb, e⟩ := ltwist_keys hw
  have h1 := hp.wl a ha
  have h2 := hq.wl b hb
  rcases e with rfl | rfl <;> rw [List.length_append] <;> omega⟩
theorem fill_ff {g : Nat → P} : ∀ {t : Br}, ABC t.letters → (∀ c, c = 97 ∨ c = 98 ∨ c = 99 → Lf (g c)) → FF (fillP g t) t.wt
  | .leaf c, h, hg => (hg c (h c (by simp [Br.letters]))).ff
  | .node l r, h, hg => (fill_ff (fun c hc => h c (List.mem_append_left _ hc)) hg).twist (fill_ff (fun c hc => h c (List.mem_append_right _ hc)) hg) l.wt_pos r.wt_pos
theorem lfill_ff {g : Nat → P} : ∀ {t : Br}, ABC t.letters → (∀ c, c = 97 ∨ c = 98 ∨ c = 99 → Lf (g c)) → FF (lfillP g t) t.wt
  | .leaf c, h, hg => (hg c (h c (by simp [Br.letters]))).ff
  | .node l r, h, hg => (lfill_ff (fun c hc => h c (List.mem_append_left _ hc)) hg).ltwist (lfill_ff (fun c hc => h c (List.mem_append_right _ hc)) hg) l.wt_pos r.wt_pos
theorem ff_room {k j : Nat} (hk : 1 ≤ k) (hj : 1 ≤ j) (h : k + j ≤ 4) : 2 ^ (4 * k - 1) * 2 ^ (4 * j - 1) ≤ 1000000 := by
  rw [← Nat.pow_add]
  exact Nat.le_trans (Nat.pow_le_pow_right (by decide) (show 4 * k - 1 + (4 * j - 1) ≤ 14 by omega)) (by decide)
/-! ### weights -/
def wsum (S : Nat → List (Int × Br)) (t : Br) : Int := (t.letters.map fun c => grt (S c)).sum
theorem wsum_node (S : Nat → List (Int × Br)) (l r : Br) : wsum S (.node l r) = wsum S l + wsum S r := by
  unfold wsum
  show ((l.letters ++ r.letters).map _).sum = _
  rw [List.map_append, List.sum_append]
theorem fill_keys {g : Nat → P} {S : Nat → List (Int × Br)} (hg : ∀ c, c = 97 ∨ c = 98 ∨ c = 99 → ∀ w ∈ keys (g c), (w.length : Int) ≤ grt (S c) ∧ ABC w) : ∀ (t : Br), ABC t.letters → ∀ w ∈ keys (fillP g t), (w.length : Int) ≤ wsum S t ∧ ABC w
  | .leaf c, ht, w, hw => by
    have h := hg c (ht c (by simp [Br.letters])) w hw
    have e : wsum S (.leaf c) = grt (S c) := by show grt (S c) + 0 = _; omega
    rw [e]; exact h
  | .node l r, ht, w, hw => by
    obtain ⟨a, ha, b, hb, e⟩ := twist_keys hw
    obtain ⟨a1, a2⟩ := fill_keys hg l (fun c hc => ht c (List.mem_append_left _ hc)) a ha
    obtain ⟨b1, b2⟩ := fill_keys hg r (fun c hc => ht c (List.mem_append_right _ hc)) b hb
    rw [wsum_node]
    have app : ∀ {a b : W}, ABC a → ABC b → ABC (a ++ b) := fun ha hb c hc => (List.mem_append.mp hc).elim (ha c) (hb c)
    rcases e with rfl | rfl
    · exact ⟨by rw [List.length_append]; omega, app a2 b2⟩
    · exact ⟨by rw [List.length_append]; omega, app b2 a2⟩
theorem fill_none {g : Nat → P} {c : Nat} (hc : g c = []) : ∀ {t : Br}, c ∈ t.letters → fillP g t = []
  | .leaf d, h => by
    have e : c = d := by simpa [Br.letters] using h
    rw [← e]; exact hc
  | .node l r, h => by
    rcases List.mem_append.mp (show c ∈ l.letters ++ r.letters from h) with h | h
    · exact twist_none_l (fill_none hc h)
    · exact twist_none_r (fill_none hc h)
/-- a bracket that would come to too great a weight -/
def Hi (S : Nat → List (Int × Br)) (t : Br) : Prop := (∀ c ∈ t.letters, S c ≠ []) ∧ 8 < wsum S t
def Big (total : List (Int × Br)) (S : Nat → List (Int × Br)) : Prop := ∃ x ∈ total, Hi S x.2
theorem grt_pos {s : List (Int × Br)} : 0 < grt s ↔ s ≠ [] := by
  constructor
  · intro h e
    rw [e, grt_nil] at h
    omega
  · intro h
    obtain ⟨x, _, e⟩ := grt_at h
    have := x.2.wt_pos
    omega
/-! ### what is put in -/
def scl (c : Int) (s : List (Int × Br)) : List (Int × Br) := s.map fun y => (c * y.1, y.2)
theorem sb_scl (c : Int) : ∀ (s : List (Int × Br)) (φ : W → Int), sb (scl c s) φ = c * sb s φ
  | [], φ => (Int.mul_zero c).symm
  | (d, t) :: s, φ => by
    show c * d * br t φ + sb (scl c s) φ = c * (d * br t φ + sb s φ)
    rw [sb_scl c s φ, Int.mul_add, Int.mul_assoc]
def putS (S : Nat → List (Int × Br)) (total : List (Int × Br)) : List (Int × Br) := total.flatMap fun x => scl x.1 (fillS S x.2)
theorem sumT_putS {G : Br → P} {S : Nat → List (Int × Br)} (hG : ∀ t φ, pr (G t) φ = sb (fillS S t) φ) : ∀ (s : List (Int × Br)) {f : P}, Nrm f → ∀ φ, pr (sumT G s f) φ = pr f φ + sb (putS S s) φ
  | [], f, n, φ => by show pr f φ = pr f φ + 0; omega
  | (c, t) :: r, f, n, φ => by
    show pr (sumT G r (addTo f (G t) c)) φ = _
    rw [sumT_putS hG r (addTo_nrm n c), addTo_pr n, hG]
    show _ = pr f φ + sb (scl c (fillS S t) ++ putS S r) φ
    rw [sb_app, sb_scl]
    omega
theorem putS_self {S : Nat → List (Int × Br)} (hS : ∀ c, c = 97 ∨ c = 98 ∨ c = 99 → S c = [(1, .leaf c)]) : ∀ {s : List (Int × Br)}, (∀ x ∈ s, ABC x.2.letters) → ∀ φ, sb (putS S s) φ = sb s φ
  | [], _, φ => rfl
  | (c, t) :: s, h, φ => by
    show sb (scl c (fillS S t) ++ putS S s) φ = c * br t φ + sb s φ
    rw [sb_app, sb_scl, fill_self (h _ List.mem_cons_self) hS, putS_self hS fun x hx => h x (List.mem_cons_of_mem _ hx)]
/-- all of a sum, its brackets' counts bounded -/
theorem sumT_lenG {G : Br → P} {B : Nat} : ∀ (s : List (Int × Br)) (f : P), (∀ x ∈ s, (G x.2).length ≤ B) → (sumT G s f).length ≤ f.length + s.length * B
  | [], f, _ => by show f.length ≤ f.length + 0 * B; omega
  | x :: r, f, h => by
    have h1 := sumT_lenG r (addTo f (G x.2) x.1) fun y hy => h y (List.mem_cons_of_mem _ hy)
    have h2 := puts_len (fun y : W × Int => y.1) (fun y => x.1 * y.2) (G x.2) f
    have h3 := h x List.mem_cons_self
    show (sumT G r (addTo f (G x.2) x.1)).length ≤ f.length + (r.length + 1) * B
    have h6 : (addTo f (G x.2) x.1).length ≤ f.length + (G x.2).length := h2
    rw [Nat.add_mul, Nat.one_mul]
    omega
theorem sumT_totG {G : Br → P} {B : Nat} : ∀ (s : List (Int × Br)) {f : P}, Nrm f → (∀ x ∈ s, x.1.natAbs * tot (G x.2) ≤ B) → tot (sumT G s f) ≤ tot f + s.length * B
  | [], f, _, _ => by show tot f ≤ tot f + 0 * B; omega
  | x :: r, f, n, h => by
    have h1 := sumT_totG r (addTo_nrm (p := G x.2) n x.1) fun y hy => h y (List.mem_cons_of_mem _ hy)
    have h2 := addTo_tot (p := G x.2) n x.1
    have h3 := h x List.mem_cons_self
    show tot (sumT G r (addTo f (G x.2) x.1)) ≤ tot f + (r.length + 1) * B
    rw [Nat.add_mul, Nat.one_mul]
    omega
theorem map_getDg {α : Type} (l : List α) (d : α) (f : α → V) : (List.range l.length).map (fun i => f (l.getD i d)) = l.map f := by
  refine List.ext_getElem? fun i => ?_
  rw [List.getElem?_map, List.getElem?_map]
  rcases Nat.lt_or_ge i l.length with hi | hi
  · rw [List.getElem?_range hi, List.getElem?_eq_getElem hi]
    show some (f (l.getD i d)) = some (f l[i])
    rw [List.getD_eq_getElem?_getD, List.getElem?_eq_getElem hi]
    rfl
  · rw [List.getElem?_eq_none hi, List.getElem?_eq_none (by rw [List.length_range]; exact hi)]
    rfl
/-! ### dicts with the three letters for keys -/
def D3 (x y z : V) : List (Key × V) := [(Sum.inr (sOf [97]), x), (Sum.inr (sOf [98]), y), (Sum.inr (sOf [99]), z)]
def a3 {α : Type} (x y z : α) (c : Nat) : α := if c = 97 then x else if c = 98 then y else z
theorem d3_get {x y z : V} {c : Nat} (hc : c = 97 ∨ c = 98 ∨ c = 99) : valV (D3 x y z) (Sum.inr (sOf [c])) = some (a3 x y z c) := by
  have ne : ∀ {a b : Nat}, a ≠ b → ¬ ((Sum.inr (sOf [a]) : Key) = Sum.inr (sOf [b])) := fun h e => h (by injection sOf_inj (Sum.inr.inj e))
  rcases hc with rfl | rfl | rfl
  · exact valV_pos rfl
  · rw [show D3 x y z = (Sum.inr (sOf [97]), x) :: (Sum.inr (sOf [98]), y) :: [(Sum.inr (sOf [99]), z)] from rfl, valV_neg (ne (by decide))]
    exact valV_pos rfl
  · rw [show D3 x y z = (Sum.inr (sOf [97]), x) :: (Sum.inr (sOf [98]), y) :: [(Sum.inr (sOf [99]), z)] from rfl, valV_neg (ne (by decide)), valV_neg (ne (by decide))]
    exact valV_pos rfl
theorem a3_fun {α β : Type} (f : α → β) (p : Nat → α) {c : Nat} (hc : c = 97 ∨ c = 98 ∨ c = 99) : a3 (f (p 97)) (f (p 98)) (f (p 99)) c = f (p c) := by
  rcases hc with rfl | rfl | rfl <;> rfl
section
variable {K : PySem.W.Frag} {σ : L2.St} {H H' : Hp} {ta tb te ti tl : TE}
theorem ev_d3 {d : Addr} {p : Nat → Addr} {c : Nat} (h : Ev ta σ H (.ref d)) (hw : Ev tb σ H (tx [c])) (hd : Rd H d (.dK (D3 (.ref (p 97)) (.ref (p 98)) (.ref (p 99))))) (hc : c = 97 ∨ c = 98 ∨ c = 99) : Ev (tDGet ta tb) σ H (.ref (p c)) := fun H1 a Q q =>
  h H1 a _ fun H2 e2 => hw H2 (a.trans e2) _ fun H3 e3 => ⟨d, .ref (p c), rfl, .inl ⟨_, Sum.inr (sOf [c]), ex_rd ((a.trans e2).trans e3) hd, rfl, by rw [d3_get hc, a3_fun V.ref p hc]⟩, q H3 (e2.trans e3)⟩
/-- three sums by their letters -/
structure S3 (K : PySem.W.Frag) (H : Hp) (d : Addr) (p : Nat → Addr) (S : Nat → List (Int × Br)) : Prop where
  dict : Rd H d (.dK (D3 (.ref (p 97)) (.ref (p 98)) (.ref (p 99))))
  sum : ∀ c, c = 97 ∨ c = 98 ∨ c = 99 → SumAt K H (p c) (S c)
theorem S3.mono {d : Addr} {p : Nat → Addr} {S : Nat → List (Int × Br)} (e : Ex H H') (h : S3 K H d p S) : S3 K H' d p S := ⟨ex_rd e h.dict, fun c hc => (h.sum c hc).mono e⟩
/-- three counts by their letters -/
def C3 (H : Hp) (d : Addr) (p : Nat → Addr) (g : Nat → TB.P) : Prop := ∃ kvs : List (Key × V), Rd H d (.dK kvs) ∧ ∀ c, c = 97 ∨ c = 98 ∨ c = 99 → valV kvs (Sum.inr (sOf [c])) = some (.ref (p c)) ∧ H (p c) = some (.dK (kv (g c)))
theorem C3.mono {d : Addr} {p : Nat → Addr} {g : Nat → TB.P} (e : Ex H H') (h : C3 H d p g) : C3 H' d p g := by
  obtain ⟨kvs, h1, h2⟩ := h
  exact ⟨kvs, ex_rd e h1, fun c hc => ⟨(h2 c hc).1, e _ _ (h2 c hc).2⟩⟩
theorem ev_c3 {d : Addr} {p : Nat → Addr} {g : Nat → TB.P} {c : Nat} (h : Ev ta σ H (.ref d)) (hw : Ev tb σ H (tx [c])) (hd : C3 H d p g) (hc : c = 97 ∨ c = 98 ∨ c = 99) : Ev (tDGet ta tb) σ H (.ref (p c)) := fun H1 a Q q => by
  obtain ⟨kvs, h1, h2⟩ := hd
  exact h H1 a _ fun H2 e2 => hw H2 (a.trans e2) _ fun H3 e3 => ⟨d, .ref (p c), rfl, .inl ⟨kvs, Sum.inr (sOf [c]), ex_rd ((a.trans e2).trans e3) h1, rfl, (h2 c hc).1.symm⟩, q H3 (e2.trans e3)⟩
/-- {"a": x, "b": y, "c": z} -/
theorem er_disp3 {ka kb kc va vb vc : TE} {R1 R2 R3 : V → Hp → Prop} (k1 : ∀ {H1}, Ex H H1 → Ev ka σ H1 (tx [97])) (k2 : ∀ {H1}, Ex H H1 → Ev kb σ H1 (tx [98])) (k3 : ∀ {H1}, Ex H H1 → Ev kc σ H1 (tx [99])) (h1 : Er va σ H R1) (h2 : Er vb σ H R2) (h3 : Er vc σ H R3)
    (m1 : ∀ {v H H'}, Ex H H' → R1 v H → R1 v H') (m2 : ∀ {v H H'}, Ex H H' → R2 v H → R2 v H') (m3 : ∀ {v H H'}, Ex H H' → R3 v H → R3 v H')
    (u1 : ∀ {v H d kvs}, H d = some (.dK []) → R1 v H → R1 v (upd H d (.dK kvs))) (u2 : ∀ {v H d kvs}, H d = some (.dK []) → R2 v H → R2 v (upd H d (.dK kvs))) (u3 : ∀ {v H d kvs}, H d = some (.dK []) → R3 v H → R3 v (upd H d (.dK kvs))) :
    Er (tDisp [(ka, va), (kb, vb), (kc, vc)]) σ H (fun v H2 => ∃ d x y z, v = .ref d ∧ H d = none ∧ H2 d = some (.dK (D3 x y z)) ∧ R1 x H2 ∧ R2 y H2 ∧ R3 z H2) := fun H1 e Q q p hp => by
  have e1 : Ex H (upd H1 p (.dK [])) := e.trans (Ex.new hp)
  refine k1 e1 _ (Ex.refl _) _ fun G1 g1 => h1 G1 (e1.trans g1) _ fun x G2 g2 hx => k2 ((e1.trans g1).trans g2) _ (Ex.refl _) _ fun G3 g3 => h2 G3 (((e1.trans g1).trans g2).trans g3) _ fun y G4 g4 hy => k3 ((((e1.trans g1).trans g2).trans g3).trans g4) _ (Ex.refl _) _ fun G5 g5 => h3 G5 (((((e1.trans g1).trans g2).trans g3).trans g4).trans g5) _ fun z G6 g6 hz => ?_
  have g16 := ((((g1.trans g2).trans g3).trans g4).trans g5).trans g6
  have hp6 := g16 _ _ (upd_same (H := H1) (a := p) (o := .dK []))
  refine ⟨hp6, D3 x y z, rfl, by show 3 ≤ 15; decide, ?_⟩
  have ne : ∀ {a b : Nat}, a ≠ b → ¬ ((Sum.inr (sOf [a]) : Key) = Sum.inr (sOf [b])) := fun h e => h (by injection sOf_inj (Sum.inr.inj e))
  have em : mergeK [] (D3 x y z) = D3 x y z := by
    unfold mergeK D3 putK
    simp [ne (show (97 : Nat) ≠ 98 by decide), ne (show (97 : Nat) ≠ 99 by decide), ne (show (98 : Nat) ≠ 99 by decide)]
  rw [em]
  exact q _ _ (Ex.mut ((Ex.new hp).trans g16) hp) ⟨p, x, y, z, rfl, fresh_back e hp, upd_same, u1 hp6 (m1 (((g3.trans g4).trans g5).trans g6) hx), u2 hp6 (m2 (g5.trans g6) hy), u3 hp6 hz⟩
/-- xs + ys, both new -/
theorem el_cat {xs ys : List V} (h1 : EvL ta σ H xs) (h2 : EvL tb σ H ys) (hz : xs.length + ys.length ≤ 100000) : EvL (tOp rCat ta tb) σ H (xs ++ ys) := fun H1 e Q q =>
  h1 H1 e _ fun p H2 hp e2 hx => h2 H2 (e.trans e2) _ fun p2 H3 hp2 e3 hy => ⟨p, p2, xs, ys, rfl, rfl, e3 _ _ hx, hy, sz_of hz, fun l hl => q l _ (fresh_back (e2.trans e3) hl) ((e2.trans e3).trans (Ex.new hl)) upd_same⟩
/-- for count, bracket in a sum, as the last statement -/
theorem s_forSum {H0 : Hp} {a : Addr} {s : List (Int × Br)} {i j : Nat} {tu : TS} {D : Ends} (h : Ev tl σ H (.ref a)) (hs : SumAt K H0 a s) (e0 : Ex H0 H) (Pv : Nat → L2.St → Hp → Prop) (h0 : ∀ H1, Ex H H1 → Pv 0 σ H1) (hl : ∀ k σ' H', Pv k σ' H' → Ex H0 H')
    (hb : ∀ k c t v σ' H', s[k]? = some (c, t) → Pv k σ' H' → BrAt K H' v t → tu { D with nx := Pv (k + 1), ct := Pv (k + 1), bk := D.nx } ((σ'.set i (some (.int c))).set j (some v)) H') (hd : ∀ σ' H', Pv s.length σ' H' → D.nx σ' H') :
    tFor (iList K tl) (gTup K 2 (gCons (gName i) (gCons (gName j) gNil))) tu D σ H := by
  obtain ⟨xs, hx, ht⟩ := hs
  refine s_forL h (ex_l e0 hx) Pv h0 (fun k σ' H' _ p => ex_l (hl k σ' H' p) hx) (fun k x σ' H' hk p => ?_) (fun σ' H' p => hd σ' H' (by rw [← ht.len]; exact p))
  obtain ⟨c, t, hs, q, v, rfl, hq, hv⟩ := ht.get hk
  exact ⟨q, [.int c, v], rfl, ex_t (hl k σ' H' p) hq, rfl, .int c, [v], rfl, v, [], rfl, rfl, hb k c t v σ' H' hs p (hv.mono (hl k σ' H' p))⟩
theorem least_int : ∀ {ns : List Int}, ns ≠ [] → ∃ m ∈ ns, ∀ y ∈ ns, m ≤ y
  | [], h => absurd rfl h
  | [n], _ => ⟨n, List.mem_cons_self, fun y hy => by rw [List.mem_singleton.mp hy]; exact Int.le_refl _⟩
  | n :: k :: r, _ => by
    obtain ⟨m, hm, hl⟩ := least_int (ns := k :: r) (by simp)
    by_cases h : n ≤ m
    · exact ⟨n, List.mem_cons_self, fun y hy => (List.mem_cons.mp hy).elim (fun e => by omega) fun hy => Int.le_trans h (hl y hy)⟩
    · exact ⟨m, List.mem_cons_of_mem _ hm, fun y hy => (List.mem_cons.mp hy).elim (fun e => by omega) (hl y)⟩
/-- min, sum of a list of numbers that stands -/
theorem ev_minS {p : Addr} {ns : List Int} {m : Int} (h : Ev te σ H (.ref p)) (hs : SqL K H p (ns.map V.int)) (hm : m ∈ ns) (hl : ∀ y ∈ ns, m ≤ y) : Ev (tCB (rMin K) (tCons te tNil)) σ H (.int m) := fun H1 e Q q =>
  h H1 e _ fun H2 e2 => ⟨p, ns, rfl, ex_l (e.trans e2) hs, List.length_pos_of_mem hm, fun m' h1 h2 => by
    have : m' = m := Int.le_antisymm (h2 m hm) (hl m' h1)
    rw [this]; exact q H2 e2⟩
theorem ev_sumS {p : Addr} {ns : List Int} (h : Ev te σ H (.ref p)) (hs : SqL K H p (ns.map V.int)) : Ev (tCB (rSum K) (tCons te tNil)) σ H (.int ns.sum) := fun H1 e Q q =>
  h H1 e _ fun H2 e2 => ⟨p, ns, rfl, ex_l (e.trans e2) hs, q H2 e2⟩
/-! a dict of lists and tuples changes: lists and tuples stand -/
theorem SqT.updD {p l : Addr} {xs : List V} {k1 k2 : List (Key × V)} (hl : H l = some (.dK k1)) (h : SqT K H p xs) : SqT K (upd H l (.dK k2)) p xs := by
  rcases h with (h | ⟨o, h⟩) | h
  · exact .inl (.inl (by rw [upd_ne (fun z => by rw [z, hl] at h; cases h)]; exact h))
  · exact .inl (.inr ⟨o, by rw [upd_ne (fun z => by rw [z, hl] at h; cases h)]; exact h⟩)
  · exact .inr h
theorem BrAt.updD {l : Addr} {k1 k2 : List (Key × V)} (hl : H l = some (.dK k1)) : ∀ {t : Br} {v : V}, BrAt K H v t → BrAt K (upd H l (.dK k2)) v t
  | .leaf _, _, h => h
  | .node a b, _, ⟨p, x, y, ev, hs, hx, hy⟩ => ⟨p, x, y, ev, SqT.updD hl hs, hx.updD hl, hy.updD hl⟩
theorem Tups.updD {l : Addr} {k1 k2 : List (Key × V)} (hl : H l = some (.dK k1)) : ∀ {xs : List V} {s : List (Int × Br)}, Tups K H xs s → Tups K (upd H l (.dK k2)) xs s
  | [], [], h => h
  | x :: xs, (c, t) :: s, ⟨⟨p, v, e, hs, hv⟩, h⟩ => ⟨⟨p, v, e, SqT.updD hl hs, hv.updD hl⟩, h.updD hl⟩
  | [], _ :: _, h => h.elim
  | _ :: _, [], h => h.elim
theorem LSum.updD {l p : Addr} {k1 k2 : List (Key × V)} {s : List (Int × Br)} (hl : H l = some (.dK k1)) (h : LSum K H p s) : LSum K (upd H l (.dK k2)) p s := by
  obtain ⟨xs, h1, h2⟩ := h
  exact ⟨xs, by rw [upd_ne (fun z => by rw [z, hl] at h1; cases h1)]; exact h1, h2.updD hl⟩
/-- [x] -/
theorem er_lst1 {R : V → Hp → Prop} (h1 : Er ta σ H R) (m1 : ∀ {v H H'}, Ex H H' → R v H → R v H') : Er (tLst (tCons ta tNil)) σ H fun v H2 => ∃ p x, v = .ref p ∧ H p = none ∧ H2 p = some (.lst [x]) ∧ R x H2 := fun H1 e Q q =>
  h1 H1 e _ fun x H2 e2 hx => ⟨by show 1 ≤ sizeLine; decide, fun p hp => q _ _ (e2.trans (Ex.new hp)) ⟨p, x, rfl, fresh_back (e.trans e2) hp, upd_same, m1 (Ex.new hp) hx⟩⟩
/-- a call as what is handed back, in a try's body -/
theorem s_retS {sp : Sp} {E : L2.St → XK} {vs : List V} {tr : TA} {D : Ends} (h : EvA tr σ H vs) (k : ∀ H1, Ex H H1 → sp vs H1 D.rt (E σ)) : tRet (tCallS sp E tr) D σ H := h H (Ex.refl H) _ k
/-- for letter in sums: counts[letter] = the counts of sums[letter] -/
theorem for_fill {td tq ty tv : TE} {j : Nat} {d d2 : Addr} {p : Nat → Addr} {S : Nat → List (Int × Br)} {g : Nat → TB.P} {D : Ends} (hd : H d = some (.dK (D3 (.ref (p 97)) (.ref (p 98)) (.ref (p 99))))) (hd2 : H d2 = some (.dK [])) (hdd : d ≠ d2) (hs : ∀ c, c = 97 ∨ c = 98 ∨ c = 99 → SumAt K H (p c) (S c))
    (ht : ∀ σ' H' (Q : VK), (σ' = σ ∨ ∃ z, σ' = σ.set j z) → Q (.ref d) H' → td σ' H' Q) (hv : ∀ c H', (c = 97 ∨ c = 98 ∨ c = 99) → Rd H' d (.dK (D3 (.ref (p 97)) (.ref (p 98)) (.ref (p 99)))) → SumAt K H' (p c) (S c) → Er tv (σ.set j (some (tx [c]))) H' (newD H' (g c)))
    (hq : ∀ c H', Ev tq (σ.set j (some (tx [c]))) H' (.ref d2)) (hy : ∀ c H', Ev ty (σ.set j (some (tx [c]))) H' (tx [c]))
    (k : ∀ σ' H' r, (σ' = σ ∨ ∃ z, σ' = σ.set j z) → (∀ b o, b ≠ d2 → H b = some o → H' b = some o) → C3 H' d2 r g → D.nx σ' H') : tLock (tFor (iKeys td) (gName j) (sDPut tq ty tv)) D σ H := by
  refine for_lock hd (fun H' Q q => ht σ H' Q (.inl rfl) q) (fun od i σ' H' => (σ' = σ ∨ ∃ z, σ' = σ.set j z) ∧ (∀ b o, b ≠ d → b ≠ d2 → H b = some o → H' b = some o) ∧ H' d = some (.frz od (.dK (D3 (.ref (p 97)) (.ref (p 98)) (.ref (p 99))))) ∧
      ∃ (kvs : List (Key × V)) (r : Nat → Addr), H' d2 = some (.dK kvs) ∧ kvs.length ≤ i ∧ ∀ c, 97 ≤ c → c < 97 + i → valV kvs (Sum.inr (sOf [c])) = some (.ref (r c)) ∧ r c ≠ d ∧ r c ≠ d2 ∧ H' (r c) = some (.dK (kv (g c)))) (fun od => ⟨.inl rfl, fun b o h1 h2 h => ?_, upd_same, [], fun _ => 0, ?_, Nat.le_refl _, fun c h1 h2 => by omega⟩) (fun od i σ' H' h => h.2.2.1) ?_ ?_
  · rw [upd_ne h1]; exact h
  · rw [upd_ne hdd.symm]; exact hd2
  · rintro od i kk vv σ' H4 hk ⟨hσ, hb, hf, kvs, r, hkv, hkl, hr4⟩
    have hi : i < 3 := (List.getElem?_eq_some_iff.mp hk).1
    obtain ⟨c, hc, hc3, hke⟩ : ∃ c, c = 97 + i ∧ (c = 97 ∨ c = 98 ∨ c = 99) ∧ kk = Sum.inr (sOf [c]) := by
      have : i = 0 ∨ i = 1 ∨ i = 2 := by omega
      rcases this with rfl | rfl | rfl <;> cases hk
      · exact ⟨97, rfl, .inl rfl, rfl⟩
      · exact ⟨98, rfl, .inr (.inl rfl), rfl⟩
      · exact ⟨99, rfl, .inr (.inr rfl), rfl⟩
    subst hke
    have es : σ'.set j (some (tx [c])) = σ.set j (some (tx [c])) := by
      rcases hσ with rfl | ⟨z, rfl⟩
      · rfl
      · rw [List.set_set]
    show sDPut tq ty tv _ (σ'.set j (some (tx [c]))) H4
    rw [es]
    have hsum : SumAt K H4 (p c) (S c) := by
      obtain ⟨xs, hx1, hx2⟩ := hs c hc3
      have bt : ∀ {b : Addr} {o : HO}, (∀ z, o ≠ .dK z) → H b = some o → H4 b = some o := fun hz h => hb _ _ (fun e => by rw [e, hd] at h; exact hz _ (Option.some.inj h).symm) (fun e => by rw [e, hd2] at h; exact hz _ (Option.some.inj h).symm) h
      have sqt : ∀ {b : Addr} {ys : List V}, SqT K H b ys → SqT K H4 b ys := fun h => by
        rcases h with (h | ⟨o, h⟩) | h
        · exact .inl (.inl (bt (fun z e => by cases e) h))
        · exact .inl (.inr ⟨o, bt (fun z e => by cases e) h⟩)
        · exact .inr h
      have sql : ∀ {b : Addr} {ys : List V}, SqL K H b ys → SqL K H4 b ys := fun h => by
        rcases h with (h | ⟨o, h⟩) | h
        · exact .inl (.inl (bt (fun z e => by cases e) h))
        · exact .inl (.inr ⟨o, bt (fun z e => by cases e) h⟩)
        · exact .inr h
      have brs : ∀ {t : Br} {v : V}, BrAt K H v t → BrAt K H4 v t := fun {t} => by
        induction t with
        | leaf c => exact fun h => h
        | node l r ih1 ih2 => exact fun ⟨q, x, y, h1, h2, h3, h4⟩ => ⟨q, x, y, h1, sqt h2, ih1 h3, ih2 h4⟩
      have tps : ∀ {xs : List V} {s : List (Int × Br)}, Tups K H xs s → Tups K H4 xs s := fun {xs} => by
        induction xs with
        | nil => exact fun {s} h => by cases s with
          | nil => trivial
          | cons _ _ => exact h
        | cons x xs ih => exact fun {s} h => by cases s with
          | nil => exact h
          | cons y s => exact ⟨by
              obtain ⟨⟨q, v, h1, h2, h3⟩, _⟩ := h
              exact ⟨q, v, h1, sqt h2, brs h3⟩, ih h.2⟩
      exact ⟨xs, sql hx1, tps hx2⟩
    refine hv c H4 hc3 (.inr ⟨_, hf⟩) hsum H4 (Ex.refl _) _ fun v H5 e5 hv => ?_
    obtain ⟨r5, rfl, nr5, hr5⟩ := hv
    refine hq c H5 H5 (Ex.refl _) _ fun H6 e6 => hy c H6 H6 (Ex.refl _) _ fun H7 e7 => ?_
    have e57 := e6.trans e7
    have e47 := e5.trans e57
    refine ⟨d2, _, rfl, DPut.k (k := Sum.inr (sOf [c])) (e47 _ _ hkv) (Nat.lt_of_le_of_lt hkl (Nat.lt_trans (show i < 3 from hi) (by decide))), ?_⟩
    have hr52 : r5 ≠ d2 := fun e => by rw [e, hkv] at nr5; cases nr5
    have hr5d : r5 ≠ d := fun e => by rw [e, hf] at nr5; cases nr5
    refine ⟨.inr ⟨_, rfl⟩, fun b o h1 h2 h => by rw [upd_ne h2]; exact e47 _ _ (hb b o h1 h2 h), by rw [upd_ne hdd]; exact e47 _ _ hf, _, fun c' => if c' = c then r5 else r c', upd_same, ?_, fun c' h1 h2 => ?_⟩
    · have := length_putK kvs (Sum.inr (sOf [c]) : Key) (.ref r5)
      omega
    · show _ = some (V.ref (if c' = c then r5 else r c')) ∧ (if c' = c then r5 else r c') ≠ d ∧ (if c' = c then r5 else r c') ≠ d2 ∧ _
      rw [valV_put]
      by_cases hcc : c' = c
      · subst hcc
        rw [if_pos rfl, if_pos rfl]
        exact ⟨rfl, hr5d, hr52, by
          show upd H7 d2 _ (if c' = c' then r5 else r c') = _
          rw [if_pos rfl, upd_ne hr52]; exact e57 _ _ hr5⟩
      · rw [if_neg hcc, if_neg fun e => hcc (by injection sOf_inj (Sum.inr.inj e))]
        obtain ⟨k1, k2, k3, k4⟩ := hr4 c' h1 (by omega)
        exact ⟨k1, k2, k3, by
          show upd H7 d2 _ (if c' = c then r5 else r c') = _
          rw [if_neg hcc, upd_ne k3]; exact e47 _ _ k4⟩
  · rintro od σ' H4 ⟨hσ, hb, hf, kvs, r, hkv, hkl, hr4⟩
    refine k σ' _ r hσ (fun b o h2 h => ?_) ⟨kvs, .inl (by rw [upd_ne hdd.symm]; exact hkv), fun c hc => ?_⟩
    · by_cases e : b = d
      · rw [e, upd_same, ← hd, ← e, h]
      · rw [upd_ne e]; exact hb b o e h2 h
    · obtain ⟨k1, k2, k3, k4⟩ := hr4 c (by omega) (by show c < 97 + 3; omega)
      exact ⟨k1, by rw [upd_ne k2]; exact k4⟩
end
theorem hi_iff {S : Nat → List (Int × Br)} {t : Br} {m : Int} (hm : m ∈ t.letters.map fun c => grt (S c)) (hl : ∀ y ∈ t.letters.map (fun c => grt (S c)), m ≤ y) : Hi S t ↔ (0 < m ∧ 8 < (t.letters.map fun c => grt (S c)).sum) := by
  constructor
  · rintro ⟨h1, h2⟩
    obtain ⟨c, hc, rfl⟩ := List.mem_map.mp hm
    exact ⟨grt_pos.mpr (h1 c hc), h2⟩
  · rintro ⟨h1, h2⟩
    exact ⟨fun c hc => grt_pos.mp (Int.lt_of_lt_of_le h1 (hl _ (List.mem_map.mpr ⟨c, hc, rfl⟩))), h2⟩
theorem letters_ne (t : Br) : t.letters ≠ [] := fun e => by
  have h1 := t.letters_len
  have h2 := t.wt_pos
  rw [e] at h1
  have : (0 : Nat) = t.wt := h1
  omega
end TB
/-! ## TbD_letters_of -/
namespace TB
open PySem PySem.Spec PyProof.Rows L2 Evl
section
variable {P : Program} {wd : World} {K : PySem.W.Frag} {mg : Str → Option Value} {base : Heap}
/-! letters_of -/
def sp_letters_of (K : PySem.W.Frag) (n : Nat) : Sp := fun vs H Q _ => ∃ (v : V) (t : Br), vs = [v] ∧ BrAt K H v t ∧ t.depth < n ∧ t.wt ≤ 10000 ∧ ∀ p H', H p = none → Ex H H' → H' p = some (.lst (t.letters.map fun c => tx [c])) → Q (.ref p) H'
theorem sv_letters_of {n : Nat} {H : Hp} {v : V} {t : Br} (hv : BrAt K H v t) (hn : t.depth < n) (hw : t.wt ≤ 10000) : SpL (sp_letters_of K n) [v] H (t.letters.map fun c => tx [c]) := fun H1 e Q q E => ⟨v, t, rfl, hv.mono e, hn, hw, q⟩
theorem ok_letters_of (B : Blt mg) (D : DefAt K mg "letters_of" s_letters_of ["bracket"]) : ∀ n : Nat, FnOk P wd K mg base CX0 (n + 1) D.f D.fd ["bracket"] (sp_letters_of K n)
  | 0 => by
    have no : ∀ vs H Q E, ¬ sp_letters_of K 0 vs H Q E := fun vs H Q E h => by
      obtain ⟨v, t, _, _, h, _⟩ := h
      omega
    exact ⟨fun vs H Q E h => absurd h (no vs H Q E), fun A outer s H args us vs Q E _ _ _ _ h => absurd h (no vs H Q E)⟩
  | n + 1 => by
    have G := ok_letters_of B D n
    refine D.F.ok sc_letters_of (fun vs H Q E h => ?_) (fun cdv A outer s H vs Q E hr h => ?_)
    · obtain ⟨v, t, rfl, _⟩ := h
      rfl
    obtain ⟨v, t, rfl, hv, hn, hw, q⟩ := h
    refine ⟨_, (pss_cons (ps_if (pt_val (pe_callB call_isi (by rfl) B.isinstance (by decide +kernel) (pa_cons (pv 0) (pa_cons (pe_bltn (v := .ty "str") (by rfl) B.str (by decide +kernel) rfl) pa_nil))))
      (pss_one (ps_ret (pe_lst (pa_cons (pv 0) pa_nil))))
      pss_nil)
    (pss_one (ps_ret (pe_op op_cat (cl D G hr (pa_cons (pe_ix ix_tup (pv 0) pe_int (fun _ _ => rfl)) pa_nil) (by omega)) (cl D G hr (pa_cons (pe_ix ix_tup (pv 0) pe_int (fun _ _ => rfl)) pa_nil) (by omega)))))), ?_⟩
    cases t with
    | leaf c =>
      have e : v = tx [c] := hv
      subst e
      refine q_when (et_B (ev_isi (b := true) (ev_var rfl) ev_c (.str _) (by decide +kernel))) (fun hb H1 e1 => ?_) (fun hb H1 e1 => by cases hb)
      exact s_retL (el_lst (ea_cons (ev_var rfl) ea_nil) (by show 1 ≤ 100000; decide)) (fun p H2 np e2 hp => q p H2 (fresh_back e1 np) (e1.trans e2) hp)
    | node l r =>
      obtain ⟨p, x, y, rfl, hs, hx, hy⟩ := hv
      have dl : l.depth < n := by have : max l.depth r.depth + 1 < n + 1 := hn; omega
      have dr : r.depth < n := by have : max l.depth r.depth + 1 < n + 1 := hn; omega
      have wlr : l.wt + r.wt ≤ 10000 := hw
      refine q_when (et_B (ev_isi (b := false) (ev_var rfl) ev_c (.tup hs) (by decide +kernel))) (fun hb H1 e1 => by cases hb) (fun hb H1 e1 => ?_)
      refine s_retL (el_cat (el_call (ea_cons (ev_op (ev_var rfl) ev_c (rv_ixT (ex_t e1 hs) (atI_nat' (by decide) rfl))) ea_nil) (sv_letters_of (hx.mono e1) dl (by omega))) (el_call (ea_cons (ev_op (ev_var rfl) ev_c (rv_ixT (ex_t e1 hs) (atI_nat' (by decide) rfl))) ea_nil) (sv_letters_of (hy.mono e1) dr (by omega))) (by
        have h1 := l.letters_len
        have h2 := r.letters_len
        rw [List.length_map, List.length_map]; omega)) (fun p H2 np e2 hp => q p H2 (fresh_back e1 np) (e1.trans e2) ?_)
      rw [hp]
      show some (HO.lst _) = some (HO.lst ((l.letters ++ r.letters).map _))
      rw [List.map_append]
end
end TB
/-! ## TbD_ask_weights_k15 -/
namespace TB
open PySem PySem.Spec PyProof.Rows L2 Evl
section
variable {P : Program} {wd : World} {K : PySem.W.Frag} {mg : Str → Option Value} {base : Heap}
/-! ask_weights -/
def sp_ask_weights (K : PySem.W.Frag) (C : Addr) : Sp := fun vs H Q E => ∃ (a d : Addr) (s : List (Int × Br)) (p : Nat → Addr) (S : Nat → List (Int × Br)), vs = [.ref a, .ref d] ∧ SumAt K H a s ∧ S3 K H d p S ∧ (∀ x ∈ s, x.2.wt ≤ 12 ∧ ABC x.2.letters) ∧ (∀ c, c = 97 ∨ c = 98 ∨ c = 99 → (S c).length ≤ 100000 ∧ ∀ x ∈ S c, x.2.wt ≤ 12) ∧
  (Big s S → ∀ H', Ex H H' → E (.ref C) none H') ∧ (¬ Big s S → ∀ H', Ex H H' → Q .non H')
theorem ok_ask_weights (B : Blt mg) (D_ask_weights : DefAt K mg "ask_weights" s_ask_weights ["total", "sums"]) (D_letters_of : DefAt K mg "letters_of" s_letters_of ["bracket"]) (D_greatest : DefAt K mg "greatest" s_greatest ["total"]) (D_weight : DefAt K mg "weight" s_weight ["bracket"]) (EC_TooGreat : ErrAt K mg "TooGreat") {tg : Tok} (c_GREATEST : mg "GREATEST_sums" = some (.int 8 tg)) : FnOk P wd K mg base (L2.CX P wd) 17 D_ask_weights.f D_ask_weights.fd ["total", "sums"] (sp_ask_weights K EC_TooGreat.C) := by
  have G_letters_of := ok_letters_of (P := P) (wd := wd) (base := base) B D_letters_of 12
  have G_greatest := ok_greatest (P := P) (wd := wd) (base := base) B D_greatest D_weight
  refine D_ask_weights.F.okX sc_ask_weights (fun vs H Q E h => ?_) (fun cdv A outer s H vs Q E hr h => ?_)
  · obtain ⟨a, d, s, p, S, rfl, _⟩ := h
    rfl
  obtain ⟨a, d, s, p, S, rfl, hs, h3, hw, hS, qE, qQ⟩ := h
  have hu := hu_of hr
  refine ⟨_, (pss_one (ps_for (passes_of rfl) rfl (pi_list (pv 0)) (pg_tup rfl (pgs_cons (pg_name (i := 2) sc_ask_weights.nd rfl (by first | exact .inl rfl | exact .inr rfl)) (pgs_cons (pg_name (i := 3) sc_ask_weights.nd rfl (by first | exact .inl rfl | exact .inr rfl)) pgs_nil)))
      (pss_cons (ps_setLc (i := 4) (own := [("letter", 5)]) rfl sc_ask_weights.nd rfl rfl (sw_true rfl rfl rfl (by decide +kernel)) (pi_list (cl D_letters_of G_letters_of hr (pa_cons (pv 3) pa_nil))) (blkOk_by (N := ["total", "sums", "count", "bracket", "weights", "letter"]) (sc := defScope s_ask_weights) (by decide +kernel)) (fun _ _ _ _ _ => (pg_name (i := 5) sc_ask_weights.nd rfl (by first | exact .inl rfl | exact .inr rfl))) (fun _ _ _ _ _ => pts_nil) (fun _ _ _ _ _ => (cl D_greatest G_greatest hr (pa_cons (pe_dget hu (pv 1) (pv 5) (fun _ _ => rfl)) pa_nil))))
      (pss_one (ps_if (PW.pt (pw_and (pt_cmpR op_gt (pe_callB (cr_min rfl) (by rfl) B.min (by decide +kernel) (pa_cons (pv 4) pa_nil)) pe_int (nomark _)) (pw_and1 (pt_cmpR op_gt (pe_callB (cr_sum rfl) (by rfl) B.sum (by decide +kernel) (pa_cons (pv 4) pa_nil)) (pe_glob (v := .int 8) (by rfl) c_GREATEST ⟨_, rfl⟩) (nomark _)))))
        (pss_one (ps_raise rfl (takes_of rfl rfl rfl rfl) (EC_TooGreat.pm)))
        pss_nil))))), ?_⟩
  refine s_forSum (ev_var rfl) hs (Ex.refl _) (fun k σ' H' => (∃ z2 z3 z4 z5, σ' = [some (.ref a), some (.ref d), z2, z3, z4, z5]) ∧ Ex H H' ∧ ∀ j x, j < k → s[j]? = some x → ¬ Hi S x.2) (fun H1 e1 => ⟨⟨none, none, none, none, rfl⟩, e1, fun j x hj => by omega⟩) (fun k σ' H' h => h.2.1) ?_ ?_
  · rintro k c t v σ' H1 hk ⟨⟨z2, z3, z4, z5, rfl⟩, e1, hno⟩ hv
    have hmem := List.mem_of_getElem? hk
    obtain ⟨ht, ha⟩ : t.wt ≤ 12 ∧ ABC t.letters := hw _ hmem
    have hd : t.depth < 12 := by have := t.depth_lt; omega
    have hll := t.letters_len
    refine q_asgL (xs := (t.letters.map fun c => grt (S c)).map V.int) (el_is (el_lcNL (fun _ => true) (fun i => .int (grt (S (t.letters.getD i 0)))) (el_call (ea_cons (ev_var rfl) ea_nil) (sv_letters_of hv hd (by omega))) (by rw [List.length_map]; omega) (fun x => rfl) (fun i x H2 e2 hx => et_yes) (fun i x H2 e2 hx _ => ?_)) ?_) (fun w H2 nw e2 hw2 => ?_)
    · rw [List.getElem?_map] at hx
      obtain ⟨l, hl, rfl⟩ := Option.map_eq_some_iff.mp hx
      have el : t.letters.getD i 0 = l := by rw [List.getD_eq_getElem?_getD, hl]; rfl
      rw [el]
      have habc := ha l (List.mem_of_getElem? hl)
      have h3' := h3.mono (e1.trans e2)
      exact ev_call (ea_cons (ev_d3 (ev_var rfl) (ev_var rfl) h3'.dict habc) ea_nil) (sv_greatest (h3'.sum l habc) (hS l habc).1 (hS l habc).2)
    · rw [given_all, List.length_map, map_getDg t.letters 0 (fun l => V.int (grt (S l))), List.map_map]
      rfl
    obtain ⟨m, hm, hlm⟩ := least_int (ns := t.letters.map fun c => grt (S c)) (by simp [letters_ne])
    have hsq : SqL K H2 w _ := sq_of hw2
    have hiff := hi_iff hm hlm
    refine s_when (et_and (et_test (ev_op (ev_minS (ev_var rfl) hsq hm hlm) ev_c rv_I0)) (fun _ => et_test (ev_op (ev_sumS (ev_var rfl) hsq) ev_c rv_I0))) (fun hb H3 e3 => ?_) (fun hb H3 e3 => ?_)
    · obtain ⟨b1, b2⟩ := Bool.and_eq_true_iff.mp hb
      exact qE ⟨_, hmem, hiff.mpr ⟨by have := of_decide_eq_true b1; omega, by have := of_decide_eq_true b2; omega⟩⟩ H3 ((e1.trans e2).trans e3)
    · refine ⟨⟨_, _, _, _, rfl⟩, (e1.trans e2).trans e3, fun j x hj hx => ?_⟩
      rcases Nat.lt_or_ge j k with h | h
      · exact hno j x h hx
      · have : j = k := by omega
        subst this
        rw [hk] at hx
        cases hx
        intro hh
        obtain ⟨h1, h2⟩ := hiff.mp hh
        rw [decide_eq_true (by omega), decide_eq_true (by omega)] at hb
        cases hb
  · rintro σ' H1 ⟨⟨z2, z3, z4, z5, rfl⟩, e1, hno⟩
    refine qQ (fun ⟨x, hx, hh⟩ => ?_) H1 e1
    obtain ⟨j, hj, e⟩ := List.mem_iff_getElem.mp hx
    exact hno j x hj (by rw [List.getElem?_eq_getElem hj, e]) hh
end
end TB
/-! ## TbD_filled -/
namespace TB
open PySem PySem.Spec PyProof.Rows L2 Evl
section
variable {P : Program} {wd : World} {K : PySem.W.Frag} {mg : Str → Option Value} {base : Heap}
/-! filled -/
def sp_filled (K : PySem.W.Frag) (n : Nat) : Sp := fun vs H Q _ => ∃ (v : V) (t : Br) (d : Addr) (p : Nat → Addr) (g : Nat → TB.P), vs = [v, .ref d] ∧ BrAt K H v t ∧ ABC t.letters ∧ t.depth < n ∧ t.wt ≤ 4 ∧ C3 H d p g ∧ (∀ c, c = 97 ∨ c = 98 ∨ c = 99 → Lf (g c)) ∧ ∀ r H', Ex H H' → H' r = some (.dK (kv (fillP g t))) → ((∃ c, (c = 97 ∨ c = 98 ∨ c = 99) ∧ r = p c) ∨ H r = none) → Q (.ref r) H'
theorem sv_filled {n : Nat} {H : Hp} {v : V} {t : Br} {d : Addr} {p : Nat → Addr} {g : Nat → TB.P} (hv : BrAt K H v t) (ha : ABC t.letters) (hn : t.depth < n) (hw : t.wt ≤ 4) (hc : C3 H d p g) (hl : ∀ c, c = 97 ∨ c = 98 ∨ c = 99 → Lf (g c)) : SpR (sp_filled K n) [v, .ref d] H (fun v H2 => ∃ r, v = .ref r ∧ H2 r = some (.dK (kv (fillP g t))) ∧ ((∃ c, (c = 97 ∨ c = 98 ∨ c = 99) ∧ r = p c) ∨ H r = none)) := fun H1 e Q q E => ⟨v, t, d, p, g, rfl, hv.mono e, ha, hn, hw, hc.mono e, hl, fun r H' e2 hr h0 => q _ H' e2 ⟨r, rfl, hr, h0.imp id (fresh_back e)⟩⟩
theorem ok_filled (B : Blt mg) (D : DefAt K mg "filled" s_filled ["bracket", "counts"]) (D_twisted : DefAt K mg "twisted" s_twisted ["one", "other"]) (D_times : DefAt K mg "times" s_times ["one", "other"]) (D_put_to : DefAt K mg "put_to" s_put_to ["counts", "word", "count"]) : ∀ n : Nat, FnOk P wd K mg base CX0 (n + 4) D.f D.fd ["bracket", "counts"] (sp_filled K n)
  | 0 => by
    have no : ∀ vs H Q E, ¬ sp_filled K 0 vs H Q E := fun vs H Q E h => by
      obtain ⟨v, t, d, p, g, _, _, _, h, _⟩ := h
      omega
    exact ⟨fun vs H Q E h => absurd h (no vs H Q E), fun A outer s H args us vs Q E _ _ _ _ h => absurd h (no vs H Q E)⟩
  | n + 1 => by
    have G := ok_filled B D D_twisted D_times D_put_to n
    have G_twisted := ok_twisted (P := P) (wd := wd) (base := base) B D_twisted D_times D_put_to
    refine D.F.ok sc_filled (fun vs H Q E h => ?_) (fun cdv A outer s H vs Q E hr h => ?_)
    · obtain ⟨v, t, d, p, g, rfl, _⟩ := h
      rfl
    obtain ⟨v, t, d, p, g, rfl, hv, ha, hn, hw, hc, hl, q⟩ := h
    have hu := hu_of hr
    refine ⟨_, (pss_cons (ps_if (pt_val (pe_callB call_isi (by rfl) B.isinstance (by decide +kernel) (pa_cons (pv 0) (pa_cons (pe_bltn (v := .ty "str") (by rfl) B.str (by decide +kernel) rfl) pa_nil))))
      (pss_one (ps_ret (pe_dget hu (pv 1) (pv 0) (fun _ _ => rfl))))
      pss_nil)
    (pss_one (ps_ret (cl D_twisted G_twisted hr (pa_cons (cl D G hr (pa_cons (pe_ix ix_tup (pv 0) pe_int (fun _ _ => rfl)) (pa_cons (pv 1) pa_nil)) (by omega)) (pa_cons (cl D G hr (pa_cons (pe_ix ix_tup (pv 0) pe_int (fun _ _ => rfl)) (pa_cons (pv 1) pa_nil)) (by omega)) pa_nil)) (by omega))))), ?_⟩
    cases t with
    | leaf c =>
      have e : v = tx [c] := hv
      subst e
      have h3 := ha c (by simp [Br.letters])
      refine q_when (et_B (ev_isi (b := true) (ev_var rfl) ev_c (.str _) (by decide +kernel))) (fun hb H1 e1 => ?_) (fun hb H1 e1 => by cases hb)
      obtain ⟨kvs, _, hk⟩ := id hc
      exact s_ret (ev_c3 (ev_var rfl) (ev_var rfl) (hc.mono e1) h3) (fun H2 e2 => q _ H2 (e1.trans e2) ((e1.trans e2) _ _ (hk c h3).2) (.inl ⟨c, h3, rfl⟩))
    | node l r =>
      obtain ⟨a, x, y, rfl, hs, hx, hy⟩ := hv
      have dl : l.depth < n := by have : max l.depth r.depth + 1 < n + 1 := hn; omega
      have dr : r.depth < n := by have : max l.depth r.depth + 1 < n + 1 := hn; omega
      have al : ABC l.letters := fun c hc => ha c (List.mem_append_left _ hc)
      have ar : ABC r.letters := fun c hc => ha c (List.mem_append_right _ hc)
      have wlr : l.wt + r.wt ≤ 4 := hw
      have w1 := l.wt_pos
      have w2 := r.wt_pos
      refine q_when (et_B (ev_isi (b := false) (ev_var rfl) ev_c (.tup hs) (by decide +kernel))) (fun hb H1 e1 => by cases hb) (fun hb H1 e1 => ?_)
      refine s_retR (R := newD H1 (fillP g (.node l r))) (er_callR (ear_pair (R := fun v H2 => ∃ r', v = .ref r' ∧ H2 r' = some (.dK (kv (fillP g l)))) (S := fun v H2 => ∃ r', v = .ref r' ∧ H2 r' = some (.dK (kv (fillP g r)))) (er_call (ea_cons (ev_op (ev_var rfl) ev_c (rv_ixT (ex_t e1 hs) (atI_nat' (by decide) rfl))) (ea_cons (ev_var rfl) ea_nil)) (sv_filled (hx.mono e1) al dl (by omega) (hc.mono e1) hl) |>.imp fun v H2 _ ⟨r', h1, h2, _⟩ => ⟨r', h1, h2⟩) (er_call (ea_cons (ev_op (ev_var rfl) ev_c (rv_ixT (ex_t e1 hs) (atI_nat' (by decide) rfl))) (ea_cons (ev_var rfl) ea_nil)) (sv_filled (hy.mono e1) ar dr (by omega) (hc.mono e1) hl) |>.imp fun v H2 _ ⟨r', h1, h2, _⟩ => ⟨r', h1, h2⟩) (fun e ⟨r', h1, h2⟩ => ⟨r', h1, e _ _ h2⟩) (fun e ⟨r', h1, h2⟩ => ⟨r', h1, e _ _ h2⟩)) (fun vs H2 e2 hv => ?_)) (fun v H2 e2 hv => ?_)
      · obtain ⟨_, _, rfl, ⟨d1, rfl, hd1⟩, ⟨d2, rfl, hd2⟩⟩ := hv
        intro H3 e3 Q3 k3 E3
        exact sv_twisted hd1 hd2 ((fill_ff al hl).fit (by omega)) ((fill_ff ar hl).fit (by omega)) (ff_room w1 w2 wlr) (by decide) H3 e3 Q3 (fun v4 H4 e4 h4 => k3 v4 H4 e4 (h4.back e2)) E3
      · obtain ⟨r', rfl, nr', hr'⟩ := hv
        exact q r' H2 (e1.trans e2) hr' (.inr (fresh_back e1 nr'))
end
end TB
/-! ## TbD_put_in_k15 -/
namespace TB
open PySem PySem.Spec PyProof.Rows L2 Evl
section
variable {P : Program} {wd : World} {K : PySem.W.Frag} {mg : Str → Option Value} {base : Heap}
/-! put_in -/
abbrev gS (S : Nat → List (Int × Br)) (c : Nat) : TB.P := cntS (S c)
def putP (S : Nat → List (Int × Br)) (s : List (Int × Br)) : TB.P := sumT (fillP (gS S)) s []
theorem putP_pr (S : Nat → List (Int × Br)) (s : List (Int × Br)) (φ : W → Int) : pr (putP S s) φ = sb (putS S s) φ := by
  have := sumT_putS (G := fillP (gS S)) (S := S) (fillP_pr fun c φ => cntS_pr (S c) φ) s Nrm.nil φ
  unfold putP
  rw [this, pr_nil, Int.zero_add]
/-- three sums fit to be put in -/
structure SIn (S : Nat → List (Int × Br)) : Prop where
  len : ∀ c, c = 97 ∨ c = 98 ∨ c = 99 → (S c).length ≤ 2
  ok : ∀ c, c = 97 ∨ c = 98 ∨ c = 99 → SOk (S c) 8
  sm : ∀ c, c = 97 ∨ c = 98 ∨ c = 99 → ∀ x ∈ S c, x.1.natAbs ≤ 10 ^ 29
theorem lf_of {s : List (Int × Br)} (hl : s.length ≤ 2) (ok : SOk s 8) (sm : ∀ x ∈ s, x.1.natAbs ≤ 10 ^ 29) (h3 : ∀ x ∈ s, x.2.wt ≤ 3) : Lf (cntS s) := by
  have ok3 : SOk s 3 := ⟨ok.len, fun x hx => ⟨h3 x hx, (ok.it x hx).2⟩, ok.abc⟩
  refine ⟨cntS_nrm s, ?_, cntS_tot ok fun x hx => small_bit (sm x hx), (cntS_fit ok3 (by decide)).wl⟩
  have h1 := sumT_lenG (G := cnt) (B := 4) s [] fun x hx => Nat.le_trans (cnt_len x.2) (Nat.le_trans (Nat.pow_le_pow_right (by decide) (show x.2.wt - 1 ≤ 2 by have := h3 x hx; omega)) (by decide))
  have h2 : (cntS s).length ≤ 0 + s.length * 4 := h1
  omega
theorem keys_grt {s : List (Int × Br)} (ok : SOk s 8) {w : W} (hw : w ∈ keys (cntS s)) : (w.length : Int) ≤ grt s ∧ ABC w := by
  refine ⟨?_, cntS_abc ok hw⟩
  rcases sumT_keys cnt hw with h | ⟨x, hx, h⟩
  · cases h
  · rw [ws_len (cnt_keys h)]
    exact grt_le hx
theorem put_pok {S : Nat → List (Int × Br)} {s : List (Int × Br)} (hS : SIn S) (h3 : ∀ c, c = 97 ∨ c = 98 ∨ c = 99 → ∀ x ∈ S c, x.2.wt ≤ 3) (ok : SOk s 4) (hl : s.length ≤ 12) (sm : ∀ x ∈ s, x.1.natAbs ≤ 10 ^ 29) (hn : ¬ Big s S) : POk 8 (putP S s) := by
  have lf : ∀ c, c = 97 ∨ c = 98 ∨ c = 99 → Lf (gS S c) := fun c hc => lf_of (hS.len c hc) (hS.ok c hc) (hS.sm c hc) (h3 c hc)
  have hff : ∀ x ∈ s, FF (fillP (gS S) x.2) x.2.wt := fun x hx => fill_ff (ok.abc x hx) lf
  refine ⟨sumT_nrm _ s Nrm.nil, fun w hw => ?_, Nat.le_refl _, ?_, ?_⟩
  · rcases sumT_keys (fillP (gS S)) hw with h | ⟨x, hx, h⟩
    · cases h
    · obtain ⟨k1, k2⟩ := fill_keys (S := S) (fun c hc w hw => keys_grt (hS.ok c hc) hw) x.2 (ok.abc x hx) w h
      refine ⟨?_, k2⟩
      have hall : ∀ c ∈ x.2.letters, S c ≠ [] := fun c hc e => by
        have : fillP (gS S) x.2 = [] := fill_none (c := c) (by show cntS (S c) = []; rw [e]; rfl) hc
        rw [this] at h
        cases h
      have : ¬ 8 < wsum S x.2 := fun h8 => hn ⟨x, hx, hall, h8⟩
      omega
  · have h1 := sumT_lenG (G := fillP (gS S)) (B := 32768) s [] fun x hx => Nat.le_trans (hff x hx).len (Nat.le_trans (Nat.pow_le_pow_right (by decide) (show 4 * x.2.wt - 1 ≤ 15 by have := (ok.it x hx).1; omega)) (by decide))
    have h2 : (putP S s).length ≤ 0 + s.length * 32768 := h1
    omega
  · have h1 := sumT_totG (G := fillP (gS S)) (B := bit 600) s Nrm.nil fun x hx => by
      have a1 := (hff x hx).tot
      have a2 : bit (122 * x.2.wt - 1) ≤ bit 488 := bit_le (by have := (ok.it x hx).1; omega)
      have a3 : x.1.natAbs * tot (fillP (gS S) x.2) ≤ bit 100 * bit 488 := Nat.mul_le_mul (small_bit (sm x hx)) (Nat.le_trans a1 a2)
      rw [bit_add] at a3
      exact Nat.le_trans a3 (bit_le (by decide))
    have h2 : tot (putP S s) ≤ 0 + s.length * bit 600 := h1
    have h3 : s.length * bit 600 ≤ bit 4 * bit 600 := Nat.mul_le_mul_right _ (by rw [bit_of]; omega)
    rw [bit_add] at h3
    have h4 : bit (4 + 600) < bit 100000 := bit_lt (by decide)
    omega
theorem put_prim (S : Nat → List (Int × Br)) (s : List (Int × Br)) : Prim (putP S s) := Prim.sb (putP_pr S s)
def sp_put_in (K : PySem.W.Frag) (C : Addr) : Sp := fun vs H Q E => ∃ (a : Addr) (p : Nat → Addr) (s : List (Int × Br)) (S : Nat → List (Int × Br)), vs = [.ref a, .ref (p 97), .ref (p 98), .ref (p 99)] ∧ SumAt K H a s ∧ (∀ c, c = 97 ∨ c = 98 ∨ c = 99 → SumAt K H (p c) (S c)) ∧ SOk s 4 ∧ s.length ≤ 12 ∧ (∀ x ∈ s, x.1.natAbs ≤ 10 ^ 29) ∧ SIn S ∧
  (Big s S → ∀ H', Ex H H' → E (.ref C) none H') ∧ (¬ Big s S → (∀ c, c = 97 ∨ c = 98 ∨ c = 99 → ∀ x ∈ S c, x.2.wt ≤ 3) ∧ ∀ v H', Ex H H' → pqR K 8 (putP S s) v H' → Q v H')
theorem ok_put_in (B : Blt mg) (D_put_in : DefAt K mg "put_in" s_put_in ["total", "a", "b", "c"]) (D_ask_weights : DefAt K mg "ask_weights" s_ask_weights ["total", "sums"]) (D_letters_of : DefAt K mg "letters_of" s_letters_of ["bracket"]) (D_greatest : DefAt K mg "greatest" s_greatest ["total"]) (D_weight : DefAt K mg "weight" s_weight ["bracket"]) (D_filled : DefAt K mg "filled" s_filled ["bracket", "counts"]) (D_counts_of_sum : DefAt K mg "counts_of_sum" s_counts_of_sum ["total"]) (D_counts_of : DefAt K mg "counts_of" s_counts_of ["bracket"]) (D_twisted : DefAt K mg "twisted" s_twisted ["one", "other"]) (D_times : DefAt K mg "times" s_times ["one", "other"]) (D_put_to : DefAt K mg "put_to" s_put_to ["counts", "word", "count"]) (D_plain_of : DefAt K mg "plain_of" s_plain_of ["counts"]) (D_is_plain : DefAt K mg "is_plain" s_is_plain ["word"]) (D_cut : DefAt K mg "cut" s_cut ["word"]) (D_plain_bracket : DefAt K mg "plain_bracket" s_plain_bracket ["word"]) (D_by_length : DefAt K mg "by_length" s_by_length ["word"]) (EC_NoWord : ErrAt K mg "NoWord") (EC_NoSum : ErrAt K mg "NoSum") (EC_TooGreat : ErrAt K mg "TooGreat") {tg : Tok} (c_GREATEST : mg "GREATEST_sums" = some (.int 8 tg)) : FnOk P wd K mg base (L2.CX P wd) 24 D_put_in.f D_put_in.fd ["total", "a", "b", "c"] (sp_put_in K EC_TooGreat.C) := by
  have G_ask_weights := ok_ask_weights (P := P) (wd := wd) (base := base) B D_ask_weights D_letters_of D_greatest D_weight EC_TooGreat c_GREATEST
  have G_filled := ok_filled (P := P) (wd := wd) (base := base) B D_filled D_twisted D_times D_put_to 12
  have G_counts_of_sum := ok_counts_of_sum (P := P) (wd := wd) (base := base) B D_counts_of_sum D_counts_of D_twisted D_times D_put_to
  have G_plain_of := ok_plain_of (P := P) (wd := wd) (base := base) B D_plain_of D_is_plain D_cut D_plain_bracket D_counts_of D_twisted D_times D_put_to D_by_length EC_NoWord EC_NoSum
  have G_put_to := ok_put_to (P := P) (wd := wd) (base := base) B D_put_to
  refine D_put_in.F.okX sc_put_in (fun vs H Q E h => ?_) (fun cdv A outer st H vs Q E hr h => ?_)
  · obtain ⟨a, p, s, S, rfl, _⟩ := h
    rfl
  obtain ⟨a, p, s, S, rfl, hs, hp, ok, hl, sm, hS, qE, qQ⟩ := h
  have hu := hu_of hr
  refine ⟨_, (pss_cons (ps_set (i := 4) sc_put_in.nd rfl (by first | exact .inl rfl | exact .inr rfl) (pe_disp (pps_cons pe_str (pv 1) (pps_cons pe_str (pv 2) (pps_cons pe_str (pv 3) pps_nil))) (by rfl) (by rfl) (fun z => by cases z) (by decide)))
    (pss_cons (ps_expr (clX (E := E) (Q1 := fun _ _ => True) D_ask_weights G_ask_weights hr (passes_call (takes_of rfl rfl rfl rfl) (fun _ _ _ _ h => h)) (pa_cons (pv 0) (pa_cons (pv 4) pa_nil))))
    (pss_cons (ps_set (i := 5) sc_put_in.nd rfl (by first | exact .inl rfl | exact .inr rfl) pe_dnewK)
    (pss_cons (ps_lock (ps_for (passes_of rfl) rfl (pi_keys (pv 4)) (pg_name (i := 6) sc_put_in.nd rfl (by first | exact .inl rfl | exact .inr rfl))
      (pss_one (ps_dput hu (pv 5) (pv 6) (cl D_counts_of_sum G_counts_of_sum hr (pa_cons (pe_dget hu (pv 4) (pv 6) (fun _ _ => rfl)) pa_nil)) rfl))))
    (pss_cons (ps_set (i := 7) sc_put_in.nd rfl (by first | exact .inl rfl | exact .inr rfl) pe_dnewK)
    (pss_cons (ps_for (passes_of rfl) rfl (pi_list (pv 0)) (pg_tup rfl (pgs_cons (pg_name (i := 8) sc_put_in.nd rfl (by first | exact .inl rfl | exact .inr rfl)) (pgs_cons (pg_name (i := 9) sc_put_in.nd rfl (by first | exact .inl rfl | exact .inr rfl)) pgs_nil)))
      (pss_cons (ps_set (i := 10) sc_put_in.nd rfl (by first | exact .inl rfl | exact .inr rfl) (cl D_filled G_filled hr (pa_cons (pv 9) (pa_cons (pv 5) pa_nil))))
      (pss_one (ps_lock (ps_for (passes_of rfl) rfl (pi_keys (pv 10)) (pg_name (i := 11) sc_put_in.nd rfl (by first | exact .inl rfl | exact .inr rfl))
        (pss_one (ps_expr (cl D_put_to G_put_to hr (pa_cons (pv 7) (pa_cons (pv 11) (pa_cons (pe_op op_mulW (pv 8) (pe_dget hu (pv 10) (pv 11) (fun _ _ => rfl))) pa_nil)))))))))))
    (pss_one (ps_ret (clN D_plain_of G_plain_of hr (pa_cons (pv 7) pa_nil)))))))))), ?_⟩
  refine q_asgR (er_disp3 (R1 := fun v _ => v = .ref (p 97)) (R2 := fun v _ => v = .ref (p 98)) (R3 := fun v _ => v = .ref (p 99)) (fun e => ev_tx (by decide +kernel)) (fun e => ev_tx (by decide +kernel)) (fun e => ev_tx (by decide +kernel)) (ev_er (ev_var rfl) fun _ _ => rfl) (ev_er (ev_var rfl) fun _ _ => rfl) (ev_er (ev_var rfl) fun _ _ => rfl) (fun _ h => h) (fun _ h => h) (fun _ h => h) (fun _ h => h) (fun _ h => h) (fun _ h => h)) (fun v H1 e1 hv => ?_)
  obtain ⟨d, _, _, _, rfl, nd, hd, rfl, rfl, rfl⟩ := hv
  have h3 : S3 K H1 d p S := ⟨.inl hd, fun c hc => (hp c hc).mono e1⟩
  refine q_callX (ea_cons (ev_var rfl) (ea_cons (ev_var rfl) ea_nil)) fun H2 e2 => ⟨a, d, s, p, S, rfl, hs.mono (e1.trans e2), h3.mono e2, fun x hx => ⟨Nat.le_trans (ok.it x hx).1 (by decide), ok.abc x hx⟩, fun c hc => ⟨by have := hS.len c hc; omega, fun x hx => Nat.le_trans ((hS.ok c hc).it x hx).1 (by decide)⟩, fun hb H3 e3 => qE hb H3 ((e1.trans e2).trans e3), fun hn H3 e3 => ?_⟩
  obtain ⟨hw3, qQ⟩ := qQ hn
  have lf : ∀ c, c = 97 ∨ c = 98 ∨ c = 99 → Lf (gS S c) := fun c hc => lf_of (hS.len c hc) (hS.ok c hc) (hS.sm c hc) (hw3 c hc)
  have e13 := (e1.trans e2).trans e3
  have hd3 := (e2.trans e3) _ _ hd
  refine q_dnew fun d2 nd2 => ?_
  have hdd : d ≠ d2 := ne_of_none hd3 nd2
  have hd3' : upd H3 d2 (.dK (kv [])) d = some (.dK (D3 (.ref (p 97)) (.ref (p 98)) (.ref (p 99)))) := by rw [upd_ne hdd]; exact hd3
  refine for_lock hd3' (fun H' Q q => ⟨_, rfl, q⟩) (fun od i σ' H' => (∃ z6, σ' = [some (.ref a), some (.ref (p 97)), some (.ref (p 98)), some (.ref (p 99)), some (.ref d), some (.ref d2), z6, none, none, none, none, none]) ∧ (∀ b o, b ≠ d → b ≠ d2 → H3 b = some o → H' b = some o) ∧ H' d = some (.frz od (.dK (D3 (.ref (p 97)) (.ref (p 98)) (.ref (p 99))))) ∧
      ∃ (kvs : List (Key × V)) (r : Nat → Addr), H' d2 = some (.dK kvs) ∧ kvs.length ≤ i ∧ ∀ c, 97 ≤ c → c < 97 + i → valV kvs (Sum.inr (sOf [c])) = some (.ref (r c)) ∧ r c ≠ d ∧ r c ≠ d2 ∧ H' (r c) = some (.dK (kv (gS S c)))) (fun od => ⟨⟨none, rfl⟩, fun b o h1 h2 h => ?_, upd_same, [], fun _ => 0, ?_, Nat.le_refl _, fun c h1 h2 => by omega⟩) (fun od i σ' H' h => h.2.2.1) ?_ ?_
  · rw [upd_ne h1, upd_ne h2]; exact h
  · rw [upd_ne hdd.symm]; exact upd_same
  · rintro od i kk vv σ' H4 hk ⟨⟨z6, rfl⟩, hb, hf, kvs, r, hkv, hkl, hr4⟩
    have hi : i < 3 := (List.getElem?_eq_some_iff.mp hk).1
    obtain ⟨c, hc, hc3, hke⟩ : ∃ c, c = 97 + i ∧ (c = 97 ∨ c = 98 ∨ c = 99) ∧ kk = Sum.inr (sOf [c]) := by
      have : i = 0 ∨ i = 1 ∨ i = 2 := by omega
      rcases this with rfl | rfl | rfl <;> cases hk
      · exact ⟨97, rfl, .inl rfl, rfl⟩
      · exact ⟨98, rfl, .inr (.inl rfl), rfl⟩
      · exact ⟨99, rfl, .inr (.inr rfl), rfl⟩
    subst hke
    have hsum : SumAt K H4 (p c) (S c) := by
      obtain ⟨xs, hx1, hx2⟩ := (h3.mono (e2.trans e3)).sum c hc3
      have bt : ∀ {b : Addr} {o : HO}, (∀ z, o ≠ .dK z) → H3 b = some o → H4 b = some o := fun hz h => hb _ _ (fun e => by rw [e, hd3] at h; exact hz _ (Option.some.inj h).symm) (fun e => by rw [e, nd2] at h; cases h) h
      have sqt : ∀ {b : Addr} {ys : List V}, SqT K H3 b ys → SqT K H4 b ys := fun h => by
        rcases h with (h | ⟨o, h⟩) | h
        · exact .inl (.inl (bt (fun z e => by cases e) h))
        · exact .inl (.inr ⟨o, bt (fun z e => by cases e) h⟩)
        · exact .inr h
      have sql : ∀ {b : Addr} {ys : List V}, SqL K H3 b ys → SqL K H4 b ys := fun h => by
        rcases h with (h | ⟨o, h⟩) | h
        · exact .inl (.inl (bt (fun z e => by cases e) h))
        · exact .inl (.inr ⟨o, bt (fun z e => by cases e) h⟩)
        · exact .inr h
      have brs : ∀ {t : Br} {v : V}, BrAt K H3 v t → BrAt K H4 v t := fun {t} => by
        induction t with
        | leaf c => exact fun h => h
        | node l r ih1 ih2 => exact fun ⟨q, x, y, h1, h2, h3, h4⟩ => ⟨q, x, y, h1, sqt h2, ih1 h3, ih2 h4⟩
      have tps : ∀ {xs : List V} {s : List (Int × Br)}, Tups K H3 xs s → Tups K H4 xs s := fun {xs} => by
        induction xs with
        | nil => exact fun {s} h => by cases s with
          | nil => trivial
          | cons _ _ => exact h
        | cons x xs ih => exact fun {s} h => by cases s with
          | nil => exact h
          | cons y s => exact ⟨by
              obtain ⟨⟨q, v, h1, h2, h3⟩, _⟩ := h
              exact ⟨q, v, h1, sqt h2, brs h3⟩, ih h.2⟩
      exact ⟨xs, sql hx1, tps hx2⟩
    have hdr : Rd H4 d (.dK (D3 (.ref (p 97)) (.ref (p 98)) (.ref (p 99)))) := .inr ⟨_, hf⟩
    refine (er_call (ea_cons (ev_d3 (ev_var rfl) (ev_var rfl) hdr hc3) ea_nil) (sv_counts_of_sum hsum (hS.ok c hc3))) H4 (Ex.refl _) _ fun v H5 e5 hv => ?_
    obtain ⟨r5, rfl, nr5, hr5⟩ := hv
    refine ⟨_, rfl, _, rfl, d2, _, rfl, DPut.k (k := Sum.inr (sOf [c])) (e5 _ _ hkv) (Nat.lt_of_le_of_lt hkl (Nat.lt_trans (show i < 3 from hi) (by decide))), ?_⟩
    have hr52 : r5 ≠ d2 := fun e => by rw [e, hkv] at nr5; cases nr5
    have hr5d : r5 ≠ d := fun e => by rw [e, hf] at nr5; cases nr5
    refine ⟨⟨_, rfl⟩, fun b o h1 h2 h => by rw [upd_ne h2]; exact e5 _ _ (hb b o h1 h2 h), by rw [upd_ne hdd]; exact e5 _ _ hf, _, fun c' => if c' = c then r5 else r c', upd_same, ?_, fun c' h1 h2 => ?_⟩
    · have := length_putK kvs (Sum.inr (sOf [c]) : Key) (.ref r5)
      omega
    · show _ = some (V.ref (if c' = c then r5 else r c')) ∧ (if c' = c then r5 else r c') ≠ d ∧ (if c' = c then r5 else r c') ≠ d2 ∧ _
      rw [valV_put]
      by_cases hcc : c' = c
      · subst hcc
        rw [if_pos rfl, if_pos rfl]
        exact ⟨rfl, hr5d, hr52, by
          show upd H5 d2 _ (if c' = c' then r5 else r c') = _
          rw [if_pos rfl, upd_ne hr52]; exact hr5⟩
      · rw [if_neg hcc, if_neg fun e => hcc (by injection sOf_inj (Sum.inr.inj e))]
        obtain ⟨k1, k2, k3, k4⟩ := hr4 c' h1 (by omega)
        exact ⟨k1, k2, k3, by
          show upd H5 d2 _ (if c' = c then r5 else r c') = _
          rw [if_neg hcc, upd_ne k3]; exact e5 _ _ k4⟩
  · rintro od σ' H4 ⟨⟨z6, rfl⟩, hb, hf, kvs, r, hkv, hkl, hr4⟩
    have e34 : Ex H3 (upd H4 d (.dK (D3 (.ref (p 97)) (.ref (p 98)) (.ref (p 99))))) := fun b o h => by
      by_cases e : b = d
      · rw [e, upd_same, ← hd3, ← e, h]
      · rw [upd_ne e]; exact hb b o e (fun e2 => by rw [e2, nd2] at h; cases h) h
    have hc3 : C3 (upd H4 d (.dK (D3 (.ref (p 97)) (.ref (p 98)) (.ref (p 99))))) d2 r (gS S) := ⟨kvs, .inl (by rw [upd_ne hdd.symm]; exact hkv), fun c hc => by
      obtain ⟨k1, k2, k3, k4⟩ := hr4 c (by omega) (by show c < 97 + 3; omega)
      exact ⟨k1, by rw [upd_ne k2]; exact k4⟩⟩
    generalize upd H4 d (.dK (D3 (.ref (p 97)) (.ref (p 98)) (.ref (p 99)))) = H5 at e34 hc3
    refine q_dnew fun d3 nd3 => ?_
    have e05 := e13.trans e34
    have hff : ∀ x ∈ s, FF (fillP (gS S) x.2) x.2.wt := fun x hx => fill_ff (ok.abc x hx) lf
    have flen : ∀ k, (sumT (fillP (gS S)) (s.take k) []).length ≤ 12 * 32768 := fun k => by
      have h1 := sumT_lenG (G := fillP (gS S)) (B := 32768) (s.take k) [] fun x hx => Nat.le_trans (hff x (List.mem_of_mem_take hx)).len (Nat.le_trans (Nat.pow_le_pow_right (by decide) (show 4 * x.2.wt - 1 ≤ 15 by have := (ok.it x (List.mem_of_mem_take hx)).1; omega)) (by decide))
      rw [List.length_take, List.length_nil] at h1
      omega
    refine q_forSum (s := s) (ev_var rfl) (hs.mono e05) (Ex.new nd3) (fun k σ H' => (∃ z6 z8 z9 z10 z11, σ = [some (.ref a), some (.ref (p 97)), some (.ref (p 98)), some (.ref (p 99)), some (.ref d), some (.ref d2), z6, some (.ref d3), z8, z9, z10, z11]) ∧ Ex H5 H' ∧ H' d3 = some (.dK (kv (sumT (fillP (gS S)) (s.take k) [])))) ?_ ?_ ?_ ?_
    · exact fun H1 e1 => ⟨⟨_, none, none, none, none, rfl⟩, (Ex.new nd3).trans e1, e1 _ _ upd_same⟩
    · exact fun k σ' H' h => h.2.1
    · rintro k c t v σ' H6 hk ⟨⟨z6', z8, z9, z10, z11, rfl⟩, e6, hd6⟩ hv
      have hmem := List.mem_of_getElem? hk
      have hw4 : t.wt ≤ 4 := (ok.it _ hmem).1
      have hta : ABC t.letters := ok.abc _ hmem
      have ft := (hff _ hmem).fit (show t.wt ≤ 12 by omega)
      refine q_asgR (er_call (ea_cons (ev_var rfl) (ea_cons (ev_var rfl) ea_nil)) (sv_filled hv hta (show t.depth < 12 by have := t.depth_lt; omega) hw4 (hc3.mono e6) lf)) (fun v2 H7 e7 hv2 => ?_)
      obtain ⟨r7, rfl, hr7, hcase⟩ := hv2
      have h73 : d3 ≠ r7 := by
        rcases hcase with ⟨c', hc', rfl⟩ | h
        · obtain ⟨kvs', _, hh⟩ := hc3
          exact (ne_of_none (hh c' hc').2 nd3).symm
        · exact fun e => by rw [← e, hd6] at h; cases h
      refine for_put (p := fillP (gS S) t) (f0 := sumT (fillP (gS S)) (s.take k) []) hr7 (e7 _ _ hd6) h73 (fun x => c * x) ?_ ?_ ?_ ?_
      · have h1 := flen k
        have h2 : (fillP (gS S) t).length ≤ 2 ^ (4 * t.wt - 1) := (hff _ hmem).len
        have h3 : 2 ^ (4 * t.wt - 1) ≤ 32768 := Nat.le_trans (Nat.pow_le_pow_right (by decide) (show 4 * t.wt - 1 ≤ 15 by omega)) (by decide)
        omega
      · rintro σ2 H3 Q2 (rfl | ⟨z, rfl⟩) q2
        · exact ⟨_, rfl, q2⟩
        · exact ⟨_, rfl, q2⟩
      · exact fun w x H3 hm dr _ => ea_cons (ev_var rfl) (ea_cons (ev_var rfl) (ea_cons (ev_op (ev_var rfl) (ev_dget (ev_var rfl) (ev_var rfl) dr (look_mem ft.nrm.nd hm)) (rv_I (mulW (Nat.lt_of_le_of_lt (small_bit (sm _ hmem)) (bit_lt (by decide))) (ft.val hm)))) ea_nil))
      · rintro σ2 H8 hσ hbut hr8
        refine ⟨?_, fun b o hb => ?_, ?_⟩
        · rcases hσ with rfl | ⟨z, rfl⟩
          · exact ⟨_, _, _, _, _, rfl⟩
          · exact ⟨_, _, _, _, _, rfl⟩
        · exact hbut b o (ne_of_none hb nd3) (ne_of_none hb nd3) ((e6.trans e7) b o hb)
        · rw [hr8, sumT_take (fillP (gS S)) hk]
          rfl
    · rintro σ' H6 ⟨⟨z6', z8, z9, z10, z11, rfl⟩, e6, hd6⟩
      rw [List.take_length] at hd6
      refine s_retR (er_call (ea_cons (ev_var rfl) ea_nil) (sv_plain_of (p := putP S s) (.inl hd6) (put_pok hS hw3 ok hl sm hn) (put_prim S s))) (fun v H7 e7 hv => qQ v H7 ((e05.trans e6).trans e7) hv.weak)
end
end TB
/-! ## TbD__law_too_great_k15 -/
namespace TB
open PySem PySem.Spec PyProof.Rows L2 Evl
section
variable {P : Program} {wd : World} {K : PySem.W.Frag} {mg : Str → Option Value} {base : Heap}
/-! _law_too_great, of the law of the refusals -/
section
variable {σ : L2.St} {H : Hp} {te ta tb tc td : TE}
/-- a count with a bracket, in a new tuple -/
def CtAt (K : PySem.W.Frag) (c : Int) (t : Br) (v : V) (H : Hp) : Prop := ∃ (q : Addr) (b : V), v = .ref q ∧ SqT K H q [.int c, b] ∧ BrAt K H b t
theorem CtAt.mono {c : Int} {t : Br} {v : V} {H H' : Hp} (e : Ex H H') (h : CtAt K c t v H) : CtAt K c t v H' := by
  obtain ⟨q, b, h1, h2, h3⟩ := h
  exact ⟨q, b, h1, ex_t e h2, h3.mono e⟩
theorem er_ct {c : Int} {t : Br} (hb : Er tb σ H fun v H2 => BrAt K H2 v t) : Er (tTup (tCons (tC (.int c)) (tCons tb tNil))) σ H (CtAt K c t) :=
  (er_pair (R := fun v _ => v = .int c) (S := fun v H2 => BrAt K H2 v t) (ev_er ev_c fun _ _ => rfl) hb (fun _ h => h) (fun e h => h.mono e)).imp fun v H2 _ ⟨p, x, y, h1, h2, h3, h4⟩ => ⟨p, y, h1, by rw [← h3]; exact SqT.of h2, h4⟩
def SmAt (K : PySem.W.Frag) (s : List (Int × Br)) (v : V) (H : Hp) : Prop := ∃ p, v = .ref p ∧ SumAt K H p s
theorem SmAt.mono {s : List (Int × Br)} {v : V} {H H' : Hp} (e : Ex H H') (h : SmAt K s v H) : SmAt K s v H' := by
  obtain ⟨p, h1, h2⟩ := h
  exact ⟨p, h1, h2.mono e⟩
theorem er_sm0 : Er (tLst tNil) σ H (SmAt K []) := (el_er (el_lst ea_nil (by show 0 ≤ 100000; decide))).imp fun v H2 _ ⟨p, h1, _, h2⟩ => ⟨p, h1, [], sq_of h2, trivial⟩
theorem er_sm1 {c : Int} {t : Br} (h : Er ta σ H (CtAt K c t)) : Er (tLst (tCons ta tNil)) σ H (SmAt K [(c, t)]) :=
  (er_lst1 (R := CtAt K c t) h (fun e h => h.mono e)).imp fun v H2 _ ⟨p, x, h1, _, h2, q, b, h3, h4, h5⟩ => ⟨p, h1, [x], sq_of h2, ⟨q, b, h3, h4, h5⟩, trivial⟩
theorem er_sm2 {c d : Int} {t u : Br} (h : Er ta σ H (CtAt K c t)) (h2 : Er tb σ H (CtAt K d u)) : Er (tLst (tCons ta (tCons tb tNil))) σ H (SmAt K [(c, t), (d, u)]) :=
  (er_lst2 (R := CtAt K c t) (S := CtAt K d u) h h2 (fun e h => h.mono e) (fun e h => h.mono e)).imp fun v H2 _ ⟨p, x, y, h1, h2, ⟨q, b, h3, h4, h5⟩, ⟨q2, b2, h6, h7, h8⟩⟩ => ⟨p, h1, [x, y], h2, ⟨q, b, h3, h4, h5⟩, ⟨q2, b2, h6, h7, h8⟩, trivial⟩
theorem er_leaf {c : Nat} {s : Str} (h : s = sOf [c]) : Er (tC (.str s)) σ H fun v H2 => BrAt K H2 v (.leaf c) := ev_er (ev_tx h) fun _ _ => rfl
theorem ear_4 {R S T U : V → Hp → Prop} (h1 : Er ta σ H R) (h2 : Er tb σ H S) (h3 : Er tc σ H T) (h4 : Er td σ H U) (m1 : ∀ {v H H'}, Ex H H' → R v H → R v H') (m2 : ∀ {v H H'}, Ex H H' → S v H → S v H') (m3 : ∀ {v H H'}, Ex H H' → T v H → T v H') (m4 : ∀ {v H H'}, Ex H H' → U v H → U v H') : Ear (tCons ta (tCons tb (tCons tc (tCons td tNil)))) σ H fun vs H2 => ∃ a b c d, vs = [a, b, c, d] ∧ R a H2 ∧ S b H2 ∧ T c H2 ∧ U d H2 :=
  ear_cons h1 fun x H1 e1 hx => ear_cons (h2.mono e1) fun y H2 e2 hy => ear_cons (h3.mono (e1.trans e2)) fun z H3 e3 hz => ear_cons (h4.mono ((e1.trans e2).trans e3)) fun w H4 e4 hw => ear_of ea_nil fun H5 e5 => ⟨x, y, z, w, rfl, m1 (((e2.trans e3).trans e4).trans e5) hx, m2 ((e3.trans e4).trans e5) hy, m3 (e4.trans e5) hz, m4 e5 hw⟩
end
def four : Br := .node (.leaf 97) (.node (.leaf 98) (.node (.leaf 97) (.leaf 99)))
def ok8 (s : List (Int × Br)) (m : Nat) : Bool := decide (s.length ≤ 2) && s.all fun x => decide (x.2.wt ≤ m) && decide (x.1.natAbs ≤ 10) && x.2.letters.all fun c => decide (c = 97) || decide (c = 98) || decide (c = 99)
theorem ok8_ok {s : List (Int × Br)} {m : Nat} (h : ok8 s m = true) : SOk s m ∧ s.length ≤ 2 ∧ ∀ x ∈ s, x.1.natAbs ≤ 10 ^ 29 := by
  unfold ok8 at h
  rw [Bool.and_eq_true, decide_eq_true_iff, List.all_eq_true] at h
  obtain ⟨h1, h2⟩ := h
  have h3 : ∀ x ∈ s, x.2.wt ≤ m ∧ x.1.natAbs ≤ 10 ∧ ABC x.2.letters := fun x hx => by
    have := h2 x hx
    rw [Bool.and_eq_true, Bool.and_eq_true, decide_eq_true_iff, decide_eq_true_iff, List.all_eq_true] at this
    refine ⟨this.1.1, this.1.2, fun c hc => ?_⟩
    have h4 := this.2 c hc
    rw [Bool.or_eq_true, Bool.or_eq_true, decide_eq_true_iff, decide_eq_true_iff, decide_eq_true_iff] at h4
    rcases h4 with (h4 | h4) | h4
    · exact .inl h4
    · exact .inr (.inl h4)
    · exact .inr (.inr h4)
  have sm : ∀ x ∈ s, x.1.natAbs ≤ 10 ^ 29 := fun x hx => Nat.le_trans (h3 x hx).2.1 (by decide)
  exact ⟨⟨by omega, fun x hx => ⟨(h3 x hx).1, Nat.lt_of_le_of_lt (small_bit (sm x hx)) (bit_lt (by decide))⟩, fun x hx => (h3 x hx).2.2⟩, h1, sm⟩
def sp__law_too_great (C : Addr) : Sp := fun vs H Q E => ∃ (c : Int), vs = [.int c] ∧ ∀ H', Ex H H' → E (.ref C) none H'
theorem ok__law_too_great (B : Blt mg) (D__law_too_great : DefAt K mg "_law_too_great" s__law_too_great ["cell"]) (D_bracket_of : DefAt K mg "bracket_of" s_bracket_of ["one", "other"]) (D_put_in : DefAt K mg "put_in" s_put_in ["total", "a", "b", "c"]) (D_ask_weights : DefAt K mg "ask_weights" s_ask_weights ["total", "sums"]) (D_letters_of : DefAt K mg "letters_of" s_letters_of ["bracket"]) (D_greatest : DefAt K mg "greatest" s_greatest ["total"]) (D_weight : DefAt K mg "weight" s_weight ["bracket"]) (D_filled : DefAt K mg "filled" s_filled ["bracket", "counts"]) (D_counts_of_sum : DefAt K mg "counts_of_sum" s_counts_of_sum ["total"]) (D_counts_of : DefAt K mg "counts_of" s_counts_of ["bracket"]) (D_twisted : DefAt K mg "twisted" s_twisted ["one", "other"]) (D_times : DefAt K mg "times" s_times ["one", "other"]) (D_put_to : DefAt K mg "put_to" s_put_to ["counts", "word", "count"]) (D_plain_of : DefAt K mg "plain_of" s_plain_of ["counts"]) (D_is_plain : DefAt K mg "is_plain" s_is_plain ["word"]) (D_cut : DefAt K mg "cut" s_cut ["word"]) (D_plain_bracket : DefAt K mg "plain_bracket" s_plain_bracket ["word"]) (D_by_length : DefAt K mg "by_length" s_by_length ["word"]) (EC_NoWord : ErrAt K mg "NoWord") (EC_NoSum : ErrAt K mg "NoSum") (EC_TooGreat : ErrAt K mg "TooGreat") {tg : Tok} (c_GREATEST : mg "GREATEST_sums" = some (.int 8 tg)) : FnOk P wd K mg base (L2.CX P wd) 40 D__law_too_great.f D__law_too_great.fd ["cell"] (sp__law_too_great EC_TooGreat.C) := by
  have G_bracket_of := ok_bracket_of (P := P) (wd := wd) (base := base) B D_bracket_of D_greatest D_weight D_plain_of D_is_plain D_cut D_plain_bracket D_counts_of D_twisted D_times D_put_to D_by_length D_counts_of_sum EC_NoWord EC_NoSum EC_TooGreat c_GREATEST
  have G_put_in := ok_put_in (P := P) (wd := wd) (base := base) B D_put_in D_ask_weights D_letters_of D_greatest D_weight D_filled D_counts_of_sum D_counts_of D_twisted D_times D_put_to D_plain_of D_is_plain D_cut D_plain_bracket D_by_length EC_NoWord EC_NoSum EC_TooGreat c_GREATEST
  refine D__law_too_great.F.okX sc__law_too_great (fun vs H Q E h => ?_) (fun cdv A outer st H vs Q E hr h => ?_)
  · obtain ⟨c, rfl, _⟩ := h
    rfl
  obtain ⟨c, rfl, q⟩ := h
  refine ⟨_, (pss_cons (ps_set (i := 1) sc__law_too_great.nd rfl (by first | exact .inl rfl | exact .inr rfl) (pe_tup (pa_cons pe_str (pa_cons (pe_tup (pa_cons pe_str (pa_cons (pe_tup (pa_cons pe_str (pa_cons pe_str pa_nil))) pa_nil))) pa_nil))))
    (pss_one (ps_if (pt_cmpR op_eq (pe_op op_mod (pv 0) pe_int) pe_int (nomark _))
      (pss_one (ps_expr (clX (E := E) (Q1 := fun _ _ => True) D_bracket_of G_bracket_of hr (passes_call (takes_of rfl rfl rfl rfl) (fun _ _ _ _ h => h)) (pa_cons (pe_lst (pa_cons (pe_tup (pa_cons pe_int (pa_cons (pv 1) pa_nil))) (pa_cons (pe_tup (pa_cons pe_int (pa_cons pe_str pa_nil))) pa_nil))) (pa_cons (pe_lst (pa_cons (pe_tup (pa_cons pe_int (pa_cons pe_str pa_nil))) (pa_cons (pe_tup (pa_cons pe_int (pa_cons (pe_tup (pa_cons pe_str (pa_cons (pv 1) pa_nil))) pa_nil))) pa_nil))) pa_nil)))))
      (pss_one (ps_if (pt_cmpR op_eq (pe_op op_mod (pv 0) pe_int) pe_int (nomark _))
        (pss_one (ps_expr (clX (E := E) (Q1 := fun _ _ => True) D_bracket_of G_bracket_of hr (passes_call (takes_of rfl rfl rfl rfl) (fun _ _ _ _ h => h)) (pa_cons (pe_lst (pa_cons (pe_tup (pa_cons pe_int (pa_cons (pe_tup (pa_cons (pv 1) (pa_cons (pv 1) pa_nil))) pa_nil))) pa_nil)) (pa_cons (pe_lst (pa_cons (pe_tup (pa_cons pe_int (pa_cons pe_str pa_nil))) pa_nil)) pa_nil)))))
        (pss_one (ps_expr (clX (E := E) (Q1 := fun _ _ => True) D_put_in G_put_in hr (passes_call (takes_of rfl rfl rfl rfl) (fun _ _ _ _ h => h)) (pa_cons (pe_lst (pa_cons (pe_tup (pa_cons pe_int (pa_cons (pe_tup (pa_cons pe_str (pa_cons pe_str pa_nil))) pa_nil))) (pa_cons (pe_tup (pa_cons pe_int (pa_cons (pe_tup (pa_cons pe_str (pa_cons pe_str pa_nil))) pa_nil))) pa_nil))) (pa_cons (pe_lst (pa_cons (pe_tup (pa_cons pe_int (pa_cons (pv 1) pa_nil))) pa_nil)) (pa_cons (pe_lst (pa_cons (pe_tup (pa_cons pe_int (pa_cons (pe_tup (pa_cons (pv 1) (pa_cons pe_str pa_nil))) pa_nil))) pa_nil)) (pa_cons (pe_lst pa_nil) pa_nil)))))))))))), ?_⟩
  refine q_asgR (R := fun v H2 => BrAt K H2 v four) (er_two (er_leaf (by decide +kernel)) (er_two (er_leaf (by decide +kernel)) (er_two (er_leaf (by decide +kernel)) (er_leaf (by decide +kernel))))) (fun v H1 e1 hv => ?_)
  have v4 : ∀ {H2 : Hp} {σ : L2.St}, σ[1]? = some (some v) → Ex H1 H2 → Er (tVar 1) σ H2 fun v H2 => BrAt K H2 v four := fun hσ e => ev_er (ev_var hσ) fun H3 e3 => hv.mono (e.trans e3)
  refine s_if (et_test (ev_op (ev_op (ev_var rfl) ev_c (rv_I (by decide))) ev_c rv_eqI)) (fun hb H2 e2 => ?_) (fun hb H2 e2 => ?_)
  · refine s_callXR (ear_pair (R := SmAt K [(1, four), (0, .leaf 97)]) (S := SmAt K [(2, .leaf 97), (3, .node (.leaf 98) four)]) (er_sm2 (er_ct (v4 rfl e2)) (er_ct (er_leaf (by decide +kernel)))) (er_sm2 (er_ct (er_leaf (by decide +kernel))) (er_ct (er_two (er_leaf (by decide +kernel)) (v4 rfl e2)))) (fun e h => h.mono e) (fun e h => h.mono e)) (fun vs H3 e3 hv => ?_)
    obtain ⟨_, _, rfl, ⟨a, rfl, ha⟩, ⟨b, rfl, hb'⟩⟩ := hv
    have o1 := ok8_ok (s := [(1, four), (0, .leaf 97)]) (m := 8) (by decide +kernel)
    have o2 := ok8_ok (s := [(2, .leaf 97), (3, .node (.leaf 98) four)]) (m := 8) (by decide +kernel)
    have big : TooBig [(1, four), (0, .leaf 97)] [(2, .leaf 97), (3, .node (.leaf 98) four)] := ⟨by simp, by simp, by decide +kernel⟩
    exact ⟨a, b, _, _, 100, 100, rfl, ha, hb', o1.1, o2.1, fun z hz => small_bit (o1.2.2 z hz), fun z hz => small_bit (o2.2.2 z hz), by decide, fun _ H4 e4 => q H4 (((e1.trans e2).trans e3).trans e4), fun hn => absurd big hn⟩
  · refine s_if (et_test (ev_op (ev_op (ev_var rfl) ev_c (rv_I (by decide))) ev_c rv_eqI)) (fun hb H3 e3 => ?_) (fun hb H3 e3 => ?_)
    · refine s_callXR (ear_pair (R := SmAt K [(0, .node four four)]) (S := SmAt K [(1, .leaf 99)]) (er_sm1 (er_ct (er_two (v4 rfl (e2.trans e3)) (v4 rfl (e2.trans e3))))) (er_sm1 (er_ct (er_leaf (by decide +kernel)))) (fun e h => h.mono e) (fun e h => h.mono e)) (fun vs H4 e4 hv => ?_)
      obtain ⟨_, _, rfl, ⟨a, rfl, ha⟩, ⟨b, rfl, hb'⟩⟩ := hv
      have o1 := ok8_ok (s := [(0, .node four four)]) (m := 8) (by decide +kernel)
      have o2 := ok8_ok (s := [(1, .leaf 99)]) (m := 8) (by decide +kernel)
      have big : TooBig [(0, .node four four)] [(1, .leaf 99)] := ⟨by simp, by simp, by decide +kernel⟩
      exact ⟨a, b, _, _, 100, 100, rfl, ha, hb', o1.1, o2.1, fun z hz => small_bit (o1.2.2 z hz), fun z hz => small_bit (o2.2.2 z hz), by decide, fun _ H5 e5 => q H5 ((((e1.trans e2).trans e3).trans e4).trans e5), fun hn => absurd big hn⟩
    · have e13 := e2.trans e3
      refine s_callXR (ear_4 (R := SmAt K [(0, .node (.leaf 97) (.leaf 98)), (1, .node (.leaf 99) (.leaf 99))]) (S := SmAt K [(1, four)]) (T := SmAt K [(1, .node four (.leaf 97))]) (U := SmAt K []) (er_sm2 (er_ct (er_two (er_leaf (by decide +kernel)) (er_leaf (by decide +kernel)))) (er_ct (er_two (er_leaf (by decide +kernel)) (er_leaf (by decide +kernel))))) (er_sm1 (er_ct (v4 rfl e13))) (er_sm1 (er_ct (er_two (v4 rfl e13) (er_leaf (by decide +kernel))))) er_sm0 (fun e h => h.mono e) (fun e h => h.mono e) (fun e h => h.mono e) (fun e h => h.mono e)) (fun vs H4 e4 hv => ?_)
      obtain ⟨_, _, _, _, rfl, ⟨t, rfl, ht⟩, ⟨pa, rfl, ha⟩, ⟨pb, rfl, hb'⟩, ⟨pc, rfl, hc⟩⟩ := hv
      have o0 := ok8_ok (s := [(0, .node (.leaf 97) (.leaf 98)), (1, .node (.leaf 99) (.leaf 99))]) (m := 4) (by decide +kernel)
      have o1 := ok8_ok (s := [(1, four)]) (m := 8) (by decide +kernel)
      have o2 := ok8_ok (s := [(1, .node four (.leaf 97))]) (m := 8) (by decide +kernel)
      have o3 := ok8_ok (s := []) (m := 8) (by decide +kernel)
      have a3' : ∀ {P : Nat → Prop}, P 97 → P 98 → P 99 → ∀ c, c = 97 ∨ c = 98 ∨ c = 99 → P c := fun h1 h2 h3 c hc => by
        rcases hc with rfl | rfl | rfl
        · exact h1
        · exact h2
        · exact h3
      have big : Big [(0, .node (.leaf 97) (.leaf 98)), (1, .node (.leaf 99) (.leaf 99))] (a3 [(1, four)] [(1, .node four (.leaf 97))] []) := ⟨(0, .node (.leaf 97) (.leaf 98)), List.mem_cons_self, fun c hc => by
        have : c = 97 ∨ c = 98 := by simpa [Br.letters] using hc
        rcases this with rfl | rfl
        · simp [a3]
        · simp [a3], by decide +kernel⟩
      exact ⟨t, a3 pa pb pc, _, a3 [(1, four)] [(1, .node four (.leaf 97))] [], rfl, ht, a3' ha hb' hc, o0.1, by decide, o0.2.2, ⟨a3' o1.2.1 o2.2.1 o3.2.1, a3' o1.1 o2.1 o3.1, a3' o1.2.2 o2.2.2 o3.2.2⟩, fun _ H5 e5 => q H5 ((((e1.trans e2).trans e3).trans e4).trans e5), fun hn => absurd big hn⟩
end
end TB
/-! ## TbNum -/
/-! All words of a length; how many plain ones there are. -/
namespace TB
open PySem PySem.Spec PyProof.Rows L2 Evl
/-! ### all words with the first letters, in order -/
def lets (k : Nat) : W := ([97, 98, 99] : W).take k
def longer (k : Nat) (ws : List W) : List W := ws.flatMap fun w => (lets k).map fun c => w ++ [c]
def allw (k : Nat) : Nat → List W
  | 0 => [[]]
  | n + 1 => longer k (allw k n)
theorem lets_abc {k c : Nat} (h : c ∈ lets k) : c = 97 ∨ c = 98 ∨ c = 99 := by
  have := List.mem_of_mem_take h
  simpa using this
theorem longer_len (k : Nat) (hk : k ≤ 3) : ∀ ws : List W, (longer k ws).length = ws.length * k
  | [] => by show 0 = 0 * k; omega
  | w :: ws => by
    have ih := longer_len k hk ws
    unfold longer at ih ⊢
    rw [List.flatMap_cons, List.length_append, ih, List.length_map, List.length_cons, Nat.add_mul, Nat.one_mul]
    have : (lets k).length = k := by unfold lets; rw [List.length_take]; show min k 3 = k; omega
    omega
theorem allw_len (k : Nat) (hk : k ≤ 3) : ∀ n, (allw k n).length = k ^ n
  | 0 => rfl
  | n + 1 => by
    show (longer k (allw k n)).length = _
    rw [longer_len k hk, allw_len k hk n, Nat.pow_succ]
theorem allw_mem {k : Nat} : ∀ {n : Nat} {w : W}, w ∈ allw k n → w.length = n ∧ ABC w
  | 0, w, h => by
    have : w = [] := by simpa [allw] using h
    rw [this]; exact ⟨rfl, ABC.nil⟩
  | n + 1, w, h => by
    obtain ⟨u, hu, h2⟩ := List.mem_flatMap.mp h
    obtain ⟨c, hc, rfl⟩ := List.mem_map.mp h2
    obtain ⟨h1, h3⟩ := allw_mem hu
    exact ⟨by rw [List.length_append, h1]; rfl, h3.snoc (lets_abc hc)⟩
/-! ### marks -/
def mkN : Nat → Nat → Int → Nat → Int
  | 0, _, f, _ => f
  | m + 1, n, f, p => if 1 < n then (if n % p = 0 then (if n / p % p = 0 then 0 else mkN m (n / p) (0 - f) (p + 1)) else mkN m n f (p + 1)) else f
def okN : Nat → Nat → Nat → Bool
  | 0, n, _ => decide (n ≤ 1)
  | m + 1, n, p => if 1 < n then (if n % p = 0 then (if n / p % p = 0 then true else okN m (n / p) (p + 1)) else okN m n (p + 1)) else true
def mark (n : Nat) : Int := mkN 60 n 1 2
theorem ok_marks : ∀ n < 61, okN 60 n 2 = true := by decide +kernel
theorem small_marks : ∀ n < 61, (mark n).natAbs ≤ 1 := by decide +kernel
/-! ### how many -/
def part (k n i : Nat) : Int := if n % i = 0 then mark i * (k : Int) ^ (n / i) else 0
def parts (k n : Nat) : Nat → Int
  | 0 => 0
  | i + 1 => parts k n i + part k n (i + 1)
def many (k n : Nat) : Int := parts k n n / (n : Int)
def whole (k n : Nat) : Nat → Int
  | 0 => 0
  | i + 1 => whole k n i + if n % (i + 1) = 0 then ((i + 1 : Nat) : Int) * many k (i + 1) else 0
theorem many_ok1 : ∀ n < 9, many 1 n = (if n = 0 then many 1 0 else (((allw 1 n).filter plain).length : Int)) := by decide +kernel
theorem many_ok2 : ∀ n < 9, many 2 n = (if n = 0 then many 2 0 else (((allw 2 n).filter plain).length : Int)) := by decide +kernel
theorem many_ok3 : ∀ n < 7, many 3 n = (if n = 0 then many 3 0 else (((allw 3 n).filter plain).length : Int)) := by decide +kernel
theorem whole_ok1 : ∀ n < 61, n = 0 ∨ whole 1 n n = 1 := by decide +kernel
theorem whole_ok2 : ∀ n < 61, n = 0 ∨ whole 2 n n = (2 : Int) ^ n := by decide +kernel
theorem whole_ok3 : ∀ n < 61, n = 0 ∨ whole 3 n n = (3 : Int) ^ n := by decide +kernel
theorem given_plain (ws : List W) : given (ws.map tx).length (fun i => plain (ws.getD i [])) (fun i => tx (ws.getD i [])) = (ws.filter plain).map tx := by
  unfold given
  rw [List.length_map]
  have h : ∀ (l : List Nat), (l.filter fun i => plain (ws.getD i [])).map (fun i => tx (ws.getD i [])) = ((l.map fun i => ws.getD i []).filter plain).map tx := fun l => by
    induction l with
    | nil => rfl
    | cons i l ih =>
      rw [List.map_cons, List.filter_cons, List.filter_cons]
      split
      · rw [List.map_cons, List.map_cons, ih]
      · exact ih
  rw [h]
  have e : (List.range ws.length).map (fun i => ws.getD i []) = ws := by
    refine List.ext_getElem? fun i => ?_
    rw [List.getElem?_map]
    rcases Nat.lt_or_ge i ws.length with hi | hi
    · rw [List.getElem?_range hi, List.getElem?_eq_getElem hi]
      show some (ws.getD i []) = some ws[i]
      rw [List.getD_eq_getElem?_getD, List.getElem?_eq_getElem hi]
      rfl
    · rw [List.getElem?_eq_none hi, List.getElem?_eq_none (by rw [List.length_range]; exact hi)]
      rfl
  rw [e]
theorem dec0 (a : Nat) : decide ((a : Int) = 0) = decide (a = 0) := by
  by_cases h : a = 0
  · subst h; rfl
  · rw [decide_eq_false h, decide_eq_false (by omega)]
/-! ### readings -/
section
variable {K : PySem.W.Frag} {σ : L2.St} {H H' : Hp} {ta tb tc te tl : TE} {tz : TS} {D : Ends}
theorem ev_chain {r r' : R2} {x y z : V} {a b : Bool} (ha : Ev ta σ H x) (hb : Ev tb σ H y) (h1 : RV r x y H (.bl a)) (hc : a = true → Ev tc σ H z) (h2 : a = true → RV r' y z H (.bl b)) : Ev (tChain r r' ta tb tc) σ H (.bl (a && b)) := fun H1 e Q q =>
  ha H1 e _ fun H2 e2 => hb H2 (e.trans e2) _ fun H3 e3 => h1 H3 ((e.trans e2).trans e3) _ fun H4 e4 => ⟨a, rfl, by
    have e14 := (e2.trans e3).trans e4
    cases a with
    | false => exact q H4 e14
    | true =>
      refine hc rfl H4 (e.trans e14) _ fun H5 e5 => h2 rfl H5 ((e.trans e14).trans e5) _ fun H6 e6 => ?_
      exact q H6 ((e14.trans e5).trans e6)⟩
/-- [.. for c in text] -/
theorem el_lcStr {w : W} {j : Nat} {vs : List Nat} (v : Nat → V) (h : Ev tl σ H (tx w)) (hz : w.length ≤ 40000) (hw : ∀ x, wipe ((wipe σ vs).set j (some x)) vs = wipe σ vs)
    (he : ∀ c H1, Ex H H1 → c ∈ w → Ev te ((wipe σ vs).set j (some (tx [c]))) H1 (v c)) : EvL (tLc (iStr tl) (gName j) tYes te vs) σ H (w.map v) := fun H0 e Q q => h H0 e _ fun H1 e1 => ⟨sOf w, rfl, fun Dl hD => by
  have hs : (sOf w).cps.size = w.length := by show w.toArray.size = _; rw [List.size_toArray]
  refine ⟨fun i m H' => i + m = w.length ∧ Ex H1 H' ∧ H' Dl = some (.lst ((w.take i).map v)), ⟨w.length, by omega, Ex.new hD, upd_same⟩, fun i m H' ⟨hm, e2, hl⟩ => ?_⟩
  by_cases hi : i < w.length
  · refine .inr ⟨by show i < (sOf w).cps.size; rw [hs]; exact hi, fun H2 => Ex H1 H2 ∧ H2 Dl = some (.lst ((w.take (i + 1)).map v)), fun H2 h2 => ⟨m - 1, by omega, by omega, h2⟩, fun x H2 hy => ?_⟩
    obtain ⟨rfl, c, hc, rfl⟩ := hy
    have hc' : w[i]? = some c := by
      have : (sOf w).cps = w.toArray := rfl
      rw [this] at hc
      simpa using hc
    refine ⟨hw _, ?_⟩
    show te ((wipe σ vs).set j (some (tx [c]))) H2 fun y H4 => _
    refine he c H2 ((e.trans e1).trans e2) (List.mem_of_getElem? hc') H2 (Ex.refl _) _ fun H4 e4 => ⟨_, e4 _ _ hl, sz_lt (by rw [List.length_map, List.length_take]; omega), (e2.trans e4).mut hD, ?_⟩
    rw [upd_same, List.take_add_one, hc', List.map_append]
    rfl
  · have e3 : i = w.length := by omega
    subst e3
    rw [List.take_length] at hl
    exact .inl ⟨by show (sOf w).cps.size ≤ w.length; rw [hs]; exact Nat.le_refl _, q Dl H' (fresh_back e1 hD) (e1.trans e2) hl⟩⟩
/-- xs.extend(a new list) -/
theorem s_ext {l : Addr} {xs ys : List V} (hl : H l = some (.lst xs)) (ha : Ev ta σ H (.ref l)) (h : EvL te σ H ys) (hz : xs.length + ys.length ≤ 100000) (k : ∀ H1, Ex H H1 → D.nx σ (upd H1 l (.lst (xs ++ ys)))) :
    tDrop (tBM K "list" rExtend ta (tCons te tNil)) D σ H := ha H (Ex.refl H) _ fun H1 e1 =>
  ⟨Or.inl ⟨rfl, xs, sq_of (e1 l _ hl)⟩, h H1 e1 _ fun p H2 np e2 hp => ⟨l, p, xs, ys, rfl, rfl, e2 _ _ (e1 _ _ hl), hp, sz_of hz, k H2 (e1.trans e2)⟩⟩
end
end TB
/-! ## TbD_ask_numbers -/
namespace TB
open PySem PySem.Spec PyProof.Rows L2 Evl
section
variable {P : Program} {wd : World} {K : PySem.W.Frag} {mg : Str → Option Value} {base : Heap}
/-! ask_numbers -/
def Good (a b m : Int) : Prop := (1 ≤ a ∧ a ≤ 3) ∧ (1 ≤ b ∧ b ≤ m)
def sp_ask_numbers (C : Addr) : Sp := fun vs H Q E => ∃ (a b m : Int), vs = [.int a, .int b, .int m] ∧ (¬ Good a b m → ∀ H', Ex H H' → E (.ref C) none H') ∧ (Good a b m → ∀ H', Ex H H' → Q .non H')
theorem ok_ask_numbers (B : Blt mg) (D_ask_numbers : DefAt K mg "ask_numbers" s_ask_numbers ["letters", "length", "most"]) (EC_NoNumber : ErrAt K mg "NoNumber") : FnOk P wd K mg base (L2.CX P wd) 1 D_ask_numbers.f D_ask_numbers.fd ["letters", "length", "most"] (sp_ask_numbers EC_NoNumber.C) := by
  refine D_ask_numbers.F.okX sc_ask_numbers (fun vs H Q E h => ?_) (fun cdv A outer st H vs Q E hr h => ?_)
  · obtain ⟨a, b, m, rfl, _⟩ := h
    rfl
  obtain ⟨a, b, m, rfl, qE, qQ⟩ := h
  refine ⟨_, (pss_one (ps_if (PW.pt (pw_or (pt_not (pt_chain op_le op_le pe_int (pv 0) pe_int)) (pw_or1 (pt_not (pt_chain op_le op_le pe_int (pv 1) (pv 2))))))
      (pss_one (ps_raise rfl (takes_of rfl rfl rfl rfl) (EC_NoNumber.pm)))
      pss_nil)), ?_⟩
  refine s_when (et_or (et_not (et_test (ev_chain ev_c (ev_var rfl) rv_I0 (fun _ => ev_c) (fun _ => rv_I0)))) (fun _ => et_not (et_test (ev_chain ev_c (ev_var rfl) rv_I0 (fun _ => ev_var rfl) (fun _ => rv_I0))))) (fun hb H1 e1 => ?_) (fun hb H1 e1 => ?_)
  · refine qE (fun g => ?_) H1 e1
    obtain ⟨⟨h1, h2⟩, h3, h4⟩ := g
    rw [decide_eq_true h1, decide_eq_true h2, decide_eq_true h3, decide_eq_true h4] at hb
    cases hb
  · refine qQ ?_ H1 e1
    obtain ⟨b1, b2⟩ := Bool.or_eq_false_iff.mp hb
    have c1 : (decide ((1 : Int) ≤ a) && decide (a ≤ 3)) = true := by simpa using b1
    have c2 : (decide ((1 : Int) ≤ b) && decide (b ≤ m)) = true := by simpa using b2
    obtain ⟨d1, d2⟩ := Bool.and_eq_true_iff.mp c1
    obtain ⟨d3, d4⟩ := Bool.and_eq_true_iff.mp c2
    exact ⟨⟨of_decide_eq_true d1, of_decide_eq_true d2⟩, of_decide_eq_true d3, of_decide_eq_true d4⟩
end
end TB
/-! ## TbD_plain_words_k15 -/
namespace TB
open PySem PySem.Spec PyProof.Rows L2 Evl
section
variable {P : Program} {wd : World} {K : PySem.W.Frag} {mg : Str → Option Value} {base : Heap}
/-! plain_words -/
def sp_plain_words (C : Addr) : Sp := fun vs H Q E => ∃ (a b : Int), vs = [.int a, .int b] ∧ (¬ Good a b 8 → ∀ H', Ex H H' → E (.ref C) none H') ∧ (Good a b 8 → ∀ p H', H p = none → Ex H H' → H' p = some (.lst (((allw a.toNat b.toNat).filter plain).map tx)) → Q (.ref p) H')
theorem sv_plain_words {C : Addr} {k n : Nat} {H : Hp} (g : Good k n 8) : SpL (sp_plain_words C) [.int (k : Int), .int (n : Int)] H (((allw k n).filter plain).map tx) := fun H1 e Q q E => ⟨k, n, rfl, fun h => absurd g h, fun _ => q⟩
theorem ok_plain_words (B : Blt mg) (D_plain_words : DefAt K mg "plain_words" s_plain_words ["letters", "length"]) (D_is_plain : DefAt K mg "is_plain" s_is_plain ["word"]) (D_ask_numbers : DefAt K mg "ask_numbers" s_ask_numbers ["letters", "length", "most"]) (EC_NoNumber : ErrAt K mg "NoNumber") {t1 t2 : Tok} (c_LETTERS : mg "LETTERS" = some (.str "abc" t1)) (c_LONGEST : mg "LONGEST_words" = some (.int 8 t2)) : FnOk P wd K mg base (L2.CX P wd) 4 D_plain_words.f D_plain_words.fd ["letters", "length"] (sp_plain_words EC_NoNumber.C) := by
  have G_is_plain := ok_is_plain (P := P) (wd := wd) (base := base) B D_is_plain
  have G_ask_numbers := ok_ask_numbers (P := P) (wd := wd) (base := base) B D_ask_numbers EC_NoNumber
  refine D_plain_words.F.okX sc_plain_words (fun vs H Q E h => ?_) (fun cdv A outer st H vs Q E hr h => ?_)
  · obtain ⟨a, b, rfl, _⟩ := h
    rfl
  obtain ⟨a, b, rfl, qE, q⟩ := h
  refine ⟨_, (pss_cons (ps_expr (clX (E := E) (Q1 := fun _ _ => True) D_ask_numbers G_ask_numbers hr (passes_call (takes_of rfl rfl rfl rfl) (fun _ _ _ _ h => h)) (pa_cons (pv 0) (pa_cons (pv 1) (pa_cons (pe_glob (v := .int 8) (by rfl) c_LONGEST ⟨_, rfl⟩) pa_nil)))))
    (pss_cons (ps_set (i := 2) sc_plain_words.nd rfl (by first | exact .inl rfl | exact .inr rfl) (pe_lst (pa_cons pe_str pa_nil)))
    (pss_cons (ps_for (passes_of rfl) rfl (pi_range1 (by rfl) B.range (pa_cons (pv 1) pa_nil)) (pg_name (i := 3) sc_plain_words.nd rfl (by first | exact .inl rfl | exact .inr rfl))
      (pss_cons (ps_set (i := 4) sc_plain_words.nd rfl (by first | exact .inl rfl | exact .inr rfl) (pe_lst pa_nil))
      (pss_cons (ps_for (passes_of rfl) rfl (pi_list (pv 2)) (pg_name (i := 5) sc_plain_words.nd rfl (by first | exact .inl rfl | exact .inr rfl))
        (pss_one (ps_expr (pe_bm PySem.F.plainAttrs_list PySem.F.slot_list_extend PySem.F.type_list_extend mt_extend (pv 4) (pa_cons (pe_lc (own := [("letter", 6)]) rfl sc_plain_words.nd (pi_str (pe_slice sl_str (pe_glob (v := .str "abc") (by rfl) c_LETTERS ⟨_, rfl⟩) po_none (po_some (pv 0)))) (blkOk_by (N := ["letters", "length", "words", "place", "longer", "word", "letter"]) (sc := defScope s_plain_words) (by decide +kernel)) (fun _ _ _ _ _ => (pg_name (i := 6) sc_plain_words.nd rfl (by first | exact .inl rfl | exact .inr rfl))) (fun _ _ _ _ _ => pts_nil) (fun _ _ _ _ _ => (pe_op op_add_str (pv 5) (pv 6)))) pa_nil)))))
      (pss_one (ps_set (i := 2) sc_plain_words.nd rfl (by first | exact .inl rfl | exact .inr rfl) (pv 4))))))
    (pss_one (ps_ret (pe_lc (own := [("word", 5)]) rfl sc_plain_words.nd (pi_list (pv 2)) (blkOk_by (N := ["letters", "length", "words", "place", "longer", "word", "letter"]) (sc := defScope s_plain_words) (by decide +kernel)) (fun _ _ _ _ _ => (pg_name (i := 5) sc_plain_words.nd rfl (by first | exact .inl rfl | exact .inr rfl))) (fun _ _ _ _ _ => (pts_one (pt_val (cl D_is_plain G_is_plain hr (pa_cons (pv 5) pa_nil))))) (fun _ _ _ _ _ => (pv 5)))))))), ?_⟩
  refine q_callX (ea_cons (ev_var rfl) (ea_cons (ev_var rfl) (ea_cons ev_c ea_nil))) fun H1 e1 => ⟨a, b, 8, rfl, fun hg H' e' => qE hg H' (e1.trans e'), fun hg H1' e1' => ?_⟩
  have e01 := e1.trans e1'
  have q := q hg
  obtain ⟨⟨g1, g2⟩, g3, g4⟩ := hg
  obtain ⟨k, rfl⟩ : ∃ k : Nat, a = (k : Int) := ⟨a.toNat, by omega⟩
  obtain ⟨n, rfl⟩ : ∃ n : Nat, b = (n : Int) := ⟨b.toNat, by omega⟩
  have hk : k ≤ 3 := by omega
  have hn : n ≤ 8 := by omega
  refine q_asgL (el_lst (ea_cons (ev_tx (w := []) (by decide +kernel)) ea_nil) (by show 1 ≤ 100000; decide)) (fun p0 H2 np0 e2 hp0 => ?_)
  have lets3 : ∀ i, i ≤ n → (allw k i).length ≤ 6561 := fun i hi => by
    rw [allw_len k hk]
    exact Nat.le_trans (Nat.pow_le_pow_left hk _) (Nat.le_trans (Nat.pow_le_pow_right (by decide) (show i ≤ 8 by omega)) (by decide))
  refine q_forR1 (n := (n : Int)) (ea_cons (ev_var rfl) ea_nil) (by omega) (fun i σ H' => (∃ p z3 z4 z5 z6, σ = [some (.int (k : Int)), some (.int (n : Int)), some (.ref p), z3, z4, z5, z6] ∧ H' p = some (.lst ((allw k i).map tx))) ∧ Ex H H') (fun H3 e3 => ⟨⟨p0, none, none, none, none, rfl, e3 _ _ hp0⟩, (e01.trans e2).trans e3⟩) ?_ ?_
  · rintro i σ H3 hi ⟨⟨p, z3, z4, z5, z6, rfl, hp⟩, e3⟩
    have hi' : i < n := by omega
    refine q_asgL (xs := []) (el_lst ea_nil (by show 0 ≤ 100000; decide)) (fun l H4 nl e4 hl => ?_)
    have hpl : p ≠ l := ne_of_none hp nl
    refine q_forL (K := K) (xs := (allw k i).map tx) (ev_var rfl) (sq_of (e4 _ _ hp)) (fun j σ H' => (∃ z5 z6, σ = [some (.int (k : Int)), some (.int (n : Int)), some (.ref p), some (.int (i : Int)), some (.ref l), z5, z6]) ∧ Ex H3 H' ∧ H' l = some (.lst ((longer k ((allw k i).take j)).map tx))) (fun H5 e5 => ⟨⟨_, _, rfl⟩, e4.trans e5, e5 _ _ hl⟩) (fun j σ H' _ h => sq_of (h.2.1 _ _ hp)) ?_ ?_
    · rintro j x σ H5 hx ⟨⟨z5, z6, rfl⟩, e5, hl5⟩
      obtain ⟨w, hw, rfl⟩ := el_tx1 hx
      have hwl : w.length = i := (allw_mem (List.mem_of_getElem? hw)).1
      have lk : (lets k).length = k := by unfold lets; rw [List.length_take]; show min k 3 = k; omega
      have lj : (longer k ((allw k i).take j)).length ≤ 6561 * 3 := by
        rw [longer_len k hk, List.length_take]
        exact Nat.mul_le_mul (Nat.le_trans (Nat.min_le_right _ _) (lets3 i (by omega))) hk
      refine s_ext hl5 (ev_var rfl) (ys := ((lets k).map fun c => w ++ [c]).map tx) (el_is (el_lcStr (fun c => tx (w ++ [c])) (sl_to (w := [97, 98, 99]) (k := k) (ev_tx (by decide +kernel)) (ev_var rfl) (by decide)) (by show (lets k).length ≤ 40000; omega) (fun x => rfl) (fun c H6 e6 hc => ev_op (ev_var rfl) (ev_var rfl) (rv_addS (by rw [hwl]; show i + 1 ≤ 100000; omega)))) (by rw [List.map_map]; rfl)) (by rw [List.length_map, List.length_map, List.length_map]; omega) (fun H6 e6 => ?_)
      refine ⟨⟨_, _, rfl⟩, (e5.trans e6).mut nl, ?_⟩
      rw [upd_same, ← List.map_append, List.take_add_one, hw]
      unfold longer
      rw [List.flatMap_append]
      simp
    · rintro σ H5 ⟨⟨z5, z6, rfl⟩, e5, hl5⟩
      rw [List.length_map, List.take_length] at hl5
      exact s_asg (ev_var rfl) (fun H6 e6 => ⟨⟨l, _, _, _, _, rfl, e6 _ _ hl5⟩, (e3.trans e5).trans e6⟩)
  · rintro σ H3 ⟨⟨p, z3, z4, z5, z6, rfl, hp⟩, e3⟩
    have hp : H3 p = some (.lst ((allw k n).map tx)) := hp
    have h65 := lets3 n (Nat.le_refl _)
    refine s_retL (el_is (el_lcL (fun i => plain ((allw k n).getD i [])) (fun i => tx ((allw k n).getD i [])) (ev_var rfl) (sq_of hp) (by rw [List.length_map]; show (allw k n).length ≤ 40000; omega) (fun x => rfl) (fun i x H4 e4 hx => ?_) (fun i x H4 e4 hx _ => ?_)) (given_plain (allw k n))) (fun r H4 nr e4 hr => q r H4 (fresh_back e3 nr) (e3.trans e4) hr)
    · obtain ⟨w, hw, rfl⟩ := el_tx1 hx
      have e : (allw k n).getD i [] = w := by rw [List.getD_eq_getElem?_getD, hw]; rfl
      rw [e]
      exact et_B (ev_call (ea_cons (ev_var rfl) ea_nil) (sv_is_plain (by have := (allw_mem (List.mem_of_getElem? hw)).1; omega)))
    · obtain ⟨w, hw, rfl⟩ := el_tx1 hx
      have e : (allw k n).getD i [] = w := by rw [List.getD_eq_getElem?_getD, hw]; rfl
      rw [e]
      exact ev_var rfl
end
end TB
/-! ## TbD_mark_of -/
namespace TB
open PySem PySem.Spec PyProof.Rows L2 Evl
section
variable {P : Program} {wd : World} {K : PySem.W.Frag} {mg : Str → Option Value} {base : Heap}
/-! mark_of -/
def sp_mark_of : Sp := fun vs H Q _ => ∃ (n : Nat), vs = [.int (n : Int)] ∧ n < 61 ∧ ∀ H', Ex H H' → Q (.int (mark n)) H'
theorem sv_mark_of {n : Nat} {H : Hp} (h : n < 61) : SpV sp_mark_of [.int (n : Int)] H (.int (mark n)) := fun H1 e Q q E => ⟨n, rfl, h, q⟩
theorem ok_mark_of (B : Blt mg) (D_mark_of : DefAt K mg "mark_of" s_mark_of ["number"]) : FnOk P wd K mg base CX0 1 D_mark_of.f D_mark_of.fd ["number"] sp_mark_of := by
  refine D_mark_of.F.ok sc_mark_of (fun vs H Q E h => ?_) (fun cdv A outer st H vs Q E hr h => ?_)
  · obtain ⟨n, rfl, _⟩ := h
    rfl
  obtain ⟨n0, rfl, h60, q⟩ := h
  refine ⟨_, (pss_cons (ps_set (i := 1) sc_mark_of.nd rfl (by first | exact .inl rfl | exact .inr rfl) pe_int)
    (pss_cons (ps_set (i := 2) sc_mark_of.nd rfl (by first | exact .inl rfl | exact .inr rfl) pe_int)
    (pss_cons (ps_while PassesOwn.never (pt_cmpR op_gt (pv 0) pe_int (nomark _))
      (pss_cons (ps_if (pt_cmpR op_eq (pe_op op_mod (pv 0) (pv 2)) pe_int (nomark _))
        (pss_cons (ps_set (i := 0) sc_mark_of.nd rfl (by first | exact .inl rfl | exact .inr rfl) (pe_op op_fdiv (pv 0) (pv 2)))
        (pss_cons (ps_set (i := 1) sc_mark_of.nd rfl (by first | exact .inl rfl | exact .inr rfl) (pe_op op_sub pe_int (pv 1)))
        (pss_one (ps_if (pt_cmpR op_eq (pe_op op_mod (pv 0) (pv 2)) pe_int (nomark _))
          (pss_one (ps_ret pe_int))
          pss_nil))))
        pss_nil)
      (pss_one (ps_set (i := 2) sc_mark_of.nd rfl (by first | exact .inl rfl | exact .inr rfl) (pe_op op_add (pv 2) pe_int)))))
    (pss_one (ps_ret (pv 1)))))), ?_⟩
  refine q_asg ev_c (fun H1 e1 => ?_)
  refine q_asg ev_c (fun H2 e2 => ?_)
  have e12 := e1.trans e2
  refine q_while (fun m σ H' => ∃ (n p : Nat) (f : Int), σ = [some (.int (n : Int)), some (.int f), some (.int (p : Int))] ∧ Ex H H' ∧ 2 ≤ p ∧ p + m ≤ 62 ∧ okN m n p = true ∧ mkN m n f p = mark n0) 60 ⟨n0, 2, 1, rfl, e12, by decide, by decide, ok_marks n0 h60, rfl⟩ ?_
  rintro m σ H3 ⟨n, p, f, rfl, e3, hp, hpm, hok, hmk⟩
  refine ⟨decide ((1 : Int) < (n : Int)), et_test (ev_op (ev_var rfl) ev_c rv_I0), fun hb H4 e4 => ?_, fun hb H4 e4 => ?_⟩
  · have hn : 1 < n := by have := of_decide_eq_true hb; omega
    cases m with
    | zero =>
      have : n ≤ 1 := of_decide_eq_true hok
      omega
    | succ m =>
      have hp0 : (0 : Int) < (p : Int) := by omega
      have cm : ∀ a : Nat, ((a : Int) % (p : Int)) = ((a % p : Nat) : Int) := fun a => (Int.natCast_emod a p).symm
      have cd : ((n : Int) / (p : Int)) = ((n / p : Nat) : Int) := (Int.natCast_ediv n p).symm
      rw [okN, if_pos hn] at hok
      rw [mkN, if_pos hn] at hmk
      refine ⟨fun σ' H' => ∃ (n p : Nat) (f : Int), σ' = [some (.int (n : Int)), some (.int f), some (.int (p : Int))] ∧ Ex H H' ∧ 2 ≤ p ∧ p + m ≤ 62 ∧ okN m n p = true ∧ mkN m n f p = mark n0, fun σ2 H2 h => ⟨m, by omega, h⟩, ?_⟩
      have ev1 : EvT (tTest (tOp rEq (tOp (rI (fun _ j => 0 < j) fun i j => .int (i % j)) (tVar 0) (tVar 2)) (tC (.int 0)))) [some (V.int (n : Int)), some (.int f), some (.int (p : Int))] H4 (decide (n % p = 0)) := et_is (et_test (ev_op (ev_op (ev_var rfl) (ev_var rfl) (rv_I (C := fun _ j => 0 < j) hp0)) ev_c rv_eqI)) (by rw [cm, dec0])
      by_cases hd : n % p = 0
      · rw [if_pos hd] at hok hmk
        refine q_if ev1 (fun _ H5 e5 => ?_) (fun hb => by rw [decide_eq_true hd] at hb; cases hb)
        refine q_asg (ev_op (ev_var rfl) (ev_var rfl) (rv_I (C := CDiv) ⟨hp0, by omega⟩)) (fun H6 e6 => ?_)
        rw [cd]
        refine q_asg (ev_op ev_c (ev_var rfl) rv_I0) (fun H7 e7 => ?_)
        have e47 := ((e4.trans e5).trans e6).trans e7
        have ev2 : EvT (tTest (tOp rEq (tOp (rI (fun _ j => 0 < j) fun i j => .int (i % j)) (tVar 0) (tVar 2)) (tC (.int 0)))) [some (V.int ((n / p : Nat) : Int)), some (.int (0 - f)), some (.int (p : Int))] H7 (decide (n / p % p = 0)) := et_is (et_test (ev_op (ev_op (ev_var rfl) (ev_var rfl) (rv_I (C := fun _ j => 0 < j) hp0)) ev_c rv_eqI)) (by rw [cm, dec0])
        by_cases hd2 : n / p % p = 0
        · rw [if_pos hd2] at hmk
          refine s_when ev2 (fun _ H8 e8 => ?_) (fun hb => by rw [decide_eq_true hd2] at hb; cases hb)
          exact s_ret ev_c (fun H9 e9 => by rw [hmk]; exact q H9 (((e3.trans e47).trans e8).trans e9))
        · rw [if_neg hd2] at hok hmk
          refine s_when ev2 (fun hb => by rw [decide_eq_false hd2] at hb; cases hb) (fun _ H8 e8 => ?_)
          exact s_asg (ev_op (ev_var rfl) ev_c rv_I0) (fun H9 e9 => ⟨n / p, p + 1, 0 - f, rfl, ((e3.trans e47).trans e8).trans e9, by omega, by omega, hok, hmk⟩)
      · rw [if_neg hd] at hok hmk
        refine q_when ev1 (fun hb => by rw [decide_eq_false hd] at hb; cases hb) (fun _ H5 e5 => ?_)
        exact s_asg (ev_op (ev_var rfl) ev_c rv_I0) (fun H9 e9 => ⟨n, p + 1, f, rfl, ((e3.trans e4).trans e5).trans e9, by omega, by omega, hok, hmk⟩)
  · have hn : ¬ 1 < n := by have := of_decide_eq_false hb; omega
    have hf : f = mark n0 := by
      cases m with
      | zero => exact hmk
      | succ m => rw [mkN, if_neg hn] at hmk; exact hmk
    exact s_ret (ev_var rfl) (fun H5 e5 => by rw [hf]; exact q H5 ((e3.trans e4).trans e5))
end
end TB
/-! ## TbD_power_of -/
namespace TB
open PySem PySem.Spec PyProof.Rows L2 Evl
section
variable {P : Program} {wd : World} {K : PySem.W.Frag} {mg : Str → Option Value} {base : Heap}
/-! power_of -/
def sp_power_of : Sp := fun vs H Q _ => ∃ (k n : Nat), vs = [.int (k : Int), .int (n : Int)] ∧ k < 1000 ∧ n ≤ 1000 ∧ ∀ H', Ex H H' → Q (.int ((k : Int) ^ n)) H'
theorem sv_power_of {k n : Nat} {H : Hp} (h1 : k < 1000) (h2 : n ≤ 1000) : SpV sp_power_of [.int (k : Int), .int (n : Int)] H (.int ((k : Int) ^ n)) := fun H1 e Q q E => ⟨k, n, rfl, h1, h2, q⟩
theorem ok_power_of (B : Blt mg) (D_power_of : DefAt K mg "power_of" s_power_of ["number", "often"]) : FnOk P wd K mg base CX0 1 D_power_of.f D_power_of.fd ["number", "often"] sp_power_of := by
  refine D_power_of.F.ok sc_power_of (fun vs H Q E h => ?_) (fun cdv A outer st H vs Q E hr h => ?_)
  · obtain ⟨k, n, rfl, _⟩ := h
    rfl
  obtain ⟨k, n, rfl, hk, hn, q⟩ := h
  refine ⟨_, (pss_cons (ps_set (i := 2) sc_power_of.nd rfl (by first | exact .inl rfl | exact .inr rfl) pe_int)
    (pss_cons (ps_for PassesOwn.never rfl (pi_range1 (by rfl) B.range (pa_cons (pv 1) pa_nil)) (pg_name (i := 3) sc_power_of.nd rfl (by first | exact .inl rfl | exact .inr rfl))
      (pss_one (ps_set (i := 2) sc_power_of.nd rfl (by first | exact .inl rfl | exact .inr rfl) (pe_op op_mul (pv 2) (pv 0)))))
    (pss_one (ps_ret (pv 2))))), ?_⟩
  refine q_asg ev_c (fun H1 e1 => ?_)
  refine q_forR1 (n := (n : Int)) (ea_cons (ev_var rfl) ea_nil) (by omega) (fun i σ H' => (∃ z3, σ = [some (.int (k : Int)), some (.int (n : Int)), some (.int ((k : Int) ^ i)), z3]) ∧ Ex H H') (fun H2 e2 => ⟨⟨none, rfl⟩, e1.trans e2⟩) ?_ ?_
  · rintro i σ H2 hi ⟨⟨z3, rfl⟩, e2⟩
    refine s_asg (ev_op (ev_var rfl) (ev_var rfl) (rv_I (mulR (by omega)))) (fun H3 e3 => ⟨⟨some (.int (i : Int)), by rw [Int.pow_succ]; rfl⟩, e2.trans e3⟩)
  · rintro σ H2 ⟨⟨z3, rfl⟩, e2⟩
    exact s_ret (ev_var rfl) (fun H3 e3 => q H3 (e2.trans e3))
end
end TB
/-! ## TbD_how_many_k15 -/
namespace TB
open PySem PySem.Spec PyProof.Rows L2 Evl
section
variable {P : Program} {wd : World} {K : PySem.W.Frag} {mg : Str → Option Value} {base : Heap}
/-! how_many -/
def sp_how_many (C : Addr) : Sp := fun vs H Q E => ∃ (a b : Int), vs = [.int a, .int b] ∧ (¬ Good a b 60 → ∀ H', Ex H H' → E (.ref C) none H') ∧ (Good a b 60 → ∀ H', Ex H H' → Q (.int (many a.toNat b.toNat)) H')
theorem sv_how_many {C : Addr} {k n : Nat} {H : Hp} (g : Good k n 60) : SpV (sp_how_many C) [.int (k : Int), .int (n : Int)] H (.int (many k n)) := fun H1 e Q q E => ⟨k, n, rfl, fun h => absurd g h, fun _ => q⟩
theorem ok_how_many (B : Blt mg) (D_how_many : DefAt K mg "how_many" s_how_many ["letters", "length"]) (D_ask_numbers : DefAt K mg "ask_numbers" s_ask_numbers ["letters", "length", "most"]) (D_mark_of : DefAt K mg "mark_of" s_mark_of ["number"]) (D_power_of : DefAt K mg "power_of" s_power_of ["number", "often"]) (EC_NoNumber : ErrAt K mg "NoNumber") {t1 : Tok} (c_GREATEST : mg "GREATEST_words" = some (.int 60 t1)) : FnOk P wd K mg base (L2.CX P wd) 4 D_how_many.f D_how_many.fd ["letters", "length"] (sp_how_many EC_NoNumber.C) := by
  have G_ask_numbers := ok_ask_numbers (P := P) (wd := wd) (base := base) B D_ask_numbers EC_NoNumber
  have G_mark_of := ok_mark_of (P := P) (wd := wd) (base := base) B D_mark_of
  have G_power_of := ok_power_of (P := P) (wd := wd) (base := base) B D_power_of
  refine D_how_many.F.okX sc_how_many (fun vs H Q E h => ?_) (fun cdv A outer st H vs Q E hr h => ?_)
  · obtain ⟨a, b, rfl, _⟩ := h
    rfl
  obtain ⟨a, b, rfl, qE, q⟩ := h
  refine ⟨_, (pss_cons (ps_expr (clX (E := E) (Q1 := fun _ _ => True) D_ask_numbers G_ask_numbers hr (passes_call (takes_of rfl rfl rfl rfl) (fun _ _ _ _ h => h)) (pa_cons (pv 0) (pa_cons (pv 1) (pa_cons (pe_glob (v := .int 60) (by rfl) c_GREATEST ⟨_, rfl⟩) pa_nil)))))
    (pss_cons (ps_set (i := 2) sc_how_many.nd rfl (by first | exact .inl rfl | exact .inr rfl) pe_int)
    (pss_cons (ps_for (passes_of rfl) rfl (pi_range2 (by rfl) B.range (pa_cons pe_int (pa_cons (pe_op op_add (pv 1) pe_int) pa_nil))) (pg_name (i := 3) sc_how_many.nd rfl (by first | exact .inl rfl | exact .inr rfl))
      (pss_one (ps_if (pt_cmpR op_eq (pe_op op_mod (pv 1) (pv 3)) pe_int (nomark _))
        (pss_one (ps_set (i := 2) sc_how_many.nd rfl (by first | exact .inl rfl | exact .inr rfl) (pe_op op_add (pv 2) (pe_op op_mul (cl D_mark_of G_mark_of hr (pa_cons (pv 3) pa_nil)) (cl D_power_of G_power_of hr (pa_cons (pv 0) (pa_cons (pe_op op_fdiv (pv 1) (pv 3)) pa_nil)))))))
        pss_nil)))
    (pss_one (ps_ret (pe_op op_fdiv (pv 2) (pv 1))))))), ?_⟩
  refine q_callX (ea_cons (ev_var rfl) (ea_cons (ev_var rfl) (ea_cons ev_c ea_nil))) fun H1 e1 => ⟨a, b, 60, rfl, fun hg H' e' => qE hg H' (e1.trans e'), fun hg H1' e1' => ?_⟩
  have e01 := e1.trans e1'
  have q := q hg
  obtain ⟨⟨g1, g2⟩, g3, g4⟩ := hg
  obtain ⟨k, rfl⟩ : ∃ k : Nat, a = (k : Int) := ⟨a.toNat, by omega⟩
  obtain ⟨n, rfl⟩ : ∃ n : Nat, b = (n : Int) := ⟨b.toNat, by omega⟩
  have q : ∀ H', Ex H H' → Q (.int (many k n)) H' := q
  refine q_asg ev_c (fun H2 e2 => ?_)
  refine q_forR2 (lo := 1) (n := (n : Int) + 1) (ea_cons ev_c (ea_cons (ev_op (ev_var rfl) ev_c rv_I0) ea_nil)) (by omega) (fun i σ H' => (∃ z3, σ = [some (.int (k : Int)), some (.int (n : Int)), some (.int (parts k n i)), z3]) ∧ Ex H H') (fun H3 e3 => ⟨⟨none, rfl⟩, (e01.trans e2).trans e3⟩) ?_ ?_
  · rintro i σ H3 hi ⟨⟨z3, rfl⟩, e3⟩
    have hi' : i + 1 ≤ n := by omega
    have ci : (1 : Int) + (i : Int) = ((i + 1 : Nat) : Int) := by omega
    rw [ci]
    have cm : ((n : Int) % ((i + 1 : Nat) : Int)) = ((n % (i + 1) : Nat) : Int) := (Int.natCast_emod n (i + 1)).symm
    have cd : ((n : Int) / ((i + 1 : Nat) : Int)) = ((n / (i + 1) : Nat) : Int) := (Int.natCast_ediv n (i + 1)).symm
    have hp0 : (0 : Int) < ((i + 1 : Nat) : Int) := by omega
    have hs := small_marks (i + 1) (by omega)
    have step : parts k n (i + 1) = parts k n i + part k n (i + 1) := rfl
    refine s_when (b := decide (n % (i + 1) = 0)) (et_is (et_test (ev_op (ev_op (ev_var rfl) (ev_var rfl) (rv_I (C := fun _ j => 0 < j) hp0)) ev_c rv_eqI)) (by rw [cm, dec0])) (fun hb H4 e4 => ?_) (fun hb H4 e4 => ?_)
    · have hd : n % (i + 1) = 0 := of_decide_eq_true hb
      refine s_asg (ev_op (ev_var rfl) (ev_op (ev_call (ea_cons (ev_var rfl) ea_nil) (sv_mark_of (n := i + 1) (by omega))) (ev_call (ea_cons (ev_var rfl) (ea_cons (ev_is (ev_op (ev_var rfl) (ev_var rfl) (rv_I (C := CDiv) ⟨hp0, by omega⟩)) (by rw [cd])) ea_nil)) (sv_power_of (k := k) (n := n / (i + 1)) (by omega) (Nat.le_trans (Nat.div_le_self _ _) (by omega)))) (rv_I (mulL (by omega)))) rv_I0) (fun H5 e5 => ⟨⟨some (.int ((i + 1 : Nat) : Int)), by rw [step]; unfold part; rw [if_pos hd]; rfl⟩, (e3.trans e4).trans e5⟩)
    · have hd : ¬ n % (i + 1) = 0 := of_decide_eq_false hb
      exact ⟨⟨some (.int ((i + 1 : Nat) : Int)), by rw [step]; unfold part; rw [if_neg hd, Int.add_zero]; rfl⟩, e3.trans e4⟩
  · rintro σ H3 ⟨⟨z3, rfl⟩, e3⟩
    have e : ((n : Int) + 1 - 1).toNat = n := by omega
    rw [e]
    exact s_ret (ev_op (ev_var rfl) (ev_var rfl) (rv_I (C := CDiv) ⟨by omega, by omega⟩)) (fun H4 e4 => q H4 (e3.trans e4))
end
end TB
/-! ## TbD_gathered -/
namespace TB
open PySem PySem.Spec PyProof.Rows L2 Evl
section
variable {P : Program} {wd : World} {K : PySem.W.Frag} {mg : Str → Option Value} {base : Heap}
/-! gathered -/
/-- words with counts, in tuples -/
def WcAt (K : PySem.W.Frag) (H : Hp) (xs : List V) (l : TB.P) : Prop := xs.length = l.length ∧ ∀ (i : Nat) (x : V), xs[i]? = some x → ∃ (q : Addr) (w : W) (c : Int), l[i]? = some (w, c) ∧ x = .ref q ∧ SqT K H q [tx w, .int c]
theorem WcAt.mono {H H' : Hp} {xs : List V} {l : TB.P} (e : Ex H H') (h : WcAt K H xs l) : WcAt K H' xs l := ⟨h.1, fun i x hx => by
  obtain ⟨q, w, c, h1, h2, h3⟩ := h.2 i x hx
  exact ⟨q, w, c, h1, h2, ex_t e h3⟩⟩
def gth (l : TB.P) : TB.P := puts (fun x => x.1) (fun x => x.2) l []
def sp_gathered (K : PySem.W.Frag) (C : Addr) : Sp := fun vs H Q E => ∃ (a : Addr) (xs : List V) (l : TB.P), vs = [.ref a] ∧ SqL K H a xs ∧ WcAt K H xs l ∧ l.length ≤ 100000 ∧ POk 8 (gth l) ∧ (¬ Prim (gth l) → ∀ H', Ex H H' → E (.ref C) none H') ∧ (∀ v H', Ex H H' → pqR K 8 (gth l) v H' → Q v H')
theorem ok_gathered (B : Blt mg) (D_gathered : DefAt K mg "gathered" s_gathered ["words"]) (D_plain_of : DefAt K mg "plain_of" s_plain_of ["counts"]) (D_is_plain : DefAt K mg "is_plain" s_is_plain ["word"]) (D_cut : DefAt K mg "cut" s_cut ["word"]) (D_plain_bracket : DefAt K mg "plain_bracket" s_plain_bracket ["word"]) (D_counts_of : DefAt K mg "counts_of" s_counts_of ["bracket"]) (D_twisted : DefAt K mg "twisted" s_twisted ["one", "other"]) (D_times : DefAt K mg "times" s_times ["one", "other"]) (D_put_to : DefAt K mg "put_to" s_put_to ["counts", "word", "count"]) (D_by_length : DefAt K mg "by_length" s_by_length ["word"]) (EC_NoWord : ErrAt K mg "NoWord") (EC_NoSum : ErrAt K mg "NoSum") : FnOk P wd K mg base (L2.CX P wd) 22 D_gathered.f D_gathered.fd ["words"] (sp_gathered K EC_NoSum.C) := by
  have G_plain_of := ok_plain_of (P := P) (wd := wd) (base := base) B D_plain_of D_is_plain D_cut D_plain_bracket D_counts_of D_twisted D_times D_put_to D_by_length EC_NoWord EC_NoSum
  have G_put_to := ok_put_to (P := P) (wd := wd) (base := base) B D_put_to
  refine D_gathered.F.okX sc_gathered (fun vs H Q E h => ?_) (fun cdv A outer s H vs Q E hr h => ?_)
  · obtain ⟨a, xs, l, rfl, _⟩ := h
    rfl
  obtain ⟨a, xs, l, rfl, hs, hw, hl, po, qE, qQ⟩ := h
  refine ⟨_, (pss_cons (ps_set (i := 1) sc_gathered.nd rfl (by first | exact .inl rfl | exact .inr rfl) pe_dnewK)
    (pss_cons (ps_for (passes_of rfl) rfl (pi_list (pv 0)) (pg_tup rfl (pgs_cons (pg_name (i := 2) sc_gathered.nd rfl (by first | exact .inl rfl | exact .inr rfl)) (pgs_cons (pg_name (i := 3) sc_gathered.nd rfl (by first | exact .inl rfl | exact .inr rfl)) pgs_nil)))
      (pss_one (ps_expr (cl D_put_to G_put_to hr (pa_cons (pv 1) (pa_cons (pv 2) (pa_cons (pv 3) pa_nil)))))))
    (pss_one (ps_ret (clX (E := E) (Q1 := fun _ _ => True) D_plain_of G_plain_of hr (passes_call (takes_of rfl rfl rfl rfl) (fun _ _ _ _ h => h)) (pa_cons (pv 1) pa_nil)))))), ?_⟩
  refine q_dnew fun d nd => ?_
  have hlen : ∀ i, (puts (fun x : W × Int => x.1) (fun x => x.2) (l.take i) []).length ≤ 10000000 := fun i => by
    have h1 := puts_len (fun x : W × Int => x.1) (fun x => x.2) (l.take i) []
    rw [List.length_take, List.length_nil] at h1
    omega
  refine q_forL (xs := xs) (ev_var rfl) (ex_l (Ex.new nd) hs) (fun i σ H' => (∃ x y, σ = [some (.ref a), some (.ref d), x, y]) ∧ Ex H H' ∧ H' d = some (.dK (kv (puts (fun x => x.1) (fun x => x.2) (l.take i) [])))) (fun H1 e1 => ⟨⟨none, none, rfl⟩, (Ex.new nd).trans e1, e1 _ _ upd_same⟩) (fun i σ' H' _ p => ex_l p.2.1 hs) ?_ ?_
  · rintro i x σ' H1 hx ⟨⟨y, z, rfl⟩, e1, hd⟩
    obtain ⟨q, w, c, hli, rfl, hq⟩ := hw.2 i x hx
    refine ⟨q, [tx w, .int c], rfl, ex_t e1 hq, rfl, tx w, [.int c], rfl, .int c, [], rfl, rfl, ?_⟩
    refine s_put hd (ea_cons (ev_var rfl) (ea_cons (ev_var rfl) (ea_cons (ev_var rfl) ea_nil))) (hlen i) (fun H2 e2 => ?_)
    exact ⟨⟨_, _, rfl⟩, (e1.trans e2).mut nd, by rw [upd_same, puts_take _ _ hli]⟩
  · rintro σ' H1 ⟨⟨y, z, rfl⟩, e1, hd⟩
    rw [hw.1, List.take_length] at hd
    refine ⟨.ref d, rfl, d, gth l, 8, rfl, .inl hd, po, fun hn H2 e2 => qE hn H2 (e1.trans e2), fun F hF v H2 e2 hv => ?_⟩
    exact qQ v H2 (e1.trans e2) (psR.weak ⟨F, hF, hF.ok po, hv⟩)
end
end TB
/-! ## TbRead -/
/-! Sums written, and what a text writes. -/
namespace TB
open PySem PySem.Spec PyProof.Rows L2 Evl
open TL (numL numL_digits numL_val numL_len numL_lt numL_step numL_ne tl_num)
/-! ### written -/
def tB : Br → W
  | .leaf c => [c]
  | .node l r => [91] ++ tB l ++ [44] ++ tB r ++ [93]
def tT (x : Int × Br) : W := (if x.1 < 0 then 45 else 43) :: (numL x.1.natAbs ++ tB x.2)
def tSum (s : List (Int × Br)) : W := if s = [] then [48] else s.flatMap tT
theorem tB_len : ∀ t : Br, (tB t).length + 3 = 4 * t.wt
  | .leaf c => rfl
  | .node l r => by
    have h1 := tB_len l
    have h2 := tB_len r
    show ([91] ++ tB l ++ [44] ++ tB r ++ [93]).length + 3 = 4 * (l.wt + r.wt)
    simp only [List.length_append, List.length_cons, List.length_nil]
    omega
theorem num_len {c : Int} (h : c.natAbs ≤ 10 ^ 29) : (numL c.natAbs).length ≤ 30 := numL_len (by decide) (by omega)
theorem tT_len {x : Int × Br} (h : x.1.natAbs ≤ 10 ^ 29) (hw : x.2.wt ≤ 12) : (tT x).length ≤ 79 := by
  have h1 := num_len h
  have h2 := tB_len x.2
  unfold tT
  rw [List.length_cons, List.length_append]
  omega
theorem flat_len : ∀ (s : List (Int × Br)), (∀ x ∈ s, x.1.natAbs ≤ 10 ^ 29 ∧ x.2.wt ≤ 12) → (s.flatMap tT).length ≤ 79 * s.length
  | [], _ => Nat.le_refl _
  | x :: s, h => by
    have h1 := tT_len (h x List.mem_cons_self).1 (h x List.mem_cons_self).2
    have h2 := flat_len s fun y hy => h y (List.mem_cons_of_mem _ hy)
    rw [List.flatMap_cons, List.length_append, List.length_cons]
    omega
/-! ### read -/
def isDig (c : Nat) : Bool := decide (48 ≤ c) && decide (c ≤ 57)
def digs (u : W) : W := u.takeWhile isDig
def sg (s : Nat) : W → Option W
  | [] => none
  | c :: u => if c = s then some u else none
def okNum (neg : Bool) (ds : W) : Bool := !(decide (ds.length = 0) || (decide (30 < ds.length) || (decide (ds.head? = some 48) && (decide (1 < ds.length) || neg))))
def rdC : W → Option (Int × W)
  | [] => none
  | c :: u => if c = 43 ∨ c = 45 then (if okNum (decide (c = 45)) (digs u) = true then some (if c = 45 then 0 - (NumText.digitsVal (digs u) : Int) else (NumText.digitsVal (digs u) : Int), u.dropWhile isDig) else none) else none
def rdB : Nat → W → Option (Br × W)
  | 0, _ => none
  | _ + 1, [] => none
  | d + 1, c :: u => if c = 97 ∨ c = 98 ∨ c = 99 then some (.leaf c, u) else (sg 91 (c :: u)).bind fun u1 => (rdB d u1).bind fun p => (sg 44 p.2).bind fun u3 => (rdB d u3).bind fun q => (sg 93 q.2).bind fun u5 => some (.node p.1 q.1, u5)
def rdOne (x : W) : Option (Int × Br × W) := (rdC x).bind fun p => (rdB 8 p.2).bind fun q => some (p.1, q.1, q.2)
def rdL : Nat → W → Option (List (Int × Br))
  | 0, _ => none
  | n + 1, x => (rdOne x).bind fun p => if 8 < p.2.1.wt then none else (if p.2.2 = [] then some [] else rdL n p.2.2).map ((p.1, p.2.1) :: ·)
def rdM (n : Nat) (x : W) : Option (List (Int × Br)) := if x = [] then some [] else rdL n x
theorem rdL_succ (n : Nat) (x : W) : rdL (n + 1) x = (rdOne x).bind fun p => if 8 < p.2.1.wt then none else (rdM n p.2.2).map ((p.1, p.2.1) :: ·) := rfl
def rd (w : W) : Option (List (Int × Br)) := if w = [48] then some [] else rdL 12 w
/-! what is left is an end of what was given -/
theorem sg_suf {s : Nat} {x u : W} (h : sg s x = some u) : x = s :: u := by
  cases x with
  | nil => cases h
  | cons c y =>
    by_cases e : c = s
    · rw [sg, if_pos e] at h
      cases h
      rw [e]
    · rw [sg, if_neg e] at h
      cases h
theorem rdC_suf {x u : W} {c : Int} (h : rdC x = some (c, u)) : ∃ pre, x = pre ++ u ∧ 2 ≤ pre.length := by
  cases x with
  | nil => cases h
  | cons s y =>
    by_cases h1 : s = 43 ∨ s = 45
    · rw [rdC, if_pos h1] at h
      by_cases h2 : okNum (decide (s = 45)) (digs y) = true
      · rw [if_pos h2] at h
        cases h
        refine ⟨s :: digs y, ?_, ?_⟩
        · unfold digs
          rw [List.cons_append, List.takeWhile_append_dropWhile]
        · have h0 : (digs y).length ≠ 0 := fun e => by
            unfold okNum at h2
            rw [decide_eq_true e] at h2
            simp at h2
          rw [List.length_cons]
          omega
      · rw [if_neg h2] at h
        cases h
    · rw [rdC, if_neg h1] at h
      cases h
theorem rdB_suf : ∀ {d : Nat} {x u : W} {t : Br}, rdB d x = some (t, u) → ∃ pre, x = pre ++ u ∧ pre ≠ [] ∧ t.depth < d
  | 0, _, _, _, h => by cases h
  | _ + 1, [], _, _, h => by cases h
  | d + 1, c :: y, u, t, h => by
    rw [rdB] at h
    by_cases hc : c = 97 ∨ c = 98 ∨ c = 99
    · rw [if_pos hc] at h
      cases h
      exact ⟨[c], rfl, by simp, Nat.succ_pos _⟩
    · rw [if_neg hc] at h
      obtain ⟨u1, h1, h⟩ := Option.bind_eq_some_iff.mp h
      obtain ⟨p, h2, h⟩ := Option.bind_eq_some_iff.mp h
      obtain ⟨u3, h3, h⟩ := Option.bind_eq_some_iff.mp h
      obtain ⟨q, h4, h⟩ := Option.bind_eq_some_iff.mp h
      obtain ⟨u5, h5, h⟩ := Option.bind_eq_some_iff.mp h
      cases h
      obtain ⟨a, ea, _, da⟩ := rdB_suf (t := p.1) (u := p.2) h2
      obtain ⟨b, eb, _, db⟩ := rdB_suf (t := q.1) (u := q.2) h4
      have e1 := sg_suf h1
      have e3 := sg_suf h3
      have e5 := sg_suf h5
      refine ⟨91 :: (a ++ 44 :: (b ++ [93])), ?_, by simp, ?_⟩
      · rw [e1, ea, e3, eb, e5]
        simp
      · show max p.1.depth q.1.depth + 1 < d + 1
        omega
theorem drop_suf {w pre u : W} {k : Nat} (h : w.drop k = pre ++ u) (hk : k ≤ w.length) : w.drop (w.length - u.length) = u ∧ w.length - u.length = k + pre.length ∧ w.length - u.length ≤ w.length := by
  have hl := congrArg List.length h
  rw [List.length_drop, List.length_append] at hl
  have e : w.length - u.length = k + pre.length := by omega
  refine ⟨?_, e, Nat.sub_le _ _⟩
  rw [e, ← List.drop_drop, h, List.drop_left']
  rfl
theorem rdB_abc : ∀ {d : Nat} {x u : W} {t : Br}, rdB d x = some (t, u) → ABC t.letters
  | 0, _, _, _, h => by cases h
  | _ + 1, [], _, _, h => by cases h
  | d + 1, c :: y, u, t, h => by
    rw [rdB] at h
    by_cases hc : c = 97 ∨ c = 98 ∨ c = 99
    · rw [if_pos hc] at h
      cases h
      intro z hz
      have : z = c := by simpa [Br.letters] using hz
      rw [this]; exact hc
    · rw [if_neg hc] at h
      obtain ⟨u1, h1, h⟩ := Option.bind_eq_some_iff.mp h
      obtain ⟨p, h2, h⟩ := Option.bind_eq_some_iff.mp h
      obtain ⟨u3, h3, h⟩ := Option.bind_eq_some_iff.mp h
      obtain ⟨q, h4, h⟩ := Option.bind_eq_some_iff.mp h
      obtain ⟨u5, h5, h⟩ := Option.bind_eq_some_iff.mp h
      cases h
      intro z hz
      rcases List.mem_append.mp (show z ∈ p.1.letters ++ q.1.letters from hz) with h | h
      · exact rdB_abc (t := p.1) (u := p.2) h2 z h
      · exact rdB_abc (t := q.1) (u := q.2) h4 z h
/-! ### what is written is read -/
theorem rdB_back : ∀ {t : Br} {d : Nat} (u : W), ABC t.letters → t.depth < d → rdB d (tB t ++ u) = some (t, u)
  | .leaf c, 0, _, _, h => absurd h (Nat.not_lt_zero _)
  | .node _ _, 0, _, _, h => absurd h (Nat.not_lt_zero _)
  | .leaf c, d + 1, u, ha, _ => by
    show rdB (d + 1) (c :: u) = _
    rw [rdB, if_pos (ha c (by simp [Br.letters]))]
  | .node l r, d + 1, u, ha, hd => by
    have dl : l.depth < d := by have : max l.depth r.depth + 1 < d + 1 := hd; omega
    have dr : r.depth < d := by have : max l.depth r.depth + 1 < d + 1 := hd; omega
    have e : tB (.node l r) ++ u = 91 :: (tB l ++ 44 :: (tB r ++ 93 :: u)) := by
      show ([91] ++ tB l ++ [44] ++ tB r ++ [93]) ++ u = _
      simp
    rw [e, rdB, if_neg (by decide)]
    simp only [sg, if_pos]
    rw [Option.bind_some, rdB_back _ (fun c hc => ha c (List.mem_append_left _ hc)) dl, Option.bind_some]
    simp only [sg, if_pos]
    rw [Option.bind_some, rdB_back _ (fun c hc => ha c (List.mem_append_right _ hc)) dr, Option.bind_some]
    simp only [sg, if_pos]
    rfl
theorem dig_iff {c : Nat} : isDig c = true ↔ 48 ≤ c ∧ c ≤ 57 := by
  unfold isDig
  rw [Bool.and_eq_true, decide_eq_true_iff, decide_eq_true_iff]
theorem digs_app : ∀ {a b : W}, NumText.AllDigits a → (∀ c, b.head? = some c → isDig c = false) → digs (a ++ b) = a ∧ (a ++ b).dropWhile isDig = b
  | [], [], _, _ => ⟨rfl, rfl⟩
  | [], c :: b, _, h => by
    have := h c rfl
    unfold digs
    rw [List.nil_append, List.takeWhile_cons, List.dropWhile_cons, this]
    exact ⟨rfl, rfl⟩
  | c :: a, b, hd, h => by
    obtain ⟨i1, i2⟩ := digs_app hd.tail h
    unfold digs at i1 ⊢
    rw [List.cons_append, List.takeWhile_cons, List.dropWhile_cons, dig_iff.mpr hd.head, if_pos rfl, if_pos rfl, i1, i2]
    exact ⟨rfl, rfl⟩
theorem numL_head {n : Nat} (h : 0 < n) : (numL n).head? ≠ some 48 := by
  induction n using Nat.strongRecOn with
  | _ n ih =>
    by_cases h9 : n < 10
    · rw [numL_lt h9]
      simp
      omega
    · rw [numL_step (by omega), List.head?_append]
      have h2 := ih (n / 10) (by omega) (by omega)
      cases e : (numL (n / 10)).head? with
      | none => exact absurd (List.head?_eq_none_iff.mp e) (numL_ne _)
      | some c =>
        rw [e] at h2
        exact h2
theorem numL_zero : numL 0 = [48] := numL_lt (by decide)
theorem tB_head {t : Br} (ha : ABC t.letters) (u : W) : ∀ c, (tB t ++ u).head? = some c → isDig c = false := by
  intro c hc
  cases t with
  | leaf l =>
    have hl := ha l (by simp [Br.letters])
    have e : l = c := by simpa [tB] using hc
    rw [← e]
    rcases hl with rfl | rfl | rfl <;> rfl
  | node l r =>
    have e : 91 = c := by simpa [tB] using hc
    rw [← e]
    rfl
theorem rdC_back {c : Int} {v : W} (hc : c.natAbs ≤ 10 ^ 29) (hv : ∀ z, v.head? = some z → isDig z = false) : rdC ((if c < 0 then 45 else 43) :: (numL c.natAbs ++ v)) = some (c, v) := by
  obtain ⟨d1, d2⟩ := digs_app (numL_digits c.natAbs) hv
  have hl := num_len hc
  have hp := List.length_pos_iff.mpr (numL_ne c.natAbs)
  rw [rdC, d1, d2, numL_val]
  by_cases h : c < 0
  · rw [if_pos h, if_pos (.inr rfl), if_pos rfl, if_pos]
    · have : 0 - (c.natAbs : Int) = c := by omega
      rw [this]
    · unfold okNum
      have hh := numL_head (n := c.natAbs) (by omega)
      rw [decide_eq_false (show ¬ (numL c.natAbs).length = 0 by omega), decide_eq_false (show ¬ 30 < (numL c.natAbs).length by omega), decide_eq_false hh]
      rfl
  · rw [if_neg h, if_pos (.inl rfl), if_neg (show ¬ (43 : Nat) = 45 by decide), if_pos]
    · have : (c.natAbs : Int) = c := by omega
      rw [this]
    · unfold okNum
      rw [decide_eq_false (show ¬ (numL c.natAbs).length = 0 by omega), decide_eq_false (show ¬ 30 < (numL c.natAbs).length by omega)]
      by_cases h0 : c.natAbs = 0
      · rw [h0, numL_zero]
        decide
      · rw [decide_eq_false (numL_head (by omega))]
        rfl
theorem rdOne_back {x : Int × Br} (hc : x.1.natAbs ≤ 10 ^ 29) (ha : ABC x.2.letters) (hw : x.2.wt ≤ 8) (u : W) : rdOne (tT x ++ u) = some (x.1, x.2, u) := by
  unfold rdOne tT
  have e : (if x.1 < 0 then 45 else 43) :: (numL x.1.natAbs ++ tB x.2) ++ u = (if x.1 < 0 then 45 else 43) :: (numL x.1.natAbs ++ (tB x.2 ++ u)) := by simp
  rw [e, rdC_back hc (tB_head ha u), Option.bind_some, rdB_back u ha (by have := x.2.depth_lt; omega), Option.bind_some]
theorem rdL_back : ∀ {s : List (Int × Br)} {n : Nat}, s ≠ [] → s.length ≤ n → (∀ x ∈ s, x.1.natAbs ≤ 10 ^ 29 ∧ ABC x.2.letters ∧ x.2.wt ≤ 8) → rdL n (s.flatMap tT) = some s
  | [], _, h, _, _ => absurd rfl h
  | x :: s, 0, _, h, _ => by simp at h
  | x :: s, n + 1, _, hl, h => by
    obtain ⟨h1, h2, h3⟩ := h x List.mem_cons_self
    rw [List.flatMap_cons, rdL_succ, rdOne_back h1 h2 h3, Option.bind_some]
    show (if 8 < x.2.wt then none else (rdM n (s.flatMap tT)).map ((x.1, x.2) :: ·)) = _
    rw [if_neg (by omega)]
    unfold rdM
    cases s with
    | nil => rfl
    | cons y s =>
      have hne : (y :: s).flatMap tT ≠ [] := by
        rw [List.flatMap_cons]
        unfold tT
        simp
      rw [if_neg hne, rdL_back (by simp) (by simpa using hl) fun z hz => h z (List.mem_cons_of_mem _ hz)]
      rfl
theorem rd_back {s : List (Int × Br)} (hl : s.length ≤ 12) (h : ∀ x ∈ s, x.1.natAbs ≤ 10 ^ 29 ∧ ABC x.2.letters ∧ x.2.wt ≤ 8) : rd (tSum s) = some s := by
  unfold rd tSum
  by_cases hs : s = []
  · rw [if_pos hs, if_pos rfl, hs]
  · rw [if_neg hs]
    have : s.flatMap tT ≠ [48] := by
      cases s with
      | nil => exact absurd rfl hs
      | cons x s =>
        rw [List.flatMap_cons]
        unfold tT
        intro e
        have := congrArg List.head? e
        simp at this
        split at this <;> cases this
    rw [if_neg this, rdL_back hs hl h]
/-! ### signs of a number's end -/
theorem digs_at : ∀ (u : W) (i : Nat), (i < (digs u).length → ∃ c, u[i]? = some c ∧ isDig c = true) ∧ (i = (digs u).length → u[i]? = none ∨ ∃ c, u[i]? = some c ∧ isDig c = false)
  | [], i => ⟨fun h => by simp [digs] at h, fun h => .inl (by simp)⟩
  | c :: u, i => by
    unfold digs
    rw [List.takeWhile_cons]
    cases hc : isDig c with
    | true =>
      rw [if_pos rfl, List.length_cons]
      cases i with
      | zero => exact ⟨fun _ => ⟨c, rfl, hc⟩, fun h => by omega⟩
      | succ i =>
        obtain ⟨h1, h2⟩ := digs_at u i
        unfold digs at h1 h2
        exact ⟨fun h => by simpa using h1 (by omega), fun h => by simpa using h2 (by omega)⟩
    | false =>
      rw [if_neg (by decide)]
      refine ⟨fun h => by simp at h, fun h => .inr ⟨c, ?_, hc⟩⟩
      have : i = 0 := by simpa using h
      rw [this]; rfl
theorem digs_take (u : W) : u.take (digs u).length = digs u := by
  unfold digs
  conv => lhs; arg 2; rw [← List.takeWhile_append_dropWhile (p := isDig) (l := u)]
  rw [List.take_left']
  rfl
theorem digs_drop (u : W) : u.drop (digs u).length = u.dropWhile isDig := by
  unfold digs
  conv => lhs; arg 2; rw [← List.takeWhile_append_dropWhile (p := isDig) (l := u)]
  rw [List.drop_left']
  rfl
theorem digs_all : ∀ (u : W), NumText.AllDigits (digs u)
  | [] => fun c hc => by cases hc
  | a :: u => fun c hc => by
    unfold digs at hc
    rw [List.takeWhile_cons] at hc
    cases ha : isDig a with
    | true =>
      rw [ha, if_pos rfl] at hc
      rcases List.mem_cons.mp hc with rfl | hc
      · exact dig_iff.mp ha
      · exact digs_all u c hc
    | false =>
      rw [ha, if_neg (by decide)] at hc
      cases hc
/-! ### readings -/
theorem num_tx (n : Nat) : Str.ofString (toString ((n : Nat) : Int)) = sOf (numL n) := by
  rw [sOf_of (Str.ofString (toString ((n : Nat) : Int)))]
  congr 1
  exact tl_num n
section
variable {K : PySem.W.Frag} {σ : L2.St} {H H' : Hp} {ta tb te : TE}
def rAbs : List V → Hp → VK → Prop := fun xs H Q => ∃ i, xs = [.int i] ∧ Q (.int (if i < 0 then -i else i)) H
def rStrI : List V → Hp → VK → Prop := fun xs H Q => ∃ i : Int, xs = [.int i] ∧ i.natAbs.log2 < 1920 ∧ Q (.str (toString i)) H
theorem ev_strabs {c : Int} (h : Ev te σ H (.int c)) (hc : c.natAbs ≤ 10 ^ 29) : Ev (tCB rStrI (tCons (tCB rAbs (tCons te tNil)) tNil)) σ H (tx (numL c.natAbs)) := fun H1 e Q q =>
  h H1 e _ fun H2 e2 => ⟨c, rfl, by
    have e1 : (if c < 0 then -c else c) = ((c.natAbs : Nat) : Int) := by split <;> omega
    refine ⟨((c.natAbs : Nat) : Int), by rw [e1], ?_, ?_⟩
    · rw [Int.natAbs_natCast]
      by_cases h0 : c.natAbs = 0
      · rw [h0]; decide
      · exact (Nat.log2_lt h0).mpr (Nat.lt_of_le_of_lt hc (by decide +kernel))
    · show Q (.str (Str.ofString (toString ((c.natAbs : Nat) : Int)))) H2
      rw [num_tx]
      exact q H2 e2⟩
def rIntB : List V → Hp → VK → Prop := fun xs H Q => (∃ i, xs = [.int i] ∧ Q (.int i) H) ∨ ∃ k, xs = [.bl k] ∧ Q (.int (if k then 1 else 0)) H
theorem ev_intB {b : Bool} (h : Ev te σ H (.bl b)) : Ev (tCB rIntB (tCons te tNil)) σ H (.int (if b then 1 else 0)) := fun H1 e Q q =>
  h H1 e _ fun H2 e2 => .inr ⟨b, rfl, q H2 e2⟩
end
theorem inV_tx (l : W) : ∀ ws : List W, inV (tx l) (ws.map tx) = decide (l ∈ ws)
  | [] => by simp [inV]
  | w :: ws => by
    have ih := inV_tx l ws
    unfold inV at ih ⊢
    rw [List.map_cons, List.any_cons, ih]
    show ((sOf w == sOf l) || decide (l ∈ ws)) = decide (l ∈ w :: ws)
    by_cases h : w = l
    · subst h; simp
    · have h2 : ¬ l = w := fun e => h e.symm
      have h3 : (sOf w == sOf l) = false := beq_eq_false_iff_ne.mpr fun e => h (sOf_inj e)
      rw [h3]
      simp [h2]
theorem flat_txs (ws : List W) : (ws.map tx).all flatV = true := by
  rw [List.all_map]
  exact List.all_eq_true.mpr fun _ _ => rfl
theorem take1 (w : W) (k : Nat) : (w.drop k).take (k + 1 - k) = (w.drop k).take 1 := by rw [Nat.add_sub_cancel_left]
section
variable {K : PySem.W.Frag} {σ : L2.St} {H H' : Hp} {ta tb te : TE}
theorem ev_inc {k : Nat} (h : Ev te σ H (.int (k : Int))) : Ev (tOp (rI0 fun i j => .int (i + j)) te (tC (.int 1))) σ H (.int ((k + 1 : Nat) : Int)) := ev_is (ev_op h ev_c rv_I0) (by rw [Int.natCast_add]; rfl)
/-- text[at:at + 1] -/
theorem ev_sl1 {w : W} {k : Nat} (h : Ev te σ H (tx w)) (h1 : Ev ta σ H (.int (k : Int))) (hl : w.length ≤ 100000) : Ev (tSl rSlS te (tPart ta) (tPart (tOp (rI0 fun i j => .int (i + j)) ta (tC (.int 1))))) σ H (tx ((w.drop k).take 1)) := by
  have := sl_mid h h1 (ev_inc h1) hl
  rwa [take1] at this
def rInSg : R2 := fun x y H Q => ∃ (c : Nat) (z : Str), x = .str ⟨#[c]⟩ ∧ y = .str z ∧ Q (.bl (decide (c ∈ z.cps.toList))) H
theorem rv_inFig {c : Nat} {z : Str} (hz : z = sOf [48, 49, 50, 51, 52, 53, 54, 55, 56, 57]) : RV rInSg (tx [c]) (.str z) H (.bl (isDig c)) := fun H1 _ Q q => ⟨c, z, rfl, rfl, by
  have e : decide (c ∈ z.cps.toList) = isDig c := by
    rw [hz, sOf_cps]
    rw [Bool.eq_iff_iff, decide_eq_true_iff, dig_iff]
    simp only [List.mem_cons, List.not_mem_nil, or_false]
    omega
  rw [e]
  exact q H1 (Ex.refl _)⟩
theorem ev_int {ds : W} (h : Ev te σ H (tx ds)) (hd : NumText.AllDigits ds) (h0 : ds ≠ []) (hl : ds.length ≤ 600) : Ev (tCB (fun xs H Q => ∃ a n, xs = [.str a] ∧ PySem.intText? a = some n ∧ a.length ≤ 640 ∧ Q (.int n) H) (tCons te tNil)) σ H (.int (NumText.digitsVal ds : Int)) := fun H1 e Q q =>
  h H1 e _ fun H2 e2 => ⟨sOf ds, _, rfl, by
    have := intText_digits (x := sOf ds) (by rw [sOf_cps]; exact hd) (by rw [sOf_cps]; exact h0) (by rw [sOf_len]; omega)
    rw [sOf_cps] at this
    exact this, by rw [sOf_len]; omega, q H2 e2⟩
end
theorem eqv_nil0 (s : List (Int × Br)) : PyData.eqv (pdSum s) (.list []) = decide (s = []) := by
  unfold pdSum
  rw [PyData.eqv]
  cases s with
  | nil => rw [List.map_nil, PyData.eqvAll]; rfl
  | cons x r =>
    rw [List.map_cons, PyData.eqvAll, decide_eq_false (by simp)]
    all_goals simp
theorem sh0 : SeqAt.shaped (.list []) = true := sh_of rfl (by decide)
theorem shS (s : List (Int × Br)) (h : ∀ x ∈ s, x.1.natAbs ≤ 10 ^ 29 ∧ x.2.wt ≤ 12 ∧ ABC x.2.letters) : SeqAt.shaped (pdSum s) = true := sh_of (lay_sum fun x hx => (h x hx).2.2) (by have := depth_sum fun x hx => (h x hx).2.1; omega)
end TB
/-! ## TbD_sign_at -/
namespace TB
open PySem PySem.Spec PyProof.Rows L2 Evl
section
variable {P : Program} {wd : World} {K : PySem.W.Frag} {mg : Str → Option Value} {base : Heap}
/-! sign_at -/
theorem sg_iff {s : Nat} (x : W) : x.take 1 = [s] ↔ ∃ u, sg s x = some u := by
  cases x with
  | nil => exact ⟨(fun h => by cases h), fun ⟨u, h⟩ => by cases h⟩
  | cons c y =>
    show [c] = [s] ↔ _
    by_cases e : c = s
    · subst e
      exact ⟨fun _ => ⟨y, by rw [sg, if_pos rfl]⟩, fun _ => rfl⟩
    · exact ⟨fun h => absurd (by injection h) e, fun ⟨u, h⟩ => by rw [sg, if_neg e] at h; cases h⟩
def sp_sign_at (C : Addr) : Sp := fun vs H Q E => ∃ (w : W) (k s : Nat), vs = [tx w, .int (k : Int), tx [s]] ∧ w.length ≤ 100000 ∧ (sg s (w.drop k) = none → ∀ H', Ex H H' → E (.ref C) none H') ∧ (∀ u, sg s (w.drop k) = some u → ∀ H', Ex H H' → Q (.int ((k + 1 : Nat) : Int)) H')
theorem x_sign {C : Addr} {σ : L2.St} {H : Hp} {tr : TA} {E : XK} {Q : VK} {w : W} {k s : Nat} (h : EvA tr σ H [tx w, .int (k : Int), tx [s]]) (hl : w.length ≤ 100000) (kE : sg s (w.drop k) = none → ∀ H', Ex H H' → E (.ref C) none H') (kQ : ∀ u, sg s (w.drop k) = some u → ∀ H', Ex H H' → Q (.int ((k + 1 : Nat) : Int)) H') : tCall (sp_sign_at C) [] E tr σ H Q :=
  h H (Ex.refl H) _ fun H1 e1 => ⟨w, k, s, rfl, hl, fun n H' e' => kE n H' (e1.trans e'), fun u hu H' e' => kQ u hu H' (e1.trans e')⟩
section
variable {σ : L2.St} {H : Hp} {ta tb tc te : TE} {tz : TS} {D : Ends}
theorem q_asgX {g : TG} (h : te σ H fun v H1 => g v σ H1 fun σ2 H2 => tz D σ2 H2) : tSeq (tAsg te g) tz D σ H := h
theorem s_retX (h : te σ H D.rt) : tRet te D σ H := h
theorem x_call3 {sp : Sp} {E : XK} {Q : VK} {x : V} (ha : Ev ta σ H x) (hb : ∀ H1, Ex H H1 → tb σ H1 fun y H2 => tc σ H2 fun z H3 => sp [x, y, z] H3 Q E) : tCall sp [] E (tCons ta (tCons tb (tCons tc tNil))) σ H Q := ha H (Ex.refl _) _ hb
theorem x_tup2' {Q : VK} {xs : List V} (hu : EvU ta σ H xs) (hb : ∀ p H1, H p = none → Ex H H1 → H1 p = some (.tup xs) → tb σ H1 fun y H2 => [V.ref p, y].length ≤ sizeLine ∧ ∀ q, H2 q = none → Q (.ref q) (upd H2 q (.tup [.ref p, y]))) : tTup (tCons ta (tCons tb tNil)) σ H Q := hu H (Ex.refl _) _ hb
end
theorem ok_sign_at (B : Blt mg) (D_sign_at : DefAt K mg "sign_at" s_sign_at ["text", "at", "sign"]) (EC_NotRead : ErrAt K mg "NotRead") : FnOk P wd K mg base (L2.CX P wd) 1 D_sign_at.f D_sign_at.fd ["text", "at", "sign"] (sp_sign_at EC_NotRead.C) := by
  refine D_sign_at.F.okX sc_sign_at (fun vs H Q E h => ?_) (fun cdv A outer st H vs Q E hr h => ?_)
  · obtain ⟨w, k, s, rfl, _⟩ := h
    rfl
  obtain ⟨w, k, s, rfl, hl, qE, qQ⟩ := h
  refine ⟨_, (pss_cons (ps_if (pt_cmpR op_ne (pe_slice sl_str (pv 0) (po_some (pv 1)) (po_some (pe_op op_add (pv 1) pe_int))) (pv 2) (nomark _))
      (pss_one (ps_raise rfl (takes_of rfl rfl rfl rfl) (EC_NotRead.pm)))
      pss_nil)
    (pss_one (ps_ret (pe_op op_add (pv 1) pe_int)))), ?_⟩
  refine q_when (et_test (ev_op (ev_sl1 (ev_var rfl) (ev_var rfl) hl) (ev_var rfl) rv_neS)) (fun hb H1 e1 => ?_) (fun hb H1 e1 => ?_)
  · refine qE ?_ H1 e1
    cases h : sg s (w.drop k) with
    | none => rfl
    | some u =>
      rw [decide_eq_true ((sg_iff _).mpr ⟨u, h⟩)] at hb
      cases hb
  · have he : (w.drop k).take 1 = [s] := by simpa using hb
    obtain ⟨u, hu⟩ := (sg_iff _).mp he
    exact s_ret (ev_inc (ev_var rfl)) (fun H2 e2 => qQ u hu H2 (e1.trans e2))
end
end TB
/-! ## TbD_count_at_k15 -/
namespace TB
open PySem PySem.Spec PyProof.Rows L2 Evl
section
variable {P : Program} {wd : World} {K : PySem.W.Frag} {mg : Str → Option Value} {base : Heap}
/-! count_at -/
def cpR (K : PySem.W.Frag) (w : W) (c : Int) (u : W) (v : V) (H : Hp) : Prop := ∃ (p : Addr), v = .ref p ∧ SqT K H p [.int c, .int ((w.length - u.length : Nat) : Int)]
def sp_count_at (K : PySem.W.Frag) (C : Addr) : Sp := fun vs H Q E => ∃ (w : W) (k : Nat), vs = [tx w, .int (k : Int)] ∧ w.length ≤ 50000 ∧ k ≤ w.length ∧ (rdC (w.drop k) = none → ∀ H', Ex H H' → E (.ref C) none H') ∧ (∀ c u, rdC (w.drop k) = some (c, u) → ∀ v H', Ex H H' → cpR K w c u v H' → Q v H')
theorem ok_count_at (B : Blt mg) (D_count_at : DefAt K mg "count_at" s_count_at ["text", "at"]) (EC_NotRead : ErrAt K mg "NotRead") {t1 t2 : Tok} (c_FIGURES : mg "FIGURES" = some (.str "0123456789" t1)) (c_LONGEST : mg "LONGEST_notes" = some (.int 30 t2)) : FnOk P wd K mg base (L2.CX P wd) 1 D_count_at.f D_count_at.fd ["text", "at"] (sp_count_at K EC_NotRead.C) := by
  refine D_count_at.F.okX sc_count_at (fun vs H Q E h => ?_) (fun cdv A outer st H vs Q E hr h => ?_)
  · obtain ⟨w, k, rfl, _⟩ := h
    rfl
  obtain ⟨w, k, rfl, hl, hk, qE, qQ⟩ := h
  refine ⟨_, (pss_cons (ps_set (i := 2) sc_count_at.nd rfl (by first | exact .inl rfl | exact .inr rfl) (pe_slice sl_str (pv 0) (po_some (pv 1)) (po_some (pe_op op_add (pv 1) pe_int))))
    (pss_cons (ps_if (pt_cmpR op_notIn_seq (pv 2) (pe_tup (pa_cons pe_str (pa_cons pe_str pa_nil))) (by rfl))
      (pss_one (ps_raise rfl (takes_of rfl rfl rfl rfl) (EC_NotRead.pm)))
      pss_nil)
    (pss_cons (ps_set (i := 3) sc_count_at.nd rfl (by first | exact .inl rfl | exact .inr rfl) (pe_op op_add (pv 1) pe_int))
    (pss_cons (ps_while (passes_of rfl) (PW.pt (pw_and (pt_cmpR op_lt (pv 3) (pe_callB call_len_str (by rfl) B.len PySem.boot_len (pa_cons (pv 0) pa_nil)) (nomark _)) (pw_and1 (pt_cmpR op_in_sign (pe_ix ix_str (pv 0) (pv 3) (fun _ _ => rfl)) (pe_glob (v := .str "0123456789") (by rfl) c_FIGURES ⟨_, rfl⟩) (by rfl)))))
      (pss_one (ps_set (i := 3) sc_count_at.nd rfl (by first | exact .inl rfl | exact .inr rfl) (pe_op op_add (pv 3) pe_int))))
    (pss_cons (ps_set (i := 4) sc_count_at.nd rfl (by first | exact .inl rfl | exact .inr rfl) (pe_slice sl_str (pv 0) (po_some (pe_op op_add (pv 1) pe_int)) (po_some (pv 3))))
    (pss_cons (ps_if (PW.pt (pw_or (pt_cmpR op_eq (pe_callB call_len_str (by rfl) B.len PySem.boot_len (pa_cons (pv 4) pa_nil)) pe_int (nomark _)) (pw_or (pt_cmpR op_gt (pe_callB call_len_str (by rfl) B.len PySem.boot_len (pa_cons (pv 4) pa_nil)) (pe_glob (v := .int 30) (by rfl) c_LONGEST ⟨_, rfl⟩) (nomark _)) (pw_or1 (PW.pt (pw_and (pt_cmpR op_eq (pe_ix ix_str (pv 4) pe_int (fun _ _ => rfl)) pe_str (nomark _)) (pw_and1 (PW.pt (pw_or (pt_cmpR op_gt (pe_callB call_len_str (by rfl) B.len PySem.boot_len (pa_cons (pv 4) pa_nil)) pe_int (nomark _)) (pw_or1 (pt_cmpR op_eq (pv 2) pe_str (nomark _))))))))))))
      (pss_one (ps_raise rfl (takes_of rfl rfl rfl rfl) (EC_NotRead.pm)))
      pss_nil)
    (pss_cons (ps_if (pt_cmpR op_eq (pv 2) pe_str (nomark _))
      (pss_one (ps_ret (pe_tup (pa_cons (pe_op op_sub pe_int (pe_callTy call_int_str (by rfl) B.int (by decide +kernel) (pa_cons (pv 4) pa_nil))) (pa_cons (pv 3) pa_nil)))))
      pss_nil)
    (pss_one (ps_ret (pe_tup (pa_cons (pe_callTy call_int_str (by rfl) B.int (by decide +kernel) (pa_cons (pv 4) pa_nil)) (pa_cons (pv 3) pa_nil)))))))))))), ?_⟩
  refine q_asg (ev_sl1 (ev_var rfl) (ev_var rfl) (by omega)) (fun H1 e1 => ?_)
  refine q_when (b := !decide ((w.drop k).take 1 ∈ ([[43], [45]] : List W))) (et_is (et_test (ev_niU (xs := ([[43], [45]] : List W).map tx) (ev_var rfl) (eu_tup (ea_cons (ev_tx (by decide +kernel)) (ea_cons (ev_tx (by decide +kernel)) ea_nil)) (by show 2 ≤ 100000; decide)) rfl (flat_txs _))) (by rw [inV_tx])) (fun hb H2 e2 => ?_) (fun hb H2 e2 => ?_)
  · refine qE ?_ H2 (e1.trans e2)
    have hno : ¬ (w.drop k).take 1 ∈ ([[43], [45]] : List W) := fun hy => by rw [decide_eq_true hy] at hb; cases hb
    cases hx : w.drop k with
    | nil => rfl
    | cons c y => rw [rdC, if_neg fun hc => hno (by rw [hx]; simpa using hc)]
  have hyes : (w.drop k).take 1 ∈ ([[43], [45]] : List W) := Decidable.byContradiction fun hn => by rw [decide_eq_false hn] at hb; cases hb
  cases hx : w.drop k with
  | nil => rw [hx] at hyes; simp at hyes
  | cons c u =>
    have hc : c = 43 ∨ c = 45 := by rw [hx] at hyes; simpa using hyes
    have t1 : (w.drop k).take 1 = [c] := by rw [hx]; rfl
    rw [hx, rdC, if_pos hc] at qE qQ
    have f1 := drop_suf (pre := [c]) (u := u) hx hk
    have k1 : k + 1 ≤ w.length := by have := f1.2.1; have := f1.2.2; show k + [c].length ≤ _; omega
    have d1 : w.drop (k + 1) = u := by have := f1.1; rw [f1.2.1] at this; exact this
    have hu : u.length = w.length - (k + 1) := by rw [← d1, List.length_drop]
    have hdl : (digs u).length ≤ u.length := by have := congrArg List.length (digs_take u); rw [List.length_take] at this; omega
    refine q_asg (ev_inc (ev_var rfl)) (fun H3 e3 => ?_)
    have e13 := (e1.trans e2).trans e3
    refine q_while (fun m σ H' => ∃ j, σ = [some (tx w), some (.int (k : Int)), some (tx [c]), some (.int ((k + 1 + j : Nat) : Int)), none] ∧ Ex H H' ∧ j ≤ (digs u).length ∧ j + m = (digs u).length) (digs u).length ⟨0, rfl, e13, Nat.zero_le _, by omega⟩ ?_
    rintro m σ H4 ⟨j, rfl, e4, hj, hm⟩
    have hat : w[k + 1 + j]? = u[j]? := by rw [← d1, List.getElem?_drop]
    have hlt : decide (((k + 1 + j : Nat) : Int) < (w.length : Int)) = decide (k + 1 + j < w.length) := by by_cases h : k + 1 + j < w.length <;> simp [h] <;> omega
    obtain ⟨a1, a2⟩ := digs_at u j
    refine ⟨decide (j < (digs u).length), et_is (et_and (et_test (ev_op (ev_var rfl) (ev_lenW (ev_var rfl) (by omega)) rv_I0)) (fun hh => et_test (ev_op (ev_op (ev_var rfl) (ev_var rfl) (rv_ixW (c := u.getD j 0) (by omega) (by omega) ?_)) ev_c (rv_inFig (by decide +kernel))))) ?_, fun hb5 H5 e5 => ?_, fun hb5 H5 e5 => ?_⟩
    · rw [hlt] at hh
      have := of_decide_eq_true hh
      have hjl : j < u.length := by omega
      rw [Int.toNat_natCast, hat, List.getD_eq_getElem?_getD, List.getElem?_eq_getElem hjl]
      rfl
    · rw [hlt]
      rcases Nat.lt_or_ge j (digs u).length with h | h
      · obtain ⟨z, hz, hd⟩ := a1 h
        rw [decide_eq_true (show k + 1 + j < w.length by omega), decide_eq_true h, List.getD_eq_getElem?_getD, hz]
        exact hd
      · rw [decide_eq_false (show ¬ j < (digs u).length by omega)]
        rcases a2 (by omega) with hz | ⟨z, hz, hd⟩
        · have : ¬ j < u.length := fun h2 => by rw [List.getElem?_eq_getElem h2] at hz; cases hz
          rw [decide_eq_false (show ¬ k + 1 + j < w.length by omega)]
          rfl
        · rw [List.getD_eq_getElem?_getD, hz]
          show (_ && isDig z) = false
          rw [hd, Bool.and_false]
    · have hjd := of_decide_eq_true hb5
      refine ⟨fun σ' H' => ∃ j', σ' = [some (tx w), some (.int (k : Int)), some (tx [c]), some (.int ((k + 1 + j' : Nat) : Int)), none] ∧ Ex H H' ∧ j' ≤ (digs u).length ∧ j' = j + 1, fun σ2 H2 ⟨j', h1, h2, h3, h4⟩ => ⟨m - 1, by omega, j', h1, h2, h3, by omega⟩, ?_⟩
      exact s_asg (ev_inc (ev_var rfl)) (fun H6 e6 => ⟨j + 1, rfl, (e4.trans e5).trans e6, by omega, rfl⟩)
    · have hjd : j = (digs u).length := by have := of_decide_eq_false hb5; omega
      have e05 := e4.trans e5
      have hword : (w.drop (k + 1)).take (k + 1 + j - (k + 1)) = digs u := by rw [d1, Nat.add_sub_cancel_left, hjd, digs_take]
      refine q_asg (ev_is (sl_mid (j := k + 1) (k := k + 1 + j) (ev_var rfl) (ev_inc (ev_var rfl)) (ev_var rfl) (by omega)) (by rw [hword])) (fun H6 e6 => ?_)
      have hdu : (digs u).length ≤ 100000 := by omega
      have li : ∀ n : Nat, decide (((digs u).length : Int) = 0) = decide ((digs u).length = 0) := fun _ => by by_cases h : (digs u).length = 0 <;> simp [h]
      have hh0 : ∀ {σ : L2.St} {H7 : Hp}, (digs u).length ≠ 0 → σ[4]? = some (some (tx (digs u))) → Ev (tOp rEq (tOp rIxS (tVar 4) (tC (.int 0))) (tC (.str "0"))) σ H7 (.bl (decide ((digs u).head? = some 48))) := fun h0 hσ => by
        cases hd : digs u with
        | nil => rw [hd] at h0; exact absurd rfl h0
        | cons z zs =>
          rw [hd] at hσ hdu
          exact ev_is (ev_op (ev_op (ev_var hσ) ev_c (rv_ixW (c := z) hdu (by decide) rfl)) (ev_tx (w := [48]) (by decide +kernel)) rv_eqS) (by by_cases h : z = 48 <;> simp [h])
      refine q_when (b := !okNum (decide (c = 45)) (digs u)) (et_is (et_or (et_test (ev_op (ev_lenW (ev_var rfl) hdu) ev_c rv_eqI)) (fun g1 => et_or (et_test (ev_op (ev_lenW (ev_var rfl) hdu) ev_c rv_I0)) (fun g2 => et_and (et_test (hh0 (fun e => by rw [e] at g1; cases g1) rfl)) (fun _ => et_or (et_test (ev_op (ev_lenW (ev_var rfl) hdu) ev_c rv_I0)) (fun _ => et_test (ev_op (ev_var rfl) (ev_tx (w := [45]) (by decide +kernel)) rv_eqS)))))) ?_) (fun hb7 H7 e7 => ?_) (fun hb7 H7 e7 => ?_)
      · unfold okNum
        rw [Bool.not_not]
        have i1 : decide (((digs u).length : Int) = 0) = decide ((digs u).length = 0) := by by_cases h : (digs u).length = 0 <;> simp [h]
        have i2 : decide (((digs u).length : Int) > 30) = decide (30 < (digs u).length) := by by_cases h : 30 < (digs u).length <;> simp [h] <;> omega
        have i3 : decide (((digs u).length : Int) > 1) = decide (1 < (digs u).length) := by by_cases h : 1 < (digs u).length <;> simp [h] <;> omega
        have i4 : decide ([c] = [45]) = decide (c = 45) := by by_cases h : c = 45 <;> simp [h]
        rw [i1, i2, i3, i4]
      · have hok : ¬ okNum (decide (c = 45)) (digs u) = true := by simpa using hb7
        exact qE (if_neg hok) H7 ((e05.trans e6).trans e7)
      · have hok : okNum (decide (c = 45)) (digs u) = true := by simpa using hb7
        have hr : (if okNum (decide (c = 45)) (digs u) = true then some (if c = 45 then 0 - (NumText.digitsVal (digs u) : Int) else (NumText.digitsVal (digs u) : Int), u.dropWhile isDig) else none) = some (if c = 45 then 0 - (NumText.digitsVal (digs u) : Int) else (NumText.digitsVal (digs u) : Int), u.dropWhile isDig) := if_pos hok
        have qQ := qQ _ _ hr
        have h0 : digs u ≠ [] := fun e => by
          unfold okNum at hok
          rw [e] at hok
          simp at hok
        have h30 : (digs u).length ≤ 600 := by
          unfold okNum at hok
          rcases Nat.lt_or_ge 30 (digs u).length with h | h
          · rw [decide_eq_true h] at hok
            simp at hok
          · omega
        have hend : w.length - (u.dropWhile isDig).length = k + 1 + j := by
          have := digs_drop u
          rw [← this, List.length_drop, hjd]
          omega
        have e07 := (e05.trans e6).trans e7
        refine q_when (et_test (ev_op (ev_var rfl) (ev_tx (w := [45]) (by decide +kernel)) rv_eqS)) (fun hb8 H8 e8 => ?_) (fun hb8 H8 e8 => ?_)
        · have hc45 : c = 45 := by have := of_decide_eq_true hb8; simpa using this
          rw [if_pos hc45] at qQ
          refine s_retU (eu_tup (ea_cons (ev_op ev_c (ev_int (ev_var rfl) (digs_all u) h0 h30) rv_I0) (ea_cons (ev_var rfl) ea_nil)) (by show 2 ≤ 100000; decide)) (fun p H9 np e9 hp => qQ _ H9 ((e07.trans e8).trans e9) ⟨p, rfl, ?_⟩)
          rw [hend]
          exact SqT.of hp
        · have hc45 : ¬ c = 45 := by have := of_decide_eq_false hb8; simpa using this
          rw [if_neg hc45] at qQ
          refine s_retU (eu_tup (ea_cons (ev_int (ev_var rfl) (digs_all u) h0 h30) (ea_cons (ev_var rfl) ea_nil)) (by show 2 ≤ 100000; decide)) (fun p H9 np e9 hp => qQ _ H9 ((e07.trans e8).trans e9) ⟨p, rfl, ?_⟩)
          rw [hend]
          exact SqT.of hp
end
end TB
/-! ## TbD_bracket_at_k15 -/
namespace TB
open PySem PySem.Spec PyProof.Rows L2 Evl
section
variable {P : Program} {wd : World} {K : PySem.W.Frag} {mg : Str → Option Value} {base : Heap}
/-! bracket_at -/
def bpR (K : PySem.W.Frag) (w : W) (t : Br) (u : W) (v : V) (H : Hp) : Prop := ∃ (p : Addr) (b : V), v = .ref p ∧ SqT K H p [b, .int ((w.length - u.length : Nat) : Int)] ∧ BrAt K H b t
def sp_bracket_at (K : PySem.W.Frag) (C : Addr) (d : Nat) : Sp := fun vs H Q E => ∃ (w : W) (k : Nat) (m : Int), vs = [tx w, .int (k : Int), .int m] ∧ m + (d : Int) = 9 ∧ w.length ≤ 50000 ∧ k ≤ w.length ∧ (rdB d (w.drop k) = none → ∀ H', Ex H H' → E (.ref C) none H') ∧ (∀ t u, rdB d (w.drop k) = some (t, u) → ∀ v H', Ex H H' → bpR K w t u v H' → Q v H')
theorem ok_bracket_at (B : Blt mg) (D : DefAt K mg "bracket_at" s_bracket_at ["text", "at", "deep"]) (D_sign_at : DefAt K mg "sign_at" s_sign_at ["text", "at", "sign"]) (EC_NotRead : ErrAt K mg "NotRead") {tg : Tok} (c_GREATEST : mg "GREATEST_notes" = some (.int 8 tg)) : ∀ d : Nat, FnOk P wd K mg base (L2.CX P wd) (d + 2) D.f D.fd ["text", "at", "deep"] (sp_bracket_at K EC_NotRead.C d)
  | 0 => by
    refine D.F.okX sc_bracket_at (fun vs H Q E h => ?_) (fun cdv A outer st H vs Q E hr h => ?_)
    · obtain ⟨w, k, m, rfl, _⟩ := h
      rfl
    obtain ⟨w, k, m, rfl, hm, hl, hk, qE, qQ⟩ := h
    refine ⟨_, (pss_cons (ps_if (pt_cmpR op_gt (pv 2) (pe_glob (v := .int 8) (by rfl) c_GREATEST ⟨_, rfl⟩) (nomark _))
      (pss_one (ps_raise rfl (takes_of rfl rfl rfl rfl) (EC_NotRead.pm)))
      pss_nil) pss_never), ?_⟩
    refine q_when (b := true) (et_is (et_test (ev_op (ev_var rfl) ev_c rv_I0)) (decide_eq_true (by omega))) (fun hb H1 e1 => ?_) (fun hb => by cases hb)
    exact qE rfl H1 e1
  | d + 1 => by
    have G := ok_bracket_at B D D_sign_at EC_NotRead c_GREATEST d
    have G_sign_at := ok_sign_at (P := P) (wd := wd) (base := base) B D_sign_at EC_NotRead
    refine D.F.okX sc_bracket_at (fun vs H Q E h => ?_) (fun cdv A outer st H vs Q E hr h => ?_)
    · obtain ⟨w, k, m, rfl, _⟩ := h
      rfl
    obtain ⟨w, k, m, rfl, hm, hl, hk, qE, qQ⟩ := h
    refine ⟨_, (pss_cons (ps_if (pt_cmpR op_gt (pv 2) (pe_glob (v := .int 8) (by rfl) c_GREATEST ⟨_, rfl⟩) (nomark _))
      (pss_one (ps_raise rfl (takes_of rfl rfl rfl rfl) (EC_NotRead.pm)))
      pss_nil)
    (pss_cons (ps_set (i := 3) sc_bracket_at.nd rfl (by first | exact .inl rfl | exact .inr rfl) (pe_slice sl_str (pv 0) (po_some (pv 1)) (po_some (pe_op op_add (pv 1) pe_int))))
    (pss_cons (ps_if (pt_cmpR op_in_seq (pv 3) (pe_tup (pa_cons pe_str (pa_cons pe_str (pa_cons pe_str pa_nil)))) (by rfl))
      (pss_one (ps_ret (pe_tup (pa_cons (pv 3) (pa_cons (pe_op op_add (pv 1) pe_int) pa_nil)))))
      pss_nil)
    (pss_cons (ps_asg (clX (E := E) (Q1 := fun _ _ => True) D G hr (passes_call (takes_of rfl rfl rfl rfl) (fun _ _ _ _ h => h)) (pa_cons (pv 0) (pa_cons (clX (E := E) (Q1 := fun _ _ => True) D_sign_at G_sign_at hr (passes_call (takes_of rfl rfl rfl rfl) (fun _ _ _ _ h => h)) (pa_cons (pv 0) (pa_cons (pv 1) (pa_cons pe_str pa_nil))) (by omega)) (pa_cons (pe_op op_add (pv 2) pe_int) pa_nil))) (by omega)) (pg_tup rfl (pgs_cons (pg_name (i := 4) sc_bracket_at.nd rfl (by first | exact .inl rfl | exact .inr rfl)) (pgs_cons (pg_name (i := 5) sc_bracket_at.nd rfl (by first | exact .inl rfl | exact .inr rfl)) pgs_nil))))
    (pss_cons (ps_asg (clX (E := E) (Q1 := fun _ _ => True) D G hr (passes_call (takes_of rfl rfl rfl rfl) (fun _ _ _ _ h => h)) (pa_cons (pv 0) (pa_cons (clX (E := E) (Q1 := fun _ _ => True) D_sign_at G_sign_at hr (passes_call (takes_of rfl rfl rfl rfl) (fun _ _ _ _ h => h)) (pa_cons (pv 0) (pa_cons (pv 5) (pa_cons pe_str pa_nil))) (by omega)) (pa_cons (pe_op op_add (pv 2) pe_int) pa_nil))) (by omega)) (pg_tup rfl (pgs_cons (pg_name (i := 6) sc_bracket_at.nd rfl (by first | exact .inl rfl | exact .inr rfl)) (pgs_cons (pg_name (i := 5) sc_bracket_at.nd rfl (by first | exact .inl rfl | exact .inr rfl)) pgs_nil))))
    (pss_one (ps_ret (pe_tup (pa_cons (pe_tup (pa_cons (pv 4) (pa_cons (pv 6) pa_nil))) (pa_cons (clX (E := E) (Q1 := fun _ _ => True) D_sign_at G_sign_at hr (passes_call (takes_of rfl rfl rfl rfl) (fun _ _ _ _ h => h)) (pa_cons (pv 0) (pa_cons (pv 5) (pa_cons pe_str pa_nil))) (by omega)) pa_nil)))))))))), ?_⟩
    refine q_when (b := false) (et_is (et_test (ev_op (ev_var rfl) ev_c rv_I0)) (decide_eq_false (by omega))) (fun hb => by cases hb) (fun hb H1 e1 => ?_)
    refine q_asg (ev_sl1 (ev_var rfl) (ev_var rfl) (by omega)) (fun H2 e2 => ?_)
    have e12 := e1.trans e2
    refine q_when (b := decide ((w.drop k).take 1 ∈ ([[97], [98], [99]] : List W))) (et_is (et_test (ev_inU (xs := ([[97], [98], [99]] : List W).map tx) (ev_var rfl) (eu_tup (ea_cons (ev_tx (by decide +kernel)) (ea_cons (ev_tx (by decide +kernel)) (ea_cons (ev_tx (by decide +kernel)) ea_nil))) (by show 3 ≤ 100000; decide)) rfl (flat_txs _))) (inV_tx _ _)) (fun hb H3 e3 => ?_) (fun hb H3 e3 => ?_)
    · have hmem := of_decide_eq_true hb
      cases hx : w.drop k with
      | nil => rw [hx] at hmem; simp at hmem
      | cons c y =>
        have hc : c = 97 ∨ c = 98 ∨ c = 99 := by rw [hx] at hmem; simpa using hmem
        have hr : rdB (d + 1) (w.drop k) = some (.leaf c, y) := by rw [hx, rdB, if_pos hc]
        have hly : w.length - y.length = k + 1 := (drop_suf (pre := [c]) (u := y) hx hk).2.1
        refine s_retU (eu_tup (ea_cons (ev_var rfl) (ea_cons (ev_inc (ev_var rfl)) ea_nil)) (by show 2 ≤ 100000; decide)) (fun p H4 np e4 hp => qQ _ _ hr _ H4 ((e12.trans e3).trans e4) ⟨p, tx [c], rfl, ?_, rfl⟩)
        rw [hly]
        exact SqT.of hp
    · have hnl : ∀ c y, w.drop k = c :: y → ¬ (c = 97 ∨ c = 98 ∨ c = 99) := fun c y hx hc => of_decide_eq_false hb (by rw [hx]; simpa using hc)
      have hr : rdB (d + 1) (w.drop k) = (sg 91 (w.drop k)).bind fun u1 => (rdB d u1).bind fun p => (sg 44 p.2).bind fun u3 => (rdB d u3).bind fun q => (sg 93 q.2).bind fun u5 => some (.node p.1 q.1, u5) := by
        cases hx : w.drop k with
        | nil => rfl
        | cons c y => rw [rdB, if_neg (hnl c y hx)]
      have e13 := e12.trans e3
      rw [hr] at qE qQ
      refine q_asgX (x_call3 (ev_var rfl) fun H4 e4 => x_sign (w := w) (k := k) (s := 91) (ea_cons (ev_var rfl) (ea_cons (ev_var rfl) (ea_cons (ev_tx (by decide +kernel)) ea_nil))) (by omega) (fun hn H5 e5 => qE (by rw [hn]; rfl) H5 ((e13.trans e4).trans e5)) (fun u1 h1 H5 e5 => (ev_op (ev_var rfl) ev_c rv_I0) H5 (Ex.refl _) _ fun H6 e6 => ?_))
      rw [h1, Option.bind_some] at qE qQ
      have s1 := sg_suf h1
      have f1 := drop_suf (pre := [91]) (u := u1) s1 hk
      have k1 : k + 1 ≤ w.length := by have := f1.2.1; have := f1.2.2; show k + [91].length ≤ _; omega
      have d1 : w.drop (k + 1) = u1 := by have := f1.1; rw [f1.2.1] at this; exact this
      have e16 := ((e13.trans e4).trans e5).trans e6
      refine ⟨w, k + 1, m + 1, rfl, by omega, hl, k1, fun hn H7 e7 => qE (by rw [d1] at hn; rw [hn]; rfl) H7 (e16.trans e7), fun l u2 h2 v H7 e7 hv => ?_⟩
      rw [d1] at h2
      rw [h2, Option.bind_some] at qE qQ
      obtain ⟨p, b, rfl, hp, hb1⟩ := hv
      obtain ⟨pre2, s2, _, _⟩ := rdB_suf h2
      have f2 := drop_suf (k := k + 1) (d1.trans s2) k1
      refine ⟨p, [b, .int ((w.length - u2.length : Nat) : Int)], rfl, hp, rfl, b, [.int ((w.length - u2.length : Nat) : Int)], rfl, .int ((w.length - u2.length : Nat) : Int), [], rfl, rfl, ?_⟩
      have e17 := e16.trans e7
      generalize hk2 : w.length - u2.length = k2 at f2
      refine q_asgX (x_call3 (ev_var rfl) fun H8 e8 => x_sign (w := w) (k := k2) (s := 44) (ea_cons (ev_var rfl) (ea_cons (ev_var rfl) (ea_cons (ev_tx (by decide +kernel)) ea_nil))) (by omega) (fun hn H9 e9 => qE (by rw [f2.1] at hn; show (sg 44 u2).bind _ = none; rw [hn]; rfl) H9 ((e17.trans e8).trans e9)) (fun u3 h3 H9 e9 => (ev_op (ev_var rfl) ev_c rv_I0) H9 (Ex.refl _) _ fun H10 e10 => ?_))
      have h3' : sg 44 u2 = some u3 := by rw [← f2.1]; exact h3
      have qE : ((rdB d u3).bind fun q => (sg 93 q.2).bind fun u5 => some (Br.node l q.1, u5)) = none → ∀ H', Ex H H' → E (.ref EC_NotRead.C) none H' := fun hz => qE (by show (sg 44 u2).bind _ = none; rw [h3', Option.bind_some]; exact hz)
      have qQ : ∀ t u, ((rdB d u3).bind fun q => (sg 93 q.2).bind fun u5 => some (Br.node l q.1, u5)) = some (t, u) → ∀ v H', Ex H H' → bpR K w t u v H' → Q v H' := fun t u hz => qQ t u (by show (sg 44 u2).bind _ = _; rw [h3', Option.bind_some]; exact hz)
      have s3 := sg_suf h3
      have f3 := drop_suf (pre := [44]) (u := u3) s3 f2.2.2
      have k3 : k2 + 1 ≤ w.length := by have := f3.2.1; have := f3.2.2; show k2 + [44].length ≤ _; omega
      have d3 : w.drop (k2 + 1) = u3 := by have := f3.1; rw [f3.2.1] at this; exact this
      have e20 := ((e17.trans e8).trans e9).trans e10
      refine ⟨w, k2 + 1, m + 1, rfl, by omega, hl, k3, fun hn H11 e11 => qE (by rw [d3] at hn; rw [hn]; rfl) H11 (e20.trans e11), fun r u4 h4 v H11 e11 hv => ?_⟩
      rw [d3] at h4
      rw [h4, Option.bind_some] at qE qQ
      obtain ⟨p2, b2, rfl, hp2, hb2⟩ := hv
      obtain ⟨pre4, s4, _, _⟩ := rdB_suf h4
      have f4 := drop_suf (k := k2 + 1) (d3.trans s4) k3
      refine ⟨p2, [b2, .int ((w.length - u4.length : Nat) : Int)], rfl, hp2, rfl, b2, [.int ((w.length - u4.length : Nat) : Int)], rfl, .int ((w.length - u4.length : Nat) : Int), [], rfl, rfl, ?_⟩
      have e21 := e20.trans e11
      have e711 := ((e8.trans e9).trans e10).trans e11
      generalize hk4 : w.length - u4.length = k4 at f4
      refine s_retX (x_tup2' (eu_tup (ea_cons (ev_var rfl) (ea_cons (ev_var rfl) ea_nil)) (by show 2 ≤ 100000; decide)) fun pn H12 nn e12' hpn => x_sign (w := w) (k := k4) (s := 93) (ea_cons (ev_var rfl) (ea_cons (ev_var rfl) (ea_cons (ev_tx (by decide +kernel)) ea_nil))) (by omega) (fun hn H13 e13' => qE (by rw [f4.1] at hn; show (sg 93 u4).bind _ = none; rw [hn]; rfl) H13 ((e21.trans e12').trans e13')) (fun u5 h5 H13 e13' => ?_))
      have h5' : sg 93 u4 = some u5 := by rw [← f4.1]; exact h5
      have s5 := sg_suf h5
      have f5 := drop_suf (pre := [93]) (u := u5) s5 f4.2.2
      refine ⟨by show 2 ≤ sizeLine; decide, fun pr hpr => ?_⟩
      have e22 := (e12'.trans e13').trans (Ex.new (o := .tup [.ref pn, .int ((k4 + 1 : Nat) : Int)]) hpr)
      refine qQ (.node l r) u5 (by show (sg 93 u4).bind _ = _; rw [h5']; rfl) _ _ (e21.trans e22) ⟨pr, .ref pn, rfl, ?_, pn, b, b2, rfl, ?_, (hb1.mono e711).mono e22, hb2.mono e22⟩
      · have : w.length - u5.length = k4 + 1 := f5.2.1
        rw [this]
        exact SqT.of upd_same
      · exact ex_t (e13'.trans (Ex.new hpr)) (SqT.of hpn)
end
end TB
/-! ## TbD_read_k15 -/
namespace TB
open PySem PySem.Spec PyProof.Rows L2 Evl
section
variable {P : Program} {wd : World} {K : PySem.W.Frag} {mg : Str → Option Value} {base : Heap}
/-! read -/
theorem rdL_none1 {x : W} (h : rdC x = none) : ∀ n, rdL n x = none
  | 0 => rfl
  | n + 1 => by rw [rdL_succ]; unfold rdOne; rw [h]; rfl
theorem rdL_none2 {x u : W} {c : Int} (h : rdC x = some (c, u)) (h2 : rdB 8 u = none) : ∀ n, rdL n x = none
  | 0 => rfl
  | n + 1 => by rw [rdL_succ]; unfold rdOne; rw [h, Option.bind_some, h2]; rfl
theorem rdL_none3 {x u u2 : W} {c : Int} {t : Br} (h : rdC x = some (c, u)) (h2 : rdB 8 u = some (t, u2)) (hw : 8 < t.wt) : ∀ n, rdL n x = none
  | 0 => rfl
  | n + 1 => by
    rw [rdL_succ]; unfold rdOne; rw [h, Option.bind_some, h2, Option.bind_some, Option.bind_some]
    exact if_pos hw
theorem rdL_step {x u u2 : W} {c : Int} {t : Br} (h : rdC x = some (c, u)) (h2 : rdB 8 u = some (t, u2)) (hw : ¬ 8 < t.wt) (n : Nat) : rdL (n + 1) x = (rdM n u2).map ((c, t) :: ·) := by
  rw [rdL_succ]; unfold rdOne; rw [h, Option.bind_some, h2, Option.bind_some, Option.bind_some]
  exact if_neg hw
def sp_read (K : PySem.W.Frag) (C : Addr) : Sp := fun vs H Q E => ∃ (w : W), vs = [tx w] ∧ w.length ≤ 50000 ∧ (rd w = none → ∀ H', Ex H H' → E (.ref C) none H') ∧ (∀ s, rd w = some s → ∀ v H', Ex H H' → newS K H s v H' → Q v H')
theorem sv_read {C : Addr} {w : W} {s : List (Int × Br)} {H : Hp} (hl : w.length ≤ 50000) (hr : rd w = some s) : SpR (sp_read K C) [tx w] H (newS K H s) := fun H1 e Q k E => ⟨w, rfl, hl, (fun h => by rw [hr] at h; cases h), fun s' hs v H' e2 hv => by
  rw [hr] at hs
  cases hs
  obtain ⟨p, xs, h1, h2, h3⟩ := hv
  exact k v H' e2 ⟨p, xs, h1, fresh_back e h2, h3⟩⟩
theorem ok_read (B : Blt mg) (D_read : DefAt K mg "read" s_read ["text"]) (D_count_at : DefAt K mg "count_at" s_count_at ["text", "at"]) (D_bracket_at : DefAt K mg "bracket_at" s_bracket_at ["text", "at", "deep"]) (D_sign_at : DefAt K mg "sign_at" s_sign_at ["text", "at", "sign"]) (D_weight : DefAt K mg "weight" s_weight ["bracket"]) (EC_NotRead : ErrAt K mg "NotRead") {t1 t2 t3 t4 : Tok} (c_FIGURES : mg "FIGURES" = some (.str "0123456789" t1)) (c_LONGEST : mg "LONGEST_notes" = some (.int 30 t2)) (c_GREATEST : mg "GREATEST_notes" = some (.int 8 t3)) (c_MOST : mg "MOST" = some (.int 12 t4)) : FnOk P wd K mg base (L2.CX P wd) 16 D_read.f D_read.fd ["text"] (sp_read K EC_NotRead.C) := by
  have G_count_at := ok_count_at (P := P) (wd := wd) (base := base) B D_count_at EC_NotRead c_FIGURES c_LONGEST
  have G_bracket_at := ok_bracket_at (P := P) (wd := wd) (base := base) B D_bracket_at D_sign_at EC_NotRead c_GREATEST 8
  have G_weight := ok_weight (P := P) (wd := wd) (base := base) B D_weight 12
  refine D_read.F.okX sc_read (fun vs H Q E h => ?_) (fun cdv A outer st H vs Q E hr h => ?_)
  · obtain ⟨w, rfl, _⟩ := h
    rfl
  obtain ⟨w, rfl, hl, qE, qQ⟩ := h
  refine ⟨_, (pss_cons (ps_if (pt_cmpR op_eq (pv 0) pe_str (nomark _))
      (pss_one (ps_ret (pe_lst pa_nil)))
      pss_nil)
    (pss_cons (ps_set (i := 1) sc_read.nd rfl (by first | exact .inl rfl | exact .inr rfl) (pe_lst pa_nil))
    (pss_cons (ps_set (i := 2) sc_read.nd rfl (by first | exact .inl rfl | exact .inr rfl) pe_int)
    (pss_cons (ps_while (passes_of rfl) (PW.pt (pw_or (pt_cmpR op_lt (pv 2) (pe_callB call_len_str (by rfl) B.len PySem.boot_len (pa_cons (pv 0) pa_nil)) (nomark _)) (pw_or1 (pt_cmpR (op_eqD hr.units) (pv 1) (pe_lst pa_nil) (nomark _)))))
      (pss_cons (ps_asg (clX (E := E) (Q1 := fun _ _ => True) D_count_at G_count_at hr (passes_call (takes_of rfl rfl rfl rfl) (fun _ _ _ _ h => h)) (pa_cons (pv 0) (pa_cons (pv 2) pa_nil))) (pg_tup rfl (pgs_cons (pg_name (i := 3) sc_read.nd rfl (by first | exact .inl rfl | exact .inr rfl)) (pgs_cons (pg_name (i := 2) sc_read.nd rfl (by first | exact .inl rfl | exact .inr rfl)) pgs_nil))))
      (pss_cons (ps_asg (clX (E := E) (Q1 := fun _ _ => True) D_bracket_at G_bracket_at hr (passes_call (takes_of rfl rfl rfl rfl) (fun _ _ _ _ h => h)) (pa_cons (pv 0) (pa_cons (pv 2) (pa_cons pe_int pa_nil)))) (pg_tup rfl (pgs_cons (pg_name (i := 4) sc_read.nd rfl (by first | exact .inl rfl | exact .inr rfl)) (pgs_cons (pg_name (i := 2) sc_read.nd rfl (by first | exact .inl rfl | exact .inr rfl)) pgs_nil))))
      (pss_cons (ps_if (PW.pt (pw_or (pt_cmpR op_gt (cl D_weight G_weight hr (pa_cons (pv 4) pa_nil)) (pe_glob (v := .int 8) (by rfl) c_GREATEST ⟨_, rfl⟩) (nomark _)) (pw_or1 (pt_cmpR op_eq (pe_callB call_len_seq (by rfl) B.len PySem.boot_len (pa_cons (pv 1) pa_nil)) (pe_glob (v := .int 12) (by rfl) c_MOST ⟨_, rfl⟩) (nomark _)))))
        (pss_one (ps_raise rfl (takes_of rfl rfl rfl rfl) (EC_NotRead.pm)))
        pss_nil)
      (pss_one (ps_expr (pe_bm PySem.F.plainAttrs_list PySem.F.slot_list_append PySem.F.type_list_append mt_append (pv 1) (pa_cons (pe_tup (pa_cons (pv 3) (pa_cons (pv 4) pa_nil))) pa_nil))))))))
    (pss_one (ps_ret (pv 1))))))), ?_⟩
  refine q_when (et_test (ev_op (ev_var rfl) (ev_tx (w := [48]) (by decide +kernel)) rv_eqS)) (fun hb H1 e1 => ?_) (fun hb H1 e1 => ?_)
  · have hw : w = [48] := of_decide_eq_true hb
    exact s_retL (el_lst ea_nil (by show 0 ≤ 100000; decide)) (fun p H2 np e2 hp => qQ [] (by unfold rd; exact if_pos hw) _ H2 (e1.trans e2) ⟨p, [], rfl, fresh_back e1 np, hp, trivial⟩)
  have hw : w ≠ [48] := of_decide_eq_false hb
  have hrd : rd w = rdL 12 w := by unfold rd; exact if_neg hw
  refine q_asgL (xs := []) (el_lst ea_nil (by show 0 ≤ 100000; decide)) (fun l H2 nl e2 hl2 => ?_)
  have nlH : H l = none := fresh_back e1 nl
  refine q_asg (v := .int ((0 : Nat) : Int)) ev_c (fun H3 e3 => ?_)
  have e03 := (e1.trans e2).trans e3
  refine q_while (fun m σ H' => ∃ (k : Nat) (s : List (Int × Br)) (xs : List V) (z3 z4 : Option V), σ = [some (tx w), some (.ref l), some (.int (k : Int)), z3, z4] ∧ Ex H H' ∧ H' l = some (.lst xs) ∧ Tups K H' xs s ∧ k ≤ w.length ∧ s.length + m = 13 ∧ s.length ≤ 12 ∧ (∀ x ∈ s, x.2.wt ≤ 8 ∧ ABC x.2.letters) ∧ (s = [] → k = 0) ∧ rd w = (if s = [] then rdL 12 w else (rdM (12 - s.length) (w.drop k)).map (s ++ ·))) 13
    ⟨0, [], [], none, none, rfl, e03, e3 _ _ hl2, trivial, Nat.zero_le _, rfl, by decide, (fun _ h => by cases h), (fun _ => rfl), by rw [if_pos rfl]; exact hrd⟩ ?_
  rintro m σ H4 ⟨k, s, xs, z3, z4, rfl, e4, hl4, ht, hk, hm, h12, hok, h0, hR⟩
  have shs : SeqAt.shaped (pdSum s) = true := sh_of (lay_sum fun x hx => (hok x hx).2) (by have := depth_sum fun x hx => (hok x hx).1; omega)
  refine ⟨decide (k < w.length) || decide (s = []), et_is (et_or (et_test (ev_op (ev_var rfl) (ev_lenW (ev_var rfl) (by omega)) rv_I0)) (fun _ => et_test (ev_opL (ev_var rfl) (el_lst ea_nil (by show 0 ≤ 100000; decide)) (fun p G hp g => rv_eqD (e := .list []) (dp_sum (K := K) (a := l) (s := s) ⟨xs, sq_of (g _ _ hl4), ht.mono g⟩) (.lst (sq_of hp) .nil) shs sh0)))) (by rw [eqv_nil0]; congr 1; by_cases h : k < w.length <;> simp [h]), fun hb4 H5 e5 => ?_, fun hb4 H5 e5 => ?_⟩
  · -- one tuple more
    have hR : rd w = (rdL (12 - s.length) (w.drop k)).map (s ++ ·) := by
      by_cases hs0 : s = []
      · rw [if_pos hs0] at hR
        have hk0 := h0 hs0
        subst hk0
        subst hs0
        rw [hR]
        show rdL 12 w = (rdL 12 w).map (([] : List (Int × Br)) ++ ·)
        have : (([] : List (Int × Br)) ++ ·) = id := by funext x; rfl
        rw [this, Option.map_id]
        rfl
      · rw [if_neg hs0] at hR
        rw [decide_eq_false hs0, Bool.or_false] at hb4
        have hkl := of_decide_eq_true hb4
        rw [hR]
        unfold rdM
        rw [if_neg fun e => by have := congrArg List.length e; rw [List.length_drop, List.length_nil] at this; omega]
    have e05 := e4.trans e5
    refine ⟨fun σ' H' => ∃ (k' : Nat) (s' : List (Int × Br)) (xs' : List V) (z3 z4 : Option V), σ' = [some (tx w), some (.ref l), some (.int (k' : Int)), z3, z4] ∧ Ex H H' ∧ H' l = some (.lst xs') ∧ Tups K H' xs' s' ∧ k' ≤ w.length ∧ s'.length = s.length + 1 ∧ s'.length ≤ 12 ∧ (∀ x ∈ s', x.2.wt ≤ 8 ∧ ABC x.2.letters) ∧ (s' = [] → k' = 0) ∧ rd w = (if s' = [] then rdL 12 w else (rdM (12 - s'.length) (w.drop k')).map (s' ++ ·)), fun σ2 H2 ⟨k', s', xs', y3, y4, a1, a2, a3, a4, a5, a6, a7⟩ => ⟨m - 1, by omega, k', s', xs', y3, y4, a1, a2, a3, a4, a5, by omega, a7⟩, ?_⟩
    refine q_asgX ((ea_cons (ev_var rfl) (ea_cons (ev_var rfl) ea_nil)) H5 (Ex.refl _) _ fun H6 e6 => ?_)
    have e06 := e05.trans e6
    refine ⟨w, k, rfl, hl, hk, fun hn H7 e7 => qE (by rw [hR, rdL_none1 hn]; rfl) H7 (e06.trans e7), fun c u hc v H7 e7 hv => ?_⟩
    obtain ⟨p, rfl, hp⟩ := hv
    obtain ⟨pre, hpre, _⟩ := rdC_suf hc
    have f1 := drop_suf hpre hk
    refine ⟨p, [.int c, .int ((w.length - u.length : Nat) : Int)], rfl, hp, rfl, .int c, [.int ((w.length - u.length : Nat) : Int)], rfl, .int ((w.length - u.length : Nat) : Int), [], rfl, rfl, ?_⟩
    generalize w.length - u.length = k1 at f1
    have e07 := e06.trans e7
    refine q_asgX ((ea_cons (ev_var rfl) (ea_cons (ev_var rfl) (ea_cons ev_c ea_nil))) H7 (Ex.refl _) _ fun H8 e8 => ?_)
    have e08 := e07.trans e8
    refine ⟨w, k1, 1, rfl, by omega, hl, f1.2.2, fun hn H9 e9 => qE (by rw [f1.1] at hn; rw [hR, rdL_none2 hc hn]; rfl) H9 (e08.trans e9), fun t u2 hB v H9 e9 hv => ?_⟩
    rw [f1.1] at hB
    obtain ⟨p2, b, rfl, hp2, hb2⟩ := hv
    obtain ⟨pre2, hpre2, _, hdep⟩ := rdB_suf hB
    have f2 := drop_suf (f1.1.trans hpre2) f1.2.2
    refine ⟨p2, [b, .int ((w.length - u2.length : Nat) : Int)], rfl, hp2, rfl, b, [.int ((w.length - u2.length : Nat) : Int)], rfl, .int ((w.length - u2.length : Nat) : Int), [], rfl, rfl, ?_⟩
    generalize w.length - u2.length = k2 at f2
    have e09 := e08.trans e9
    have e49 := (((e5.trans e6).trans e7).trans e8).trans e9
    have hl9 := e49 _ _ hl4
    have ht9 := ht.mono e49
    refine q_when (b := decide (8 < t.wt) || decide (s.length = 12)) (et_is (et_or (et_test (ev_op (ev_call (ea_cons (ev_var rfl) ea_nil) (sv_weight hb2 (show t.depth < 12 by omega))) ev_c rv_I0)) (fun _ => et_test (ev_op (ev_lenQ (ev_var rfl) (sq_of hl9)) ev_c rv_eqI))) (by
      rw [ht9.len]
      congr 1
      · by_cases h : 8 < t.wt <;> simp [h] <;> omega
      · by_cases h : s.length = 12 <;> simp [h] <;> omega)) (fun hbb H10 e10 => ?_) (fun hbb H10 e10 => ?_)
    · refine qE ?_ H10 (e09.trans e10)
      rcases Bool.or_eq_true_iff.mp hbb with h | h
      · rw [hR, rdL_none3 hc hB (of_decide_eq_true h)]; rfl
      · have h := of_decide_eq_true h
        rw [hR, h]; rfl
    · obtain ⟨hb1, hb3⟩ := Bool.or_eq_false_iff.mp hbb
      have hwt : ¬ 8 < t.wt := of_decide_eq_false hb1
      have hlen : s.length ≠ 12 := of_decide_eq_false hb3
      have hl10 := e10 _ _ hl9
      refine s_appU hl10 (ev_var rfl) (eu_tup (ea_cons (ev_var rfl) (ea_cons (ev_var rfl) ea_nil)) (by show 2 ≤ 100000; decide)) (by rw [ht9.len]; omega) (fun r H11 nr e11 hr => ?_)
      have hl11 := e11 _ _ hl10
      refine ⟨k2, s ++ [(c, t)], xs ++ [.ref r], _, _, rfl, Ex.mut ((e09.trans e10).trans e11) nlH, upd_same, (((ht9.mono e10).mono e11).snoc (SqT.of hr) ((hb2.mono e10).mono e11)).updL hl11, f2.2.2, by rw [List.length_append]; rfl, by rw [List.length_append]; show s.length + 1 ≤ 12; omega, fun x hx => ?_, fun e => by simp at e, ?_⟩
      · rcases List.mem_append.mp hx with hx | hx
        · exact hok x hx
        · rw [List.mem_singleton.mp hx]
          exact ⟨Nat.le_of_not_lt hwt, rdB_abc hB⟩
      · rw [if_neg (by simp), f2.1, hR]
        have en : 12 - s.length = (12 - (s ++ [(c, t)]).length) + 1 := by rw [List.length_append]; show _ = (12 - (s.length + 1)) + 1; omega
        rw [en, rdL_step hc hB hwt, Option.map_map]
        congr 1
        funext y
        simp
  · obtain ⟨hb1, hb3⟩ := Bool.or_eq_false_iff.mp hb4
    have hs0 : s ≠ [] := of_decide_eq_false hb3
    have hkl : ¬ k < w.length := of_decide_eq_false hb1
    have hd : w.drop k = [] := List.drop_eq_nil_of_le (by omega)
    rw [if_neg hs0, hd] at hR
    have hR : rd w = some s := by
      rw [hR]
      show some (s ++ []) = some s
      rw [List.append_nil]
    exact s_ret (ev_var rfl) (fun H6 e6 => qQ s hR _ H6 ((e4.trans e5).trans e6) ⟨l, xs, rfl, nlH, (e5.trans e6) _ _ hl4, ht.mono (e5.trans e6)⟩)
end
end TB
/-! ## TbD_wc -/
namespace TB
open PySem PySem.Spec PyProof.Rows L2 Evl
section
variable {P : Program} {wd : World} {K : PySem.W.Frag} {mg : Str → Option Value} {base : Heap}
/-! words with counts in tuples: in lists that change, as data -/
structure WOk (l : TB.P) (n m : Nat) : Prop where
  len : l.length ≤ n
  it : ∀ x ∈ l, x.1 ≠ [] ∧ x.1.length ≤ 8 ∧ ABC x.1 ∧ x.2.natAbs ≤ bit 121 + m
theorem WOk.mono {l : TB.P} {n m n' m' : Nat} (h : WOk l n m) (hn : n ≤ n') (hm : m ≤ m') : WOk l n' m' := ⟨Nat.le_trans h.len hn, fun x hx => ⟨(h.it x hx).1, (h.it x hx).2.1, (h.it x hx).2.2.1, by have := (h.it x hx).2.2.2; omega⟩⟩
theorem WOk.snoc {l : TB.P} {n m : Nat} {w : W} {c : Int} (h : WOk l n m) (h1 : w ≠ []) (h2 : w.length ≤ 8) (h3 : ABC w) (h4 : c.natAbs ≤ bit 121 + m) : WOk (l ++ [(w, c)]) (n + 1) m := ⟨by rw [List.length_append]; have := h.len; show _ + 1 ≤ _; omega, fun x hx => by
  rcases List.mem_append.mp hx with hx | hx
  · exact h.it x hx
  · rw [List.mem_singleton.mp hx]; exact ⟨h1, h2, h3, h4⟩⟩
theorem WOk.set {l : TB.P} {n m : Nat} {i : Nat} {w : W} {c : Int} (h : WOk l n m) (h1 : w ≠ []) (h2 : w.length ≤ 8) (h3 : ABC w) (h4 : c.natAbs ≤ bit 121 + m) : WOk (l.set i (w, c)) n m := ⟨by rw [List.length_set]; exact h.len, fun x hx => by
  rcases List.mem_or_eq_of_mem_set hx with hx | hx
  · exact h.it x hx
  · rw [hx]; exact ⟨h1, h2, h3, h4⟩⟩
theorem WOk.nil {n m : Nat} : WOk [] n m := ⟨Nat.zero_le _, fun _ h => by cases h⟩
theorem WcAt.nil {H : Hp} : WcAt K H [] [] := ⟨rfl, fun i x h => by simp at h⟩
theorem WcAt.updL {H : Hp} {p : Addr} {ys zs xs : List V} {l : TB.P} (hp : H p = some (.lst ys)) (h : WcAt K H xs l) : WcAt K (upd H p (.lst zs)) xs l := ⟨h.1, fun i x hx => by
  obtain ⟨q, w, c, h1, h2, h3⟩ := h.2 i x hx
  exact ⟨q, w, c, h1, h2, SqT.updL hp h3⟩⟩
theorem WcAt.snoc {H : Hp} {xs : List V} {l : TB.P} {q : Addr} {w : W} {c : Int} (h : WcAt K H xs l) (hq : SqT K H q [tx w, .int c]) : WcAt K H (xs ++ [.ref q]) (l ++ [(w, c)]) := ⟨by rw [List.length_append, List.length_append, h.1]; rfl, fun i x hx => by
  rcases Nat.lt_or_ge i xs.length with hi | hi
  · rw [List.getElem?_append_left hi] at hx
    obtain ⟨q', w', c', h1, h2, h3⟩ := h.2 i x hx
    exact ⟨q', w', c', by rw [List.getElem?_append_left (by rw [← h.1]; exact hi)]; exact h1, h2, h3⟩
  · rw [List.getElem?_append_right hi] at hx
    have h0 : i - xs.length = 0 := by
      rcases Nat.eq_zero_or_pos (i - xs.length) with h0 | h0
      · exact h0
      · rw [List.getElem?_eq_none (by show 1 ≤ _; omega)] at hx
        cases hx
    rw [h0] at hx
    have e1 : x = .ref q := by simpa using hx.symm
    refine ⟨q, w, c, ?_, e1, hq⟩
    rw [List.getElem?_append_right (by rw [← h.1]; exact hi), ← h.1, h0]
    rfl⟩
theorem WcAt.set {H : Hp} {xs : List V} {l : TB.P} {q : Addr} {w : W} {c : Int} {j : Nat} (h : WcAt K H xs l) (hq : SqT K H q [tx w, .int c]) : WcAt K H (xs.set j (.ref q)) (l.set j (w, c)) := ⟨by rw [List.length_set, List.length_set, h.1], fun i x hx => by
  have hlt := (List.getElem?_eq_some_iff.mp hx).1
  rw [List.length_set] at hlt
  by_cases e : j = i
  · subst e
    rw [List.getElem?_set_self hlt] at hx
    exact ⟨q, w, c, by rw [List.getElem?_set_self (by rw [← h.1]; exact hlt)], (Option.some.inj hx).symm, hq⟩
  · rw [List.getElem?_set_ne e] at hx
    obtain ⟨q', w', c', h1, h2, h3⟩ := h.2 i x hx
    exact ⟨q', w', c', by rw [List.getElem?_set_ne e]; exact h1, h2, h3⟩⟩
theorem WcAt.at {H : Hp} {xs : List V} {l : TB.P} {i : Nat} (h : WcAt K H xs l) (hi : i < l.length) : ∃ q w c, xs[i]? = some (.ref q) ∧ l[i]? = some (w, c) ∧ SqT K H q [tx w, .int c] := by
  have hx : i < xs.length := by rw [h.1]; exact hi
  obtain ⟨q, w, c, h1, h2, h3⟩ := h.2 i _ (List.getElem?_eq_getElem hx)
  exact ⟨q, w, c, by rw [List.getElem?_eq_getElem hx, h2], h1, h3⟩
/-! as data -/
def pdWc (l : TB.P) : PyData := .list (l.map fun x => .tuple [.str (sOf x.1), .int x.2])
theorem dp_wc {H : Hp} {a : Addr} {xs : List V} {l : TB.P} (hs : SqL K H a xs) (h : WcAt K H xs l) : Dp K H (.ref a) (pdWc l) := .lst hs (dpAll_at (by rw [List.length_map, h.1]) fun i y hy => by
  obtain ⟨q, w, c, h1, rfl, hq⟩ := h.2 i y hy
  exact ⟨.tuple [.str (sOf w), .int c], by rw [List.getElem?_map, h1]; rfl, .tup hq (.cons (.str _) (.cons (.int _) .nil))⟩)
theorem lay_wc {l : TB.P} (h : ∀ x ∈ l, ABC x.1) : (pdWc l).canLay0 = true := lay_lst fun d hd => by
  obtain ⟨x, hx, rfl⟩ := List.mem_map.mp hd
  exact lay_two (lay_tx (h x hx).lt) rfl
theorem sh_wc {l : TB.P} (h : ∀ x ∈ l, ABC x.1) : SeqAt.shaped (pdWc l) = true := sh_of (lay_wc h) (by
  show (PyData.list _).depth ≤ 64
  rw [PyData.depth]
  have : PyData.depthAll (l.map fun x => PyData.tuple [.str (sOf x.1), .int x.2]) ≤ 1 := depth_all fun d hd => by
    obtain ⟨x, hx, rfl⟩ := List.mem_map.mp hd
    rw [depth_two, depth_tx]
    have : (PyData.int x.2).depth = 0 := by rw [PyData.depth]
    omega
  omega)
theorem eqv_wc {l : TB.P} (h : ∀ x ∈ l, ABC x.1) : PyData.eqv (pdWc l) (pdWc l) = true := PySem.SeqAt.eqv_refl _ (lay_wc h)
theorem eqv_wc0 (l : TB.P) : PyData.eqv (pdWc l) (.list []) = decide (l = []) := by
  unfold pdWc
  rw [PyData.eqv]
  cases l with
  | nil => rw [List.map_nil, PyData.eqvAll]; rfl
  | cons x r =>
    rw [List.map_cons, PyData.eqvAll, decide_eq_false (by simp)]
    all_goals simp
/-! put together -/
theorem sum_bnd {l : TB.P} {B : Nat} (h : ∀ x ∈ l, x.2.natAbs ≤ B) : (l.map fun x => x.2.natAbs).sum ≤ l.length * B := by
  induction l with
  | nil => exact Nat.zero_le _
  | cons x r ih =>
    have h1 := ih fun y hy => h y (List.mem_cons_of_mem _ hy)
    have h2 := h x List.mem_cons_self
    rw [List.map_cons, List.sum_cons, List.length_cons, Nat.add_mul, Nat.one_mul]
    omega
theorem WOk.gth {l : TB.P} {n m : Nat} (h : WOk l n m) (hn : n ≤ 10000) (hm : m ≤ 100) : POk 8 (gth l) ∧ [] ∉ keys (gth l) ∧ (gth l).length ≤ n := by
  have kk : ∀ w ∈ keys (TB.gth l), ∃ x ∈ l, w = x.1 := fun w hw => by
    rcases puts_keys _ _ hw with hw | ⟨x, hx, e⟩
    · cases hw
    · exact ⟨x, hx, e⟩
  have hl : (TB.gth l).length ≤ n := by
    have h1 := puts_len (fun x : W × Int => x.1) (fun x => x.2) l []
    have h2 : (TB.gth l).length ≤ l.length + 0 := by rw [Nat.add_comm]; exact h1
    have := h.len
    omega
  refine ⟨⟨puts_nrm _ _ _ Nrm.nil, fun w hw => ?_, Nat.le_refl _, by omega, ?_⟩, fun hw => ?_, hl⟩
  · obtain ⟨x, hx, rfl⟩ := kk w hw
    exact ⟨(h.it x hx).2.1, (h.it x hx).2.2.1⟩
  · have h1 := puts_tot (fun x : W × Int => x.1) (fun x => x.2) l Nrm.nil
    have h2 := sum_bnd fun x hx => (h.it x hx).2.2.2
    have h3 : bit 121 + m ≤ bit 122 := by
      have e1 : bit 121 * 2 = bit 122 := bit_dbl 121
      have e2 : 128 ≤ bit 121 := by rw [bit7]; exact bit_le (by decide)
      omega
    have h4 : l.length * (bit 121 + m) ≤ bit 14 * bit 122 := Nat.mul_le_mul (Nat.le_trans h.len (Nat.le_trans hn bit14)) h3
    rw [bit_add] at h4
    have h5 : bit (14 + 122) < bit 100000 := bit_lt (by decide)
    have h6 : TB.tot (TB.gth l) ≤ TB.tot [] + (l.map fun x => x.2.natAbs).sum := h1
    have h7 : TB.tot ([] : TB.P) = 0 := rfl
    omega
  · obtain ⟨x, hx, e⟩ := kk [] hw
    exact (h.it x hx).1 e.symm
theorem WOk.abc {l : TB.P} {n m : Nat} (h : WOk l n m) : ∀ x ∈ l, ABC x.1 := fun x hx => (h.it x hx).2.2.1
/-! a list's end ahead of its front -/
theorem rot_cut {ws : List W} {k : Nat} : cutV (ws.map tx) (some (k : Int)) none ++ cutV (ws.map tx) none (some (k : Int)) = (ws.drop k ++ ws.take k).map tx := by
  unfold cutV
  rw [List.length_map, show HT.sIx ws.length 0 (some (k : Int)) = min k ws.length from HT.sIx_nat _ _ _, show HT.sIx ws.length ws.length (some (k : Int)) = min k ws.length from HT.sIx_nat _ _ _, HT.sIx_none, HT.sIx_none, List.map_append, List.map_drop, List.map_take, List.drop_zero, Nat.sub_zero]
  rcases Nat.le_total k ws.length with h | h
  · rw [Nat.min_eq_left h]
    congr 1
    rw [List.take_of_length_le (by rw [List.length_drop, List.length_map]; omega)]
  · rw [Nat.min_eq_right h, List.drop_eq_nil_of_le (by rw [List.length_map]; omega), List.drop_eq_nil_of_le (by rw [List.length_map]; omega), List.take_nil, List.take_of_length_le (by rw [List.length_map]; omega), List.take_of_length_le (by rw [List.length_map]; omega)]
/-! the counts of a small sum's words -/
theorem lcntS_small {s : List (Int × Br)} (ok : SOk s 8) (sm : ∀ x ∈ s, x.1.natAbs ≤ 10 ^ 29) (w : W) : (get (lcntS s) w).natAbs ≤ bit 121 := by
  rw [← cl_get]
  have h1 := cntS_tot ok fun x hx => small_bit (sm x hx)
  by_cases h : w ∈ keys (cntS s)
  · obtain ⟨x, hx, rfl⟩ := List.mem_map.mp h
    have h2 := tot_mem hx
    have h3 : get (cntS s) x.1 = x.2 := get_mem (cntS_nrm s).nd (show (x.1, x.2) ∈ cntS s from hx)
    rw [h3]
    exact Nat.le_trans h2 h1
  · rw [get_not h]
    exact Nat.zero_le _
theorem lcntS_ne {s : List (Int × Br)} {w : W} (h : w ∈ keys (lcntS s)) : w ≠ [] := by
  rcases sumT_keys lcnt h with h | ⟨x, _, h⟩
  · cases h
  · exact ws_ne (lcnt_keys h)
section
variable {σ : L2.St} {H : Hp} {tz tu : TS} {D : Ends}
/-- an if without else, what follows shown once, the names changed -/
theorem q_when3 {t : TT} {b : Bool} (Inv : L2.St → Hp → Prop) (h : EvT t σ H b) (hk : ∀ σ1 H1, Inv σ1 H1 → tz D σ1 H1) (h1 : b = true → ∀ H1, Ex H H1 → (∀ σ2 H2, Inv σ2 H2 → tz D σ2 H2) → tu { D with nx := tz D } σ H1) (h2 : b = false → ∀ H1, Ex H H1 → Inv σ H1) : tSeq (tIfS t tu tNext) tz D σ H :=
  q_when h (fun hb H1 e1 => h1 hb H1 e1 hk) (fun hb H1 e1 => hk σ H1 (h2 hb H1 e1))
end
end
end TB
/-! ## TbD__law_done -/
namespace TB
open PySem PySem.Spec PyProof.Rows L2 Evl
section
variable {P : Program} {wd : World} {K : PySem.W.Frag} {mg : Str → Option Value} {base : Heap}
/-! _law_done -/
/-- the class of each way to be refused -/
def Cm (a b c d e : Addr) : Nat → Addr
  | 0 => a
  | 1 => b
  | 2 => c
  | 3 => d
  | _ => e
section
variable {σ : L2.St} {H : Hp} {te ta tb tc td : TE}
theorem ev_pickI {ns : List Int} {i : Int} (h : EvL ta σ H (ns.map V.int)) (hi : ∀ H1, Ex H H1 → Ev tb σ H1 (.int i)) (h0 : 0 ≤ i) (hl : i.toNat < ns.length) : Ev (tOp (rIxL K) ta tb) σ H (.int (ns.getD i.toNat 0)) := ev_opL1 h hi (fun p H1 hp e => rv_ixL (sq_of hp) (atI_nat' h0 (by rw [List.getElem?_map, List.getD_eq_getElem?_getD, List.getElem?_eq_getElem hl]; rfl)))
/-- a list of words with counts -/
def PwAt (K : PySem.W.Frag) (w : W) (c : Int) (v : V) (H : Hp) : Prop := ∃ q : Addr, v = .ref q ∧ SqT K H q [tx w, .int c]
theorem PwAt.mono {w : W} {c : Int} {v : V} {H H' : Hp} (e : Ex H H') (h : PwAt K w c v H) : PwAt K w c v H' := by
  obtain ⟨q, h1, h2⟩ := h
  exact ⟨q, h1, ex_t e h2⟩
theorem er_pw {w : W} {c : Int} {s : Str} (h : s = sOf w) (hb : Ev tb σ H (.int c)) : Er (tTup (tCons (tC (.str s)) (tCons tb tNil))) σ H (PwAt K w c) :=
  (eu_er (eu_tup (ea_cons (ev_tx h) (ea_cons hb ea_nil)) (by show 2 ≤ 100000; decide))).imp fun v H2 _ ⟨q, h1, _, h2⟩ => ⟨q, h1, SqT.of h2⟩
def WlAt (K : PySem.W.Frag) (l : TB.P) (v : V) (H : Hp) : Prop := ∃ p xs, v = .ref p ∧ SqL K H p xs ∧ WcAt K H xs l
theorem WlAt.mono {l : TB.P} {v : V} {H H' : Hp} (e : Ex H H') (h : WlAt K l v H) : WlAt K l v H' := by
  obtain ⟨p, xs, h1, h2, h3⟩ := h
  exact ⟨p, xs, h1, ex_l e h2, h3.mono e⟩
theorem er_wl1 {w : W} {c : Int} (h : Er ta σ H (PwAt K w c)) : Er (tLst (tCons ta tNil)) σ H (WlAt K [(w, c)]) :=
  (er_lst1 (R := PwAt K w c) h (fun e h => h.mono e)).imp fun v H2 _ ⟨p, x, h1, _, h2, q, h3, h4⟩ => ⟨p, [x], h1, sq_of h2, by subst h3; exact WcAt.nil.snoc h4⟩
theorem er_wl2 {w u : W} {c d : Int} (h : Er ta σ H (PwAt K w c)) (h2 : Er tb σ H (PwAt K u d)) : Er (tLst (tCons ta (tCons tb tNil))) σ H (WlAt K [(w, c), (u, d)]) :=
  (er_lst2 (R := PwAt K w c) (S := PwAt K u d) h h2 (fun e h => h.mono e) (fun e h => h.mono e)).imp fun v H2 _ ⟨p, x, y, h1, h2, ⟨q, h3, h4⟩, ⟨q2, h5, h6⟩⟩ => ⟨p, [x, y], h1, h2, by subst h3; subst h5; exact (WcAt.nil.snoc h4).snoc h6⟩
end
/-- words that are no sum's -/
structure NoS (l : TB.P) : Prop where
  ok : POk 8 (gth l)
  no : ¬ Prim (gth l)
  len : l.length ≤ 100000
theorem np {l : TB.P} {x y : W} (hx : x ≠ []) (hy : y ≠ []) (h : (l.map fun z => z.2 * TB.mg x y z.1).sum ≠ 0) : ¬ Prim (gth l) := fun hp => h (by
  have h1 := hp.mg x y hx hy
  unfold gth at h1
  rw [puts_pr _ _ l Nrm.nil, pr_nil, Int.zero_add] at h1
  exact h1)
theorem smc {c : Int} (h : c.natAbs ≤ 10 ^ 29) : c.natAbs ≤ bit 121 + 0 := Nat.le_trans (small_bit h) (bit_le (by decide))
theorem nos1 {w : W} {c : Int} (h1 : w ≠ []) (h2 : w.length ≤ 8) (h3 : ABC w) (h4 : c.natAbs ≤ 10 ^ 29) (h : ¬ Prim (gth [(w, c)])) : NoS [(w, c)] := ⟨(((WOk.nil (n := 0) (m := 0)).snoc h1 h2 h3 (smc h4)).gth (by omega) (by omega)).1, h, by show 1 ≤ 100000; decide⟩
theorem nos2 {w u : W} {c d : Int} (h1 : w ≠ []) (h2 : w.length ≤ 8) (h3 : ABC w) (h4 : c.natAbs ≤ 10 ^ 29) (g1 : u ≠ []) (g2 : u.length ≤ 8) (g3 : ABC u) (g4 : d.natAbs ≤ 10 ^ 29) (h : ¬ Prim (gth [(w, c), (u, d)])) : NoS [(w, c), (u, d)] := ⟨((((WOk.nil (n := 0) (m := 0)).snoc h1 h2 h3 (smc h4)).snoc g1 g2 g3 (smc g4)).gth (by omega) (by omega)).1, h, by show 2 ≤ 100000; decide⟩
theorem abc_of {w : W} (h : (w.all fun c => decide (c = 97) || decide (c = 98) || decide (c = 99)) = true) : ABC w := fun c hc => by
  have h4 := List.all_eq_true.mp h c hc
  rw [Bool.or_eq_true, Bool.or_eq_true, decide_eq_true_iff, decide_eq_true_iff, decide_eq_true_iff] at h4
  rcases h4 with (h4 | h4) | h4
  · exact .inl h4
  · exact .inr (.inl h4)
  · exact .inr (.inr h4)
theorem no1 : NoS [([97, 98], 1)] := nos1 (by simp) (by decide) (abc_of rfl) (by decide) (np (x := [97]) (y := [98]) (by simp) (by simp) (by decide +kernel))
theorem no2 : NoS [([97], 1), ([98, 97], 2)] := nos2 (by simp) (by decide) (abc_of rfl) (by decide) (by simp) (by decide) (abc_of rfl) (by decide) (np (x := [97]) (y := [98]) (by simp) (by simp) (by decide +kernel))
theorem no3 : NoS [([97, 98], 1), ([98, 97], 1)] := nos2 (by simp) (by decide) (abc_of rfl) (by decide) (by simp) (by decide) (abc_of rfl) (by decide) (np (x := [97]) (y := [98]) (by simp) (by simp) (by decide +kernel))
theorem no4 {f : Int} (h0 : 0 ≤ f) (h1 : f < 10 ^ 12) : NoS [([97, 97], 1 + f)] := nos1 (by simp) (by decide) (abc_of rfl) (by omega) (np (x := [97]) (y := [97]) (by simp) (by simp) (by
  have e : TB.mg [97] [97] [97, 97] = 2 := by decide +kernel
  show (1 + f) * TB.mg [97] [97] [97, 97] + 0 ≠ 0
  rw [e]
  omega))
def rd6 : List W := [[], [97], [43, 49], [48, 97], [43, 49, 91, 97, 44, 98], [43, 49, 100]]
theorem rd6_none : ∀ u ∈ rd6, rd u = none := by
  have : ∀ u ∈ rd6, (rd u).isNone = true := by decide +kernel
  exact fun u hu => Option.isNone_iff_eq_none.mp (this u hu)
def sp__law_done (C : Nat → Addr) : Sp := fun vs H Q E => ∃ (m : Nat) (c f : Int), vs = [.int (m : Int), .int c, .int f] ∧ m < 5 ∧ 0 ≤ f ∧ f < 10 ^ 12 ∧ ∀ H', Ex H H' → E (.ref (C m)) none H'
theorem ok__law_done (B : Blt mg) (D__law_done : DefAt K mg "_law_done" s__law_done ["mode", "cell", "far"]) (D__law_no_word : DefAt K mg "_law_no_word" s__law_no_word ["cell"]) (D__law_too_great : DefAt K mg "_law_too_great" s__law_too_great ["cell"]) (D_cut : DefAt K mg "cut" s_cut ["word"]) (D_plain_bracket : DefAt K mg "plain_bracket" s_plain_bracket ["word"]) (D_is_plain : DefAt K mg "is_plain" s_is_plain ["word"]) (D_plain_words : DefAt K mg "plain_words" s_plain_words ["letters", "length"]) (D_ask_numbers : DefAt K mg "ask_numbers" s_ask_numbers ["letters", "length", "most"]) (D_how_many : DefAt K mg "how_many" s_how_many ["letters", "length"]) (D_mark_of : DefAt K mg "mark_of" s_mark_of ["number"]) (D_power_of : DefAt K mg "power_of" s_power_of ["number", "often"]) (D_gathered : DefAt K mg "gathered" s_gathered ["words"]) (D_plain_of : DefAt K mg "plain_of" s_plain_of ["counts"]) (D_counts_of : DefAt K mg "counts_of" s_counts_of ["bracket"]) (D_twisted : DefAt K mg "twisted" s_twisted ["one", "other"]) (D_times : DefAt K mg "times" s_times ["one", "other"]) (D_put_to : DefAt K mg "put_to" s_put_to ["counts", "word", "count"]) (D_by_length : DefAt K mg "by_length" s_by_length ["word"]) (D_bracket_of : DefAt K mg "bracket_of" s_bracket_of ["one", "other"]) (D_put_in : DefAt K mg "put_in" s_put_in ["total", "a", "b", "c"]) (D_ask_weights : DefAt K mg "ask_weights" s_ask_weights ["total", "sums"]) (D_letters_of : DefAt K mg "letters_of" s_letters_of ["bracket"]) (D_greatest : DefAt K mg "greatest" s_greatest ["total"]) (D_weight : DefAt K mg "weight" s_weight ["bracket"]) (D_filled : DefAt K mg "filled" s_filled ["bracket", "counts"]) (D_counts_of_sum : DefAt K mg "counts_of_sum" s_counts_of_sum ["total"]) (D_read : DefAt K mg "read" s_read ["text"]) (D_count_at : DefAt K mg "count_at" s_count_at ["text", "at"]) (D_bracket_at : DefAt K mg "bracket_at" s_bracket_at ["text", "at", "deep"]) (D_sign_at : DefAt K mg "sign_at" s_sign_at ["text", "at", "sign"]) (EC_NoWord : ErrAt K mg "NoWord") (EC_NoNumber : ErrAt K mg "NoNumber") (EC_NoSum : ErrAt K mg "NoSum") (EC_TooGreat : ErrAt K mg "TooGreat") (EC_NotRead : ErrAt K mg "NotRead") {t1 t2 t3 t4 t5 t6 t7 t8 : Tok} (c_LETTERS : mg "LETTERS" = some (.str "abc" t1)) (c_LONGEST_words : mg "LONGEST_words" = some (.int 8 t2)) (c_GREATEST_words : mg "GREATEST_words" = some (.int 60 t3)) (c_GREATEST_sums : mg "GREATEST_sums" = some (.int 8 t4)) (c_FIGURES : mg "FIGURES" = some (.str "0123456789" t5)) (c_LONGEST_notes : mg "LONGEST_notes" = some (.int 30 t6)) (c_GREATEST_notes : mg "GREATEST_notes" = some (.int 8 t7)) (c_MOST : mg "MOST" = some (.int 12 t8)) :
    FnOk P wd K mg base (L2.CX P wd) 50 D__law_done.f D__law_done.fd ["mode", "cell", "far"] (sp__law_done (Cm EC_NoWord.C EC_NoNumber.C EC_NoSum.C EC_TooGreat.C EC_NotRead.C)) := by
  have G__law_no_word := ok__law_no_word (P := P) (wd := wd) (base := base) B D__law_no_word D_cut D_plain_bracket D_is_plain EC_NoWord
  have G__law_too_great := ok__law_too_great (P := P) (wd := wd) (base := base) B D__law_too_great D_bracket_of D_put_in D_ask_weights D_letters_of D_greatest D_weight D_filled D_counts_of_sum D_counts_of D_twisted D_times D_put_to D_plain_of D_is_plain D_cut D_plain_bracket D_by_length EC_NoWord EC_NoSum EC_TooGreat c_GREATEST_sums
  have G_plain_words := ok_plain_words (P := P) (wd := wd) (base := base) B D_plain_words D_is_plain D_ask_numbers EC_NoNumber c_LETTERS c_LONGEST_words
  have G_how_many := ok_how_many (P := P) (wd := wd) (base := base) B D_how_many D_ask_numbers D_mark_of D_power_of EC_NoNumber c_GREATEST_words
  have G_gathered := ok_gathered (P := P) (wd := wd) (base := base) B D_gathered D_plain_of D_is_plain D_cut D_plain_bracket D_counts_of D_twisted D_times D_put_to D_by_length EC_NoWord EC_NoSum
  have G_read := ok_read (P := P) (wd := wd) (base := base) B D_read D_count_at D_bracket_at D_sign_at D_weight EC_NotRead c_FIGURES c_LONGEST_notes c_GREATEST_notes c_MOST
  refine D__law_done.F.okX sc__law_done (fun vs H Q E h => ?_) (fun cdv A outer st H vs Q E hr h => ?_)
  · obtain ⟨m, c, f, rfl, _⟩ := h
    rfl
  obtain ⟨m, c, f, rfl, hm, hf0, hf1, q⟩ := h
  refine ⟨_, (pss_one (ps_if (pt_cmpR op_eq (pv 0) pe_int (nomark _))
      (pss_one (ps_expr (clX (E := E) (Q1 := fun _ _ => True) D__law_no_word G__law_no_word hr (passes_call (takes_of rfl rfl rfl rfl) (fun _ _ _ _ h => h)) (pa_cons (pv 1) pa_nil))))
      (pss_one (ps_if (PW.pt (pw_and (pt_cmpR op_eq (pv 0) pe_int (nomark _)) (pw_and1 (pt_cmpR op_eq (pe_op op_mod (pv 1) pe_int) pe_int (nomark _)))))
        (pss_one (ps_expr (clX (E := E) (Q1 := fun _ _ => True) D_plain_words G_plain_words hr (passes_call (takes_of rfl rfl rfl rfl) (fun _ _ _ _ h => h)) (pa_cons (pe_ix ix_list (pe_lst (pa_cons pe_int (pa_cons (pe_op op_add pe_int (pv 2)) (pa_cons pe_int (pa_cons pe_int pa_nil))))) (pe_op op_mod (pe_op op_fdiv (pv 1) pe_int) pe_int) (fun _ _ => rfl)) (pa_cons (pe_ix ix_list (pe_lst (pa_cons pe_int (pa_cons pe_int (pa_cons (pe_op op_add pe_int (pv 2)) (pa_cons pe_int pa_nil))))) (pe_op op_mod (pe_op op_fdiv (pv 1) pe_int) pe_int) (fun _ _ => rfl)) pa_nil)))))
        (pss_one (ps_if (pt_cmpR op_eq (pv 0) pe_int (nomark _))
          (pss_one (ps_expr (clX (E := E) (Q1 := fun _ _ => True) D_how_many G_how_many hr (passes_call (takes_of rfl rfl rfl rfl) (fun _ _ _ _ h => h)) (pa_cons (pe_ix ix_list (pe_lst (pa_cons pe_int (pa_cons (pe_op op_add pe_int (pv 2)) (pa_cons pe_int (pa_cons pe_int pa_nil))))) (pe_op op_mod (pe_op op_fdiv (pv 1) pe_int) pe_int) (fun _ _ => rfl)) (pa_cons (pe_ix ix_list (pe_lst (pa_cons pe_int (pa_cons pe_int (pa_cons (pe_op op_add pe_int (pv 2)) (pa_cons (pe_un un_neg (pv 2)) pa_nil))))) (pe_op op_mod (pe_op op_fdiv (pv 1) pe_int) pe_int) (fun _ _ => rfl)) pa_nil)))))
          (pss_one (ps_if (pt_cmpR op_eq (pv 0) pe_int (nomark _))
            (pss_one (ps_expr (clX (E := E) (Q1 := fun _ _ => True) D_gathered G_gathered hr (passes_call (takes_of rfl rfl rfl rfl) (fun _ _ _ _ h => h)) (pa_cons (pe_ix ix_list (pe_lst (pa_cons (pe_lst (pa_cons (pe_tup (pa_cons pe_str (pa_cons pe_int pa_nil))) pa_nil)) (pa_cons (pe_lst (pa_cons (pe_tup (pa_cons pe_str (pa_cons pe_int pa_nil))) (pa_cons (pe_tup (pa_cons pe_str (pa_cons pe_int pa_nil))) pa_nil))) (pa_cons (pe_lst (pa_cons (pe_tup (pa_cons pe_str (pa_cons pe_int pa_nil))) (pa_cons (pe_tup (pa_cons pe_str (pa_cons pe_int pa_nil))) pa_nil))) (pa_cons (pe_lst (pa_cons (pe_tup (pa_cons pe_str (pa_cons (pe_op op_add pe_int (pv 2)) pa_nil))) pa_nil)) pa_nil))))) (pe_op op_mod (pv 1) pe_int) (fun _ _ => rfl)) pa_nil))))
            (pss_one (ps_if (pt_cmpR op_eq (pv 0) pe_int (nomark _))
              (pss_one (ps_expr (clX (E := E) (Q1 := fun _ _ => True) D__law_too_great G__law_too_great hr (passes_call (takes_of rfl rfl rfl rfl) (fun _ _ _ _ h => h)) (pa_cons (pv 1) pa_nil))))
              (pss_one (ps_expr (clX (E := E) (Q1 := fun _ _ => True) D_read G_read hr (passes_call (takes_of rfl rfl rfl rfl) (fun _ _ _ _ h => h)) (pa_cons (pe_ix ix_list (pe_lst (pa_cons pe_str (pa_cons pe_str (pa_cons pe_str (pa_cons pe_str (pa_cons pe_str (pa_cons pe_str pa_nil))))))) (pe_op op_mod (pv 1) pe_int) (fun _ _ => rfl)) pa_nil)))))))))))))), ?_⟩
  have i0 := Int.emod_nonneg (c / 2) (show (4 : Int) ≠ 0 by decide)
  have i1 := Int.emod_lt_of_pos (c / 2) (show (0 : Int) < 4 by decide)
  have i4 : (c / 2 % 4 = 0 ∨ c / 2 % 4 = 1) ∨ (c / 2 % 4 = 2 ∨ c / 2 % 4 = 3) := by omega
  have ix : ∀ {σ : L2.St} {H1 : Hp}, σ[1]? = some (some (.int c)) → Ev (tOp (rI (fun _ j => 0 < j) fun i j => .int (i % j)) (tOp (rI CDiv fun i j => .int (i / j)) (tVar 1) (tC (.int 2))) (tC (.int 4))) σ H1 (.int (c / 2 % 4)) := fun h => ev_op (ev_op (ev_var h) ev_c (rv_I ⟨by decide, by decide⟩)) ev_c (rv_I (by decide))
  refine s_if (et_test (ev_op (ev_var rfl) ev_c rv_eqI)) (fun hb H1 e1 => ?_) (fun hb H1 e1 => ?_)
  · have hm0 : m = 0 := by have : (m : Int) = 0 := of_decide_eq_true hb; omega
    subst hm0
    exact s_callX (ea_cons (ev_var rfl) ea_nil) (fun H2 e2 => ⟨c, rfl, fun H3 e3 => q H3 ((e1.trans e2).trans e3)⟩)
  have hm0 : m ≠ 0 := fun h => by
    have : ¬ (m : Int) = 0 := of_decide_eq_false hb
    omega
  refine s_if (et_and (et_test (ev_op (ev_var rfl) ev_c rv_eqI)) (fun hc => (et_test (ev_op (ev_op (ev_var rfl) ev_c (rv_I (by decide))) ev_c rv_eqI)))) (fun hb H2 e2 => ?_) (fun hb H2 e2 => ?_)
  · have hm1 : m = 1 := by have : (m : Int) = 1 := of_decide_eq_true (Bool.and_eq_true_iff.mp hb).1; omega
    subst hm1
    refine s_callX (ea_cons (ev_pickI (ns := [0, 4 + f, 2, 3]) (el_lst (ea_cons ev_c (ea_cons (ev_op ev_c (ev_var rfl) rv_I0) (ea_cons ev_c (ea_cons ev_c ea_nil)))) (by show 4 ≤ 100000; decide)) (fun H3 e3 => ix rfl) i0 (by show _ < 4; omega)) (ea_cons (ev_pickI (ns := [3, 3, 9 + f, 0]) (el_lst (ea_cons ev_c (ea_cons ev_c (ea_cons (ev_op ev_c (ev_var rfl) rv_I0) (ea_cons ev_c ea_nil)))) (by show 4 ≤ 100000; decide)) (fun H3 e3 => ix rfl) i0 (by show _ < 4; omega)) ea_nil)) (fun H3 e3 => ⟨_, _, rfl, fun _ H4 e4 => q H4 (((e1.trans e2).trans e3).trans e4), fun g => ?_⟩)
    exfalso
    rcases i4 with (h | h) | (h | h) <;> rw [h] at g
    · have g : Good 0 3 8 := g
      unfold Good at g; omega
    · have g : Good (4 + f) 3 8 := g
      unfold Good at g; omega
    · have g : Good 2 (9 + f) 8 := g
      unfold Good at g; omega
    · have g : Good 3 0 8 := g
      unfold Good at g; omega
  refine s_if (et_test (ev_op (ev_var rfl) ev_c rv_eqI)) (fun hb H3 e3 => ?_) (fun hb H3 e3 => ?_)
  · have hm1 : m = 1 := by have : (m : Int) = 1 := of_decide_eq_true hb; omega
    subst hm1
    refine s_callX (ea_cons (ev_pickI (ns := [0, 4 + f, 2, 3]) (el_lst (ea_cons ev_c (ea_cons (ev_op ev_c (ev_var rfl) rv_I0) (ea_cons ev_c (ea_cons ev_c ea_nil)))) (by show 4 ≤ 100000; decide)) (fun H3 e3 => ix rfl) i0 (by show _ < 4; omega)) (ea_cons (ev_pickI (ns := [3, 3, 61 + f, -f]) (el_lst (ea_cons ev_c (ea_cons ev_c (ea_cons (ev_op ev_c (ev_var rfl) rv_I0) (ea_cons (ev_un (ev_var rfl) ru_neg) ea_nil)))) (by show 4 ≤ 100000; decide)) (fun H3 e3 => ix rfl) i0 (by show _ < 4; omega)) ea_nil)) (fun H4 e4 => ⟨_, _, rfl, fun _ H5 e5 => q H5 ((((e1.trans e2).trans e3).trans e4).trans e5), fun g => ?_⟩)
    exfalso
    rcases i4 with (h | h) | (h | h) <;> rw [h] at g
    · have g : Good 0 3 60 := g
      unfold Good at g; omega
    · have g : Good (4 + f) 3 60 := g
      unfold Good at g; omega
    · have g : Good 2 (61 + f) 60 := g
      unfold Good at g; omega
    · have g : Good 3 (-f) 60 := g
      unfold Good at g; omega
  have hm1 : m ≠ 1 := fun h => by
    have : ¬ (m : Int) = 1 := of_decide_eq_false hb
    omega
  have e13 := (e1.trans e2).trans e3
  refine s_if (et_test (ev_op (ev_var rfl) ev_c rv_eqI)) (fun hb H4 e4 => ?_) (fun hb H4 e4 => ?_)
  · have hm2 : m = 2 := by have : (m : Int) = 2 := of_decide_eq_true hb; omega
    subst hm2
    have j0 := Int.emod_nonneg c (show (4 : Int) ≠ 0 by decide)
    have j1 := Int.emod_lt_of_pos c (show (0 : Int) < 4 by decide)
    refine s_callXR (ear_one (R := fun v H => ∃ l, WlAt K l v H ∧ NoS l) (er_ixL (i := c % 4) (S := fun vs H2 => ∃ x y z w, vs = [x, y, z, w] ∧ WlAt K [([97, 98], 1)] x H2 ∧ WlAt K [([97], 1), ([98, 97], 2)] y H2 ∧ WlAt K [([97, 98], 1), ([98, 97], 1)] z H2 ∧ WlAt K [([97, 97], 1 + f)] w H2) (ear_4 (R := WlAt K [([97, 98], 1)]) (S := WlAt K [([97], 1), ([98, 97], 2)]) (T := WlAt K [([97, 98], 1), ([98, 97], 1)]) (U := WlAt K [([97, 97], 1 + f)]) (er_wl1 (er_pw (by decide +kernel) ev_c)) (er_wl2 (er_pw (by decide +kernel) ev_c) (er_pw (by decide +kernel) ev_c)) (er_wl2 (er_pw (by decide +kernel) ev_c) (er_pw (by decide +kernel) ev_c)) (er_wl1 (er_pw (by decide +kernel) (ev_op ev_c (ev_var rfl) rv_I0))) (fun e h => h.mono e) (fun e h => h.mono e) (fun e h => h.mono e) (fun e h => h.mono e)) (fun {vs H1} ⟨x, y, z, w, h, _⟩ => by rw [h]; show 4 ≤ 100000; decide) (ev_op (ev_var rfl) ev_c (rv_I (by decide))) j0 (fun {vs H1} ⟨x, y, z, w, h, h1, h2, h3, h4⟩ => ?_) (fun e ⟨l, h1, h2⟩ => ⟨l, h1.mono e, h2⟩)) (fun e ⟨l, h1, h2⟩ => ⟨l, h1.mono e, h2⟩)) (fun vs H5 e5 hv => ?_)
    · have j4 : (c % 4 = 0 ∨ c % 4 = 1) ∨ (c % 4 = 2 ∨ c % 4 = 3) := by omega
      subst h
      rcases j4 with (h | h) | (h | h) <;> rw [h]
      · exact ⟨x, rfl, _, h1, no1⟩
      · exact ⟨y, rfl, _, h2, no2⟩
      · exact ⟨z, rfl, _, h3, no3⟩
      · exact ⟨w, rfl, _, h4, no4 hf0 hf1⟩
    · obtain ⟨_, rfl, l, ⟨p, xs, rfl, hs, hw⟩, ns⟩ := hv
      exact ⟨p, xs, l, rfl, hs, hw, ns.len, ns.ok, fun _ H6 e6 => q H6 (((e13.trans e4).trans e5).trans e6), fun v H6 e6 hv => absurd (by obtain ⟨F, hF, _⟩ := hv; exact hF.prim) ns.no⟩
  have hm2 : m ≠ 2 := fun h => by
    have : ¬ (m : Int) = 2 := of_decide_eq_false hb
    omega
  refine s_if (et_test (ev_op (ev_var rfl) ev_c rv_eqI)) (fun hb H5 e5 => ?_) (fun hb H5 e5 => ?_)
  · have hm3 : m = 3 := by have : (m : Int) = 3 := of_decide_eq_true hb; omega
    subst hm3
    exact s_callX (ea_cons (ev_var rfl) ea_nil) (fun H6 e6 => ⟨c, rfl, fun H7 e7 => q H7 (((e13.trans e4).trans e5).trans (e6.trans e7))⟩)
  have hm4 : m = 4 := by
    have : ¬ (m : Int) = 3 := of_decide_eq_false hb
    omega
  subst hm4
  have j0 := Int.emod_nonneg c (show (6 : Int) ≠ 0 by decide)
  have j1 := Int.emod_lt_of_pos c (show (0 : Int) < 6 by decide)
  have hl : (c % 6).toNat < rd6.length := by show _ < 6; omega
  refine s_callX (ea_cons (ev_pick (ws := rd6) (el_lst (ea_cons (ev_tx (by decide +kernel)) (ea_cons (ev_tx (by decide +kernel)) (ea_cons (ev_tx (by decide +kernel)) (ea_cons (ev_tx (by decide +kernel)) (ea_cons (ev_tx (by decide +kernel)) (ea_cons (ev_tx (by decide +kernel)) ea_nil)))))) (by show 6 ≤ 100000; decide)) (fun H2 e2 => ev_op (ev_var rfl) ev_c (rv_I (by decide))) j0 hl) ea_nil) (fun H6 e6 => ⟨_, rfl, ?_, fun _ H7 e7 => q H7 (((e13.trans e4).trans e5).trans (e6.trans e7)), fun s hs => ?_⟩)
  · have : ∀ u ∈ rd6, u.length ≤ 50000 := by decide
    exact this _ (List.getElem_mem hl)
  · rw [rd6_none _ (List.getElem_mem hl)] at hs
    cases hs
end
end TB
/-! ## TbD__law_stir -/
namespace TB
open PySem PySem.Spec PyProof.Rows L2 Evl
section
variable {P : Program} {wd : World} {K : PySem.W.Frag} {mg : Str → Option Value} {base : Heap}
/-! _law_stir -/
def stirS (c f : Int) (k : Int) : Int := f * 10 ^ 9 + (((c * k + 7919) % 2147483647 * ((c * k + 7919) % 2147483647) % 2147483647 * 40692 % 2147483399) / 7)
def stirL : List Int := [48271, 69621, 39373, 44488]
def stirF (c : Int) : Int := stirL.foldl (stirS c) 0
def sp__law_stir : Sp := fun vs H Q _ => ∃ c : Int, vs = [.int c] ∧ ∀ H', Ex H H' → Q (.int (stirF c)) H'
theorem sv__law_stir {c : Int} {H : Hp} : SpV sp__law_stir [.int c] H (.int (stirF c)) := fun H1 _ Q q E => ⟨c, rfl, q⟩
theorem stir_in {x : Int} : -(2 ^ 64) < x % 2147483647 ∧ x % 2147483647 < 2 ^ 64 := by omega
theorem ok__law_stir (B : Blt mg) (D : DefAt K mg "_law_stir" s__law_stir ["cell"]) : FnOk P wd K mg base CX0 1 D.f D.fd ["cell"] sp__law_stir := by
  refine D.F.ok sc__law_stir (fun vs H Q E h => ?_) (fun cdv A outer s H vs Q E hr h => ?_)
  · obtain ⟨w, rfl, _⟩ := h
    rfl
  obtain ⟨c, rfl, q⟩ := h
  refine ⟨_, (pss_cons (ps_set (i := 1) sc__law_stir.nd rfl (by first | exact .inl rfl | exact .inr rfl) pe_int)
    (pss_cons (ps_for PassesOwn.never rfl (pi_list (pe_lst (pa_cons pe_int (pa_cons pe_int (pa_cons pe_int (pa_cons pe_int pa_nil)))))) (pg_name (i := 2) sc__law_stir.nd rfl (by first | exact .inl rfl | exact .inr rfl))
      (pss_cons (ps_set (i := 3) sc__law_stir.nd rfl (by first | exact .inl rfl | exact .inr rfl) (pe_op op_mod (pe_op op_add (pe_op op_mul (pv 0) (pv 2)) pe_int) pe_int))
      (pss_cons (ps_set (i := 3) sc__law_stir.nd rfl (by first | exact .inl rfl | exact .inr rfl) (pe_op op_mod (pe_op op_mul (pe_op op_mod (pe_op op_mul (pv 3) (pv 3)) pe_int) pe_int) pe_int))
      (pss_one (ps_set (i := 1) sc__law_stir.nd rfl (by first | exact .inl rfl | exact .inr rfl) (pe_op op_add (pe_op op_mul (pv 1) (pe_op op_pow pe_int pe_int)) (pe_op op_fdiv (pv 3) pe_int)))))))
    (pss_one (ps_ret (pv 1))))), ?_⟩
  refine q_asg ev_c (fun H1 e1 => ?_)
  refine q_forNLn (xs := stirL.map V.int) (el_is (el_lst (ea_cons ev_c (ea_cons ev_c (ea_cons ev_c (ea_cons ev_c ea_nil)))) (by decide)) rfl) (fun p i σ H2 => Ex H1 H2 ∧ H2 p = some (.lst (stirL.map V.int)) ∧ ∃ y z, σ = [some (.int c), some (.int ((stirL.take i).foldl (stirS c) 0)), y, z]) (fun p H2 _ e2 hp => ⟨e2, hp, none, none, rfl⟩) (fun p i σ H2 _ hP => sq_of hP.2.1) ?_ ?_
  · rintro p i x σ H2 hx ⟨e2, hp, y, z, rfl⟩
    obtain ⟨k, hk, rfl⟩ : ∃ k, stirL[i]? = some k ∧ x = .int k := by
      rw [List.getElem?_map] at hx
      cases e : stirL[i]? with
      | none => rw [e] at hx; cases hx
      | some k => rw [e] at hx; cases hx; exact ⟨k, rfl, rfl⟩
    have hks : -(2 ^ 64) < k ∧ k < 2 ^ 64 := by
      have := List.mem_of_getElem? hk
      simp only [stirL, List.mem_cons, List.not_mem_nil, or_false] at this
      omega
    refine q_asg (ev_op (ev_op (ev_op (ev_var rfl) (ev_var rfl) (rv_I (.inr hks))) ev_c rv_I0) ev_c (rv_I (by decide))) (fun H3 e3 => ?_)
    refine q_asg (ev_op (ev_op (ev_op (ev_op (ev_var rfl) (ev_var rfl) (rv_I (.inr stir_in))) ev_c (rv_I (by decide))) ev_c (rv_I (.inr (by decide)))) ev_c (rv_I (by decide))) (fun H4 e4 => ?_)
    refine s_asg (ev_op (ev_op (ev_var rfl) (ev_op ev_c ev_c (rv_I ⟨by decide, by decide, by decide⟩)) (rv_I (.inr (by decide)))) (ev_op (ev_var rfl) ev_c (rv_I ⟨by decide, by decide⟩)) rv_I0) (fun H5 e5 => ?_)
    refine ⟨((e2.trans e3).trans e4).trans e5, e5 _ _ (e4 _ _ (e3 _ _ hp)), some (.int k), ?_⟩
    rw [List.take_add_one, hk, List.foldl_append]
    exact ⟨_, rfl⟩
  · rintro p σ H2 ⟨e2, hp, y, z, rfl⟩
    exact s_ret (ev_var rfl) (fun H3 e3 => q H3 ((e1.trans e2).trans e3))
end
end TB
/-! ## TbD__law_cell -/
namespace TB
open PySem PySem.Spec PyProof.Rows L2 Evl
section
variable {P : Program} {wd : World} {K : PySem.W.Frag} {mg : Str → Option Value} {base : Heap}
/-! _law_cell, over a list of numbers that stands -/
def cellF (ns : List Int) (k : Int) : Int := if k < ns.length then stirF (ns.getD k.toNat 0) else stirF 0
def sp__law_cell (K : PySem.W.Frag) : Sp := fun vs H Q _ => ∃ (a : Addr) (ns : List Int) (k : Int), vs = [.ref a, .int k] ∧ SqL K H a (ns.map V.int) ∧ 0 ≤ k ∧ ∀ H', Ex H H' → Q (.int (cellF ns k)) H'
theorem sv__law_cell {K : PySem.W.Frag} {a : Addr} {ns : List Int} {k : Int} {H : Hp} (hs : SqL K H a (ns.map V.int)) (h0 : 0 ≤ k) : SpV (sp__law_cell K) [.ref a, .int k] H (.int (cellF ns k)) := fun H1 e Q q E => ⟨a, ns, k, rfl, ex_l e hs, h0, q⟩
theorem ok__law_cell (B : Blt mg) (D : DefAt K mg "_law_cell" s__law_cell ["script", "k"]) (D__law_stir : DefAt K mg "_law_stir" s__law_stir ["cell"]) : FnOk P wd K mg base CX0 2 D.f D.fd ["script", "k"] (sp__law_cell K) := by
  have G__law_stir := ok__law_stir (P := P) (wd := wd) (base := base) B D__law_stir
  refine D.F.ok sc__law_cell (fun vs H Q E h => ?_) (fun cdv A outer s H vs Q E hr h => ?_)
  · obtain ⟨a, ns, k, rfl, _⟩ := h
    rfl
  obtain ⟨a, ns, k, rfl, hs, h0, q⟩ := h
  refine ⟨_, (pss_cons (ps_if (pt_cmpR op_lt (pv 1) (pe_callB call_len_seq (by rfl) B.len PySem.boot_len (pa_cons (pv 0) pa_nil)) (nomark _))
      (pss_one (ps_ret (cl D__law_stir G__law_stir hr (pa_cons (pe_ix ix_list (pv 0) (pv 1) (fun _ _ => rfl)) pa_nil))))
      pss_nil)
    (pss_one (ps_ret (cl D__law_stir G__law_stir hr (pa_cons pe_int pa_nil))))), ?_⟩
  refine q_when (et_test (ev_op (ev_var rfl) (ev_lenQ (ev_var rfl) hs) rv_I0)) (fun hb H1 e1 => ?_) (fun hb H1 e1 => ?_)
  · have hb' : k < ns.length := by
      have := of_decide_eq_true hb
      rwa [List.length_map] at this
    refine s_ret (ev_call (ea_cons (ev_op (ev_var rfl) (ev_var rfl) (rv_ixL (ex_l e1 hs) (ns_at h0 hb'))) ea_nil) sv__law_stir) (fun H2 e2 => ?_)
    have := q H2 (e1.trans e2)
    unfold cellF at this
    rw [if_pos hb'] at this
    exact this
  · have hb' : ¬ k < ns.length := by
      have := of_decide_eq_false hb
      rwa [List.length_map] at this
    refine s_ret (ev_call (ea_cons ev_c ea_nil) sv__law_stir) (fun H2 e2 => ?_)
    have := q H2 (e1.trans e2)
    unfold cellF at this
    rw [if_neg hb'] at this
    exact this
end
end TB
/-! ## TbParse -/
/-! What a text writes, told by its pieces: the law's reader and the program's read alike. -/
namespace TB
open PySem PySem.Spec PyProof.Rows L2 Evl
/-! ### a bracket's text, and its first comma outside -/
def dw1 (c : Nat) : Int := (if c = 91 then 1 else 0) - (if c = 93 then 1 else 0)
def dep (u : W) : Int := (u.map dw1).sum
theorem dep_cons (c : Nat) (u : W) : dep (c :: u) = dw1 c + dep u := by
  unfold dep
  rw [List.map_cons, List.sum_cons]
theorem dep_app (u v : W) : dep (u ++ v) = dep u + dep v := by
  unfold dep
  rw [List.map_append, List.sum_append]
theorem dep_one (c : Nat) : dep [c] = dw1 c := by
  rw [dep_cons]
  show dw1 c + 0 = _
  omega
theorem dep_abc {c : Nat} (h : c = 97 ∨ c = 98 ∨ c = 99) : dw1 c = 0 := by rcases h with rfl | rfl | rfl <;> rfl
theorem tB_node (l r : Br) : tB (.node l r) = 91 :: (tB l ++ 44 :: (tB r ++ [93])) := by
  show ([91] ++ tB l ++ [44] ++ tB r ++ [93]) = _
  simp
theorem abc_l {l r : Br} (h : ABC (Br.node l r).letters) : ABC l.letters := fun c hc => h c (List.mem_append_left _ hc)
theorem abc_r {l r : Br} (h : ABC (Br.node l r).letters) : ABC r.letters := fun c hc => h c (List.mem_append_right _ hc)
theorem dep_tB : ∀ {t : Br}, ABC t.letters → dep (tB t) = 0
  | .leaf c, h => by
    show dep [c] = 0
    rw [dep_one, dep_abc (h c (by simp [Br.letters]))]
  | .node l r, h => by
    have h1 := dep_tB (abc_l h)
    have h2 := dep_tB (abc_r h)
    rw [tB_node, dep_cons, dep_app, dep_cons, dep_app, h1, h2, dep_one]
    rfl
theorem dep_node {l r : Br} (hl : ∀ i, 0 ≤ dep ((tB l).take i)) (hr : ∀ i, 0 ≤ dep ((tB r).take i)) {i : Nat} (hi : i + 1 < (tB (.node l r)).length) : 1 ≤ dep ((tB (.node l r)).take (i + 1)) := by
  rw [tB_node] at hi ⊢
  simp only [List.length_cons, List.length_append, List.length_nil] at hi
  rw [List.take_succ_cons, dep_cons, List.take_append, dep_app]
  have h1 := hl i
  have h2 : 0 ≤ dep ((44 :: (tB r ++ [93])).take (i - (tB l).length)) := by
    cases e : i - (tB l).length with
    | zero => exact Int.le_refl _
    | succ j =>
      rw [List.take_succ_cons, dep_cons, List.take_append_of_le_length (by omega)]
      have := hr j
      show 0 ≤ (0 : Int) + _
      omega
  show 1 ≤ (1 : Int) + _
  omega
theorem dep_take : ∀ {t : Br}, ABC t.letters → ∀ i, 0 ≤ dep ((tB t).take i)
  | t, h, 0 => by rw [List.take_zero]; exact Int.le_refl _
  | .leaf c, h, i + 1 => by
    rw [List.take_of_length_le (by show 1 ≤ i + 1; omega), dep_tB h]
    exact Int.le_refl _
  | .node l r, h, i + 1 => by
    rcases Nat.lt_or_ge (i + 1) (tB (.node l r)).length with hi | hi
    · have := dep_node (dep_take (abc_l h)) (dep_take (abc_r h)) hi
      omega
    · rw [List.take_of_length_le hi, dep_tB h]
      exact Int.le_refl _
/-- a comma outside of all brackets -/
def Fst (m : W) (i : Nat) : Prop := dep (m.take (i + 1)) = 0 ∧ m[i]? = some 44
theorem no_comma {t : Br} (h : ABC t.letters) {i : Nat} (hi : (tB t)[i]? = some 44) : dep ((tB t).take (i + 1)) ≠ 0 := by
  cases t with
  | leaf c =>
    have hc := h c (by simp [Br.letters])
    cases i with
    | zero =>
      have e : c = 44 := by simpa [tB] using hi
      rw [e] at hc
      omega
    | succ i => simp [tB] at hi
  | node l r =>
    have hlt := (List.getElem?_eq_some_iff.mp hi).1
    rcases Nat.lt_or_ge (i + 1) (tB (.node l r)).length with h1 | h1
    · have := dep_node (dep_take (abc_l h)) (dep_take (abc_r h)) h1
      omega
    · exfalso
      have e1 : (tB (.node l r))[i]? = some 93 := by
        have e2 : tB (.node l r) = (91 :: (tB l ++ 44 :: tB r)) ++ [93] := by rw [tB_node]; simp
        have e3 : i = (91 :: (tB l ++ 44 :: tB r)).length := by
          rw [e2, List.length_append] at hlt h1
          have : ([93] : W).length = 1 := rfl
          omega
        rw [e2, e3, List.getElem?_append_right (Nat.le_refl _), Nat.sub_self]
        rfl
      rw [e1] at hi
      cases hi
theorem fst_before {l : Br} {u : W} (h : ABC l.letters) {i : Nat} (hi : i < (tB l).length) : ¬ Fst (tB l ++ u) i := fun ⟨h1, h2⟩ => by
  rw [List.getElem?_append_left hi] at h2
  rw [List.take_append_of_le_length (by omega)] at h1
  exact no_comma h h2 h1
theorem fst_at {l : Br} {u : W} (h : ABC l.letters) : Fst (tB l ++ 44 :: u) (tB l).length := by
  refine ⟨?_, ?_⟩
  · rw [List.take_append, List.take_of_length_le (by omega), Nat.add_sub_cancel_left, dep_app, dep_tB h]
    rfl
  · rw [List.getElem?_append_right (Nat.le_refl _), Nat.sub_self]
    rfl
theorem fst_one {l : Br} {u : W} (h : ABC l.letters) {i : Nat} (hi : Fst (tB l ++ 44 :: u) i) (hb : ∀ j < i, ¬ Fst (tB l ++ 44 :: u) j) : i = (tB l).length := by
  rcases Nat.lt_trichotomy i (tB l).length with hlt | e | hgt
  · exact absurd hi (fst_before h hlt)
  · exact e
  · exact absurd (fst_at h) (hb _ hgt)
theorem fst_split {m : W} {i : Nat} (h : Fst m i) : m = m.take i ++ 44 :: m.drop (i + 1) ∧ i < m.length := by
  have hlt := (List.getElem?_eq_some_iff.mp h.2).1
  have h2 := h.2
  rw [List.getElem?_eq_getElem hlt] at h2
  refine ⟨?_, hlt⟩
  conv => lhs; rw [← List.take_append_drop i m, List.drop_eq_getElem_cons hlt, Option.some.inj h2]
theorem tB_shape {mid : W} {t : Br} (ha : ABC t.letters) (h : 91 :: (mid ++ [93]) = tB t) : ∃ l r, t = .node l r ∧ mid = tB l ++ 44 :: tB r ∧ ABC l.letters ∧ ABC r.letters := by
  cases t with
  | leaf c => simp [tB] at h
  | node l r =>
    refine ⟨l, r, rfl, ?_, abc_l ha, abc_r ha⟩
    rw [tB_node] at h
    have h1 := (List.cons.inj h).2
    have e : tB l ++ 44 :: (tB r ++ [93]) = (tB l ++ 44 :: tB r) ++ [93] := by simp
    rw [e] at h1
    exact List.append_cancel_right h1
theorem tB_one {c : Nat} {t : Br} (ha : ABC t.letters) (h : [c] = tB t) : t = .leaf c ∧ (c = 97 ∨ c = 98 ∨ c = 99) := by
  cases t with
  | leaf d =>
    have e : c = d := by simpa [tB] using h
    rw [e]
    exact ⟨rfl, ha d (by simp [Br.letters])⟩
  | node l r =>
    rw [tB_node] at h
    have := congrArg List.length h
    simp at this
/-- w is some bracket's text -/
def IsB (w : W) : Prop := ∃ t : Br, ABC t.letters ∧ w = tB t
theorem isB_mid {mid : W} (h : IsB (91 :: (mid ++ [93]))) : ∃ l r, mid = tB l ++ 44 :: tB r ∧ ABC l.letters ∧ ABC r.letters ∧ ∃ i < mid.length, Fst mid i := by
  obtain ⟨t, ha, ht⟩ := h
  obtain ⟨l, r, rfl, hm, hl, hr⟩ := tB_shape ha ht
  refine ⟨l, r, hm, hl, hr, (tB l).length, ?_, ?_⟩
  · rw [hm, List.length_append, List.length_cons]; omega
  · rw [hm]; exact fst_at hl
theorem isB_parts {mid : W} {i : Nat} (h : IsB (91 :: (mid ++ [93]))) (hi : Fst mid i) (hb : ∀ j < i, ¬ Fst mid j) : IsB (mid.take i) ∧ IsB (mid.drop (i + 1)) := by
  obtain ⟨l, r, hm, hl, hr, _⟩ := isB_mid h
  rw [hm] at hi hb ⊢
  have e := fst_one hl hi hb
  refine ⟨⟨l, hl, ?_⟩, ⟨r, hr, ?_⟩⟩
  · rw [e, List.take_left']
    rfl
  · rw [e]
    have : tB l ++ 44 :: tB r = (tB l ++ [44]) ++ tB r := by simp
    rw [this, List.drop_left' (by simp)]
theorem isB_join {mid : W} {i : Nat} {l r : Br} (hi : Fst mid i) (h1 : mid.take i = tB l) (h2 : mid.drop (i + 1) = tB r) : 91 :: (mid ++ [93]) = tB (.node l r) := by
  have e := (fst_split hi).1
  rw [h1, h2] at e
  rw [tB_node, e]
  simp
/-- the ends of a text with more than one sign -/
theorem mid_of {w : W} (h1 : w.length ≠ 1) (h2 : w.take 1 = [91]) (h3 : w.drop (w.length - 1) = [93]) : ∃ mid, w = 91 :: (mid ++ [93]) := by
  cases w with
  | nil => cases h2
  | cons c u =>
    have e : c = 91 := by simpa using h2
    have hu : u ≠ [] := fun e => h1 (by rw [e]; rfl)
    refine ⟨u.dropLast, ?_⟩
    have hp := List.length_pos_iff.mpr hu
    have e2 : (c :: u).drop ((c :: u).length - 1) = u.drop (u.length - 1) := by
      have : (c :: u).length - 1 = (u.length - 1) + 1 := by rw [List.length_cons]; omega
      rw [this, List.drop_succ_cons]
    rw [e2] at h3
    rw [e, ← h3, List.dropLast_eq_take, List.take_append_drop]
theorem not_isB {w : W} (h1 : w.length ≠ 1) (h : ¬ (w.take 1 = [91] ∧ w.drop (w.length - 1) = [93])) : ¬ IsB w := fun ⟨t, ha, e⟩ => by
  cases t with
  | leaf c => exact h1 (by rw [e]; rfl)
  | node l r =>
    refine h ?_
    have e2 : tB (.node l r) = (91 :: (tB l ++ 44 :: tB r)) ++ [93] := by rw [tB_node]; simp
    rw [e, e2]
    refine ⟨by simp, ?_⟩
    rw [List.drop_left']
    rw [List.length_append]
    show _ = _ + 1 - 1
    omega
/-! ### a tuple's text -/
def isS (c : Nat) : Bool := decide (c = 43) || decide (c = 45)
theorem isS_iff {c : Nat} : isS c = true ↔ c = 43 ∨ c = 45 := by
  unfold isS
  rw [Bool.or_eq_true, decide_eq_true_iff, decide_eq_true_iff]
theorem isS_no {c : Nat} (h : c ≠ 43 ∧ c ≠ 45) : isS c = false := Bool.eq_false_iff.mpr fun e => by
  rcases isS_iff.mp e with e | e
  · exact h.1 e
  · exact h.2 e
def valT (c : Nat) (ds : W) : Int := if c = 45 then 0 - (NumText.digitsVal ds : Int) else (NumText.digitsVal ds : Int)
structure TokR (p : W) (x : Int × Br) : Prop where
  ex : ∃ c ds, p = c :: (ds ++ tB x.2) ∧ (c = 43 ∨ c = 45) ∧ NumText.AllDigits ds ∧ okNum (decide (c = 45)) ds = true ∧ x.1 = valT c ds
  abc : ABC x.2.letters
  wt : x.2.wt ≤ 8
theorem rdB_full : ∀ {d : Nat} {x u : W} {t : Br}, rdB d x = some (t, u) → x = tB t ++ u
  | 0, _, _, _, h => by cases h
  | _ + 1, [], _, _, h => by cases h
  | d + 1, c :: y, u, t, h => by
    rw [rdB] at h
    by_cases hc : c = 97 ∨ c = 98 ∨ c = 99
    · rw [if_pos hc] at h
      cases h
      rfl
    · rw [if_neg hc] at h
      obtain ⟨u1, h1, h⟩ := Option.bind_eq_some_iff.mp h
      obtain ⟨p, h2, h⟩ := Option.bind_eq_some_iff.mp h
      obtain ⟨u3, h3, h⟩ := Option.bind_eq_some_iff.mp h
      obtain ⟨q, h4, h⟩ := Option.bind_eq_some_iff.mp h
      obtain ⟨u5, h5, h⟩ := Option.bind_eq_some_iff.mp h
      cases h
      have ea := rdB_full (t := p.1) (u := p.2) h2
      have eb := rdB_full (t := q.1) (u := q.2) h4
      rw [sg_suf h1, ea, sg_suf h3, eb, sg_suf h5, tB_node]
      simp
theorem rdC_full {x u : W} {c : Int} (h : rdC x = some (c, u)) : ∃ s ds, x = s :: (ds ++ u) ∧ (s = 43 ∨ s = 45) ∧ NumText.AllDigits ds ∧ okNum (decide (s = 45)) ds = true ∧ c = valT s ds := by
  cases x with
  | nil => cases h
  | cons s y =>
    by_cases h1 : s = 43 ∨ s = 45
    · rw [rdC, if_pos h1] at h
      by_cases h2 : okNum (decide (s = 45)) (digs y) = true
      · rw [if_pos h2] at h
        cases h
        refine ⟨s, digs y, ?_, h1, digs_all y, h2, rfl⟩
        unfold digs
        rw [List.takeWhile_append_dropWhile]
      · rw [if_neg h2] at h
        cases h
    · rw [rdC, if_neg h1] at h
      cases h
theorem tok_one {p : W} {x : Int × Br} (h : TokR p x) (u : W) : rdOne (p ++ u) = some (x.1, x.2, u) := by
  obtain ⟨c, ds, rfl, hc, hd, ho, hv⟩ := h.ex
  unfold rdOne
  have e : c :: (ds ++ tB x.2) ++ u = c :: (ds ++ (tB x.2 ++ u)) := by simp
  obtain ⟨d1, d2⟩ := digs_app hd (tB_head h.abc u)
  rw [e, rdC, if_pos hc, d1, d2, if_pos ho, Option.bind_some, rdB_back u h.abc (by have := x.2.depth_lt; have := h.wt; omega), Option.bind_some, hv]
  rfl
theorem one_tok {w u : W} {c : Int} {t : Br} (h : rdOne w = some (c, t, u)) (hw : t.wt ≤ 8) : ∃ p, w = p ++ u ∧ TokR p (c, t) := by
  unfold rdOne at h
  obtain ⟨⟨c', u1⟩, h1, h⟩ := Option.bind_eq_some_iff.mp h
  obtain ⟨⟨t', u2⟩, h2, h⟩ := Option.bind_eq_some_iff.mp h
  obtain ⟨rfl, rfl, rfl⟩ : c' = c ∧ t' = t ∧ u2 = u := by simpa using h
  obtain ⟨s, ds, e, hs, hd, ho, hv⟩ := rdC_full h1
  have e2 := rdB_full h2
  refine ⟨s :: (ds ++ tB t'), ?_, ⟨s, ds, rfl, hs, hd, ho, hv⟩, rdB_abc h2, hw⟩
  rw [e, show u1 = tB t' ++ u2 from e2]
  simp
theorem tB_mem : ∀ {t : Br} {z : Nat}, z ∈ tB t → z ∈ t.letters ∨ z = 91 ∨ z = 44 ∨ z = 93
  | .leaf c, z, h => .inl h
  | .node l r, z, h => by
    rw [tB_node] at h
    rcases List.mem_cons.mp h with h | h
    · exact .inr (.inl h)
    · rcases List.mem_append.mp h with h | h
      · rcases tB_mem h with h | h
        · exact .inl (List.mem_append_left _ h)
        · exact .inr h
      · rcases List.mem_cons.mp h with h | h
        · exact .inr (.inr (.inl h))
        · rcases List.mem_append.mp h with h | h
          · rcases tB_mem h with h | h
            · exact .inl (List.mem_append_right _ h)
            · exact .inr h
          · exact .inr (.inr (.inr (List.mem_singleton.mp h)))
theorem tok_signs {p : W} {x : Int × Br} (h : TokR p x) : ∃ c q, p = c :: q ∧ isS c = true ∧ ∀ z ∈ q, isS z = false := by
  obtain ⟨c, ds, rfl, hc, hd, _⟩ := h.ex
  refine ⟨c, _, rfl, isS_iff.mpr hc, fun z hz => isS_no ?_⟩
  rcases List.mem_append.mp hz with hz | hz
  · have := hd z hz
    omega
  · rcases tB_mem hz with hz | hz
    · have := h.abc z hz
      omega
    · omega
/-! ### the pieces, one after the other -/
theorem rdC_head {z : Nat} {y : W} (h : isS z = false) : rdC (z :: y) = none := by
  rw [rdC, if_neg fun hc => by rw [isS_iff.mpr hc] at h; cases h]
theorem rdL_head {z : Nat} {y : W} (h : isS z = false) : ∀ n, rdL n (z :: y) = none
  | 0 => rfl
  | n + 1 => by rw [rdL_succ]; unfold rdOne; rw [rdC_head h]; rfl
theorem rdL_nil : ∀ n, rdL n [] = none
  | 0 => rfl
  | n + 1 => rfl
theorem rdL_bad {p rest : W} (h1 : ∃ c q, p = c :: q ∧ ∀ z ∈ q, isS z = false) (h2 : ∀ z, rest.head? = some z → isS z = true) (h3 : ∀ x, ¬ TokR p x) (n : Nat) : rdL n (p ++ rest) = none := by
  cases n with
  | zero => rfl
  | succ n =>
    rw [rdL_succ]
    cases e : rdOne (p ++ rest) with
    | none => rfl
    | some y =>
      obtain ⟨c, t, u⟩ := y
      show (if 8 < t.wt then none else (rdM n u).map ((c, t) :: ·)) = none
      by_cases hw : 8 < t.wt
      · rw [if_pos hw]
      · rw [if_neg hw]
        obtain ⟨p', e2, tk⟩ := one_tok e (Nat.le_of_not_lt hw)
        obtain ⟨c1, q1, ep, hq⟩ := h1
        obtain ⟨c2, q2, ep', _, hq2⟩ := tok_signs tk
        have no : p ≠ p' := fun e => h3 _ (e ▸ tk)
        rcases List.append_eq_append_iff.mp e2 with ⟨a, e3, e4⟩ | ⟨a, e3, e4⟩
        · exfalso
          cases a with
          | nil => exact no (by rw [e3, List.append_nil])
          | cons z a =>
            have hz := h2 z (by rw [e4]; rfl)
            have : z ∈ q2 := by
              rw [ep', ep] at e3
              have := (List.cons.inj e3).2
              rw [this]
              exact List.mem_append_right _ List.mem_cons_self
            rw [hq2 z this] at hz
            cases hz
        · cases a with
          | nil => exact absurd (by rw [e3, List.append_nil]) no
          | cons z a =>
            have : z ∈ q1 := by
              rw [ep', ep] at e3
              have := (List.cons.inj e3).2
              rw [this]
              exact List.mem_append_right _ List.mem_cons_self
            have hz := hq z this
            have e5 : u = z :: (a ++ rest) := e4
            rw [e5]
            unfold rdM
            rw [if_neg (by simp), rdL_head hz]
            rfl
theorem rdL_ok {p : W} {x : Int × Br} (h : TokR p x) (rest : W) (n : Nat) : rdL (n + 1) (p ++ rest) = (rdM n rest).map (x :: ·) := by
  rw [rdL_succ, tok_one h rest, Option.bind_some]
  exact if_neg (Nat.not_lt.mpr h.wt)
/-- s told, rest left -/
def Told (w : W) (s : List (Int × Br)) (rest : W) : Prop := ∀ n, rdM n w = if s.length ≤ n then (rdM (n - s.length) rest).map (s ++ ·) else none
theorem Told.nil (w : W) : Told w [] w := fun n => by
  rw [if_pos (show ([] : List (Int × Br)).length ≤ n from Nat.zero_le _)]
  show rdM n w = (rdM n w).map (([] : List (Int × Br)) ++ ·)
  have : (([] : List (Int × Br)) ++ ·) = id := by funext x; rfl
  rw [this, Option.map_id]
  rfl
theorem Told.step {w p rest : W} {s : List (Int × Br)} {x : Int × Br} (h : Told w s (p ++ rest)) (hp : TokR p x) : Told w (s ++ [x]) rest := fun n => by
  obtain ⟨c, q, ep, _⟩ := tok_signs hp
  have hne : p ++ rest ≠ [] := by rw [ep]; simp
  rw [h n, List.length_append]
  show _ = if s.length + 1 ≤ n then _ else _
  by_cases h1 : s.length + 1 ≤ n
  · rw [if_pos h1, if_pos (by omega)]
    have e : n - s.length = (n - (s.length + 1)) + 1 := by omega
    unfold rdM
    rw [if_neg hne, e, rdL_ok hp, Option.map_map]
    show _ = Option.map ((s ++ [x]) ++ ·) (rdM (n - (s.length + 1)) rest)
    congr 1
    funext y
    simp
  · rw [if_neg h1]
    by_cases h2 : s.length ≤ n
    · rw [if_pos h2]
      have e : n - s.length = 0 := by omega
      unfold rdM
      rw [if_neg hne, e]
      rfl
    · rw [if_neg h2]
theorem Told.bad {w p rest : W} {s : List (Int × Br)} (h : Told w s (p ++ rest)) (h1 : ∃ c q, p = c :: q ∧ ∀ z ∈ q, isS z = false) (h2 : ∀ z, rest.head? = some z → isS z = true) (h3 : ∀ x, ¬ TokR p x) (n : Nat) : rdM n w = none := by
  obtain ⟨c, q, ep, _⟩ := id h1
  have hne : p ++ rest ≠ [] := by rw [ep]; simp
  rw [h n]
  unfold rdM
  rw [if_neg hne, rdL_bad h1 h2 h3]
  split <;> rfl
theorem Told.done {w : W} {s : List (Int × Br)} (h : Told w s []) (n : Nat) : rdM n w = if s.length ≤ n then some s else none := by
  rw [h n]
  unfold rdM
  rw [if_pos rfl]
  show (if s.length ≤ n then some (s ++ []) else none) = _
  rw [List.append_nil]
theorem rd_M {w : W} (h : w ≠ [48]) (h0 : w ≠ []) : rd w = rdM 12 w := by
  unfold rd rdM
  rw [if_neg h, if_neg h0]
theorem rd_start {w : W} (h : w ≠ [48]) (h0 : ∀ z, w.head? = some z → isS z = false) : rd w = none := by
  unfold rd
  rw [if_neg h]
  cases w with
  | nil => exact rdL_nil 12
  | cons z y => exact rdL_head (h0 z rfl) 12
/-! ### where the signs stand -/
theorem gap {f : Nat → Bool} : ∀ {n k : Nat}, k < ((List.range n).filter f).length → ∃ a b, ((List.range n).filter f)[k]? = some a ∧ ((List.range n).filter f ++ [n])[k + 1]? = some b ∧ a < b ∧ b ≤ n ∧ f a = true ∧ (b < n → f b = true) ∧ ∀ j, a < j → j < b → f j = false
  | 0, k, h => by simp at h
  | n + 1, k, h => by
    have ih := @gap f n
    rw [List.range_succ, List.filter_append] at h ⊢
    generalize hl : (List.range n).filter f = l at ih h ⊢
    cases hf : f n with
    | true =>
      have e : [n].filter f = [n] := by rw [List.filter_cons, hf]; rfl
      rw [e] at h ⊢
      rcases Nat.lt_or_ge k l.length with hk | hk
      · obtain ⟨a, b, h1, h2, h3, h4, h5, h6, h7⟩ := ih hk
        refine ⟨a, b, by rw [List.getElem?_append_left hk]; exact h1, ?_, h3, by omega, h5, fun hb => ?_, h7⟩
        · have hlt := (List.getElem?_eq_some_iff.mp h2).1
          rw [List.getElem?_append_left hlt]
          exact h2
        · rcases Nat.lt_or_ge b n with hb | hb
          · exact h6 hb
          · have : b = n := by omega
            rw [this]; exact hf
      · have hk : k = l.length := by rw [List.length_append] at h; have : ([n] : List Nat).length = 1 := rfl; omega
        subst hk
        refine ⟨n, n + 1, ?_, ?_, Nat.lt_succ_self _, Nat.le_refl _, hf, fun h => absurd h (Nat.lt_irrefl _), fun j h1 h2 => by omega⟩
        · rw [List.getElem?_append_right (Nat.le_refl _), Nat.sub_self]; rfl
        · rw [List.getElem?_append_right (by rw [List.length_append]; exact Nat.le_refl _), List.length_append]
          show ([n + 1] : List Nat)[l.length + 1 - (l.length + 1)]? = _
          rw [Nat.sub_self]; rfl
    | false =>
      have e : [n].filter f = [] := by rw [List.filter_cons, hf]; rfl
      rw [e, List.append_nil] at h ⊢
      obtain ⟨a, b, h1, h2, h3, h4, h5, h6, h7⟩ := ih h
      rcases Nat.lt_or_ge (k + 1) l.length with hk | hk
      · rw [List.getElem?_append_left hk] at h2
        refine ⟨a, b, h1, by rw [List.getElem?_append_left hk]; exact h2, h3, by omega, h5, fun hb => ?_, h7⟩
        rcases Nat.lt_or_ge b n with hb | hb
        · exact h6 hb
        · have hm : b ∈ List.filter f (List.range n) := hl ▸ List.mem_of_getElem? h2
          exact (List.mem_filter.mp hm).2
      · have hk : k + 1 = l.length := by omega
        rw [hk, List.getElem?_append_right (Nat.le_refl _), Nat.sub_self] at h2
        have eb : n = b := by simpa using h2
        subst eb
        refine ⟨a, n + 1, h1, ?_, by omega, Nat.le_refl _, h5, fun h => absurd h (Nat.lt_irrefl _), fun j j1 j2 => ?_⟩
        · rw [hk, List.getElem?_append_right (Nat.le_refl _), Nat.sub_self]; rfl
        · rcases Nat.lt_or_ge j n with hj | hj
          · exact h7 j j1 hj
          · have : j = n := by omega
            rw [this]; exact hf
theorem gap_0 {f : Nat → Bool} {n : Nat} (h : f 0 = true) (hn : 0 < n) : ((List.range n).filter f)[0]? = some 0 := by
  obtain ⟨m, rfl⟩ : ∃ m, n = m + 1 := ⟨n - 1, by omega⟩
  rw [List.range_succ_eq_map, List.filter_cons, h]
  rfl
def poss (w : W) : List Nat := (List.range w.length).filter fun i => isS (w.getD i 0)
theorem getD_at {w : W} {i : Nat} (h : i < w.length) : w.getD i 0 = w[i] := by
  rw [List.getD_eq_getElem?_getD, List.getElem?_eq_getElem h]
  rfl
theorem piece {w : W} {k : Nat} (hk : k < (poss w).length) : ∃ a b c q, (poss w)[k]? = some a ∧ (poss w ++ [w.length])[k + 1]? = some b ∧ a < b ∧ b ≤ w.length ∧ (w.drop a).take (b - a) = c :: q ∧ isS c = true ∧ (∀ z ∈ q, isS z = false) ∧ w.drop a = (c :: q) ++ w.drop b ∧ ∀ z, (w.drop b).head? = some z → isS z = true := by
  obtain ⟨a, b, h1, h2, h3, h4, h5, h6, h7⟩ := gap hk
  have ha : a < w.length := by omega
  rw [getD_at ha] at h5
  have e1 : (w.drop a).take (b - a) = w[a] :: (w.drop (a + 1)).take (b - a - 1) := by
    rw [List.drop_eq_getElem_cons ha]
    obtain ⟨m, hm⟩ : ∃ m, b - a = m + 1 := ⟨b - a - 1, by omega⟩
    rw [hm, List.take_succ_cons, Nat.add_sub_cancel]
  refine ⟨a, b, w[a], (w.drop (a + 1)).take (b - a - 1), h1, h2, h3, h4, e1, h5, fun z hz => ?_, ?_, fun z hz => ?_⟩
  · obtain ⟨i, hi, e⟩ := List.mem_iff_getElem.mp hz
    rw [List.length_take, List.length_drop] at hi
    rw [List.getElem_take, List.getElem_drop] at e
    have hj := h7 (a + 1 + i) (by omega) (by omega)
    rw [getD_at (by omega), e] at hj
    exact hj
  · rw [← e1]
    conv => lhs; rw [← List.take_append_drop (b - a) (w.drop a), List.drop_drop]
    rw [show a + (b - a) = b by omega]
  · rcases Nat.lt_or_ge b w.length with hb | hb
    · have h8 := h6 hb
      rw [getD_at hb] at h8
      rw [List.drop_eq_getElem_cons hb] at hz
      have e : w[b] = z := Option.some.inj hz
      rw [← e]; exact h8
    · rw [List.drop_eq_nil_of_le hb] at hz
      cases hz
theorem poss_0 {z : Nat} {y : W} (h : isS z = true) : (poss (z :: y))[0]? = some 0 := gap_0 h (Nat.succ_pos _)
theorem tok_inv {c : Nat} {q : W} {x : Int × Br} (h : TokR (c :: q) x) : q.dropWhile isDig = tB x.2 ∧ okNum (decide (c = 45)) (digs q) = true := by
  obtain ⟨c', ds, e, _, hd, ho, _⟩ := h.ex
  have e1 : c = c' := (List.cons.inj e).1
  have e2 : q = ds ++ tB x.2 := (List.cons.inj e).2
  obtain ⟨d1, d2⟩ := digs_app hd (by have := tB_head h.abc []; rwa [List.append_nil] at this)
  rw [e2, d1, d2, e1]
  exact ⟨rfl, ho⟩
theorem digs_split (q : W) : digs q ++ q.dropWhile isDig = q := List.takeWhile_append_dropWhile
theorem rd_ok : ∀ {n : Nat} {x : W} {s : List (Int × Br)}, rdL n x = some s → ∀ y ∈ s, y.2.wt ≤ 8 ∧ ABC y.2.letters
  | 0, _, _, h => by cases h
  | n + 1, x, s, h => by
    rw [rdL_succ] at h
    obtain ⟨⟨c, t, u⟩, h1, h⟩ := Option.bind_eq_some_iff.mp h
    by_cases hw : 8 < t.wt
    · rw [if_pos hw] at h; cases h
    · rw [if_neg hw] at h
      obtain ⟨r, h2, rfl⟩ := Option.map_eq_some_iff.mp h
      obtain ⟨p, _, tk⟩ := one_tok h1 (Nat.le_of_not_lt hw)
      intro y hy
      rcases List.mem_cons.mp hy with rfl | hy
      · exact ⟨tk.wt, tk.abc⟩
      · unfold rdM at h2
        by_cases hu : u = []
        · have h2 : (if u = [] then some [] else rdL n u) = some r := h2
          rw [if_pos hu] at h2
          cases h2
          cases hy
        · have h2 : (if u = [] then some [] else rdL n u) = some r := h2
          rw [if_neg hu] at h2
          exact rd_ok h2 y hy
theorem rd_fine {w : W} {s : List (Int × Br)} (h : rd w = some s) : ∀ y ∈ s, y.2.wt ≤ 8 ∧ ABC y.2.letters := by
  unfold rd at h
  by_cases hw : w = [48]
  · rw [if_pos hw] at h
    cases h
    intro y hy
    cases hy
  · rw [if_neg hw] at h
    exact rd_ok h
theorem rdL_short : ∀ {n : Nat} {x : W} {s : List (Int × Br)}, rdL n x = some s → s.length ≤ n
  | 0, _, _, h => by cases h
  | n + 1, x, s, h => by
    rw [rdL_succ] at h
    obtain ⟨⟨c, t, u⟩, h1, h⟩ := Option.bind_eq_some_iff.mp h
    by_cases hw : 8 < t.wt
    · rw [if_pos hw] at h; cases h
    · rw [if_neg hw] at h
      obtain ⟨r, h2, rfl⟩ := Option.map_eq_some_iff.mp h
      have h2 : (if u = [] then some [] else rdL n u) = some r := h2
      rw [List.length_cons]
      by_cases hu : u = []
      · rw [if_pos hu] at h2
        cases h2
        exact Nat.succ_le_succ (Nat.zero_le _)
      · rw [if_neg hu] at h2
        exact Nat.succ_le_succ (rdL_short h2)
theorem rd_short {w : W} {s : List (Int × Br)} (h : rd w = some s) : s.length ≤ 12 := by
  unfold rd at h
  by_cases hw : w = [48]
  · rw [if_pos hw] at h
    cases h
    exact Nat.zero_le _
  · rw [if_neg hw] at h
    exact rdL_short h
/-! ### letters counted -/
def isL (c : Nat) : Bool := decide (c = 97) || decide (c = 98) || decide (c = 99)
theorem isL_iff {c : Nat} : isL c = true ↔ c = 97 ∨ c = 98 ∨ c = 99 := by
  unfold isL
  rw [Bool.or_eq_true, Bool.or_eq_true, decide_eq_true_iff, decide_eq_true_iff, decide_eq_true_iff, or_assoc]
theorem tB_count : ∀ {t : Br}, ABC t.letters → ((tB t).filter isL).length = t.wt
  | .leaf c, h => by
    have : isL c = true := isL_iff.mpr (h c (by simp [Br.letters]))
    show ([c].filter isL).length = 1
    rw [List.filter_cons, this]
    rfl
  | .node l r, h => by
    have h1 := tB_count (abc_l h)
    have h2 := tB_count (abc_r h)
    rw [tB_node, List.filter_cons, List.filter_append, List.filter_cons, List.filter_append]
    show ((tB l).filter isL ++ ((tB r).filter isL ++ [])).length = l.wt + r.wt
    rw [List.append_nil, List.length_append, h1, h2]
theorem tok_count {c : Nat} {ds : W} {t : Br} (hc : c = 43 ∨ c = 45) (hd : NumText.AllDigits ds) (ha : ABC t.letters) : ((c :: (ds ++ tB t)).filter isL).length = t.wt := by
  have h1 : isL c = false := Bool.eq_false_iff.mpr fun h => by
    rcases isL_iff.mp h with h | h | h <;> omega
  have h2 : ds.filter isL = [] := List.filter_eq_nil_iff.mpr fun z hz h => by
    have := hd z hz
    rcases isL_iff.mp h with h | h | h <;> omega
  rw [List.filter_cons, h1]
  show ((ds ++ tB t).filter isL).length = _
  rw [List.filter_append, h2, List.nil_append, tB_count ha]
end TB
/-! ## TbParse2 -/
/-! Readings for the law's reader. -/
namespace TB
open PySem PySem.Spec PyProof.Rows L2 Evl
/-! slices from the end -/
theorem sIx_neg {n d : Nat} : HT.sIx n d (some (-1)) = n - 1 := by
  show (if (-1 : Int) < 0 then ((-1 : Int) + (n : Int)).toNat else min (-1 : Int).toNat n) = n - 1
  rw [if_pos (by decide)]
  omega
theorem cutS_last (w : W) : cutS (sOf w) (some (-1)) none = sOf (w.drop (w.length - 1)) := by
  unfold cutS
  rw [sOf_len, sOf_cps, sIx_neg, HT.sIx_none, List.take_of_length_le (by rw [List.length_drop]; omega)]
  rfl
theorem cutS_in {w : W} {k : Nat} (hk : k ≤ w.length) : cutS (sOf w) (some (k : Int)) (some (-1)) = sOf ((w.drop k).take (w.length - 1 - k)) := by
  unfold cutS
  rw [sOf_len, sOf_cps, sIx_neg, HT.sIx_nat, Nat.min_eq_left hk]
  rfl
theorem cut_front1 {mid : W} {i : Nat} (hi : i ≤ mid.length) : ((91 :: (mid ++ [93])).drop 1).take (1 + i - 1) = mid.take i := by
  rw [List.drop_succ_cons, List.drop_zero, Nat.add_sub_cancel_left, List.take_append_of_le_length hi]
theorem cut_back1 {mid : W} {i : Nat} (hi : i < mid.length) : ((91 :: (mid ++ [93])).drop (1 + i + 1)).take ((91 :: (mid ++ [93])).length - 1 - (1 + i + 1)) = mid.drop (i + 1) := by
  have e : 1 + i + 1 = (i + 1) + 1 := by omega
  rw [e, List.drop_succ_cons, List.drop_append_of_le_length (by omega), List.take_append_of_le_length, List.take_of_length_le]
  · rw [List.length_drop, List.length_cons, List.length_append, List.length_singleton]; omega
  · rw [List.length_drop, List.length_cons, List.length_append, List.length_singleton]; omega
section
variable {K : PySem.W.Frag} {σ : L2.St} {H H' : Hp} {ta tb te tl : TE} {t : TT} {x : V}
def rNon : R2 := fun x y H Q => y = .non ∧ Q (.bl (decide (x = .non))) H
theorem rv_isN : RV rNon x .non H (.bl (decide (x = .non))) := fun H1 _ Q q => ⟨rfl, q H1 (Ex.refl H1)⟩
theorem br_non {t : Br} {v : V} (h : BrAt K H v t) : decide (v = V.non) = false := by
  cases t with
  | leaf c =>
    have e : v = tx [c] := h
    rw [e]
    exact decide_eq_false (fun z => by cases z)
  | node l r =>
    obtain ⟨p, _, _, e, _⟩ := h
    rw [e]
    exact decide_eq_false (fun z => by cases z)
theorem er_if {b : Bool} {R : V → Hp → Prop} (h : EvT t σ H b) (h1 : b = true → Er ta σ H R) (h2 : b = false → Er tb σ H R) : Er (tIf t ta tb) σ H R := fun H1 e Q q => h H1 e _ fun H2 e2 => by
  cases b with
  | true =>
    show ta σ H2 Q
    exact h1 rfl H2 (e.trans e2) Q fun v H3 e3 hv => q v H3 (e2.trans e3) hv
  | false =>
    show tb σ H2 Q
    exact h2 rfl H2 (e.trans e2) Q fun v H3 e3 hv => q v H3 (e2.trans e3) hv
/-- a list that stands + a new one -/
theorem el_catV {a : Addr} {xs ys : List V} (h1 : Ev ta σ H (.ref a)) (ha : H a = some (.lst xs)) (h2 : EvL tb σ H ys) (hz : xs.length + ys.length ≤ 100000) : EvL (tOp rCat ta tb) σ H (xs ++ ys) := fun H1 e Q q =>
  h1 H1 e _ fun H2 e2 => h2 H2 (e.trans e2) _ fun p2 H3 hp2 e3 hy => ⟨a, p2, xs, ys, rfl, rfl, ((e.trans e2).trans e3) _ _ ha, hy, sz_of hz, fun l hl => q l _ (fresh_back (e2.trans e3) hl) ((e2.trans e3).trans (Ex.new hl)) upd_same⟩
/-- [.. for c in text if ..] -/
theorem el_lcStrF {w : W} {j : Nat} {vs : List Nat} (f : Nat → Bool) (v : Nat → V) (h : Ev tl σ H (tx w)) (hz : w.length ≤ 40000) (hw : ∀ x, wipe ((wipe σ vs).set j (some x)) vs = wipe σ vs)
    (ht : ∀ c H1, Ex H H1 → EvT t ((wipe σ vs).set j (some (tx [c]))) H1 (f c))
    (he : ∀ c H1, Ex H H1 → Ev te ((wipe σ vs).set j (some (tx [c]))) H1 (v c)) : EvL (tLc (iStr tl) (gName j) t te vs) σ H ((w.filter f).map v) := fun H0 e Q q => h H0 e _ fun H1 e1 => ⟨sOf w, rfl, fun Dl hD => by
  have hs : (sOf w).cps.size = w.length := by show w.toArray.size = _; rw [List.size_toArray]
  refine ⟨fun i m H' => i + m = w.length ∧ Ex H1 H' ∧ H' Dl = some (.lst (((w.take i).filter f).map v)), ⟨w.length, by omega, Ex.new hD, upd_same⟩, fun i m H' ⟨hm, e2, hl⟩ => ?_⟩
  by_cases hi : i < w.length
  · refine .inr ⟨by show i < (sOf w).cps.size; rw [hs]; exact hi, fun H2 => Ex H1 H2 ∧ H2 Dl = some (.lst (((w.take (i + 1)).filter f).map v)), fun H2 h2 => ⟨m - 1, by omega, by omega, h2⟩, fun x H2 hy => ?_⟩
    obtain ⟨rfl, c, hc, rfl⟩ := hy
    have hc' : w[i]? = some c := by
      have : (sOf w).cps = w.toArray := rfl
      rw [this] at hc
      simpa using hc
    refine ⟨hw _, ?_⟩
    refine ht c H2 ((e.trans e1).trans e2) H2 (Ex.refl _) _ fun H3 e3 => ?_
    rw [List.take_add_one, hc', List.filter_append]
    have e7 : (some c).toList.filter f = if f c = true then [c] else [] := by
      show [c].filter f = _
      rw [List.filter_cons]
      rfl
    rw [e7]
    cases hf : f c with
    | true =>
      show te ((wipe σ vs).set j (some (tx [c]))) H3 fun y H4 => _
      refine he c H3 (((e.trans e1).trans e2).trans e3) H3 (Ex.refl _) _ fun H4 e4 => ⟨_, (e3.trans e4) _ _ hl, sz_lt ?_, ((e2.trans e3).trans e4).mut hD, ?_⟩
      · rw [List.length_map]
        have := List.length_filter_le f (w.take i)
        rw [List.length_take] at this
        omega
      · rw [upd_same, if_pos rfl, List.map_append]
        rfl
    | false =>
      show Ex H1 H3 ∧ H3 Dl = _
      refine ⟨e2.trans e3, ?_⟩
      rw [if_neg (by decide), List.append_nil]
      exact e3 _ _ hl
  · have e3 : i = w.length := by omega
    subst e3
    rw [List.take_length] at hl
    exact .inl ⟨by show (sOf w).cps.size ≤ w.length; rw [hs]; exact Nat.le_refl _, q Dl H' (fresh_back e1 hD) (e1.trans e2) hl⟩⟩
end
theorem inV_sg (c : Nat) : inV (tx [c]) [tx [43], tx [45]] = isS c := by
  rw [show ([tx [43], tx [45]] : List V) = ([[43], [45]] : List W).map tx from rfl, inV_tx]
  rw [Bool.eq_iff_iff, decide_eq_true_iff, isS_iff]
  simp
section
variable {K : PySem.W.Frag} {σ : L2.St} {H H' : Hp} {ta tb te tl : TE}
theorem ev_lenNL {xs : List V} (h : EvL te σ H xs) : Ev (tCB (fun xs H Q => ∃ p ys, xs = [.ref p] ∧ (SqL K H p ys ∨ SqT K H p ys) ∧ Q (.int ys.length) H) (tCons te tNil)) σ H (.int (xs.length : Int)) := fun H1 e Q q =>
  h H1 e _ fun p H2 _ e2 hp => ⟨p, xs, rfl, .inl (sq_of hp), q H2 e2⟩
theorem rv_inABC {c : Nat} {z : Str} (hz : z = sOf [97, 98, 99]) : RV rInSg (tx [c]) (.str z) H (.bl (isL c)) := fun H1 _ Q q => ⟨c, z, rfl, rfl, by
  have e : decide (c ∈ z.cps.toList) = isL c := by
    rw [hz, sOf_cps]
    rw [Bool.eq_iff_iff, decide_eq_true_iff, isL_iff]
    simp only [List.mem_cons, List.not_mem_nil, or_false]
  rw [e]
  exact q H1 (Ex.refl _)⟩
end
/-- the law's look at a number's figures -/
theorem num_look (n : Bool) (c : Nat) : ∀ ds : W, (n || (decide (ds = []) || (decide ((ds.length : Int) > 30) || (decide (([ds.getD 0 0] : W) = [48]) && (!decide (ds = [48]) || decide (([c] : W) = [45])))))) = (n || !okNum (decide (c = 45)) ds)
  | [] => by cases n <;> rfl
  | [d] => by
    unfold okNum
    have e : decide (([c] : W) = [45]) = decide (c = 45) := by by_cases h : c = 45 <;> simp [h]
    rw [e, Bool.not_not]
    congr 1
    by_cases h : d = 48
    · subst h; cases decide (c = 45) <;> rfl
    · simp [h]
  | d :: d2 :: r => by
    unfold okNum
    rw [Bool.not_not]
    congr 1
    have e1 : decide ((d :: d2 :: r : W) = [48]) = false := decide_eq_false (by simp)
    have e2 : decide ((d :: d2 :: r : W) = []) = false := decide_eq_false (by simp)
    have e3 : decide ((d :: d2 :: r : W).length = 0) = false := decide_eq_false (by simp)
    have e4 : decide (1 < (d :: d2 :: r : W).length) = true := decide_eq_true (by simp)
    have e5 : decide (((d :: d2 :: r : W).length : Int) > 30) = decide (30 < (d :: d2 :: r : W).length) := by
      generalize (d :: d2 :: r : W).length = m
      by_cases h : 30 < m <;> simp [h] <;> omega
    have e6 : decide (([(d :: d2 :: r : W).getD 0 0] : W) = [48]) = decide ((d :: d2 :: r : W).head? = some 48) := by
      show decide (([d] : W) = [48]) = decide (some d = some 48)
      by_cases h : d = 48 <;> simp [h]
    rw [e1, e2, e3, e4, e5, e6]
    simp
/-! lists of whole numbers as data -/
def pdNs (ns : List Nat) : PyData := .list (ns.map fun n : Nat => .int (n : Int))
theorem dp_ns {K : PySem.W.Frag} {H : Hp} {a : Addr} {ns : List Nat} (h : SqL K H a (ns.map fun n : Nat => V.int (n : Int))) : Dp K H (.ref a) (pdNs ns) := .lst h (dpAll_at (by rw [List.length_map, List.length_map]) fun i y hy => by
  rw [List.getElem?_map] at hy
  obtain ⟨n, hn, rfl⟩ := Option.map_eq_some_iff.mp hy
  exact ⟨.int (n : Int), by rw [List.getElem?_map, hn]; rfl, .int _⟩)
theorem sh_ns (ns : List Nat) : SeqAt.shaped (pdNs ns) = true := sh_of (lay_lst fun d hd => by
  obtain ⟨n, _, rfl⟩ := List.mem_map.mp hd
  rfl) (by
  show (PyData.list _).depth ≤ 64
  rw [PyData.depth]
  have : PyData.depthAll (ns.map fun n : Nat => PyData.int (n : Int)) ≤ 0 := depth_all fun d hd => by
    obtain ⟨n, _, rfl⟩ := List.mem_map.mp hd
    have : (PyData.int (n : Int)).depth = 0 := by rw [PyData.depth]
    omega
  omega)
theorem eqv_ns0 (ns : List Nat) : PyData.eqv (pdNs ns) (.list []) = decide (ns = []) := by
  unfold pdNs
  rw [PyData.eqv]
  cases ns with
  | nil => rw [List.map_nil, PyData.eqvAll]; rfl
  | cons x r =>
    rw [List.map_cons, PyData.eqvAll, decide_eq_false (by simp)]
    all_goals simp
end TB
/-! ## TbD_law_k15 -/
namespace TB
open PySem PySem.Spec PyProof.Rows L2 Evl
section
variable {P : Program} {wd : World} {K : PySem.W.Frag} {mg : Str → Option Value} {base : Heap}
/-! the law of the refusals -/
def spLaw (K : PySem.W.Frag) : Sp := fun vs H Q _ => ∃ (a : Addr) (ns : List Int), vs = [.ref a] ∧ SqL K H a (ns.map V.int) ∧ ns.length ≤ 63 ∧ ∀ H', Q (.bl true) H'
section
variable {X : Cx}
/-- a suite read by cases on the error -/
theorem pss_ex {α : Type} {st : List Stmt} {ts : α → TS} {P : α → Prop} (h : ∀ m, P m → PSs X st (ts m)) : PSs X st (fun D σ H => ∃ m, P m ∧ ts m D σ H) := ⟨fun pins s σ H D I hw => by
  obtain ⟨m, hp, hw⟩ := hw
  exact (h m hp).run pins s σ H D I hw⟩
end
section
variable {σ : L2.St} {H : Hp}
theorem s_callS5 {sp : Sp} {E : L2.St → XK} {vs : List V} {tr : TA} {D : Ends} (h : EvA tr σ H vs) (k : ∀ H1, Ex H H1 → sp vs H1 (fun _ H' => D.nx σ H') (E σ)) : tDrop (tCallS sp E tr) D σ H := h H (Ex.refl H) _ k
end
/-- the suite behind except -/
def suite5 (K : PySem.W.Frag) (C : Nat → Addr) (a : Addr) (m : Nat) : TS :=
  tSeq (tAsg (tLst (tCons (tCB (rIsE K (C m) a) (tCons (tVar 3) (tCons (tC (.ref (C 0))) tNil))) (tCons (tCB (rIsE K (C m) a) (tCons (tVar 3) (tCons (tC (.ref (C 1))) tNil))) (tCons (tCB (rIsE K (C m) a) (tCons (tVar 3) (tCons (tC (.ref (C 2))) tNil))) (tCons (tCB (rIsE K (C m) a) (tCons (tVar 3) (tCons (tC (.ref (C 3))) tNil))) tNil))))) (gName 2))
    (tAsg (tOp rCat (tVar 2) (tLst (tCons (tCB (rIsE K (C m) a) (tCons (tVar 3) (tCons (tC (.ref (C 4))) tNil))) (tCons (tCB (rIsE K (C m) a) (tCons (tVar 3) (tCons (tC (.ty "ValueError")) tNil))) tNil)))) (gName 2))
def pdBs (bs : List Bool) : PyData := .list (bs.map .bool)
theorem dp_bs {H : Hp} {a : Addr} {bs : List Bool} (h : SqL K H a (bs.map V.bl)) : Dp K H (.ref a) (pdBs bs) := .lst h (dpAll_at (by rw [List.length_map, List.length_map]) fun i y hy => by
  rw [List.getElem?_map] at hy
  obtain ⟨n, hn, rfl⟩ := Option.map_eq_some_iff.mp hy
  exact ⟨.bool n, by rw [List.getElem?_map, hn]; rfl, .bl _⟩)
theorem lay_bs (bs : List Bool) : (pdBs bs).canLay0 = true := lay_lst fun d hd => by
  obtain ⟨n, _, rfl⟩ := List.mem_map.mp hd
  rfl
theorem sh_bs (bs : List Bool) : SeqAt.shaped (pdBs bs) = true := sh_of (lay_bs bs) (by
  show (PyData.list _).depth ≤ 64
  rw [PyData.depth]
  have : PyData.depthAll (bs.map PyData.bool) ≤ 0 := depth_all fun d hd => by
    obtain ⟨n, _, rfl⟩ := List.mem_map.mp hd
    have : (PyData.bool n).depth = 0 := by rw [PyData.depth]
    omega
  omega)
theorem ok_law (B : Blt mg) (D : DefAt K mg "law" s_law ["script"]) (D_cut : DefAt K mg "cut" s_cut ["word"]) (D_plain_bracket : DefAt K mg "plain_bracket" s_plain_bracket ["word"]) (D_is_plain : DefAt K mg "is_plain" s_is_plain ["word"]) (D_plain_words : DefAt K mg "plain_words" s_plain_words ["letters", "length"]) (D_ask_numbers : DefAt K mg "ask_numbers" s_ask_numbers ["letters", "length", "most"]) (D_how_many : DefAt K mg "how_many" s_how_many ["letters", "length"]) (D_mark_of : DefAt K mg "mark_of" s_mark_of ["number"]) (D_power_of : DefAt K mg "power_of" s_power_of ["number", "often"]) (D_gathered : DefAt K mg "gathered" s_gathered ["words"]) (D_plain_of : DefAt K mg "plain_of" s_plain_of ["counts"]) (D_counts_of : DefAt K mg "counts_of" s_counts_of ["bracket"]) (D_twisted : DefAt K mg "twisted" s_twisted ["one", "other"]) (D_times : DefAt K mg "times" s_times ["one", "other"]) (D_put_to : DefAt K mg "put_to" s_put_to ["counts", "word", "count"]) (D_by_length : DefAt K mg "by_length" s_by_length ["word"]) (D_bracket_of : DefAt K mg "bracket_of" s_bracket_of ["one", "other"]) (D_put_in : DefAt K mg "put_in" s_put_in ["total", "a", "b", "c"]) (D_ask_weights : DefAt K mg "ask_weights" s_ask_weights ["total", "sums"]) (D_letters_of : DefAt K mg "letters_of" s_letters_of ["bracket"]) (D_greatest : DefAt K mg "greatest" s_greatest ["total"]) (D_weight : DefAt K mg "weight" s_weight ["bracket"]) (D_filled : DefAt K mg "filled" s_filled ["bracket", "counts"]) (D_counts_of_sum : DefAt K mg "counts_of_sum" s_counts_of_sum ["total"]) (D_read : DefAt K mg "read" s_read ["text"]) (D_count_at : DefAt K mg "count_at" s_count_at ["text", "at"]) (D_bracket_at : DefAt K mg "bracket_at" s_bracket_at ["text", "at", "deep"]) (D_sign_at : DefAt K mg "sign_at" s_sign_at ["text", "at", "sign"]) (D__law_stir : DefAt K mg "_law_stir" s__law_stir ["cell"]) (D__law_cell : DefAt K mg "_law_cell" s__law_cell ["script", "k"]) (D__law_no_word : DefAt K mg "_law_no_word" s__law_no_word ["cell"]) (D__law_too_great : DefAt K mg "_law_too_great" s__law_too_great ["cell"]) (D__law_done : DefAt K mg "_law_done" s__law_done ["mode", "cell", "far"]) (EC_TwistError : ErrAt K mg "TwistError") (EC_NoWord : ErrAt K mg "NoWord") (EC_NoNumber : ErrAt K mg "NoNumber") (EC_NoSum : ErrAt K mg "NoSum") (EC_TooGreat : ErrAt K mg "TooGreat") (EC_NotRead : ErrAt K mg "NotRead") {t1 t2 t3 t4 t5 t6 t7 t8 : Tok} (c_LETTERS : mg "LETTERS" = some (.str "abc" t1)) (c_LONGEST_words : mg "LONGEST_words" = some (.int 8 t2)) (c_GREATEST_words : mg "GREATEST_words" = some (.int 60 t3)) (c_GREATEST_sums : mg "GREATEST_sums" = some (.int 8 t4)) (c_FIGURES : mg "FIGURES" = some (.str "0123456789" t5)) (c_LONGEST_notes : mg "LONGEST_notes" = some (.int 30 t6)) (c_GREATEST_notes : mg "GREATEST_notes" = some (.int 8 t7)) (c_MOST : mg "MOST" = some (.int 12 t8))
    (hU0 : PySem.W.subIn K (.ref EC_NoWord.C) (.ref EC_TwistError.C) = some true) (hU1 : PySem.W.subIn K (.ref EC_NoNumber.C) (.ref EC_TwistError.C) = some true) (hU2 : PySem.W.subIn K (.ref EC_NoSum.C) (.ref EC_TwistError.C) = some true) (hU3 : PySem.W.subIn K (.ref EC_TooGreat.C) (.ref EC_TwistError.C) = some true) (hU4 : PySem.W.subIn K (.ref EC_NotRead.C) (.ref EC_TwistError.C) = some true) (k00 : PySem.W.kitOne K (.ref EC_NoWord.C) (.ref EC_NoWord.C) = some true) (k01 : PySem.W.kitOne K (.ref EC_NoWord.C) (.ref EC_NoNumber.C) = some false) (k02 : PySem.W.kitOne K (.ref EC_NoWord.C) (.ref EC_NoSum.C) = some false) (k03 : PySem.W.kitOne K (.ref EC_NoWord.C) (.ref EC_TooGreat.C) = some false) (k04 : PySem.W.kitOne K (.ref EC_NoWord.C) (.ref EC_NotRead.C) = some false) (k10 : PySem.W.kitOne K (.ref EC_NoNumber.C) (.ref EC_NoWord.C) = some false) (k11 : PySem.W.kitOne K (.ref EC_NoNumber.C) (.ref EC_NoNumber.C) = some true) (k12 : PySem.W.kitOne K (.ref EC_NoNumber.C) (.ref EC_NoSum.C) = some false) (k13 : PySem.W.kitOne K (.ref EC_NoNumber.C) (.ref EC_TooGreat.C) = some false) (k14 : PySem.W.kitOne K (.ref EC_NoNumber.C) (.ref EC_NotRead.C) = some false) (k20 : PySem.W.kitOne K (.ref EC_NoSum.C) (.ref EC_NoWord.C) = some false) (k21 : PySem.W.kitOne K (.ref EC_NoSum.C) (.ref EC_NoNumber.C) = some false) (k22 : PySem.W.kitOne K (.ref EC_NoSum.C) (.ref EC_NoSum.C) = some true) (k23 : PySem.W.kitOne K (.ref EC_NoSum.C) (.ref EC_TooGreat.C) = some false) (k24 : PySem.W.kitOne K (.ref EC_NoSum.C) (.ref EC_NotRead.C) = some false) (k30 : PySem.W.kitOne K (.ref EC_TooGreat.C) (.ref EC_NoWord.C) = some false) (k31 : PySem.W.kitOne K (.ref EC_TooGreat.C) (.ref EC_NoNumber.C) = some false) (k32 : PySem.W.kitOne K (.ref EC_TooGreat.C) (.ref EC_NoSum.C) = some false) (k33 : PySem.W.kitOne K (.ref EC_TooGreat.C) (.ref EC_TooGreat.C) = some true) (k34 : PySem.W.kitOne K (.ref EC_TooGreat.C) (.ref EC_NotRead.C) = some false) (k40 : PySem.W.kitOne K (.ref EC_NotRead.C) (.ref EC_NoWord.C) = some false) (k41 : PySem.W.kitOne K (.ref EC_NotRead.C) (.ref EC_NoNumber.C) = some false) (k42 : PySem.W.kitOne K (.ref EC_NotRead.C) (.ref EC_NoSum.C) = some false) (k43 : PySem.W.kitOne K (.ref EC_NotRead.C) (.ref EC_TooGreat.C) = some false) (k44 : PySem.W.kitOne K (.ref EC_NotRead.C) (.ref EC_NotRead.C) = some true) (kv0 : PySem.W.kitOne K (.ref EC_NoWord.C) (.type "ValueError") = some true) (kv1 : PySem.W.kitOne K (.ref EC_NoNumber.C) (.type "ValueError") = some true) (kv2 : PySem.W.kitOne K (.ref EC_NoSum.C) (.type "ValueError") = some true) (kv3 : PySem.W.kitOne K (.ref EC_TooGreat.C) (.type "ValueError") = some true) (kv4 : PySem.W.kitOne K (.ref EC_NotRead.C) (.type "ValueError") = some true) :
    FnOk P wd K mg base CX0 60 D.f D.fd ["script"] (spLaw K) := by
  have G__law_cell := ok__law_cell (P := P) (wd := wd) (base := base) B D__law_cell D__law_stir
  have G__law_done := ok__law_done (P := P) (wd := wd) (base := base) B D__law_done D__law_no_word D__law_too_great D_cut D_plain_bracket D_is_plain D_plain_words D_ask_numbers D_how_many D_mark_of D_power_of D_gathered D_plain_of D_counts_of D_twisted D_times D_put_to D_by_length D_bracket_of D_put_in D_ask_weights D_letters_of D_greatest D_weight D_filled D_counts_of_sum D_read D_count_at D_bracket_at D_sign_at EC_NoWord EC_NoNumber EC_NoSum EC_TooGreat EC_NotRead c_LETTERS c_LONGEST_words c_GREATEST_words c_GREATEST_sums c_FIGURES c_LONGEST_notes c_GREATEST_notes c_MOST
  let C : Nat → Addr := Cm EC_NoWord.C EC_NoNumber.C EC_NoSum.C EC_TooGreat.C EC_NotRead.C
  have hx : ∀ m, ExcC K (C m) := fun m => match m with
    | 0 => EC_NoWord.ex
    | 1 => EC_NoNumber.ex
    | 2 => EC_NoSum.ex
    | 3 => EC_TooGreat.ex
    | _ + 4 => EC_NotRead.ex
  have hU : ∀ m, PySem.W.subIn K (.ref (C m)) (.ref EC_TwistError.C) = some true := fun m => match m with
    | 0 => hU0
    | 1 => hU1
    | 2 => hU2
    | 3 => hU3
    | _ + 4 => hU4
  have kv : ∀ m, PySem.W.kitOne K (.ref (C m)) (.type "ValueError") = some true := fun m => match m with
    | 0 => kv0
    | 1 => kv1
    | 2 => kv2
    | 3 => kv3
    | _ + 4 => kv4
  have kk0 : ∀ m, m < 5 → PySem.W.kitOne K (.ref (C m)) (.ref (C 0)) = some (decide (m = 0)) := fun m hm => match m, hm with
    | 0, _ => k00
    | 1, _ => k10
    | 2, _ => k20
    | 3, _ => k30
    | 4, _ => k40
    | _ + 5, h => absurd h (by omega)
  have kk1 : ∀ m, m < 5 → PySem.W.kitOne K (.ref (C m)) (.ref (C 1)) = some (decide (m = 1)) := fun m hm => match m, hm with
    | 0, _ => k01
    | 1, _ => k11
    | 2, _ => k21
    | 3, _ => k31
    | 4, _ => k41
    | _ + 5, h => absurd h (by omega)
  have kk2 : ∀ m, m < 5 → PySem.W.kitOne K (.ref (C m)) (.ref (C 2)) = some (decide (m = 2)) := fun m hm => match m, hm with
    | 0, _ => k02
    | 1, _ => k12
    | 2, _ => k22
    | 3, _ => k32
    | 4, _ => k42
    | _ + 5, h => absurd h (by omega)
  have kk3 : ∀ m, m < 5 → PySem.W.kitOne K (.ref (C m)) (.ref (C 3)) = some (decide (m = 3)) := fun m hm => match m, hm with
    | 0, _ => k03
    | 1, _ => k13
    | 2, _ => k23
    | 3, _ => k33
    | 4, _ => k43
    | _ + 5, h => absurd h (by omega)
  have kk4 : ∀ m, m < 5 → PySem.W.kitOne K (.ref (C m)) (.ref (C 4)) = some (decide (m = 4)) := fun m hm => match m, hm with
    | 0, _ => k04
    | 1, _ => k14
    | 2, _ => k24
    | 3, _ => k34
    | 4, _ => k44
    | _ + 5, h => absurd h (by omega)
  refine D.F.ok sc_law (fun vs H Q E h => ?_) (fun cdv A outer st H vs Q E hr h => ?_)
  · obtain ⟨a, ns, rfl, _⟩ := h
    rfl
  obtain ⟨a, ns, rfl, hs, h63, q⟩ := h
  have hu := hu_of hr
  refine ⟨_, (pss_cons (ps_set (i := 1) sc_law.nd rfl (by first | exact .inl rfl | exact .inr rfl) (pe_op op_mod (cl D__law_cell G__law_cell hr (pa_cons (pv 0) (pa_cons pe_int pa_nil))) pe_int))
    (pss_cons (ps_set (i := 2) sc_law.nd rfl (by first | exact .inl rfl | exact .inr rfl) (pe_lst pa_nil))
    (pss_cons (ps_try_as (i := 3) (tb := fun W => tDrop (tCallS (sp__law_done C) (WE W) (tCons (tVar 1) (tCons (tOp (rI (fun _ j => 0 < j) fun i j => .int (i % j)) (tCall (sp__law_cell K) [] E0 (tCons (tVar 0) (tCons (tC (.int 1)) tNil))) (tC (.int 900))) (tCons (tOp (rI (fun _ j => 0 < j) fun i j => .int (i % j)) (tCall (sp__law_cell K) [] E0 (tCons (tVar 0) (tCons (tC (.int 2)) tNil))) (tOp (rI CPow fun i j => .int (i ^ j.toNat)) (tC (.int 10)) (tC (.int 12)))) tNil)))))
      (ts := fun a cls d => fun D σ H => ∃ m : Nat, (m < 5 ∧ cls = .ref (C m) ∧ d = none) ∧ suite5 K C a m D σ H)
      (Wout := fun _ _ _ _ => False) rfl rfl sc_law.nd rfl rfl ⟨rfl, by decide, .inl EC_TwistError.gm⟩ takes0
      (fun W pn xe tk _ => by
        refine pss_one (ps_expr (clS D__law_done G__law_done hr tk ?_))
        exact pa_cons (pv 1) (pa_cons (pe_op op_mod (cl D__law_cell G__law_cell hr (pa_cons (pv 0) (pa_cons pe_int pa_nil))) pe_int) (pa_cons (pe_op op_mod (cl D__law_cell G__law_cell hr (pa_cons (pv 0) (pa_cons pe_int pa_nil))) (pe_op op_pow pe_int pe_int)) pa_nil)))
      (fun a oe cls d pn hz hf => pss_ex fun m hP => by
        obtain ⟨_, rfl, rfl⟩ := hP
        exact (pss_cons (ps_set (i := 2) sc_law.nd rfl (by first | exact .inl rfl | exact .inr rfl) (pe_lst (pa_cons (pe_callB (call_isE (hx m) hz hf) (by rfl) B.isinstance (by decide +kernel) (pa_cons (pv 3) (pa_cons (pe_glob (by rfl) EC_NoWord.gm rfl) pa_nil))) (pa_cons (pe_callB (call_isE (hx m) hz hf) (by rfl) B.isinstance (by decide +kernel) (pa_cons (pv 3) (pa_cons (pe_glob (by rfl) EC_NoNumber.gm rfl) pa_nil))) (pa_cons (pe_callB (call_isE (hx m) hz hf) (by rfl) B.isinstance (by decide +kernel) (pa_cons (pv 3) (pa_cons (pe_glob (by rfl) EC_NoSum.gm rfl) pa_nil))) (pa_cons (pe_callB (call_isE (hx m) hz hf) (by rfl) B.isinstance (by decide +kernel) (pa_cons (pv 3) (pa_cons (pe_glob (by rfl) EC_TooGreat.gm rfl) pa_nil))) pa_nil))))))
      (pss_one (ps_set (i := 2) sc_law.nd rfl (by first | exact .inl rfl | exact .inr rfl) (pe_op op_cat (pv 2) (pe_lst (pa_cons (pe_callB (call_isE (hx m) hz hf) (by rfl) B.isinstance (by decide +kernel) (pa_cons (pv 3) (pa_cons (pe_glob (by rfl) EC_NotRead.gm rfl) pa_nil))) (pa_cons (pe_callB (call_isE (hx m) hz hf) (by rfl) B.isinstance (by decide +kernel) (pa_cons (pv 3) (pa_cons (pe_bltn (v := .ty "ValueError") (by rfl) B.ValueError (by decide +kernel) rfl) pa_nil))) pa_nil)))))))))
    (pss_one (ps_ret (pe_cmpR (op_eqD hr.units) (pv 2) (pe_op op_cat (pe_lc (own := [("k", 4)]) rfl sc_law.nd (pi_range1 (by rfl) B.range (pa_cons pe_int pa_nil)) (blkOk_by (N := ["script", "mode", "flags", "e", "k"]) (sc := defScope s_law) (by decide +kernel)) (fun _ _ _ _ _ => (pg_name (i := 4) sc_law.nd rfl (by first | exact .inl rfl | exact .inr rfl))) (fun _ _ _ _ _ => pts_nil) (fun _ _ _ _ _ => (pe_cmpR op_eq (pv 4) (pv 1) (nomark _)))) (pe_lst (pa_cons pe_bl pa_nil))) (nomark _))))))), ?_⟩
  have cell : ∀ {σ : L2.St} {H1 : Hp} {j : Int}, σ[0]? = some (some (.ref a)) → Ex H H1 → 0 ≤ j → Ev (tCall (sp__law_cell K) [] E0 (tCons (tVar 0) (tCons (tC (.int j)) tNil))) σ H1 (.int (cellF ns j)) := fun h0 e hj => ev_call (ea_cons (ev_var h0) (ea_cons ev_c ea_nil)) (sv__law_cell (ex_l e hs) hj)
  obtain ⟨m, hm, hm5⟩ : ∃ m : Nat, cellF ns 0 % 5 = (m : Int) ∧ m < 5 := by
    have h0 := Int.emod_nonneg (cellF ns 0) (show (5 : Int) ≠ 0 by decide)
    have h1 := Int.emod_lt_of_pos (cellF ns 0) (show (0 : Int) < 5 by decide)
    exact ⟨(cellF ns 0 % 5).toNat, by omega, by omega⟩
  refine q_asg (v := .int (m : Int)) (ev_is (ev_op (cell rfl (Ex.refl _) (by decide)) ev_c (rv_I (by decide))) (by rw [hm])) (fun H1 e1 => ?_)
  refine q_asgL (xs := []) (el_lst ea_nil (by show 0 ≤ 100000; decide)) (fun p2 H2 np2 e2 hp2 => ?_)
  have e12 := e1.trans e2
  have f0 := Int.emod_nonneg (cellF ns 2) (show (10 ^ 12 : Int) ≠ 0 by decide)
  have f1 := Int.emod_lt_of_pos (cellF ns 2) (show (0 : Int) < 10 ^ 12 by decide)
  refine s_callS5 (vs := [.int (m : Int), .int (cellF ns 1 % 900), .int (cellF ns 2 % 10 ^ 12)]) (ea_cons (ev_var rfl) (ea_cons (ev_op (cell rfl e12 (by decide)) ev_c (rv_I (by decide))) (ea_cons (ev_op (cell rfl e12 (by decide)) (ev_op ev_c ev_c (rv_I ⟨by decide, by decide, by decide⟩)) (rv_I (by decide))) ea_nil))) (fun H3 e3 => ⟨m, _, _, rfl, hm5, f0, f1, fun H4 e4 => ?_⟩)
  refine ⟨true, exm_up EC_TwistError (hU m), fun _ a' na => ⟨m, ⟨hm5, rfl, rfl⟩, ?_⟩, fun z => nomatch z⟩
  refine q_asgL (xs := [.bl (decide (m = 0)), .bl (decide (m = 1)), .bl (decide (m = 2)), .bl (decide (m = 3))]) (el_lst (ea_cons (ev_isE (ev_var rfl) ev_c rel_ref (kk0 m hm5)) (ea_cons (ev_isE (ev_var rfl) ev_c rel_ref (kk1 m hm5)) (ea_cons (ev_isE (ev_var rfl) ev_c rel_ref (kk2 m hm5)) (ea_cons (ev_isE (ev_var rfl) ev_c rel_ref (kk3 m hm5)) ea_nil)))) (by show 4 ≤ 100000; decide)) (fun p5 H5 np5 e5 hp5 => ?_)
  refine s_asgL (xs := [.bl (decide (m = 0)), .bl (decide (m = 1)), .bl (decide (m = 2)), .bl (decide (m = 3))] ++ [.bl (decide (m = 4)), .bl true]) (el_catV (ev_var rfl) hp5 (el_lst (ea_cons (ev_isE (ev_var rfl) ev_c rel_ref (kk4 m hm5)) (ea_cons (ev_isE (ev_var rfl) ev_c rel_ty (kv m)) ea_nil)) (by show 2 ≤ 100000; decide)) (by show 4 + 2 ≤ 100000; decide)) (fun p6 H6 np6 e6 hp6 => ?_)
  have same : PyData.eqv (pdBs [decide (m = 0), decide (m = 1), decide (m = 2), decide (m = 3), decide (m = 4), true]) (pdBs [decide (m = 0), decide (m = 1), decide (m = 2), decide (m = 3), decide (m = 4), true]) = true := PySem.SeqAt.eqv_refl _ (lay_bs _)
  have dci : ∀ i : Nat, decide ((i : Int) = (m : Int)) = decide (m = i) := fun i => by
    by_cases h : m = i
    · subst h; simp
    · rw [decide_eq_false h, decide_eq_false (by omega)]
  refine s_ret (v := .bl true) (ev_is (ev_opL (ev_var rfl) (el_is (ys := [decide (m = 0), decide (m = 1), decide (m = 2), decide (m = 3), decide (m = 4), true].map V.bl) (el_cat (el_is (ys := [decide (m = 0), decide (m = 1), decide (m = 2), decide (m = 3), decide (m = 4)].map V.bl) (el_lcR1 (n := 5) (fun _ => true) (fun i => .bl (decide (m = i))) (ea_cons ev_c ea_nil) (by omega) (fun x => rfl) (fun i H7 e7 hi => et_yes) (fun i H7 e7 hi _ => ev_is (ev_op (ev_var rfl) (ev_var rfl) rv_eqI) (by rw [dci]))) (by rw [given_all]; rfl)) (el_lst (ea_cons ev_c ea_nil) (by show 1 ≤ 100000; decide)) (by show 5 + 1 ≤ 100000; decide)) rfl) (fun p H7 hp7 e7 => rv_eqD (dp_bs (K := K) (bs := [decide (m = 0), decide (m = 1), decide (m = 2), decide (m = 3), decide (m = 4), true]) (sq_of (e7 _ _ hp6))) (dp_bs (K := K) (bs := [decide (m = 0), decide (m = 1), decide (m = 2), decide (m = 3), decide (m = 4), true]) (sq_of hp7)) (sh_bs _) (sh_bs _))) (by rw [same])) (fun H7 e7 => q H7)
end
end TB
/-! ## TbFin -/
namespace TB
open PySem PySem.Spec PyProof.Rows L2
/-! what the top has written, and the law's own head -/
theorem all_mk {l : PySem.W.OpenLaw} {w : World} {K : PySem.W.Frag} {h : Heap} {mg : Str → Option Value} {fa : Addr} (X : K.In h) (G : h.Ns mainGlobals mg) (hfa : mg "law" = some (.ref fa))
    {fu_law : Addr} {odu_law anu_law : Option Addr} {slu_law : Array (Option Value)} {ocu_law kVu_law dcu_law pmu_law cdu_law ctu_law : Value} {fu_cut : Addr} {odu_cut anu_cut : Option Addr} {slu_cut : Array (Option Value)} {ocu_cut kVu_cut dcu_cut pmu_cut cdu_cut ctu_cut : Value} {fu_plain_bracket : Addr} {odu_plain_bracket anu_plain_bracket : Option Addr} {slu_plain_bracket : Array (Option Value)} {ocu_plain_bracket kVu_plain_bracket dcu_plain_bracket pmu_plain_bracket cdu_plain_bracket ctu_plain_bracket : Value} {fu_is_plain : Addr} {odu_is_plain anu_is_plain : Option Addr} {slu_is_plain : Array (Option Value)} {ocu_is_plain kVu_is_plain dcu_is_plain pmu_is_plain cdu_is_plain ctu_is_plain : Value} {fu_plain_words : Addr} {odu_plain_words anu_plain_words : Option Addr} {slu_plain_words : Array (Option Value)} {ocu_plain_words kVu_plain_words dcu_plain_words pmu_plain_words cdu_plain_words ctu_plain_words : Value} {fu_ask_numbers : Addr} {odu_ask_numbers anu_ask_numbers : Option Addr} {slu_ask_numbers : Array (Option Value)} {ocu_ask_numbers kVu_ask_numbers dcu_ask_numbers pmu_ask_numbers cdu_ask_numbers ctu_ask_numbers : Value} {fu_how_many : Addr} {odu_how_many anu_how_many : Option Addr} {slu_how_many : Array (Option Value)} {ocu_how_many kVu_how_many dcu_how_many pmu_how_many cdu_how_many ctu_how_many : Value} {fu_mark_of : Addr} {odu_mark_of anu_mark_of : Option Addr} {slu_mark_of : Array (Option Value)} {ocu_mark_of kVu_mark_of dcu_mark_of pmu_mark_of cdu_mark_of ctu_mark_of : Value} {fu_power_of : Addr} {odu_power_of anu_power_of : Option Addr} {slu_power_of : Array (Option Value)} {ocu_power_of kVu_power_of dcu_power_of pmu_power_of cdu_power_of ctu_power_of : Value} {fu_gathered : Addr} {odu_gathered anu_gathered : Option Addr} {slu_gathered : Array (Option Value)} {ocu_gathered kVu_gathered dcu_gathered pmu_gathered cdu_gathered ctu_gathered : Value} {fu_plain_of : Addr} {odu_plain_of anu_plain_of : Option Addr} {slu_plain_of : Array (Option Value)} {ocu_plain_of kVu_plain_of dcu_plain_of pmu_plain_of cdu_plain_of ctu_plain_of : Value} {fu_counts_of : Addr} {odu_counts_of anu_counts_of : Option Addr} {slu_counts_of : Array (Option Value)} {ocu_counts_of kVu_counts_of dcu_counts_of pmu_counts_of cdu_counts_of ctu_counts_of : Value} {fu_twisted : Addr} {odu_twisted anu_twisted : Option Addr} {slu_twisted : Array (Option Value)} {ocu_twisted kVu_twisted dcu_twisted pmu_twisted cdu_twisted ctu_twisted : Value} {fu_times : Addr} {odu_times anu_times : Option Addr} {slu_times : Array (Option Value)} {ocu_times kVu_times dcu_times pmu_times cdu_times ctu_times : Value} {fu_put_to : Addr} {odu_put_to anu_put_to : Option Addr} {slu_put_to : Array (Option Value)} {ocu_put_to kVu_put_to dcu_put_to pmu_put_to cdu_put_to ctu_put_to : Value} {fu_by_length : Addr} {odu_by_length anu_by_length : Option Addr} {slu_by_length : Array (Option Value)} {ocu_by_length kVu_by_length dcu_by_length pmu_by_length cdu_by_length ctu_by_length : Value} {fu_bracket_of : Addr} {odu_bracket_of anu_bracket_of : Option Addr} {slu_bracket_of : Array (Option Value)} {ocu_bracket_of kVu_bracket_of dcu_bracket_of pmu_bracket_of cdu_bracket_of ctu_bracket_of : Value} {fu_put_in : Addr} {odu_put_in anu_put_in : Option Addr} {slu_put_in : Array (Option Value)} {ocu_put_in kVu_put_in dcu_put_in pmu_put_in cdu_put_in ctu_put_in : Value} {fu_ask_weights : Addr} {odu_ask_weights anu_ask_weights : Option Addr} {slu_ask_weights : Array (Option Value)} {ocu_ask_weights kVu_ask_weights dcu_ask_weights pmu_ask_weights cdu_ask_weights ctu_ask_weights : Value} {fu_letters_of : Addr} {odu_letters_of anu_letters_of : Option Addr} {slu_letters_of : Array (Option Value)} {ocu_letters_of kVu_letters_of dcu_letters_of pmu_letters_of cdu_letters_of ctu_letters_of : Value} {fu_greatest : Addr} {odu_greatest anu_greatest : Option Addr} {slu_greatest : Array (Option Value)} {ocu_greatest kVu_greatest dcu_greatest pmu_greatest cdu_greatest ctu_greatest : Value} {fu_weight : Addr} {odu_weight anu_weight : Option Addr} {slu_weight : Array (Option Value)} {ocu_weight kVu_weight dcu_weight pmu_weight cdu_weight ctu_weight : Value} {fu_filled : Addr} {odu_filled anu_filled : Option Addr} {slu_filled : Array (Option Value)} {ocu_filled kVu_filled dcu_filled pmu_filled cdu_filled ctu_filled : Value} {fu_counts_of_sum : Addr} {odu_counts_of_sum anu_counts_of_sum : Option Addr} {slu_counts_of_sum : Array (Option Value)} {ocu_counts_of_sum kVu_counts_of_sum dcu_counts_of_sum pmu_counts_of_sum cdu_counts_of_sum ctu_counts_of_sum : Value} {fu_read : Addr} {odu_read anu_read : Option Addr} {slu_read : Array (Option Value)} {ocu_read kVu_read dcu_read pmu_read cdu_read ctu_read : Value} {fu_count_at : Addr} {odu_count_at anu_count_at : Option Addr} {slu_count_at : Array (Option Value)} {ocu_count_at kVu_count_at dcu_count_at pmu_count_at cdu_count_at ctu_count_at : Value} {fu_bracket_at : Addr} {odu_bracket_at anu_bracket_at : Option Addr} {slu_bracket_at : Array (Option Value)} {ocu_bracket_at kVu_bracket_at dcu_bracket_at pmu_bracket_at cdu_bracket_at ctu_bracket_at : Value} {fu_sign_at : Addr} {odu_sign_at anu_sign_at : Option Addr} {slu_sign_at : Array (Option Value)} {ocu_sign_at kVu_sign_at dcu_sign_at pmu_sign_at cdu_sign_at ctu_sign_at : Value} {fu__law_stir : Addr} {odu__law_stir anu__law_stir : Option Addr} {slu__law_stir : Array (Option Value)} {ocu__law_stir kVu__law_stir dcu__law_stir pmu__law_stir cdu__law_stir ctu__law_stir : Value} {fu__law_cell : Addr} {odu__law_cell anu__law_cell : Option Addr} {slu__law_cell : Array (Option Value)} {ocu__law_cell kVu__law_cell dcu__law_cell pmu__law_cell cdu__law_cell ctu__law_cell : Value} {fu__law_no_word : Addr} {odu__law_no_word anu__law_no_word : Option Addr} {slu__law_no_word : Array (Option Value)} {ocu__law_no_word kVu__law_no_word dcu__law_no_word pmu__law_no_word cdu__law_no_word ctu__law_no_word : Value} {fu__law_too_great : Addr} {odu__law_too_great anu__law_too_great : Option Addr} {slu__law_too_great : Array (Option Value)} {ocu__law_too_great kVu__law_too_great dcu__law_too_great pmu__law_too_great cdu__law_too_great ctu__law_too_great : Value} {fu__law_done : Addr} {odu__law_done anu__law_done : Option Addr} {slu__law_done : Array (Option Value)} {ocu__law_done kVu__law_done dcu__law_done pmu__law_done cdu__law_done ctu__law_done : Value} {C_TwistError : Addr} {C_NoWord : Addr} {C_NoNumber : Addr} {C_NoSum : Addr} {C_TooGreat : Addr} {C_NotRead : Addr} {t1 : Tok} {t2 : Tok} {t3 : Tok} {t4 : Tok} {t5 : Tok} {t6 : Tok} {t7 : Tok} {t8 : Tok}
    (z_len : PySem.W.nsIn K mainGlobals "len" = some none)
    (z_isinstance : PySem.W.nsIn K mainGlobals "isinstance" = some none)
    (z_str : PySem.W.nsIn K mainGlobals "str" = some none)
    (z_int : PySem.W.nsIn K mainGlobals "int" = some none)
    (z_bool : PySem.W.nsIn K mainGlobals "bool" = some none)
    (z_list : PySem.W.nsIn K mainGlobals "list" = some none)
    (z_tuple : PySem.W.nsIn K mainGlobals "tuple" = some none)
    (z_dict : PySem.W.nsIn K mainGlobals "dict" = some none)
    (z_set : PySem.W.nsIn K mainGlobals "set" = some none)
    (z_sorted : PySem.W.nsIn K mainGlobals "sorted" = some none)
    (z_min : PySem.W.nsIn K mainGlobals "min" = some none)
    (z_max : PySem.W.nsIn K mainGlobals "max" = some none)
    (z_sum : PySem.W.nsIn K mainGlobals "sum" = some none)
    (z_abs : PySem.W.nsIn K mainGlobals "abs" = some none)
    (z_all : PySem.W.nsIn K mainGlobals "all" = some none)
    (z_range : PySem.W.nsIn K mainGlobals "range" = some none)
    (z_zip : PySem.W.nsIn K mainGlobals "zip" = some none)
    (z_enumerate : PySem.W.nsIn K mainGlobals "enumerate" = some none)
    (z_reversed : PySem.W.nsIn K mainGlobals "reversed" = some none)
    (z_ValueError : PySem.W.nsIn K mainGlobals "ValueError" = some none)
    (au_law : PySem.W.nsIn K mainGlobals "law" = some (some (.ref fu_law)))
    (lu_law : K.lookup fu_law = some ⟨ocu_law, odu_law, .func (PySem.W.fnOf "law" "law" (defArgs s_law) (defBody s_law) (defScope s_law) .none kVu_law dcu_law pmu_law anu_law cdu_law ctu_law), slu_law⟩)
    (cu_law : PySem.W.codeIn K cdu_law "law" = true)
    (ku_law : PySem.W.keepIn K (.ref fu_law) = true)
    (au_cut : PySem.W.nsIn K mainGlobals "cut" = some (some (.ref fu_cut)))
    (lu_cut : K.lookup fu_cut = some ⟨ocu_cut, odu_cut, .func (PySem.W.fnOf "cut" "cut" (defArgs s_cut) (defBody s_cut) (defScope s_cut) .none kVu_cut dcu_cut pmu_cut anu_cut cdu_cut ctu_cut), slu_cut⟩)
    (cu_cut : PySem.W.codeIn K cdu_cut "cut" = true)
    (ku_cut : PySem.W.keepIn K (.ref fu_cut) = true)
    (au_plain_bracket : PySem.W.nsIn K mainGlobals "plain_bracket" = some (some (.ref fu_plain_bracket)))
    (lu_plain_bracket : K.lookup fu_plain_bracket = some ⟨ocu_plain_bracket, odu_plain_bracket, .func (PySem.W.fnOf "plain_bracket" "plain_bracket" (defArgs s_plain_bracket) (defBody s_plain_bracket) (defScope s_plain_bracket) .none kVu_plain_bracket dcu_plain_bracket pmu_plain_bracket anu_plain_bracket cdu_plain_bracket ctu_plain_bracket), slu_plain_bracket⟩)
    (cu_plain_bracket : PySem.W.codeIn K cdu_plain_bracket "plain_bracket" = true)
    (ku_plain_bracket : PySem.W.keepIn K (.ref fu_plain_bracket) = true)
    (au_is_plain : PySem.W.nsIn K mainGlobals "is_plain" = some (some (.ref fu_is_plain)))
    (lu_is_plain : K.lookup fu_is_plain = some ⟨ocu_is_plain, odu_is_plain, .func (PySem.W.fnOf "is_plain" "is_plain" (defArgs s_is_plain) (defBody s_is_plain) (defScope s_is_plain) .none kVu_is_plain dcu_is_plain pmu_is_plain anu_is_plain cdu_is_plain ctu_is_plain), slu_is_plain⟩)
    (cu_is_plain : PySem.W.codeIn K cdu_is_plain "is_plain" = true)
    (ku_is_plain : PySem.W.keepIn K (.ref fu_is_plain) = true)
    (au_plain_words : PySem.W.nsIn K mainGlobals "plain_words" = some (some (.ref fu_plain_words)))
    (lu_plain_words : K.lookup fu_plain_words = some ⟨ocu_plain_words, odu_plain_words, .func (PySem.W.fnOf "plain_words" "plain_words" (defArgs s_plain_words) (defBody s_plain_words) (defScope s_plain_words) .none kVu_plain_words dcu_plain_words pmu_plain_words anu_plain_words cdu_plain_words ctu_plain_words), slu_plain_words⟩)
    (cu_plain_words : PySem.W.codeIn K cdu_plain_words "plain_words" = true)
    (ku_plain_words : PySem.W.keepIn K (.ref fu_plain_words) = true)
    (au_ask_numbers : PySem.W.nsIn K mainGlobals "ask_numbers" = some (some (.ref fu_ask_numbers)))
    (lu_ask_numbers : K.lookup fu_ask_numbers = some ⟨ocu_ask_numbers, odu_ask_numbers, .func (PySem.W.fnOf "ask_numbers" "ask_numbers" (defArgs s_ask_numbers) (defBody s_ask_numbers) (defScope s_ask_numbers) .none kVu_ask_numbers dcu_ask_numbers pmu_ask_numbers anu_ask_numbers cdu_ask_numbers ctu_ask_numbers), slu_ask_numbers⟩)
    (cu_ask_numbers : PySem.W.codeIn K cdu_ask_numbers "ask_numbers" = true)
    (ku_ask_numbers : PySem.W.keepIn K (.ref fu_ask_numbers) = true)
    (au_how_many : PySem.W.nsIn K mainGlobals "how_many" = some (some (.ref fu_how_many)))
    (lu_how_many : K.lookup fu_how_many = some ⟨ocu_how_many, odu_how_many, .func (PySem.W.fnOf "how_many" "how_many" (defArgs s_how_many) (defBody s_how_many) (defScope s_how_many) .none kVu_how_many dcu_how_many pmu_how_many anu_how_many cdu_how_many ctu_how_many), slu_how_many⟩)
    (cu_how_many : PySem.W.codeIn K cdu_how_many "how_many" = true)
    (ku_how_many : PySem.W.keepIn K (.ref fu_how_many) = true)
    (au_mark_of : PySem.W.nsIn K mainGlobals "mark_of" = some (some (.ref fu_mark_of)))
    (lu_mark_of : K.lookup fu_mark_of = some ⟨ocu_mark_of, odu_mark_of, .func (PySem.W.fnOf "mark_of" "mark_of" (defArgs s_mark_of) (defBody s_mark_of) (defScope s_mark_of) .none kVu_mark_of dcu_mark_of pmu_mark_of anu_mark_of cdu_mark_of ctu_mark_of), slu_mark_of⟩)
    (cu_mark_of : PySem.W.codeIn K cdu_mark_of "mark_of" = true)
    (ku_mark_of : PySem.W.keepIn K (.ref fu_mark_of) = true)
    (au_power_of : PySem.W.nsIn K mainGlobals "power_of" = some (some (.ref fu_power_of)))
    (lu_power_of : K.lookup fu_power_of = some ⟨ocu_power_of, odu_power_of, .func (PySem.W.fnOf "power_of" "power_of" (defArgs s_power_of) (defBody s_power_of) (defScope s_power_of) .none kVu_power_of dcu_power_of pmu_power_of anu_power_of cdu_power_of ctu_power_of), slu_power_of⟩)
    (cu_power_of : PySem.W.codeIn K cdu_power_of "power_of" = true)
    (ku_power_of : PySem.W.keepIn K (.ref fu_power_of) = true)
    (au_gathered : PySem.W.nsIn K mainGlobals "gathered" = some (some (.ref fu_gathered)))
    (lu_gathered : K.lookup fu_gathered = some ⟨ocu_gathered, odu_gathered, .func (PySem.W.fnOf "gathered" "gathered" (defArgs s_gathered) (defBody s_gathered) (defScope s_gathered) .none kVu_gathered dcu_gathered pmu_gathered anu_gathered cdu_gathered ctu_gathered), slu_gathered⟩)
    (cu_gathered : PySem.W.codeIn K cdu_gathered "gathered" = true)
    (ku_gathered : PySem.W.keepIn K (.ref fu_gathered) = true)
    (au_plain_of : PySem.W.nsIn K mainGlobals "plain_of" = some (some (.ref fu_plain_of)))
    (lu_plain_of : K.lookup fu_plain_of = some ⟨ocu_plain_of, odu_plain_of, .func (PySem.W.fnOf "plain_of" "plain_of" (defArgs s_plain_of) (defBody s_plain_of) (defScope s_plain_of) .none kVu_plain_of dcu_plain_of pmu_plain_of anu_plain_of cdu_plain_of ctu_plain_of), slu_plain_of⟩)
    (cu_plain_of : PySem.W.codeIn K cdu_plain_of "plain_of" = true)
    (ku_plain_of : PySem.W.keepIn K (.ref fu_plain_of) = true)
    (au_counts_of : PySem.W.nsIn K mainGlobals "counts_of" = some (some (.ref fu_counts_of)))
    (lu_counts_of : K.lookup fu_counts_of = some ⟨ocu_counts_of, odu_counts_of, .func (PySem.W.fnOf "counts_of" "counts_of" (defArgs s_counts_of) (defBody s_counts_of) (defScope s_counts_of) .none kVu_counts_of dcu_counts_of pmu_counts_of anu_counts_of cdu_counts_of ctu_counts_of), slu_counts_of⟩)
    (cu_counts_of : PySem.W.codeIn K cdu_counts_of "counts_of" = true)
    (ku_counts_of : PySem.W.keepIn K (.ref fu_counts_of) = true)
    (au_twisted : PySem.W.nsIn K mainGlobals "twisted" = some (some (.ref fu_twisted)))
    (lu_twisted : K.lookup fu_twisted = some ⟨ocu_twisted, odu_twisted, .func (PySem.W.fnOf "twisted" "twisted" (defArgs s_twisted) (defBody s_twisted) (defScope s_twisted) .none kVu_twisted dcu_twisted pmu_twisted anu_twisted cdu_twisted ctu_twisted), slu_twisted⟩)
    (cu_twisted : PySem.W.codeIn K cdu_twisted "twisted" = true)
    (ku_twisted : PySem.W.keepIn K (.ref fu_twisted) = true)
    (au_times : PySem.W.nsIn K mainGlobals "times" = some (some (.ref fu_times)))
    (lu_times : K.lookup fu_times = some ⟨ocu_times, odu_times, .func (PySem.W.fnOf "times" "times" (defArgs s_times) (defBody s_times) (defScope s_times) .none kVu_times dcu_times pmu_times anu_times cdu_times ctu_times), slu_times⟩)
    (cu_times : PySem.W.codeIn K cdu_times "times" = true)
    (ku_times : PySem.W.keepIn K (.ref fu_times) = true)
    (au_put_to : PySem.W.nsIn K mainGlobals "put_to" = some (some (.ref fu_put_to)))
    (lu_put_to : K.lookup fu_put_to = some ⟨ocu_put_to, odu_put_to, .func (PySem.W.fnOf "put_to" "put_to" (defArgs s_put_to) (defBody s_put_to) (defScope s_put_to) .none kVu_put_to dcu_put_to pmu_put_to anu_put_to cdu_put_to ctu_put_to), slu_put_to⟩)
    (cu_put_to : PySem.W.codeIn K cdu_put_to "put_to" = true)
    (ku_put_to : PySem.W.keepIn K (.ref fu_put_to) = true)
    (au_by_length : PySem.W.nsIn K mainGlobals "by_length" = some (some (.ref fu_by_length)))
    (lu_by_length : K.lookup fu_by_length = some ⟨ocu_by_length, odu_by_length, .func (PySem.W.fnOf "by_length" "by_length" (defArgs s_by_length) (defBody s_by_length) (defScope s_by_length) .none kVu_by_length dcu_by_length pmu_by_length anu_by_length cdu_by_length ctu_by_length), slu_by_length⟩)
    (cu_by_length : PySem.W.codeIn K cdu_by_length "by_length" = true)
    (ku_by_length : PySem.W.keepIn K (.ref fu_by_length) = true)
    (au_bracket_of : PySem.W.nsIn K mainGlobals "bracket_of" = some (some (.ref fu_bracket_of)))
    (lu_bracket_of : K.lookup fu_bracket_of = some ⟨ocu_bracket_of, odu_bracket_of, .func (PySem.W.fnOf "bracket_of" "bracket_of" (defArgs s_bracket_of) (defBody s_bracket_of) (defScope s_bracket_of) .none kVu_bracket_of dcu_bracket_of pmu_bracket_of anu_bracket_of cdu_bracket_of ctu_bracket_of), slu_bracket_of⟩)
    (cu_bracket_of : PySem.W.codeIn K cdu_bracket_of "bracket_of" = true)
    (ku_bracket_of : PySem.W.keepIn K (.ref fu_bracket_of) = true)
    (au_put_in : PySem.W.nsIn K mainGlobals "put_in" = some (some (.ref fu_put_in)))
    (lu_put_in : K.lookup fu_put_in = some ⟨ocu_put_in, odu_put_in, .func (PySem.W.fnOf "put_in" "put_in" (defArgs s_put_in) (defBody s_put_in) (defScope s_put_in) .none kVu_put_in dcu_put_in pmu_put_in anu_put_in cdu_put_in ctu_put_in), slu_put_in⟩)
    (cu_put_in : PySem.W.codeIn K cdu_put_in "put_in" = true)
    (ku_put_in : PySem.W.keepIn K (.ref fu_put_in) = true)
    (au_ask_weights : PySem.W.nsIn K mainGlobals "ask_weights" = some (some (.ref fu_ask_weights)))
    (lu_ask_weights : K.lookup fu_ask_weights = some ⟨ocu_ask_weights, odu_ask_weights, .func (PySem.W.fnOf "ask_weights" "ask_weights" (defArgs s_ask_weights) (defBody s_ask_weights) (defScope s_ask_weights) .none kVu_ask_weights dcu_ask_weights pmu_ask_weights anu_ask_weights cdu_ask_weights ctu_ask_weights), slu_ask_weights⟩)
    (cu_ask_weights : PySem.W.codeIn K cdu_ask_weights "ask_weights" = true)
    (ku_ask_weights : PySem.W.keepIn K (.ref fu_ask_weights) = true)
    (au_letters_of : PySem.W.nsIn K mainGlobals "letters_of" = some (some (.ref fu_letters_of)))
    (lu_letters_of : K.lookup fu_letters_of = some ⟨ocu_letters_of, odu_letters_of, .func (PySem.W.fnOf "letters_of" "letters_of" (defArgs s_letters_of) (defBody s_letters_of) (defScope s_letters_of) .none kVu_letters_of dcu_letters_of pmu_letters_of anu_letters_of cdu_letters_of ctu_letters_of), slu_letters_of⟩)
    (cu_letters_of : PySem.W.codeIn K cdu_letters_of "letters_of" = true)
    (ku_letters_of : PySem.W.keepIn K (.ref fu_letters_of) = true)
    (au_greatest : PySem.W.nsIn K mainGlobals "greatest" = some (some (.ref fu_greatest)))
    (lu_greatest : K.lookup fu_greatest = some ⟨ocu_greatest, odu_greatest, .func (PySem.W.fnOf "greatest" "greatest" (defArgs s_greatest) (defBody s_greatest) (defScope s_greatest) .none kVu_greatest dcu_greatest pmu_greatest anu_greatest cdu_greatest ctu_greatest), slu_greatest⟩)
    (cu_greatest : PySem.W.codeIn K cdu_greatest "greatest" = true)
    (ku_greatest : PySem.W.keepIn K (.ref fu_greatest) = true)
    (au_weight : PySem.W.nsIn K mainGlobals "weight" = some (some (.ref fu_weight)))
    (lu_weight : K.lookup fu_weight = some ⟨ocu_weight, odu_weight, .func (PySem.W.fnOf "weight" "weight" (defArgs s_weight) (defBody s_weight) (defScope s_weight) .none kVu_weight dcu_weight pmu_weight anu_weight cdu_weight ctu_weight), slu_weight⟩)
    (cu_weight : PySem.W.codeIn K cdu_weight "weight" = true)
    (ku_weight : PySem.W.keepIn K (.ref fu_weight) = true)
    (au_filled : PySem.W.nsIn K mainGlobals "filled" = some (some (.ref fu_filled)))
    (lu_filled : K.lookup fu_filled = some ⟨ocu_filled, odu_filled, .func (PySem.W.fnOf "filled" "filled" (defArgs s_filled) (defBody s_filled) (defScope s_filled) .none kVu_filled dcu_filled pmu_filled anu_filled cdu_filled ctu_filled), slu_filled⟩)
    (cu_filled : PySem.W.codeIn K cdu_filled "filled" = true)
    (ku_filled : PySem.W.keepIn K (.ref fu_filled) = true)
    (au_counts_of_sum : PySem.W.nsIn K mainGlobals "counts_of_sum" = some (some (.ref fu_counts_of_sum)))
    (lu_counts_of_sum : K.lookup fu_counts_of_sum = some ⟨ocu_counts_of_sum, odu_counts_of_sum, .func (PySem.W.fnOf "counts_of_sum" "counts_of_sum" (defArgs s_counts_of_sum) (defBody s_counts_of_sum) (defScope s_counts_of_sum) .none kVu_counts_of_sum dcu_counts_of_sum pmu_counts_of_sum anu_counts_of_sum cdu_counts_of_sum ctu_counts_of_sum), slu_counts_of_sum⟩)
    (cu_counts_of_sum : PySem.W.codeIn K cdu_counts_of_sum "counts_of_sum" = true)
    (ku_counts_of_sum : PySem.W.keepIn K (.ref fu_counts_of_sum) = true)
    (au_read : PySem.W.nsIn K mainGlobals "read" = some (some (.ref fu_read)))
    (lu_read : K.lookup fu_read = some ⟨ocu_read, odu_read, .func (PySem.W.fnOf "read" "read" (defArgs s_read) (defBody s_read) (defScope s_read) .none kVu_read dcu_read pmu_read anu_read cdu_read ctu_read), slu_read⟩)
    (cu_read : PySem.W.codeIn K cdu_read "read" = true)
    (ku_read : PySem.W.keepIn K (.ref fu_read) = true)
    (au_count_at : PySem.W.nsIn K mainGlobals "count_at" = some (some (.ref fu_count_at)))
    (lu_count_at : K.lookup fu_count_at = some ⟨ocu_count_at, odu_count_at, .func (PySem.W.fnOf "count_at" "count_at" (defArgs s_count_at) (defBody s_count_at) (defScope s_count_at) .none kVu_count_at dcu_count_at pmu_count_at anu_count_at cdu_count_at ctu_count_at), slu_count_at⟩)
    (cu_count_at : PySem.W.codeIn K cdu_count_at "count_at" = true)
    (ku_count_at : PySem.W.keepIn K (.ref fu_count_at) = true)
    (au_bracket_at : PySem.W.nsIn K mainGlobals "bracket_at" = some (some (.ref fu_bracket_at)))
    (lu_bracket_at : K.lookup fu_bracket_at = some ⟨ocu_bracket_at, odu_bracket_at, .func (PySem.W.fnOf "bracket_at" "bracket_at" (defArgs s_bracket_at) (defBody s_bracket_at) (defScope s_bracket_at) .none kVu_bracket_at dcu_bracket_at pmu_bracket_at anu_bracket_at cdu_bracket_at ctu_bracket_at), slu_bracket_at⟩)
    (cu_bracket_at : PySem.W.codeIn K cdu_bracket_at "bracket_at" = true)
    (ku_bracket_at : PySem.W.keepIn K (.ref fu_bracket_at) = true)
    (au_sign_at : PySem.W.nsIn K mainGlobals "sign_at" = some (some (.ref fu_sign_at)))
    (lu_sign_at : K.lookup fu_sign_at = some ⟨ocu_sign_at, odu_sign_at, .func (PySem.W.fnOf "sign_at" "sign_at" (defArgs s_sign_at) (defBody s_sign_at) (defScope s_sign_at) .none kVu_sign_at dcu_sign_at pmu_sign_at anu_sign_at cdu_sign_at ctu_sign_at), slu_sign_at⟩)
    (cu_sign_at : PySem.W.codeIn K cdu_sign_at "sign_at" = true)
    (ku_sign_at : PySem.W.keepIn K (.ref fu_sign_at) = true)
    (au__law_stir : PySem.W.nsIn K mainGlobals "_law_stir" = some (some (.ref fu__law_stir)))
    (lu__law_stir : K.lookup fu__law_stir = some ⟨ocu__law_stir, odu__law_stir, .func (PySem.W.fnOf "_law_stir" "_law_stir" (defArgs s__law_stir) (defBody s__law_stir) (defScope s__law_stir) .none kVu__law_stir dcu__law_stir pmu__law_stir anu__law_stir cdu__law_stir ctu__law_stir), slu__law_stir⟩)
    (cu__law_stir : PySem.W.codeIn K cdu__law_stir "_law_stir" = true)
    (ku__law_stir : PySem.W.keepIn K (.ref fu__law_stir) = true)
    (au__law_cell : PySem.W.nsIn K mainGlobals "_law_cell" = some (some (.ref fu__law_cell)))
    (lu__law_cell : K.lookup fu__law_cell = some ⟨ocu__law_cell, odu__law_cell, .func (PySem.W.fnOf "_law_cell" "_law_cell" (defArgs s__law_cell) (defBody s__law_cell) (defScope s__law_cell) .none kVu__law_cell dcu__law_cell pmu__law_cell anu__law_cell cdu__law_cell ctu__law_cell), slu__law_cell⟩)
    (cu__law_cell : PySem.W.codeIn K cdu__law_cell "_law_cell" = true)
    (ku__law_cell : PySem.W.keepIn K (.ref fu__law_cell) = true)
    (au__law_no_word : PySem.W.nsIn K mainGlobals "_law_no_word" = some (some (.ref fu__law_no_word)))
    (lu__law_no_word : K.lookup fu__law_no_word = some ⟨ocu__law_no_word, odu__law_no_word, .func (PySem.W.fnOf "_law_no_word" "_law_no_word" (defArgs s__law_no_word) (defBody s__law_no_word) (defScope s__law_no_word) .none kVu__law_no_word dcu__law_no_word pmu__law_no_word anu__law_no_word cdu__law_no_word ctu__law_no_word), slu__law_no_word⟩)
    (cu__law_no_word : PySem.W.codeIn K cdu__law_no_word "_law_no_word" = true)
    (ku__law_no_word : PySem.W.keepIn K (.ref fu__law_no_word) = true)
    (au__law_too_great : PySem.W.nsIn K mainGlobals "_law_too_great" = some (some (.ref fu__law_too_great)))
    (lu__law_too_great : K.lookup fu__law_too_great = some ⟨ocu__law_too_great, odu__law_too_great, .func (PySem.W.fnOf "_law_too_great" "_law_too_great" (defArgs s__law_too_great) (defBody s__law_too_great) (defScope s__law_too_great) .none kVu__law_too_great dcu__law_too_great pmu__law_too_great anu__law_too_great cdu__law_too_great ctu__law_too_great), slu__law_too_great⟩)
    (cu__law_too_great : PySem.W.codeIn K cdu__law_too_great "_law_too_great" = true)
    (ku__law_too_great : PySem.W.keepIn K (.ref fu__law_too_great) = true)
    (au__law_done : PySem.W.nsIn K mainGlobals "_law_done" = some (some (.ref fu__law_done)))
    (lu__law_done : K.lookup fu__law_done = some ⟨ocu__law_done, odu__law_done, .func (PySem.W.fnOf "_law_done" "_law_done" (defArgs s__law_done) (defBody s__law_done) (defScope s__law_done) .none kVu__law_done dcu__law_done pmu__law_done anu__law_done cdu__law_done ctu__law_done), slu__law_done⟩)
    (cu__law_done : PySem.W.codeIn K cdu__law_done "_law_done" = true)
    (ku__law_done : PySem.W.keepIn K (.ref fu__law_done) = true)
    (aTwistError : PySem.W.nsIn K mainGlobals "TwistError" = some (some (.ref C_TwistError)))
    (xTwistError : PySem.W.excIn K C_TwistError [.type "ValueError", .type "Exception", .type "BaseException", .type "object"] "ValueError.__new__" = true)
    (kpTwistError : PySem.W.keepIn K (.ref C_TwistError) = true)
    (sbTwistError : PySem.W.subIn K (.ref C_TwistError) (.type "BaseException") = some true)
    (tyTwistError : PySem.W.typeIn K (.ref C_TwistError) = some (.type "type"))
    (hgTwistError : PySem.W.findIn K (.ref C_TwistError) "__getattribute__" = some (some (.builtin "BaseException.__getattribute__")))
    (hkTwistError : PySem.W.findIn K (.ref C_TwistError) "__getattr__" = some none)
    (hdTwistError : PySem.W.hasDictIn K C_TwistError = true)
    (haTwistError : PySem.W.findIn K (.ref C_TwistError) "__class__" = some (some (.builtin "object.__class__")))
    (hnTwistError : PySem.W.specialIn K (.builtin "object.__class__") "__get__" = some (some (.builtin "getset_descriptor.__get__")))
    (htTwistError : PySem.W.takesIn K (.builtin "object.__class__") = some true)
    (hmTwistError : PySem.W.mroIn K C_TwistError (.type "object") = some true)
    (aNoWord : PySem.W.nsIn K mainGlobals "NoWord" = some (some (.ref C_NoWord)))
    (xNoWord : PySem.W.excIn K C_NoWord [.type "ValueError", .type "Exception", .type "BaseException", .type "object"] "ValueError.__new__" = true)
    (kpNoWord : PySem.W.keepIn K (.ref C_NoWord) = true)
    (sbNoWord : PySem.W.subIn K (.ref C_NoWord) (.type "BaseException") = some true)
    (tyNoWord : PySem.W.typeIn K (.ref C_NoWord) = some (.type "type"))
    (hgNoWord : PySem.W.findIn K (.ref C_NoWord) "__getattribute__" = some (some (.builtin "BaseException.__getattribute__")))
    (hkNoWord : PySem.W.findIn K (.ref C_NoWord) "__getattr__" = some none)
    (hdNoWord : PySem.W.hasDictIn K C_NoWord = true)
    (haNoWord : PySem.W.findIn K (.ref C_NoWord) "__class__" = some (some (.builtin "object.__class__")))
    (hnNoWord : PySem.W.specialIn K (.builtin "object.__class__") "__get__" = some (some (.builtin "getset_descriptor.__get__")))
    (htNoWord : PySem.W.takesIn K (.builtin "object.__class__") = some true)
    (hmNoWord : PySem.W.mroIn K C_NoWord (.type "object") = some true)
    (aNoNumber : PySem.W.nsIn K mainGlobals "NoNumber" = some (some (.ref C_NoNumber)))
    (xNoNumber : PySem.W.excIn K C_NoNumber [.type "ValueError", .type "Exception", .type "BaseException", .type "object"] "ValueError.__new__" = true)
    (kpNoNumber : PySem.W.keepIn K (.ref C_NoNumber) = true)
    (sbNoNumber : PySem.W.subIn K (.ref C_NoNumber) (.type "BaseException") = some true)
    (tyNoNumber : PySem.W.typeIn K (.ref C_NoNumber) = some (.type "type"))
    (hgNoNumber : PySem.W.findIn K (.ref C_NoNumber) "__getattribute__" = some (some (.builtin "BaseException.__getattribute__")))
    (hkNoNumber : PySem.W.findIn K (.ref C_NoNumber) "__getattr__" = some none)
    (hdNoNumber : PySem.W.hasDictIn K C_NoNumber = true)
    (haNoNumber : PySem.W.findIn K (.ref C_NoNumber) "__class__" = some (some (.builtin "object.__class__")))
    (hnNoNumber : PySem.W.specialIn K (.builtin "object.__class__") "__get__" = some (some (.builtin "getset_descriptor.__get__")))
    (htNoNumber : PySem.W.takesIn K (.builtin "object.__class__") = some true)
    (hmNoNumber : PySem.W.mroIn K C_NoNumber (.type "object") = some true)
    (aNoSum : PySem.W.nsIn K mainGlobals "NoSum" = some (some (.ref C_NoSum)))
    (xNoSum : PySem.W.excIn K C_NoSum [.type "ValueError", .type "Exception", .type "BaseException", .type "object"] "ValueError.__new__" = true)
    (kpNoSum : PySem.W.keepIn K (.ref C_NoSum) = true)
    (sbNoSum : PySem.W.subIn K (.ref C_NoSum) (.type "BaseException") = some true)
    (tyNoSum : PySem.W.typeIn K (.ref C_NoSum) = some (.type "type"))
    (hgNoSum : PySem.W.findIn K (.ref C_NoSum) "__getattribute__" = some (some (.builtin "BaseException.__getattribute__")))
    (hkNoSum : PySem.W.findIn K (.ref C_NoSum) "__getattr__" = some none)
    (hdNoSum : PySem.W.hasDictIn K C_NoSum = true)
    (haNoSum : PySem.W.findIn K (.ref C_NoSum) "__class__" = some (some (.builtin "object.__class__")))
    (hnNoSum : PySem.W.specialIn K (.builtin "object.__class__") "__get__" = some (some (.builtin "getset_descriptor.__get__")))
    (htNoSum : PySem.W.takesIn K (.builtin "object.__class__") = some true)
    (hmNoSum : PySem.W.mroIn K C_NoSum (.type "object") = some true)
    (aTooGreat : PySem.W.nsIn K mainGlobals "TooGreat" = some (some (.ref C_TooGreat)))
    (xTooGreat : PySem.W.excIn K C_TooGreat [.type "ValueError", .type "Exception", .type "BaseException", .type "object"] "ValueError.__new__" = true)
    (kpTooGreat : PySem.W.keepIn K (.ref C_TooGreat) = true)
    (sbTooGreat : PySem.W.subIn K (.ref C_TooGreat) (.type "BaseException") = some true)
    (tyTooGreat : PySem.W.typeIn K (.ref C_TooGreat) = some (.type "type"))
    (hgTooGreat : PySem.W.findIn K (.ref C_TooGreat) "__getattribute__" = some (some (.builtin "BaseException.__getattribute__")))
    (hkTooGreat : PySem.W.findIn K (.ref C_TooGreat) "__getattr__" = some none)
    (hdTooGreat : PySem.W.hasDictIn K C_TooGreat = true)
    (haTooGreat : PySem.W.findIn K (.ref C_TooGreat) "__class__" = some (some (.builtin "object.__class__")))
    (hnTooGreat : PySem.W.specialIn K (.builtin "object.__class__") "__get__" = some (some (.builtin "getset_descriptor.__get__")))
    (htTooGreat : PySem.W.takesIn K (.builtin "object.__class__") = some true)
    (hmTooGreat : PySem.W.mroIn K C_TooGreat (.type "object") = some true)
    (aNotRead : PySem.W.nsIn K mainGlobals "NotRead" = some (some (.ref C_NotRead)))
    (xNotRead : PySem.W.excIn K C_NotRead [.type "ValueError", .type "Exception", .type "BaseException", .type "object"] "ValueError.__new__" = true)
    (kpNotRead : PySem.W.keepIn K (.ref C_NotRead) = true)
    (sbNotRead : PySem.W.subIn K (.ref C_NotRead) (.type "BaseException") = some true)
    (tyNotRead : PySem.W.typeIn K (.ref C_NotRead) = some (.type "type"))
    (hgNotRead : PySem.W.findIn K (.ref C_NotRead) "__getattribute__" = some (some (.builtin "BaseException.__getattribute__")))
    (hkNotRead : PySem.W.findIn K (.ref C_NotRead) "__getattr__" = some none)
    (hdNotRead : PySem.W.hasDictIn K C_NotRead = true)
    (haNotRead : PySem.W.findIn K (.ref C_NotRead) "__class__" = some (some (.builtin "object.__class__")))
    (hnNotRead : PySem.W.specialIn K (.builtin "object.__class__") "__get__" = some (some (.builtin "getset_descriptor.__get__")))
    (htNotRead : PySem.W.takesIn K (.builtin "object.__class__") = some true)
    (hmNotRead : PySem.W.mroIn K C_NotRead (.type "object") = some true)
    (c_LETTERS : PySem.W.nsIn K mainGlobals "LETTERS" = some (some (.str "abc" t1)))
    (c_LONGEST_words : PySem.W.nsIn K mainGlobals "LONGEST_words" = some (some (.int 8 t2)))
    (c_GREATEST_words : PySem.W.nsIn K mainGlobals "GREATEST_words" = some (some (.int 60 t3)))
    (c_GREATEST_sums : PySem.W.nsIn K mainGlobals "GREATEST_sums" = some (some (.int 8 t4)))
    (c_FIGURES : PySem.W.nsIn K mainGlobals "FIGURES" = some (some (.str "0123456789" t5)))
    (c_LONGEST_notes : PySem.W.nsIn K mainGlobals "LONGEST_notes" = some (some (.int 30 t6)))
    (c_GREATEST_notes : PySem.W.nsIn K mainGlobals "GREATEST_notes" = some (some (.int 8 t7)))
    (c_MOST : PySem.W.nsIn K mainGlobals "MOST" = some (some (.int 12 t8)))
    (hU0 : PySem.W.subIn K (.ref C_NoWord) (.ref C_TwistError) = some true)
    (hU1 : PySem.W.subIn K (.ref C_NoNumber) (.ref C_TwistError) = some true)
    (hU2 : PySem.W.subIn K (.ref C_NoSum) (.ref C_TwistError) = some true)
    (hU3 : PySem.W.subIn K (.ref C_TooGreat) (.ref C_TwistError) = some true)
    (hU4 : PySem.W.subIn K (.ref C_NotRead) (.ref C_TwistError) = some true)
    (k00 : PySem.W.kitOne K (.ref C_NoWord) (.ref C_NoWord) = some true)
    (k01 : PySem.W.kitOne K (.ref C_NoWord) (.ref C_NoNumber) = some false)
    (k02 : PySem.W.kitOne K (.ref C_NoWord) (.ref C_NoSum) = some false)
    (k03 : PySem.W.kitOne K (.ref C_NoWord) (.ref C_TooGreat) = some false)
    (k04 : PySem.W.kitOne K (.ref C_NoWord) (.ref C_NotRead) = some false)
    (k10 : PySem.W.kitOne K (.ref C_NoNumber) (.ref C_NoWord) = some false)
    (k11 : PySem.W.kitOne K (.ref C_NoNumber) (.ref C_NoNumber) = some true)
    (k12 : PySem.W.kitOne K (.ref C_NoNumber) (.ref C_NoSum) = some false)
    (k13 : PySem.W.kitOne K (.ref C_NoNumber) (.ref C_TooGreat) = some false)
    (k14 : PySem.W.kitOne K (.ref C_NoNumber) (.ref C_NotRead) = some false)
    (k20 : PySem.W.kitOne K (.ref C_NoSum) (.ref C_NoWord) = some false)
    (k21 : PySem.W.kitOne K (.ref C_NoSum) (.ref C_NoNumber) = some false)
    (k22 : PySem.W.kitOne K (.ref C_NoSum) (.ref C_NoSum) = some true)
    (k23 : PySem.W.kitOne K (.ref C_NoSum) (.ref C_TooGreat) = some false)
    (k24 : PySem.W.kitOne K (.ref C_NoSum) (.ref C_NotRead) = some false)
    (k30 : PySem.W.kitOne K (.ref C_TooGreat) (.ref C_NoWord) = some false)
    (k31 : PySem.W.kitOne K (.ref C_TooGreat) (.ref C_NoNumber) = some false)
    (k32 : PySem.W.kitOne K (.ref C_TooGreat) (.ref C_NoSum) = some false)
    (k33 : PySem.W.kitOne K (.ref C_TooGreat) (.ref C_TooGreat) = some true)
    (k34 : PySem.W.kitOne K (.ref C_TooGreat) (.ref C_NotRead) = some false)
    (k40 : PySem.W.kitOne K (.ref C_NotRead) (.ref C_NoWord) = some false)
    (k41 : PySem.W.kitOne K (.ref C_NotRead) (.ref C_NoNumber) = some false)
    (k42 : PySem.W.kitOne K (.ref C_NotRead) (.ref C_NoSum) = some false)
    (k43 : PySem.W.kitOne K (.ref C_NotRead) (.ref C_TooGreat) = some false)
    (k44 : PySem.W.kitOne K (.ref C_NotRead) (.ref C_NotRead) = some true)
    (kv0 : PySem.W.kitOne K (.ref C_NoWord) (.type "ValueError") = some true)
    (kv1 : PySem.W.kitOne K (.ref C_NoNumber) (.type "ValueError") = some true)
    (kv2 : PySem.W.kitOne K (.ref C_NoSum) (.type "ValueError") = some true)
    (kv3 : PySem.W.kitOne K (.ref C_TooGreat) (.type "ValueError") = some true)
    (kv4 : PySem.W.kitOne K (.ref C_NotRead) (.type "ValueError") = some true)
    : ∃ fd : FuncData, (∀ (s : Shared) (v : Value), BindsTo s fd ⟨[v], []⟩ [("script", v)]) ∧ ∀ base : Heap, K.In base → base.Ns mainGlobals mg → FnOk l.prog w K mg base CX0 60 fa fd ["script"] (spLaw K) := by
  have e := hfa.symm.trans (PySem.W.mg_of X G au_law)
  cases e
  have B : Blt mg := ⟨PySem.W.mg_none_of X G z_len, PySem.W.mg_none_of X G z_isinstance, PySem.W.mg_none_of X G z_str, PySem.W.mg_none_of X G z_int, PySem.W.mg_none_of X G z_bool, PySem.W.mg_none_of X G z_list, PySem.W.mg_none_of X G z_tuple, PySem.W.mg_none_of X G z_dict, PySem.W.mg_none_of X G z_set, PySem.W.mg_none_of X G z_sorted, PySem.W.mg_none_of X G z_min, PySem.W.mg_none_of X G z_max, PySem.W.mg_none_of X G z_sum, PySem.W.mg_none_of X G z_abs, PySem.W.mg_none_of X G z_all, PySem.W.mg_none_of X G z_range, PySem.W.mg_none_of X G z_zip, PySem.W.mg_none_of X G z_enumerate, PySem.W.mg_none_of X G z_reversed, PySem.W.mg_none_of X G z_ValueError⟩
  let D : DefAt K mg "law" s_law ["script"] := defAt_mk X G au_law lu_law cu_law ku_law (fun _ _ _ _ _ _ us hl => match us, hl with | [_], _ => rfl)
  have D_cut : DefAt K mg "cut" s_cut ["word"] := defAt_mk X G au_cut lu_cut cu_cut ku_cut (fun _ _ _ _ _ _ us hl => match us, hl with | [_], _ => rfl)
  have D_plain_bracket : DefAt K mg "plain_bracket" s_plain_bracket ["word"] := defAt_mk X G au_plain_bracket lu_plain_bracket cu_plain_bracket ku_plain_bracket (fun _ _ _ _ _ _ us hl => match us, hl with | [_], _ => rfl)
  have D_is_plain : DefAt K mg "is_plain" s_is_plain ["word"] := defAt_mk X G au_is_plain lu_is_plain cu_is_plain ku_is_plain (fun _ _ _ _ _ _ us hl => match us, hl with | [_], _ => rfl)
  have D_plain_words : DefAt K mg "plain_words" s_plain_words ["letters", "length"] := defAt_mk X G au_plain_words lu_plain_words cu_plain_words ku_plain_words (fun _ _ _ _ _ _ us hl => match us, hl with | [_, _], _ => rfl)
  have D_ask_numbers : DefAt K mg "ask_numbers" s_ask_numbers ["letters", "length", "most"] := defAt_mk X G au_ask_numbers lu_ask_numbers cu_ask_numbers ku_ask_numbers (fun _ _ _ _ _ _ us hl => match us, hl with | [_, _, _], _ => rfl)
  have D_how_many : DefAt K mg "how_many" s_how_many ["letters", "length"] := defAt_mk X G au_how_many lu_how_many cu_how_many ku_how_many (fun _ _ _ _ _ _ us hl => match us, hl with | [_, _], _ => rfl)
  have D_mark_of : DefAt K mg "mark_of" s_mark_of ["number"] := defAt_mk X G au_mark_of lu_mark_of cu_mark_of ku_mark_of (fun _ _ _ _ _ _ us hl => match us, hl with | [_], _ => rfl)
  have D_power_of : DefAt K mg "power_of" s_power_of ["number", "often"] := defAt_mk X G au_power_of lu_power_of cu_power_of ku_power_of (fun _ _ _ _ _ _ us hl => match us, hl with | [_, _], _ => rfl)
  have D_gathered : DefAt K mg "gathered" s_gathered ["words"] := defAt_mk X G au_gathered lu_gathered cu_gathered ku_gathered (fun _ _ _ _ _ _ us hl => match us, hl with | [_], _ => rfl)
  have D_plain_of : DefAt K mg "plain_of" s_plain_of ["counts"] := defAt_mk X G au_plain_of lu_plain_of cu_plain_of ku_plain_of (fun _ _ _ _ _ _ us hl => match us, hl with | [_], _ => rfl)
  have D_counts_of : DefAt K mg "counts_of" s_counts_of ["bracket"] := defAt_mk X G au_counts_of lu_counts_of cu_counts_of ku_counts_of (fun _ _ _ _ _ _ us hl => match us, hl with | [_], _ => rfl)
  have D_twisted : DefAt K mg "twisted" s_twisted ["one", "other"] := defAt_mk X G au_twisted lu_twisted cu_twisted ku_twisted (fun _ _ _ _ _ _ us hl => match us, hl with | [_, _], _ => rfl)
  have D_times : DefAt K mg "times" s_times ["one", "other"] := defAt_mk X G au_times lu_times cu_times ku_times (fun _ _ _ _ _ _ us hl => match us, hl with | [_, _], _ => rfl)
  have D_put_to : DefAt K mg "put_to" s_put_to ["counts", "word", "count"] := defAt_mk X G au_put_to lu_put_to cu_put_to ku_put_to (fun _ _ _ _ _ _ us hl => match us, hl with | [_, _, _], _ => rfl)
  have D_by_length : DefAt K mg "by_length" s_by_length ["word"] := defAt_mk X G au_by_length lu_by_length cu_by_length ku_by_length (fun _ _ _ _ _ _ us hl => match us, hl with | [_], _ => rfl)
  have D_bracket_of : DefAt K mg "bracket_of" s_bracket_of ["one", "other"] := defAt_mk X G au_bracket_of lu_bracket_of cu_bracket_of ku_bracket_of (fun _ _ _ _ _ _ us hl => match us, hl with | [_, _], _ => rfl)
  have D_put_in : DefAt K mg "put_in" s_put_in ["total", "a", "b", "c"] := defAt_mk X G au_put_in lu_put_in cu_put_in ku_put_in (fun _ _ _ _ _ _ us hl => match us, hl with | [_, _, _, _], _ => rfl)
  have D_ask_weights : DefAt K mg "ask_weights" s_ask_weights ["total", "sums"] := defAt_mk X G au_ask_weights lu_ask_weights cu_ask_weights ku_ask_weights (fun _ _ _ _ _ _ us hl => match us, hl with | [_, _], _ => rfl)
  have D_letters_of : DefAt K mg "letters_of" s_letters_of ["bracket"] := defAt_mk X G au_letters_of lu_letters_of cu_letters_of ku_letters_of (fun _ _ _ _ _ _ us hl => match us, hl with | [_], _ => rfl)
  have D_greatest : DefAt K mg "greatest" s_greatest ["total"] := defAt_mk X G au_greatest lu_greatest cu_greatest ku_greatest (fun _ _ _ _ _ _ us hl => match us, hl with | [_], _ => rfl)
  have D_weight : DefAt K mg "weight" s_weight ["bracket"] := defAt_mk X G au_weight lu_weight cu_weight ku_weight (fun _ _ _ _ _ _ us hl => match us, hl with | [_], _ => rfl)
  have D_filled : DefAt K mg "filled" s_filled ["bracket", "counts"] := defAt_mk X G au_filled lu_filled cu_filled ku_filled (fun _ _ _ _ _ _ us hl => match us, hl with | [_, _], _ => rfl)
  have D_counts_of_sum : DefAt K mg "counts_of_sum" s_counts_of_sum ["total"] := defAt_mk X G au_counts_of_sum lu_counts_of_sum cu_counts_of_sum ku_counts_of_sum (fun _ _ _ _ _ _ us hl => match us, hl with | [_], _ => rfl)
  have D_read : DefAt K mg "read" s_read ["text"] := defAt_mk X G au_read lu_read cu_read ku_read (fun _ _ _ _ _ _ us hl => match us, hl with | [_], _ => rfl)
  have D_count_at : DefAt K mg "count_at" s_count_at ["text", "at"] := defAt_mk X G au_count_at lu_count_at cu_count_at ku_count_at (fun _ _ _ _ _ _ us hl => match us, hl with | [_, _], _ => rfl)
  have D_bracket_at : DefAt K mg "bracket_at" s_bracket_at ["text", "at", "deep"] := defAt_mk X G au_bracket_at lu_bracket_at cu_bracket_at ku_bracket_at (fun _ _ _ _ _ _ us hl => match us, hl with | [_, _, _], _ => rfl)
  have D_sign_at : DefAt K mg "sign_at" s_sign_at ["text", "at", "sign"] := defAt_mk X G au_sign_at lu_sign_at cu_sign_at ku_sign_at (fun _ _ _ _ _ _ us hl => match us, hl with | [_, _, _], _ => rfl)
  have D__law_stir : DefAt K mg "_law_stir" s__law_stir ["cell"] := defAt_mk X G au__law_stir lu__law_stir cu__law_stir ku__law_stir (fun _ _ _ _ _ _ us hl => match us, hl with | [_], _ => rfl)
  have D__law_cell : DefAt K mg "_law_cell" s__law_cell ["script", "k"] := defAt_mk X G au__law_cell lu__law_cell cu__law_cell ku__law_cell (fun _ _ _ _ _ _ us hl => match us, hl with | [_, _], _ => rfl)
  have D__law_no_word : DefAt K mg "_law_no_word" s__law_no_word ["cell"] := defAt_mk X G au__law_no_word lu__law_no_word cu__law_no_word ku__law_no_word (fun _ _ _ _ _ _ us hl => match us, hl with | [_], _ => rfl)
  have D__law_too_great : DefAt K mg "_law_too_great" s__law_too_great ["cell"] := defAt_mk X G au__law_too_great lu__law_too_great cu__law_too_great ku__law_too_great (fun _ _ _ _ _ _ us hl => match us, hl with | [_], _ => rfl)
  have D__law_done : DefAt K mg "_law_done" s__law_done ["mode", "cell", "far"] := defAt_mk X G au__law_done lu__law_done cu__law_done ku__law_done (fun _ _ _ _ _ _ us hl => match us, hl with | [_, _, _], _ => rfl)
  let EC_TwistError : ErrAt K mg "TwistError" := errAt_mk X G aTwistError xTwistError kpTwistError sbTwistError tyTwistError hgTwistError hkTwistError hdTwistError haTwistError hnTwistError htTwistError hmTwistError
  let EC_NoWord : ErrAt K mg "NoWord" := errAt_mk X G aNoWord xNoWord kpNoWord sbNoWord tyNoWord hgNoWord hkNoWord hdNoWord haNoWord hnNoWord htNoWord hmNoWord
  let EC_NoNumber : ErrAt K mg "NoNumber" := errAt_mk X G aNoNumber xNoNumber kpNoNumber sbNoNumber tyNoNumber hgNoNumber hkNoNumber hdNoNumber haNoNumber hnNoNumber htNoNumber hmNoNumber
  let EC_NoSum : ErrAt K mg "NoSum" := errAt_mk X G aNoSum xNoSum kpNoSum sbNoSum tyNoSum hgNoSum hkNoSum hdNoSum haNoSum hnNoSum htNoSum hmNoSum
  let EC_TooGreat : ErrAt K mg "TooGreat" := errAt_mk X G aTooGreat xTooGreat kpTooGreat sbTooGreat tyTooGreat hgTooGreat hkTooGreat hdTooGreat haTooGreat hnTooGreat htTooGreat hmTooGreat
  let EC_NotRead : ErrAt K mg "NotRead" := errAt_mk X G aNotRead xNotRead kpNotRead sbNotRead tyNotRead hgNotRead hkNotRead hdNotRead haNotRead hnNotRead htNotRead hmNotRead
  exact ⟨PySem.W.fnOf "law" "law" (defArgs s_law) (defBody s_law) (defScope s_law) .none kVu_law dcu_law pmu_law anu_law cdu_law ctu_law, fun s v => .of_eq rfl, fun base _ _ => ok_law B D D_cut D_plain_bracket D_is_plain D_plain_words D_ask_numbers D_how_many D_mark_of D_power_of D_gathered D_plain_of D_counts_of D_twisted D_times D_put_to D_by_length D_bracket_of D_put_in D_ask_weights D_letters_of D_greatest D_weight D_filled D_counts_of_sum D_read D_count_at D_bracket_at D_sign_at D__law_stir D__law_cell D__law_no_word D__law_too_great D__law_done EC_TwistError EC_NoWord EC_NoNumber EC_NoSum EC_TooGreat EC_NotRead (PySem.W.mg_of X G c_LETTERS) (PySem.W.mg_of X G c_LONGEST_words) (PySem.W.mg_of X G c_GREATEST_words) (PySem.W.mg_of X G c_GREATEST_sums) (PySem.W.mg_of X G c_FIGURES) (PySem.W.mg_of X G c_LONGEST_notes) (PySem.W.mg_of X G c_GREATEST_notes) (PySem.W.mg_of X G c_MOST) hU0 hU1 hU2 hU3 hU4 k00 k01 k02 k03 k04 k10 k11 k12 k13 k14 k20 k21 k22 k23 k24 k30 k31 k32 k33 k34 k40 k41 k42 k43 k44 kv0 kv1 kv2 kv3 kv4⟩
end TB
open PySem PySem.W PyProof.Rows
set_option maxHeartbeats 0 in
theorem PySem.Challenge.cw_twistbrackets_k15_each_refusal_its_own_holds : PySem.Challenge.rw_twistbrackets_k15_each_refusal_its_own.Holds := by
  w_on; o_law; k_head; (case hw => w_witness2)
  k_fill
  refine L2.walk_of (l := PySem.Challenge.rw_twistbrackets_k15_each_refusal_its_own) (n := 63) (k := 60) (x := "script") (CX := fun _ => L2.CX0) (sp := fun w => TB.spLaw _) rfl (by decide) rfl ⟨rfl, by decide, by decide⟩ (fun w h Y => PySem.W.kIn_of Y) ?F (fun _ _ a ns hl _ hS => ⟨a, ns, rfl, hS, hl, fun _ => rfl⟩) (fun _ _ _ _ _ h => h)
  case F =>
    intro w mg fa h KX G hmg
    refine' TB.all_mk KX G hmg ?z_len ?z_isinstance ?z_str ?z_int ?z_bool ?z_list ?z_tuple ?z_dict ?z_set ?z_sorted ?z_min ?z_max ?z_sum ?z_abs ?z_all ?z_range ?z_zip ?z_enumerate ?z_reversed ?z_ValueError ?au_law ?lu_law ?cu_law ?ku_law ?au_cut ?lu_cut ?cu_cut ?ku_cut ?au_plain_bracket ?lu_plain_bracket ?cu_plain_bracket ?ku_plain_bracket ?au_is_plain ?lu_is_plain ?cu_is_plain ?ku_is_plain ?au_plain_words ?lu_plain_words ?cu_plain_words ?ku_plain_words ?au_ask_numbers ?lu_ask_numbers ?cu_ask_numbers ?ku_ask_numbers ?au_how_many ?lu_how_many ?cu_how_many ?ku_how_many ?au_mark_of ?lu_mark_of ?cu_mark_of ?ku_mark_of ?au_power_of ?lu_power_of ?cu_power_of ?ku_power_of ?au_gathered ?lu_gathered ?cu_gathered ?ku_gathered ?au_plain_of ?lu_plain_of ?cu_plain_of ?ku_plain_of ?au_counts_of ?lu_counts_of ?cu_counts_of ?ku_counts_of ?au_twisted ?lu_twisted ?cu_twisted ?ku_twisted ?au_times ?lu_times ?cu_times ?ku_times ?au_put_to ?lu_put_to ?cu_put_to ?ku_put_to ?au_by_length ?lu_by_length ?cu_by_length ?ku_by_length ?au_bracket_of ?lu_bracket_of ?cu_bracket_of ?ku_bracket_of ?au_put_in ?lu_put_in ?cu_put_in ?ku_put_in ?au_ask_weights ?lu_ask_weights ?cu_ask_weights ?ku_ask_weights ?au_letters_of ?lu_letters_of ?cu_letters_of ?ku_letters_of ?au_greatest ?lu_greatest ?cu_greatest ?ku_greatest ?au_weight ?lu_weight ?cu_weight ?ku_weight ?au_filled ?lu_filled ?cu_filled ?ku_filled ?au_counts_of_sum ?lu_counts_of_sum ?cu_counts_of_sum ?ku_counts_of_sum ?au_read ?lu_read ?cu_read ?ku_read ?au_count_at ?lu_count_at ?cu_count_at ?ku_count_at ?au_bracket_at ?lu_bracket_at ?cu_bracket_at ?ku_bracket_at ?au_sign_at ?lu_sign_at ?cu_sign_at ?ku_sign_at ?au__law_stir ?lu__law_stir ?cu__law_stir ?ku__law_stir ?au__law_cell ?lu__law_cell ?cu__law_cell ?ku__law_cell ?au__law_no_word ?lu__law_no_word ?cu__law_no_word ?ku__law_no_word ?au__law_too_great ?lu__law_too_great ?cu__law_too_great ?ku__law_too_great ?au__law_done ?lu__law_done ?cu__law_done ?ku__law_done ?aTwistError ?xTwistError ?kpTwistError ?sbTwistError ?tyTwistError ?hgTwistError ?hkTwistError ?hdTwistError ?haTwistError ?hnTwistError ?htTwistError ?hmTwistError ?aNoWord ?xNoWord ?kpNoWord ?sbNoWord ?tyNoWord ?hgNoWord ?hkNoWord ?hdNoWord ?haNoWord ?hnNoWord ?htNoWord ?hmNoWord ?aNoNumber ?xNoNumber ?kpNoNumber ?sbNoNumber ?tyNoNumber ?hgNoNumber ?hkNoNumber ?hdNoNumber ?haNoNumber ?hnNoNumber ?htNoNumber ?hmNoNumber ?aNoSum ?xNoSum ?kpNoSum ?sbNoSum ?tyNoSum ?hgNoSum ?hkNoSum ?hdNoSum ?haNoSum ?hnNoSum ?htNoSum ?hmNoSum ?aTooGreat ?xTooGreat ?kpTooGreat ?sbTooGreat ?tyTooGreat ?hgTooGreat ?hkTooGreat ?hdTooGreat ?haTooGreat ?hnTooGreat ?htTooGreat ?hmTooGreat ?aNotRead ?xNotRead ?kpNotRead ?sbNotRead ?tyNotRead ?hgNotRead ?hkNotRead ?hdNotRead ?haNotRead ?hnNotRead ?htNotRead ?hmNotRead ?c_LETTERS ?c_LONGEST_words ?c_GREATEST_words ?c_GREATEST_sums ?c_FIGURES ?c_LONGEST_notes ?c_GREATEST_notes ?c_MOST ?hU0 ?hU1 ?hU2 ?hU3 ?hU4 ?k00 ?k01 ?k02 ?k03 ?k04 ?k10 ?k11 ?k12 ?k13 ?k14 ?k20 ?k21 ?k22 ?k23 ?k24 ?k30 ?k31 ?k32 ?k33 ?k34 ?k40 ?k41 ?k42 ?k43 ?k44 ?kv0 ?kv1 ?kv2 ?kv3 ?kv4
    (case z_len => k_is)
    (case z_isinstance => k_is)
    (case z_str => k_is)
    (case z_int => k_is)
    (case z_bool => k_is)
    (case z_list => k_is)
    (case z_tuple => k_is)
    (case z_dict => k_is)
    (case z_set => k_is)
    (case z_sorted => k_is)
    (case z_min => k_is)
    (case z_max => k_is)
    (case z_sum => k_is)
    (case z_abs => k_is)
    (case z_all => k_is)
    (case z_range => k_is)
    (case z_zip => k_is)
    (case z_enumerate => k_is)
    (case z_reversed => k_is)
    (case z_ValueError => k_is)
    (case au_law => k_is)
    (case lu_law => k_is)
    (case cu_law => k_is)
    (case ku_law => k_is)
    (case au_cut => k_is)
    (case lu_cut => k_is)
    (case cu_cut => k_is)
    (case ku_cut => k_is)
    (case au_plain_bracket => k_is)
    (case lu_plain_bracket => k_is)
    (case cu_plain_bracket => k_is)
    (case ku_plain_bracket => k_is)
    (case au_is_plain => k_is)
    (case lu_is_plain => k_is)
    (case cu_is_plain => k_is)
    (case ku_is_plain => k_is)
    (case au_plain_words => k_is)
    (case lu_plain_words => k_is)
    (case cu_plain_words => k_is)
    (case ku_plain_words => k_is)
    (case au_ask_numbers => k_is)
    (case lu_ask_numbers => k_is)
    (case cu_ask_numbers => k_is)
    (case ku_ask_numbers => k_is)
    (case au_how_many => k_is)
    (case lu_how_many => k_is)
    (case cu_how_many => k_is)
    (case ku_how_many => k_is)
    (case au_mark_of => k_is)
    (case lu_mark_of => k_is)
    (case cu_mark_of => k_is)
    (case ku_mark_of => k_is)
    (case au_power_of => k_is)
    (case lu_power_of => k_is)
    (case cu_power_of => k_is)
    (case ku_power_of => k_is)
    (case au_gathered => k_is)
    (case lu_gathered => k_is)
    (case cu_gathered => k_is)
    (case ku_gathered => k_is)
    (case au_plain_of => k_is)
    (case lu_plain_of => k_is)
    (case cu_plain_of => k_is)
    (case ku_plain_of => k_is)
    (case au_counts_of => k_is)
    (case lu_counts_of => k_is)
    (case cu_counts_of => k_is)
    (case ku_counts_of => k_is)
    (case au_twisted => k_is)
    (case lu_twisted => k_is)
    (case cu_twisted => k_is)
    (case ku_twisted => k_is)
    (case au_times => k_is)
    (case lu_times => k_is)
    (case cu_times => k_is)
    (case ku_times => k_is)
    (case au_put_to => k_is)
    (case lu_put_to => k_is)
    (case cu_put_to => k_is)
    (case ku_put_to => k_is)
    (case au_by_length => k_is)
    (case lu_by_length => k_is)
    (case cu_by_length => k_is)
    (case ku_by_length => k_is)
    (case au_bracket_of => k_is)
    (case lu_bracket_of => k_is)
    (case cu_bracket_of => k_is)
    (case ku_bracket_of => k_is)
    (case au_put_in => k_is)
    (case lu_put_in => k_is)
    (case cu_put_in => k_is)
    (case ku_put_in => k_is)
    (case au_ask_weights => k_is)
    (case lu_ask_weights => k_is)
    (case cu_ask_weights => k_is)
    (case ku_ask_weights => k_is)
    (case au_letters_of => k_is)
    (case lu_letters_of => k_is)
    (case cu_letters_of => k_is)
    (case ku_letters_of => k_is)
    (case au_greatest => k_is)
    (case lu_greatest => k_is)
    (case cu_greatest => k_is)
    (case ku_greatest => k_is)
    (case au_weight => k_is)
    (case lu_weight => k_is)
    (case cu_weight => k_is)
    (case ku_weight => k_is)
    (case au_filled => k_is)
    (case lu_filled => k_is)
    (case cu_filled => k_is)
    (case ku_filled => k_is)
    (case au_counts_of_sum => k_is)
    (case lu_counts_of_sum => k_is)
    (case cu_counts_of_sum => k_is)
    (case ku_counts_of_sum => k_is)
    (case au_read => k_is)
    (case lu_read => k_is)
    (case cu_read => k_is)
    (case ku_read => k_is)
    (case au_count_at => k_is)
    (case lu_count_at => k_is)
    (case cu_count_at => k_is)
    (case ku_count_at => k_is)
    (case au_bracket_at => k_is)
    (case lu_bracket_at => k_is)
    (case cu_bracket_at => k_is)
    (case ku_bracket_at => k_is)
    (case au_sign_at => k_is)
    (case lu_sign_at => k_is)
    (case cu_sign_at => k_is)
    (case ku_sign_at => k_is)
    (case au__law_stir => k_is)
    (case lu__law_stir => k_is)
    (case cu__law_stir => k_is)
    (case ku__law_stir => k_is)
    (case au__law_cell => k_is)
    (case lu__law_cell => k_is)
    (case cu__law_cell => k_is)
    (case ku__law_cell => k_is)
    (case au__law_no_word => k_is)
    (case lu__law_no_word => k_is)
    (case cu__law_no_word => k_is)
    (case ku__law_no_word => k_is)
    (case au__law_too_great => k_is)
    (case lu__law_too_great => k_is)
    (case cu__law_too_great => k_is)
    (case ku__law_too_great => k_is)
    (case au__law_done => k_is)
    (case lu__law_done => k_is)
    (case cu__law_done => k_is)
    (case ku__law_done => k_is)
    (case aTwistError => k_is)
    (case xTwistError => k_exc)
    (case kpTwistError => k_is)
    (case sbTwistError => k_is)
    (case tyTwistError => k_is)
    (case hgTwistError => k_is)
    (case hkTwistError => k_is)
    (case hdTwistError => k_is)
    (case haTwistError => k_is)
    (case hnTwistError => k_is)
    (case htTwistError => k_is)
    (case hmTwistError => k_is)
    (case aNoWord => k_is)
    (case xNoWord => k_exc)
    (case kpNoWord => k_is)
    (case sbNoWord => k_is)
    (case tyNoWord => k_is)
    (case hgNoWord => k_is)
    (case hkNoWord => k_is)
    (case hdNoWord => k_is)
    (case haNoWord => k_is)
    (case hnNoWord => k_is)
    (case htNoWord => k_is)
    (case hmNoWord => k_is)
    (case aNoNumber => k_is)
    (case xNoNumber => k_exc)
    (case kpNoNumber => k_is)
    (case sbNoNumber => k_is)
    (case tyNoNumber => k_is)
    (case hgNoNumber => k_is)
    (case hkNoNumber => k_is)
    (case hdNoNumber => k_is)
    (case haNoNumber => k_is)
    (case hnNoNumber => k_is)
    (case htNoNumber => k_is)
    (case hmNoNumber => k_is)
    (case aNoSum => k_is)
    (case xNoSum => k_exc)
    (case kpNoSum => k_is)
    (case sbNoSum => k_is)
    (case tyNoSum => k_is)
    (case hgNoSum => k_is)
    (case hkNoSum => k_is)
    (case hdNoSum => k_is)
    (case haNoSum => k_is)
    (case hnNoSum => k_is)
    (case htNoSum => k_is)
    (case hmNoSum => k_is)
    (case aTooGreat => k_is)
    (case xTooGreat => k_exc)
    (case kpTooGreat => k_is)
    (case sbTooGreat => k_is)
    (case tyTooGreat => k_is)
    (case hgTooGreat => k_is)
    (case hkTooGreat => k_is)
    (case hdTooGreat => k_is)
    (case haTooGreat => k_is)
    (case hnTooGreat => k_is)
    (case htTooGreat => k_is)
    (case hmTooGreat => k_is)
    (case aNotRead => k_is)
    (case xNotRead => k_exc)
    (case kpNotRead => k_is)
    (case sbNotRead => k_is)
    (case tyNotRead => k_is)
    (case hgNotRead => k_is)
    (case hkNotRead => k_is)
    (case hdNotRead => k_is)
    (case haNotRead => k_is)
    (case hnNotRead => k_is)
    (case htNotRead => k_is)
    (case hmNotRead => k_is)
    (case c_LETTERS => k_is)
    (case c_LONGEST_words => k_is)
    (case c_GREATEST_words => k_is)
    (case c_GREATEST_sums => k_is)
    (case c_FIGURES => k_is)
    (case c_LONGEST_notes => k_is)
    (case c_GREATEST_notes => k_is)
    (case c_MOST => k_is)
    (case hU0 => k_is)
    (case hU1 => k_is)
    (case hU2 => k_is)
    (case hU3 => k_is)
    (case hU4 => k_is)
    (case k00 => kit_is)
    (case k01 => kit_is)
    (case k02 => kit_is)
    (case k03 => kit_is)
    (case k04 => kit_is)
    (case k10 => kit_is)
    (case k11 => kit_is)
    (case k12 => kit_is)
    (case k13 => kit_is)
    (case k14 => kit_is)
    (case k20 => kit_is)
    (case k21 => kit_is)
    (case k22 => kit_is)
    (case k23 => kit_is)
    (case k24 => kit_is)
    (case k30 => kit_is)
    (case k31 => kit_is)
    (case k32 => kit_is)
    (case k33 => kit_is)
    (case k34 => kit_is)
    (case k40 => kit_is)
    (case k41 => kit_is)
    (case k42 => kit_is)
    (case k43 => kit_is)
    (case k44 => kit_is)
    (case kv0 => kit_is)
    (case kv1 => kit_is)
    (case kv2 => kit_is)
    (case kv3 => kit_is)
    (case kv4 => kit_is)

