import PyProof.Rows.All
import Wide.All
import OpenK.AllK
import Wide.FinOn
import KE.RegKIsAll
import HandS.Evl
import HandS.ForMost
import HandS.ForExc
import HandS.ExcIs
import HandS.Wide
import HandS.IsInst
import HandS.Style
import HandS.More
import HandS.Flow
import HandS.SortKw
import HandS.Zip
import PySem.Challenge.RW_twistbrackets_k03_plain_brackets
import KE.DataMinMax
set_option Elab.async false
set_option linter.all false
set_option maxRecDepth 100000
set_option maxHeartbeats 4000000
/-! ## TbLex -/
/-! Words (lists of codes) in dictionary order; plain words; the cut; merges of two words. -/
namespace TB
abbrev W := List Nat
def lx : W → W → Bool
  | [], [] => false
  | [], _ :: _ => true
  | _ :: _, [] => false
  | a :: x, b :: y => if a < b then true else if b < a then false else lx x y
theorem lx_iff : ∀ x y : W, (x < y) ↔ lx x y = true
  | [], [] => by
    constructor
    · intro h; exact absurd h (List.not_lt_nil _)
    · intro h; cases h
  | [], b :: y => ⟨fun _ => rfl, fun _ => List.nil_lt_cons _ _⟩
  | a :: x, [] => by
    constructor
    · intro h; exact absurd h (List.not_lt_nil _)
    · intro h; cases h
  | a :: x, b :: y => by
    rw [List.cons_lt_cons_iff, lx_iff x y]
    show _ ↔ (if a < b then true else if b < a then false else lx x y) = true
    by_cases h1 : a < b
    · rw [if_pos h1]; exact ⟨fun _ => rfl, fun _ => .inl h1⟩
    · rw [if_neg h1]
      by_cases h2 : b < a
      · rw [if_pos h2]
        constructor
        · rintro (h | ⟨h, _⟩)
          · exact absurd h h1
          · omega
        · intro h; cases h
      · rw [if_neg h2]
        constructor
        · rintro (h | ⟨_, h⟩)
          · exact absurd h h1
          · exact h
        · intro h; exact .inr ⟨by omega, h⟩
theorem lx_dec (x y : W) [d : Decidable (x < y)] : decide (x < y) = lx x y := by
  cases h : lx x y with
  | true => exact decide_eq_true ((lx_iff x y).mpr h)
  | false => exact decide_eq_false fun q => by rw [(lx_iff x y).mp q] at h; cases h
theorem lx_cons (a b : Nat) (x y : W) : lx (a :: x) (b :: y) = if a < b then true else if b < a then false else lx x y := rfl
theorem lx_same (a : Nat) (x y : W) : lx (a :: x) (a :: y) = lx x y := by
  rw [lx_cons, if_neg (Nat.lt_irrefl a), if_neg (Nat.lt_irrefl a)]
theorem lx_irr : ∀ x : W, lx x x = false
  | [] => rfl
  | a :: x => by rw [lx_same]; exact lx_irr x
theorem lx_nil_r (x : W) : lx x [] = false := by cases x <;> rfl
theorem lx_nil_l {x : W} (h : x ≠ []) : lx [] x = true := by
  cases x with
  | nil => exact absurd rfl h
  | cons a x => rfl
theorem lx_cons_iff {a b : Nat} {x y : W} : lx (a :: x) (b :: y) = true ↔ a < b ∨ (a = b ∧ lx x y = true) := by
  rw [lx_cons]
  by_cases h1 : a < b
  · rw [if_pos h1]; exact ⟨fun _ => .inl h1, fun _ => rfl⟩
  · rw [if_neg h1]
    by_cases h2 : b < a
    · rw [if_pos h2]
      exact ⟨fun h => (by cases h), fun h => by omega⟩
    · rw [if_neg h2]
      refine ⟨fun h => .inr ⟨by omega, h⟩, fun h => ?_⟩
      rcases h with h | h
      · exact absurd h h1
      · exact h.2
theorem lx_trans : ∀ {x y z : W}, lx x y = true → lx y z = true → lx x z = true
  | [], [], _, h, _ => by cases h
  | _ :: _, [], _, h, _ => by cases h
  | _, _ :: _, [], _, h => by cases h
  | [], _ :: _, _ :: _, _, _ => rfl
  | a :: x, b :: y, c :: z, h1, h2 => by
    rw [lx_cons_iff] at h1 h2 ⊢
    rcases h1 with h1 | ⟨h1, k1⟩
    · rcases h2 with h2 | ⟨h2, k2⟩
      · exact .inl (by omega)
      · exact .inl (by omega)
    · rcases h2 with h2 | ⟨h2, k2⟩
      · exact .inl (by omega)
      · exact .inr ⟨by omega, lx_trans k1 k2⟩
theorem lx_asymm {x y : W} (h : lx x y = true) : lx y x = false := by
  cases q : lx y x with
  | false => rfl
  | true =>
    have := lx_trans h q
    rw [lx_irr] at this
    cases this
theorem lx_tri : ∀ x y : W, lx x y = true ∨ x = y ∨ lx y x = true
  | [], [] => .inr (.inl rfl)
  | [], _ :: _ => .inl rfl
  | _ :: _, [] => .inr (.inr rfl)
  | a :: x, b :: y => by
    rcases Nat.lt_trichotomy a b with h | h | h
    · exact .inl (lx_cons_iff.mpr (.inl h))
    · subst h
      rcases lx_tri x y with h | h | h
      · exact .inl (by rw [lx_same]; exact h)
      · exact .inr (.inl (by rw [h]))
      · exact .inr (.inr (by rw [lx_same]; exact h))
    · exact .inr (.inr (lx_cons_iff.mpr (.inl h)))
/-- x at most y -/
def le (x y : W) : Prop := lx y x = false
theorem le_of_lx {x y : W} (h : lx x y = true) : le x y := lx_asymm h
theorem le_refl (x : W) : le x x := lx_irr x
theorem le_cases {x y : W} (h : le x y) : x = y ∨ lx x y = true := by
  rcases lx_tri x y with q | q | q
  · exact .inr q
  · exact .inl q
  · rw [show lx y x = false from h] at q; cases q
theorem le_or (x y : W) : le x y ∨ lx y x = true := by
  cases h : lx y x with
  | true => exact .inr rfl
  | false => exact .inl h
theorem le_trans {x y z : W} (h1 : le x y) (h2 : le y z) : le x z := by
  rcases le_cases h1 with rfl | h1
  · exact h2
  · rcases le_cases h2 with rfl | h2
    · exact le_of_lx h1
    · exact le_of_lx (lx_trans h1 h2)
theorem lx_of_le {x y z : W} (h1 : le x y) (h2 : lx y z = true) : lx x z = true := by
  rcases le_cases h1 with rfl | h1
  · exact h2
  · exact lx_trans h1 h2
theorem lx_le {x y z : W} (h1 : lx x y = true) (h2 : le y z) : lx x z = true := by
  rcases le_cases h2 with rfl | h2
  · exact h1
  · exact lx_trans h1 h2
theorem le_anti {x y : W} (h1 : le x y) (h2 : le y x) : x = y := by
  rcases le_cases h1 with h | h
  · exact h
  · rw [show lx x y = false from h2] at h; cases h
theorem lx_pre (p : W) (x y : W) : lx (p ++ x) (p ++ y) = lx x y := by
  induction p with
  | nil => rfl
  | cons a p ih => rw [List.cons_append, List.cons_append, lx_same, ih]
theorem le_pre {p x y : W} : le (p ++ x) (p ++ y) ↔ le x y := by unfold le; rw [lx_pre]
theorem lx_ext {x y : W} (h : y ≠ []) : lx x (x ++ y) = true := by
  have e := lx_pre x [] y
  rw [List.append_nil] at e
  rw [e]
  exact lx_nil_l h
/-- of one length: what stands behind makes no difference -/
theorem lx_len : ∀ {x y : W} (u v : W), x.length = y.length → lx x y = true → lx (x ++ u) (y ++ v) = true
  | [], [], _, _, _, h => by cases h
  | [], _ :: _, _, _, e, _ => by cases e
  | _ :: _, [], _, _, e, _ => by cases e
  | a :: x, b :: y, u, v, e, h => by
    rw [List.cons_append, List.cons_append]
    rw [lx_cons_iff] at h ⊢
    rcases h with h | ⟨h, k⟩
    · exact .inl h
    · exact .inr ⟨h, lx_len u v (by simpa using e) k⟩
/-- x before y: they differ at a place, or x is a front of y -/
theorem lx_split : ∀ {x y : W}, lx x y = true → (∀ u v, lx (x ++ u) (y ++ v) = true) ∨ ∃ t, t ≠ [] ∧ y = x ++ t
  | [], [], h => by cases h
  | [], b :: y, _ => .inr ⟨b :: y, by simp, rfl⟩
  | _ :: _, [], h => by cases h
  | a :: x, b :: y, h => by
    rw [lx_cons_iff] at h
    rcases h with h | ⟨rfl, h⟩
    · exact .inl fun u v => lx_cons_iff.mpr (.inl h)
    · rcases lx_split h with q | ⟨t, ht, q⟩
      · exact .inl fun u v => by rw [List.cons_append, List.cons_append, lx_same]; exact q u v
      · exact .inr ⟨t, ht, by rw [q]; rfl⟩
/-! ### plain words -/
/-- as the program looks: ahead of each proper end -/
def plain (w : W) : Bool := !w.isEmpty && (List.range' 1 (w.length - 1)).all fun k => lx w (w.drop k)
/-- as the laws look: ahead of each proper turn -/
def turn (w : W) (k : Nat) : W := w.drop k ++ w.take k
def rplain (w : W) : Bool := !w.isEmpty && (List.range' 1 (w.length - 1)).all fun k => lx w (turn w k)
def Pl (w : W) : Prop := w ≠ [] ∧ ∀ k, 0 < k → k < w.length → lx w (w.drop k) = true
theorem plain_iff {w : W} : plain w = true ↔ Pl w := by
  unfold plain Pl
  rw [Bool.and_eq_true, List.all_eq_true]
  constructor
  · rintro ⟨h1, h2⟩
    refine ⟨(by intro e; rw [e] at h1; cases h1), fun k h0 hk => h2 k ?_⟩
    rw [List.mem_range'_1]; omega
  · rintro ⟨h1, h2⟩
    refine ⟨?_, fun k hk => ?_⟩
    · cases w with
      | nil => exact absurd rfl h1
      | cons _ _ => rfl
    · rw [List.mem_range'_1] at hk
      exact h2 k (by omega) (by omega)
theorem rplain_iff {w : W} : rplain w = true ↔ w ≠ [] ∧ ∀ k, 0 < k → k < w.length → lx w (turn w k) = true := by
  unfold rplain
  rw [Bool.and_eq_true, List.all_eq_true]
  constructor
  · rintro ⟨h1, h2⟩
    refine ⟨(by intro e; rw [e] at h1; cases h1), fun k h0 hk => h2 k ?_⟩
    rw [List.mem_range'_1]; omega
  · rintro ⟨h1, h2⟩
    refine ⟨?_, fun k hk => ?_⟩
    · cases w with
      | nil => exact absurd rfl h1
      | cons _ _ => rfl
    · rw [List.mem_range'_1] at hk
      exact h2 k (by omega) (by omega)
theorem Pl.ends {u v : W} (h : Pl (u ++ v)) (hu : u ≠ []) (hv : v ≠ []) : lx (u ++ v) v = true := by
  have q := h.2 u.length (List.length_pos_iff.mpr hu) (by rw [List.length_append]; have := List.length_pos_iff.mpr hv; omega)
  rwa [List.drop_left] at q
theorem Pl.of {w : W} (h0 : w ≠ []) (h : ∀ u v, u ≠ [] → v ≠ [] → w = u ++ v → lx w v = true) : Pl w := by
  refine ⟨h0, fun k h1 h2 => h (w.take k) (w.drop k) ?_ ?_ (List.take_append_drop k w).symm⟩
  · intro e
    have := congrArg List.length e
    rw [List.length_take] at this
    simp only [List.length_nil] at this
    omega
  · intro e
    have := congrArg List.length e
    rw [List.length_drop] at this
    simp only [List.length_nil] at this
    omega
theorem Pl.turns {u v : W} (h : Pl (u ++ v)) (hu : u ≠ []) (hv : v ≠ []) : lx (u ++ v) (v ++ u) = true := by
  have q := h.ends hu hv
  rcases lx_split q with z | ⟨t, _, z⟩
  · have := z [] u
    rwa [List.append_nil] at this
  · exfalso
    have e := congrArg List.length z
    have := List.length_pos_iff.mpr hu
    rw [List.length_append, List.length_append] at e
    omega
theorem plain_turn (w : W) : rplain w = plain w := by
  have key : rplain w = true ↔ plain w = true := by
    rw [rplain_iff, plain_iff]
    constructor
    · rintro ⟨h0, h⟩
      refine .of h0 fun u v hu hv e => ?_
      have hw : lx w (v ++ u) = true := by
        have := h u.length (List.length_pos_iff.mpr hu) (by rw [e, List.length_append]; have := List.length_pos_iff.mpr hv; omega)
        unfold turn at this
        rw [e, List.drop_left, List.take_left] at this
        rw [e]; exact this
      rcases lx_tri w v with q | q | q
      · exact q
      · exfalso
        have e2 := congrArg List.length (q.symm.trans e)
        have := List.length_pos_iff.mpr hu
        rw [List.length_append] at e2
        omega
      · exfalso
        rcases lx_split q with z | ⟨t, ht, z⟩
        · have := z u []
          rw [List.append_nil] at this
          have := lx_trans hw this
          rw [lx_irr] at this; cases this
        · -- w = v ++ t = u ++ v
          rw [z, lx_pre] at hw
          have lt : t.length = u.length := by
            have e2 := congrArg List.length (z.symm.trans e)
            rw [List.length_append, List.length_append] at e2
            omega
          have hr := h v.length (List.length_pos_iff.mpr hv) (by rw [z, List.length_append]; have := List.length_pos_iff.mpr ht; omega)
          unfold turn at hr
          rw [z, List.drop_left, List.take_left, ← z, e] at hr
          have := lx_len v v lt hw
          have := lx_trans this hr
          rw [lx_irr] at this; cases this
    · intro h
      refine ⟨h.1, fun k h0 hk => ?_⟩
      have hu : w.take k ≠ [] := by intro e; have := congrArg List.length e; rw [List.length_take] at this; simp only [List.length_nil] at this; omega
      have hv : w.drop k ≠ [] := by intro e; have := congrArg List.length e; rw [List.length_drop] at this; simp only [List.length_nil] at this; omega
      have h' : Pl (w.take k ++ w.drop k) := by rw [List.take_append_drop]; exact h
      have := h'.turns hu hv
      rw [List.take_append_drop] at this
      exact this
  cases h1 : rplain w <;> cases h2 : plain w <;> simp_all
theorem pl_one (a : Nat) : Pl [a] := ⟨by simp, fun k h0 h => by simp at h; omega⟩
theorem plain_one (a : Nat) : plain [a] = true := rfl
theorem plain_nil : plain [] = false := rfl
/-! ### the cut -/
/-- the first place from k on, in n places, whose end is plain -/
def seek (w : W) : Nat → Nat → Nat
  | k, 0 => k
  | k, n + 1 => if plain (w.drop k) = true then k else seek w (k + 1) n
def cutAt (w : W) : Nat := seek w 1 (w.length - 1)
theorem seek_spec (w : W) : ∀ (n k : Nat), k + n = w.length → 0 < n → k ≤ seek w k n ∧ seek w k n < w.length ∧ plain (w.drop (seek w k n)) = true ∧ ∀ j, k ≤ j → j < seek w k n → plain (w.drop j) = false
  | 0, k, _, h => absurd h (Nat.lt_irrefl 0)
  | n + 1, k, e, _ => by
    unfold seek
    by_cases hp : plain (w.drop k) = true
    · rw [if_pos hp]
      exact ⟨Nat.le_refl _, by omega, hp, fun j h1 h2 => by omega⟩
    · rw [if_neg hp]
      by_cases hn : n = 0
      · exfalso
        subst hn
        apply hp
        have hl : (w.drop k).length = 1 := by rw [List.length_drop]; omega
        match w.drop k, hl with
        | [a], _ => rfl
      · obtain ⟨h1, h2, h3, h4⟩ := seek_spec w n (k + 1) (by omega) (by omega)
        refine ⟨by omega, h2, h3, fun j hj hj2 => ?_⟩
        by_cases hjk : j = k
        · subst hjk
          cases q : plain (w.drop j) with
          | true => exact absurd q hp
          | false => rfl
        · exact h4 j (by omega) hj2
structure Cut (w : W) (k : Nat) : Prop where
  pos : 0 < k
  lt : k < w.length
  pl : plain (w.drop k) = true
  min : ∀ j, 0 < j → j < k → plain (w.drop j) = false
theorem cutAt_ok {w : W} (h : 2 ≤ w.length) : Cut w (cutAt w) := by
  obtain ⟨h1, h2, h3, h4⟩ := seek_spec w (w.length - 1) 1 (by omega) (by omega)
  exact ⟨h1, h2, h3, fun j a b => h4 j a b⟩
theorem Cut.uniq {w : W} {k j : Nat} (a : Cut w k) (b : Cut w j) : k = j := by
  rcases Nat.lt_trichotomy k j with h | h | h
  · have := b.min k a.pos h; rw [a.pl] at this; cases this
  · exact h
  · have := a.min j b.pos h; rw [b.pl] at this; cases this
/-- what stands ahead of the cut is plain -/
theorem cut_front {w : W} {k : Nat} (hw : Pl w) (c : Cut w k) : Pl (w.take k) := by
  have ek : (w.take k).length = k := by rw [List.length_take]; have := c.lt; omega
  refine .of (by intro e; rw [e] at ek; have := c.pos; simp at ek; omega) fun u v hu hv e => ?_
  have lu := List.length_pos_iff.mpr hu
  have lv := List.length_pos_iff.mpr hv
  have euv : u.length + v.length = k := by rw [← List.length_append, ← e]; exact ek
  let m := w.drop k
  have hm0 : m ≠ [] := by intro z; have z' := congrArg List.length z; rw [List.length_drop] at z'; simp at z'; have := c.lt; omega
  have ew : w = (u ++ v) ++ m := by rw [← e]; exact (List.take_append_drop k w).symm
  have hmP : Pl m := plain_iff.mp c.pl
  -- v ++ m is not plain
  have np : plain (v ++ m) = false := by
    have q := c.min u.length lu (by omega)
    have ed : w.drop u.length = v ++ m := by
      conv => lhs; rw [ew, List.append_assoc]
      exact List.drop_left
    rwa [ed] at q
  -- so an end t of it is ahead of it
  have : ∃ a t, a ≠ [] ∧ t ≠ [] ∧ v ++ m = a ++ t ∧ lx t (v ++ m) = true := by
    apply Classical.byContradiction
    intro hno
    have : Pl (v ++ m) := .of (by simp [hv]) fun a t ha ht e2 => by
      rcases lx_tri (v ++ m) t with q | q | q
      · exact q
      · exfalso
        have := congrArg List.length (q.symm.trans e2)
        have := List.length_pos_iff.mpr ha
        rw [List.length_append] at *
        omega
      · exact absurd ⟨a, t, ha, ht, e2, q⟩ hno
    rw [plain_iff.mpr this] at np
    cases np
  obtain ⟨a, t, ha, ht, e2, q⟩ := this
  have la := List.length_pos_iff.mpr ha
  have lt := List.length_pos_iff.mpr ht
  have etl : v.length + m.length = a.length + t.length := by rw [← List.length_append, ← List.length_append, e2]
  -- t at most v
  have htv : le t v := by
    rcases le_or t v with z | z
    · exact z
    · exfalso
      rcases lx_split z with y | ⟨t', ht', y⟩
      · have := y m []
        rw [List.append_nil] at this
        have := lx_trans this q
        rw [lx_irr] at this; cases this
      · rw [y, lx_pre] at q
        -- t' an end of m
        have lt' : t.length = v.length + t'.length := by rw [y, List.length_append]
        have hd : t' = m.drop (m.length - t'.length) := by
          have e3 : (v ++ m).drop (a.length + v.length) = t' := by
            rw [e2, y, ← List.append_assoc]
            have : (a ++ v).length = a.length + v.length := List.length_append
            rw [← this]
            exact List.drop_left
          have e4 : (v ++ m).drop (a.length + v.length) = m.drop a.length := by
            rw [Nat.add_comm, ← List.drop_drop, List.drop_left]
          rw [e4] at e3
          have : m.length - t'.length = a.length := by omega
          rw [this]; exact e3.symm
        have lt2 := List.length_pos_iff.mpr ht'
        have := hmP.2 (m.length - t'.length) (by omega) (by omega)
        rw [← hd] at this
        have := lx_trans this q
        rw [lx_irr] at this; cases this
  -- w ahead of t
  have hwt : lx w t = true := by
    have e5 : w = (u ++ a) ++ t := by rw [ew, List.append_assoc, e2, ← List.append_assoc]
    have h' : Pl ((u ++ a) ++ t) := by rw [← e5]; exact hw
    have := h'.ends (by simp [hu]) ht
    rwa [← e5] at this
  rw [e]
  have hwv : lx w v = true := lx_le hwt htv
  have : lx (u ++ v) w = true := by rw [ew]; exact lx_ext hm0
  exact lx_trans this hwv
/-! ### merges -/
/-- z is a merge of x and y -/
inductive Mrg : W → W → W → Prop
  | nil : Mrg [] [] []
  | left {a : Nat} {x y z : W} : Mrg x y z → Mrg (a :: x) y (a :: z)
  | right {a : Nat} {x y z : W} : Mrg x y z → Mrg x (a :: y) (a :: z)
theorem Mrg.len {x y z : W} (h : Mrg x y z) : z.length = x.length + y.length := by
  induction h with
  | nil => rfl
  | left _ ih => simp only [List.length_cons, ih]; omega
  | right _ ih => simp only [List.length_cons, ih]; omega
theorem Mrg.nil_r {x z : W} : Mrg x [] z → z = x := by
  intro h
  generalize e : ([] : W) = y at h
  induction h with
  | nil => rfl
  | left h ih => rw [ih e]
  | right h _ => cases e
theorem Mrg.nil_l {y z : W} : Mrg [] y z → z = y := by
  intro h
  generalize e : ([] : W) = x at h
  induction h with
  | nil => rfl
  | left h _ => cases e
  | right h ih => rw [ih e]
/-- p at least q: a merge of s ++ p and q is no greater than some merge of p and s ++ q -/
theorem mrg_swap : ∀ (n : Nat) (s p q z : W), s.length + p.length + q.length = n → le q p → Mrg (s ++ p) q z → ∃ z', Mrg p (s ++ q) z' ∧ le z z' := by
  intro n
  induction n with
  | zero =>
    intro s p q z hn _ h
    have h1 : s = [] := List.eq_nil_of_length_eq_zero (by omega)
    have h2 : p = [] := List.eq_nil_of_length_eq_zero (by omega)
    have h3 : q = [] := List.eq_nil_of_length_eq_zero (by omega)
    subst h1; subst h2; subst h3
    exact ⟨z, h, le_refl z⟩
  | succ n ih =>
    intro s p q z hn hqp h
    cases s with
    | nil => exact ⟨z, h, le_refl z⟩
    | cons c s =>
      rw [List.cons_append] at h
      cases h with
      | left h =>
        obtain ⟨z', h1, h2⟩ := ih s p q _ (by simp only [List.length_cons] at hn; omega) hqp h
        exact ⟨c :: z', .right h1, by unfold le at h2 ⊢; rw [lx_same]; exact h2⟩
      | @right d _ q' z1 h =>
        -- q = d :: q', p at least q
        cases p with
        | nil => exact absurd (show lx [] (d :: q') = false from hqp) (by rw [lx_nil_l (by simp)]; decide)
        | cons e p' =>
          have hde : d ≤ e ∧ (d = e → le q' p') := by
            unfold le at hqp ⊢
            rw [lx_cons] at hqp
            by_cases h1 : e < d
            · rw [if_pos h1] at hqp; cases hqp
            · rw [if_neg h1] at hqp
              refine ⟨by omega, fun he => ?_⟩
              rw [if_neg (by omega)] at hqp
              exact hqp
          by_cases he : d = e
          · subst he
            -- d :: z1, z1 a merge of c :: (s ++ d :: p') and q'
            have h' : Mrg ((c :: s ++ [d]) ++ p') q' z1 := by
              have e1 : (c :: s ++ [d]) ++ p' = c :: (s ++ d :: p') := by simp
              rw [e1]; exact h
            obtain ⟨z', h1, h2⟩ := ih (c :: s ++ [d]) p' q' z1 (by simp only [List.length_cons, List.length_append, List.length_nil] at hn ⊢; omega) (hde.2 rfl) h'
            refine ⟨d :: z', ?_, by unfold le at h2 ⊢; rw [lx_same]; exact h2⟩
            have e2 : (c :: s ++ [d]) ++ q' = c :: s ++ d :: q' := by simp
            rw [e2] at h1
            exact .left h1
          · -- any merge that begins with e
            have hlt : d < e := by omega
            have : ∃ z', Mrg p' (c :: s ++ d :: q') z' := ⟨p' ++ (c :: s ++ d :: q'), by
              have mk : ∀ a b : W, Mrg a b (a ++ b) := fun a b => by
                induction a with
                | nil =>
                  induction b with
                  | nil => exact .nil
                  | cons x b ihb => exact .right ihb
                | cons x a iha => exact .left iha
              exact mk _ _⟩
            obtain ⟨z', hz⟩ := this
            exact ⟨e :: z', .left hz, by unfold le; rw [lx_cons, if_neg (by omega), if_pos hlt]⟩
theorem mrg_app (x y : W) : Mrg x y (x ++ y) := by
  induction x with
  | nil =>
    induction y with
    | nil => exact .nil
    | cons a y ih => exact .right ih
  | cons a x ih => exact .left ih
/-- every end of x at least y: x ++ y is the greatest merge -/
theorem mrg_max : ∀ (x y z : W), (∀ u v, x = u ++ v → v ≠ [] → le y v) → Mrg x y z → le z (x ++ y)
  | [], y, z, _, h => by rw [h.nil_l]; exact le_refl _
  | a :: x, y, z, he, h => by
    cases h with
    | left h =>
      have := mrg_max x y _ (fun u v e hv => he (a :: u) v (by rw [e]; rfl) hv) h
      unfold le at this ⊢
      rw [List.cons_append, lx_same]
      exact this
    | @right b _ y' z1 h =>
      have h0 := he [] (a :: x) rfl (by simp)
      by_cases hba : b = a
      · subst hba
        have hle : le y' x := by unfold le at h0 ⊢; rw [lx_same] at h0; exact h0
        obtain ⟨z', h1, h2⟩ := mrg_swap _ [b] x y' z1 rfl hle h
        have := mrg_max x (b :: y') z' (fun u v e hv => he (b :: u) v (by rw [e]; rfl) hv) h1
        unfold le at this h2 ⊢
        rw [List.cons_append, lx_same]
        exact le_trans h2 this
      · have hlt : b < a := by
          unfold le at h0
          rw [lx_cons] at h0
          by_cases q : a < b
          · rw [if_pos q] at h0; cases h0
          · omega
        unfold le
        rw [List.cons_append, lx_cons, if_neg (by omega), if_pos hlt]
/-- a word that is not plain is the greatest merge of two parts of it -/
theorem not_plain {w : W} (h0 : w ≠ []) (hp : plain w = false) : ∃ x y, x ≠ [] ∧ y ≠ [] ∧ w = x ++ y ∧ ∀ z, Mrg x y z → le z w := by
  -- the least end
  have least : ∀ n, ∀ w : W, w.length = n → w ≠ [] → ∃ x y, w = x ++ y ∧ y ≠ [] ∧ ∀ u v, w = u ++ v → v ≠ [] → le y v := by
    intro n
    induction n with
    | zero => intro w hl hw; exact absurd (List.eq_nil_of_length_eq_zero hl) hw
    | succ n ih =>
      intro w hl hw
      cases w with
      | nil => exact absurd rfl hw
      | cons a r =>
        by_cases hr : r = []
        · subst hr
          refine ⟨[], [a], rfl, by simp, fun u v e hv => ?_⟩
          cases u with
          | nil => rw [show v = [a] from e.symm]; exact le_refl _
          | cons b u =>
            have := congrArg List.length e
            have := List.length_pos_iff.mpr hv
            simp only [List.length_cons, List.length_append, List.length_nil] at *
            omega
        · obtain ⟨x, y, e, hy, h⟩ := ih r (by simpa using hl) hr
          rcases le_or y (a :: r) with q | q
          · refine ⟨a :: x, y, by rw [e]; rfl, hy, fun u v e2 hv => ?_⟩
            cases u with
            | nil => rw [show v = a :: r from e2.symm]; exact q
            | cons b u =>
              injection e2 with _ e3
              exact h u v e3 hv
          · refine ⟨[], a :: r, rfl, by simp, fun u v e2 hv => ?_⟩
            cases u with
            | nil => rw [show v = a :: r from e2.symm]; exact le_refl _
            | cons b u =>
              injection e2 with _ e3
              exact le_trans (le_of_lx q) (h u v e3 hv)
  obtain ⟨x, y, e, hy, h⟩ := least _ w rfl h0
  have hx : x ≠ [] := by
    rintro rfl
    have ewy : w = y := e
    have : Pl w := .of h0 fun u v hu hv e2 => by
      have q := h u v e2 hv
      rw [← ewy] at q
      rcases le_cases q with z | z
      · exfalso
        have e3 := congrArg List.length (z.symm.trans e2)
        have := List.length_pos_iff.mpr hu
        rw [List.length_append] at e3
        omega
      · exact z
    rw [plain_iff.mpr this] at hp
    cases hp
  refine ⟨x, y, hx, hy, e, fun z hz => ?_⟩
  rw [e]
  refine mrg_max x y z (fun u v ex hv => ?_) hz
  -- v an end of x: y at most v
  have hvy : le y (v ++ y) := h u (v ++ y) (by rw [e, ex, List.append_assoc]) (by simp [hv])
  rcases le_or y v with q | q
  · exact q
  · exfalso
    rcases lx_split q with k | ⟨t, ht, k⟩
    · have := k y []
      rw [List.append_nil] at this
      rw [show lx (v ++ y) y = false from hvy] at this
      cases this
    · -- y = v ++ t
      have hty : le y t := h (x ++ v) t (by rw [e]; conv => lhs; rw [k]
                                            rw [List.append_assoc]) ht
      have e6 : le (v ++ t) (v ++ y) := by rw [← k]; exact hvy
      rw [le_pre] at e6
      have := le_anti hty e6
      have e7 := congrArg List.length k
      have l1 := List.length_pos_iff.mpr hv
      rw [List.length_append] at e7
      have e8 : y.length = t.length := by rw [← this]
      omega
end TB
/-! ## TbPoly -/
/-! Sums of words; brackets as functionals; what a bracket's words keep: merges, the right-hand brackets; plain brackets. -/
namespace TB
/-- a bracket: a letter's code, or two brackets -/
inductive Br where
  | leaf (c : Nat)
  | node (l r : Br)
  deriving DecidableEq
def Br.wt : Br → Nat
  | .leaf _ => 1
  | .node l r => l.wt + r.wt
def Br.depth : Br → Nat
  | .leaf _ => 0
  | .node l r => max l.depth r.depth + 1
def Br.letters : Br → W
  | .leaf c => [c]
  | .node l r => l.letters ++ r.letters
theorem Br.wt_pos : ∀ t : Br, 0 < t.wt
  | .leaf _ => Nat.one_pos
  | .node l r => Nat.lt_of_lt_of_le l.wt_pos (Nat.le_add_right _ _)
theorem Br.letters_len : ∀ t : Br, t.letters.length = t.wt
  | .leaf _ => rfl
  | .node l r => by show (l.letters ++ r.letters).length = _; rw [List.length_append, l.letters_len, r.letters_len]; rfl
theorem Br.depth_lt : ∀ t : Br, t.depth < t.wt
  | .leaf _ => Nat.one_pos
  | .node l r => by
    have h1 := l.depth_lt
    have h2 := r.depth_lt
    show max l.depth r.depth + 1 < l.wt + r.wt
    have := l.wt_pos
    have := r.wt_pos
    rcases Nat.le_total l.depth r.depth with h | h
    · rw [Nat.max_eq_right h]; omega
    · rw [Nat.max_eq_left h]; omega
/-! ### a sum of words, its pairing with a function -/
abbrev P := List (W × Int)
def pr : P → (W → Int) → Int
  | [], _ => 0
  | (w, c) :: r, φ => c * φ w + pr r φ
theorem pr_nil (φ : W → Int) : pr [] φ = 0 := rfl
theorem pr_cons (w : W) (c : Int) (r : P) (φ : W → Int) : pr ((w, c) :: r) φ = c * φ w + pr r φ := rfl
theorem pr_app : ∀ (p q : P) (φ : W → Int), pr (p ++ q) φ = pr p φ + pr q φ
  | [], q, φ => by rw [List.nil_append, pr_nil, Int.zero_add]
  | (w, c) :: r, q, φ => by rw [List.cons_append, pr_cons, pr_cons, pr_app r q φ, Int.add_assoc]
theorem pr_congr : ∀ {p : P} {φ ψ : W → Int}, (∀ x ∈ p, φ x.1 = ψ x.1) → pr p φ = pr p ψ
  | [], _, _, _ => rfl
  | (w, c) :: r, φ, ψ, h => by
    rw [pr_cons, pr_cons, h (w, c) List.mem_cons_self, pr_congr fun x hx => h x (List.mem_cons_of_mem _ hx)]
theorem pr_add (p : P) (φ ψ : W → Int) : pr p (fun w => φ w + ψ w) = pr p φ + pr p ψ := by
  induction p with
  | nil => rfl
  | cons x r ih =>
    obtain ⟨w, c⟩ := x
    rw [pr_cons, pr_cons, pr_cons, ih, Int.mul_add]; omega
theorem pr_mul (p : P) (k : Int) (φ : W → Int) : pr p (fun w => k * φ w) = k * pr p φ := by
  induction p with
  | nil => simp [pr_nil]
  | cons x r ih =>
    obtain ⟨w, c⟩ := x
    rw [pr_cons, pr_cons, ih, Int.mul_add, ← Int.mul_assoc, ← Int.mul_assoc, Int.mul_comm c k]
theorem pr_zero (p : P) : pr p (fun _ => 0) = 0 := by
  induction p with
  | nil => rfl
  | cons x r ih => obtain ⟨w, c⟩ := x; rw [pr_cons, ih, Int.mul_zero]; rfl
theorem pr_neg (p : P) (φ : W → Int) : pr p (fun w => - φ w) = - pr p φ := by
  have := pr_mul p (-1) φ
  rw [Int.neg_mul, Int.one_mul] at this
  rw [← this]
  exact pr_congr fun x _ => by rw [Int.neg_mul, Int.one_mul]
theorem pr_sub (p : P) (φ ψ : W → Int) : pr p (fun w => φ w - ψ w) = pr p φ - pr p ψ := by
  have h := pr_add p φ (fun w => - ψ w)
  rw [pr_neg] at h
  rw [Int.sub_eq_add_neg, ← h]
  exact pr_congr fun x _ => by rw [Int.sub_eq_add_neg]
theorem pr_mulr (p : P) (k : Int) (φ : W → Int) : pr p (fun w => φ w * k) = pr p φ * k := by
  rw [Int.mul_comm, ← pr_mul]; exact pr_congr fun x _ => Int.mul_comm _ _
/-! ### functionals that are linear -/
structure Lin (L : (W → Int) → Int) : Prop where
  add : ∀ φ ψ, L (fun w => φ w + ψ w) = L φ + L ψ
  mul : ∀ (k : Int) φ, L (fun w => k * φ w) = k * L φ
theorem Lin.zero {L : (W → Int) → Int} (h : Lin L) : L (fun _ => 0) = 0 := by
  have e : L (fun w => (0 : Int) * (fun _ : W => (0 : Int)) w) = (0 : Int) * L (fun _ => 0) := h.mul 0 (fun _ => 0)
  rw [Int.zero_mul] at e
  exact e
theorem Lin.neg {L : (W → Int) → Int} (h : Lin L) (φ : W → Int) : L (fun w => - φ w) = - L φ := by
  have := h.mul (-1) φ
  have e : (fun w => (-1 : Int) * φ w) = fun w => - φ w := by funext w; omega
  rw [e] at this
  omega
theorem Lin.sub {L : (W → Int) → Int} (h : Lin L) (φ ψ : W → Int) : L (fun w => φ w - ψ w) = L φ - L ψ := by
  have := h.add φ (fun w => - ψ w)
  rw [h.neg] at this
  rw [Int.sub_eq_add_neg, ← this]; congr 1
theorem lin_pr (p : P) : Lin (pr p) := ⟨pr_add p, fun k φ => pr_mul p k φ⟩
/-- sums of words and linear functionals change places -/
theorem Lin.pr {L : (W → Int) → Int} (h : Lin L) (p : P) (f : W → W → Int) : L (fun a => TB.pr p (fun b => f a b)) = TB.pr p (fun b => L (fun a => f a b)) := by
  induction p with
  | nil => exact h.zero
  | cons x r ih =>
    obtain ⟨w, c⟩ := x
    show L (fun a => c * f a w + TB.pr r (fun b => f a b)) = c * L (fun a => f a w) + TB.pr r (fun b => L (fun a => f a b))
    rw [h.add, h.mul, ih]
/-! ### a bracket's words, as a functional -/
def br : Br → (W → Int) → Int
  | .leaf c, φ => φ [c]
  | .node l r, φ => br l fun a => br r fun b => φ (a ++ b) - φ (b ++ a)
theorem br_node (l r : Br) (φ : W → Int) : br (.node l r) φ = br l fun a => br r fun b => φ (a ++ b) - φ (b ++ a) := rfl
theorem br_lin : ∀ t : Br, Lin (br t)
  | .leaf _ => ⟨fun _ _ => rfl, fun _ _ => rfl⟩
  | .node l r => by
    have hl := br_lin l
    have hr := br_lin r
    refine ⟨fun φ ψ => ?_, fun k φ => ?_⟩
    · rw [br_node, br_node, br_node, ← hl.add]
      congr 1; funext a
      rw [← hr.add]
      congr 1; funext b
      omega
    · rw [br_node, br_node, ← hl.mul]
      congr 1; funext a
      rw [← hr.mul]
      congr 1; funext b
      rw [Int.mul_sub]
/-- two brackets change places -/
theorem br_swap : ∀ (t u : Br) (f : W → W → Int), (br t fun a => br u fun b => f a b) = br u fun b => br t fun a => f a b
  | .leaf _, _, _ => rfl
  | .node l r, u, f => by
    rw [br_node]
    have e1 : (fun a => br r fun b => (br u fun c => f (a ++ b) c) - br u fun c => f (b ++ a) c) = fun a => br u fun c => br r fun b => f (a ++ b) c - f (b ++ a) c := by
      funext a
      rw [← br_swap r u]
      congr 1; funext b
      rw [(br_lin u).sub]
    rw [e1, br_swap l u]
    rfl
/-- the words of a bracket, with repeats -/
def ws : Br → List W
  | .leaf c => [[c]]
  | .node l r => (ws l).flatMap fun a => (ws r).flatMap fun b => [a ++ b, b ++ a]
theorem mem_ws_node {l r : Br} {w : W} : w ∈ ws (.node l r) ↔ ∃ a ∈ ws l, ∃ b ∈ ws r, w = a ++ b ∨ w = b ++ a := by
  show w ∈ (ws l).flatMap _ ↔ _
  rw [List.mem_flatMap]
  constructor
  · rintro ⟨a, ha, h⟩
    rw [List.mem_flatMap] at h
    obtain ⟨b, hb, h⟩ := h
    rw [List.mem_cons, List.mem_cons] at h
    refine ⟨a, ha, b, hb, ?_⟩
    rcases h with h | h | h
    · exact .inl h
    · exact .inr h
    · cases h
  · rintro ⟨a, ha, b, hb, h⟩
    refine ⟨a, ha, ?_⟩
    rw [List.mem_flatMap]
    refine ⟨b, hb, ?_⟩
    rw [List.mem_cons, List.mem_cons]
    rcases h with h | h
    · exact .inl h
    · exact .inr (.inl h)
theorem br_congr : ∀ (t : Br) {φ ψ : W → Int}, (∀ w ∈ ws t, φ w = ψ w) → br t φ = br t ψ
  | .leaf c, φ, ψ, h => h [c] (by simp [ws])
  | .node l r, φ, ψ, h => by
    rw [br_node, br_node]
    refine br_congr l fun a ha => br_congr r fun b hb => ?_
    rw [h (a ++ b) (mem_ws_node.mpr ⟨a, ha, b, hb, .inl rfl⟩), h (b ++ a) (mem_ws_node.mpr ⟨a, ha, b, hb, .inr rfl⟩)]
theorem ws_perm : ∀ (t : Br) {w : W}, w ∈ ws t → w.Perm t.letters
  | .leaf c, w, h => by
    have : w = [c] := by simpa [ws] using h
    rw [this]
    exact List.Perm.refl _
  | .node l r, w, h => by
    obtain ⟨a, ha, b, hb, h⟩ := mem_ws_node.mp h
    have h1 := ws_perm l ha
    have h2 := ws_perm r hb
    rcases h with rfl | rfl
    · exact h1.append h2
    · exact List.perm_append_comm.trans (h1.append h2)
theorem ws_len {t : Br} {w : W} (h : w ∈ ws t) : w.length = t.wt := by rw [(ws_perm t h).length_eq, t.letters_len]
theorem ws_ne {t : Br} {w : W} (h : w ∈ ws t) : w ≠ [] := by
  intro e
  have := ws_len h
  rw [e] at this
  have := t.wt_pos
  simp at *; omega
theorem ws_lets {t : Br} {w : W} (h : w ∈ ws t) {c : Nat} (hc : c ∈ w) : c ∈ t.letters := (ws_perm t h).mem_iff.mp hc
/-! ### merges: a bracket's words and unmerging -/
/-- over all ways to part a word in two -/
def un : W → (W → W → Int) → Int
  | [], φ => φ [] []
  | a :: w, φ => un w (fun x y => φ (a :: x) y) + un w (fun x y => φ x (a :: y))
theorem un_cons (a : Nat) (w : W) (φ : W → W → Int) : un (a :: w) φ = un w (fun x y => φ (a :: x) y) + un w (fun x y => φ x (a :: y)) := rfl
theorem un_app : ∀ (u v : W) (φ : W → W → Int), un (u ++ v) φ = un u fun x1 y1 => un v fun x2 y2 => φ (x1 ++ x2) (y1 ++ y2)
  | [], v, φ => rfl
  | a :: u, v, φ => by
    rw [List.cons_append, un_cons, un_cons, un_app u v, un_app u v]
    rfl
theorem un_add : ∀ (w : W) (φ ψ : W → W → Int), un w (fun x y => φ x y + ψ x y) = un w φ + un w ψ
  | [], _, _ => rfl
  | a :: w, φ, ψ => by
    have h1 := un_add w (fun x y => φ (a :: x) y) (fun x y => ψ (a :: x) y)
    have h2 := un_add w (fun x y => φ x (a :: y)) (fun x y => ψ x (a :: y))
    rw [un_cons, un_cons, un_cons, h1, h2]; omega
theorem un_lin {L : (W → Int) → Int} (h : Lin L) : ∀ (w : W) (f : W → W → W → Int), L (fun b => un w (fun x y => f b x y)) = un w fun x y => L fun b => f b x y
  | [], _ => rfl
  | a :: w, f => by
    rw [un_cons, ← un_lin h w, ← un_lin h w, ← h.add]
    rfl
/-- a bracket's words unmerge to the word and nothing -/
theorem br_un : ∀ (t : Br) (φ : W → W → Int), (br t fun w => un w φ) = (br t fun w => φ w []) + br t fun w => φ [] w
  | .leaf c, φ => rfl
  | .node l r, φ => by
    have hl := br_lin l
    have hr := br_lin r
    have one : (br l fun a => br r fun b => un (a ++ b) φ) = (br l fun a => br r fun b => φ (a ++ b) [] + φ a b) + br l fun a => br r fun b => φ b a + φ [] (a ++ b) := by
      have e1 : (fun a => br r fun b => un (a ++ b) φ) = fun a => un a fun x1 y1 => br r (fun b => φ (x1 ++ b) y1 + φ x1 (y1 ++ b)) := by
        funext a
        have e2 : (fun b => un (a ++ b) φ) = fun b => un a fun x1 y1 => un b fun x2 y2 => φ (x1 ++ x2) (y1 ++ y2) := by
          funext b; rw [un_app]
        rw [e2, un_lin hr]
        congr 1; funext x1 y1
        rw [br_un r, ← hr.add]
        congr 1; funext b
        rw [List.append_nil, List.append_nil]
      rw [e1, br_un l]
      rfl
    have two : (br l fun a => br r fun b => un (b ++ a) φ) = (br l fun a => br r fun b => φ (b ++ a) [] + φ a b) + br l fun a => br r fun b => φ b a + φ [] (b ++ a) := by
      have e0 : (br l fun a => br r fun b => un (b ++ a) φ) = br r fun b => br l fun a => un (b ++ a) φ := br_swap l r _
      have e1 : (fun b => br l fun a => un (b ++ a) φ) = fun b => un b fun x1 y1 => br l (fun a => φ (x1 ++ a) y1 + φ x1 (y1 ++ a)) := by
        funext b
        have e2 : (fun a => un (b ++ a) φ) = fun a => un b fun x1 y1 => un a fun x2 y2 => φ (x1 ++ x2) (y1 ++ y2) := by
          funext a; rw [un_app]
        rw [e2, un_lin hl]
        congr 1; funext x1 y1
        rw [br_un l, ← hl.add]
        congr 1; funext a
        rw [List.append_nil, List.append_nil]
      rw [e0, e1, br_un r, ← hr.add, ← hl.add]
      have e3 : (fun w => (br l fun a => φ (w ++ a) ([] : W) + φ w ([] ++ a)) + br l fun a => φ ([] ++ a) w + φ [] (w ++ a)) = fun w => br l fun a => (φ (w ++ a) [] + φ w a) + (φ a w + φ [] (w ++ a)) := by
        funext w
        rw [← hl.add]
        rfl
      rw [e3, br_swap r l]
      congr 1; funext a
      rw [← hr.add]
      congr 1; funext b
      show φ (b ++ a) [] + φ b a + (φ a b + φ [] (b ++ a)) = φ (b ++ a) [] + φ a b + (φ b a + φ [] (b ++ a))
      omega
    have split : ∀ f g : W → W → Int, (br l fun a => br r fun b => f a b - g a b) = (br l fun a => br r fun b => f a b) - br l fun a => br r fun b => g a b := fun f g => by
      rw [← hl.sub]; congr 1; funext a; rw [← hr.sub]
    rw [br_node, br_node, br_node, split, one, two, ← hl.add, ← hl.add, ← hl.sub, ← hl.add]
    congr 1; funext a
    rw [← hr.add, ← hr.add, ← hr.sub, ← hr.add]
    congr 1; funext b
    omega
/-- one at the pair (x, y) -/
def dl (x y : W) (x' y' : W) : Int := if x' = x ∧ y' = y then 1 else 0
def mg (x y w : W) : Int := un w (dl x y)
theorem un_zero : ∀ (w : W), un w (fun _ _ => 0) = 0
  | [] => rfl
  | a :: w => by rw [un_cons, un_zero w]; rfl
theorem mg_nil (x y : W) : mg x y [] = if x = [] ∧ y = [] then 1 else 0 := by
  show (if [] = x ∧ [] = y then (1 : Int) else 0) = _
  by_cases h1 : x = []
  · by_cases h2 : y = []
    · rw [if_pos ⟨h1.symm, h2.symm⟩, if_pos ⟨h1, h2⟩]
    · rw [if_neg fun q => h2 q.2.symm, if_neg fun q => h2 q.2]
  · rw [if_neg fun q => h1 q.1.symm, if_neg fun q => h1 q.1]
theorem dl_left (a : Nat) (x y : W) : (fun x' y' => dl x y (a :: x') y') = match x with | [] => fun _ _ => 0 | b :: r => if a = b then dl r y else fun _ _ => 0 := by
  cases x with
  | nil =>
    funext x' y'
    show (if a :: x' = [] ∧ y' = y then (1 : Int) else 0) = 0
    rw [if_neg (by simp)]
  | cons b r =>
    funext x' y'
    show (if a :: x' = b :: r ∧ y' = y then (1 : Int) else 0) = (if a = b then dl r y else fun _ _ => 0) x' y'
    by_cases h : a = b
    · subst h
      rw [if_pos rfl]
      unfold dl
      by_cases q : x' = r ∧ y' = y
      · rw [if_pos q, if_pos ⟨by rw [q.1], q.2⟩]
      · rw [if_neg q, if_neg fun z => q ⟨by simpa using z.1, z.2⟩]
    · rw [if_neg h, if_neg fun z => h (by have := z.1; injection this)]
theorem dl_right (a : Nat) (x y : W) : (fun x' y' => dl x y x' (a :: y')) = match y with | [] => fun _ _ => 0 | b :: r => if a = b then dl x r else fun _ _ => 0 := by
  cases y with
  | nil =>
    funext x' y'
    show (if x' = x ∧ a :: y' = [] then (1 : Int) else 0) = 0
    rw [if_neg (by simp)]
  | cons b r =>
    funext x' y'
    show (if x' = x ∧ a :: y' = b :: r then (1 : Int) else 0) = (if a = b then dl x r else fun _ _ => 0) x' y'
    by_cases h : a = b
    · subst h
      rw [if_pos rfl]
      unfold dl
      by_cases q : x' = x ∧ y' = r
      · rw [if_pos q, if_pos ⟨q.1, by rw [q.2]⟩]
      · rw [if_neg q, if_neg fun z => q ⟨z.1, by simpa using z.2⟩]
    · rw [if_neg h, if_neg fun z => h (by have := z.2; injection this)]
theorem mg_cons (x y : W) (a : Nat) (w : W) : mg x y (a :: w) = (match x with | [] => 0 | b :: r => if a = b then mg r y w else 0) + (match y with | [] => 0 | b :: r => if a = b then mg x r w else 0) := by
  unfold mg
  rw [un_cons, dl_left, dl_right]
  congr 1
  · cases x with
    | nil => exact un_zero w
    | cons b r =>
      show un w (if a = b then dl r y else fun _ _ => 0) = if a = b then un w (dl r y) else 0
      by_cases h : a = b
      · rw [if_pos h, if_pos h]
      · rw [if_neg h, if_neg h]; exact un_zero w
  · cases y with
    | nil => exact un_zero w
    | cons b r =>
      show un w (if a = b then dl x r else fun _ _ => 0) = if a = b then un w (dl x r) else 0
      by_cases h : a = b
      · rw [if_pos h, if_pos h]
      · rw [if_neg h, if_neg h]; exact un_zero w
theorem mg_nonneg : ∀ (w x y : W), 0 ≤ mg x y w
  | [], x, y => by rw [mg_nil]; split <;> decide
  | a :: w, x, y => by
    rw [mg_cons]
    have h1 : 0 ≤ (match x with | [] => (0 : Int) | b :: r => if a = b then mg r y w else 0) := by
      cases x with
      | nil => exact Int.le_refl 0
      | cons b r =>
        show 0 ≤ if a = b then mg r y w else 0
        split
        · exact mg_nonneg w r y
        · exact Int.le_refl 0
    have h2 : 0 ≤ (match y with | [] => (0 : Int) | b :: r => if a = b then mg x r w else 0) := by
      cases y with
      | nil => exact Int.le_refl 0
      | cons b r =>
        show 0 ≤ if a = b then mg x r w else 0
        split
        · exact mg_nonneg w x r
        · exact Int.le_refl 0
    exact Int.add_nonneg h1 h2
theorem mg_mrg : ∀ (w x y : W), mg x y w ≠ 0 → Mrg x y w
  | [], x, y, h => by
    rw [mg_nil] at h
    by_cases q : x = [] ∧ y = []
    · rw [q.1, q.2]; exact .nil
    · rw [if_neg q] at h; exact absurd rfl h
  | a :: w, x, y, h => by
    rw [mg_cons] at h
    by_cases h1 : (match x with | [] => (0 : Int) | b :: r => if a = b then mg r y w else 0) = 0
    · rw [h1, Int.zero_add] at h
      cases y with
      | nil => exact absurd rfl h
      | cons b r =>
        have h' : (if a = b then mg x r w else 0) ≠ 0 := h
        by_cases q : a = b
        · subst q
          rw [if_pos rfl] at h'
          exact .right (mg_mrg w x r h')
        · rw [if_neg q] at h'; exact absurd rfl h'
    · cases x with
      | nil => exact absurd rfl h1
      | cons b r =>
        have h' : (if a = b then mg r y w else 0) ≠ 0 := h1
        by_cases q : a = b
        · subst q
          rw [if_pos rfl] at h'
          exact .left (mg_mrg w r y h')
        · rw [if_neg q] at h'; exact absurd rfl h'
theorem mg_app : ∀ (x y : W), 0 < mg x y (x ++ y)
  | [], [] => by rw [List.nil_append, mg_nil, if_pos ⟨rfl, rfl⟩]; decide
  | [], b :: y => by
    rw [List.nil_append, mg_cons]
    show 0 < (0 : Int) + if b = b then mg [] y y else 0
    rw [if_pos rfl, Int.zero_add]
    exact mg_app [] y
  | a :: x, y => by
    rw [List.cons_append, mg_cons]
    show 0 < (if a = a then mg x y (x ++ y) else 0) + _
    rw [if_pos rfl]
    have h1 := mg_app x y
    have h2 : 0 ≤ (match y with | [] => (0 : Int) | b :: r => if a = b then mg (a :: x) r (x ++ y) else 0) := by
      cases y with
      | nil => exact Int.le_refl 0
      | cons b r =>
        show 0 ≤ if a = b then mg (a :: x) r (x ++ b :: r) else 0
        split
        · exact mg_nonneg _ _ _
        · exact Int.le_refl 0
    exact Int.lt_of_lt_of_le h1 (Int.le_add_of_nonneg_right h2)
theorem br_mg (t : Br) {x y : W} (hx : x ≠ []) (hy : y ≠ []) : br t (mg x y) = 0 := by
  show (br t fun w => un w (dl x y)) = 0
  rw [br_un]
  have e1 : (fun w => dl x y w []) = fun _ => 0 := by
    funext w
    show (if w = x ∧ [] = y then (1 : Int) else 0) = 0
    rw [if_neg fun q => hy q.2.symm]
  have e2 : (fun w => dl x y [] w) = fun _ => 0 := by
    funext w
    show (if [] = x ∧ w = y then (1 : Int) else 0) = 0
    rw [if_neg fun q => hx q.1.symm]
  rw [e1, e2, (br_lin t).zero]
  rfl
theorem br_nil (t : Br) {φ : W → Int} (h : ∀ w, w ≠ [] → φ w = 0) : br t φ = 0 := by
  rw [br_congr t (ψ := fun _ => 0) fun w hw => h w (ws_ne hw)]
  exact (br_lin t).zero
/-! ### the brackets from the right -/
/-- the bracket of a word's letters from the right -/
def rn : W → Br
  | [] => .leaf 0
  | [a] => .leaf a
  | a :: b :: w => .node (.leaf a) (rn (b :: w))
def ad1 (a : Nat) (φ : W → Int) : W → Int := fun b => φ (a :: b) - φ (b ++ [a])
def adT : W → (W → Int) → (W → Int)
  | [], φ => φ
  | a :: u, φ => adT u (ad1 a φ)
/-- the bracket of a word from the right, as a functional of the word -/
def dk (φ : W → Int) (w : W) : Int := br (rn w) φ
theorem dk_one (φ : W → Int) (a : Nat) : dk φ [a] = φ [a] := rfl
theorem dk_cons (φ : W → Int) (a : Nat) {w : W} (h : w ≠ []) : dk φ (a :: w) = dk (ad1 a φ) w := by
  cases w with
  | nil => exact absurd rfl h
  | cons b w => rfl
theorem dk_app (φ : W → Int) : ∀ (u : W) {v : W}, v ≠ [] → dk φ (u ++ v) = dk (adT u φ) v
  | [], _, _ => rfl
  | a :: u, v, h => by
    rw [List.cons_append, dk_cons φ a (by simp [h])]
    show _ = dk (adT u (ad1 a φ)) v
    rw [dk_app _ u h]
theorem adT_app : ∀ (u v : W) (φ : W → Int), adT (u ++ v) φ = adT v (adT u φ)
  | [], _, _ => rfl
  | a :: u, v, φ => adT_app u v (ad1 a φ)
theorem br_ad : ∀ (t : Br) (φ : W → Int) (f : W), (br t fun u => adT u φ f) = br t fun u => φ (u ++ f) - φ (f ++ u)
  | .leaf c, φ, f => rfl
  | .node l r, φ, f => by
    have hl := br_lin l
    have hr := br_lin r
    have split : ∀ f g : W → W → Int, (br l fun a => br r fun b => f a b - g a b) = (br l fun a => br r fun b => f a b) - br l fun a => br r fun b => g a b := fun f g => by
      rw [← hl.sub]; congr 1; funext a; rw [← hr.sub]
    have one : ∀ (t u : Br), (∀ (φ : W → Int) (f : W), (br t fun u => adT u φ f) = br t fun u => φ (u ++ f) - φ (f ++ u)) → (∀ (φ : W → Int) (f : W), (br u fun a => adT a φ f) = br u fun a => φ (a ++ f) - φ (f ++ a)) →
        (br t fun a => br u fun b => adT (a ++ b) φ f) = br t fun a => br u fun b => φ (a ++ (b ++ f)) - φ ((b ++ f) ++ a) - (φ (a ++ (f ++ b)) - φ ((f ++ b) ++ a)) := by
      intro t u h1 h2
      have e1 : (fun a => br u fun b => adT (a ++ b) φ f) = fun a => br u fun b => adT a φ (b ++ f) - adT a φ (f ++ b) := by
        funext a
        rw [← h2]
        congr 1; funext b
        rw [adT_app]
      rw [e1, br_swap t u, br_swap t u]
      congr 1; funext b
      rw [(br_lin t).sub, h1, h1, ← (br_lin t).sub]
    have two := one l r (br_ad l) (br_ad r)
    have three := one r l (br_ad r) (br_ad l)
    rw [br_node, br_node, split, two]
    have e0 : (br l fun a => br r fun b => adT (b ++ a) φ f) = br r fun b => br l fun a => adT (b ++ a) φ f := br_swap l r _
    rw [e0, three, br_swap r l, ← split]
    congr 1; funext a
    congr 1; funext b
    simp only [List.append_assoc]
    omega
/-- Dynkin's rule -/
theorem br_dk : ∀ (t : Br) (φ : W → Int), br t (dk φ) = (t.wt : Int) * br t φ
  | .leaf c, φ => by
    show φ [c] = ((1 : Nat) : Int) * φ [c]
    omega
  | .node l r, φ => by
    have hl := br_lin l
    have hr := br_lin r
    have split : ∀ f g : W → W → Int, (br l fun a => br r fun b => f a b - g a b) = (br l fun a => br r fun b => f a b) - br l fun a => br r fun b => g a b := fun f g => by
      rw [← hl.sub]; congr 1; funext a; rw [← hr.sub]
    have one : ∀ t u : Br, (∀ φ, br u (dk φ) = (u.wt : Int) * br u φ) → (br t fun a => br u fun b => dk φ (a ++ b)) = (u.wt : Int) * br t fun a => br u fun b => φ (a ++ b) - φ (b ++ a) := by
      intro t u hu
      have e1 : (fun a => br u fun b => dk φ (a ++ b)) = fun a => (u.wt : Int) * br u (adT a φ) := by
        funext a
        rw [← hu]
        exact br_congr u fun b hb => dk_app φ a (ws_ne hb)
      rw [e1, (br_lin t).mul]
      congr 1
      show (br t fun a => br u fun b => adT a φ b) = _
      rw [br_swap t u, br_swap t u]
      congr 1; funext b
      exact br_ad t φ b
    rw [br_node, br_node, split, one l r (br_dk r)]
    have e0 : (br l fun a => br r fun b => dk φ (b ++ a)) = br r fun b => br l fun a => dk φ (b ++ a) := br_swap l r _
    rw [e0, one r l (br_dk l)]
    have e1 : (br r fun b => br l fun a => φ (b ++ a) - φ (a ++ b)) = - br l fun a => br r fun b => φ (a ++ b) - φ (b ++ a) := by
      rw [br_swap r l, ← hl.neg]
      congr 1; funext a
      rw [← hr.neg]
      congr 1; funext b
      omega
    rw [e1]
    show _ = ((l.wt + r.wt : Nat) : Int) * _
    rw [Int.natCast_add, Int.add_mul, Int.mul_neg]
    omega
/-! ### the plain bracket -/
def pb (w : W) : Br :=
  if h : 2 ≤ w.length then .node (pb (w.take (cutAt w))) (pb (w.drop (cutAt w))) else .leaf (w.headD 0)
termination_by w.length
decreasing_by
  · have c := cutAt_ok h
    rw [List.length_take]
    have := c.lt
    omega
  · have c := cutAt_ok h
    rw [List.length_drop]
    have := c.pos
    omega
theorem pb_one (a : Nat) : pb [a] = .leaf a := by rw [pb, dif_neg (by simp)]; rfl
theorem pb_two {w : W} (h : 2 ≤ w.length) : pb w = .node (pb (w.take (cutAt w))) (pb (w.drop (cutAt w))) := by
  conv => lhs; rw [pb]
  rw [dif_pos h]
/-- by parts, for a plain word -/
theorem pl_ind {C : W → Prop} (one : ∀ a, C [a]) (two : ∀ u v, Pl (u ++ v) → Pl u → Pl v → Cut (u ++ v) u.length → pb (u ++ v) = .node (pb u) (pb v) → C u → C v → C (u ++ v)) : ∀ (n : Nat) (w : W), w.length = n → Pl w → C w := by
  intro n
  induction n using Nat.strongRecOn with
  | _ n ih =>
    intro w hn hw
    by_cases h2 : 2 ≤ w.length
    · have c := cutAt_ok h2
      have h1 := c.pos
      have h3 := c.lt
      have eu : (w.take (cutAt w)).length = cutAt w := by rw [List.length_take]; omega
      have ev : (w.drop (cutAt w)).length = w.length - cutAt w := List.length_drop
      have ew : w.take (cutAt w) ++ w.drop (cutAt w) = w := List.take_append_drop _ _
      have pu := cut_front hw c
      have pv := plain_iff.mp c.pl
      have := two (w.take (cutAt w)) (w.drop (cutAt w)) (by rw [ew]; exact hw) pu pv (by rw [ew, eu]; exact c) (by rw [ew]; exact pb_two h2)
        (ih _ (by omega) _ eu pu) (ih _ (by omega) _ ev pv)
      rwa [ew] at this
    · have := List.length_pos_iff.mpr hw.1
      match w, h2, this with
      | [a], _, _ => exact one a
      | _ :: _ :: _, h2, _ => exact absurd (by simp) h2
theorem pb_letters {w : W} (h : Pl w) : (pb w).letters = w := by
  refine pl_ind (C := fun w => (pb w).letters = w) (fun a => by rw [pb_one]; rfl) (fun u v _ _ _ _ e h1 h2 => ?_) _ w rfl h
  rw [e]
  show (pb u).letters ++ (pb v).letters = _
  rw [h1, h2]
theorem pb_wt {w : W} (h : Pl w) : (pb w).wt = w.length := by rw [← Br.letters_len, pb_letters h]
/-- one at a word -/
def dw (w : W) (x : W) : Int := if x = w then 1 else 0
theorem dw_same (w : W) : dw w w = 1 := if_pos rfl
theorem dw_ne {w x : W} (h : x ≠ w) : dw w x = 0 := if_neg h
/-- among the words of the plain bracket the word stands once, and is the least -/
theorem pb_first {w : W} (h : Pl w) : (∀ x ∈ ws (pb w), le w x) ∧ br (pb w) (dw w) = 1 := by
  refine pl_ind (C := fun w => (∀ x ∈ ws (pb w), le w x) ∧ br (pb w) (dw w) = 1) (fun a => ?_) (fun u v hw pu pv _ e h1 h2 => ?_) _ w rfl h
  · rw [pb_one]
    refine ⟨fun x hx => ?_, dw_same _⟩
    have : x = [a] := by simpa [ws] using hx
    rw [this]; exact le_refl _
  · have lenU : ∀ a ∈ ws (pb u), a.length = u.length := fun a ha => by rw [ws_len ha, pb_wt pu]
    have lenV : ∀ b ∈ ws (pb v), b.length = v.length := fun b hb => by rw [ws_len hb, pb_wt pv]
    have hvu : lx (u ++ v) (v ++ u) = true := hw.turns pu.1 pv.1
    have ab : ∀ a ∈ ws (pb u), ∀ b ∈ ws (pb v), le (u ++ v) (a ++ b) ∧ lx (u ++ v) (b ++ a) = true := by
      intro a ha b hb
      have la := lenU a ha
      have lb := lenV b hb
      constructor
      · rcases le_cases (h1.1 a ha) with q | q
        · rw [← q, le_pre]; exact h2.1 b hb
        · exact le_of_lx (lx_len v b la.symm q)
      · refine lx_le hvu ?_
        rcases le_cases (h2.1 b hb) with q | q
        · rw [← q, le_pre]; exact h1.1 a ha
        · exact le_of_lx (lx_len u a lb.symm q)
    rw [e]
    refine ⟨fun x hx => ?_, ?_⟩
    · obtain ⟨a, ha, b, hb, h⟩ := mem_ws_node.mp hx
      rcases h with rfl | rfl
      · exact (ab a ha b hb).1
      · exact le_of_lx (ab a ha b hb).2
    · rw [br_node]
      have e1 : (br (pb u) fun a => br (pb v) fun b => dw (u ++ v) (a ++ b) - dw (u ++ v) (b ++ a)) = br (pb u) fun a => dw u a * br (pb v) (dw v) := by
        refine br_congr _ fun a ha => ?_
        rw [← (br_lin (pb v)).mul]
        refine br_congr _ fun b hb => ?_
        have n1 : b ++ a ≠ u ++ v := fun z => by
          have := (ab a ha b hb).2
          rw [z, lx_irr] at this; cases this
        rw [dw_ne n1, Int.sub_zero]
        by_cases q : a = u
        · subst q
          rw [dw_same, Int.one_mul]
          by_cases z : b = v
          · subst z; rw [dw_same, dw_same]
          · rw [dw_ne z, dw_ne fun y => z (List.append_cancel_left y)]
        · rw [dw_ne q, Int.zero_mul, dw_ne]
          intro y
          exact q (List.append_inj_left y (lenU a ha))
      rw [e1, h2.2]
      have e2 : (fun a => dw u a * 1) = dw u := by funext a; rw [Int.mul_one]
      rw [e2, h1.2]
end TB
/-! ## TbDict -/
/-! Counts of words as lists of pairs, as the dicts of the program hold them; plain sums. -/
namespace TB
def look (p : P) (w : W) : Option Int := (p.find? fun x => decide (x.1 = w)).map (·.2)
def get (p : P) (w : W) : Int := (look p w).getD 0
def set (p : P) (w : W) (v : Int) : P := if (p.any fun x => decide (x.1 = w)) = true then p.map (fun x => if x.1 = w then (x.1, v) else x) else p ++ [(w, v)]
def del (p : P) (w : W) : P := p.filter fun x => decide (x.1 ≠ w)
/-- counts[w] = counts.get(w, 0) + c, taken away where it comes to 0 -/
def put (p : P) (w : W) (c : Int) : P := if get p w + c = 0 then del (set p w (get p w + c)) w else set p w (get p w + c)
def keys (p : P) : List W := p.map (·.1)
/-- each word once, no count nought -/
structure Nrm (p : P) : Prop where
  nd : (keys p).Nodup
  nz : ∀ x ∈ p, x.2 ≠ 0
theorem look_nil (w : W) : look [] w = none := rfl
theorem look_cons (w x : W) (c : Int) (r : P) : look ((w, c) :: r) x = if w = x then some c else look r x := by
  unfold look
  rw [List.find?_cons]
  by_cases h : w = x
  · rw [show decide (w = x) = true from decide_eq_true h, if_pos h]; rfl
  · rw [show decide (w = x) = false from decide_eq_false h, if_neg h]
theorem get_nil (w : W) : get [] w = 0 := rfl
theorem get_cons (w x : W) (c : Int) (r : P) : get ((w, c) :: r) x = if w = x then c else get r x := by
  unfold get
  rw [look_cons]
  split <;> rfl
theorem look_some : ∀ {p : P} {w : W} {c : Int}, look p w = some c → (w, c) ∈ p
  | [], _, _, h => by cases h
  | (x, d) :: r, w, c, h => by
    rw [look_cons] at h
    by_cases q : x = w
    · rw [if_pos q] at h; cases h; subst q; exact List.mem_cons_self
    · rw [if_neg q] at h; exact List.mem_cons_of_mem _ (look_some h)
theorem look_none : ∀ {p : P} {w : W}, look p w = none ↔ w ∉ keys p
  | [], _ => by constructor
                · intro _ h; cases h
                · intro _; rfl
  | (x, d) :: r, w => by
    rw [look_cons]
    show _ ↔ w ∉ x :: keys r
    rw [List.mem_cons]
    by_cases q : x = w
    · rw [if_pos q]
      constructor
      · intro h; cases h
      · intro h; exact absurd (.inl q.symm) h
    · rw [if_neg q, look_none (p := r)]
      constructor
      · rintro h (z | z)
        · exact q z.symm
        · exact h z
      · intro h z; exact h (.inr z)
theorem look_mem : ∀ {p : P}, (keys p).Nodup → ∀ {w : W} {c : Int}, (w, c) ∈ p → look p w = some c
  | [], _, _, _, h => by cases h
  | (x, d) :: r, nd, w, c, h => by
    rw [look_cons]
    have nd' : (x :: keys r).Nodup := nd
    rw [List.nodup_cons] at nd'
    rcases List.mem_cons.mp h with h | h
    · cases h; rw [if_pos rfl]
    · have hk : w ∈ keys r := List.mem_map.mpr ⟨(w, c), h, rfl⟩
      rw [if_neg fun z => nd'.1 (by rw [z]; exact hk)]
      exact look_mem nd'.2 h
theorem get_mem {p : P} (nd : (keys p).Nodup) {w : W} {c : Int} (h : (w, c) ∈ p) : get p w = c := by unfold get; rw [look_mem nd h]; rfl
theorem get_not {p : P} {w : W} (h : w ∉ keys p) : get p w = 0 := by unfold get; rw [look_none.mpr h]; rfl
theorem mem_keys {p : P} {w : W} : w ∈ keys p ↔ ∃ c, (w, c) ∈ p := by
  unfold keys
  rw [List.mem_map]
  constructor
  · rintro ⟨⟨x, c⟩, h, rfl⟩; exact ⟨c, h⟩
  · rintro ⟨c, h⟩; exact ⟨(w, c), h, rfl⟩
theorem Nrm.get_ne {p : P} (n : Nrm p) {w : W} (h : w ∈ keys p) : get p w ≠ 0 := by
  obtain ⟨c, hc⟩ := mem_keys.mp h
  rw [get_mem n.nd hc]
  exact n.nz _ hc
theorem any_key (p : P) (w : W) : (p.any fun x => decide (x.1 = w)) = decide (w ∈ keys p) := by
  induction p with
  | nil => rfl
  | cons x r ih =>
    rw [List.any_cons, ih]
    show (decide (x.1 = w) || decide (w ∈ keys r)) = decide (w ∈ x.1 :: keys r)
    by_cases h : x.1 = w
    · subst h; simp
    · have h' : ¬ w = x.1 := fun z => h z.symm
      simp [h, h']
theorem set_in {p : P} {w : W} (h : w ∈ keys p) (v : Int) : set p w v = p.map (fun x => if x.1 = w then (x.1, v) else x) := by
  unfold set; rw [any_key, if_pos (decide_eq_true h)]
theorem set_out {p : P} {w : W} (h : w ∉ keys p) (v : Int) : set p w v = p ++ [(w, v)] := by
  unfold set; rw [any_key, if_neg (by simpa using h)]
theorem keys_map (p : P) (w : W) (v : Int) : keys (p.map (fun x => if x.1 = w then (x.1, v) else x)) = keys p := by
  unfold keys
  rw [List.map_map]
  refine List.map_congr_left fun x _ => ?_
  show (if x.1 = w then (x.1, v) else x).1 = x.1
  split <;> rfl
theorem keys_set (p : P) (w : W) (v : Int) : keys (set p w v) = if w ∈ keys p then keys p else keys p ++ [w] := by
  by_cases h : w ∈ keys p
  · rw [if_pos h, set_in h, keys_map]
  · rw [if_neg h, set_out h]; unfold keys; rw [List.map_append]; rfl
theorem nd_set {p : P} (nd : (keys p).Nodup) (w : W) (v : Int) : (keys (set p w v)).Nodup := by
  rw [keys_set]
  by_cases h : w ∈ keys p
  · rw [if_pos h]; exact nd
  · rw [if_neg h, List.nodup_append]
    refine ⟨nd, by simp, fun a ha b hb => ?_⟩
    have : b = w := by simpa using hb
    rw [this]; rintro rfl; exact h ha
theorem look_map (p : P) (w x : W) (v : Int) : look (p.map (fun y => if y.1 = w then (y.1, v) else y)) x = if x = w then (look p x).map (fun _ => v) else look p x := by
  induction p with
  | nil => rw [List.map_nil, look_nil]; split <;> rfl
  | cons y r ih =>
    obtain ⟨y, c⟩ := y
    rw [List.map_cons]
    show look ((if y = w then (y, v) else (y, c)) :: _) x = _
    have e : (if y = w then (y, v) else (y, c)) = (y, if y = w then v else c) := by split <;> rfl
    rw [e, look_cons, ih, look_cons]
    by_cases h1 : y = x
    · subst h1
      rw [if_pos rfl, if_pos rfl]
      by_cases h2 : y = w
      · rw [if_pos h2, if_pos h2]; rfl
      · rw [if_neg h2, if_neg h2]
    · rw [if_neg h1, if_neg h1]
theorem look_app (p q : P) (x : W) : look (p ++ q) x = if x ∈ keys p then look p x else look q x := by
  induction p with
  | nil => rw [List.nil_append, if_neg (by simp [keys])]
  | cons y r ih =>
    obtain ⟨y, c⟩ := y
    rw [List.cons_append, look_cons, look_cons, ih]
    show _ = if x ∈ y :: keys r then _ else _
    by_cases h : y = x
    · rw [if_pos h, if_pos h, if_pos (by rw [h]; exact List.mem_cons_self)]
    · rw [if_neg h, if_neg h]
      by_cases h2 : x ∈ keys r
      · rw [if_pos h2, if_pos (List.mem_cons_of_mem _ h2)]
      · rw [if_neg h2, if_neg]
        rw [List.mem_cons]
        rintro (z | z)
        · exact h z.symm
        · exact h2 z
theorem look_set (p : P) (w x : W) (v : Int) : look (set p w v) x = if x = w then some v else look p x := by
  by_cases h : w ∈ keys p
  · rw [set_in h, look_map]
    by_cases q : x = w
    · subst q
      rw [if_pos rfl, if_pos rfl]
      cases e : look p x with
      | none => exact absurd h (look_none.mp e)
      | some c => rfl
    · rw [if_neg q, if_neg q]
  · rw [set_out h, look_app]
    by_cases q : x = w
    · subst q
      rw [if_neg h, if_pos rfl, look_cons, if_pos rfl]
    · rw [if_neg q]
      by_cases hx : x ∈ keys p
      · rw [if_pos hx]
      · rw [if_neg hx, look_cons, if_neg fun z => q z.symm, look_nil, look_none.mpr hx]
theorem look_del (p : P) (w x : W) : look (del p w) x = if x = w then none else look p x := by
  induction p with
  | nil => show look [] x = _; rw [look_nil]; split <;> rfl
  | cons y r ih =>
    obtain ⟨y, c⟩ := y
    unfold del at ih ⊢
    rw [List.filter_cons]
    by_cases h : y = w
    · subst h
      rw [if_neg (by simp), ih, look_cons]
      by_cases q : x = y
      · rw [if_pos q, if_pos q]
      · rw [if_neg q, if_neg q, if_neg fun z => q z.symm]
    · rw [if_pos (by simpa using h), look_cons, ih, look_cons]
      by_cases q : y = x
      · subst q
        rw [if_pos rfl, if_neg h, if_pos rfl]
      · rw [if_neg q, if_neg q]
theorem get_set (p : P) (w x : W) (v : Int) : get (set p w v) x = if x = w then v else get p x := by
  unfold get; rw [look_set]; split <;> rfl
theorem get_del (p : P) (w x : W) : get (del p w) x = if x = w then 0 else get p x := by
  unfold get; rw [look_del]; split <;> rfl
theorem get_put (p : P) (w x : W) (c : Int) : get (put p w c) x = get p x + if x = w then c else 0 := by
  unfold put
  by_cases h : get p w + c = 0
  · rw [if_pos h, get_del]
    by_cases q : x = w
    · rw [if_pos q, if_pos q, q, h]
    · rw [if_neg q, if_neg q, get_set, if_neg q, Int.add_zero]
  · rw [if_neg h, get_set]
    by_cases q : x = w
    · rw [if_pos q, if_pos q, q]
    · rw [if_neg q, if_neg q, Int.add_zero]
theorem keys_del (p : P) (w : W) : keys (del p w) = (keys p).filter fun x => decide (x ≠ w) := by
  unfold keys del
  rw [List.filter_map]
  rfl
theorem Nrm.nil : Nrm [] := ⟨List.nodup_nil, fun _ h => by cases h⟩
theorem Nrm.put {p : P} (n : Nrm p) (w : W) (c : Int) : Nrm (put p w c) := by
  have nzS : ∀ v, v ≠ 0 → ∀ x ∈ set p w v, x.2 ≠ 0 := fun v hv x hx => by
    by_cases h : w ∈ keys p
    · rw [set_in h] at hx
      obtain ⟨y, hy, rfl⟩ := List.mem_map.mp hx
      show (if y.1 = w then (y.1, v) else y).2 ≠ 0
      split
      · exact hv
      · exact n.nz y hy
    · rw [set_out h] at hx
      rcases List.mem_append.mp hx with hx | hx
      · exact n.nz x hx
      · have : x = (w, v) := by simpa using hx
        rw [this]; exact hv
  unfold TB.put
  by_cases h : get p w + c = 0
  · rw [if_pos h]
    refine ⟨?_, fun x hx => ?_⟩
    · rw [keys_del]
      exact (nd_set n.nd w _).filter _
    · unfold del at hx
      obtain ⟨h1, h2⟩ := List.mem_filter.mp hx
      have h2 : x.1 ≠ w := by simpa using h2
      by_cases hk : w ∈ keys p
      · rw [set_in hk] at h1
        obtain ⟨y, hy, rfl⟩ := List.mem_map.mp h1
        by_cases q : y.1 = w
        · rw [if_pos q] at h2; exact absurd q h2
        · rw [if_neg q]; exact n.nz y hy
      · rw [set_out hk] at h1
        rcases List.mem_append.mp h1 with h1 | h1
        · exact n.nz x h1
        · have : x = (w, get p w + c) := by simpa using h1
          rw [this] at h2; exact absurd rfl h2
  · rw [if_neg h]
    exact ⟨nd_set n.nd w _, nzS _ h⟩
theorem keys_put {p : P} {w : W} {c : Int} {x : W} (h : x ∈ keys (put p w c)) : x ∈ keys p ∨ x = w := by
  have hs : ∀ v, x ∈ keys (set p w v) → x ∈ keys p ∨ x = w := fun v h => by
    rw [keys_set] at h
    by_cases q : w ∈ keys p
    · rw [if_pos q] at h; exact .inl h
    · rw [if_neg q] at h
      rcases List.mem_append.mp h with h | h
      · exact .inl h
      · exact .inr (by simpa using h)
  unfold put at h
  split at h
  · rw [keys_del] at h
    exact hs _ (List.mem_filter.mp h).1
  · exact hs _ h
theorem set_len (p : P) (w : W) (v : Int) : (set p w v).length ≤ p.length + 1 := by
  by_cases h : w ∈ keys p
  · rw [set_in h, List.length_map]; omega
  · rw [set_out h, List.length_append]; exact Nat.le_refl _
theorem put_len (p : P) (w : W) (c : Int) : (put p w c).length ≤ p.length + 1 := by
  unfold put
  split
  · exact Nat.le_trans (List.length_filter_le _ _) (set_len p w _)
  · exact set_len p w _
/-- one word taken out of the pairing -/
theorem pr_del {p : P} (nd : (keys p).Nodup) (w : W) (φ : W → Int) : pr p φ = get p w * φ w + pr (del p w) φ := by
  induction p with
  | nil => show 0 = 0 * φ w + 0; omega
  | cons y r ih =>
    obtain ⟨y, c⟩ := y
    have nd' : (y :: keys r).Nodup := nd
    rw [List.nodup_cons] at nd'
    unfold del
    rw [List.filter_cons, get_cons]
    by_cases h : y = w
    · subst h
      rw [if_pos rfl, if_neg (by simp), pr_cons]
      congr 1
      have e : del r y = r := by
        unfold del
        rw [List.filter_eq_self]
        intro x hx
        have : x.1 ≠ y := fun z => nd'.1 (by rw [← z]; exact List.mem_map.mpr ⟨x, hx, rfl⟩)
        simpa using this
      unfold del at e
      rw [e]
    · rw [if_neg h, if_pos (by simpa using h), pr_cons, pr_cons, ih nd'.2]
      unfold del
      omega
theorem pr_set {p : P} (nd : (keys p).Nodup) (w : W) (v : Int) (φ : W → Int) : pr (set p w v) φ = pr p φ + (v - get p w) * φ w := by
  rw [pr_del (nd_set nd w v) w, get_set, if_pos rfl, pr_del nd w]
  have e : del (set p w v) w = del p w := by
    by_cases h : w ∈ keys p
    · rw [set_in h]
      unfold del
      clear nd h
      induction p with
      | nil => rfl
      | cons y r ih =>
        rw [List.map_cons, List.filter_cons, List.filter_cons, ih]
        by_cases q : y.1 = w
        · rw [if_pos q, if_neg (by simpa using q), if_neg (by simpa using q)]
        · rw [if_neg q]
    · rw [set_out h]
      unfold del
      rw [List.filter_append, List.filter_cons, if_neg (by simp)]
      simp
  rw [e, Int.sub_mul]
  omega
theorem pr_put {p : P} (nd : (keys p).Nodup) (w : W) (c : Int) (φ : W → Int) : pr (put p w c) φ = pr p φ + c * φ w := by
  unfold put
  by_cases h : get p w + c = 0
  · rw [if_pos h]
    have e := pr_del (nd_set nd w (get p w + c)) w φ
    rw [pr_set nd, get_set, if_pos rfl] at e
    have e2 : (get p w + c - get p w) = c := by omega
    have e3 : (get p w + c) * φ w = 0 := by rw [h, Int.zero_mul]
    rw [e2, e3] at e
    omega
  · rw [if_neg h, pr_set nd]
    have e2 : get p w + c - get p w = c := by omega
    rw [e2]
theorem pr_dw {p : P} (nd : (keys p).Nodup) (w : W) : pr p (dw w) = get p w := by
  rw [pr_del nd w, dw_same, Int.mul_one]
  have e : pr (del p w) (dw w) = pr (del p w) (fun _ => 0) := pr_congr fun x hx => by
    have : x.1 ≠ w := by
      have := (List.mem_filter.mp hx).2
      simpa using this
    exact dw_ne this
  rw [e, pr_zero, Int.add_zero]
theorem nd_del {p : P} (nd : (keys p).Nodup) (w : W) : (keys (del p w)).Nodup := by rw [keys_del]; exact nd.filter _
theorem len_sub : ∀ {l m : List W}, l.Nodup → (∀ x ∈ l, x ∈ m) → l.length ≤ m.length
  | [], _, _, _ => Nat.zero_le _
  | a :: l, m, nd, h => by
    rw [List.nodup_cons] at nd
    have ha := h a List.mem_cons_self
    have := len_sub (l := l) (m := m.erase a) nd.2 fun x hx => (List.mem_erase_of_ne (by rintro rfl; exact nd.1 hx)).mpr (h x (List.mem_cons_of_mem _ hx))
    have e := List.length_erase_of_mem ha
    have := List.length_pos_of_mem ha
    rw [List.length_cons]
    omega
/-- two that tell the same of each word pair the same -/
theorem pr_ext : ∀ {p q : P}, (keys p).Nodup → (keys q).Nodup → (∀ w, get p w = get q w) → ∀ φ, pr p φ = pr q φ
  | [], q, _, nq, h, φ => by
    have : ∀ x ∈ q, x.2 = 0 := fun x hx => by
      have := get_mem nq (w := x.1) (c := x.2) hx
      rw [← h] at this
      exact this.symm
    have e : ∀ q : P, (∀ x ∈ q, x.2 = 0) → pr q φ = 0 := fun q => by
      induction q with
      | nil => intro _; rfl
      | cons y r ih =>
        intro hq
        obtain ⟨y, c⟩ := y
        have hc : c = 0 := hq (y, c) List.mem_cons_self
        rw [pr_cons, hc, ih fun x hx => hq x (List.mem_cons_of_mem _ hx)]
        omega
    rw [e q this]; rfl
  | (y, c) :: r, q, np, nq, h, φ => by
    have np' : (y :: keys r).Nodup := np
    rw [List.nodup_cons] at np'
    rw [pr_cons, pr_del nq y]
    have hc := h y
    rw [get_cons, if_pos rfl] at hc
    rw [← hc]
    congr 1
    refine pr_ext np'.2 (nd_del nq y) (fun w => ?_) φ
    have hw := h w
    rw [get_cons] at hw
    rw [get_del]
    by_cases q : w = y
    · rw [if_pos q, q]; exact get_not np'.1
    · rw [if_neg q, ← hw, if_neg fun z => q z.symm]
theorem pr_iff {p q : P} (np : (keys p).Nodup) (nq : (keys q).Nodup) : (∀ w, get p w = get q w) ↔ ∀ φ, pr p φ = pr q φ :=
  ⟨fun h => pr_ext np nq h, fun h w => by rw [← pr_dw np, ← pr_dw nq, h]⟩
/-- == of two dicts -/
def peq (p q : P) : Bool := p.length == q.length && p.all fun x => decide (look q x.1 = some x.2)
theorem peq_iff {p q : P} (np : Nrm p) (nq : Nrm q) : peq p q = true ↔ ∀ w, get p w = get q w := by
  unfold peq
  rw [Bool.and_eq_true, List.all_eq_true, beq_iff_eq]
  constructor
  · rintro ⟨hl, h⟩ w
    have hsub : ∀ x ∈ keys p, x ∈ keys q := fun x hx => by
      obtain ⟨c, hc⟩ := mem_keys.mp hx
      have := look_some (of_decide_eq_true (h _ hc))
      exact mem_keys.mpr ⟨c, this⟩
    by_cases hw : w ∈ keys p
    · obtain ⟨c, hc⟩ := mem_keys.mp hw
      have := of_decide_eq_true (h _ hc)
      rw [get_mem np.nd hc]
      unfold get
      rw [this]; rfl
    · rw [get_not hw]
      have hw2 : w ∉ keys q := fun hq => by
        have h1 : (w :: keys p).Nodup := List.nodup_cons.mpr ⟨hw, np.nd⟩
        have h2 : ∀ x ∈ w :: keys p, x ∈ keys q := fun x hx => by
          rcases List.mem_cons.mp hx with rfl | hx
          · exact hq
          · exact hsub x hx
        have h3 := len_sub h1 h2
        have l1 : (keys p).length = p.length := List.length_map _
        have l2 : (keys q).length = q.length := List.length_map _
        rw [List.length_cons, l1, l2] at h3
        omega
      rw [get_not hw2]
  · intro h
    have key : ∀ {p q : P}, Nrm p → Nrm q → (∀ w, get p w = get q w) → ∀ x ∈ keys p, x ∈ keys q := fun {p q} np nq h x hx => by
      apply Classical.byContradiction
      intro hq
      have := np.get_ne hx
      rw [h, get_not hq] at this
      exact this rfl
    refine ⟨?_, fun x hx => ?_⟩
    · have h1 := len_sub np.nd (key np nq h)
      have h2 := len_sub nq.nd (key nq np fun w => (h w).symm)
      have l1 : (keys p).length = p.length := List.length_map _
      have l2 : (keys q).length = q.length := List.length_map _
      rw [l1, l2] at h1 h2
      omega
    · have hx' : (x.1, x.2) ∈ p := hx
      have hk := key np nq h x.1 (mem_keys.mpr ⟨x.2, hx'⟩)
      obtain ⟨c, hc⟩ := mem_keys.mp hk
      have e1 := get_mem nq.nd hc
      have e2 := get_mem np.nd hx'
      rw [h, e1] at e2
      rw [← e2, look_mem nq.nd hc]
      exact decide_eq_true rfl
theorem nrm_nil {p : P} (n : Nrm p) (h : ∀ w, get p w = 0) : p = [] := by
  cases p with
  | nil => rfl
  | cons x r =>
    exfalso
    exact n.get_ne (w := x.1) (List.mem_map.mpr ⟨x, List.mem_cons_self, rfl⟩) (h x.1)
/-! ### how great: the number of words, the counts together -/
def tot : P → Nat
  | [] => 0
  | (_, c) :: r => c.natAbs + tot r
theorem tot_app (p q : P) : tot (p ++ q) = tot p + tot q := by
  induction p with
  | nil => exact (Nat.zero_add _).symm
  | cons x r ih => obtain ⟨w, c⟩ := x; rw [List.cons_append]; show c.natAbs + tot (r ++ q) = c.natAbs + tot r + tot q; omega
theorem tot_mem {p : P} {x : W × Int} (h : x ∈ p) : x.2.natAbs ≤ tot p := by
  induction p with
  | nil => cases h
  | cons y r ih =>
    obtain ⟨w, c⟩ := y
    show _ ≤ c.natAbs + tot r
    rcases List.mem_cons.mp h with rfl | h
    · exact Nat.le_add_right _ _
    · exact Nat.le_trans (ih h) (Nat.le_add_left _ _)
theorem tot_get (p : P) (w : W) : (get p w).natAbs ≤ tot p := by
  unfold get
  cases e : look p w with
  | none => exact Nat.zero_le _
  | some c => exact tot_mem (x := (w, c)) (look_some e)
theorem tot_del {p : P} (nd : (keys p).Nodup) (w : W) : tot p = (get p w).natAbs + tot (del p w) := by
  induction p with
  | nil => rfl
  | cons y r ih =>
    obtain ⟨y, c⟩ := y
    have nd' : (y :: keys r).Nodup := nd
    rw [List.nodup_cons] at nd'
    unfold del
    rw [List.filter_cons, get_cons]
    show c.natAbs + tot r = _
    by_cases h : y = w
    · subst h
      rw [if_pos rfl, if_neg (by simp)]
      have e : del r y = r := by
        unfold del
        rw [List.filter_eq_self]
        intro x hx
        have : x.1 ≠ y := fun z => nd'.1 (by rw [← z]; exact List.mem_map.mpr ⟨x, hx, rfl⟩)
        simpa using this
      unfold del at e
      rw [e]
    · rw [if_neg h, if_pos (by simpa using h)]
      show _ = _ + (c.natAbs + tot _)
      have := ih nd'.2
      unfold del at this
      omega
theorem tot_put {p : P} (nd : (keys p).Nodup) (w : W) (c : Int) : tot (put p w c) ≤ tot p + c.natAbs := by
  have e : ∀ v, del (set p w v) w = del p w := fun v => by
    by_cases h : w ∈ keys p
    · rw [set_in h]
      unfold del
      clear nd h
      induction p with
      | nil => rfl
      | cons y r ih =>
        rw [List.map_cons, List.filter_cons, List.filter_cons, ih]
        by_cases q : y.1 = w
        · rw [if_pos q, if_neg (by simpa using q), if_neg (by simpa using q)]
        · rw [if_neg q]
    · rw [set_out h]
      unfold del
      rw [List.filter_append, List.filter_cons, if_neg (by simp)]
      simp
  have h1 := tot_del nd w
  unfold put
  split
  · rw [e]; omega
  · have h2 := tot_del (nd_set nd w (get p w + c)) w
    rw [e, get_set, if_pos rfl] at h2
    rw [h2]
    omega
/-! ### puts one behind the other -/
def puts {α : Type} (k : α → W) (v : α → Int) (l : List α) (f : P) : P := l.foldl (fun f x => put f (k x) (v x)) f
section
variable {α : Type} (k : α → W) (v : α → Int)
theorem puts_nrm : ∀ (l : List α) {f : P}, Nrm f → Nrm (puts k v l f)
  | [], _, n => n
  | x :: r, f, n => puts_nrm r (n.put (k x) (v x))
theorem puts_pr : ∀ (l : List α) {f : P}, Nrm f → ∀ φ, pr (puts k v l f) φ = pr f φ + (l.map fun x => v x * φ (k x)).sum
  | [], f, n, φ => by show pr f φ = pr f φ + 0; omega
  | x :: r, f, n, φ => by
    show pr (puts k v r (put f (k x) (v x))) φ = _
    rw [puts_pr r (n.put (k x) (v x)), pr_put n.nd, List.map_cons, List.sum_cons]
    omega
theorem puts_len : ∀ (l : List α) (f : P), (puts k v l f).length ≤ f.length + l.length
  | [], f => Nat.le_refl _
  | x :: r, f => by
    have h1 := puts_len r (put f (k x) (v x))
    have h2 := put_len f (k x) (v x)
    show (puts k v r (put f (k x) (v x))).length ≤ f.length + (r.length + 1)
    omega
theorem puts_tot : ∀ (l : List α) {f : P}, Nrm f → tot (puts k v l f) ≤ tot f + (l.map fun x => (v x).natAbs).sum
  | [], f, _ => Nat.le_refl _
  | x :: r, f, n => by
    have h1 := puts_tot r (n.put (k x) (v x))
    have h2 := tot_put n.nd (k x) (v x)
    show tot (puts k v r (put f (k x) (v x))) ≤ tot f + ((v x).natAbs :: r.map fun x => (v x).natAbs).sum
    rw [List.sum_cons]
    omega
theorem puts_keys : ∀ {l : List α} {f : P} {w : W}, w ∈ keys (puts k v l f) → w ∈ keys f ∨ ∃ x ∈ l, w = k x
  | [], _, _, h => .inl h
  | x :: r, f, w, h => by
    rcases puts_keys (l := r) (f := put f (k x) (v x)) h with h | ⟨y, hy, e⟩
    · rcases keys_put h with h | h
      · exact .inl h
      · exact .inr ⟨x, List.mem_cons_self, h⟩
    · exact .inr ⟨y, List.mem_cons_of_mem _ hy, e⟩
theorem puts_take {l : List α} {i : Nat} {x : α} (h : l[i]? = some x) (f : P) : puts k v (l.take (i + 1)) f = put (puts k v (l.take i) f) (k x) (v x) := by
  unfold puts
  rw [List.take_add_one, h, List.foldl_append]
  rfl
end
theorem sum_pr (p : P) (φ : W → Int) : (p.map fun x => x.2 * φ x.1).sum = pr p φ := by
  induction p with
  | nil => rfl
  | cons x r ih => obtain ⟨w, c⟩ := x; rw [List.map_cons, List.sum_cons, ih]; rfl
theorem sum_tot (p : P) : (p.map fun x => x.2.natAbs).sum = tot p := by
  induction p with
  | nil => rfl
  | cons x r ih => obtain ⟨w, c⟩ := x; rw [List.map_cons, List.sum_cons, ih]; rfl
/-- each word of the other behind each of the one -/
def times (p q : P) : P := p.foldl (fun f a => puts (fun b => a.1 ++ b.1) (fun b => a.2 * b.2) q f) []
def timesT (q : P) (l : P) (f : P) : P := l.foldl (fun f a => puts (fun b => a.1 ++ b.1) (fun b => a.2 * b.2) q f) f
def twist (p q : P) : P := puts (fun x => x.1) (fun x => 0 - x.2) (times q p) (times p q)
/-- as the laws do it -/
def ltwistT (q : P) (l : P) (f : P) : P := l.foldl (fun f a => q.foldl (fun f b => put (put f (a.1 ++ b.1) (a.2 * b.2)) (b.1 ++ a.1) (0 - a.2 * b.2)) f) f
def ltwist (p q : P) : P := ltwistT q p []
theorem timesT_nrm (q : P) : ∀ (l : P) {f : P}, Nrm f → Nrm (timesT q l f)
  | [], _, n => n
  | a :: r, f, n => timesT_nrm q r (puts_nrm _ _ q n)
theorem times_nrm (p q : P) : Nrm (times p q) := timesT_nrm q p Nrm.nil
theorem timesT_pr (q : P) : ∀ (l : P) {f : P}, Nrm f → ∀ φ, pr (timesT q l f) φ = pr f φ + pr l fun a => pr q fun b => φ (a ++ b)
  | [], f, n, φ => by show pr f φ = pr f φ + 0; omega
  | (a, c) :: r, f, n, φ => by
    show pr (timesT q r (puts _ _ q f)) φ = _
    rw [timesT_pr q r (puts_nrm _ _ q n), puts_pr _ _ q n, pr_cons]
    have e : (q.map fun x => c * x.2 * φ (a ++ x.1)).sum = c * pr q fun b => φ (a ++ b) := by
      rw [← pr_mul, ← sum_pr]
      congr 1
      refine List.map_congr_left fun x _ => ?_
      rw [Int.mul_left_comm, Int.mul_assoc, Int.mul_left_comm]
    show pr f φ + (q.map fun x => c * x.2 * φ (a ++ x.1)).sum + _ = _
    rw [e]
    omega
theorem times_pr (p q : P) (φ : W → Int) : pr (times p q) φ = pr p fun a => pr q fun b => φ (a ++ b) := by
  have := timesT_pr q p Nrm.nil φ
  rw [pr_nil, Int.zero_add] at this
  exact this
theorem twist_nrm (p q : P) : Nrm (twist p q) := puts_nrm _ _ _ (times_nrm p q)
theorem twist_pr (p q : P) (φ : W → Int) : pr (twist p q) φ = pr p fun a => pr q fun b => φ (a ++ b) - φ (b ++ a) := by
  unfold twist
  rw [puts_pr _ _ _ (times_nrm p q), times_pr]
  have e1 : ((times q p).map fun x => (0 - x.2) * φ x.1).sum = - pr (times q p) φ := by
    rw [← pr_neg, ← sum_pr]
    congr 1
    refine List.map_congr_left fun x _ => ?_
    rw [Int.zero_sub, Int.neg_mul, Int.mul_neg]
  rw [e1, times_pr]
  have e2 : (pr q fun b => pr p fun a => φ (b ++ a)) = pr p fun a => pr q fun b => φ (b ++ a) := ((lin_pr p).pr q _).symm
  rw [e2, ← Int.sub_eq_add_neg, ← pr_sub]
  exact pr_congr fun x _ => (pr_sub q _ _).symm
theorem ltwistT_nrm (q : P) : ∀ (l : P) {f : P}, Nrm f → Nrm (ltwistT q l f)
  | [], _, n => n
  | a :: r, f, n => ltwistT_nrm q r (by
    have : ∀ (q : P) {f : P}, Nrm f → Nrm (q.foldl (fun f b => put (put f (a.1 ++ b.1) (a.2 * b.2)) (b.1 ++ a.1) (0 - a.2 * b.2)) f) := fun q => by
      induction q with
      | nil => intro f n; exact n
      | cons b t ih => intro f n; exact ih ((n.put _ _).put _ _)
    exact this q n)
theorem ltwist_nrm (p q : P) : Nrm (ltwist p q) := ltwistT_nrm q p Nrm.nil
theorem ltwistT_pr (q : P) : ∀ (l : P) {f : P}, Nrm f → ∀ φ, pr (ltwistT q l f) φ = pr f φ + pr l fun a => pr q fun b => φ (a ++ b) - φ (b ++ a)
  | [], f, n, φ => by show pr f φ = pr f φ + 0; omega
  | (a, c) :: r, f, n, φ => by
    have inner : ∀ (q : P) {f : P}, Nrm f → Nrm (q.foldl (fun f b => put (put f (a ++ b.1) (c * b.2)) (b.1 ++ a) (0 - c * b.2)) f) ∧
        pr (q.foldl (fun f b => put (put f (a ++ b.1) (c * b.2)) (b.1 ++ a) (0 - c * b.2)) f) φ = pr f φ + c * pr q fun b => φ (a ++ b) - φ (b ++ a) := fun q => by
      induction q with
      | nil => intro f n; exact ⟨n, by show pr f φ = pr f φ + c * 0; omega⟩
      | cons b t ih =>
        intro f n
        obtain ⟨b, d⟩ := b
        obtain ⟨h1, h2⟩ := ih ((n.put (a ++ b) (c * d)).put (b ++ a) (0 - c * d))
        refine ⟨h1, ?_⟩
        show pr (t.foldl _ (put (put f (a ++ b) (c * d)) (b ++ a) (0 - c * d))) φ = _
        rw [h2, pr_put (n.put _ _).nd, pr_put n.nd, pr_cons, Int.mul_add]
        have e1 : c * (d * (φ (a ++ b) - φ (b ++ a))) = c * d * φ (a ++ b) - c * d * φ (b ++ a) := by rw [← Int.mul_assoc, Int.mul_sub]
        have e2 : (0 - c * d) * φ (b ++ a) = - (c * d * φ (b ++ a)) := by rw [Int.zero_sub, Int.neg_mul]
        rw [e1, e2]
        omega
    obtain ⟨h1, h2⟩ := inner q n
    show pr (ltwistT q r (q.foldl _ f)) φ = _
    rw [ltwistT_pr q r h1, h2, pr_cons]
    omega
theorem ltwist_pr (p q : P) (φ : W → Int) : pr (ltwist p q) φ = pr p fun a => pr q fun b => φ (a ++ b) - φ (b ++ a) := by
  have := ltwistT_pr q p Nrm.nil φ
  rw [pr_nil, Int.zero_add] at this
  exact this
/-! bounds -/
theorem timesT_len (q : P) : ∀ (l f : P), (timesT q l f).length ≤ f.length + l.length * q.length
  | [], f => by show f.length ≤ f.length + 0 * q.length; omega
  | a :: r, f => by
    have h1 := timesT_len q r (puts (fun b => a.1 ++ b.1) (fun b => a.2 * b.2) q f)
    have h2 := puts_len (fun b : W × Int => a.1 ++ b.1) (fun b => a.2 * b.2) q f
    show (timesT q r (puts _ _ q f)).length ≤ f.length + (r.length + 1) * q.length
    rw [Nat.add_mul, Nat.one_mul]
    omega
theorem times_len (p q : P) : (times p q).length ≤ p.length * q.length := by
  have := timesT_len q p []
  rw [List.length_nil, Nat.zero_add] at this
  exact this
theorem twist_len (p q : P) : (twist p q).length ≤ 2 * (p.length * q.length) := by
  have h1 := puts_len (fun x : W × Int => x.1) (fun x => 0 - x.2) (times q p) (times p q)
  have h2 := times_len p q
  have h3 := times_len q p
  rw [Nat.mul_comm q.length] at h3
  show (puts _ _ (times q p) (times p q)).length ≤ _
  omega
theorem timesT_tot (q : P) : ∀ (l : P) {f : P}, Nrm f → tot (timesT q l f) ≤ tot f + tot l * tot q
  | [], f, _ => by show tot f ≤ tot f + 0 * tot q; omega
  | (a, c) :: r, f, n => by
    have h1 := timesT_tot q r (puts_nrm (fun b => a ++ b.1) (fun b => c * b.2) q n)
    have h2 := puts_tot (fun b : W × Int => a ++ b.1) (fun b => c * b.2) q n
    have e : (q.map fun x => (c * x.2).natAbs).sum = c.natAbs * tot q := by
      rw [← sum_tot]
      clear h1 h2
      induction q with
      | nil => exact (Nat.mul_zero _).symm
      | cons y t ih => rw [List.map_cons, List.sum_cons, List.map_cons, List.sum_cons, ih, Nat.mul_add, Int.natAbs_mul]
    show tot (timesT q r (puts (fun b => a ++ b.1) (fun b => c * b.2) q f)) ≤ tot f + (c.natAbs + tot r) * tot q
    rw [Nat.add_mul]
    rw [e] at h2
    omega
theorem times_tot (p q : P) : tot (times p q) ≤ tot p * tot q := by
  have := timesT_tot q p Nrm.nil
  rw [show tot [] = 0 from rfl, Nat.zero_add] at this
  exact this
theorem twist_tot (p q : P) : tot (twist p q) ≤ 2 * (tot p * tot q) := by
  have h1 := puts_tot (fun x : W × Int => x.1) (fun x => 0 - x.2) (times q p) (times_nrm p q)
  have h2 := times_tot p q
  have h3 := times_tot q p
  have e : ((times q p).map fun x => (0 - x.2).natAbs).sum = tot (times q p) := by
    rw [← sum_tot]
    congr 1
    refine List.map_congr_left fun x _ => ?_
    omega
  rw [Nat.mul_comm (tot q)] at h3
  show tot (puts _ _ (times q p) (times p q)) ≤ _
  omega
theorem ltwistT_len (q : P) : ∀ (l f : P), (ltwistT q l f).length ≤ f.length + 2 * (l.length * q.length)
  | [], f => by show f.length ≤ f.length + 2 * (0 * q.length); omega
  | a :: r, f => by
    have inner : ∀ (q f : P), (q.foldl (fun f b => put (put f (a.1 ++ b.1) (a.2 * b.2)) (b.1 ++ a.1) (0 - a.2 * b.2)) f).length ≤ f.length + 2 * q.length := fun q => by
      induction q with
      | nil => intro f; exact Nat.le_refl _
      | cons b t ih =>
        intro f
        have h1 := ih (put (put f (a.1 ++ b.1) (a.2 * b.2)) (b.1 ++ a.1) (0 - a.2 * b.2))
        have h2 := put_len (put f (a.1 ++ b.1) (a.2 * b.2)) (b.1 ++ a.1) (0 - a.2 * b.2)
        have h3 := put_len f (a.1 ++ b.1) (a.2 * b.2)
        show (t.foldl _ (put (put f (a.1 ++ b.1) (a.2 * b.2)) (b.1 ++ a.1) (0 - a.2 * b.2))).length ≤ f.length + 2 * (t.length + 1)
        omega
    have h1 := ltwistT_len q r (q.foldl (fun f b => put (put f (a.1 ++ b.1) (a.2 * b.2)) (b.1 ++ a.1) (0 - a.2 * b.2)) f)
    have h2 := inner q f
    show (ltwistT q r (q.foldl _ f)).length ≤ f.length + 2 * ((r.length + 1) * q.length)
    rw [Nat.add_mul, Nat.one_mul]
    omega
theorem ltwist_len (p q : P) : (ltwist p q).length ≤ 2 * (p.length * q.length) := by
  have := ltwistT_len q p []
  rw [List.length_nil, Nat.zero_add] at this
  exact this
theorem ltwistT_tot (q : P) : ∀ (l : P) {f : P}, Nrm f → tot (ltwistT q l f) ≤ tot f + 2 * (tot l * tot q)
  | [], f, _ => by show tot f ≤ tot f + 2 * (0 * tot q); omega
  | (a, c) :: r, f, n => by
    have inner : ∀ (q : P) {f : P}, Nrm f → Nrm (q.foldl (fun f b => put (put f (a ++ b.1) (c * b.2)) (b.1 ++ a) (0 - c * b.2)) f) ∧
        tot (q.foldl (fun f b => put (put f (a ++ b.1) (c * b.2)) (b.1 ++ a) (0 - c * b.2)) f) ≤ tot f + 2 * (c.natAbs * tot q) := fun q => by
      induction q with
      | nil => intro f n; exact ⟨n, by show tot f ≤ tot f + 2 * (c.natAbs * 0); omega⟩
      | cons b t ih =>
        intro f n
        obtain ⟨b, d⟩ := b
        obtain ⟨h1, h2⟩ := ih ((n.put (a ++ b) (c * d)).put (b ++ a) (0 - c * d))
        refine ⟨h1, ?_⟩
        have h3 := tot_put (n.put (a ++ b) (c * d)).nd (b ++ a) (0 - c * d)
        have h4 := tot_put n.nd (a ++ b) (c * d)
        show tot (t.foldl _ (put (put f (a ++ b) (c * d)) (b ++ a) (0 - c * d))) ≤ tot f + 2 * (c.natAbs * (d.natAbs + tot t))
        have e1 : (0 - c * d).natAbs = c.natAbs * d.natAbs := by rw [Int.zero_sub, Int.natAbs_neg, Int.natAbs_mul]
        have e2 : (c * d).natAbs = c.natAbs * d.natAbs := Int.natAbs_mul _ _
        rw [Nat.mul_add]
        omega
    obtain ⟨h1, h2⟩ := inner q n
    have h3 := ltwistT_tot q r h1
    show tot (ltwistT q r (q.foldl (fun f b => put (put f (a ++ b.1) (c * b.2)) (b.1 ++ a) (0 - c * b.2)) f)) ≤ tot f + 2 * ((c.natAbs + tot r) * tot q)
    rw [Nat.add_mul]
    omega
theorem ltwist_tot (p q : P) : tot (ltwist p q) ≤ 2 * (tot p * tot q) := by
  have := ltwistT_tot q p Nrm.nil
  rw [show tot [] = 0 from rfl, Nat.zero_add] at this
  exact this
/-! keys -/
theorem timesT_keys (q : P) : ∀ {l f : P} {w : W}, w ∈ keys (timesT q l f) → w ∈ keys f ∨ ∃ a ∈ keys l, ∃ b ∈ keys q, w = a ++ b
  | [], _, _, h => .inl h
  | a :: r, f, w, h => by
    rcases timesT_keys q (l := r) h with h | ⟨x, hx, b, hb, e⟩
    · rcases puts_keys _ _ h with h | ⟨b, hb, e⟩
      · exact .inl h
      · exact .inr ⟨a.1, List.mem_cons_self, b.1, List.mem_map.mpr ⟨b, hb, rfl⟩, e⟩
    · exact .inr ⟨x, List.mem_cons_of_mem _ hx, b, hb, e⟩
theorem times_keys {p q : P} {w : W} (h : w ∈ keys (times p q)) : ∃ a ∈ keys p, ∃ b ∈ keys q, w = a ++ b := by
  rcases timesT_keys q (l := p) (f := []) h with h | h
  · cases h
  · exact h
theorem twist_keys {p q : P} {w : W} (h : w ∈ keys (twist p q)) : ∃ a ∈ keys p, ∃ b ∈ keys q, w = a ++ b ∨ w = b ++ a := by
  rcases puts_keys _ _ h with h | ⟨x, hx, e⟩
  · obtain ⟨a, ha, b, hb, e⟩ := times_keys h
    exact ⟨a, ha, b, hb, .inl e⟩
  · obtain ⟨b, hb, a, ha, e2⟩ := times_keys (p := q) (q := p) (w := x.1) (List.mem_map.mpr ⟨x, hx, rfl⟩)
    exact ⟨a, ha, b, hb, .inr (e.trans e2)⟩
theorem ltwistT_keys (q : P) : ∀ {l f : P} {w : W}, w ∈ keys (ltwistT q l f) → w ∈ keys f ∨ ∃ a ∈ keys l, ∃ b ∈ keys q, w = a ++ b ∨ w = b ++ a
  | [], _, _, h => .inl h
  | a :: r, f, w, h => by
    have inner : ∀ {q f : P} {w : W}, w ∈ keys (q.foldl (fun f b => put (put f (a.1 ++ b.1) (a.2 * b.2)) (b.1 ++ a.1) (0 - a.2 * b.2)) f) → w ∈ keys f ∨ ∃ b ∈ keys q, w = a.1 ++ b ∨ w = b ++ a.1 := fun {q} => by
      induction q with
      | nil => intro f w h; exact .inl h
      | cons b t ih =>
        intro f w h
        rcases ih (f := put (put f (a.1 ++ b.1) (a.2 * b.2)) (b.1 ++ a.1) (0 - a.2 * b.2)) h with h | ⟨x, hx, e⟩
        · rcases keys_put h with h | h
          · rcases keys_put h with h | h
            · exact .inl h
            · exact .inr ⟨b.1, List.mem_cons_self, .inl h⟩
          · exact .inr ⟨b.1, List.mem_cons_self, .inr h⟩
        · exact .inr ⟨x, List.mem_cons_of_mem _ hx, e⟩
    rcases ltwistT_keys q (l := r) h with h | ⟨x, hx, b, hb, e⟩
    · rcases inner h with h | ⟨b, hb, e⟩
      · exact .inl h
      · exact .inr ⟨a.1, List.mem_cons_self, b, hb, e⟩
    · exact .inr ⟨x, List.mem_cons_of_mem _ hx, b, hb, e⟩
theorem ltwist_keys {p q : P} {w : W} (h : w ∈ keys (ltwist p q)) : ∃ a ∈ keys p, ∃ b ∈ keys q, w = a ++ b ∨ w = b ++ a := by
  rcases ltwistT_keys q (l := p) (f := []) h with h | h
  · cases h
  · exact h
/-! ### a bracket's counts -/
def cnt : Br → P
  | .leaf c => [([c], 1)]
  | .node l r => twist (cnt l) (cnt r)
def lcnt : Br → P
  | .leaf c => [([c], 1)]
  | .node l r => ltwist (lcnt l) (lcnt r)
theorem one_nrm (w : W) {c : Int} (h : c ≠ 0) : Nrm [(w, c)] := by
  refine ⟨by simp [keys], fun x hx => ?_⟩
  have e : x = (w, c) := by simpa using hx
  rw [e]; exact h
theorem cnt_nrm : ∀ t : Br, Nrm (cnt t)
  | .leaf c => one_nrm _ (by decide)
  | .node l r => twist_nrm _ _
theorem lcnt_nrm : ∀ t : Br, Nrm (lcnt t)
  | .leaf c => one_nrm _ (by decide)
  | .node l r => ltwist_nrm _ _
theorem cnt_pr : ∀ (t : Br) (φ : W → Int), pr (cnt t) φ = br t φ
  | .leaf c, φ => by show 1 * φ [c] + 0 = φ [c]; omega
  | .node l r, φ => by
    show pr (twist (cnt l) (cnt r)) φ = _
    rw [twist_pr, cnt_pr l, br_node]
    congr 1; funext a
    exact cnt_pr r _
theorem lcnt_pr : ∀ (t : Br) (φ : W → Int), pr (lcnt t) φ = br t φ
  | .leaf c, φ => by show 1 * φ [c] + 0 = φ [c]; omega
  | .node l r, φ => by
    show pr (ltwist (lcnt l) (lcnt r)) φ = _
    rw [ltwist_pr, lcnt_pr l, br_node]
    congr 1; funext a
    exact lcnt_pr r _
theorem cnt_keys : ∀ {t : Br} {w : W}, w ∈ keys (cnt t) → w ∈ ws t
  | .leaf c, w, h => h
  | .node l r, w, h => by
    obtain ⟨a, ha, b, hb, e⟩ := twist_keys h
    exact mem_ws_node.mpr ⟨a, cnt_keys ha, b, cnt_keys hb, e⟩
theorem lcnt_keys : ∀ {t : Br} {w : W}, w ∈ keys (lcnt t) → w ∈ ws t
  | .leaf c, w, h => h
  | .node l r, w, h => by
    obtain ⟨a, ha, b, hb, e⟩ := ltwist_keys h
    exact mem_ws_node.mpr ⟨a, lcnt_keys ha, b, lcnt_keys hb, e⟩
theorem pow_two_wt (l r : Br) : 2 * (2 ^ (l.wt - 1) * 2 ^ (r.wt - 1)) = 2 ^ ((Br.node l r).wt - 1) := by
  have h1 := l.wt_pos
  have h2 := r.wt_pos
  have e : (Br.node l r).wt - 1 = (l.wt - 1) + (r.wt - 1) + 1 := by show l.wt + r.wt - 1 = _; omega
  rw [e, Nat.pow_succ, Nat.pow_add]
  omega
theorem cnt_len : ∀ t : Br, (cnt t).length ≤ 2 ^ (t.wt - 1)
  | .leaf c => Nat.le_refl 1
  | .node l r => by
    have h := twist_len (cnt l) (cnt r)
    have h2 := Nat.mul_le_mul (cnt_len l) (cnt_len r)
    rw [← pow_two_wt]
    show (twist (cnt l) (cnt r)).length ≤ _
    omega
theorem cnt_tot : ∀ t : Br, tot (cnt t) ≤ 2 ^ (t.wt - 1)
  | .leaf c => Nat.le_refl 1
  | .node l r => by
    have h := twist_tot (cnt l) (cnt r)
    have h2 := Nat.mul_le_mul (cnt_tot l) (cnt_tot r)
    rw [← pow_two_wt]
    show tot (twist (cnt l) (cnt r)) ≤ _
    omega
theorem lcnt_len : ∀ t : Br, (lcnt t).length ≤ 2 ^ (t.wt - 1)
  | .leaf c => Nat.le_refl 1
  | .node l r => by
    have h := ltwist_len (lcnt l) (lcnt r)
    have h2 := Nat.mul_le_mul (lcnt_len l) (lcnt_len r)
    rw [← pow_two_wt]
    show (ltwist (lcnt l) (lcnt r)).length ≤ _
    omega
theorem lcnt_tot : ∀ t : Br, tot (lcnt t) ≤ 2 ^ (t.wt - 1)
  | .leaf c => Nat.le_refl 1
  | .node l r => by
    have h := ltwist_tot (lcnt l) (lcnt r)
    have h2 := Nat.mul_le_mul (lcnt_tot l) (lcnt_tot r)
    rw [← pow_two_wt]
    show tot (ltwist (lcnt l) (lcnt r)) ≤ _
    omega
end TB
/-! ## TbBase -/
/-! What all the walks use: where a def stands, its call; texts as lists of codes; counts as dicts of the heap; loops over a locked dict. -/
namespace TB
open PySem PySem.Spec PyProof.Rows L2
/-! ### a def of the top -/
structure DefAt (K : PySem.W.Frag) (mg : Str → Option Value) (x : Str) (st : Stmt) (ps : List Str) where
  f : Addr
  fd : FuncData
  F : Fun K x x st f fd
  gm : mg x = some (.ref f)
  b : Binds K fd ps []
/-- the built-ins that the text calls are the built-ins still -/
structure Blt (mg : Str → Option Value) : Prop where
  len : mg "len" = none
  isinstance : mg "isinstance" = none
  str : mg "str" = none
  int : mg "int" = none
  bool : mg "bool" = none
  list : mg "list" = none
  tuple : mg "tuple" = none
  dict : mg "dict" = none
  set : mg "set" = none
  sorted : mg "sorted" = none
  min : mg "min" = none
  max : mg "max" = none
  sum : mg "sum" = none
  abs : mg "abs" = none
  all : mg "all" = none
  range : mg "range" = none
  zip : mg "zip" = none
  enumerate : mg "enumerate" = none
  reversed : mg "reversed" = none
  ValueError : mg "ValueError" = none
section
variable {X : Cx} {k k' : Nat} {x : Str} {st : Stmt} {ps : List Str} {sp : Sp} {e : Expr} {es : List Expr} {t : TA} {p pos : Pos}
/-- a call of a def that raises nothing -/
theorem cl (D : DefAt X.K X.mg x st ps) (G : FnOk X.prog X.w X.K X.mg X.base CX0 k D.f D.fd ps sp) (hr : Room k' X.A) (ha : PA X (e :: es) t) (hk : k ≤ k' := by decide) (hg : Gl X x := by rfl)
    (hdb : (x == ("__debug__" : Str)) = false := by decide) (he : starEach (e :: es) X.env = (false, eval e X.env) :: starEach es X.env := by rfl) (hpl : (backTo pos (starEach es X.env)).any (·.1) = false := by rfl) :
    PE X (.Call (.Name x p) (e :: es) [] pos) (tCall sp [] E0 t) := pe_call G (hr.mono hk) hg D.gm D.F.kp D.b .nil pass0 ha hdb he hpl
/-- .. that raises nothing here -/
theorem clN (D : DefAt X.K X.mg x st ps) (G : FnOk X.prog X.w X.K X.mg X.base (L2.CX X.prog X.w) k D.f D.fd ps sp) (hr : Room k' X.A) (ha : PA X (e :: es) t) (hk : k ≤ k' := by decide) (hg : Gl X x := by rfl)
    (hdb : (x == ("__debug__" : Str)) = false := by decide) (he : starEach (e :: es) X.env = (false, eval e X.env) :: starEach es X.env := by rfl) (hpl : (backTo pos (starEach es X.env)).any (·.1) = false := by rfl) :
    PE X (.Call (.Name x p) (e :: es) [] pos) (tCall sp [] E0 t) := pe_call G (hr.mono hk) hg D.gm D.F.kp D.b .nil passL ha hdb he hpl
/-- .. whose exceptions leave the def that calls -/
theorem clX {E : XK} {Q1 : Value → Shared → Prop} (D : DefAt X.K X.mg x st ps) (G : FnOk X.prog X.w X.K X.mg X.base (L2.CX X.prog X.w) k D.f D.fd ps sp) (hr : Room k' X.A) (hx : Passes (L2.CX X.prog X.w) X E) (ha : PA X (e :: es) t) (hk : k ≤ k' := by decide) (hg : Gl X x := by rfl)
    (hdb : (x == ("__debug__" : Str)) = false := by decide) (he : starEach (e :: es) X.env = (false, eval e X.env) :: starEach es X.env := by rfl) (hpl : (backTo pos (starEach es X.env)).any (·.1) = false := by rfl) :
    PE X (.Call (.Name x p) (e :: es) [] pos) (tCall sp [] E t) := pe_call G (hr.mono hk) hg D.gm D.F.kp D.b .nil hx ha hdb he hpl
/-- .. in a try's body -/
theorem clS {W : WX} (D : DefAt X.K X.mg x st ps) (G : FnOk X.prog X.w X.K X.mg X.base (L2.CX X.prog X.w) k D.f D.fd ps sp) (hr : Room k' X.A) (tk : Takes X W) (ha : PA X (e :: es) t) (hk : k ≤ k' := by decide) (hg : Gl X x := by rfl)
    (hdb : (x == ("__debug__" : Str)) = false := by decide) (he : starEach (e :: es) X.env = (false, eval e X.env) :: starEach es X.env := by rfl) (hpl : (backTo pos (starEach es X.env)).any (·.1) = false := by rfl) :
    PE X (.Call (.Name x p) (e :: es) [] pos) (tCallS sp (WE W) t) := pe_callS G (hr.mono hk) hg D.gm D.F.kp D.b (fun σ => passAt tk σ) ha hdb he hpl
end
/-! ### heaps -/
theorem new_same {H : Hp} {p : Addr} {o : HO} (h : H p = none) : Same H (upd H p o) := fun b u e => by rw [upd_ne (ne_of_none e h)]; exact e
/-- what H does not know may change -/
theorem Same.mut {H H' : Hp} {p : Addr} {o : HO} (e : Same H H') (h : H p = none) : Same H (upd H' p o) := fun a u ha => by
  rw [upd_ne (ne_of_none ha h)]
  exact e a u ha
theorem Same.tup {K : PySem.W.Frag} {H H' : Hp} {a : Addr} {xs : List V} (e : Same H H') (h : SqT K H a xs) : SqT K H' a xs := by
  rcases h with (h | ⟨o, h⟩) | h
  · exact .inl (.inl (e _ _ h))
  · exact .inl (.inr ⟨o, e _ _ h⟩)
  · exact .inr h
theorem Same.rd {H H' : Hp} {a : Addr} {u : HO} (e : Same H H') (h : Rd H a u) : Rd H' a u := by
  rcases h with h | ⟨o, h⟩
  · exact .inl (e _ _ h)
  · exact .inr ⟨o, e _ _ h⟩
/-! ### texts as lists of codes -/
def sOf (w : W) : Str := ⟨w.toArray⟩
theorem sOf_inj {a b : W} (h : sOf a = sOf b) : a = b := by
  have := congrArg (fun s : Str => s.cps.toList) h
  simpa [sOf] using this
theorem sOf_cps (w : W) : (sOf w).cps.toList = w := by simp [sOf]
theorem sOf_len (w : W) : (sOf w).length = w.length := by simp [sOf, PySem.Str.length]
theorem sOf_app (a b : W) : sOf a ++ sOf b = sOf (a ++ b) := by
  show PySem.Str.append (sOf a) (sOf b) = _
  simp [PySem.Str.append, sOf]
theorem sOf_of (s : Str) : s = sOf s.cps.toList := by
  cases s with
  | mk c => simp [sOf]
theorem sOf_eq {a b : W} : (sOf a = sOf b) ↔ a = b := ⟨sOf_inj, fun h => by rw [h]⟩
theorem dec_str (a b : W) : decide (V.str (sOf a) = V.str (sOf b)) = decide (a = b) := by
  by_cases h : a = b
  · rw [h, decide_eq_true rfl, decide_eq_true rfl]
  · rw [decide_eq_false h, decide_eq_false fun z => h (sOf_inj (V.str.inj z))]
theorem one_sign (c : Nat) : (⟨#[c]⟩ : Str) = sOf [c] := rfl
abbrev tx (w : W) : V := .str (sOf w)
theorem cutS_from (w : W) (k : Nat) : cutS (sOf w) (some (k : Int)) none = sOf (w.drop k) := by
  unfold cutS
  rw [sOf_len, sOf_cps, show HT.sIx w.length 0 (some (k : Int)) = min k w.length from HT.sIx_nat _ _ _, HT.sIx_none]
  show sOf _ = sOf _
  congr 1
  rcases Nat.le_total k w.length with h | h
  · rw [Nat.min_eq_left h, List.take_of_length_le (by rw [List.length_drop]; omega)]
  · rw [Nat.min_eq_right h, List.drop_eq_nil_of_le (Nat.le_refl _), List.drop_eq_nil_of_le h, List.take_nil]
theorem cutS_to (w : W) (k : Nat) : cutS (sOf w) none (some (k : Int)) = sOf (w.take k) := by
  unfold cutS
  rw [sOf_len, sOf_cps, show HT.sIx w.length w.length (some (k : Int)) = min k w.length from HT.sIx_nat _ _ _, HT.sIx_none, List.drop_zero, Nat.sub_zero]
  show sOf _ = sOf _
  congr 1
  rcases Nat.le_total k w.length with h | h
  · rw [Nat.min_eq_left h]
  · rw [Nat.min_eq_right h, List.take_of_length_le (Nat.le_refl _), List.take_of_length_le h]
theorem cutS_mid (w : W) (j k : Nat) : cutS (sOf w) (some (j : Int)) (some (k : Int)) = sOf ((w.drop j).take (k - j)) := by
  unfold cutS
  rw [sOf_len, sOf_cps, show HT.sIx w.length w.length (some (k : Int)) = min k w.length from HT.sIx_nat _ _ _, show HT.sIx w.length 0 (some (j : Int)) = min j w.length from HT.sIx_nat _ _ _]
  show sOf _ = sOf _
  congr 1
  rcases Nat.le_total j w.length with h | h
  · rw [Nat.min_eq_left h]
    rcases Nat.le_total k w.length with h2 | h2
    · rw [Nat.min_eq_left h2]
    · rw [Nat.min_eq_right h2, List.take_of_length_le (by rw [List.length_drop]; omega), List.take_of_length_le (by rw [List.length_drop]; omega)]
  · rw [Nat.min_eq_right h, List.drop_eq_nil_of_le (Nat.le_refl _), List.drop_eq_nil_of_le h, List.take_nil, List.take_nil]
theorem small_line {n : Nat} (h : n ≤ 1000000) : n ≤ sizeLine := Nat.le_trans h (by decide)
/-! ### counts as dicts -/
def kv (p : P) : List (Key × V) := p.map fun x => (Sum.inr (sOf x.1), V.int x.2)
theorem kv_len (p : P) : (kv p).length = p.length := List.length_map _
theorem kv_val (p : P) (w : W) : valV (kv p) (Sum.inr (sOf w)) = (look p w).map V.int := by
  induction p with
  | nil => rfl
  | cons x r ih =>
    obtain ⟨y, c⟩ := x
    rw [look_cons]
    by_cases h : y = w
    · subst h
      rw [if_pos rfl]
      exact valV_pos rfl
    · rw [if_neg h, ← ih]
      exact valV_neg fun z => h (sOf_inj (Sum.inr.inj z))
theorem kv_getD (p : P) (w : W) : (valV (kv p) (Sum.inr (sOf w))).getD (.int 0) = .int (get p w) := by
  rw [kv_val]
  unfold get
  cases look p w <;> rfl
theorem any_kv (p : P) (w : W) : ((kv p).any fun x => decide (x.1 = Sum.inr (sOf w))) = (p.any fun x => decide (x.1 = w)) := by
  unfold kv
  rw [List.any_map]
  congr 1
  funext x
  show decide ((Sum.inr (sOf x.1) : Key) = Sum.inr (sOf w)) = decide (x.1 = w)
  by_cases h : x.1 = w
  · rw [h, decide_eq_true rfl, decide_eq_true rfl]
  · rw [decide_eq_false h, decide_eq_false fun z => h (sOf_inj (Sum.inr.inj z))]
theorem kv_put (p : P) (w : W) (c : Int) : putK (kv p) (Sum.inr (sOf w)) (.int c) = kv (set p w c) := by
  unfold putK set
  rw [any_kv]
  split
  · unfold kv
    rw [List.map_map, List.map_map]
    refine List.map_congr_left fun x _ => ?_
    show (if (Sum.inr (sOf x.1) : Key) = Sum.inr (sOf w) then _ else _) = _
    by_cases h : x.1 = w
    · rw [if_pos (by rw [h])]
      show _ = ((Sum.inr (sOf (if x.1 = w then (x.1, c) else x).1) : Key), V.int (if x.1 = w then (x.1, c) else x).2)
      rw [if_pos h]
    · rw [if_neg fun z => h (sOf_inj (Sum.inr.inj z))]
      show _ = ((Sum.inr (sOf (if x.1 = w then (x.1, c) else x).1) : Key), V.int (if x.1 = w then (x.1, c) else x).2)
      rw [if_neg h]
  · unfold kv
    rw [List.map_append]
    rfl
theorem kv_drop (p : P) (w : W) : dropK (kv p) (Sum.inr (sOf w)) = kv (del p w) := by
  unfold dropK del kv
  rw [List.filter_map]
  congr 1
  refine List.filter_congr fun x _ => ?_
  show decide ((Sum.inr (sOf x.1) : Key) ≠ Sum.inr (sOf w)) = decide (x.1 ≠ w)
  by_cases h : x.1 = w
  · rw [h]; simp
  · have h' : ¬ ((Sum.inr (sOf x.1) : Key) = Sum.inr (sOf w)) := fun z => h (sOf_inj (Sum.inr.inj z))
    simp [h, h']
theorem kv_get {p : P} {i : Nat} {k : Key} {v : V} (h : (kv p)[i]? = some (k, v)) : ∃ w c, p[i]? = some (w, c) ∧ k = Sum.inr (sOf w) ∧ v = .int c := by
  unfold kv at h
  rw [List.getElem?_map] at h
  cases e : p[i]? with
  | none => rw [e] at h; cases h
  | some x =>
    obtain ⟨w, c⟩ := x
    rw [e] at h
    cases h
    exact ⟨w, c, rfl, rfl, rfl⟩
/-- at d the counts p stand, to be read -/
def DR (H : Hp) (d : Addr) (p : P) : Prop := Rd H d (.dK (kv p))
theorem DR.of {H : Hp} {d : Addr} {p : P} (h : H d = some (.dK (kv p))) : DR H d p := .inl h
theorem DR.get {H : Hp} {d : Addr} {p : P} (h : DR H d p) (w : W) : DGet H d (tx w) ((look p w).map V.int) := by
  rw [← kv_val]
  exact .inl ⟨kv p, Sum.inr (sOf w), h, rfl, rfl⟩
theorem Same.dr {H H' : Hp} {d : Addr} {p : P} (e : Same H H') (h : DR H d p) : DR H' d p := Same.rd e h
/-! ### for k in d, d locked -/
theorem for_lock {td : TE} {j : Nat} {tb : TS} {D : Ends} {σ : L2.St} {H : Hp} {d : Addr} {kvs : List (Key × V)} (hd : H d = some (.dK kvs)) (ht : ∀ H' (Q : VK), Q (.ref d) H' → td σ H' Q) (Pv : Obj → Nat → L2.St → Hp → Prop)
    (h0 : ∀ od, Pv od 0 σ (upd H d (.frz od (.dK kvs)))) (hst : ∀ od i σ' H', Pv od i σ' H' → H' d = some (.frz od (.dK kvs)))
    (hs : ∀ od i k v σ' H', kvs[i]? = some (k, v) → Pv od i σ' H' → tb { nx := Pv od (i + 1), ct := Pv od (i + 1), rt := fun v H' => H' d = some (.frz od (.dK kvs)) ∧ D.rt v (upd H' d (.dK kvs)), bk := fun σ' H' => H' d = some (.frz od (.dK kvs)) ∧ D.nx σ' (upd H' d (.dK kvs)) } (σ'.set j (some (kV k))) H')
    (he : ∀ od σ' H', Pv od kvs.length σ' H' → D.nx σ' (upd H' d (.dK kvs))) : tLock (tFor (iKeys td) (gName j) tb) D σ H := by
  refine ⟨d, _, hd, trivial, fun od => ?_⟩
  refine ht _ _ ⟨d, od, rfl, .inl ⟨kvs, upd_same, ?_⟩⟩
  refine ⟨fun i m σ' H' => Pv od i σ' H' ∧ i + m = kvs.length, ⟨kvs.length, h0 od, by omega⟩, fun i m σ' H' ⟨hp, hm⟩ => ?_⟩
  have hfz := hst od i σ' H' hp
  by_cases hi : i < kvs.length
  · refine .inr ⟨⟨hfz, hi⟩, Pv od (i + 1), fun σ2 H2 hn => ⟨m - 1, by omega, hn, by omega⟩, fun x H2 hy => ?_⟩
    obtain ⟨rfl, k, v, hk, rfl⟩ := hy
    exact hs od i k v σ' H2 hk hp
  · refine .inl ⟨⟨hfz, by omega⟩, hfz, ?_⟩
    have e : i = kvs.length := by omega
    subst e
    exact he od σ' H' hp
/-- .. locked already -/
theorem for_frz {td : TE} {j : Nat} {tb : TS} {D : Ends} {σ : L2.St} {H : Hp} {d : Addr} {od : Obj} {kvs : List (Key × V)} (hd : H d = some (.frz od (.dK kvs))) (ht : ∀ H' (Q : VK), Q (.ref d) H' → td σ H' Q) (Pv : Nat → L2.St → Hp → Prop)
    (h0 : Pv 0 σ H) (hst : ∀ i σ' H', Pv i σ' H' → H' d = some (.frz od (.dK kvs)))
    (hs : ∀ i k v σ' H', kvs[i]? = some (k, v) → Pv i σ' H' → tb { D with nx := Pv (i + 1), ct := Pv (i + 1), bk := D.nx } (σ'.set j (some (kV k))) H')
    (he : ∀ σ' H', Pv kvs.length σ' H' → D.nx σ' H') : tFor (iKeys td) (gName j) tb D σ H := by
  refine ht _ _ ⟨d, od, rfl, .inl ⟨kvs, hd, ?_⟩⟩
  refine ⟨fun i m σ' H' => Pv i σ' H' ∧ i + m = kvs.length, ⟨kvs.length, h0, by omega⟩, fun i m σ' H' ⟨hp, hm⟩ => ?_⟩
  have hfz := hst i σ' H' hp
  by_cases hi : i < kvs.length
  · refine .inr ⟨⟨hfz, hi⟩, Pv (i + 1), fun σ2 H2 hn => ⟨m - 1, by omega, hn, by omega⟩, fun x H2 hy => ?_⟩
    obtain ⟨rfl, k, v, hk, rfl⟩ := hy
    exact hs i k v σ' H2 hk hp
  · refine .inl ⟨⟨hfz, by omega⟩, ?_⟩
    have e : i = kvs.length := by omega
    subst e
    exact he σ' H' hp
/-! ### brackets in the heap -/
def BrAt (K : PySem.W.Frag) (H : Hp) : V → Br → Prop
  | v, .leaf c => v = tx [c]
  | v, .node l r => ∃ p x y, v = .ref p ∧ SqT K H p [x, y] ∧ BrAt K H x l ∧ BrAt K H y r
theorem BrAt.mono {K : PySem.W.Frag} {H H' : Hp} (e : Same H H') : ∀ {t : Br} {v : V}, BrAt K H v t → BrAt K H' v t
  | .leaf _, _, h => h
  | .node l r, _, ⟨p, x, y, ev, hs, hx, hy⟩ => ⟨p, x, y, ev, Same.tup e hs, hx.mono e, hy.mono e⟩
end TB
/-! ## TbEv -/
/-! Readings that evaluate: texts, slices, isinstance, calls whose results are told by a relation, comprehensions over ranges. -/
namespace TB
open PySem PySem.Spec PyProof.Rows L2 Evl
section
variable {K : PySem.W.Frag} {σ : L2.St} {H H' : Hp} {ta tb te ti tj : TE} {t u : TT} {x y z v : V} {r : R2}
/-! ### told by a relation -/
def Er (te : TE) (σ : L2.St) (H : Hp) (R : V → Hp → Prop) : Prop := ∀ H1, Ex H H1 → ∀ Q : VK, (∀ v H2, Ex H1 H2 → R v H2 → Q v H2) → te σ H1 Q
def Ear (ta : TA) (σ : L2.St) (H : Hp) (R : List V → Hp → Prop) : Prop := ∀ H1, Ex H H1 → ∀ Q : List V → Hp → Prop, (∀ vs H2, Ex H1 H2 → R vs H2 → Q vs H2) → ta σ H1 Q
def SpR (sp : Sp) (vs : List V) (H : Hp) (R : V → Hp → Prop) : Prop := ∀ H1, Ex H H1 → ∀ Q : VK, (∀ v H2, Ex H1 H2 → R v H2 → Q v H2) → ∀ E : XK, sp vs H1 Q E
theorem Er.mono {R : V → Hp → Prop} (e : Ex H H') (h : Er te σ H R) : Er te σ H' R := fun H1 a Q q => h H1 (e.trans a) Q q
theorem Er.imp {R R' : V → Hp → Prop} (h : Er te σ H R) (i : ∀ v H2, Ex H H2 → R v H2 → R' v H2) : Er te σ H R' := fun H1 a Q q => h H1 a Q fun v H2 e r => q v H2 e (i v H2 (a.trans e) r)
theorem ev_er {R : V → Hp → Prop} (h : Ev te σ H v) (hr : ∀ H2, Ex H H2 → R v H2) : Er te σ H R := fun H1 a Q q => h H1 a Q fun H2 e => q v H2 e (hr H2 (a.trans e))
theorem er_ev (h : Er te σ H fun x _ => x = v) : Ev te σ H v := fun H1 a Q q => h H1 a Q fun x H2 e ex => by rw [ex]; exact q H2 e
theorem eu_er {xs : List V} (h : EvU te σ H xs) : Er te σ H fun v H2 => ∃ p, v = .ref p ∧ H p = none ∧ H2 p = some (.tup xs) := fun H1 a Q q => h H1 a Q fun p H2 hp e hh => q _ H2 e ⟨p, rfl, fresh_back a hp, hh⟩
theorem el_er {xs : List V} (h : EvL te σ H xs) : Er te σ H fun v H2 => ∃ p, v = .ref p ∧ H p = none ∧ H2 p = some (.lst xs) := fun H1 a Q q => h H1 a Q fun p H2 hp e hh => q _ H2 e ⟨p, rfl, fresh_back a hp, hh⟩
theorem ear_nil : Ear tNil σ H fun vs _ => vs = [] := fun H1 _ Q q => q [] H1 (Ex.refl H1) rfl
theorem ear_cons {tr : TA} {R : V → Hp → Prop} {S : List V → Hp → Prop} (h : Er te σ H R) (hr : ∀ x H1, Ex H H1 → R x H1 → Ear tr σ H1 fun vs H2 => S (x :: vs) H2) : Ear (tCons te tr) σ H S := fun H1 a Q q =>
  h H1 a _ fun x H2 e2 hx => hr x H2 (a.trans e2) hx H2 (Ex.refl H2) _ fun vs H3 e3 hs => q _ H3 (e2.trans e3) hs
theorem ea_ear {tr : TA} {vs : List V} (h : EvA tr σ H vs) : Ear tr σ H fun ws _ => ws = vs := fun H1 a Q q => h H1 a Q fun H2 e => q vs H2 e rfl
theorem ear_of {tr : TA} {vs : List V} {S : List V → Hp → Prop} (h : EvA tr σ H vs) (k : ∀ H2, Ex H H2 → S vs H2) : Ear tr σ H S := fun H1 a Q q => h H1 a Q fun H2 e => q vs H2 e (k H2 (a.trans e))
/-- a call, its arguments told by values | by a relation -/
theorem er_call {sp : Sp} {dvs vs : List V} {E : XK} {ta : TA} {R : V → Hp → Prop} (h : EvA ta σ H vs) (hs : SpR sp (vs ++ dvs) H R) : Er (tCall sp dvs E ta) σ H R := fun H1 e Q q =>
  h H1 e _ fun H2 e2 => hs H2 (e.trans e2) Q (fun v H3 e3 hr => q v H3 (e2.trans e3) hr) E
theorem er_callR {sp : Sp} {dvs : List V} {E : XK} {ta : TA} {A : List V → Hp → Prop} {R : V → Hp → Prop} (h : Ear ta σ H A) (hs : ∀ vs H1, Ex H H1 → A vs H1 → SpR sp (vs ++ dvs) H1 R) : Er (tCall sp dvs E ta) σ H R := fun H1 e Q q =>
  h H1 e _ fun vs H2 e2 ha => hs vs H2 (e.trans e2) ha H2 (Ex.refl H2) Q (fun v H3 e3 hr => q v H3 (e2.trans e3) hr) E
theorem spv_r {sp : Sp} {vs : List V} (h : SpV sp vs H z) : SpR sp vs H fun x _ => x = z := fun H1 e Q q E => h H1 e Q (fun H2 e2 => q z H2 e2 rfl) E
/-- a call's value, its argument told by a relation -/
theorem ev_callR {sp : Sp} {dvs : List V} {E : XK} {ta : TA} {A : List V → Hp → Prop} (h : Ear ta σ H A) (hs : ∀ vs H1, Ex H H1 → A vs H1 → SpV sp (vs ++ dvs) H1 z) : Ev (tCall sp dvs E ta) σ H z := fun H1 e Q q =>
  h H1 e _ fun vs H2 e2 ha => hs vs H2 (e.trans e2) ha H2 (Ex.refl H2) Q (fun H3 e3 => q H3 (e2.trans e3)) E
/-! ### texts -/
theorem tx_len {w : W} (h : w.length ≤ 100000) : (sOf w).length ≤ sizeLine := by rw [sOf_len]; exact sz_of h
theorem rv_addS {a b : W} (h : a.length + b.length ≤ 100000) : RV (fun x y H Q => ∃ i j, x = .str i ∧ y = .str j ∧ i.length + j.length ≤ sizeLine ∧ Q (.str (i ++ j)) H) (tx a) (tx b) H (tx (a ++ b)) := fun H1 _ Q q =>
  ⟨sOf a, sOf b, rfl, rfl, by rw [sOf_len, sOf_len]; exact sz_of h, by rw [sOf_app]; exact q H1 (Ex.refl H1)⟩
theorem rv_ltS {a b : W} : RV (fun x y H Q => ∃ i j, x = .str i ∧ y = .str j ∧ Q (.bl (decide (i.cps.toList < j.cps.toList))) H) (tx a) (tx b) H (.bl (lx a b)) := fun H1 _ Q q =>
  ⟨sOf a, sOf b, rfl, rfl, by rw [lx_dec, sOf_cps, sOf_cps]; exact q H1 (Ex.refl H1)⟩
theorem rv_eqS {a b : W} : RV rEq (tx a) (tx b) H (.bl (decide (a = b))) := fun H1 _ Q q => ⟨rfl, by rw [dec_str]; exact q H1 (Ex.refl H1)⟩
theorem rv_neS {a b : W} : RV rNe (tx a) (tx b) H (.bl (!decide (a = b))) := fun H1 _ Q q => ⟨rfl, by rw [dec_str]; exact q H1 (Ex.refl H1)⟩
theorem dec_int (i j : Int) : decide (V.int i = V.int j) = decide (i = j) := by
  by_cases h : i = j
  · rw [h, decide_eq_true rfl, decide_eq_true rfl]
  · rw [decide_eq_false h, decide_eq_false fun z => h (V.int.inj z)]
theorem dec_bl (i j : Bool) : decide (V.bl i = V.bl j) = (i == j) := by cases i <;> cases j <;> decide
theorem rv_eqI {i j : Int} : RV rEq (.int i) (.int j) H (.bl (decide (i = j))) := fun H1 _ Q q => ⟨rfl, by rw [dec_int]; exact q H1 (Ex.refl H1)⟩
theorem rv_neI {i j : Int} : RV rNe (.int i) (.int j) H (.bl (!decide (i = j))) := fun H1 _ Q q => ⟨rfl, by rw [dec_int]; exact q H1 (Ex.refl H1)⟩
theorem rv_eqB {i j : Bool} : RV rEq (.bl i) (.bl j) H (.bl (i == j)) := fun H1 _ Q q => ⟨rfl, by rw [dec_bl]; exact q H1 (Ex.refl H1)⟩
theorem rv_neB {i j : Bool} : RV rNe (.bl i) (.bl j) H (.bl (i != j)) := fun H1 _ Q q => ⟨rfl, by rw [dec_bl]; exact q H1 (Ex.refl H1)⟩
theorem rv_isB {i j : Bool} : RV rIsB (.bl i) (.bl j) H (.bl (decide (i = j))) := fun H1 _ Q q => ⟨i, j, rfl, rfl, q H1 (Ex.refl H1)⟩
theorem rv_notB {i j : Bool} : RV rNotB (.bl i) (.bl j) H (.bl (!decide (i = j))) := fun H1 _ Q q => ⟨i, j, rfl, rfl, q H1 (Ex.refl H1)⟩
/-- a written text -/
theorem ev_tx {s : Str} {w : W} (h : s = sOf w) : Ev (tC (.str s)) σ H (tx w) := by rw [h]; exact ev_c
theorem atI_nat' {α : Type} {xs : List α} {i : Int} {v : α} (h0 : 0 ≤ i) (h : xs[i.toNat]? = some v) : atI xs i = some v := by
  have := atI_nat (xs := xs) (j := i.toNat) h
  rwa [Int.toNat_of_nonneg h0] at this
theorem rv_ixW {w : W} {i : Int} {c : Nat} (h : w.length ≤ 100000) (h0 : 0 ≤ i) (hc : w[i.toNat]? = some c) : RV rIxS (tx w) (.int i) H (tx [c]) := rv_ixS (by rw [sOf_len]; exact h) (by rw [sOf_cps]; exact atI_nat' h0 hc)
theorem sl_any {lo hi : Option Int} {w w' : W} {tl th : TO} (h : Ev te σ H (tx w)) (h1 : EvO tl σ H lo) (h2 : EvO th σ H hi) (hl : w.length ≤ 100000) (e : cutS (sOf w) lo hi = sOf w') : Ev (tSl rSlS te tl th) σ H (tx w') := fun H1 a Q q =>
  h H1 a _ fun H2 e2 => h1 H2 (a.trans e2) _ fun H3 e3 => h2 H3 ((a.trans e2).trans e3) _ fun H4 e4 => ⟨sOf w, rfl, tx_len hl, by rw [e]; exact q H4 ((e2.trans e3).trans e4)⟩
theorem sl_from {w : W} {k : Nat} (h : Ev te σ H (tx w)) (h1 : Ev ti σ H (.int (k : Int))) (hl : w.length ≤ 100000) : Ev (tSl rSlS te (tPart ti) tNoPart) σ H (tx (w.drop k)) := sl_any h (eo_some h1) eo_none hl (cutS_from w k)
theorem sl_to {w : W} {k : Nat} (h : Ev te σ H (tx w)) (h1 : Ev ti σ H (.int (k : Int))) (hl : w.length ≤ 100000) : Ev (tSl rSlS te tNoPart (tPart ti)) σ H (tx (w.take k)) := sl_any h eo_none (eo_some h1) hl (cutS_to w k)
theorem sl_mid {w : W} {j k : Nat} (h : Ev te σ H (tx w)) (h1 : Ev ti σ H (.int (j : Int))) (h2 : Ev tj σ H (.int (k : Int))) (hl : w.length ≤ 100000) : Ev (tSl rSlS te (tPart ti) (tPart tj)) σ H (tx ((w.drop j).take (k - j))) := sl_any h (eo_some h1) (eo_some h2) hl (cutS_mid w j k)
theorem ev_lenW {w : W} (h : Ev te σ H (tx w)) (hl : w.length ≤ 100000) : Ev (tCB (fun xs H Q => ∃ z, xs = [.str z] ∧ z.length ≤ sizeLine ∧ Q (.int z.length) H) (tCons te tNil)) σ H (.int (w.length : Int)) := fun H1 a Q q =>
  h H1 a _ fun H2 e2 => ⟨sOf w, rfl, tx_len hl, by rw [sOf_len]; exact q H2 e2⟩
theorem ev_lenQ {p : Addr} {xs : List V} (h : Ev te σ H (.ref p)) (hs : SqL K H p xs) : Ev (tCB (fun xs H Q => ∃ p ys, xs = [.ref p] ∧ (SqL K H p ys ∨ SqT K H p ys) ∧ Q (.int ys.length) H) (tCons te tNil)) σ H (.int (xs.length : Int)) := fun H1 a Q q =>
  h H1 a _ fun H2 e2 => ⟨p, xs, rfl, .inl (ex_l (a.trans e2) hs), q H2 e2⟩
/-! ### numbers -/
theorem mulL {i j : Int} (h : -(2 ^ 64) < i ∧ i < 2 ^ 64) : CMul i j := .inl h
theorem mulR {i j : Int} (h : -(2 ^ 64) < j ∧ j < 2 ^ 64) : CMul i j := .inr h
/-! ### isinstance -/
inductive Ty5 (K : PySem.W.Frag) (H : Hp) : V → String → Prop where
  | str (s : Str) : Ty5 K H (.str s) "str"
  | int (i : Int) : Ty5 K H (.int i) "int"
  | bl (b : Bool) : Ty5 K H (.bl b) "bool"
  | tup {a : Addr} {xs : List V} (h : SqT K H a xs) : Ty5 K H (.ref a) "tuple"
  | lst {a : Addr} {xs : List V} (h : SqL K H a xs) : Ty5 K H (.ref a) "list"
theorem Ty5.mono {n : String} (e : Ex H H') (h : Ty5 K H x n) : Ty5 K H' x n := by
  cases h with
  | str s => exact .str s
  | int i => exact .int i
  | bl b => exact .bl b
  | tup h => exact .tup (ex_t e h)
  | lst h => exact .lst (ex_l e h)
theorem Ty5.tx' {n : String} (h : Ty5 K H x n) : TyX K H x (.type n) := by
  cases h with
  | str s => exact .base (.str s)
  | int i => exact .base (.int i)
  | bl b => exact .base (.bl b)
  | tup h =>
    rcases h with (h | ⟨o, h⟩) | ⟨o, its, n, hk, hc, _⟩
    · exact .base (.tup h)
    · exact .fTuple h
    · exact .kTuple hk hc
  | lst h =>
    rcases h with (h | ⟨o, h⟩) | ⟨o, its, n, hk, hc, _⟩
    · exact .base (.lst h)
    · exact .base (.frz h)
    · exact .kList hk hc
theorem rc_isi {n m : String} {b : Bool} (h : Ty5 K H x n) (hk : kitB n m = some b) : RC (rIsi K) [x, .ty m] H (.bl b) := fun H1 e Q q =>
  ⟨x, .ty m, .type n, .type m, b, rfl, .ty m, (h.mono e).tx', kit_ty hk, q H1 (Ex.refl H1)⟩
theorem ev_isi {n m : String} {b : Bool} (h : Ev te σ H x) (hc : Ev ti σ H (.ty m)) (ht : Ty5 K H x n) (hk : kitB n m = some b) : Ev (tCB (rIsi K) (tCons te (tCons ti tNil))) σ H (.bl b) := ev_cb (ea_cons h (ea_cons hc ea_nil)) (rc_isi ht hk)
theorem kitAny_first {n a : String} {r : List Value} (h1 : kitB n a = some true) : PySem.W.kitAny K (.type n) (.type a :: r) = some true := by
  unfold PySem.W.kitAny
  rw [kit_ty h1]
theorem kitAny_next {n a : String} {r : List Value} {b : Option Bool} (h1 : kitB n a = some false) (h2 : PySem.W.kitAny K (.type n) r = b) : PySem.W.kitAny K (.type n) (.type a :: r) = b := by
  unfold PySem.W.kitAny
  rw [kit_ty h1]
  exact h2
/-- isinstance(x, (a, b)) -/
theorem ev_isi2 {n a b : String} {r : Bool} (h : Ev te σ H x) (ht : Ty5 K H x n) (hk : PySem.W.kitAny K (.type n) [.type a, .type b] = some r) : Ev (tCB (rIsiT K) (tCons te (tCons (tTup (tCons (tC (.ty a)) (tCons (tC (.ty b)) tNil))) tNil))) σ H (.bl r) := fun H1 e Q q =>
  h H1 e _ fun H2 e2 => ⟨by show 2 ≤ sizeLine; decide, fun p hp => ⟨x, p, _, .type n, _, r, rfl, upd_same, .cons (.ty a) (.cons (.ty b) .nil), (ht.mono ((e.trans e2).trans (Ex.new hp))).tx', hk, q _ (e2.trans (Ex.new hp))⟩⟩
/-! ### all of a new list of tests; least of a new list of numbers -/
theorem ev_all {bs : List Bool} (h : EvL te σ H (bs.map V.bl)) : Ev (tCB (rAll K) (tCons te tNil)) σ H (.bl (bs.all id)) := fun H1 e Q q =>
  h H1 e _ fun p H2 _ e2 hp => ⟨p, bs, rfl, SqL.of hp, q H2 e2⟩
theorem ev_minN {ns : List Int} {m : Int} (h : EvL te σ H (ns.map V.int)) (hm : m ∈ ns) (hl : ∀ y ∈ ns, m ≤ y) : Ev (tCB (rMin K) (tCons te tNil)) σ H (.int m) := fun H1 e Q q =>
  h H1 e _ fun p H2 _ e2 hp => ⟨p, ns, rfl, SqL.of hp, List.length_pos_of_mem hm, fun m' h1 h2 => by
    have : m' = m := Int.le_antisymm (h2 m hm) (hl m' h1)
    rw [this]; exact q H2 e2⟩
/-! ### a comprehension over range(lo, n) -/
theorem el_lcR2 {ta : TA} {j : Nat} {vs : List Nat} {lo n : Int} (f : Nat → Bool) (v : Nat → V) (h : EvA ta σ H [.int lo, .int n]) (hn : 0 ≤ lo ∧ lo ≤ 40000 ∧ -40000 ≤ n ∧ n ≤ 40000) (hw : ∀ x, wipe ((wipe σ vs).set j (some x)) vs = wipe σ vs)
    (ht : ∀ (i : Nat) H1, Ex H H1 → lo + (i : Int) < n → EvT t ((wipe σ vs).set j (some (.int (lo + (i : Int))))) H1 (f i)) (he : ∀ (i : Nat) H1, Ex H H1 → lo + (i : Int) < n → f i = true → Ev te ((wipe σ vs).set j (some (.int (lo + (i : Int))))) H1 (v i)) :
    EvL (tLc (iRng2 ta) (gName j) t te vs) σ H (given (n - lo).toNat f v) := fun H0 e Q q => h H0 e _ fun H1 e1 => ⟨lo, n, rfl, ⟨by omega, by omega, by omega, by omega⟩, fun Dl hD =>
  lc_range (lo := lo) (n := (n - lo).toNat) (Cw H1 f v Dl) ⟨hD, Ex.new hD, upd_same⟩ (fun i H' hi p => ⟨hw _, cw_turn p (by omega) (ht i H1 (e.trans e1) (by omega)) (fun hf => he i H1 (e.trans e1) (by omega) hf)⟩)
    (fun H' p => q Dl H' (fresh_back e1 p.1) (e1.trans p.2.1) p.2.2)⟩
theorem el_is {xs ys : List V} (h : EvL te σ H xs) (e : xs = ys) : EvL te σ H ys := by rw [← e]; exact h
theorem et_yes : EvT tYes σ H true := fun H1 _ Q q => q H1 (Ex.refl H1)
theorem given_all (n : Nat) (v : Nat → V) : given n (fun _ => true) v = (List.range n).map v := by
  unfold given
  rw [List.filter_eq_self.mpr (fun _ _ => rfl)]
/-! ### letters -/
def ABC (w : W) : Prop := ∀ c ∈ w, c = 97 ∨ c = 98 ∨ c = 99
theorem ABC.nil : ABC [] := fun _ h => by cases h
theorem ABC.snoc {w : W} {c : Nat} (h : ABC w) (hc : c = 97 ∨ c = 98 ∨ c = 99) : ABC (w ++ [c]) := fun x hx => by
  rcases List.mem_append.mp hx with hx | hx
  · exact h x hx
  · have : x = c := by simpa using hx
    rw [this]; exact hc
/-- a sign of the text abc at a rest by 3 -/
theorem abcW (c : Int) : ∃ l : Nat, ([97, 98, 99] : W)[(c % 3).toNat]? = some l ∧ (l = 97 ∨ l = 98 ∨ l = 99) := by
  have h0 := Int.emod_nonneg c (show (3 : Int) ≠ 0 by decide)
  have h1 := Int.emod_lt_of_pos c (show (0 : Int) < 3 by decide)
  have : (c % 3).toNat = 0 ∨ (c % 3).toNat = 1 ∨ (c % 3).toNat = 2 := by omega
  rcases this with h | h | h <;> rw [h]
  · exact ⟨97, rfl, .inl rfl⟩
  · exact ⟨98, rfl, .inr (.inl rfl)⟩
  · exact ⟨99, rfl, .inr (.inr rfl)⟩
/-! ### statements by relations -/
section
variable {D : Ends} {tz : TS} {i : Nat} {R : V → Hp → Prop}
theorem q_asgR (h : Er te σ H R) (k : ∀ v H1, Ex H H1 → R v H1 → tz D (σ.set i (some v)) H1) : tSeq (tAsg te (gName i)) tz D σ H := h H (Ex.refl H) _ fun v H1 e r => k v H1 e r
theorem s_asgR (h : Er te σ H R) (k : ∀ v H1, Ex H H1 → R v H1 → D.nx (σ.set i (some v)) H1) : tAsg te (gName i) D σ H := h H (Ex.refl H) _ fun v H1 e r => k v H1 e r
theorem s_retR (h : Er te σ H R) (k : ∀ v H1, Ex H H1 → R v H1 → D.rt v H1) : tRet te D σ H := h H (Ex.refl H) _ fun v H1 e r => k v H1 e r
end
/-! ### data compared -/
mutual
theorem Dp.up {K : PySem.W.Frag} {H H' : Hp} (e : Ex H H') : ∀ {v : V} {d : PyData}, Dp K H v d → Dp K H' v d
  | _, _, .non => .non
  | _, _, .bl b => .bl b
  | _, _, .int i => .int i
  | _, _, .str x => .str x
  | _, _, .lst h r => .lst (ex_l e h) (DpAll.up e r)
  | _, _, .tup h r => .tup (ex_t e h) (DpAll.up e r)
theorem DpAll.up {K : PySem.W.Frag} {H H' : Hp} (e : Ex H H') : ∀ {vs : List V} {ds : List PyData}, DpAll K H vs ds → DpAll K H' vs ds
  | _, _, .nil => .nil
  | _, _, .cons a b => .cons (Dp.up e a) (DpAll.up e b)
end
theorem rv_eqD {d e : PyData} (hx : Dp K H x d) (hy : Dp K H y e) (s1 : SeqAt.shaped d = true) (s2 : SeqAt.shaped e = true) : RV (rEqD K) x y H (.bl (PyData.eqv d e)) := fun H1 a Q q => ⟨d, e, Dp.up a hx, Dp.up a hy, s1, s2, q H1 (Ex.refl H1)⟩
theorem rv_neD {d e : PyData} (hx : Dp K H x d) (hy : Dp K H y e) (s1 : SeqAt.shaped d = true) (s2 : SeqAt.shaped e = true) : RV (rNeD K) x y H (.bl (!PyData.eqv d e)) := fun H1 a Q q => ⟨d, e, Dp.up a hx, Dp.up a hy, s1, s2, q H1 (Ex.refl H1)⟩
theorem minus_one {n : Nat} : ((n : Int) - 1).toNat = n - 1 := by omega
end
end TB
/-! ## TbExc -/
/-! The errors' classes: where one stands, raising it, catching it by the class above it, asking the caught one. -/
namespace TB
open PySem PySem.Spec PyProof.Rows L2 Evl
structure ErrAt (K : PySem.W.Frag) (mg : Str → Option Value) (x : Str) where
  C : Addr
  gm : mg x = some (.ref C)
  xc : PySem.W.excIn K C [.type "ValueError", .type "Exception", .type "BaseException", .type "object"] "ValueError.__new__" = true
  kp : PySem.W.keepIn K (.ref C) = true
  sb : PySem.W.subIn K (.ref C) (.type "BaseException") = some true
  ty : PySem.W.typeIn K (.ref C) = some (.type "type")
  ex : ExcC K C
section
variable {X : Cx} {x m : Str} {j : Nat} {p p2 pos : Pos}
theorem ErrAt.pm (T : ErrAt X.K X.mg x) (hg : Gl X x := by rfl) (hdb : (x == ("__debug__" : Str)) = false := by decide) : PMk X (.Call (.Name x p) [.Constant (.str m) j p2] [] pos) (fun _ H Q => Q (.ref T.C) none H) :=
  pmk_own PySem.F.excBase_ValueError T.xc T.gm T.kp (raises_own T.sb T.ty) hg hdb
end
/-- C's errors are caught by the clause that names D -/
theorem exm_up {K : PySem.W.Frag} {mg : Str → Option Value} {x : Str} (T : ErrAt K mg x) {C : Addr} (h : PySem.W.subIn K (.ref C) (.ref T.C) = some true) : PySem.W.exmOne K (.ref C) (.ref T.C) = some true := PySem.W.exm_ref T.sb T.ex.hd T.ty h
section
variable {K : PySem.W.Frag} {σ : L2.St} {H : Hp} {te ti : TE}
/-- isinstance(e, D), e the error of the class at C that the suite holds at a -/
theorem ev_isE {C a : Addr} {c : V} {cv : Value} {b : Bool} (h : Ev te σ H (.ref a)) (hc : Ev ti σ H c) (hr : ∀ u, RelV c u → u = cv) (hk : PySem.W.kitOne K (.ref C) cv = some b) : Ev (tCB (rIsE K C a) (tCons te (tCons ti tNil))) σ H (.bl b) :=
  ev_cb (ea_cons h (ea_cons hc ea_nil)) fun H1 _ Q q => ⟨c, cv, b, rfl, hr, hk, q H1 (Ex.refl H1)⟩
theorem rel_ref {a : Addr} (u : Value) (r : RelV (.ref a) u) : u = .ref a := r
theorem rel_ty {n : String} (u : Value) (r : RelV (.ty n) u) : u = .type n := r
end
section
variable {X : Cx}
/-- a suite read where something is known of the error -/
theorem pss_guard {st : List Stmt} {ts : TS} {P : Prop} (h : P → PSs X st ts) : PSs X st (fun D σ H => P ∧ ts D σ H) := ⟨fun pins s σ H D I hw => (h hw.1).run pins s σ H D I hw.2⟩
end
/-- three answers of isinstance, of the error in slot i -/
def tIs3 (K : PySem.W.Frag) (i : Nat) (C C1 C3 : Addr) (a : Addr) : TA := tCons (tCB (rIsE K C a) (tCons (tVar i) (tCons (tC (.ref C1)) tNil))) (tCons (tCB (rIsE K C a) (tCons (tVar i) (tCons (tC (.ty "ValueError")) tNil))) (tCons (tCB (rIsE K C a) (tCons (tVar i) (tCons (tC (.ref C3)) tNil))) tNil))
theorem ea_is3 {K : PySem.W.Frag} {σ : L2.St} {H : Hp} {i : Nat} {C C1 C3 a : Addr} {b1 b2 b3 : Bool} (hi : σ[i]? = some (some (.ref a))) (k1 : PySem.W.kitOne K (.ref C) (.ref C1) = some b1) (k2 : PySem.W.kitOne K (.ref C) (.type "ValueError") = some b2) (k3 : PySem.W.kitOne K (.ref C) (.ref C3) = some b3) :
    EvA (tIs3 K i C C1 C3 a) σ H [.bl b1, .bl b2, .bl b3] :=
  ea_cons (ev_isE (ev_var hi) ev_c rel_ref k1) (ea_cons (ev_isE (ev_var hi) ev_c rel_ty k2) (ea_cons (ev_isE (ev_var hi) ev_c rel_ref k3) ea_nil))
end TB
/-! ## TbEnd -/
/-! From what the top has written to the facts of a def, of an error's class. -/
namespace TB
open PySem PySem.Spec PyProof.Rows L2
section
variable {K : PySem.W.Frag} {mg : Str → Option Value} {h : Heap}
def defAt_mk {x : Str} {st : Stmt} {ps : List Str} {f : Addr} {od an : Option Addr} {sl : Array (Option Value)} {oc kV dc pm cd ct : Value} (X : K.In h) (G : h.Ns mainGlobals mg)
    (a : PySem.W.nsIn K mainGlobals x = some (some (.ref f))) (l : K.lookup f = some ⟨oc, od, .func (PySem.W.fnOf x x (defArgs st) (defBody st) (defScope st) .none kV dc pm an cd ct), sl⟩) (c : PySem.W.codeIn K cd x = true) (k : PySem.W.keepIn K (.ref f) = true)
    (hb : ∀ (kV doc pm : Value) (an : Option Addr) (cdv ct : Value) (us : List Value), us.length = ps.length → bindArgs (PySem.W.fnOf x x (defArgs st) (defBody st) (defScope st) .none kV doc pm an cdv ct) ⟨us, []⟩ = pure (ps.zip us)) : DefAt K mg x st ps where
  f := f
  fd := PySem.W.fnOf x x (defArgs st) (defBody st) (defScope st) .none kV dc pm an cd ct
  F := fun_mk l c k
  gm := PySem.W.mg_of X G a
  b := (fun_mk (st := st) l c k).binds hb
def errAt_mk {x : Str} {C : Addr} (X : K.In h) (G : h.Ns mainGlobals mg) (a : PySem.W.nsIn K mainGlobals x = some (some (.ref C))) (xc : PySem.W.excIn K C [.type "ValueError", .type "Exception", .type "BaseException", .type "object"] "ValueError.__new__" = true)
    (kp : PySem.W.keepIn K (.ref C) = true) (sb : PySem.W.subIn K (.ref C) (.type "BaseException") = some true) (ty : PySem.W.typeIn K (.ref C) = some (.type "type"))
    (hg : PySem.W.findIn K (.ref C) "__getattribute__" = some (some (.builtin "BaseException.__getattribute__"))) (hk : PySem.W.findIn K (.ref C) "__getattr__" = some none) (hd : PySem.W.hasDictIn K C = true)
    (ha : PySem.W.findIn K (.ref C) "__class__" = some (some (.builtin "object.__class__"))) (hn : PySem.W.specialIn K (.builtin "object.__class__") "__get__" = some (some (.builtin "getset_descriptor.__get__"))) (ht : PySem.W.takesIn K (.builtin "object.__class__") = some true) (hm : PySem.W.mroIn K C (.type "object") = some true) : ErrAt K mg x where
  C := C
  gm := PySem.W.mg_of X G a
  xc := xc
  kp := kp
  sb := sb
  ty := ty
  ex := ⟨hg, hk, sb, hd, ha, hn, ht, hm⟩
end
end TB
/-! ## TbTop -/
/-! The text of the law by places. -/
namespace TB
open PySem L2
def topS (i : Nat) : Stmt := PySem.Challenge.pw_twistbrackets_k03_plain_brackets.main.body.getD i (.Pass ⟨0, 0, 0, 0⟩)
abbrev s_is_plain : Stmt := topS 5
theorem sc_is_plain : FnScope ["word", "at"] ["word"] (defScope s_is_plain) := ⟨rfl, rfl, rfl, by decide +kernel, rfl, by decide +kernel, by decide +kernel⟩
abbrev s_cut : Stmt := topS 6
theorem sc_cut : FnScope ["word", "at"] ["word"] (defScope s_cut) := ⟨rfl, rfl, rfl, by decide +kernel, rfl, by decide +kernel, by decide +kernel⟩
abbrev s_plain_bracket : Stmt := topS 7
theorem sc_plain_bracket : FnScope ["word", "front", "end"] ["word"] (defScope s_plain_bracket) := ⟨rfl, rfl, rfl, by decide +kernel, rfl, by decide +kernel, by decide +kernel⟩
abbrev s__law_stir : Stmt := topS 9
theorem sc__law_stir : FnScope ["cell", "found", "factor", "mixed"] ["cell"] (defScope s__law_stir) := ⟨rfl, rfl, rfl, by decide +kernel, rfl, by decide +kernel, by decide +kernel⟩
abbrev s__law_cell : Stmt := topS 10
theorem sc__law_cell : FnScope ["script", "k"] ["script", "k"] (defScope s__law_cell) := ⟨rfl, rfl, rfl, by decide +kernel, rfl, by decide +kernel, by decide +kernel⟩
abbrev s__law_raw : Stmt := topS 11
theorem sc__law_raw : FnScope ["script", "k"] ["script", "k"] (defScope s__law_raw) := ⟨rfl, rfl, rfl, by decide +kernel, rfl, by decide +kernel, by decide +kernel⟩
abbrev s__law_word : Stmt := topS 12
theorem sc__law_word : FnScope ["script", "at", "most", "cell", "size", "word", "k"] ["script", "at", "most"] (defScope s__law_word) := ⟨rfl, rfl, rfl, by decide +kernel, rfl, by decide +kernel, by decide +kernel⟩
abbrev s__law_turned : Stmt := topS 13
theorem sc__law_turned : FnScope ["word", "script", "at", "turns", "k"] ["word", "script", "at"] (defScope s__law_turned) := ⟨rfl, rfl, rfl, by decide +kernel, rfl, by decide +kernel, by decide +kernel⟩
abbrev s__law_is_plain : Stmt := topS 14
theorem sc__law_is_plain : FnScope ["word", "at"] ["word"] (defScope s__law_is_plain) := ⟨rfl, rfl, rfl, by decide +kernel, rfl, by decide +kernel, by decide +kernel⟩
abbrev s__law_plain_bracket : Stmt := topS 15
theorem sc__law_plain_bracket : FnScope ["word", "ends", "at"] ["word"] (defScope s__law_plain_bracket) := ⟨rfl, rfl, rfl, by decide +kernel, rfl, by decide +kernel, by decide +kernel⟩
abbrev s__law_told : Stmt := topS 16
theorem sc__law_told : FnScope ["word", "e"] ["word"] (defScope s__law_told) := ⟨rfl, rfl, rfl, by decide +kernel, rfl, by decide +kernel, by decide +kernel⟩
abbrev s_law : Stmt := topS 17
theorem sc_law : FnScope ["script", "word", "told"] ["script"] (defScope s_law) := ⟨rfl, rfl, rfl, by decide +kernel, rfl, by decide +kernel, by decide +kernel⟩
end TB
/-! ## TbD__law_stir -/
namespace TB
open PySem PySem.Spec PyProof.Rows L2 Evl
section
variable {P : Program} {wd : World} {K : PySem.W.Frag} {mg : Str → Option Value} {base : Heap}
/-! _law_stir -/
def stirS (c f : Int) (k : Int) : Int := f * 10 ^ 9 + (((c * k + 7919) % 2147483647 * ((c * k + 7919) % 2147483647) % 2147483647 * 40692 % 2147483399) / 7)
def stirL : List Int := [48271, 69621, 39373, 44488]
def stirF (c : Int) : Int := stirL.foldl (stirS c) 0
def sp__law_stir : Sp := fun vs H Q _ => ∃ c : Int, vs = [.int c] ∧ ∀ H', Ex H H' → Q (.int (stirF c)) H'
theorem sv__law_stir {c : Int} {H : Hp} : SpV sp__law_stir [.int c] H (.int (stirF c)) := fun H1 _ Q q E => ⟨c, rfl, q⟩
theorem stir_in {x : Int} : -(2 ^ 64) < x % 2147483647 ∧ x % 2147483647 < 2 ^ 64 := by omega
theorem ok__law_stir (B : Blt mg) (D : DefAt K mg "_law_stir" s__law_stir ["cell"]) : FnOk P wd K mg base CX0 1 D.f D.fd ["cell"] sp__law_stir := by
  refine D.F.ok sc__law_stir (fun vs H Q E h => ?_) (fun cdv A outer s H vs Q E hr h => ?_)
  · obtain ⟨w, rfl, _⟩ := h
    rfl
  obtain ⟨c, rfl, q⟩ := h
  refine ⟨_, (pss_cons (ps_set (i := 1) sc__law_stir.nd rfl (by first | exact .inl rfl | exact .inr rfl) pe_int)
    (pss_cons (ps_for PassesOwn.never rfl (pi_list (pe_lst (pa_cons pe_int (pa_cons pe_int (pa_cons pe_int (pa_cons pe_int pa_nil)))))) (pg_name (i := 2) sc__law_stir.nd rfl (by first | exact .inl rfl | exact .inr rfl))
      (pss_cons (ps_set (i := 3) sc__law_stir.nd rfl (by first | exact .inl rfl | exact .inr rfl) (pe_op op_mod (pe_op op_add (pe_op op_mul (pv 0) (pv 2)) pe_int) pe_int))
      (pss_cons (ps_set (i := 3) sc__law_stir.nd rfl (by first | exact .inl rfl | exact .inr rfl) (pe_op op_mod (pe_op op_mul (pe_op op_mod (pe_op op_mul (pv 3) (pv 3)) pe_int) pe_int) pe_int))
      (pss_one (ps_set (i := 1) sc__law_stir.nd rfl (by first | exact .inl rfl | exact .inr rfl) (pe_op op_add (pe_op op_mul (pv 1) (pe_op op_pow pe_int pe_int)) (pe_op op_fdiv (pv 3) pe_int)))))))
    (pss_one (ps_ret (pv 1))))), ?_⟩
  refine q_asg ev_c (fun H1 e1 => ?_)
  refine q_forNLn (xs := stirL.map V.int) (el_is (el_lst (ea_cons ev_c (ea_cons ev_c (ea_cons ev_c (ea_cons ev_c ea_nil)))) (by decide)) rfl) (fun p i σ H2 => Ex H1 H2 ∧ H2 p = some (.lst (stirL.map V.int)) ∧ ∃ y z, σ = [some (.int c), some (.int ((stirL.take i).foldl (stirS c) 0)), y, z]) (fun p H2 _ e2 hp => ⟨e2, hp, none, none, rfl⟩) (fun p i σ H2 _ hP => sq_of hP.2.1) ?_ ?_
  · rintro p i x σ H2 hx ⟨e2, hp, y, z, rfl⟩
    obtain ⟨k, hk, rfl⟩ : ∃ k, stirL[i]? = some k ∧ x = .int k := by
      rw [List.getElem?_map] at hx
      cases e : stirL[i]? with
      | none => rw [e] at hx; cases hx
      | some k => rw [e] at hx; cases hx; exact ⟨k, rfl, rfl⟩
    have hks : -(2 ^ 64) < k ∧ k < 2 ^ 64 := by
      have := List.mem_of_getElem? hk
      simp only [stirL, List.mem_cons, List.not_mem_nil, or_false] at this
      omega
    refine q_asg (ev_op (ev_op (ev_op (ev_var rfl) (ev_var rfl) (rv_I (.inr hks))) ev_c rv_I0) ev_c (rv_I (by decide))) (fun H3 e3 => ?_)
    refine q_asg (ev_op (ev_op (ev_op (ev_op (ev_var rfl) (ev_var rfl) (rv_I (.inr stir_in))) ev_c (rv_I (by decide))) ev_c (rv_I (.inr (by decide)))) ev_c (rv_I (by decide))) (fun H4 e4 => ?_)
    refine s_asg (ev_op (ev_op (ev_var rfl) (ev_op ev_c ev_c (rv_I ⟨by decide, by decide, by decide⟩)) (rv_I (.inr (by decide)))) (ev_op (ev_var rfl) ev_c (rv_I ⟨by decide, by decide⟩)) rv_I0) (fun H5 e5 => ?_)
    refine ⟨((e2.trans e3).trans e4).trans e5, e5 _ _ (e4 _ _ (e3 _ _ hp)), some (.int k), ?_⟩
    rw [List.take_add_one, hk, List.foldl_append]
    exact ⟨_, rfl⟩
  · rintro p σ H2 ⟨e2, hp, y, z, rfl⟩
    exact s_ret (ev_var rfl) (fun H3 e3 => q H3 ((e1.trans e2).trans e3))
end
end TB
/-! ## TbD__law_cell -/
namespace TB
open PySem PySem.Spec PyProof.Rows L2 Evl
section
variable {P : Program} {wd : World} {K : PySem.W.Frag} {mg : Str → Option Value} {base : Heap}
/-! _law_cell, over a list of numbers that stands -/
def cellF (ns : List Int) (k : Int) : Int := if k < ns.length then stirF (ns.getD k.toNat 0) else stirF 0
def sp__law_cell (K : PySem.W.Frag) : Sp := fun vs H Q _ => ∃ (a : Addr) (ns : List Int) (k : Int), vs = [.ref a, .int k] ∧ SqL K H a (ns.map V.int) ∧ 0 ≤ k ∧ ∀ H', Ex H H' → Q (.int (cellF ns k)) H'
theorem sv__law_cell {K : PySem.W.Frag} {a : Addr} {ns : List Int} {k : Int} {H : Hp} (hs : SqL K H a (ns.map V.int)) (h0 : 0 ≤ k) : SpV (sp__law_cell K) [.ref a, .int k] H (.int (cellF ns k)) := fun H1 e Q q E => ⟨a, ns, k, rfl, ex_l e hs, h0, q⟩
theorem ns_at {ns : List Int} {k : Int} (h0 : 0 ≤ k) (h : k < ns.length) : atI (ns.map V.int) k = some (.int (ns.getD k.toNat 0)) := by
  have hk : k.toNat < ns.length := by omega
  refine atI_nat' h0 ?_
  rw [List.getElem?_map, List.getElem?_eq_getElem hk, List.getD_eq_getElem?_getD, List.getElem?_eq_getElem hk]
  rfl
theorem ok__law_cell (B : Blt mg) (D : DefAt K mg "_law_cell" s__law_cell ["script", "k"]) (D__law_stir : DefAt K mg "_law_stir" s__law_stir ["cell"]) : FnOk P wd K mg base CX0 2 D.f D.fd ["script", "k"] (sp__law_cell K) := by
  have G__law_stir := ok__law_stir (P := P) (wd := wd) (base := base) B D__law_stir
  refine D.F.ok sc__law_cell (fun vs H Q E h => ?_) (fun cdv A outer s H vs Q E hr h => ?_)
  · obtain ⟨a, ns, k, rfl, _⟩ := h
    rfl
  obtain ⟨a, ns, k, rfl, hs, h0, q⟩ := h
  refine ⟨_, (pss_cons (ps_if (pt_cmpR op_lt (pv 1) (pe_callB call_len_seq (by rfl) B.len PySem.boot_len (pa_cons (pv 0) pa_nil)) (nomark _))
      (pss_one (ps_ret (cl D__law_stir G__law_stir hr (pa_cons (pe_ix ix_list (pv 0) (pv 1) (fun _ _ => rfl)) pa_nil))))
      pss_nil)
    (pss_one (ps_ret (cl D__law_stir G__law_stir hr (pa_cons pe_int pa_nil))))), ?_⟩
  refine q_when (et_test (ev_op (ev_var rfl) (ev_lenQ (ev_var rfl) hs) rv_I0)) (fun hb H1 e1 => ?_) (fun hb H1 e1 => ?_)
  · have hb' : k < ns.length := by
      have := of_decide_eq_true hb
      rwa [List.length_map] at this
    refine s_ret (ev_call (ea_cons (ev_op (ev_var rfl) (ev_var rfl) (rv_ixL (ex_l e1 hs) (ns_at h0 hb'))) ea_nil) sv__law_stir) (fun H2 e2 => ?_)
    have := q H2 (e1.trans e2)
    unfold cellF at this
    rw [if_pos hb'] at this
    exact this
  · have hb' : ¬ k < ns.length := by
      have := of_decide_eq_false hb
      rwa [List.length_map] at this
    refine s_ret (ev_call (ea_cons ev_c ea_nil) sv__law_stir) (fun H2 e2 => ?_)
    have := q H2 (e1.trans e2)
    unfold cellF at this
    rw [if_neg hb'] at this
    exact this
end
end TB
/-! ## TbD__law_raw -/
namespace TB
open PySem PySem.Spec PyProof.Rows L2 Evl
section
variable {P : Program} {wd : World} {K : PySem.W.Frag} {mg : Str → Option Value} {base : Heap}
/-! _law_raw -/
def rawF (ns : List Int) (k : Int) : Int := if k < ns.length then ns.getD k.toNat 0 else 0
def sp__law_raw (K : PySem.W.Frag) : Sp := fun vs H Q _ => ∃ (a : Addr) (ns : List Int) (k : Int), vs = [.ref a, .int k] ∧ SqL K H a (ns.map V.int) ∧ 0 ≤ k ∧ ∀ H', Ex H H' → Q (.int (rawF ns k)) H'
theorem sv__law_raw {K : PySem.W.Frag} {a : Addr} {ns : List Int} {k : Int} {H : Hp} (hs : SqL K H a (ns.map V.int)) (h0 : 0 ≤ k) : SpV (sp__law_raw K) [.ref a, .int k] H (.int (rawF ns k)) := fun H1 e Q q E => ⟨a, ns, k, rfl, ex_l e hs, h0, q⟩
theorem ok__law_raw (B : Blt mg) (D : DefAt K mg "_law_raw" s__law_raw ["script", "k"]) : FnOk P wd K mg base CX0 1 D.f D.fd ["script", "k"] (sp__law_raw K) := by
  refine D.F.ok sc__law_raw (fun vs H Q E h => ?_) (fun cdv A outer s H vs Q E hr h => ?_)
  · obtain ⟨a, ns, k, rfl, _⟩ := h
    rfl
  obtain ⟨a, ns, k, rfl, hs, h0, q⟩ := h
  refine ⟨_, (pss_cons (ps_if (pt_cmpR op_lt (pv 1) (pe_callB call_len_seq (by rfl) B.len PySem.boot_len (pa_cons (pv 0) pa_nil)) (nomark _))
      (pss_one (ps_ret (pe_ix ix_list (pv 0) (pv 1) (fun _ _ => rfl))))
      pss_nil)
    (pss_one (ps_ret pe_int))), ?_⟩
  refine q_when (et_test (ev_op (ev_var rfl) (ev_lenQ (ev_var rfl) hs) rv_I0)) (fun hb H1 e1 => ?_) (fun hb H1 e1 => ?_)
  · have hb' : k < ns.length := by
      have := of_decide_eq_true hb
      rwa [List.length_map] at this
    refine s_ret (ev_op (ev_var rfl) (ev_var rfl) (rv_ixL (ex_l e1 hs) (ns_at h0 hb'))) (fun H2 e2 => ?_)
    have := q H2 (e1.trans e2)
    unfold rawF at this
    rw [if_pos hb'] at this
    exact this
  · have hb' : ¬ k < ns.length := by
      have := of_decide_eq_false hb
      rwa [List.length_map] at this
    refine s_ret ev_c (fun H2 e2 => ?_)
    have := q H2 (e1.trans e2)
    unfold rawF at this
    rw [if_neg hb'] at this
    exact this
end
end TB
/-! ## TbD__law_word -/
namespace TB
open PySem PySem.Spec PyProof.Rows L2 Evl
section
variable {P : Program} {wd : World} {K : PySem.W.Frag} {mg : Str → Option Value} {base : Heap}
/-! _law_word: some word of the three letters -/
def wdR (m : Nat) (v : V) (_ : Hp) : Prop := ∃ w : W, v = tx w ∧ w.length ≤ m ∧ ABC w
def sp__law_word (K : PySem.W.Frag) : Sp := fun vs H Q _ => ∃ (a : Addr) (ns : List Int) (k : Int) (m : Nat), vs = [.ref a, .int k, .int (m : Int)] ∧ SqL K H a (ns.map V.int) ∧ 0 ≤ k ∧ m ≤ 100 ∧ ∀ v H', Ex H H' → wdR m v H' → Q v H'
theorem sv__law_word {K : PySem.W.Frag} {a : Addr} {ns : List Int} {k : Int} {m : Nat} {H : Hp} (hs : SqL K H a (ns.map V.int)) (h0 : 0 ≤ k) (hm : m ≤ 100) : SpR (sp__law_word K) [.ref a, .int k, .int (m : Int)] H (wdR m) := fun H1 e Q q E => ⟨a, ns, k, m, rfl, ex_l e hs, h0, hm, q⟩
theorem ok__law_word (B : Blt mg) (D : DefAt K mg "_law_word" s__law_word ["script", "at", "most"]) (D__law_raw : DefAt K mg "_law_raw" s__law_raw ["script", "k"]) (D__law_stir : DefAt K mg "_law_stir" s__law_stir ["cell"]) : FnOk P wd K mg base CX0 2 D.f D.fd ["script", "at", "most"] (sp__law_word K) := by
  have G__law_raw := ok__law_raw (P := P) (wd := wd) (base := base) B D__law_raw
  have G__law_stir := ok__law_stir (P := P) (wd := wd) (base := base) B D__law_stir
  refine D.F.ok sc__law_word (fun vs H Q E h => ?_) (fun cdv A outer s H vs Q E hr h => ?_)
  · obtain ⟨a, ns, k, m, rfl, _⟩ := h
    rfl
  obtain ⟨a, ns, k, m, rfl, hs, h0, hm, q⟩ := h
  refine ⟨_, (pss_cons (ps_set (i := 3) sc__law_word.nd rfl (by first | exact .inl rfl | exact .inr rfl) (cl D__law_raw G__law_raw hr (pa_cons (pv 0) (pa_cons (pv 1) pa_nil))))
    (pss_cons (ps_if (pt_cmpR op_eq (pe_op op_mod (pv 3) pe_int) pe_int (nomark _))
      (pss_one (ps_set (i := 3) sc__law_word.nd rfl (by first | exact .inl rfl | exact .inr rfl) (cl D__law_stir G__law_stir hr (pa_cons (pv 3) pa_nil))))
      pss_nil)
    (pss_cons (ps_set (i := 3) sc__law_word.nd rfl (by first | exact .inl rfl | exact .inr rfl) (pe_op op_fdiv (pv 3) pe_int))
    (pss_cons (ps_set (i := 4) sc__law_word.nd rfl (by first | exact .inl rfl | exact .inr rfl) (pe_op op_mod (pv 3) (pe_op op_add (pv 2) pe_int)))
    (pss_cons (ps_set (i := 3) sc__law_word.nd rfl (by first | exact .inl rfl | exact .inr rfl) (pe_op op_fdiv (pv 3) (pe_op op_add (pv 2) pe_int)))
    (pss_cons (ps_set (i := 5) sc__law_word.nd rfl (by first | exact .inl rfl | exact .inr rfl) pe_str)
    (pss_cons (ps_for PassesOwn.never rfl (pi_range1 (by rfl) B.range (pa_cons (pv 4) pa_nil)) (pg_name (i := 6) sc__law_word.nd rfl (by first | exact .inl rfl | exact .inr rfl))
      (pss_cons (ps_set (i := 5) sc__law_word.nd rfl (by first | exact .inl rfl | exact .inr rfl) (pe_op op_add_str (pv 5) (pe_ix ix_str pe_str (pe_op op_mod (pv 3) pe_int) (fun _ _ => rfl))))
      (pss_one (ps_set (i := 3) sc__law_word.nd rfl (by first | exact .inl rfl | exact .inr rfl) (pe_op op_fdiv (pv 3) pe_int)))))
    (pss_one (ps_ret (pv 5)))))))))), ?_⟩
  refine q_asg (ev_call (ea_cons (ev_var rfl) (ea_cons (ev_var rfl) ea_nil)) (sv__law_raw hs h0)) (fun H1 e1 => ?_)
  refine q_ifAsg (v := .int (if rawF ns k % 3 = 1 then stirF (rawF ns k) else rawF ns k)) (et_test (ev_op (ev_op (ev_var rfl) ev_c (rv_I (by decide))) ev_c rv_eqI)) (fun hb => ?_) (fun hb => ?_) (fun H2 e2 => ?_)
  · rw [if_pos (of_decide_eq_true hb)]
    exact ev_call (ea_cons (ev_var rfl) ea_nil) sv__law_stir
  · rw [if_neg (of_decide_eq_false hb)]
    rfl
  generalize (if rawF ns k % 3 = 1 then stirF (rawF ns k) else rawF ns k) = c
  refine q_asg (ev_op (ev_var rfl) ev_c (rv_I ⟨by decide, by decide⟩)) (fun H3 e3 => ?_)
  refine q_asg (ev_op (ev_var rfl) (ev_op (ev_var rfl) ev_c rv_I0) (rv_I (by show (0 : Int) < (m : Int) + 1; omega))) (fun H4 e4 => ?_)
  refine q_asg (ev_op (ev_var rfl) (ev_op (ev_var rfl) ev_c rv_I0) (rv_I (by show CDiv _ ((m : Int) + 1); exact ⟨by omega, by omega⟩))) (fun H5 e5 => ?_)
  refine q_asg (ev_tx (w := []) (by decide +kernel)) (fun H6 e6 => ?_)
  have z0 : 0 ≤ c / 3 % ((m : Int) + 1) := Int.emod_nonneg _ (by omega)
  have z1 : c / 3 % ((m : Int) + 1) < (m : Int) + 1 := Int.emod_lt_of_pos _ (by omega)
  have e : Ex H H6 := ((((e1.trans e2).trans e3).trans e4).trans e5).trans e6
  refine q_forR1 (ea_cons (ev_var rfl) ea_nil) (by omega) (fun i σ H7 => ∃ (d : Int) (w : W) (z : Option V), σ = [some (.ref a), some (.int k), some (.int (m : Int)), some (.int d), some (.int (c / 3 % ((m : Int) + 1))), some (tx w), z] ∧ w.length = i ∧ ABC w ∧ Ex H6 H7) (fun H7 e7 => ⟨_, [], none, rfl, rfl, ABC.nil, e7⟩) ?_ ?_
  · rintro i σ H7 hi ⟨d, w, z, rfl, hw, ha, e7⟩
    obtain ⟨l, hl, hl2⟩ := abcW d
    refine q_asg (ev_op (ev_var rfl) (ev_op (ev_tx (w := [97, 98, 99]) (by decide +kernel)) (ev_op (ev_var rfl) ev_c (rv_I (by decide))) (rv_ixW (by decide) (Int.emod_nonneg _ (by decide)) hl)) (rv_addS (by rw [hw]; show i + 1 ≤ 100000; omega))) (fun H8 e8 => ?_)
    refine s_asg (ev_op (ev_var rfl) ev_c (rv_I ⟨by decide, by decide⟩)) (fun H9 e9 => ?_)
    exact ⟨_, w ++ [l], _, rfl, by rw [List.length_append, hw]; rfl, ha.snoc hl2, (e7.trans e8).trans e9⟩
  · rintro σ H7 ⟨d, w, z, rfl, hw, ha, e7⟩
    exact s_ret (ev_var rfl) (fun H8 e8 => q _ H8 ((e.trans e7).trans e8) ⟨w, rfl, by omega, ha⟩)
end
end TB
/-! ## TbRules -/
/-! Rules of our own: the least of a list of texts, of a dict's keys. -/
namespace TB
open PySem PySem.Spec PyProof.Rows L2 Evl
theorem argBest_lx (nm : Nat → W) : ∀ k, argBest (fun i j => lx (nm i) (nm j)) k ≤ k ∧ ∀ j, j ≤ k → le (nm (argBest (fun i j => lx (nm i) (nm j)) k)) (nm j)
  | 0 => ⟨Nat.le_refl _, fun j hj => by
    have : j = 0 := by omega
    subst this
    exact le_refl _⟩
  | k + 1 => by
    obtain ⟨h1, h2⟩ := argBest_lx nm k
    simp only [argBest]
    by_cases hc : lx (nm (k + 1)) (nm (argBest (fun i j => lx (nm i) (nm j)) k)) = true
    · rw [if_pos hc]
      refine ⟨Nat.le_refl _, fun j hj => ?_⟩
      rcases Nat.lt_or_ge j (k + 1) with h | h
      · exact le_of_lx (lx_le hc (h2 j (by omega)))
      · have : j = k + 1 := by omega
        subst this
        exact le_refl _
    · rw [if_neg hc]
      refine ⟨by omega, fun j hj => ?_⟩
      rcases Nat.lt_or_ge j (k + 1) with h | h
      · exact h2 j (by omega)
      · have : j = k + 1 := by omega
        subst this
        exact Bool.eq_false_iff.mpr hc
section
variable {prog : Program} {w : World} {A : Around}
theorem cmp_strs {Pv : Nat → Value → Prop} (nm : Nat → W) (hval : ∀ i v, Pv i v → ∃ t, v = .str (sOf (nm i)) t) : CmpOf prog w A .Lt Pv (fun i j => lx (nm i) (nm j)) := fun i j vi vj s Q E hi hj h => by
  obtain ⟨t, rfl⟩ := hval i vi hi
  obtain ⟨u, rfl⟩ := hval j vj hj
  refine lt_str (x := sOf (nm i)) (y := sOf (nm j)) ?_
  have e : decide ((sOf (nm i)).cps.toList < (sOf (nm j)).cps.toList) = lx (nm i) (nm j) := by rw [lx_dec, sOf_cps, sOf_cps]
  rw [e]
  exact h
end
section
variable {X : Cx}
theorem vals_tx : ∀ {ws : List W} {us : List Value}, Vals (ws.map tx) us → ∀ (i : Nat) v, us[i]? = some v → ∃ t, v = .str (sOf (ws.getD i [])) t
  | [], _, .nil, _, _, h => by simp at h
  | w :: ws, _, .cons r rs, 0, v, h => by
    have : v = _ := (Option.some.inj (by simpa using h)).symm
    subst this
    exact r
  | w :: ws, _, .cons r rs, i + 1, v, h => vals_tx rs i v (by simpa using h)
/-- min of a list of texts -/
def rMinL (K : PySem.W.Frag) : List V → Hp → VK → Prop := fun vs H Q => ∃ (a : Addr) (ws : List W), vs = [V.ref a] ∧ SqL K H a (ws.map tx) ∧ ws ≠ [] ∧ ∀ m, m ∈ ws → (∀ x ∈ ws, le m x) → Q (tx m) H
theorem cr_minL (hc : X.calm = true) : CallR X (.builtin "min") (rMinL X.K) := by
  intro pins s σ H vs us Q I r h
  obtain ⟨a, ws, rfl, hs, hne, q⟩ := h
  obtain ⟨its, rv, hl, _⟩ := I.list hs
  rw [Vals.ref1 r]
  have hlen : its.length = ws.length := by
    have := rv.length
    rw [List.length_map] at this
    exact this.symm
  have hpos : 0 < ws.length := List.length_pos_iff.mpr hne
  have at' : ∀ (i : Nat) (v : Value), its.toArray[i]? = some v → its[i]? = some v := fun i v h => by simpa using h
  refine call_min_walkS (PySem.W.iter_listW (A := X.A.in1) (I.ok.hd hc) hl.isList fun s2 e W st hfp hw hk => ?_)
  refine ⟨_, _, _, _, _, _, _, _, rfl, W, st, hfp, (by rw [List.size_toArray]; omega), cmp_strs (fun i => ws.getD i []) (fun i v hv => vals_tx rv i v (at' i v hv)), fun v s' hP m => ?_⟩
  obtain ⟨h', tk, rfl, hk'⟩ := PySem.W.moved_old e rfl m
  obtain ⟨t, rfl⟩ := vals_tx rv _ v (at' _ v hP)
  obtain ⟨b1, b2⟩ := argBest_lx (fun i => ws.getD i []) (its.toArray.size - 1)
  have hs2 : its.toArray.size = ws.length := by rw [List.size_toArray]; exact hlen
  refine ⟨tx _, H, I.kept (t' := tk) hk', ⟨t, rfl⟩, q _ ?_ fun x hx => ?_⟩
  · have hb : argBest (fun i j => lx (ws.getD i []) (ws.getD j [])) (its.toArray.size - 1) < ws.length := by omega
    rw [List.getD_eq_getElem?_getD, List.getElem?_eq_getElem hb]
    exact List.getElem_mem hb
  · obtain ⟨i, hi, e⟩ := List.mem_iff_getElem.mp hx
    have e2 : ws.getD i [] = x := by rw [List.getD_eq_getElem?_getD, List.getElem?_eq_getElem hi, ← e] <;> rfl
    rw [← e2]
    exact b2 i (by omega)
/-- min of a dict's keys, texts -/
def rMinT : List V → Hp → VK → Prop := fun vs H Q => ∃ (a : Addr) (p : TB.P), vs = [V.ref a] ∧ H a = some (.dK (kv p)) ∧ p ≠ [] ∧ ∀ m, m ∈ keys p → (∀ x ∈ keys p, le m x) → Q (tx m) H
theorem cr_minT (hc : X.calm = true) : CallR X (.builtin "min") rMinT := by
  intro pins s σ H vs us Q I r h
  obtain ⟨a, p, rfl, ha, hne, q⟩ := h
  rw [Vals.ref1 r]
  obtain ⟨_, hsys, vs, rel, dof⟩ := dk_of I.hok ha
  obtain ⟨ep, dat⟩ := dof.dictAt
  obtain ⟨ob, es, ho, hex, hdat, hko, hpr, hnd⟩ := id dat
  have hlt : a < s.heap.objs.size := Heap.lt_size ho
  have hkeys : vs.map (·.1) = (keys p).map fun w => (Sum.inr (sOf w) : Key) := by
    rw [(KV.keys rel).symm]
    unfold kv keys
    rw [List.map_map, List.map_map]
    rfl
  have hlv : vs.length = (keys p).length := by
    have e1 := congrArg List.length hkeys
    rw [List.length_map, List.length_map] at e1
    exact e1
  have hpos : 0 < (keys p).length := by
    unfold keys
    rw [List.length_map]
    exact List.length_pos_iff.mpr hne
  have hval : ∀ (i : Nat) (v : Value), (∃ k x, vs[i]? = some (k, x) ∧ (mixKind X.prog X.w).is k v = true) → ∃ t, v = Value.str (sOf ((keys p).getD i [])) t := fun i v ⟨k, x, hk, hkey⟩ => by
    have e1 : (vs.map (·.1))[i]? = some k := by rw [List.getElem?_map, hk] <;> rfl
    rw [hkeys, List.getElem?_map] at e1
    obtain ⟨j, hj, e2⟩ := Option.map_eq_some_iff.mp e1
    subst e2
    have hi : Value.isStrOf (sOf j) v = true := hkey
    obtain ⟨t, e3⟩ := Value.isStrOf_shape (x := sOf j) (v := v) hi
    refine ⟨t, ?_⟩
    rw [e3, List.getD_eq_getElem?_getD, hj] <;> rfl
  refine call_min_walk (wpAny_pyIter_dict (knd := mixKind X.prog X.w) hsys dat ?_)
  refine ⟨_, _, _, _, _, _, _, rfl, Walks.dictKeys (knd := mixKind X.prog X.w) (A := X.A.in1) (I.ok.hd hc) s.heap.objs.size a (Nat.ne_of_lt hlt) vs ep,
    ⟨⟨_, Heap.get?_push_size _ rfl, rfl, rfl⟩, dat.keep fun b u e => Heap.get?_push_of_some _ e⟩, fun b hb => ?_, (by omega), cmp_strs (fun i => (keys p).getD i []) hval, fun v h' tk hP hk => ?_⟩
  · show b < (s.heap.push _).objs.size
    rw [Heap.size_push]
    rcases List.mem_cons.mp hb with e | hb
    · rw [e]
      exact Nat.lt_succ_self _
    · rw [List.mem_singleton.mp hb]
      exact Nat.lt_succ_of_lt hlt
  · obtain ⟨t, rfl⟩ := hval _ v hP
    obtain ⟨b1, b2⟩ := argBest_lx (fun i => (keys p).getD i []) (vs.length - 1)
    refine ⟨tx _, H, I.kept (t' := tk) fun b u e => hk b u (fun hmem => ?_) (Heap.get?_push_of_some _ e), ⟨t, rfl⟩, q _ ?_ fun j hj => ?_⟩
    · have e1 : b = s.heap.objs.size := List.mem_singleton.mp hmem
      have e2 := Heap.lt_size e
      rw [e1] at e2
      exact absurd e2 (Nat.lt_irrefl _)
    · have hb : argBest (fun i j => lx ((keys p).getD i []) ((keys p).getD j [])) (vs.length - 1) < (keys p).length := by omega
      rw [List.getD_eq_getElem?_getD, List.getElem?_eq_getElem hb]
      exact List.getElem_mem hb
    · obtain ⟨i, hi, e⟩ := List.mem_iff_getElem.mp hj
      have e2 : (keys p).getD i [] = j := by rw [List.getD_eq_getElem?_getD, List.getElem?_eq_getElem hi, ← e] <;> rfl
      rw [← e2]
      exact b2 i (by omega)
end
end TB
/-! ## TbD__law_turned -/
namespace TB
open PySem PySem.Spec PyProof.Rows L2 Evl
section
variable {P : Program} {wd : World} {K : PySem.W.Frag} {mg : Str → Option Value} {base : Heap}
/-! _law_turned: the word, or the least of its turns -/
def sp__law_turned (K : PySem.W.Frag) (m : Nat) : Sp := fun vs H Q _ => ∃ (a : Addr) (ns : List Int) (k : Int) (x : V), vs = [x, .ref a, .int k] ∧ wdR m x H ∧ SqL K H a (ns.map V.int) ∧ 0 ≤ k ∧ m ≤ 100 ∧ ∀ v H', Ex H H' → wdR m v H' → Q v H'
theorem sv__law_turned {K : PySem.W.Frag} {a : Addr} {ns : List Int} {k : Int} {m : Nat} {x : V} {H : Hp} (hx : wdR m x H) (hs : SqL K H a (ns.map V.int)) (h0 : 0 ≤ k) (hm : m ≤ 100) : SpR (sp__law_turned K m) [x, .ref a, .int k] H (wdR m) := fun H1 e Q q E => ⟨a, ns, k, x, rfl, hx, ex_l e hs, h0, hm, q⟩
theorem ok__law_turned {m : Nat} (B : Blt mg) (D : DefAt K mg "_law_turned" s__law_turned ["word", "script", "at"]) (D__law_cell : DefAt K mg "_law_cell" s__law_cell ["script", "k"]) (D__law_stir : DefAt K mg "_law_stir" s__law_stir ["cell"]) : FnOk P wd K mg base CX0 3 D.f D.fd ["word", "script", "at"] (sp__law_turned K m) := by
  have G__law_cell := ok__law_cell (P := P) (wd := wd) (base := base) B D__law_cell D__law_stir
  refine D.F.ok sc__law_turned (fun vs H Q E h => ?_) (fun cdv A outer s H vs Q E hr h => ?_)
  · obtain ⟨a, ns, k, x, rfl, _⟩ := h
    rfl
  obtain ⟨a, ns, k, x, rfl, ⟨w, rfl, hw, ha⟩, hs, h0, hm, q⟩ := h
  refine ⟨_, (pss_cons (ps_setLc (i := 3) (own := [("k", 4)]) rfl sc__law_turned.nd rfl rfl (sw_true rfl rfl rfl (by decide +kernel)) (pi_range1 (by rfl) B.range (pa_cons (pe_callB call_len_str (by rfl) B.len PySem.boot_len (pa_cons (pv 0) pa_nil)) pa_nil)) (blkOk_by (N := ["word", "script", "at", "turns", "k"]) (sc := defScope s__law_turned) (by decide +kernel)) (fun _ _ _ _ _ => (pg_name (i := 4) sc__law_turned.nd rfl (by first | exact .inl rfl | exact .inr rfl))) (fun _ _ _ _ _ => pts_nil) (fun _ _ _ _ _ => (pe_op op_add_str (pe_slice sl_str (pv 0) (po_some (pv 4)) po_none) (pe_slice sl_str (pv 0) po_none (po_some (pv 4))))))
    (pss_cons (ps_if (PW.pt (pw_and (pt_cmpR op_ne (pv 0) pe_str (nomark _)) (pw_and1 (pt_cmpR op_eq (pe_op op_mod (cl D__law_cell G__law_cell hr (pa_cons (pv 1) (pa_cons (pv 2) pa_nil))) pe_int) pe_int (nomark _)))))
      (pss_one (ps_ret (pe_callB (cr_minL rfl) (by rfl) B.min (by decide +kernel) (pa_cons (pv 3) pa_nil))))
      pss_nil)
    (pss_one (ps_ret (pv 0))))), ?_⟩
  have len : ∀ i : Nat, (i : Int) < (w.length : Int) → (w.drop i).length + (w.take i).length ≤ 100000 := fun i hi => by rw [List.length_drop, List.length_take]; omega
  refine q_asgL (el_lcR1 (fun _ => true) (fun i => tx (turn w i)) (ea_cons (ev_lenW (ev_var rfl) (by omega)) ea_nil) (by omega) (fun x => rfl) (fun i H2 e2 hi => et_yes)
    (fun i H2 e2 hi _ => ev_op (sl_from (k := i) (ev_var rfl) (ev_var rfl) (by omega)) (sl_to (k := i) (ev_var rfl) (ev_var rfl) (by omega)) (rv_addS (len i hi)))) (fun p1 H1 np1 e1 hp1 => ?_)
  refine q_when (et_and (et_test (ev_op (ev_var rfl) (ev_tx (w := []) (by decide +kernel)) rv_neS)) (fun hc => (et_test (ev_op (ev_op (ev_call (ea_cons (ev_var rfl) (ea_cons (ev_var rfl) ea_nil)) (sv__law_cell (ex_l e1 hs) h0)) ev_c (rv_I (by decide))) ev_c rv_eqI)))) (fun hb H2 e2 => ?_) (fun hb H2 e2 => ?_)
  · have hne : w ≠ [] := by
      rw [Bool.and_eq_true] at hb
      simpa using hb.1
    have hpos := List.length_pos_iff.mpr hne
    have hlist : given ((w.length : Int).toNat) (fun _ => true) (fun i => tx (turn w i)) = ((List.range w.length).map (turn w)).map tx := by
      rw [given_all, List.map_map]
      rfl
    rw [hlist] at hp1
    have hne2 : (List.range w.length).map (turn w) ≠ [] := by
      intro z
      have := congrArg List.length z
      rw [List.length_map, List.length_range] at this
      exact hne (List.eq_nil_of_length_eq_zero this)
    refine ⟨_, rfl, p1, _, rfl, SqL.of (e2 _ _ hp1), hne2, fun m hm1 hm2 => ?_⟩
    obtain ⟨i, hi, rfl⟩ := List.mem_map.mp hm1
    have hi := List.mem_range.mp hi
    refine q _ H2 (e1.trans e2) ⟨turn w i, rfl, ?_, fun c hc => ?_⟩
    · unfold turn; rw [List.length_append, List.length_drop, List.length_take]; omega
    · unfold turn at hc
      rcases List.mem_append.mp hc with h | h
      · exact ha c (List.mem_of_mem_drop h)
      · exact ha c (List.mem_of_mem_take h)
  · exact s_ret (ev_var rfl) (fun H3 e3 => q _ H3 ((e1.trans e2).trans e3) ⟨w, rfl, hw, ha⟩)
end
end TB
/-! ## TbD__law_is_plain -/
namespace TB
open PySem PySem.Spec PyProof.Rows L2 Evl
section
variable {P : Program} {wd : World} {K : PySem.W.Frag} {mg : Str → Option Value} {base : Heap}
/-! _law_is_plain: by the turns -/
def sp__law_is_plain : Sp := fun vs H Q _ => ∃ w : W, vs = [tx w] ∧ w.length ≤ 1000 ∧ ∀ H', Ex H H' → Q (.bl (plain w)) H'
theorem sv__law_is_plain {w : W} {H : Hp} (h : w.length ≤ 1000) : SpV sp__law_is_plain [tx w] H (.bl (plain w)) := fun H1 _ Q q E => ⟨w, rfl, h, q⟩
theorem ok__law_is_plain (B : Blt mg) (D : DefAt K mg "_law_is_plain" s__law_is_plain ["word"]) : FnOk P wd K mg base CX0 1 D.f D.fd ["word"] sp__law_is_plain := by
  refine D.F.ok sc__law_is_plain (fun vs H Q E h => ?_) (fun cdv A outer s H vs Q E hr h => ?_)
  · obtain ⟨w, rfl, _⟩ := h
    rfl
  obtain ⟨w, rfl, hl, q⟩ := h
  refine ⟨_, (pss_cons (ps_for PassesOwn.never rfl (pi_range2 (by rfl) B.range (pa_cons pe_int (pa_cons (pe_callB call_len_str (by rfl) B.len PySem.boot_len (pa_cons (pv 0) pa_nil)) pa_nil))) (pg_name (i := 1) sc__law_is_plain.nd rfl (by first | exact .inl rfl | exact .inr rfl))
      (pss_one (ps_if (pt_not (pt_cmpR op_lt_str (pv 0) (pe_op op_add_str (pe_slice sl_str (pv 0) (po_some (pv 1)) po_none) (pe_slice sl_str (pv 0) po_none (po_some (pv 1)))) (nomark _)))
        (pss_one (ps_ret pe_bl))
        pss_nil)))
    (pss_one (ps_ret (pe_cmpR op_ne (pv 0) pe_str (nomark _))))), ?_⟩
  refine q_forR2 (ea_cons ev_c (ea_cons (ev_lenW (ev_var rfl) (by omega)) ea_nil)) (by omega) (fun i σ H1 => (∃ z, σ = [some (tx w), z]) ∧ Ex H H1 ∧ ∀ k, 0 < k → k < 1 + i → lx w (turn w k) = true) (fun H1 e1 => ⟨⟨none, rfl⟩, e1, fun k h0 h1 => by omega⟩) ?_ ?_
  · rintro i σ H1 hi ⟨⟨z, rfl⟩, e1, hP⟩
    have hi' : 1 + i < w.length := by omega
    have l1 : (w.drop (1 + i)).length ≤ 1000 := by rw [List.length_drop]; omega
    have l2 : (w.take (1 + i)).length ≤ 1000 := by rw [List.length_take]; omega
    refine s_when (et_not (et_test (ev_op (ev_var rfl) (ev_op (sl_from (k := 1 + i) (ev_var rfl) (ev_is (ev_var rfl) (by rw [Int.natCast_add]; rfl)) (by omega)) (sl_to (k := 1 + i) (ev_var rfl) (ev_is (ev_var rfl) (by rw [Int.natCast_add]; rfl)) (by omega)) (rv_addS (by omega))) rv_ltS))) (fun hb H2 e2 => ?_) (fun hb H2 e2 => ?_)
    · refine s_ret ev_c (fun H3 e3 => ?_)
      have hf0 : lx w (w.drop (1 + i) ++ w.take (1 + i)) = false := by simpa using hb
      have hf : lx w (turn w (1 + i)) = false := hf0
      have hp : plain w = false := by
        rw [← plain_turn]
        cases h : rplain w with
        | false => rfl
        | true =>
          have := (rplain_iff.mp h).2 (1 + i) (by omega) hi'
          rw [hf] at this; cases this
      have := q H3 ((e1.trans e2).trans e3)
      rw [hp] at this
      exact this
    · have hf0 : lx w (w.drop (1 + i) ++ w.take (1 + i)) = true := by simpa using hb
      have hf : lx w (turn w (1 + i)) = true := hf0
      refine ⟨⟨_, rfl⟩, e1.trans e2, fun k h0 h1 => ?_⟩
      rcases Nat.lt_or_ge k (1 + i) with h | h
      · exact hP k h0 h
      · have : k = 1 + i := by omega
        rw [this]; exact hf
  · rintro σ H1 ⟨⟨z, rfl⟩, e1, hP⟩
    refine s_ret (ev_op (ev_var rfl) (ev_tx (w := []) (by decide +kernel)) rv_neS) (fun H3 e3 => ?_)
    have hp : plain w = !decide (w = []) := by
      rw [← plain_turn]
      by_cases h : w = []
      · subst h; rfl
      · rw [decide_eq_false h]
        exact rplain_iff.mpr ⟨h, fun k h0 h1 => hP k h0 (by omega)⟩
    rw [← hp]
    exact q H3 (e1.trans e3)
end
end TB
/-! ## TbData -/
/-! Data that are compared: words, brackets, sums, plain sums, as PyData. -/
namespace TB
open PySem PySem.Spec PyProof.Rows L2 Evl
theorem sh_of {d : PyData} (h : d.canLay0 = true) (hd : d.depth ≤ 64) : SeqAt.shaped d = true := by
  unfold SeqAt.shaped
  rw [h, decide_eq_true hd]
  rfl
theorem lay_tx {w : W} (h : ∀ c ∈ w, c < 0x110000) : (PyData.str (sOf w)).canLay0 = true := by
  show (sOf w).cps.all (· < 0x110000) = true
  simpa [sOf] using h
theorem ABC.lt {w : W} (h : ABC w) : ∀ c ∈ w, c < 0x110000 := fun c hc => by rcases h c hc with h | h | h <;> omega
theorem lay_two {d e : PyData} (h : d.canLay0 = true) (h2 : e.canLay0 = true) : (PyData.tuple [d, e]).canLay0 = true := by
  show (d.canLay0 && (e.canLay0 && true)) = true
  rw [h, h2]; rfl
theorem depth_tx (w : W) : (PyData.str (sOf w)).depth = 0 := by rw [PyData.depth]
theorem depth_two (d e : PyData) : (PyData.tuple [d, e]).depth = max d.depth e.depth + 1 := by
  rw [PyData.depth, PyData.depthAll, PyData.depthAll, PyData.depthAll, Nat.max_zero]
theorem sh_two {u v : W} (hu : ABC u) (hv : ABC v) : SeqAt.shaped (PyData.tuple [.str (sOf u), .str (sOf v)]) = true :=
  sh_of (lay_two (lay_tx hu.lt) (lay_tx hv.lt)) (by rw [depth_two, depth_tx, depth_tx]; decide)
theorem ABC.take {w : W} (h : ABC w) (k : Nat) : ABC (w.take k) := fun c hc => h c (List.mem_of_mem_take hc)
theorem ABC.drop {w : W} (h : ABC w) (k : Nat) : ABC (w.drop k) := fun c hc => h c (List.mem_of_mem_drop hc)
theorem eqv_str (x y : Str) : PyData.eqv (.str x) (.str y) = decide (x = y) := by
  rw [PyData.eqv]
  by_cases h : x = y
  · subst h; simp
  · rw [decide_eq_false h]
    exact beq_eq_false_iff_ne.mpr h
theorem eqv_tx (u v : W) : PyData.eqv (.str (sOf u)) (.str (sOf v)) = decide (u = v) := by
  rw [eqv_str]
  by_cases h : u = v
  · rw [h, decide_eq_true rfl, decide_eq_true rfl]
  · rw [decide_eq_false h, decide_eq_false fun z => h (sOf_inj z)]
theorem eqv_int (i j : Int) : PyData.eqv (.int i) (.int j) = decide (i = j) := by
  rw [PyData.eqv]
  by_cases h : i = j
  · subst h; simp
  · rw [decide_eq_false h]
    exact beq_eq_false_iff_ne.mpr h
theorem eqv_two (a b c d : PyData) : PyData.eqv (.tuple [a, b]) (.tuple [c, d]) = (PyData.eqv a c && PyData.eqv b d) := by
  rw [PyData.eqv, PyData.eqvAll, PyData.eqvAll, PyData.eqvAll, Bool.and_true]
/-! ### brackets -/
def pdBr : Br → PyData
  | .leaf c => .str (sOf [c])
  | .node l r => .tuple [pdBr l, pdBr r]
theorem lay_br : ∀ {t : Br}, ABC t.letters → (pdBr t).canLay0 = true
  | .leaf c, h => lay_tx h.lt
  | .node l r, h => lay_two (lay_br fun c hc => h c (List.mem_append_left _ hc)) (lay_br fun c hc => h c (List.mem_append_right _ hc))
theorem depth_br : ∀ t : Br, (pdBr t).depth = t.depth
  | .leaf c => depth_tx [c]
  | .node l r => by
    show (PyData.tuple [pdBr l, pdBr r]).depth = max l.depth r.depth + 1
    rw [depth_two, depth_br l, depth_br r]
theorem eqv_br : ∀ t u : Br, PyData.eqv (pdBr t) (pdBr u) = decide (t = u)
  | .leaf c, .leaf d => by
    show PyData.eqv (.str (sOf [c])) (.str (sOf [d])) = _
    rw [eqv_tx]
    by_cases h : c = d
    · subst h; simp
    · have h2 : ¬ ([c] = [d]) := fun z => h (by injection z)
      have h3 : ¬ (Br.leaf c = Br.leaf d) := fun z => h (by injection z)
      rw [decide_eq_false h2, decide_eq_false h3]
  | .leaf c, .node l r => by
    show PyData.eqv (.str (sOf [c])) (.tuple [pdBr l, pdBr r]) = _
    rw [PyData.eqv, decide_eq_false fun z => nomatch z]
  | .node l r, .leaf c => by
    show PyData.eqv (.tuple [pdBr l, pdBr r]) (.str (sOf [c])) = _
    rw [PyData.eqv, decide_eq_false fun z => nomatch z]
  | .node l r, .node l' r' => by
    show PyData.eqv (.tuple [pdBr l, pdBr r]) (.tuple [pdBr l', pdBr r']) = _
    rw [eqv_two, eqv_br l l', eqv_br r r']
    by_cases h1 : l = l'
    · by_cases h2 : r = r'
      · subst h1; subst h2; simp
      · have h3 : ¬ (Br.node l r = Br.node l' r') := fun z => h2 (by injection z)
        rw [decide_eq_false h2, decide_eq_false h3, Bool.and_false]
    · have h3 : ¬ (Br.node l r = Br.node l' r') := fun z => h1 (by injection z)
      rw [decide_eq_false h1, decide_eq_false h3, Bool.false_and]
theorem dp_br {K : PySem.W.Frag} {H : Hp} : ∀ {t : Br} {v : V}, BrAt K H v t → Dp K H v (pdBr t)
  | .leaf c, v, h => by
    have e : v = tx [c] := h
    subst e
    exact .str _
  | .node l r, v, ⟨p, x, y, ev, hs, hx, hy⟩ => by
    subst ev
    exact .tup hs (.cons (dp_br hx) (.cons (dp_br hy) .nil))
end TB
/-! ## TbWords -/
/-! The places whose ends are plain; brackets made in the heap. -/
namespace TB
open PySem PySem.Spec PyProof.Rows L2 Evl
def ends (w : W) : List Int := ((List.range (w.length - 1)).filter fun i => plain (w.drop (1 + i))).map (fun i : Nat => 1 + (i : Int))
/-- the least place whose end is plain -/
theorem cut_min {w : W} (h2 : 2 ≤ w.length) : ((cutAt w : Nat) : Int) ∈ ends w ∧ ∀ y ∈ ends w, ((cutAt w : Nat) : Int) ≤ y := by
  have c := cutAt_ok h2
  have h1 := c.pos
  have h3 := c.lt
  constructor
  · refine List.mem_map.mpr ⟨cutAt w - 1, List.mem_filter.mpr ⟨List.mem_range.mpr (by omega), ?_⟩, by omega⟩
    have : 1 + (cutAt w - 1) = cutAt w := by omega
    rw [this]
    exact c.pl
  · intro y hy
    obtain ⟨i, hi, rfl⟩ := List.mem_map.mp hy
    obtain ⟨h4, h5⟩ := List.mem_filter.mp hi
    rcases Nat.lt_or_ge (1 + i) (cutAt w) with h | h
    · have := c.min (1 + i) (by omega) h
      rw [this] at h5
      cases h5
    · omega
theorem ends_first {w : W} (h2 : 2 ≤ w.length) : (ends w)[0]? = some ((cutAt w : Nat) : Int) := by
  obtain ⟨m1, m2⟩ := cut_min h2
  have sorted : (ends w).Pairwise (· < ·) := by
    unfold ends
    rw [List.pairwise_map]
    refine List.Pairwise.filter _ ?_
    exact List.pairwise_lt_range.imp fun h => by omega
  cases e : ends w with
  | nil => rw [e] at m1; cases m1
  | cons y r =>
    rw [e] at m1 m2 sorted
    rcases List.mem_cons.mp m1 with h | h
    · rw [h]; rfl
    · have h3 := (List.pairwise_cons.mp sorted).1 _ h
      have h4 := m2 y List.mem_cons_self
      omega
section
variable {K : PySem.W.Frag} {σ : L2.St} {H : Hp} {ta tb te : TE} {t : TT}
/-- the list of the places, as a comprehension over range(1, n) makes it -/
theorem ends_given (w : W) : given ((w.length : Int) - 1).toNat (fun i => plain (w.drop (1 + i))) (fun i => .int (1 + (i : Int))) = (ends w).map V.int := by
  unfold given ends
  rw [minus_one, List.map_map]
  rfl
/-- a new tuple of two brackets -/
theorem er_two {l r : Br} (h1 : Er ta σ H fun v H2 => BrAt K H2 v l) (h2 : Er tb σ H fun v H2 => BrAt K H2 v r) : Er (tTup (tCons ta (tCons tb tNil))) σ H fun v H2 => BrAt K H2 v (.node l r) := fun H1 e Q q =>
  h1 H1 e _ fun x H2 e2 hx => h2 H2 (e.trans e2) _ fun y H3 e3 hy => ⟨by show 2 ≤ sizeLine; decide, fun p hp =>
    q _ _ ((e2.trans e3).trans (Ex.new hp)) ⟨p, x, y, rfl, SqT.of upd_same, (hx.mono e3).mono (Ex.new hp), hy.mono (Ex.new hp)⟩⟩
theorem br_ty {x : V} : ∀ {t : Br}, BrAt K H x t → Ty5 K H x "str" ∨ Ty5 K H x "tuple"
  | .leaf c, h => by
    have e : x = tx [c] := h
    subst e
    exact .inl (.str _)
  | .node l r, ⟨p, a, b, ev, hs, _, _⟩ => by
    subst ev
    exact .inr (.tup hs)
theorem br_isi2 {x : V} {t : Br} (h : BrAt K H x t) (hx : Ev te σ H x) : Ev (tCB (rIsiT K) (tCons te (tCons (tTup (tCons (tC (.ty "tuple")) (tCons (tC (.ty "str")) tNil))) tNil))) σ H (.bl true) := by
  rcases br_ty h with h | h
  · exact ev_isi2 hx h (kitAny_next (by decide +kernel) (kitAny_first (by decide +kernel)))
  · exact ev_isi2 hx h (kitAny_first (by decide +kernel))
theorem sh_br {t : Br} (h : ABC t.letters) (hd : t.wt ≤ 64) : SeqAt.shaped (pdBr t) = true := sh_of (lay_br h) (by rw [depth_br]; have := t.depth_lt; omega)
theorem sh_pb {w : W} (h : ABC w) (hp : plain w = true) (hd : w.length ≤ 64) : SeqAt.shaped (pdBr (pb w)) = true := sh_br (by rw [pb_letters (plain_iff.mp hp)]; exact h) (by rw [pb_wt (plain_iff.mp hp)]; exact hd)
end
end TB
/-! ## TbD__law_plain_bracket -/
namespace TB
open PySem PySem.Spec PyProof.Rows L2 Evl
section
variable {P : Program} {wd : World} {K : PySem.W.Frag} {mg : Str → Option Value} {base : Heap}
/-! _law_plain_bracket, of a plain word -/
def sp__law_plain_bracket (K : PySem.W.Frag) (n : Nat) : Sp := fun vs H Q _ => ∃ w : W, vs = [tx w] ∧ w.length < n ∧ w.length ≤ 1000 ∧ plain w = true ∧ ∀ v H', Ex H H' → BrAt K H' v (pb w) → Q v H'
theorem sv__law_plain_bracket {K : PySem.W.Frag} {n : Nat} {w : W} {H : Hp} (h : w.length < n) (hl : w.length ≤ 1000) (hp : plain w = true) : SpR (sp__law_plain_bracket K n) [tx w] H (fun v H2 => BrAt K H2 v (pb w)) := fun H1 e Q q E => ⟨w, rfl, h, hl, hp, q⟩
theorem none__law_plain_bracket {k : Nat} {f : Addr} {fd : FuncData} : FnOk P wd K mg base CX0 k f fd ["word"] (sp__law_plain_bracket K 0) := by
  have no : ∀ vs H Q E, ¬ sp__law_plain_bracket K 0 vs H Q E := fun vs H Q E h => by
    obtain ⟨w, _, h, _⟩ := h
    omega
  exact ⟨fun vs H Q E h => absurd h (no vs H Q E), fun A outer s H args us vs Q E _ _ _ _ h => absurd h (no vs H Q E)⟩
theorem step__law_plain_bracket {n : Nat} (B : Blt mg) (D : DefAt K mg "_law_plain_bracket" s__law_plain_bracket ["word"]) (D__law_is_plain : DefAt K mg "_law_is_plain" s__law_is_plain ["word"])
    (G : FnOk P wd K mg base CX0 (n + 1) D.f D.fd ["word"] (sp__law_plain_bracket K n)) : FnOk P wd K mg base CX0 (n + 2) D.f D.fd ["word"] (sp__law_plain_bracket K (n + 1)) := by
  have G__law_is_plain := ok__law_is_plain (P := P) (wd := wd) (base := base) B D__law_is_plain
  refine D.F.ok sc__law_plain_bracket (fun vs H Q E h => ?_) (fun cdv A outer s H vs Q E hr h => ?_)
  · obtain ⟨w, rfl, _⟩ := h
    rfl
  obtain ⟨w, rfl, hn, hl, hp, qQ⟩ := h
  refine ⟨_, (pss_cons (ps_if (pt_cmpR op_eq (pe_callB call_len_str (by rfl) B.len PySem.boot_len (pa_cons (pv 0) pa_nil)) pe_int (nomark _))
      (pss_one (ps_ret (pv 0)))
      pss_nil)
    (pss_cons (ps_setLc (i := 1) (own := [("at", 2)]) rfl sc__law_plain_bracket.nd rfl rfl (sw_true rfl rfl rfl (by decide +kernel)) (pi_range2 (by rfl) B.range (pa_cons pe_int (pa_cons (pe_callB call_len_str (by rfl) B.len PySem.boot_len (pa_cons (pv 0) pa_nil)) pa_nil))) (blkOk_by (N := ["word", "ends", "at"]) (sc := defScope s__law_plain_bracket) (by decide +kernel)) (fun _ _ _ _ _ => (pg_name (i := 2) sc__law_plain_bracket.nd rfl (by first | exact .inl rfl | exact .inr rfl))) (fun _ _ _ _ _ => (pts_one (pt_val (cl D__law_is_plain G__law_is_plain hr (pa_cons (pe_slice sl_str (pv 0) (po_some (pv 2)) po_none) pa_nil) (by omega))))) (fun _ _ _ _ _ => (pv 2)))
    (pss_one (ps_ret (pe_tup (pa_cons (cl D G hr (pa_cons (pe_slice sl_str (pv 0) po_none (po_some (pe_ix ix_list (pv 1) pe_int (fun _ _ => rfl)))) pa_nil) (by omega)) (pa_cons (cl D G hr (pa_cons (pe_slice sl_str (pv 0) (po_some (pe_ix ix_list (pv 1) pe_int (fun _ _ => rfl))) po_none) pa_nil) (by omega)) pa_nil))))))), ?_⟩
  have h0 := List.length_pos_iff.mpr (plain_iff.mp hp).1
  refine q_when (et_test (ev_op (ev_lenW (ev_var rfl) (by omega)) ev_c rv_eqI)) (fun hb H2 e2 => ?_) (fun hb H2 e2 => ?_)
  · have h1 : (w.length : Int) = 1 := of_decide_eq_true hb
    refine s_ret (ev_var rfl) (fun H3 e3 => qQ _ H3 (e2.trans e3) ?_)
    match w, h1 with
    | [c], _ =>
      rw [pb_one]
      exact rfl
  have h1 : ¬ (w.length : Int) = 1 := of_decide_eq_false hb
  have h2 : 2 ≤ w.length := by omega
  have c := cutAt_ok h2
  have c1 := c.pos
  have c2 := c.lt
  have l1 : (w.take (cutAt w)).length = cutAt w := by rw [List.length_take]; omega
  have l2 : (w.drop (cutAt w)).length = w.length - cutAt w := List.length_drop
  refine q_asgL (el_is (ys := (ends w).map V.int) (el_lcR2 (fun i => plain (w.drop (1 + i))) (fun i => .int (1 + (i : Int))) (ea_cons ev_c (ea_cons (ev_lenW (ev_var rfl) (by omega)) ea_nil)) (by omega) (fun x => rfl)
          (fun i H7 e7 hi => et_B (ev_call (ea_cons (sl_from (k := 1 + i) (ev_var rfl) (ev_is (ev_var rfl) (by rw [Int.natCast_add]; rfl)) (by omega)) ea_nil) (sv__law_is_plain (by rw [List.length_drop]; omega)))) (fun i H7 e7 hi _ => ev_var rfl)) (ends_given w)) (fun p3 H3 np3 e3 hp3 => ?_)
  have at0 : atI ((ends w).map V.int) 0 = some (.int ((cutAt w : Nat) : Int)) := atI_nat' (by decide) (by
    rw [List.getElem?_map, show (0 : Int).toNat = 0 from rfl, ends_first h2]
    rfl)
  refine s_retR (er_two (er_call (ea_cons (sl_to (k := cutAt w) (ev_var rfl) (ev_op (ev_var rfl) ev_c (rv_ixL (sq_of hp3) at0)) (by omega)) ea_nil) (sv__law_plain_bracket (by omega) (by omega) (plain_iff.mpr (cut_front (plain_iff.mp hp) c)))) (er_call (ea_cons (sl_from (k := cutAt w) (ev_var rfl) (ev_op (ev_var rfl) ev_c (rv_ixL (sq_of hp3) at0)) (by omega)) ea_nil) (sv__law_plain_bracket (by omega) (by omega) c.pl))) (fun v H4 e4 hv => ?_)
  refine qQ v H4 ((e2.trans e3).trans e4) ?_
  rw [pb_two h2]
  exact hv
theorem ok__law_plain_bracket (B : Blt mg) (D : DefAt K mg "_law_plain_bracket" s__law_plain_bracket ["word"]) (D__law_is_plain : DefAt K mg "_law_is_plain" s__law_is_plain ["word"]) :
    ∀ n : Nat, FnOk P wd K mg base CX0 (n + 1) D.f D.fd ["word"] (sp__law_plain_bracket K n)
  | 0 => none__law_plain_bracket
  | n + 1 => step__law_plain_bracket B D D__law_is_plain (ok__law_plain_bracket B D D__law_is_plain n)
end
end TB
/-! ## TbD_is_plain -/
namespace TB
open PySem PySem.Spec PyProof.Rows L2 Evl
section
variable {P : Program} {wd : World} {K : PySem.W.Frag} {mg : Str → Option Value} {base : Heap}
/-! is_plain -/
def sp_is_plain : Sp := fun vs H Q _ => ∃ w : W, vs = [tx w] ∧ w.length ≤ 1000 ∧ ∀ H', Ex H H' → Q (.bl (plain w)) H'
theorem sv_is_plain {w : W} {H : Hp} (h : w.length ≤ 1000) : SpV sp_is_plain [tx w] H (.bl (plain w)) := fun H1 _ Q q E => ⟨w, rfl, h, q⟩
theorem ok_is_plain (B : Blt mg) (D : DefAt K mg "is_plain" s_is_plain ["word"]) : FnOk P wd K mg base CX0 1 D.f D.fd ["word"] sp_is_plain := by
  refine D.F.ok sc_is_plain (fun vs H Q E h => ?_) (fun cdv A outer s H vs Q E hr h => ?_)
  · obtain ⟨w, rfl, _⟩ := h
    rfl
  obtain ⟨w, rfl, hl, q⟩ := h
  have hu := hu_of hr
  refine ⟨_, (pss_cons (ps_if (pt_cmpR op_eq (pv 0) pe_str (nomark _))
      (pss_one (ps_ret pe_bl))
      pss_nil)
    (pss_one (ps_ret (pe_callB (cr_all rfl) (by rfl) B.all (by decide +kernel) (pa_cons (pe_lc (own := [("at", 1)]) rfl sc_is_plain.nd (pi_range2 (by rfl) B.range (pa_cons pe_int (pa_cons (pe_callB call_len_str (by rfl) B.len PySem.boot_len (pa_cons (pv 0) pa_nil)) pa_nil))) (blkOk_by (N := ["word", "at"]) (sc := defScope s_is_plain) (by decide +kernel)) (fun _ _ _ _ _ => (pg_name (i := 1) sc_is_plain.nd rfl (by first | exact .inl rfl | exact .inr rfl))) (fun _ _ _ _ _ => pts_nil) (fun _ _ _ _ _ => (pe_cmpR op_lt_str (pv 0) (pe_slice sl_str (pv 0) (po_some (pv 1)) po_none) (nomark _)))) pa_nil))))), ?_⟩
  refine q_when (et_test (ev_op (ev_var rfl) (ev_tx (w := []) (by decide +kernel)) rv_eqS)) (fun hb H1 e1 => ?_) (fun hb H1 e1 => ?_)
  · have e : w = [] := of_decide_eq_true hb
    subst e
    exact s_ret ev_c fun H2 e2 => q H2 (e1.trans e2)
  · have e0 : w ≠ [] := of_decide_eq_false hb
    refine s_ret (v := .bl (plain w)) ?_ (fun H2 e2 => q H2 (e1.trans e2))
    refine ev_is (ev_all (bs := (List.range (w.length - 1)).map fun i => lx w (w.drop (1 + i))) (el_is (el_lcR2 (fun _ => true) (fun i => .bl (lx w (w.drop (1 + i)))) (ea_cons ev_c (ea_cons (ev_lenW (ev_var rfl) (by omega)) ea_nil)) (by omega) (fun x => rfl) (fun i H2 e2 hi => et_yes)
      (fun i H2 e2 hi _ => ev_op (ev_var rfl) (sl_from (ev_var rfl) (ev_is (ev_var rfl) (by rw [Int.natCast_add]; rfl)) (by omega)) rv_ltS)) ?_)) ?_
    · rw [given_all, List.map_map]
      have : ((w.length : Int) - 1).toNat = w.length - 1 := by omega
      rw [this]
      rfl
    · congr 1
      unfold plain
      cases w with
      | nil => exact absurd rfl e0
      | cons a r =>
        rw [List.range'_eq_map_range, List.all_map, List.all_map]
        rfl
end
end TB
/-! ## TbD_cut -/
namespace TB
open PySem PySem.Spec PyProof.Rows L2 Evl
section
variable {P : Program} {wd : World} {K : PySem.W.Frag} {mg : Str → Option Value} {base : Heap}
/-! cut -/
def sp_cut (C : Addr) : Sp := fun vs H Q E => ∃ w : W, vs = [tx w] ∧ w.length ≤ 1000 ∧ ((plain w = false ∨ w.length < 2) → ∀ H', Ex H H' → E (.ref C) none H') ∧
  (plain w = true → 2 ≤ w.length → ∀ p H', H p = none → Ex H H' → H' p = some (.tup [tx (w.take (cutAt w)), tx (w.drop (cutAt w))]) → Q (.ref p) H')
theorem ok_cut (B : Blt mg) (D : DefAt K mg "cut" s_cut ["word"]) (D_is_plain : DefAt K mg "is_plain" s_is_plain ["word"]) (EC_NoWord : ErrAt K mg "NoWord") : FnOk P wd K mg base (L2.CX P wd) 2 D.f D.fd ["word"] (sp_cut EC_NoWord.C) := by
  have G_is_plain := ok_is_plain (P := P) (wd := wd) (base := base) B D_is_plain
  refine D.F.okX sc_cut (fun vs H Q E h => ?_) (fun cdv A outer s H vs Q E hr h => ?_)
  · obtain ⟨w, rfl, _⟩ := h
    rfl
  obtain ⟨w, rfl, hl, qE, qQ⟩ := h
  refine ⟨_, (pss_cons (ps_if (PW.pt (pw_or (pt_not (pt_val (cl D_is_plain G_is_plain hr (pa_cons (pv 0) pa_nil)))) (pw_or1 (pt_cmpR op_lt (pe_callB call_len_str (by rfl) B.len PySem.boot_len (pa_cons (pv 0) pa_nil)) pe_int (nomark _)))))
      (pss_one (ps_raise rfl (takes_of rfl rfl rfl rfl) (EC_NoWord.pm)))
      pss_nil)
    (pss_cons (ps_set (i := 1) sc_cut.nd rfl (by first | exact .inl rfl | exact .inr rfl) pe_int)
    (pss_cons (ps_while (passes_of rfl) (pt_not (pt_val (cl D_is_plain G_is_plain hr (pa_cons (pe_slice sl_str (pv 0) (po_some (pv 1)) po_none) pa_nil))))
      (pss_one (ps_set (i := 1) sc_cut.nd rfl (by first | exact .inl rfl | exact .inr rfl) (pe_op op_add (pv 1) pe_int))))
    (pss_one (ps_ret (pe_tup (pa_cons (pe_slice sl_str (pv 0) po_none (po_some (pv 1))) (pa_cons (pe_slice sl_str (pv 0) (po_some (pv 1)) po_none) pa_nil)))))))), ?_⟩
  refine q_when (et_or (et_not (et_B (ev_call (ea_cons (ev_var rfl) ea_nil) (sv_is_plain hl)))) (fun hc => (et_test (ev_op (ev_lenW (ev_var rfl) (by omega)) ev_c rv_I0)))) (fun hb H1 e1 => ?_) (fun hb H1 e1 => ?_)
  · refine qE ?_ H1 e1
    rcases Bool.or_eq_true _ _ ▸ hb with h | h
    · exact .inl (by simpa using h)
    · exact .inr (by have := of_decide_eq_true h; omega)
  · rw [Bool.or_eq_false_iff] at hb
    have hp : plain w = true := by simpa using hb.1
    have h2 : 2 ≤ w.length := by have := of_decide_eq_false hb.2; omega
    have c := cutAt_ok h2
    refine q_asg ev_c (fun H2 e2 => ?_)
    refine q_while (fun m σ H3 => ∃ k : Nat, σ = [some (tx w), some (.int (k : Int))] ∧ 0 < k ∧ k ≤ cutAt w ∧ m = w.length - k ∧ Ex H2 H3) (w.length - 1) ⟨1, rfl, by omega, c.pos, rfl, Ex.refl _⟩ ?_
    rintro m σ H3 ⟨k, rfl, k0, kc, rfl, e3⟩
    have hd : (w.drop k).length ≤ 1000 := by rw [List.length_drop]; omega
    refine ⟨_, et_not (et_B (ev_call (ea_cons (sl_from (ev_var rfl) (ev_var rfl) (by omega)) ea_nil) (sv_is_plain hd))), fun hb H4 e4 => ?_, fun hb H4 e4 => ?_⟩
    · have hk : plain (w.drop k) = false := by simpa using hb
      have hne : k ≠ cutAt w := fun e => by rw [e, c.pl] at hk; cases hk
      refine ⟨_, fun σ2 H5 hn => hn, ?_⟩
      refine s_asg (ev_op (ev_var rfl) ev_c rv_I0) (fun H5 e5 => ?_)
      exact ⟨w.length - (k + 1), by have := c.lt; omega, k + 1, rfl, by omega, by omega, rfl, (e3.trans e4).trans e5⟩
    · have hk : plain (w.drop k) = true := by simpa using hb
      have he : k = cutAt w := by
        rcases Nat.lt_or_ge k (cutAt w) with h | h
        · have := c.min k k0 h; rw [hk] at this; cases this
        · omega
      subst he
      refine s_retU (eu_tup (ea_cons (sl_to (ev_var rfl) (ev_var rfl) (by omega)) (ea_cons (sl_from (ev_var rfl) (ev_var rfl) (by omega)) ea_nil)) (by show 2 ≤ 100000; decide)) (fun p H5 np e5 hp5 => ?_)
      have e : Ex H H4 := ((e1.trans e2).trans e3).trans e4
      exact qQ hp h2 p H5 (fresh_back e np) (e.trans e5) hp5
end
end TB
/-! ## TbD_plain_bracket -/
namespace TB
open PySem PySem.Spec PyProof.Rows L2 Evl
section
variable {P : Program} {wd : World} {K : PySem.W.Frag} {mg : Str → Option Value} {base : Heap}
/-! plain_bracket -/
def sp_plain_bracket (K : PySem.W.Frag) (C : Addr) (n : Nat) : Sp := fun vs H Q E => ∃ w : W, vs = [tx w] ∧ w.length < n ∧ w.length ≤ 1000 ∧ (plain w = false → ∀ H', Ex H H' → E (.ref C) none H') ∧ (plain w = true → ∀ v H', Ex H H' → BrAt K H' v (pb w) → Q v H')
theorem sv_plain_bracket {K : PySem.W.Frag} {C : Addr} {n : Nat} {w : W} {H : Hp} (h : w.length < n) (hl : w.length ≤ 1000) (hp : plain w = true) : SpR (sp_plain_bracket K C n) [tx w] H (fun v H2 => BrAt K H2 v (pb w)) := fun H1 e Q q E =>
  ⟨w, rfl, h, hl, fun z => (by rw [hp] at z; cases z), fun _ v H' e2 hv => q v H' e2 hv⟩
theorem sv_cut {C : Addr} {w : W} {H : Hp} (hl : w.length ≤ 1000) (hp : plain w = true) (h2 : 2 ≤ w.length) : SpR (sp_cut C) [tx w] H (fun v H2 => ∃ p, v = .ref p ∧ H2 p = some (.tup [tx (w.take (cutAt w)), tx (w.drop (cutAt w))])) := fun H1 e Q q E =>
  ⟨w, rfl, hl, fun z => (Or.elim z (fun z => by rw [hp] at z; cases z) (fun z => by omega)), fun _ _ p H' np e2 hh => q _ H' e2 ⟨p, rfl, hh⟩⟩
theorem none_plain_bracket {k : Nat} {C f : Addr} {fd : FuncData} : FnOk P wd K mg base (L2.CX P wd) k f fd ["word"] (sp_plain_bracket K C 0) := by
  have no : ∀ vs H Q E, ¬ sp_plain_bracket K C 0 vs H Q E := fun vs H Q E h => by
    obtain ⟨w, _, h, _⟩ := h
    omega
  exact ⟨fun vs H Q E h => absurd h (no vs H Q E), fun A outer s H args us vs Q E _ _ _ _ h => absurd h (no vs H Q E)⟩
theorem step_plain_bracket {n : Nat} (B : Blt mg) (D : DefAt K mg "plain_bracket" s_plain_bracket ["word"]) (D_cut : DefAt K mg "cut" s_cut ["word"]) (D_is_plain : DefAt K mg "is_plain" s_is_plain ["word"]) (EC_NoWord : ErrAt K mg "NoWord")
    (G : FnOk P wd K mg base (L2.CX P wd) (n + 3) D.f D.fd ["word"] (sp_plain_bracket K EC_NoWord.C n)) : FnOk P wd K mg base (L2.CX P wd) (n + 4) D.f D.fd ["word"] (sp_plain_bracket K EC_NoWord.C (n + 1)) := by
  have G_is_plain := ok_is_plain (P := P) (wd := wd) (base := base) B D_is_plain
  have G_cut := ok_cut (P := P) (wd := wd) (base := base) B D_cut D_is_plain EC_NoWord
  refine D.F.okX sc_plain_bracket (fun vs H Q E h => ?_) (fun cdv A outer s H vs Q E hr h => ?_)
  · obtain ⟨w, rfl, _⟩ := h
    rfl
  obtain ⟨w, rfl, hn, hl, qE, qQ⟩ := h
  refine ⟨_, (pss_cons (ps_if (pt_not (pt_val (cl D_is_plain G_is_plain hr (pa_cons (pv 0) pa_nil) (by omega))))
      (pss_one (ps_raise rfl (takes_of rfl rfl rfl rfl) (EC_NoWord.pm)))
      pss_nil)
    (pss_cons (ps_if (pt_cmpR op_eq (pe_callB call_len_str (by rfl) B.len PySem.boot_len (pa_cons (pv 0) pa_nil)) pe_int (nomark _))
      (pss_one (ps_ret (pv 0)))
      pss_nil)
    (pss_cons (ps_asg (clN D_cut G_cut hr (pa_cons (pv 0) pa_nil) (by omega)) (pg_tup rfl (pgs_cons (pg_name (i := 1) sc_plain_bracket.nd rfl (by first | exact .inl rfl | exact .inr rfl)) (pgs_cons (pg_name (i := 2) sc_plain_bracket.nd rfl (by first | exact .inl rfl | exact .inr rfl)) pgs_nil))))
    (pss_one (ps_ret (pe_tup (pa_cons (clN D G hr (pa_cons (pv 1) pa_nil) (by omega)) (pa_cons (clN D G hr (pa_cons (pv 2) pa_nil) (by omega)) pa_nil)))))))), ?_⟩
  refine q_when (et_not (et_B (ev_call (ea_cons (ev_var rfl) ea_nil) (sv_is_plain hl)))) (fun hb H1 e1 => ?_) (fun hb H1 e1 => ?_)
  · exact qE (by simpa using hb) H1 e1
  have hp : plain w = true := by simpa using hb
  refine q_when (et_test (ev_op (ev_lenW (ev_var rfl) (by omega)) ev_c rv_eqI)) (fun hb H2 e2 => ?_) (fun hb H2 e2 => ?_)
  · have h1 : (w.length : Int) = 1 := of_decide_eq_true hb
    refine s_ret (ev_var rfl) (fun H3 e3 => qQ hp _ H3 ((e1.trans e2).trans e3) ?_)
    match w, h1 with
    | [c], _ =>
      rw [pb_one]
      exact rfl
  have h1 : ¬ (w.length : Int) = 1 := of_decide_eq_false hb
  have h0 := List.length_pos_iff.mpr (plain_iff.mp hp).1
  have h2 : 2 ≤ w.length := by omega
  have c := cutAt_ok h2
  have c1 := c.pos
  have c2 := c.lt
  refine (er_call (ea_cons (ev_var rfl) ea_nil) (sv_cut hl hp h2)) _ (Ex.refl _) _ fun v H3 e3 hv => ?_
  obtain ⟨p, rfl, hp3⟩ := hv
  refine ⟨p, _, rfl, SqT.of hp3, rfl, _, _, rfl, _, _, rfl, rfl, ?_⟩
  have l1 : (w.take (cutAt w)).length = cutAt w := by rw [List.length_take]; omega
  have l2 : (w.drop (cutAt w)).length = w.length - cutAt w := List.length_drop
  refine s_retR (er_two (er_call (ea_cons (ev_var rfl) ea_nil) (sv_plain_bracket (by omega) (by omega) (plain_iff.mpr (cut_front (plain_iff.mp hp) c)))) (er_call (ea_cons (ev_var rfl) ea_nil) (sv_plain_bracket (by omega) (by omega) c.pl))) (fun v H4 e4 hv => ?_)
  refine qQ hp v H4 (((e1.trans e2).trans e3).trans e4) ?_
  rw [pb_two h2]
  exact hv
theorem ok_plain_bracket (B : Blt mg) (D : DefAt K mg "plain_bracket" s_plain_bracket ["word"]) (D_cut : DefAt K mg "cut" s_cut ["word"]) (D_is_plain : DefAt K mg "is_plain" s_is_plain ["word"]) (EC_NoWord : ErrAt K mg "NoWord") :
    ∀ n : Nat, FnOk P wd K mg base (L2.CX P wd) (n + 3) D.f D.fd ["word"] (sp_plain_bracket K EC_NoWord.C n)
  | 0 => none_plain_bracket
  | n + 1 => step_plain_bracket B D D_cut D_is_plain EC_NoWord (ok_plain_bracket B D D_cut D_is_plain EC_NoWord n)
end
end TB
/-! ## TbD__law_told_k03 -/
namespace TB
open PySem PySem.Spec PyProof.Rows L2 Evl
section
variable {P : Program} {wd : World} {K : PySem.W.Frag} {mg : Str → Option Value} {base : Heap}
/-! _law_told of the law of plain brackets -/
def pbR (K : PySem.W.Frag) (w : W) (v : V) (H : Hp) : Prop := (plain w = true ∧ BrAt K H v (pb w)) ∨ (plain w = false ∧ ∃ p, v = .ref p ∧ SqL K H p [.bl true, .bl true, .bl false])
def sp__law_told (K : PySem.W.Frag) : Sp := fun vs H Q _ => ∃ w : W, vs = [tx w] ∧ w.length < 20 ∧ ∀ v H', Ex H H' → pbR K w v H' → Q v H'
theorem sv__law_told {K : PySem.W.Frag} {w : W} {H : Hp} (h : w.length < 20) : SpR (sp__law_told K) [tx w] H (pbR K w) := fun H1 _ Q q E => ⟨w, rfl, h, q⟩
theorem ok__law_told (B : Blt mg) (D : DefAt K mg "_law_told" s__law_told ["word"]) (D_plain_bracket : DefAt K mg "plain_bracket" s_plain_bracket ["word"]) (D_cut : DefAt K mg "cut" s_cut ["word"]) (D_is_plain : DefAt K mg "is_plain" s_is_plain ["word"])
    (EC_TwistError : ErrAt K mg "TwistError") (EC_NoWord : ErrAt K mg "NoWord") (EC_NotRead : ErrAt K mg "NotRead")
    (hU : PySem.W.subIn K (.ref EC_NoWord.C) (.ref EC_TwistError.C) = some true) (k1 : PySem.W.kitOne K (.ref EC_NoWord.C) (.ref EC_NoWord.C) = some true) (k2 : PySem.W.kitOne K (.ref EC_NoWord.C) (.type "ValueError") = some true) (k3 : PySem.W.kitOne K (.ref EC_NoWord.C) (.ref EC_NotRead.C) = some false) :
    FnOk P wd K mg base CX0 30 D.f D.fd ["word"] (sp__law_told K) := by
  have G_plain_bracket := ok_plain_bracket (P := P) (wd := wd) (base := base) B D_plain_bracket D_cut D_is_plain EC_NoWord 20
  refine D.F.ok sc__law_told (fun vs H Q E h => ?_) (fun cdv A outer s H vs Q E hr h => ?_)
  · obtain ⟨w, rfl, _⟩ := h
    rfl
  obtain ⟨w, rfl, hl, q⟩ := h
  refine ⟨_, (pss_one (ps_try_as (i := 1) (tb := fun W => tRet (tCallS (sp_plain_bracket K EC_NoWord.C 20) (WE W) (tCons (tVar 0) tNil)))
      (ts := fun a cls d => fun D σ H => (cls = .ref EC_NoWord.C ∧ d = none) ∧ tRet (tLst (tIs3 K 1 EC_NoWord.C EC_NoWord.C EC_NotRead.C a)) D σ H)
      (Wout := fun _ _ _ _ => False) rfl rfl sc__law_told.nd rfl rfl ⟨rfl, by decide, .inl EC_TwistError.gm⟩ takes0
      (fun W pn xe tk _ => (pss_one (ps_ret (clS D_plain_bracket G_plain_bracket hr tk (pa_cons (pv 0) pa_nil)))))
      (fun a oe cls d pn hz hf => pss_guard fun hP => by
        obtain ⟨rfl, rfl⟩ := hP
        exact pss_one (ps_ret (pe_lst (pa_cons (pe_callB (call_isE EC_NoWord.ex hz hf) (by rfl) B.isinstance (by decide +kernel) (pa_cons (pv 1) (pa_cons (pe_glob (by rfl) EC_NoWord.gm rfl) pa_nil)))
          (pa_cons (pe_callB (call_isE EC_NoWord.ex hz hf) (by rfl) B.isinstance (by decide +kernel) (pa_cons (pv 1) (pa_cons (pe_bltn (v := .ty "ValueError") (by rfl) B.ValueError (by decide +kernel) rfl) pa_nil)))
          (pa_cons (pe_callB (call_isE EC_NoWord.ex hz hf) (by rfl) B.isinstance (by decide +kernel) (pa_cons (pv 1) (pa_cons (pe_glob (by rfl) EC_NotRead.gm rfl) pa_nil))) pa_nil))))))))
      , ?_⟩
  refine ⟨_, rfl, w, rfl, hl, by omega, fun hn H1 e1 => ?_, fun hp v H1 e1 hv => ?_⟩
  · refine ⟨true, exm_up EC_TwistError hU, fun _ a na => ⟨⟨rfl, rfl⟩, ?_⟩, fun z => nomatch z⟩
    refine s_retL (el_lst (ea_is3 rfl k1 k2 k3) (by show 3 ≤ 100000; decide)) (fun p H2 np e2 hp2 => ?_)
    exact q _ H2 (e1.trans e2) (.inr ⟨hn, p, rfl, sq_of hp2⟩)
  · exact q _ H1 e1 (.inl ⟨hp, hv⟩)
end
end TB
/-! ## TbD_law_k03 -/
namespace TB
open PySem PySem.Spec PyProof.Rows L2 Evl
section
variable {P : Program} {wd : World} {K : PySem.W.Frag} {mg : Str → Option Value} {base : Heap}
/-! the law of plain brackets -/
def spLaw (K : PySem.W.Frag) : Sp := fun vs H Q _ => ∃ (a : Addr) (ns : List Int), vs = [.ref a] ∧ SqL K H a (ns.map V.int) ∧ ns.length ≤ 63 ∧ ∀ H', Q (.bl true) H'
theorem ok_law (B : Blt mg) (D : DefAt K mg "law" s_law ["script"]) (D_is_plain : DefAt K mg "is_plain" s_is_plain ["word"]) (D_cut : DefAt K mg "cut" s_cut ["word"]) (D_plain_bracket : DefAt K mg "plain_bracket" s_plain_bracket ["word"])
    (D__law_stir : DefAt K mg "_law_stir" s__law_stir ["cell"]) (D__law_cell : DefAt K mg "_law_cell" s__law_cell ["script", "k"]) (D__law_raw : DefAt K mg "_law_raw" s__law_raw ["script", "k"]) (D__law_word : DefAt K mg "_law_word" s__law_word ["script", "at", "most"])
    (D__law_turned : DefAt K mg "_law_turned" s__law_turned ["word", "script", "at"]) (D__law_is_plain : DefAt K mg "_law_is_plain" s__law_is_plain ["word"]) (D__law_plain_bracket : DefAt K mg "_law_plain_bracket" s__law_plain_bracket ["word"]) (D__law_told : DefAt K mg "_law_told" s__law_told ["word"])
    (EC_TwistError : ErrAt K mg "TwistError") (EC_NoWord : ErrAt K mg "NoWord") (EC_NotRead : ErrAt K mg "NotRead")
    (hU : PySem.W.subIn K (.ref EC_NoWord.C) (.ref EC_TwistError.C) = some true) (k1 : PySem.W.kitOne K (.ref EC_NoWord.C) (.ref EC_NoWord.C) = some true) (k2 : PySem.W.kitOne K (.ref EC_NoWord.C) (.type "ValueError") = some true) (k3 : PySem.W.kitOne K (.ref EC_NoWord.C) (.ref EC_NotRead.C) = some false) :
    FnOk P wd K mg base CX0 40 D.f D.fd ["script"] (spLaw K) := by
  have G__law_word := ok__law_word (P := P) (wd := wd) (base := base) B D__law_word D__law_raw D__law_stir
  have G__law_turned := ok__law_turned (P := P) (wd := wd) (base := base) (m := 8) B D__law_turned D__law_cell D__law_stir
  have G__law_is_plain := ok__law_is_plain (P := P) (wd := wd) (base := base) B D__law_is_plain
  have G__law_plain_bracket := ok__law_plain_bracket (P := P) (wd := wd) (base := base) B D__law_plain_bracket D__law_is_plain 20
  have G__law_told := ok__law_told (P := P) (wd := wd) (base := base) B D__law_told D_plain_bracket D_cut D_is_plain EC_TwistError EC_NoWord EC_NotRead hU k1 k2 k3
  refine D.F.ok sc_law (fun vs H Q E h => ?_) (fun cdv A outer s H vs Q E hr h => ?_)
  · obtain ⟨a, ns, rfl, _⟩ := h
    rfl
  obtain ⟨a, ns, rfl, hs, h63, q⟩ := h
  refine ⟨_, (pss_cons (ps_set (i := 1) sc_law.nd rfl (by first | exact .inl rfl | exact .inr rfl) (cl D__law_turned G__law_turned hr (pa_cons (cl D__law_word G__law_word hr (pa_cons (pv 0) (pa_cons pe_int (pa_cons pe_int pa_nil)))) (pa_cons (pv 0) (pa_cons pe_int pa_nil)))))
    (pss_cons (ps_set (i := 2) sc_law.nd rfl (by first | exact .inl rfl | exact .inr rfl) (cl D__law_told G__law_told hr (pa_cons (pv 1) pa_nil)))
    (pss_cons (ps_if (pt_not (pt_val (cl D__law_is_plain G__law_is_plain hr (pa_cons (pv 1) pa_nil))))
      (pss_one (ps_ret (pe_cmpR (op_eqD hr.units) (pv 2) (pe_lst (pa_cons pe_bl (pa_cons pe_bl (pa_cons pe_bl pa_nil)))) (nomark _))))
      pss_nil)
    (pss_one (ps_ret (pe_and (pe_callB call_isiT (by rfl) B.isinstance (by decide +kernel) (pa_cons (pv 2) (pa_cons (pe_tup (pa_cons (pe_bltn (v := .ty "tuple") (by rfl) B.tuple (by decide +kernel) rfl) (pa_cons (pe_bltn (v := .ty "str") (by rfl) B.str (by decide +kernel) rfl) pa_nil))) pa_nil))) (pe_one (pe_cmpR (op_eqD hr.units) (pv 2) (cl D__law_plain_bracket G__law_plain_bracket hr (pa_cons (pv 1) pa_nil)) (nomark _))))))))), ?_⟩
  refine q_asgR (er_callR (A := fun vs H2 => ∃ x, vs = [x, .ref a, .int 1] ∧ wdR 8 x H2) (ear_cons (er_call (ea_cons (ev_var rfl) (ea_cons ev_c (ea_cons ev_c ea_nil))) (sv__law_word (m := 8) hs (by omega) (by omega)))
      (fun x H2 e2 hx => ear_of (ea_cons (ev_var rfl) (ea_cons ev_c ea_nil)) (fun H3 e3 => ⟨x, rfl, hx⟩)))
      (fun vs H2 e2 hv => by
        obtain ⟨x, rfl, hx⟩ := hv
        exact sv__law_turned hx (ex_l e2 hs) (by omega) (by omega))) (fun v H2 e2 hv => ?_)
  obtain ⟨w, rfl, hw, habc⟩ := hv
  refine q_asgR (er_call (ea_cons (ev_var rfl) ea_nil) (sv__law_told (by omega))) (fun v H5 e5 hv => ?_)
  refine q_when (et_not (et_B (ev_call (ea_cons (ev_var rfl) ea_nil) (sv__law_is_plain (by omega))))) (fun hb H6 e6 => ?_) (fun hb H6 e6 => ?_)
  · rcases hv with ⟨hp, _⟩ | ⟨_, p, rfl, hp⟩
    · rw [hp] at hb; cases hb
    · refine s_ret (ev_opL (ev_var rfl) (el_lst (ea_cons ev_c (ea_cons ev_c (ea_cons ev_c ea_nil))) (by show 3 ≤ 100000; decide)) (fun p2 H7 hp2 e7 => rv_eqD (d := .list [.bool true, .bool true, .bool false]) (e := .list [.bool true, .bool true, .bool false]) (.lst (ex_l (e6.trans e7) hp) (.cons (.bl _) (.cons (.bl _) (.cons (.bl _) .nil)))) (.lst (sq_of hp2) (.cons (.bl _) (.cons (.bl _) (.cons (.bl _) .nil)))) (by decide) (by decide))) (fun H7 e7 => ?_)
      exact q H7
  · rcases hv with ⟨hp, hv⟩ | ⟨hn, _⟩
    · refine s_ret (v := .bl true) (ev_is (ev_andV (br_isi2 (hv.mono e6) (ev_var rfl)) (fun hc => ?_)) rfl) (fun H7 e7 => q H7)
      rotate_left
      · exact fun H1 e1 Q1 q1 => ⟨v, rfl, (er_call (ea_cons (ev_var rfl) ea_nil) (sv__law_plain_bracket (n := 20) (by omega) (by omega) hp)) H1 e1 _ fun x H2 e2 hx => ⟨pdBr (pb w), pdBr (pb w), dp_br (hv.mono ((e6.trans e1).trans e2)), dp_br hx, sh_pb habc hp (by omega), sh_pb habc hp (by omega), by
          rw [eqv_br, decide_eq_true rfl]
          exact q1 H2 e2⟩⟩
    · rw [hn] at hb; cases hb
end
end TB
/-! ## TbFin -/
namespace TB
open PySem PySem.Spec PyProof.Rows L2
/-! what the top has written, and the law's own head -/
theorem all_mk {l : PySem.W.OpenLaw} {w : World} {K : PySem.W.Frag} {h : Heap} {mg : Str → Option Value} {fa : Addr} (X : K.In h) (G : h.Ns mainGlobals mg) (hfa : mg "law" = some (.ref fa))
    {fu_law : Addr} {odu_law anu_law : Option Addr} {slu_law : Array (Option Value)} {ocu_law kVu_law dcu_law pmu_law cdu_law ctu_law : Value} {fu_is_plain : Addr} {odu_is_plain anu_is_plain : Option Addr} {slu_is_plain : Array (Option Value)} {ocu_is_plain kVu_is_plain dcu_is_plain pmu_is_plain cdu_is_plain ctu_is_plain : Value} {fu_cut : Addr} {odu_cut anu_cut : Option Addr} {slu_cut : Array (Option Value)} {ocu_cut kVu_cut dcu_cut pmu_cut cdu_cut ctu_cut : Value} {fu_plain_bracket : Addr} {odu_plain_bracket anu_plain_bracket : Option Addr} {slu_plain_bracket : Array (Option Value)} {ocu_plain_bracket kVu_plain_bracket dcu_plain_bracket pmu_plain_bracket cdu_plain_bracket ctu_plain_bracket : Value} {fu__law_stir : Addr} {odu__law_stir anu__law_stir : Option Addr} {slu__law_stir : Array (Option Value)} {ocu__law_stir kVu__law_stir dcu__law_stir pmu__law_stir cdu__law_stir ctu__law_stir : Value} {fu__law_cell : Addr} {odu__law_cell anu__law_cell : Option Addr} {slu__law_cell : Array (Option Value)} {ocu__law_cell kVu__law_cell dcu__law_cell pmu__law_cell cdu__law_cell ctu__law_cell : Value} {fu__law_raw : Addr} {odu__law_raw anu__law_raw : Option Addr} {slu__law_raw : Array (Option Value)} {ocu__law_raw kVu__law_raw dcu__law_raw pmu__law_raw cdu__law_raw ctu__law_raw : Value} {fu__law_word : Addr} {odu__law_word anu__law_word : Option Addr} {slu__law_word : Array (Option Value)} {ocu__law_word kVu__law_word dcu__law_word pmu__law_word cdu__law_word ctu__law_word : Value} {fu__law_turned : Addr} {odu__law_turned anu__law_turned : Option Addr} {slu__law_turned : Array (Option Value)} {ocu__law_turned kVu__law_turned dcu__law_turned pmu__law_turned cdu__law_turned ctu__law_turned : Value} {fu__law_is_plain : Addr} {odu__law_is_plain anu__law_is_plain : Option Addr} {slu__law_is_plain : Array (Option Value)} {ocu__law_is_plain kVu__law_is_plain dcu__law_is_plain pmu__law_is_plain cdu__law_is_plain ctu__law_is_plain : Value} {fu__law_plain_bracket : Addr} {odu__law_plain_bracket anu__law_plain_bracket : Option Addr} {slu__law_plain_bracket : Array (Option Value)} {ocu__law_plain_bracket kVu__law_plain_bracket dcu__law_plain_bracket pmu__law_plain_bracket cdu__law_plain_bracket ctu__law_plain_bracket : Value} {fu__law_told : Addr} {odu__law_told anu__law_told : Option Addr} {slu__law_told : Array (Option Value)} {ocu__law_told kVu__law_told dcu__law_told pmu__law_told cdu__law_told ctu__law_told : Value} {C_TwistError : Addr} {C_NoWord : Addr} {C_NotRead : Addr}
    (z_len : PySem.W.nsIn K mainGlobals "len" = some none)
    (z_isinstance : PySem.W.nsIn K mainGlobals "isinstance" = some none)
    (z_str : PySem.W.nsIn K mainGlobals "str" = some none)
    (z_int : PySem.W.nsIn K mainGlobals "int" = some none)
    (z_bool : PySem.W.nsIn K mainGlobals "bool" = some none)
    (z_list : PySem.W.nsIn K mainGlobals "list" = some none)
    (z_tuple : PySem.W.nsIn K mainGlobals "tuple" = some none)
    (z_dict : PySem.W.nsIn K mainGlobals "dict" = some none)
    (z_set : PySem.W.nsIn K mainGlobals "set" = some none)
    (z_sorted : PySem.W.nsIn K mainGlobals "sorted" = some none)
    (z_min : PySem.W.nsIn K mainGlobals "min" = some none)
    (z_max : PySem.W.nsIn K mainGlobals "max" = some none)
    (z_sum : PySem.W.nsIn K mainGlobals "sum" = some none)
    (z_abs : PySem.W.nsIn K mainGlobals "abs" = some none)
    (z_all : PySem.W.nsIn K mainGlobals "all" = some none)
    (z_range : PySem.W.nsIn K mainGlobals "range" = some none)
    (z_zip : PySem.W.nsIn K mainGlobals "zip" = some none)
    (z_enumerate : PySem.W.nsIn K mainGlobals "enumerate" = some none)
    (z_reversed : PySem.W.nsIn K mainGlobals "reversed" = some none)
    (z_ValueError : PySem.W.nsIn K mainGlobals "ValueError" = some none)
    (au_law : PySem.W.nsIn K mainGlobals "law" = some (some (.ref fu_law)))
    (lu_law : K.lookup fu_law = some ⟨ocu_law, odu_law, .func (PySem.W.fnOf "law" "law" (defArgs s_law) (defBody s_law) (defScope s_law) .none kVu_law dcu_law pmu_law anu_law cdu_law ctu_law), slu_law⟩)
    (cu_law : PySem.W.codeIn K cdu_law "law" = true)
    (ku_law : PySem.W.keepIn K (.ref fu_law) = true)
    (au_is_plain : PySem.W.nsIn K mainGlobals "is_plain" = some (some (.ref fu_is_plain)))
    (lu_is_plain : K.lookup fu_is_plain = some ⟨ocu_is_plain, odu_is_plain, .func (PySem.W.fnOf "is_plain" "is_plain" (defArgs s_is_plain) (defBody s_is_plain) (defScope s_is_plain) .none kVu_is_plain dcu_is_plain pmu_is_plain anu_is_plain cdu_is_plain ctu_is_plain), slu_is_plain⟩)
    (cu_is_plain : PySem.W.codeIn K cdu_is_plain "is_plain" = true)
    (ku_is_plain : PySem.W.keepIn K (.ref fu_is_plain) = true)
    (au_cut : PySem.W.nsIn K mainGlobals "cut" = some (some (.ref fu_cut)))
    (lu_cut : K.lookup fu_cut = some ⟨ocu_cut, odu_cut, .func (PySem.W.fnOf "cut" "cut" (defArgs s_cut) (defBody s_cut) (defScope s_cut) .none kVu_cut dcu_cut pmu_cut anu_cut cdu_cut ctu_cut), slu_cut⟩)
    (cu_cut : PySem.W.codeIn K cdu_cut "cut" = true)
    (ku_cut : PySem.W.keepIn K (.ref fu_cut) = true)
    (au_plain_bracket : PySem.W.nsIn K mainGlobals "plain_bracket" = some (some (.ref fu_plain_bracket)))
    (lu_plain_bracket : K.lookup fu_plain_bracket = some ⟨ocu_plain_bracket, odu_plain_bracket, .func (PySem.W.fnOf "plain_bracket" "plain_bracket" (defArgs s_plain_bracket) (defBody s_plain_bracket) (defScope s_plain_bracket) .none kVu_plain_bracket dcu_plain_bracket pmu_plain_bracket anu_plain_bracket cdu_plain_bracket ctu_plain_bracket), slu_plain_bracket⟩)
    (cu_plain_bracket : PySem.W.codeIn K cdu_plain_bracket "plain_bracket" = true)
    (ku_plain_bracket : PySem.W.keepIn K (.ref fu_plain_bracket) = true)
    (au__law_stir : PySem.W.nsIn K mainGlobals "_law_stir" = some (some (.ref fu__law_stir)))
    (lu__law_stir : K.lookup fu__law_stir = some ⟨ocu__law_stir, odu__law_stir, .func (PySem.W.fnOf "_law_stir" "_law_stir" (defArgs s__law_stir) (defBody s__law_stir) (defScope s__law_stir) .none kVu__law_stir dcu__law_stir pmu__law_stir anu__law_stir cdu__law_stir ctu__law_stir), slu__law_stir⟩)
    (cu__law_stir : PySem.W.codeIn K cdu__law_stir "_law_stir" = true)
    (ku__law_stir : PySem.W.keepIn K (.ref fu__law_stir) = true)
    (au__law_cell : PySem.W.nsIn K mainGlobals "_law_cell" = some (some (.ref fu__law_cell)))
    (lu__law_cell : K.lookup fu__law_cell = some ⟨ocu__law_cell, odu__law_cell, .func (PySem.W.fnOf "_law_cell" "_law_cell" (defArgs s__law_cell) (defBody s__law_cell) (defScope s__law_cell) .none kVu__law_cell dcu__law_cell pmu__law_cell anu__law_cell cdu__law_cell ctu__law_cell), slu__law_cell⟩)
    (cu__law_cell : PySem.W.codeIn K cdu__law_cell "_law_cell" = true)
    (ku__law_cell : PySem.W.keepIn K (.ref fu__law_cell) = true)
    (au__law_raw : PySem.W.nsIn K mainGlobals "_law_raw" = some (some (.ref fu__law_raw)))
    (lu__law_raw : K.lookup fu__law_raw = some ⟨ocu__law_raw, odu__law_raw, .func (PySem.W.fnOf "_law_raw" "_law_raw" (defArgs s__law_raw) (defBody s__law_raw) (defScope s__law_raw) .none kVu__law_raw dcu__law_raw pmu__law_raw anu__law_raw cdu__law_raw ctu__law_raw), slu__law_raw⟩)
    (cu__law_raw : PySem.W.codeIn K cdu__law_raw "_law_raw" = true)
    (ku__law_raw : PySem.W.keepIn K (.ref fu__law_raw) = true)
    (au__law_word : PySem.W.nsIn K mainGlobals "_law_word" = some (some (.ref fu__law_word)))
    (lu__law_word : K.lookup fu__law_word = some ⟨ocu__law_word, odu__law_word, .func (PySem.W.fnOf "_law_word" "_law_word" (defArgs s__law_word) (defBody s__law_word) (defScope s__law_word) .none kVu__law_word dcu__law_word pmu__law_word anu__law_word cdu__law_word ctu__law_word), slu__law_word⟩)
    (cu__law_word : PySem.W.codeIn K cdu__law_word "_law_word" = true)
    (ku__law_word : PySem.W.keepIn K (.ref fu__law_word) = true)
    (au__law_turned : PySem.W.nsIn K mainGlobals "_law_turned" = some (some (.ref fu__law_turned)))
    (lu__law_turned : K.lookup fu__law_turned = some ⟨ocu__law_turned, odu__law_turned, .func (PySem.W.fnOf "_law_turned" "_law_turned" (defArgs s__law_turned) (defBody s__law_turned) (defScope s__law_turned) .none kVu__law_turned dcu__law_turned pmu__law_turned anu__law_turned cdu__law_turned ctu__law_turned), slu__law_turned⟩)
    (cu__law_turned : PySem.W.codeIn K cdu__law_turned "_law_turned" = true)
    (ku__law_turned : PySem.W.keepIn K (.ref fu__law_turned) = true)
    (au__law_is_plain : PySem.W.nsIn K mainGlobals "_law_is_plain" = some (some (.ref fu__law_is_plain)))
    (lu__law_is_plain : K.lookup fu__law_is_plain = some ⟨ocu__law_is_plain, odu__law_is_plain, .func (PySem.W.fnOf "_law_is_plain" "_law_is_plain" (defArgs s__law_is_plain) (defBody s__law_is_plain) (defScope s__law_is_plain) .none kVu__law_is_plain dcu__law_is_plain pmu__law_is_plain anu__law_is_plain cdu__law_is_plain ctu__law_is_plain), slu__law_is_plain⟩)
    (cu__law_is_plain : PySem.W.codeIn K cdu__law_is_plain "_law_is_plain" = true)
    (ku__law_is_plain : PySem.W.keepIn K (.ref fu__law_is_plain) = true)
    (au__law_plain_bracket : PySem.W.nsIn K mainGlobals "_law_plain_bracket" = some (some (.ref fu__law_plain_bracket)))
    (lu__law_plain_bracket : K.lookup fu__law_plain_bracket = some ⟨ocu__law_plain_bracket, odu__law_plain_bracket, .func (PySem.W.fnOf "_law_plain_bracket" "_law_plain_bracket" (defArgs s__law_plain_bracket) (defBody s__law_plain_bracket) (defScope s__law_plain_bracket) .none kVu__law_plain_bracket dcu__law_plain_bracket pmu__law_plain_bracket anu__law_plain_bracket cdu__law_plain_bracket ctu__law_plain_bracket), slu__law_plain_bracket⟩)
    (cu__law_plain_bracket : PySem.W.codeIn K cdu__law_plain_bracket "_law_plain_bracket" = true)
    (ku__law_plain_bracket : PySem.W.keepIn K (.ref fu__law_plain_bracket) = true)
    (au__law_told : PySem.W.nsIn K mainGlobals "_law_told" = some (some (.ref fu__law_told)))
    (lu__law_told : K.lookup fu__law_told = some ⟨ocu__law_told, odu__law_told, .func (PySem.W.fnOf "_law_told" "_law_told" (defArgs s__law_told) (defBody s__law_told) (defScope s__law_told) .none kVu__law_told dcu__law_told pmu__law_told anu__law_told cdu__law_told ctu__law_told), slu__law_told⟩)
    (cu__law_told : PySem.W.codeIn K cdu__law_told "_law_told" = true)
    (ku__law_told : PySem.W.keepIn K (.ref fu__law_told) = true)
    (aTwistError : PySem.W.nsIn K mainGlobals "TwistError" = some (some (.ref C_TwistError)))
    (xTwistError : PySem.W.excIn K C_TwistError [.type "ValueError", .type "Exception", .type "BaseException", .type "object"] "ValueError.__new__" = true)
    (kpTwistError : PySem.W.keepIn K (.ref C_TwistError) = true)
    (sbTwistError : PySem.W.subIn K (.ref C_TwistError) (.type "BaseException") = some true)
    (tyTwistError : PySem.W.typeIn K (.ref C_TwistError) = some (.type "type"))
    (hgTwistError : PySem.W.findIn K (.ref C_TwistError) "__getattribute__" = some (some (.builtin "BaseException.__getattribute__")))
    (hkTwistError : PySem.W.findIn K (.ref C_TwistError) "__getattr__" = some none)
    (hdTwistError : PySem.W.hasDictIn K C_TwistError = true)
    (haTwistError : PySem.W.findIn K (.ref C_TwistError) "__class__" = some (some (.builtin "object.__class__")))
    (hnTwistError : PySem.W.specialIn K (.builtin "object.__class__") "__get__" = some (some (.builtin "getset_descriptor.__get__")))
    (htTwistError : PySem.W.takesIn K (.builtin "object.__class__") = some true)
    (hmTwistError : PySem.W.mroIn K C_TwistError (.type "object") = some true)
    (aNoWord : PySem.W.nsIn K mainGlobals "NoWord" = some (some (.ref C_NoWord)))
    (xNoWord : PySem.W.excIn K C_NoWord [.type "ValueError", .type "Exception", .type "BaseException", .type "object"] "ValueError.__new__" = true)
    (kpNoWord : PySem.W.keepIn K (.ref C_NoWord) = true)
    (sbNoWord : PySem.W.subIn K (.ref C_NoWord) (.type "BaseException") = some true)
    (tyNoWord : PySem.W.typeIn K (.ref C_NoWord) = some (.type "type"))
    (hgNoWord : PySem.W.findIn K (.ref C_NoWord) "__getattribute__" = some (some (.builtin "BaseException.__getattribute__")))
    (hkNoWord : PySem.W.findIn K (.ref C_NoWord) "__getattr__" = some none)
    (hdNoWord : PySem.W.hasDictIn K C_NoWord = true)
    (haNoWord : PySem.W.findIn K (.ref C_NoWord) "__class__" = some (some (.builtin "object.__class__")))
    (hnNoWord : PySem.W.specialIn K (.builtin "object.__class__") "__get__" = some (some (.builtin "getset_descriptor.__get__")))
    (htNoWord : PySem.W.takesIn K (.builtin "object.__class__") = some true)
    (hmNoWord : PySem.W.mroIn K C_NoWord (.type "object") = some true)
    (aNotRead : PySem.W.nsIn K mainGlobals "NotRead" = some (some (.ref C_NotRead)))
    (xNotRead : PySem.W.excIn K C_NotRead [.type "ValueError", .type "Exception", .type "BaseException", .type "object"] "ValueError.__new__" = true)
    (kpNotRead : PySem.W.keepIn K (.ref C_NotRead) = true)
    (sbNotRead : PySem.W.subIn K (.ref C_NotRead) (.type "BaseException") = some true)
    (tyNotRead : PySem.W.typeIn K (.ref C_NotRead) = some (.type "type"))
    (hgNotRead : PySem.W.findIn K (.ref C_NotRead) "__getattribute__" = some (some (.builtin "BaseException.__getattribute__")))
    (hkNotRead : PySem.W.findIn K (.ref C_NotRead) "__getattr__" = some none)
    (hdNotRead : PySem.W.hasDictIn K C_NotRead = true)
    (haNotRead : PySem.W.findIn K (.ref C_NotRead) "__class__" = some (some (.builtin "object.__class__")))
    (hnNotRead : PySem.W.specialIn K (.builtin "object.__class__") "__get__" = some (some (.builtin "getset_descriptor.__get__")))
    (htNotRead : PySem.W.takesIn K (.builtin "object.__class__") = some true)
    (hmNotRead : PySem.W.mroIn K C_NotRead (.type "object") = some true)
    (hU : PySem.W.subIn K (.ref C_NoWord) (.ref C_TwistError) = some true)
    (k1 : PySem.W.kitOne K (.ref C_NoWord) (.ref C_NoWord) = some true)
    (k2 : PySem.W.kitOne K (.ref C_NoWord) (.type "ValueError") = some true)
    (k3 : PySem.W.kitOne K (.ref C_NoWord) (.ref C_NotRead) = some false)
    : ∃ fd : FuncData, (∀ (s : Shared) (v : Value), BindsTo s fd ⟨[v], []⟩ [("script", v)]) ∧ ∀ base : Heap, K.In base → base.Ns mainGlobals mg → FnOk l.prog w K mg base CX0 40 fa fd ["script"] (spLaw K) := by
  have e := hfa.symm.trans (PySem.W.mg_of X G au_law)
  cases e
  have B : Blt mg := ⟨PySem.W.mg_none_of X G z_len, PySem.W.mg_none_of X G z_isinstance, PySem.W.mg_none_of X G z_str, PySem.W.mg_none_of X G z_int, PySem.W.mg_none_of X G z_bool, PySem.W.mg_none_of X G z_list, PySem.W.mg_none_of X G z_tuple, PySem.W.mg_none_of X G z_dict, PySem.W.mg_none_of X G z_set, PySem.W.mg_none_of X G z_sorted, PySem.W.mg_none_of X G z_min, PySem.W.mg_none_of X G z_max, PySem.W.mg_none_of X G z_sum, PySem.W.mg_none_of X G z_abs, PySem.W.mg_none_of X G z_all, PySem.W.mg_none_of X G z_range, PySem.W.mg_none_of X G z_zip, PySem.W.mg_none_of X G z_enumerate, PySem.W.mg_none_of X G z_reversed, PySem.W.mg_none_of X G z_ValueError⟩
  let D : DefAt K mg "law" s_law ["script"] := defAt_mk X G au_law lu_law cu_law ku_law (fun _ _ _ _ _ _ us hl => match us, hl with | [_], _ => rfl)
  have D_is_plain : DefAt K mg "is_plain" s_is_plain ["word"] := defAt_mk X G au_is_plain lu_is_plain cu_is_plain ku_is_plain (fun _ _ _ _ _ _ us hl => match us, hl with | [_], _ => rfl)
  have D_cut : DefAt K mg "cut" s_cut ["word"] := defAt_mk X G au_cut lu_cut cu_cut ku_cut (fun _ _ _ _ _ _ us hl => match us, hl with | [_], _ => rfl)
  have D_plain_bracket : DefAt K mg "plain_bracket" s_plain_bracket ["word"] := defAt_mk X G au_plain_bracket lu_plain_bracket cu_plain_bracket ku_plain_bracket (fun _ _ _ _ _ _ us hl => match us, hl with | [_], _ => rfl)
  have D__law_stir : DefAt K mg "_law_stir" s__law_stir ["cell"] := defAt_mk X G au__law_stir lu__law_stir cu__law_stir ku__law_stir (fun _ _ _ _ _ _ us hl => match us, hl with | [_], _ => rfl)
  have D__law_cell : DefAt K mg "_law_cell" s__law_cell ["script", "k"] := defAt_mk X G au__law_cell lu__law_cell cu__law_cell ku__law_cell (fun _ _ _ _ _ _ us hl => match us, hl with | [_, _], _ => rfl)
  have D__law_raw : DefAt K mg "_law_raw" s__law_raw ["script", "k"] := defAt_mk X G au__law_raw lu__law_raw cu__law_raw ku__law_raw (fun _ _ _ _ _ _ us hl => match us, hl with | [_, _], _ => rfl)
  have D__law_word : DefAt K mg "_law_word" s__law_word ["script", "at", "most"] := defAt_mk X G au__law_word lu__law_word cu__law_word ku__law_word (fun _ _ _ _ _ _ us hl => match us, hl with | [_, _, _], _ => rfl)
  have D__law_turned : DefAt K mg "_law_turned" s__law_turned ["word", "script", "at"] := defAt_mk X G au__law_turned lu__law_turned cu__law_turned ku__law_turned (fun _ _ _ _ _ _ us hl => match us, hl with | [_, _, _], _ => rfl)
  have D__law_is_plain : DefAt K mg "_law_is_plain" s__law_is_plain ["word"] := defAt_mk X G au__law_is_plain lu__law_is_plain cu__law_is_plain ku__law_is_plain (fun _ _ _ _ _ _ us hl => match us, hl with | [_], _ => rfl)
  have D__law_plain_bracket : DefAt K mg "_law_plain_bracket" s__law_plain_bracket ["word"] := defAt_mk X G au__law_plain_bracket lu__law_plain_bracket cu__law_plain_bracket ku__law_plain_bracket (fun _ _ _ _ _ _ us hl => match us, hl with | [_], _ => rfl)
  have D__law_told : DefAt K mg "_law_told" s__law_told ["word"] := defAt_mk X G au__law_told lu__law_told cu__law_told ku__law_told (fun _ _ _ _ _ _ us hl => match us, hl with | [_], _ => rfl)
  let EC_TwistError : ErrAt K mg "TwistError" := errAt_mk X G aTwistError xTwistError kpTwistError sbTwistError tyTwistError hgTwistError hkTwistError hdTwistError haTwistError hnTwistError htTwistError hmTwistError
  let EC_NoWord : ErrAt K mg "NoWord" := errAt_mk X G aNoWord xNoWord kpNoWord sbNoWord tyNoWord hgNoWord hkNoWord hdNoWord haNoWord hnNoWord htNoWord hmNoWord
  let EC_NotRead : ErrAt K mg "NotRead" := errAt_mk X G aNotRead xNotRead kpNotRead sbNotRead tyNotRead hgNotRead hkNotRead hdNotRead haNotRead hnNotRead htNotRead hmNotRead
  exact ⟨PySem.W.fnOf "law" "law" (defArgs s_law) (defBody s_law) (defScope s_law) .none kVu_law dcu_law pmu_law anu_law cdu_law ctu_law, fun s v => .of_eq rfl, fun base _ _ => ok_law B D D_is_plain D_cut D_plain_bracket D__law_stir D__law_cell D__law_raw D__law_word D__law_turned D__law_is_plain D__law_plain_bracket D__law_told EC_TwistError EC_NoWord EC_NotRead hU k1 k2 k3⟩
end TB
open PySem PySem.W PyProof.Rows
set_option maxHeartbeats 0 in
theorem PySem.Challenge.cw_twistbrackets_k03_plain_brackets_holds : PySem.Challenge.rw_twistbrackets_k03_plain_brackets.Holds := by
  w_on; o_law; k_head; (case hw => w_witness2)
  k_fill
  refine L2.walk_of (l := PySem.Challenge.rw_twistbrackets_k03_plain_brackets) (n := 63) (k := 40) (x := "script") (CX := fun _ => L2.CX0) (sp := fun w => TB.spLaw _) rfl (by decide) rfl ⟨rfl, by decide, by decide⟩ (fun w h Y => PySem.W.kIn_of Y) ?F (fun _ _ a ns hl _ hS => ⟨a, ns, rfl, hS, hl, fun _ => rfl⟩) (fun _ _ _ _ _ h => h)
  case F =>
    intro w mg fa h KX G hmg
    refine' TB.all_mk KX G hmg ?z_len ?z_isinstance ?z_str ?z_int ?z_bool ?z_list ?z_tuple ?z_dict ?z_set ?z_sorted ?z_min ?z_max ?z_sum ?z_abs ?z_all ?z_range ?z_zip ?z_enumerate ?z_reversed ?z_ValueError ?au_law ?lu_law ?cu_law ?ku_law ?au_is_plain ?lu_is_plain ?cu_is_plain ?ku_is_plain ?au_cut ?lu_cut ?cu_cut ?ku_cut ?au_plain_bracket ?lu_plain_bracket ?cu_plain_bracket ?ku_plain_bracket ?au__law_stir ?lu__law_stir ?cu__law_stir ?ku__law_stir ?au__law_cell ?lu__law_cell ?cu__law_cell ?ku__law_cell ?au__law_raw ?lu__law_raw ?cu__law_raw ?ku__law_raw ?au__law_word ?lu__law_word ?cu__law_word ?ku__law_word ?au__law_turned ?lu__law_turned ?cu__law_turned ?ku__law_turned ?au__law_is_plain ?lu__law_is_plain ?cu__law_is_plain ?ku__law_is_plain ?au__law_plain_bracket ?lu__law_plain_bracket ?cu__law_plain_bracket ?ku__law_plain_bracket ?au__law_told ?lu__law_told ?cu__law_told ?ku__law_told ?aTwistError ?xTwistError ?kpTwistError ?sbTwistError ?tyTwistError ?hgTwistError ?hkTwistError ?hdTwistError ?haTwistError ?hnTwistError ?htTwistError ?hmTwistError ?aNoWord ?xNoWord ?kpNoWord ?sbNoWord ?tyNoWord ?hgNoWord ?hkNoWord ?hdNoWord ?haNoWord ?hnNoWord ?htNoWord ?hmNoWord ?aNotRead ?xNotRead ?kpNotRead ?sbNotRead ?tyNotRead ?hgNotRead ?hkNotRead ?hdNotRead ?haNotRead ?hnNotRead ?htNotRead ?hmNotRead ?hU ?k1 ?k2 ?k3
    (case z_len => k_is)
    (case z_isinstance => k_is)
    (case z_str => k_is)
    (case z_int => k_is)
    (case z_bool => k_is)
    (case z_list => k_is)
    (case z_tuple => k_is)
    (case z_dict => k_is)
    (case z_set => k_is)
    (case z_sorted => k_is)
    (case z_min => k_is)
    (case z_max => k_is)
    (case z_sum => k_is)
    (case z_abs => k_is)
    (case z_all => k_is)
    (case z_range => k_is)
    (case z_zip => k_is)
    (case z_enumerate => k_is)
    (case z_reversed => k_is)
    (case z_ValueError => k_is)
    (case au_law => k_is)
    (case lu_law => k_is)
    (case cu_law => k_is)
    (case ku_law => k_is)
    (case au_is_plain => k_is)
    (case lu_is_plain => k_is)
    (case cu_is_plain => k_is)
    (case ku_is_plain => k_is)
    (case au_cut => k_is)
    (case lu_cut => k_is)
    (case cu_cut => k_is)
    (case ku_cut => k_is)
    (case au_plain_bracket => k_is)
    (case lu_plain_bracket => k_is)
    (case cu_plain_bracket => k_is)
    (case ku_plain_bracket => k_is)
    (case au__law_stir => k_is)
    (case lu__law_stir => k_is)
    (case cu__law_stir => k_is)
    (case ku__law_stir => k_is)
    (case au__law_cell => k_is)
    (case lu__law_cell => k_is)
    (case cu__law_cell => k_is)
    (case ku__law_cell => k_is)
    (case au__law_raw => k_is)
    (case lu__law_raw => k_is)
    (case cu__law_raw => k_is)
    (case ku__law_raw => k_is)
    (case au__law_word => k_is)
    (case lu__law_word => k_is)
    (case cu__law_word => k_is)
    (case ku__law_word => k_is)
    (case au__law_turned => k_is)
    (case lu__law_turned => k_is)
    (case cu__law_turned => k_is)
    (case ku__law_turned => k_is)
    (case au__law_is_plain => k_is)
    (case lu__law_is_plain => k_is)
    (case cu__law_is_plain => k_is)
    (case ku__law_is_plain => k_is)
    (case au__law_plain_bracket => k_is)
    (case lu__law_plain_bracket => k_is)
    (case cu__law_plain_bracket => k_is)
    (case ku__law_plain_bracket => k_is)
    (case au__law_told => k_is)
    (case lu__law_told => k_is)
    (case cu__law_told => k_is)
    (case ku__law_told => k_is)
    (case aTwistError => k_is)
    (case xTwistError => k_exc)
    (case kpTwistError => k_is)
    (case sbTwistError => k_is)
    (case tyTwistError => k_is)
    (case hgTwistError => k_is)
    (case hkTwistError => k_is)
    (case hdTwistError => k_is)
    (case haTwistError => k_is)
    (case hnTwistError => k_is)
    (case htTwistError => k_is)
    (case hmTwistError => k_is)
    (case aNoWord => k_is)
    (case xNoWord => k_exc)
    (case kpNoWord => k_is)
    (case sbNoWord => k_is)
    (case tyNoWord => k_is)
    (case hgNoWord => k_is)
    (case hkNoWord => k_is)
    (case hdNoWord => k_is)
    (case haNoWord => k_is)
    (case hnNoWord => k_is)
    (case htNoWord => k_is)
    (case hmNoWord => k_is)
    (case aNotRead => k_is)
    (case xNotRead => k_exc)
    (case kpNotRead => k_is)
    (case sbNotRead => k_is)
    (case tyNotRead => k_is)
    (case hgNotRead => k_is)
    (case hkNotRead => k_is)
    (case hdNotRead => k_is)
    (case haNotRead => k_is)
    (case hnNotRead => k_is)
    (case htNotRead => k_is)
    (case hmNotRead => k_is)
    (case hU => k_is)
    (case k1 => kit_is)
    (case k2 => kit_is)
    (case k3 => kit_is)

