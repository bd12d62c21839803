import PyProof.Rows.All
import Wide.All
import OpenK.AllK
import Wide.FinOn
import Open.SpecLaws
import KE.OsGo
import HandS.ForSpec
import HandS.Comp
import HandS.Dict
import HandS.Iter
import HandS.Walk
import HandS.Wide
import HandS.WordsDict
import HandS.SetFor
import HandS.ExcInit
import HandS.ExcField
import PySem.Challenge.RW_laddersnakes_s01_answers
set_option Elab.async false
set_option linter.all false
set_option maxRecDepth 100000
set_option maxHeartbeats 8000000
namespace LS
open Uw62

/-! ### lists -/
theorem pigeon {α : Type} [BEq α] [LawfulBEq α] : ∀ (l1 l2 : List α), l1.Nodup → (∀ x ∈ l1, x ∈ l2) → l1.length ≤ l2.length
  | [], l2, _, _ => Nat.zero_le _
  | x :: r, l2, hd, hs => by
    have hx : x ∈ l2 := hs x List.mem_cons_self
    have hn := List.nodup_cons.mp hd
    have ih := pigeon r (l2.erase x) hn.2 fun y hy => by
      have h2 : y ∈ l2 := hs y (List.mem_cons_of_mem _ hy)
      have hne : y ≠ x := fun e => hn.1 (e ▸ hy)
      exact (List.mem_erase_of_ne hne).mpr h2
    have hl : (l2.erase x).length = l2.length - 1 := List.length_erase_of_mem hx
    have hp : 0 < l2.length := List.length_pos_of_mem hx
    simp only [List.length_cons]
    omega

/-- two rising lists with the same members -/
theorem rising_eq : ∀ (l1 l2 : List Nat), l1.Pairwise (· < ·) → l2.Pairwise (· < ·) → (∀ x, x ∈ l1 ↔ x ∈ l2) → l1 = l2
  | [], [], _, _, _ => rfl
  | [], y :: r, _, _, h => absurd ((h y).mpr List.mem_cons_self) (by simp)
  | x :: r, [], _, _, h => absurd ((h x).mp List.mem_cons_self) (by simp)
  | x :: r, y :: q, h1, h2, h => by
    rw [List.pairwise_cons] at h1 h2
    have hx : x = y := by
      have a := (h x).mp List.mem_cons_self
      have b := (h y).mpr List.mem_cons_self
      rcases List.mem_cons.mp a with e | a
      · exact e
      · rcases List.mem_cons.mp b with e | b
        · exact e.symm
        · have := h1.1 y b
          have := h2.1 x a
          omega
    subst hx
    congr 1
    refine rising_eq r q h1.2 h2.2 fun z => ?_
    constructor
    · intro hz
      rcases List.mem_cons.mp ((h z).mp (List.mem_cons_of_mem _ hz)) with e | a
      · have := h1.1 z hz
        omega
      · exact a
    · intro hz
      rcases List.mem_cons.mp ((h z).mpr (List.mem_cons_of_mem _ hz)) with e | a
      · have := h2.1 z hz
        omega
      · exact a

theorem range_rising (n : Nat) : (List.range n).Pairwise (· < ·) := List.pairwise_lt_range
theorem filter_rising (n : Nat) (P : Nat → Bool) : ((List.range n).filter P).Pairwise (· < ·) := (range_rising n).filter P

theorem countP_lt {α : Type} (P Q : α → Bool) : ∀ (l : List α), (∀ x ∈ l, P x = true → Q x = true) → (∃ x ∈ l, Q x = true ∧ P x = false) → l.countP P < l.countP Q
  | [], _, h => by obtain ⟨x, hx, _⟩ := h; cases hx
  | a :: r, h1, h2 => by
    have hm : r.countP P ≤ r.countP Q := List.countP_mono_left fun x hx => h1 x (List.mem_cons_of_mem _ hx)
    rw [List.countP_cons, List.countP_cons]
    obtain ⟨x, hx, hq, hp⟩ := h2
    rcases List.mem_cons.mp hx with e | hx
    · subst e
      rw [hq, hp]
      simp
      omega
    · have ih := countP_lt P Q r (fun x hx => h1 x (List.mem_cons_of_mem _ hx)) ⟨x, hx, hq, hp⟩
      have := h1 a List.mem_cons_self
      by_cases hpa : P a = true
      · simp only [hpa, this hpa, if_true]
        omega
      · have e1 : (if P a = true then 1 else 0) = 0 := if_neg hpa
        rw [e1]
        exact Nat.lt_of_lt_of_le ih (Nat.le_add_right _ _)

/-! ### boards -/
structure Good (b : Board) : Prop where
  n2 : 2 ≤ b.n
  n10 : b.n ≤ 10
  rule : b.rule ≤ 2
  f1 : 1 ≤ b.faces.length
  f6 : b.faces.length ≤ 6
  f12 : ∀ f ∈ b.faces, f ≤ 12
  jin : ∀ j ∈ b.jumps, 1 ≤ j.1 ∧ j.1 < b.n ∧ j.2 ≤ b.n ∧ j.1 ≠ j.2
  jd : (b.jumps.map fun j => j.1).Pairwise (· ≠ ·)
  nr : ring b = false

theorem goodJumps_iff {n : Nat} {l : List (Nat × Nat)} : goodJumps n l = true ↔ (∀ j ∈ l, 1 ≤ j.1 ∧ j.1 < n ∧ j.2 ≤ n ∧ j.1 ≠ j.2) ∧ (l.map fun j => j.1).Pairwise (· ≠ ·) := by
  unfold goodJumps
  simp [List.all_eq_true]

theorem first_good : Good Uw62.first := ⟨by decide, by decide, by decide, by decide, by decide, by decide, by simp [Uw62.first], by simp [Uw62.first], by decide⟩

variable {b : Board}

theorem jumpAt_mem {p q : Nat} (h : jumpAt b p = some q) : (p, q) ∈ b.jumps := by
  unfold jumpAt at h
  rw [Option.map_eq_some_iff] at h
  obtain ⟨j, h1, h2⟩ := h
  have hm := List.mem_of_find?_eq_some h1
  have he := List.find?_some h1
  simp at he
  subst h2
  rw [← he]
  exact hm

theorem jumps_len (g : Good b) : b.jumps.length ≤ 9 := by
  have h := pigeon (b.jumps.map fun (j : Nat × Nat) => j.1) ((List.range b.n).filter fun (i : Nat) => decide (1 ≤ i)) g.jd fun x hx => by
    obtain ⟨j, hj, rfl⟩ := List.mem_map.mp hx
    have := g.jin j hj
    simp
    omega
  rw [List.length_map] at h
  have h2 : ((List.range b.n).filter fun (i : Nat) => decide (1 ≤ i)).length ≤ b.n - 1 := by
    obtain ⟨m, hm⟩ : ∃ m, b.n = m + 1 := ⟨b.n - 1, by have := g.n2; omega⟩
    rw [hm, List.range_succ_eq_map, List.filter_cons_of_neg (by simp)]
    refine Nat.le_trans (List.length_filter_le _ _) ?_
    simp
  have := g.n10
  omega

theorem jumpAt_in (g : Good b) {p q : Nat} (h : jumpAt b p = some q) : 1 ≤ p ∧ p < b.n ∧ q ≤ b.n := by
  have := g.jin _ (jumpAt_mem h)
  exact ⟨this.1, this.2.1, this.2.2.1⟩

theorem follow_out (g : Good b) : ∀ {f p q : Nat}, p ≤ b.n → follow b f p = some q → q ≤ b.n ∧ jumpAt b q = none
  | 0, p, q, hp, h => by
    unfold follow at h
    split at h
    · rename_i hn
      cases h
      exact ⟨hp, by simpa using hn⟩
    · cases h
  | f + 1, p, q, hp, h => by
    unfold follow at h
    cases e : jumpAt b p with
    | none =>
      rw [e] at h
      cases h
      exact ⟨hp, e⟩
    | some r =>
      rw [e] at h
      exact follow_out g (jumpAt_in g e).2.2 h

theorem follow_some (g : Good b) {p : Nat} (hp : p ≤ b.n) : ∃ q, follow b b.jumps.length p = some q := by
  have h := g.nr
  unfold ring at h
  rw [List.any_eq_false] at h
  have := h p (by simp; omega)
  cases e : follow b b.jumps.length p with
  | none => rw [e] at this; simp at this
  | some q => exact ⟨q, rfl⟩

/-- one step along: the loop of lands -/
theorem follow_step {f p q r : Nat} (h : follow b f p = some q) (e : jumpAt b p = some r) : ∃ f', f = f' + 1 ∧ follow b f' r = some q := by
  cases f with
  | zero =>
    unfold follow at h
    rw [e] at h
    simp at h
  | succ f' =>
    unfold follow at h
    rw [e] at h
    exact ⟨f', rfl, h⟩
theorem follow_end {f p q : Nat} (h : follow b f p = some q) (e : jumpAt b p = none) : q = p := by
  cases f with
  | zero =>
    unfold follow at h
    rw [e] at h
    simp at h
    exact h.symm
  | succ f' =>
    unfold follow at h
    rw [e] at h
    simp at h
    exact h.symm

theorem thrown_le (g : Good b) {p f : Nat} (hp : p ≤ b.n) : thrown b p f ≤ b.n := by
  unfold thrown
  split
  · assumption
  · split
    · exact hp
    · split <;> omega

theorem lands_follow (g : Good b) {p f : Nat} (hp : p < b.n) : follow b b.jumps.length (thrown b p f) = some (lands b p f) := by
  obtain ⟨q, hq⟩ := follow_some g (thrown_le g (f := f) (Nat.le_of_lt hp))
  unfold lands
  rw [if_neg (by omega), hq]
  rfl

theorem lands_end {p f : Nat} (hp : b.n ≤ p) : lands b p f = b.n := by
  unfold lands
  rw [if_pos hp]

theorem lands_le (g : Good b) (p f : Nat) : lands b p f ≤ b.n := by
  by_cases hp : p < b.n
  · exact (follow_out g (thrown_le g (Nat.le_of_lt hp)) (lands_follow g (f := f) hp)).1
  · rw [lands_end (by omega)]
    exact Nat.le_refl _

/-! ### places come to -/
inductive Path (b : Board) : Nat → Nat → Nat → Prop where
  | nil (p : Nat) : Path b 0 p p
  | snoc {t p r f : Nat} (h : Path b t p r) (hf : f ∈ b.faces) : Path b (t + 1) p (lands b r f)

theorem Path.le (g : Good b) {t p q : Nat} (h : Path b t p q) (hp : p ≤ b.n) : q ≤ b.n := by
  cases h with
  | nil => exact hp
  | snoc h hf => exact lands_le g _ _

theorem Path.trans {t p r : Nat} (h : Path b t p r) {u q : Nat} (h2 : Path b u r q) : Path b (t + u) p q := by
  induction h2 with
  | nil => exact h
  | snoc h2 hf ih => exact .snoc (ih h) hf

def nextOf (b : Board) (l : List Nat) : List Nat := (List.range (b.n + 1)).filter fun q => l.contains q || l.any fun p => b.faces.any fun f => lands b p f == q
theorem comeFrom_succ (k : Nat) (l : List Nat) : comeFrom b (k + 1) l = comeFrom b k (nextOf b l) := rfl
theorem comeFrom_next : ∀ (k : Nat) (l : List Nat), comeFrom b k (nextOf b l) = nextOf b (comeFrom b k l)
  | 0, _ => rfl
  | k + 1, l => by rw [comeFrom_succ, comeFrom_succ, comeFrom_next k (nextOf b l)]

theorem mem_next {l : List Nat} {q : Nat} : q ∈ nextOf b l ↔ q ≤ b.n ∧ (q ∈ l ∨ ∃ p ∈ l, ∃ f ∈ b.faces, lands b p f = q) := by
  unfold nextOf
  simp [List.mem_filter, Nat.lt_succ_iff]

theorem come_sound : ∀ (k : Nat) (l : List Nat) {q : Nat}, q ∈ comeFrom b k l → ∃ p ∈ l, ∃ t, t ≤ k ∧ Path b t p q
  | 0, l, q, h => ⟨q, h, 0, Nat.le_refl _, .nil q⟩
  | k + 1, l, q, h => by
    rw [comeFrom_succ, comeFrom_next, mem_next] at h
    rcases h.2 with h | ⟨r, hr, f, hf, e⟩
    · obtain ⟨p, hp, t, ht, pa⟩ := come_sound k l h
      exact ⟨p, hp, t, by omega, pa⟩
    · obtain ⟨p, hp, t, ht, pa⟩ := come_sound k l hr
      subst e
      exact ⟨p, hp, t + 1, by omega, .snoc pa hf⟩

def Closed (b : Board) (l : List Nat) : Prop := ∀ p ∈ l, ∀ f ∈ b.faces, lands b p f ∈ l
def cnt (b : Board) (l : List Nat) : Nat := (List.range (b.n + 1)).countP fun q => l.contains q

theorem closed_next (g : Good b) {l : List Nat} (hl : ∀ x ∈ l, x ≤ b.n) (h : Closed b l) : Closed b (nextOf b l) := by
  intro p hp f hf
  rw [mem_next] at hp ⊢
  refine ⟨lands_le g p f, Or.inl ?_⟩
  rcases hp.2 with h1 | ⟨r, hr, f', hf', e⟩
  · exact h p h1 f hf
  · subst e
    exact h _ (h r hr f' hf') f hf

theorem come_le (hp : ∀ x ∈ l, x ≤ b.n) : ∀ (k : Nat), ∀ x ∈ comeFrom b k l, x ≤ b.n
  | 0, x, h => hp x h
  | k + 1, x, h => by
    rw [comeFrom_succ, comeFrom_next, mem_next] at h
    exact h.1

theorem come_count (g : Good b) {p : Nat} (hp : p ≤ b.n) : ∀ k, Closed b (comeFrom b k [p]) ∨ k + 1 ≤ cnt b (comeFrom b k [p])
  | 0 => by
    right
    unfold cnt
    show 1 ≤ _
    rw [Nat.succ_le_iff, List.countP_pos_iff]
    exact ⟨p, by simp; omega, by simp [comeFrom]⟩
  | k + 1 => by
    have hle := come_le (b := b) (l := [p]) (by simpa using hp) k
    rw [comeFrom_succ, comeFrom_next]
    by_cases hc : Closed b (comeFrom b k [p])
    · exact Or.inl (closed_next g hle hc)
    · rcases come_count g hp k with h | h
      · exact absurd h hc
      · right
        have : cnt b (comeFrom b k [p]) < cnt b (nextOf b (comeFrom b k [p])) := by
          unfold cnt
          refine countP_lt _ _ _ (fun x hx h => ?_) ?_
          · simp only [List.contains_iff_mem] at h ⊢
            rw [mem_next]
            exact ⟨hle x h, Or.inl h⟩
          · unfold Closed at hc
            simp only [Classical.not_forall] at hc
            obtain ⟨r, hr, f, hf, hn⟩ := hc
            refine ⟨lands b r f, ?_, ?_, ?_⟩
            · have := lands_le g r f
              simp
              omega
            · simp only [List.contains_iff_mem]
              rw [mem_next]
              exact ⟨lands_le g r f, Or.inr ⟨r, hr, f, hf, rfl⟩⟩
            · simpa using hn
        omega

theorem comes_closed (g : Good b) {p : Nat} (hp : p ≤ b.n) : Closed b (comes b p) := by
  unfold comes
  rcases come_count g hp (b.n + 1) with h | h
  · exact h
  · have : cnt b (comeFrom b (b.n + 1) [p]) ≤ b.n + 1 := by
      unfold cnt
      refine Nat.le_trans List.countP_le_length ?_
      simp
    omega

theorem come_keep (g : Good b) {l : List Nat} (hl : ∀ x ∈ l, x ≤ b.n) : ∀ (k : Nat) {x : Nat}, x ∈ l → x ∈ comeFrom b k l
  | 0, x, h => h
  | k + 1, x, h => by
    rw [comeFrom_succ, comeFrom_next, mem_next]
    exact ⟨hl x h, Or.inl (come_keep g hl k h)⟩

theorem comes_self (g : Good b) {p : Nat} (hp : p ≤ b.n) : p ∈ comes b p := come_keep g (by simpa using hp) _ (by simp)

theorem comes_path (g : Good b) {p : Nat} (hp : p ≤ b.n) {t q : Nat} (h : Path b t p q) : q ∈ comes b p := by
  induction h with
  | nil => exact comes_self g hp
  | snoc h hf ih => exact comes_closed g hp _ (ih hp) _ hf

theorem comes_iff (g : Good b) {p : Nat} (hp : p ≤ b.n) {q : Nat} : q ∈ comes b p ↔ ∃ t, Path b t p q := by
  constructor
  · intro h
    obtain ⟨r, hr, t, _, pa⟩ := come_sound _ _ h
    simp at hr
    subst hr
    exact ⟨t, pa⟩
  · intro ⟨t, h⟩
    exact comes_path g hp h

theorem comes_short {p q : Nat} (h : q ∈ comes b p) : ∃ t, t ≤ b.n + 1 ∧ Path b t p q := by
  obtain ⟨r, hr, t, ht, pa⟩ := come_sound _ _ h
  simp at hr
  subst hr
  exact ⟨t, ht, pa⟩

theorem comes_le (g : Good b) {p : Nat} (hp : p ≤ b.n) {q : Nat} (h : q ∈ comes b p) : q ≤ b.n := come_le (by simpa using hp) _ q h

theorem comes_rising (p : Nat) : (comes b p).Pairwise (· < ·) := by
  unfold comes
  rw [comeFrom_succ, comeFrom_next]
  exact filter_rising _ _

theorem comes_sub (g : Good b) {p q r : Nat} (hp : p ≤ b.n) (h : q ∈ comes b p) (h2 : r ∈ comes b q) : r ∈ comes b p := by
  have hq := comes_le g hp h
  rw [comes_iff g hp] at h ⊢
  rw [comes_iff g hq] at h2
  obtain ⟨t, h⟩ := h
  obtain ⟨u, h2⟩ := h2
  exact ⟨_, h.trans h2⟩

/-- what the search of come_to finds -/
structure Found (b : Board) (p : Nat) (fs : List Nat) (i : Nat) : Prop where
  self : p ∈ fs
  nd : fs.Nodup
  le : ∀ x ∈ fs, x ≤ b.n
  path : ∀ x ∈ fs, ∃ t, Path b t p x
  done : ∀ (j : Nat) (x : Nat), j < i → fs[j]? = some x → x ≠ b.n → ∀ f ∈ b.faces, lands b x f ∈ fs

def addNew (fs ths : List Nat) : List Nat := ths.foldl (fun acc t => if acc.contains t then acc else acc ++ [t]) fs

theorem addNew_nil (fs : List Nat) : addNew fs [] = fs := rfl
theorem addNew_cons (fs r : List Nat) (t : Nat) : addNew fs (t :: r) = addNew (if fs.contains t then fs else fs ++ [t]) r := rfl
theorem addNew_snoc (fs r : List Nat) (t : Nat) : addNew fs (r ++ [t]) = if (addNew fs r).contains t then addNew fs r else addNew fs r ++ [t] := by
  unfold addNew
  rw [List.foldl_append]
  rfl

theorem addNew_pre : ∀ (ths fs : List Nat), ∃ more, addNew fs ths = fs ++ more
  | [], fs => ⟨[], by simp [addNew]⟩
  | t :: r, fs => by
    rw [addNew_cons]
    obtain ⟨m, h⟩ := addNew_pre r (if fs.contains t then fs else fs ++ [t])
    rw [h]
    split
    · exact ⟨m, rfl⟩
    · exact ⟨t :: m, by simp⟩

theorem mem_addNew : ∀ {ths fs : List Nat} {x : Nat}, x ∈ addNew fs ths ↔ x ∈ fs ∨ x ∈ ths
  | [], fs, x => by simp [addNew]
  | t :: r, fs, x => by
    rw [addNew_cons, mem_addNew (ths := r)]
    split
    · rename_i h
      simp only [List.contains_iff_mem] at h
      simp only [List.mem_cons]
      constructor
      · rintro (h1 | h1)
        · exact .inl h1
        · exact .inr (.inr h1)
      · rintro (h1 | h1 | h1)
        · exact .inl h1
        · exact .inl (h1 ▸ h)
        · exact .inr h1
    · simp only [List.mem_append, List.mem_cons, List.not_mem_nil, or_false]
      constructor
      · rintro ((h1 | h1) | h1)
        · exact .inl h1
        · exact .inr (.inl h1)
        · exact .inr (.inr h1)
      · rintro (h1 | h1 | h1)
        · exact .inl (.inl h1)
        · exact .inl (.inr h1)
        · exact .inr h1

theorem nodup_addNew : ∀ {ths fs : List Nat}, fs.Nodup → (addNew fs ths).Nodup
  | [], fs, h => h
  | t :: r, fs, h => by
    rw [addNew_cons]
    refine nodup_addNew (ths := r) ?_
    split
    · exact h
    · rename_i hn
      simp only [List.contains_iff_mem] at hn
      rw [List.nodup_append]
      refine ⟨h, by simp, ?_⟩
      intro a ha c hc
      simp at hc
      subst hc
      exact fun e => hn (e ▸ ha)

def onw (b : Board) (p : Nat) : List Nat := if p = b.n then [] else b.faces.map (lands b p)

theorem found_start (g : Good b) {p : Nat} (hp : p ≤ b.n) : Found b p [p] 0 :=
  ⟨by simp, by simp, by simpa using hp, fun x hx => by simp at hx; subst hx; exact ⟨0, .nil _⟩, fun j _ hj => absurd hj (Nat.not_lt_zero _)⟩

theorem found_len (F : Found b p fs i) : fs.length ≤ b.n + 1 := by
  have := pigeon fs (List.range (b.n + 1)) F.nd fun x hx => by have := F.le x hx; simp; omega
  simpa using this

theorem found_turn (g : Good b) {p i x : Nat} {fs : List Nat} (F : Found b p fs i) (hx : fs[i]? = some x) : Found b p (addNew fs (onw b x)) (i + 1) := by
  have hm : x ∈ fs := List.mem_of_getElem? hx
  obtain ⟨more, hpre⟩ := addNew_pre (onw b x) fs
  have hon : ∀ y ∈ onw b x, ∃ f ∈ b.faces, lands b x f = y := by
    intro y hy
    unfold onw at hy
    split at hy
    · cases hy
    · obtain ⟨f, hf, e⟩ := List.mem_map.mp hy
      exact ⟨f, hf, e⟩
  refine ⟨mem_addNew.mpr (.inl F.self), nodup_addNew F.nd, fun y hy => ?_, fun y hy => ?_, fun j y hj hy hne f hf => ?_⟩
  · rcases mem_addNew.mp hy with h | h
    · exact F.le y h
    · obtain ⟨f, hf, e⟩ := hon y h
      subst e
      exact lands_le g _ _
  · rcases mem_addNew.mp hy with h | h
    · exact F.path y h
    · obtain ⟨f, hf, e⟩ := hon y h
      subst e
      obtain ⟨t, pa⟩ := F.path x hm
      exact ⟨t + 1, .snoc pa hf⟩
  · have hlt : i < fs.length := (List.getElem?_eq_some_iff.mp hx).1
    have hy' : fs[j]? = some y := by
      rw [hpre, List.getElem?_append_left (by omega)] at hy
      exact hy
    rcases Nat.lt_succ_iff_lt_or_eq.mp hj with h | h
    · exact mem_addNew.mpr (.inl (F.done j y h hy' hne f hf))
    · subst h
      rw [hx] at hy'
      cases hy'
      refine mem_addNew.mpr (.inr ?_)
      unfold onw
      rw [if_neg hne]
      exact List.mem_map.mpr ⟨f, hf, rfl⟩

theorem found_end (g : Good b) {p : Nat} (hp : p ≤ b.n) {fs ns : List Nat} (F : Found b p fs fs.length) (hperm : ∀ x, x ∈ ns ↔ x ∈ fs) (hr : ns.Pairwise (· < ·)) : ns = comes b p := by
  refine rising_eq _ _ hr (comes_rising p) fun x => ?_
  rw [hperm, comes_iff g hp]
  constructor
  · exact F.path x
  · rintro ⟨t, pa⟩
    induction pa with
    | nil => exact F.self
    | snoc h hf ih =>
      rename_i t q r f
      have hr' : r ∈ fs := ih hp F
      by_cases e : r = b.n
      · rw [lands_end (by omega), ← e]
        exact hr'
      · obtain ⟨j, hj, e2⟩ := List.mem_iff_getElem.mp hr'
        exact F.done j r hj (by rw [List.getElem?_eq_getElem hj, e2]) e f hf
end LS

namespace LS
open Uw62

/-! ### sums -/
def S : Nat → (Nat → Rat) → Rat
  | 0, _ => 0
  | k + 1, f => S k f + f k
theorem S_congr {f g : Nat → Rat} : ∀ {k : Nat}, (∀ j, j < k → f j = g j) → S k f = S k g
  | 0, _ => rfl
  | k + 1, h => by
    show S k f + f k = S k g + g k
    rw [S_congr (fun j hj => h j (by omega)), h k (by omega)]
theorem S_add (f g : Nat → Rat) : ∀ k, S k (fun j => f j + g j) = S k f + S k g
  | 0 => by show (0 : Rat) = 0 + 0; grind
  | k + 1 => by
    show S k _ + (f k + g k) = S k f + f k + (S k g + g k)
    rw [S_add f g k]; grind
theorem S_sub (f g : Nat → Rat) : ∀ k, S k (fun j => f j - g j) = S k f - S k g
  | 0 => by show (0 : Rat) = 0 - 0; grind
  | k + 1 => by
    show S k _ + (f k - g k) = S k f + f k - (S k g + g k)
    rw [S_sub f g k]; grind
theorem S_mul (c : Rat) (f : Nat → Rat) : ∀ k, S k (fun j => c * f j) = c * S k f
  | 0 => by simp [S]
  | k + 1 => by
    show S k _ + c * f k = c * (S k f + f k)
    rw [S_mul c f k]; grind
theorem S_zero : ∀ k, S k (fun _ => 0) = 0
  | 0 => rfl
  | k + 1 => by
    show S k _ + 0 = 0
    rw [S_zero k]; grind
theorem S_le {f g : Nat → Rat} : ∀ {k : Nat}, (∀ j, j < k → f j ≤ g j) → S k f ≤ S k g
  | 0, _ => by simp [S]
  | k + 1, h => by
    show S k f + f k ≤ S k g + g k
    have := S_le (k := k) (f := f) (g := g) (fun j hj => h j (by omega))
    have := h k (by omega)
    grind
theorem S_nonneg {f : Nat → Rat} {k : Nat} (h : ∀ j, j < k → 0 ≤ f j) : 0 ≤ S k f := by
  have := S_le (f := fun _ => 0) (g := f) (k := k) h
  rw [S_zero] at this
  exact this
theorem S_null {f : Nat → Rat} : ∀ {k : Nat}, (∀ j, j < k → 0 ≤ f j) → S k f = 0 → ∀ j, j < k → f j = 0
  | 0, _, _, j, hj => absurd hj (Nat.not_lt_zero _)
  | k + 1, h, e, j, hj => by
    have h1 : 0 ≤ S k f := S_nonneg fun j hj => h j (by omega)
    have h2 := h k (by omega)
    have e' : S k f + f k = 0 := e
    rcases Nat.lt_succ_iff_lt_or_eq.mp hj with hl | hl
    · exact S_null (fun j hj => h j (by omega)) (by grind) j hl
    · subst hl
      grind
theorem S_term {f : Nat → Rat} {k : Nat} (h : ∀ j, j < k → 0 ≤ f j) {j : Nat} (hj : j < k) : f j ≤ S k f := by
  induction k with
  | zero => exact absurd hj (Nat.not_lt_zero _)
  | succ k ih =>
    show f j ≤ S k f + f k
    have h1 : 0 ≤ S k f := S_nonneg fun j hj => h j (by omega)
    have h2 := h k (by omega)
    rcases Nat.lt_succ_iff_lt_or_eq.mp hj with hl | hl
    · have := ih (fun j hj => h j (by omega)) hl
      grind
    · subst hl
      grind
theorem S_swap (f : Nat → Nat → Rat) (m : Nat) : ∀ k, S k (fun i => S m (fun j => f i j)) = S m (fun j => S k (fun i => f i j))
  | 0 => by
    show (0 : Rat) = S m fun j => 0
    rw [S_zero]
  | k + 1 => by
    show S k _ + S m (fun j => f k j) = S m (fun j => S k (fun i => f i j) + f k j)
    rw [S_add, S_swap f m k]
theorem S_pick {i : Nat} (v : Rat) : ∀ {k : Nat}, S k (fun j => if j = i then v else 0) = if i < k then v else 0
  | 0 => by simp [S]
  | k + 1 => by
    show S k _ + (if k = i then v else 0) = _
    rw [S_pick v (k := k)]
    by_cases h1 : i < k
    · rw [if_pos h1, if_neg (by omega), if_pos (by omega)]; grind
    · by_cases h2 : k = i
      · rw [if_neg h1, if_pos h2, if_pos (by omega)]; grind
      · rw [if_neg h1, if_neg h2, if_neg (by omega)]; grind
theorem S_abs (f : Nat → Rat) : ∀ k, (S k f).abs ≤ S k (fun j => (f j).abs)
  | 0 => by simp [S]
  | k + 1 => by
    show (S k f + f k).abs ≤ S k (fun j => (f j).abs) + (f k).abs
    have := S_abs f k
    have t : ∀ x y : Rat, (x + y).abs ≤ x.abs + y.abs := by
      intro x y
      unfold Rat.abs
      grind
    have := t (S k f) (f k)
    grind
theorem S_cut {f : Nat → Rat} {i : Nat} : ∀ {k : Nat}, i ≤ k → (∀ j, i ≤ j → j < k → f j = 0) → S k f = S i f
  | 0, h, _ => by
    have : i = 0 := by omega
    subst this
    rfl
  | k + 1, h, hz => by
    by_cases e : i = k + 1
    · subst e; rfl
    · show S k f + f k = S i f
      rw [hz k (by omega) (by omega), S_cut (k := k) (by omega) (fun j h1 h2 => hz j h1 (by omega))]
      grind

/-! ### fractions -/
def Nf (q : Frac) : Prop := 0 < q.l ∧ Nat.gcd q.u.natAbs q.l = 1
def val (q : Frac) : Rat := (q.u : Rat) / (q.l : Rat)

theorem natpos {n : Nat} (h : 0 < n) : (0 : Rat) < (n : Rat) := by
  exact_mod_cast h
theorem natne {n : Nat} (h : 0 < n) : (n : Rat) ≠ 0 := by
  have := natpos h
  grind

theorem frac_parts (u : Int) {l : Nat} (h : 0 < l) : ∃ g : Nat, 0 < g ∧ u = (g : Int) * (frac u l).u ∧ l = g * (frac u l).l ∧ g = Nat.gcd u.natAbs l := by
  refine ⟨Nat.gcd u.natAbs l, Nat.gcd_pos_of_pos_right _ h, ?_, ?_, rfl⟩
  · show u = _ * (u / ((Nat.gcd u.natAbs l : Nat) : Int))
    rw [Int.mul_ediv_cancel']
    exact Int.ofNat_dvd_left.mpr (Nat.gcd_dvd_left _ _)
  · show l = _ * (l / Nat.gcd u.natAbs l)
    rw [Nat.mul_div_cancel' (Nat.gcd_dvd_right _ _)]

theorem frac_nf (u : Int) {l : Nat} (h : 0 < l) : Nf (frac u l) := by
  obtain ⟨g, hg, e1, e2, e3⟩ := frac_parts u h
  refine ⟨?_, ?_⟩
  · rcases Nat.eq_zero_or_pos (frac u l).l with z | z
    · rw [z] at e2; omega
    · exact z
  · have : Nat.gcd u.natAbs l = g * Nat.gcd (frac u l).u.natAbs (frac u l).l := by
      rw [← Nat.gcd_mul_left, ← e2]
      congr 1
      conv => lhs; rw [e1]
      rw [Int.natAbs_mul]
      simp
    rw [← e3] at this
    have h2 : g * 1 = g * Nat.gcd (frac u l).u.natAbs (frac u l).l := by omega
    exact (Nat.eq_of_mul_eq_mul_left hg h2).symm

theorem val_frac (u : Int) {l : Nat} (h : 0 < l) : val (frac u l) = (u : Rat) / (l : Rat) := by
  obtain ⟨g, hg, e1, e2, _⟩ := frac_parts u h
  have hl := (frac_nf u h).1
  unfold val
  have a1 : (u : Rat) = (g : Rat) * ((frac u l).u : Rat) := by exact_mod_cast congrArg (fun z : Int => (z : Rat)) e1
  have a2 : (l : Rat) = (g : Rat) * ((frac u l).l : Rat) := by exact_mod_cast congrArg (fun z : Nat => (z : Rat)) e2
  rw [a1, a2]
  have n1 := natne hg
  have n2 := natne hl
  grind

theorem val_cross {p q : Frac} (hp : 0 < p.l) (hq : 0 < q.l) (h : val p = val q) : p.u * (q.l : Int) = q.u * (p.l : Int) := by
  unfold val at h
  have n1 := natne hp
  have n2 := natne hq
  have : (p.u : Rat) * (q.l : Rat) = (q.u : Rat) * (p.l : Rat) := by grind
  exact_mod_cast this

theorem nf_eq {p q : Frac} (hp : Nf p) (hq : Nf q) (h : val p = val q) : p = q := by
  have c := val_cross hp.1 hq.1 h
  have hl : p.l = q.l := by
    apply Nat.dvd_antisymm
    · have : p.l ∣ p.u.natAbs * q.l := by
        have e : p.u.natAbs * q.l = q.u.natAbs * p.l := by
          have := congrArg Int.natAbs c
          simpa [Int.natAbs_mul] using this
        rw [e]
        exact Nat.dvd_mul_left _ _
      exact (Nat.Coprime.symm hp.2).dvd_of_dvd_mul_left this
    · have : q.l ∣ q.u.natAbs * p.l := by
        have e : p.u.natAbs * q.l = q.u.natAbs * p.l := by
          have := congrArg Int.natAbs c
          simpa [Int.natAbs_mul] using this
        rw [← e]
        exact Nat.dvd_mul_left _ _
      exact (Nat.Coprime.symm hq.2).dvd_of_dvd_mul_left this
  have hu : p.u = q.u := by
    rw [hl] at c
    exact Int.eq_of_mul_eq_mul_right (by have := hq.1; omega) c
  cases p; cases q
  simp_all

theorem zero_nf : Nf zero := ⟨by decide, by decide⟩
theorem one_nf : Nf one := ⟨by decide, by decide⟩
theorem val_zero : val zero = 0 := by unfold val zero; push_cast; grind
theorem val_one : val one = 1 := by unfold val one; push_cast; grind

theorem mulpos {p q : Frac} (hp : 0 < p.l) (hq : 0 < q.l) : 0 < p.l * q.l := Nat.mul_pos hp hq
theorem plus_nf {p q : Frac} (hp : 0 < p.l) (hq : 0 < q.l) : Nf (plus p q) := frac_nf _ (mulpos hp hq)
theorem minus_nf {p q : Frac} (hp : 0 < p.l) (hq : 0 < q.l) : Nf (minus p q) := frac_nf _ (mulpos hp hq)
theorem times_nf {p q : Frac} (hp : 0 < p.l) (hq : 0 < q.l) : Nf (times p q) := frac_nf _ (mulpos hp hq)
theorem val_plus {p q : Frac} (hp : 0 < p.l) (hq : 0 < q.l) : val (plus p q) = val p + val q := by
  unfold plus
  rw [val_frac _ (mulpos hp hq)]
  unfold val
  have n1 := natne hp
  have n2 := natne hq
  push_cast
  grind
theorem val_minus {p q : Frac} (hp : 0 < p.l) (hq : 0 < q.l) : val (minus p q) = val p - val q := by
  unfold minus
  rw [val_frac _ (mulpos hp hq)]
  unfold val
  have n1 := natne hp
  have n2 := natne hq
  push_cast
  grind
theorem val_times {p q : Frac} (hp : 0 < p.l) (hq : 0 < q.l) : val (times p q) = val p * val q := by
  unfold times
  rw [val_frac _ (mulpos hp hq)]
  unfold val
  have n1 := natne hp
  have n2 := natne hq
  push_cast
  grind
theorem val_by {p q : Frac} (hp : 0 < p.l) (hq : 0 < q.l) (hu : q.u ≠ 0) : val (by_ p q) = val p / val q ∧ Nf (by_ p q) := by
  have hpos : 0 < p.l * q.u.natAbs := Nat.mul_pos hp (Int.natAbs_pos.mpr hu)
  unfold by_
  refine ⟨?_, frac_nf _ hpos⟩
  rw [val_frac _ hpos]
  unfold val
  have n1 := natne hp
  have n2 := natne hq
  have hu' : (q.u : Rat) ≠ 0 := by
    intro h
    apply hu
    exact_mod_cast h
  by_cases hs : q.u < 0
  · rw [if_pos hs]
    have e : (q.u.natAbs : Int) = - q.u := by omega
    have e2 : ((q.u.natAbs : Nat) : Rat) = - (q.u : Rat) := by
      have := congrArg (fun z : Int => (z : Rat)) e
      push_cast at this
      exact_mod_cast this
    push_cast
    rw [e2]
    grind
  · rw [if_neg hs]
    have e : (q.u.natAbs : Int) = q.u := by omega
    have e2 : ((q.u.natAbs : Nat) : Rat) = (q.u : Rat) := by
      have := congrArg (fun z : Int => (z : Rat)) e
      push_cast at this
      exact_mod_cast this
    push_cast
    rw [e2]
    grind
theorem val_eq0 {q : Frac} (h : 0 < q.l) : val q = 0 ↔ q.u = 0 := by
  unfold val
  have n1 := natne h
  constructor
  · intro e
    have : (q.u : Rat) = 0 := by grind
    exact_mod_cast this
  · intro e
    rw [e]
    push_cast
    grind
theorem nf_zero {q : Frac} (h : Nf q) (e : q.u = 0) : q = zero := nf_eq h zero_nf (by rw [(val_eq0 h.1).mpr e, val_zero])
end LS

namespace LS
open Uw62

def ent (r : List Frac) (j : Nat) : Rat := val (r.getD j zero)
def dot (k : Nat) (r : List Frac) (x : Nat → Rat) : Rat := S k (fun j => ent r j * x j)
def WF (n : Nat) (r : List Frac) : Prop := r.length = n ∧ ∀ y ∈ r, Nf y

theorem WF.at {n : Nat} {r : List Frac} (w : WF n r) (j : Nat) : Nf (r.getD j zero) := by
  by_cases h : j < r.length
  · rw [List.getD_eq_getElem?_getD, List.getElem?_eq_getElem h]
    exact w.2 _ (List.getElem_mem h)
  · rw [List.getD_eq_getElem?_getD, List.getElem?_eq_none (by omega)]
    exact zero_nf
theorem WF.at1 {n : Nat} {r : List Frac} (w : WF n r) (j : Nat) : Nf (r.getD j one) := by
  by_cases h : j < r.length
  · rw [List.getD_eq_getElem?_getD, List.getElem?_eq_getElem h]
    exact w.2 _ (List.getElem_mem h)
  · rw [List.getD_eq_getElem?_getD, List.getElem?_eq_none (by omega)]
    exact one_nf
theorem getD_in {α : Type} {r : List α} {j : Nat} (h : j < r.length) (d e : α) : r.getD j d = r.getD j e := by
  rw [List.getD_eq_getElem?_getD, List.getElem?_eq_getElem h, List.getD_eq_getElem?_getD, List.getElem?_eq_getElem h]
  rfl

/-- the pivot's own row; a row without the unknown -/
def pivRow (i : Nat) (r : List Frac) : List Frac := r.map fun y => by_ y (r.getD i one)
def outRow (i : Nat) (p q : List Frac) : List Frac := List.zipWith (fun a b => minus a (times (q.getD i zero) b)) q p

theorem solveFrom_zero (k : Nat) (done rows : List (List Frac)) : solveFrom k 0 done rows = some done := rfl
theorem solveFrom_succ (k c : Nat) (done rows : List (List Frac)) : solveFrom k (c + 1) done rows =
    match rows.findIdx? fun r => (r.getD (k - (c + 1)) zero).u != 0 with
    | none => none
    | some x => solveFrom k c (done.map (outRow (k - (c + 1)) (pivRow (k - (c + 1)) (rows.getD x []))) ++ [pivRow (k - (c + 1)) (rows.getD x [])]) ((rows.eraseIdx x).map (outRow (k - (c + 1)) (pivRow (k - (c + 1)) (rows.getD x [])))) := rfl

theorem piv_wf {n i : Nat} {r : List Frac} (w : WF n r) (hi : i < n) (hne : (r.getD i zero).u ≠ 0) : WF n (pivRow i r) := by
  unfold pivRow
  refine ⟨by simp [w.1], fun y hy => ?_⟩
  obtain ⟨z, hz, rfl⟩ := List.mem_map.mp hy
  exact (val_by (w.2 z hz).1 (w.at1 i).1 (by rw [getD_in (by rw [w.1]; exact hi) one zero]; exact hne)).2
theorem piv_ent {n i : Nat} {r : List Frac} (w : WF n r) (hi : i < n) (hne : (r.getD i zero).u ≠ 0) (j : Nat) (hj : j < n) : ent (pivRow i r) j = ent r j / ent r i := by
  unfold ent pivRow
  have hjl : j < r.length := by rw [w.1]; exact hj
  rw [List.getD_eq_getElem?_getD, List.getElem?_map, List.getElem?_eq_getElem hjl, List.getD_eq_getElem?_getD (l := r) (i := j), List.getElem?_eq_getElem hjl]
  show val (by_ r[j] (r.getD i one)) = _
  rw [(val_by (w.2 _ (List.getElem_mem hjl)).1 (w.at1 i).1 (by rw [getD_in (by rw [w.1]; exact hi) one zero]; exact hne)).1, getD_in (by rw [w.1]; exact hi) one zero]
  rfl
theorem out_wf {n i : Nat} {p q : List Frac} (wp : WF n p) (wq : WF n q) : WF n (outRow i p q) := by
  unfold outRow
  refine ⟨by simp [wp.1, wq.1], fun y hy => ?_⟩
  obtain ⟨j, hj, rfl⟩ := List.mem_iff_getElem.mp hy
  rw [List.getElem_zipWith]
  have hj' := hj
  rw [List.length_zipWith] at hj'
  have h1 : Nf (q[j]'(by omega)) := wq.2 _ (List.getElem_mem _)
  have h2 : Nf (p[j]'(by omega)) := wp.2 _ (List.getElem_mem _)
  exact minus_nf h1.1 (times_nf (wq.at i).1 h2.1).1
theorem out_ent {n i : Nat} {p q : List Frac} (wp : WF n p) (wq : WF n q) (j : Nat) (hj : j < n) : ent (outRow i p q) j = ent q j - ent q i * ent p j := by
  unfold ent outRow
  have h1 : j < q.length := by rw [wq.1]; exact hj
  have h2 : j < p.length := by rw [wp.1]; exact hj
  have n1 : Nf q[j] := wq.2 _ (List.getElem_mem _)
  have n2 : Nf p[j] := wp.2 _ (List.getElem_mem _)
  rw [List.getD_eq_getElem?_getD, List.getElem?_zipWith, List.getElem?_eq_getElem h1, List.getElem?_eq_getElem h2, List.getD_eq_getElem?_getD (l := q) (i := j), List.getElem?_eq_getElem h1, List.getD_eq_getElem?_getD (l := p) (i := j), List.getElem?_eq_getElem h2]
  show val (minus q[j] (times (q.getD i zero) p[j])) = val q[j] - val (q.getD i zero) * val p[j]
  rw [val_minus n1.1 (times_nf (wq.at i).1 n2.1).1, val_times (wq.at i).1 n2.1]

theorem dot_piv {k n i : Nat} {r : List Frac} (w : WF n r) (hk : k ≤ n) (hi : i < n) (hne : (r.getD i zero).u ≠ 0) (x : Nat → Rat) : dot k r x = ent r i * dot k (pivRow i r) x := by
  unfold dot
  rw [← S_mul]
  refine S_congr fun j hj => ?_
  rw [piv_ent w hi hne j (by omega)]
  have : ent r i ≠ 0 := fun e => hne ((val_eq0 (w.at i).1).mp e)
  grind
theorem dot_out {k n i : Nat} {p q : List Frac} (wp : WF n p) (wq : WF n q) (hk : k ≤ n) (x : Nat → Rat) : dot k (outRow i p q) x = dot k q x - ent q i * dot k p x := by
  unfold dot
  rw [← S_mul, ← S_sub]
  refine S_congr fun j hj => ?_
  rw [out_ent wp wq j (by omega)]
  grind

theorem findIdx_facts {rows : List (List Frac)} {i x : Nat} (h : (rows.findIdx? fun r => (r.getD i zero).u != 0) = some x) : ∃ hx : x < rows.length, (rows[x].getD i zero).u ≠ 0 ∧ ∀ j (hj : j < rows.length), j < x → (rows[j].getD i zero).u = 0 := by
  rw [List.findIdx?_eq_some_iff_getElem] at h
  obtain ⟨h1, h2, h3⟩ := h
  refine ⟨h1, by simpa using h2, fun j hj hjx => ?_⟩
  have := h3 j hjx
  simpa using this

/-- what is kept ahead of a pivot's turn -/
structure Stage (k : Nat) (done rows : List (List Frac)) : Prop where
  len : done.length + rows.length = k
  wd : ∀ r ∈ done, WF (k + 1) r
  wr : ∀ r ∈ rows, WF (k + 1) r
  dd : ∀ (j m : Nat) (hj : j < done.length), m < done.length → ent done[j] m = if j = m then 1 else 0
  rr : ∀ r ∈ rows, ∀ m, m < done.length → ent r m = 0

theorem mem_erase_or {α : Type} {l : List α} {x : Nat} (hx : x < l.length) {r : α} (h : r ∈ l) : r = l[x] ∨ r ∈ l.eraseIdx x := by
  obtain ⟨j, hj, e⟩ := List.mem_iff_getElem.mp h
  by_cases hjx : j = x
  · subst hjx
    exact .inl e.symm
  · right
    rw [List.mem_eraseIdx_iff_getElem]
    exact ⟨j, hj, hjx, e⟩

theorem Stage.next {k x : Nat} {done rows : List (List Frac)} (s : Stage k done rows) (h : (rows.findIdx? fun r => (r.getD done.length zero).u != 0) = some x) :
    Stage k (done.map (outRow done.length (pivRow done.length (rows.getD x []))) ++ [pivRow done.length (rows.getD x [])]) ((rows.eraseIdx x).map (outRow done.length (pivRow done.length (rows.getD x [])))) := by
  obtain ⟨hx, hne, _⟩ := findIdx_facts h
  have e : rows.getD x [] = rows[x] := by rw [List.getD_eq_getElem?_getD, List.getElem?_eq_getElem hx]; rfl
  rw [e]
  have hl := s.len
  have wr := s.wr _ (List.getElem_mem hx)
  have hi : done.length < k + 1 := by omega
  have wp := piv_wf wr hi hne
  have pm : ∀ m, m < done.length → ent (pivRow done.length rows[x]) m = 0 := fun m hm => by
    rw [piv_ent wr hi hne m (by omega), s.rr _ (List.getElem_mem hx) m hm]
    grind
  have pi : ent (pivRow done.length rows[x]) done.length = 1 := by
    rw [piv_ent wr hi hne _ hi]
    have : ent rows[x] done.length ≠ 0 := fun e => hne ((val_eq0 (wr.at _).1).mp e)
    grind
  refine ⟨?_, ?_, ?_, ?_, ?_⟩
  · simp only [List.length_append, List.length_map, List.length_singleton, List.length_eraseIdx, hx, if_true]
    omega
  · intro r hr
    rcases List.mem_append.mp hr with hr | hr
    · obtain ⟨q, hq, rfl⟩ := List.mem_map.mp hr
      exact out_wf wp (s.wd q hq)
    · simp at hr
      subst hr
      exact wp
  · intro r hr
    obtain ⟨q, hq, rfl⟩ := List.mem_map.mp hr
    exact out_wf wp (s.wr q (List.mem_of_mem_eraseIdx hq))
  · intro j m hj hm
    simp only [List.length_append, List.length_map, List.length_singleton] at hj hm
    by_cases hj2 : j < done.length
    · rw [List.getElem_append_left (by simpa using hj2), List.getElem_map, out_ent wp (s.wd _ (List.getElem_mem hj2)) m (by omega)]
      by_cases hm2 : m < done.length
      · rw [s.dd j m hj2 hm2, pm m hm2]
        grind
      · have : m = done.length := by omega
        subst this
        rw [pi, if_neg (by omega)]
        grind
    · have : j = done.length := by omega
      subst this
      rw [List.getElem_append_right (by simp)]
      simp only [List.length_map, Nat.sub_self, List.getElem_singleton]
      by_cases hm2 : m < done.length
      · rw [pm m hm2, if_neg (by omega)]
      · have : m = done.length := by omega
        subst this
        rw [pi, if_pos rfl]
  · intro r hr m hm
    obtain ⟨q, hq, rfl⟩ := List.mem_map.mp hr
    have hq2 := List.mem_of_mem_eraseIdx hq
    simp only [List.length_append, List.length_map, List.length_singleton] at hm
    rw [out_ent wp (s.wr q hq2) m (by omega)]
    by_cases hm2 : m < done.length
    · rw [s.rr q hq2 m hm2, pm m hm2]
      grind
    · have : m = done.length := by omega
      subst this
      rw [pi]
      grind

/-- where no pivot is found, something but nothing solves the rows without their last numbers -/
theorem stuck {k : Nat} : ∀ (c : Nat) (done rows : List (List Frac)), Stage k done rows → c = rows.length → solveFrom k c done rows = none →
    ∃ x : Nat → Rat, (∃ j, j < k ∧ x j ≠ 0) ∧ (∀ r ∈ done, dot k r x = 0) ∧ ∀ r ∈ rows, dot k r x = 0
  | 0, done, rows, s, hc, h => by rw [solveFrom_zero] at h; cases h
  | c + 1, done, rows, s, hc, h => by
    have hl := s.len
    have hi : k - (c + 1) = done.length := by omega
    rw [solveFrom_succ, hi] at h
    cases e : rows.findIdx? fun r => (r.getD done.length zero).u != 0 with
    | none =>
      rw [List.findIdx?_eq_none_iff] at e
      have hz : ∀ r ∈ rows, ent r done.length = 0 := fun r hr => by
        have := e r hr
        exact (val_eq0 ((s.wr r hr).at _).1).mpr (by simpa using this)
      let x : Nat → Rat := fun m => if m < done.length then - ent (done.getD m []) done.length else if m = done.length then 1 else 0
      have hx : ∀ m, m < done.length → x m = - ent (done.getD m []) done.length := fun m hm => if_pos hm
      have hx1 : x done.length = 1 := by show (if done.length < done.length then _ else _) = _; rw [if_neg (by omega), if_pos rfl]
      have hx0 : ∀ m, done.length + 1 ≤ m → x m = 0 := fun m hm => by show (if m < done.length then _ else _) = _; rw [if_neg (by omega), if_neg (by omega)]
      have cut : ∀ r, dot k r x = S done.length (fun j => ent r j * x j) + ent r done.length := fun r => by
        unfold dot
        rw [S_cut (i := done.length + 1) (by omega) (fun j h1 h2 => by rw [hx0 j h1]; grind)]
        show S done.length _ + ent r done.length * x done.length = _
        rw [hx1]
        grind
      refine ⟨x, ⟨done.length, by omega, by rw [hx1]; grind⟩, fun r hr => ?_, fun r hr => ?_⟩
      · obtain ⟨j, hj, rfl⟩ := List.mem_iff_getElem.mp hr
        rw [cut]
        have : S done.length (fun m => ent done[j] m * x m) = S done.length (fun m => if m = j then x j else 0) := S_congr fun m hm => by
          rw [s.dd j m hj hm]
          by_cases hmj : j = m
          · rw [if_pos hmj, if_pos hmj.symm, hmj]; grind
          · rw [if_neg hmj, if_neg (Ne.symm hmj)]; grind
        rw [this, S_pick, if_pos hj, hx j hj, List.getD_eq_getElem?_getD, List.getElem?_eq_getElem hj]
        show - ent done[j] done.length + ent done[j] done.length = 0
        grind
      · rw [cut, hz r hr]
        have : S done.length (fun m => ent r m * x m) = S done.length (fun _ => 0) := S_congr fun m hm => by
          rw [s.rr r hr m hm]; grind
        rw [this, S_zero]
        grind
    | some y =>
      rw [e] at h
      dsimp only at h
      have s' := s.next e
      obtain ⟨hy, hne, _⟩ := findIdx_facts e
      have ey : rows.getD y [] = rows[y] := by rw [List.getD_eq_getElem?_getD, List.getElem?_eq_getElem hy]; rfl
      rw [ey] at h s'
      obtain ⟨x, hx, hd, hr⟩ := stuck c _ _ s' (by simp only [List.length_map, List.length_eraseIdx, hy, if_true]; omega) h
      have wr := s.wr _ (List.getElem_mem hy)
      have hi2 : done.length < k + 1 := by omega
      have wp := piv_wf wr hi2 hne
      have hp : dot k (pivRow done.length rows[y]) x = 0 := hd _ (List.mem_append_right _ (by simp))
      refine ⟨x, hx, fun r hr' => ?_, fun r hr' => ?_⟩
      · have := hd (outRow done.length (pivRow done.length rows[y]) r) (List.mem_append_left _ (List.mem_map.mpr ⟨r, hr', rfl⟩))
        rw [dot_out wp (s.wd r hr') (by omega), hp] at this
        grind
      · rcases mem_erase_or hy hr' with e2 | e2
        · rw [e2, dot_piv wr (by omega) hi2 hne, hp]
          grind
        · have := hr _ (List.mem_map.mpr ⟨r, e2, rfl⟩)
          rw [dot_out wp (s.wr r hr') (by omega), hp] at this
          grind

theorem solve_some {rows : List (List Frac)} (w : ∀ r ∈ rows, WF (rows.length + 1) r) (ns : ∀ x : Nat → Rat, (∀ r ∈ rows, dot rows.length r x = 0) → ∀ j, j < rows.length → x j = 0) : ∃ res, solveFrom rows.length rows.length [] rows = some res := by
  cases e : solveFrom rows.length rows.length [] rows with
  | some res => exact ⟨res, rfl⟩
  | none =>
    obtain ⟨x, ⟨j, hj, hne⟩, _, hr⟩ := stuck rows.length [] rows ⟨by simp, by simp, w, by simp, by simp⟩ rfl e
    exact absurd (ns x hr j hj) hne
end LS

namespace LS
open Uw62
variable {b : Board}

theorem abs_nn (x : Rat) : 0 ≤ x.abs := Rat.abs_nonneg
theorem abs_zero {x : Rat} (h : x.abs = 0) : x = 0 := by unfold Rat.abs at h; grind
theorem abs_mul_nn {c x : Rat} (h : 0 ≤ c) : (c * x).abs = c * x.abs := by
  unfold Rat.abs
  by_cases h0 : 0 ≤ x
  · have : 0 ≤ c * x := Rat.mul_nonneg h h0
    rw [if_pos this, if_pos h0]
  · rw [if_neg h0]
    by_cases h1 : 0 ≤ c * x
    · rw [if_pos h1]
      have h2 : 0 ≤ c * (-x) := Rat.mul_nonneg h (by grind)
      grind
    · rw [if_neg h1]
      grind
theorem max_at (f : Nat → Rat) : ∀ {k : Nat}, 0 < k → ∃ j, j < k ∧ ∀ m, m < k → f m ≤ f j
  | 0, h => absurd h (Nat.lt_irrefl _)
  | 1, _ => ⟨0, by omega, fun m hm => by have : m = 0 := by omega
                                         subst this; exact Rat.le_refl⟩
  | k + 2, _ => by
    obtain ⟨j, hj, h⟩ := max_at f (k := k + 1) (by omega)
    by_cases hc : f j ≤ f (k + 1)
    · refine ⟨k + 1, by omega, fun m hm => ?_⟩
      by_cases e : m = k + 1
      · subst e; exact Rat.le_refl
      · have := h m (by omega)
        grind
    · refine ⟨j, by omega, fun m hm => ?_⟩
      by_cases e : m = k + 1
      · subst e; grind
      · exact h m (by omega)

/-! ### faces -/
def FS : List Nat → (Nat → Rat) → Rat
  | [], _ => 0
  | f :: r, g => g f + FS r g
theorem FS_le {g h : Nat → Rat} : ∀ {fs : List Nat}, (∀ f ∈ fs, g f ≤ h f) → FS fs g ≤ FS fs h
  | [], _ => by simp [FS]
  | f :: r, k => by
    show g f + FS r g ≤ h f + FS r h
    have := FS_le (fs := r) (fun f hf => k f (List.mem_cons_of_mem _ hf))
    have := k f List.mem_cons_self
    grind
theorem FS_abs (g : Nat → Rat) : ∀ fs, (FS fs g).abs ≤ FS fs (fun f => (g f).abs)
  | [] => by simp [FS]
  | f :: r => by
    show (g f + FS r g).abs ≤ (g f).abs + FS r (fun f => (g f).abs)
    have := FS_abs g r
    have t : ∀ x y : Rat, (x + y).abs ≤ x.abs + y.abs := by
      intro x y
      unfold Rat.abs
      grind
    have := t (g f) (FS r g)
    grind
theorem FS_const (c : Rat) : ∀ fs : List Nat, FS fs (fun _ => c) = (fs.length : Rat) * c
  | [] => by simp [FS]
  | f :: r => by
    show c + FS r (fun _ => c) = _
    rw [FS_const c r, List.length_cons]
    push_cast
    grind
theorem FS_null {g : Nat → Rat} {M : Rat} : ∀ {fs : List Nat}, (∀ f ∈ fs, g f ≤ M) → (fs.length : Rat) * M ≤ FS fs g → ∀ f ∈ fs, g f = M
  | [], _, _, f, hf => by cases hf
  | f :: r, h, e, f', hf => by
    have h1 : FS r g ≤ (r.length : Rat) * M := by
      have := FS_le (g := g) (h := fun _ => M) (fs := r) fun f hf => h f (List.mem_cons_of_mem _ hf)
      rw [FS_const] at this
      exact this
    have e' : ((f :: r).length : Rat) * M ≤ g f + FS r g := e
    rw [List.length_cons] at e'
    push_cast at e'
    have h2 := h f List.mem_cons_self
    rcases List.mem_cons.mp hf with hf | hf
    · subst hf
      grind
    · exact FS_null (fun f hf => h f (List.mem_cons_of_mem _ hf)) (by grind) f' hf

def cntL (b : Board) (fs : List Nat) (q s : Nat) : Nat := (fs.filter fun f => lands b q f == s).length
theorem cntL_nil (q s : Nat) : cntL b [] q s = 0 := rfl
theorem cntL_cons (f : Nat) (r : List Nat) (q s : Nat) : cntL b (f :: r) q s = (if lands b q f = s then 1 else 0) + cntL b r q s := by
  unfold cntL
  by_cases h : lands b q f = s
  · rw [List.filter_cons_of_pos (by simpa using h), if_pos h, List.length_cons]
    omega
  · rw [List.filter_cons_of_neg (by simpa using h), if_neg h]
    omega

/-- x, by place -/
def Xat (l : List Nat) (x : Nat → Rat) (s : Nat) : Rat := S l.length (fun m => if l.getD m 0 = s then x m else 0)

theorem Xat_in {l : List Nat} (hn : l.Nodup) (x : Nat → Rat) {j : Nat} (hj : j < l.length) : Xat l x (l.getD j 0) = x j := by
  unfold Xat
  have : S l.length (fun m => if l.getD m 0 = l.getD j 0 then x m else 0) = S l.length (fun m => if m = j then x j else 0) := S_congr fun m hm => by
    have e : (l.getD m 0 = l.getD j 0) ↔ m = j := by
      rw [List.getD_eq_getElem?_getD, List.getElem?_eq_getElem hm, List.getD_eq_getElem?_getD, List.getElem?_eq_getElem hj]
      exact List.getElem_inj hn
    by_cases h : m = j
    · rw [if_pos (e.mpr h), if_pos h, h]
    · rw [if_neg (fun z => h (e.mp z)), if_neg h]
  rw [this, S_pick, if_pos hj]
theorem Xat_out {l : List Nat} (x : Nat → Rat) {s : Nat} (h : s ∉ l) : Xat l x s = 0 := by
  unfold Xat
  have : S l.length (fun m => if l.getD m 0 = s then x m else 0) = S l.length (fun _ => 0) := S_congr fun m hm => by
    rw [if_neg]
    intro e
    rw [List.getD_eq_getElem?_getD, List.getElem?_eq_getElem hm] at e
    exact h (e ▸ List.getElem_mem hm)
  rw [this, S_zero]
theorem at_of {l : List Nat} {s : Nat} (h : s ∈ l) : ∃ j, j < l.length ∧ l.getD j 0 = s := by
  obtain ⟨j, hj, e⟩ := List.mem_iff_getElem.mp h
  exact ⟨j, hj, by rw [List.getD_eq_getElem?_getD, List.getElem?_eq_getElem hj]; exact e⟩

theorem cnt_sum (l : List Nat) (x : Nat → Rat) (q : Nat) : ∀ fs : List Nat, S l.length (fun m => (cntL b fs q (l.getD m 0) : Rat) * x m) = FS fs (fun f => Xat l x (lands b q f))
  | [] => by
    show _ = (0 : Rat)
    rw [← S_zero l.length]
    refine S_congr fun m _ => ?_
    rw [cntL_nil]
    push_cast
    grind
  | f :: r => by
    show _ = Xat l x (lands b q f) + FS r (fun f => Xat l x (lands b q f))
    rw [← cnt_sum l x q r]
    unfold Xat
    rw [← S_add]
    refine S_congr fun m _ => ?_
    rw [cntL_cons]
    by_cases h : lands b q f = l.getD m 0
    · rw [if_pos h, if_pos h.symm]
      push_cast
      grind
    · rw [if_neg h, if_neg (fun z => h z.symm)]
      push_cast
      grind

/-! ### the places of a matrix -/
structure Pl (b : Board) (l : List Nat) : Prop where
  nd : l.Nodup
  out : b.n ∉ l
  cl : ∀ q ∈ l, ∀ f ∈ b.faces, lands b q f ∈ l ∨ lands b q f = b.n
  ends : ∀ q ∈ l, ∃ t, Path b t q b.n

theorem inner_pl (g : Good b) {p : Nat} (hp : p ≤ b.n) (hs : sure b p = true) : Pl b (inner b p) := by
  have mem : ∀ q, q ∈ inner b p ↔ q ∈ comes b p ∧ q ≠ b.n := fun q => by unfold inner; simp
  refine ⟨?_, ?_, fun q hq f hf => ?_, fun q hq => ?_⟩
  · unfold inner
    exact ((comes_rising p).imp (fun h => Nat.ne_of_lt h)).filter _
  · rw [mem]; simp
  · have := comes_closed g hp q ((mem q).mp hq).1 f hf
    by_cases e : lands b q f = b.n
    · exact .inr e
    · exact .inl ((mem _).mpr ⟨this, e⟩)
  · have h1 := ((mem q).mp hq).1
    unfold sure at hs
    rw [List.all_eq_true] at hs
    have := hs q h1
    rw [List.contains_iff_mem] at this
    exact (comes_iff g (comes_le g hp h1)).mp this

theorem kernel_mean (g : Good b) {l : List Nat} (P : Pl b l) (x : Nat → Rat)
    (h : ∀ j, j < l.length → (b.faces.length : Rat) * x j = S l.length (fun m => (cntL b b.faces (l.getD j 0) (l.getD m 0) : Rat) * x m)) : ∀ j, j < l.length → x j = 0 := by
  intro j0 hj0
  obtain ⟨j, hj, hmax⟩ := max_at (fun m => (x m).abs) (k := l.length) (by omega)
  have hM : ∀ s, (Xat l x s).abs ≤ (x j).abs := fun s => by
    by_cases hs : s ∈ l
    · obtain ⟨m, hm, e⟩ := at_of hs
      rw [← e, Xat_in P.nd x hm]
      exact hmax m hm
    · rw [Xat_out x hs]
      have := abs_nn (x j)
      unfold Rat.abs at *
      grind
  by_cases hz : (x j).abs = 0
  · have := hmax j0 hj0
    have h2 := abs_nn (x j0)
    exact abs_zero (by grind)
  · exfalso
    -- all that is come to has the greatest value
    have all : ∀ t r, Path b t (l.getD j 0) r → r ∈ l ∧ (Xat l x r).abs = (x j).abs := by
      intro t r pa
      have hin : l.getD j 0 ∈ l := by rw [List.getD_eq_getElem?_getD, List.getElem?_eq_getElem hj]; exact List.getElem_mem hj
      generalize hq : l.getD j 0 = q at pa hin
      induction pa with
      | nil => exact ⟨hin, by rw [← hq, Xat_in P.nd x hj]⟩
      | snoc pa hf ih =>
        rename_i t p r f
        obtain ⟨hr, hX⟩ := ih hq hin
        obtain ⟨m, hm, em⟩ := at_of hr
        have e := h m hm
        rw [em, cnt_sum] at e
        have hxm : (x m).abs = (x j).abs := by rw [← hX, ← em, Xat_in P.nd x hm]
        have e2 : (b.faces.length : Rat) * (x j).abs ≤ FS b.faces (fun f => (Xat l x (lands b r f)).abs) := by
          rw [← hxm, ← abs_mul_nn (by exact_mod_cast Nat.zero_le _), e]
          exact FS_abs _ _
        have e3 := FS_null (fun f _ => hM (lands b r f)) e2 _ hf
        refine ⟨?_, e3⟩
        by_cases hl : lands b r f ∈ l
        · exact hl
        · rw [Xat_out x hl] at e3
          exfalso
          apply hz
          rw [← e3]
          rfl
    have hin : l.getD j 0 ∈ l := by rw [List.getD_eq_getElem?_getD, List.getElem?_eq_getElem hj]; exact List.getElem_mem hj
    obtain ⟨t, pa⟩ := P.ends _ hin
    exact P.out (all t _ pa).1

theorem cnt_total {l : List Nat} (P : Pl b l) {q : Nat} (hq : q ∈ l) : S l.length (fun j => (cntL b b.faces q (l.getD j 0) : Rat)) + (cntL b b.faces q b.n : Rat) = (b.faces.length : Rat) := by
  have key : ∀ fs : List Nat, (∀ f ∈ fs, lands b q f ∈ l ∨ lands b q f = b.n) → FS fs (fun f => Xat l (fun _ => 1) (lands b q f)) + (cntL b fs q b.n : Rat) = (fs.length : Rat) := by
    intro fs
    induction fs with
    | nil => intro _; rw [cntL_nil]; simp [FS]; grind
    | cons f r ih =>
      intro hc
      have := ih fun f hf => hc f (List.mem_cons_of_mem _ hf)
      rw [cntL_cons, List.length_cons]
      show Xat l (fun _ => 1) (lands b q f) + FS r _ + _ = _
      rcases hc f List.mem_cons_self with h | h
      · obtain ⟨m, hm, e⟩ := at_of h
        have hne : ¬ lands b q f = b.n := fun z => P.out (z ▸ h)
        rw [if_neg hne]
        rw [← e, Xat_in P.nd _ hm]
        push_cast
        grind
      · rw [if_pos h, h, Xat_out _ P.out]
        push_cast
        grind
  rw [← key b.faces (P.cl q hq), ← cnt_sum]
  congr 1
  refine S_congr fun j _ => ?_
  grind

theorem kernel_visits (g : Good b) {l : List Nat} (P : Pl b l) (x : Nat → Rat)
    (h : ∀ j, j < l.length → (b.faces.length : Rat) * x j = S l.length (fun m => (cntL b b.faces (l.getD m 0) (l.getD j 0) : Rat) * x m)) : ∀ j, j < l.length → x j = 0 := by
  have hF : (0 : Rat) < (b.faces.length : Rat) := natpos (by have := g.f1; omega)
  have cn : ∀ q s, (0 : Rat) ≤ (cntL b b.faces q s : Rat) := fun q s => by exact_mod_cast Nat.zero_le _
  -- what is too much
  have h1 : ∀ j, j < l.length → 0 ≤ S l.length (fun m => (cntL b b.faces (l.getD m 0) (l.getD j 0) : Rat) * (x m).abs) - (b.faces.length : Rat) * (x j).abs := fun j hj => by
    have e : ((b.faces.length : Rat) * x j).abs = (b.faces.length : Rat) * (x j).abs := abs_mul_nn (by grind)
    have a := S_abs (fun m => (cntL b b.faces (l.getD m 0) (l.getD j 0) : Rat) * x m) l.length
    rw [← h j hj, e] at a
    have e2 : S l.length (fun m => ((cntL b b.faces (l.getD m 0) (l.getD j 0) : Rat) * x m).abs) = S l.length (fun m => (cntL b b.faces (l.getD m 0) (l.getD j 0) : Rat) * (x m).abs) := S_congr fun m _ => abs_mul_nn (cn _ _)
    rw [e2] at a
    grind
  have hin : ∀ m, m < l.length → l.getD m 0 ∈ l := fun m hm => by rw [List.getD_eq_getElem?_getD, List.getElem?_eq_getElem hm]; exact List.getElem_mem hm
  have h2 : S l.length (fun j => S l.length (fun m => (cntL b b.faces (l.getD m 0) (l.getD j 0) : Rat) * (x m).abs) - (b.faces.length : Rat) * (x j).abs) = - S l.length (fun m => (cntL b b.faces (l.getD m 0) b.n : Rat) * (x m).abs) := by
    rw [S_sub, S_swap (fun j m => (cntL b b.faces (l.getD m 0) (l.getD j 0) : Rat) * (x m).abs)]
    rw [← S_sub]
    have e : S l.length (fun j => S l.length (fun i => (cntL b b.faces (l.getD j 0) (l.getD i 0) : Rat) * (x j).abs) - (b.faces.length : Rat) * (x j).abs) = S l.length (fun m => (-1) * ((cntL b b.faces (l.getD m 0) b.n : Rat) * (x m).abs)) := S_congr fun m hm => by
      have t := cnt_total P (hin m hm)
      have e3 : S l.length (fun i => (cntL b b.faces (l.getD m 0) (l.getD i 0) : Rat) * (x m).abs) = (x m).abs * S l.length (fun i => (cntL b b.faces (l.getD m 0) (l.getD i 0) : Rat)) := by
        rw [← S_mul]
        exact S_congr fun i _ => by grind
      rw [e3]
      grind
    rw [e, S_mul]
    grind
  have p2 : 0 ≤ S l.length (fun m => (cntL b b.faces (l.getD m 0) b.n : Rat) * (x m).abs) := S_nonneg fun m _ => Rat.mul_nonneg (cn _ _) (abs_nn _)
  have p1 := S_nonneg h1
  have z1 := S_null h1 (by grind)
  have z2 := S_null (k := l.length) (f := fun m => (cntL b b.faces (l.getD m 0) b.n : Rat) * (x m).abs) (fun m _ => Rat.mul_nonneg (cn _ _) (abs_nn _)) (by grind)
  have cpos : ∀ fs q f, f ∈ fs → 1 ≤ cntL b fs q (lands b q f) := by
    intro fs q f hf
    unfold cntL
    exact List.length_pos_of_mem (List.mem_filter.mpr ⟨hf, by simp⟩)
  intro j0 hj0
  by_cases hz : (x j0).abs = 0
  · exact abs_zero hz
  · exfalso
    have all : ∀ t r, Path b t (l.getD j0 0) r → ∃ m, m < l.length ∧ l.getD m 0 = r ∧ 0 < (x m).abs := by
      intro t r pa
      generalize hq : l.getD j0 0 = q at pa
      induction pa with
      | nil =>
        refine ⟨j0, hj0, hq, ?_⟩
        have := abs_nn (x j0)
        grind
      | snoc pa hf ih =>
        rename_i t p r f
        obtain ⟨m, hm, em, hpos⟩ := ih hq
        have c1 : (1 : Rat) ≤ (cntL b b.faces (l.getD m 0) (lands b r f) : Rat) := by
          rw [em]
          exact_mod_cast cpos b.faces r f hf
        rcases P.cl _ (hin m hm) f hf with hl | hl
        · rw [em] at hl
          obtain ⟨j, hj, ej⟩ := at_of hl
          refine ⟨j, hj, ej, ?_⟩
          have zj := z1 j hj
          have tm := S_term (f := fun m => (cntL b b.faces (l.getD m 0) (l.getD j 0) : Rat) * (x m).abs) (k := l.length) (fun m _ => Rat.mul_nonneg (cn _ _) (abs_nn _)) hm
          rw [ej] at tm zj
          have t2 : (x m).abs ≤ (cntL b b.faces (l.getD m 0) (lands b r f) : Rat) * (x m).abs := by
            have := Rat.mul_nonneg (a := (cntL b b.faces (l.getD m 0) (lands b r f) : Rat) - 1) (b := (x m).abs) (by grind) (by grind)
            grind
          have t3 : 0 < (b.faces.length : Rat) * (x j).abs := by grind
          have t4 := abs_nn (x j)
          by_cases e0 : (x j).abs = 0
          · rw [e0] at t3
            grind
          · grind
        · exfalso
          rw [em] at hl
          rw [hl] at c1
          have := z2 m hm
          have t2 : (x m).abs ≤ (cntL b b.faces (l.getD m 0) b.n : Rat) * (x m).abs := by
            have := Rat.mul_nonneg (a := (cntL b b.faces (l.getD m 0) b.n : Rat) - 1) (b := (x m).abs) (by grind) (by grind)
            grind
          grind
    obtain ⟨t, pa⟩ := P.ends _ (hin j0 hj0)
    obtain ⟨m, hm, em, _⟩ := all t _ pa
    exact P.out (em ▸ hin m hm)
end LS

namespace LS
open Uw62
variable {b : Board}

/-! ### the equations of means and of visits -/
def stayRow (l : List Nat) (c : Nat → Nat → Frac) (x : Nat) : List Frac := l.map fun y => minus (if x = y then one else zero) (c x y)
def eqRows (l : List Nat) (c : Nat → Nat → Frac) (last : Nat → Frac) : List (List Frac) := l.map fun x => stayRow l c x ++ [last x]

theorem step1_facts (g : Good b) (p q : Nat) : Nf (step1 b p q) ∧ val (step1 b p q) = (cntL b b.faces p q : Rat) / (b.faces.length : Rat) := by
  have hF : 0 < b.faces.length := by have := g.f1; omega
  unfold step1
  refine ⟨frac_nf _ hF, ?_⟩
  rw [val_frac _ hF]
  unfold cntL
  congr 1

theorem dd_nf (x y : Nat) : Nf (if x = y then one else zero) := by split; exact one_nf; exact zero_nf
theorem dd_val (x y : Nat) : val (if x = y then one else zero) = if x = y then 1 else 0 := by split; exact val_one; exact val_zero

theorem eqRow_wf (g : Good b) {l : List Nat} {c : Nat → Nat → Frac} {last : Nat → Frac} (hc : ∀ p q, Nf (c p q)) (hl : ∀ x, Nf (last x)) (x : Nat) : WF (l.length + 1) (stayRow l c x ++ [last x]) := by
  refine ⟨by simp [stayRow], fun y hy => ?_⟩
  rcases List.mem_append.mp hy with h | h
  · obtain ⟨z, _, rfl⟩ := List.mem_map.mp h
    exact minus_nf (dd_nf x z).1 (hc x z).1
  · simp at h
    subst h
    exact hl x
theorem eqRow_ent {l : List Nat} {c : Nat → Nat → Frac} {last : Nat → Frac} (hc : ∀ p q, Nf (c p q)) (x : Nat) {m : Nat} (hm : m < l.length) : ent (stayRow l c x ++ [last x]) m = (if x = l.getD m 0 then 1 else 0) - val (c x (l.getD m 0)) := by
  unfold ent stayRow
  rw [List.getD_eq_getElem?_getD, List.getElem?_append_left (by simpa using hm), List.getElem?_map, List.getD_eq_getElem?_getD (l := l), List.getElem?_eq_getElem hm]
  show val (minus (if x = l[m] then one else zero) (c x l[m])) = (if x = l[m] then 1 else 0) - val (c x l[m])
  rw [val_minus (dd_nf _ _).1 (hc _ _).1, dd_val]
theorem eqRow_last {l : List Nat} {c : Nat → Nat → Frac} {last : Nat → Frac} (x : Nat) : ent (stayRow l c x ++ [last x]) l.length = val (last x) := by
  unfold ent stayRow
  rw [List.getD_eq_getElem?_getD, List.getElem?_append_right (by simp)]
  simp

theorem eqRows_dot {l : List Nat} (hn : l.Nodup) {c : Nat → Nat → Frac} {last : Nat → Frac} (hc : ∀ p q, Nf (c p q)) (x : Nat → Rat) {j : Nat} (hj : j < l.length) :
    dot l.length (stayRow l c (l.getD j 0) ++ [last (l.getD j 0)]) x = x j - S l.length (fun m => val (c (l.getD j 0) (l.getD m 0)) * x m) := by
  unfold dot
  have e : S l.length (fun m => ent (stayRow l c (l.getD j 0) ++ [last (l.getD j 0)]) m * x m) = S l.length (fun m => (if l.getD m 0 = l.getD j 0 then x m else 0) - val (c (l.getD j 0) (l.getD m 0)) * x m) := S_congr fun m hm => by
    rw [eqRow_ent hc _ hm]
    by_cases h : l.getD m 0 = l.getD j 0
    · rw [if_pos h, if_pos h.symm]; grind
    · rw [if_neg h, if_neg (fun z => h z.symm)]; grind
  rw [e, S_sub]
  congr 1
  exact Xat_in hn x hj

theorem mem_eqRows {l : List Nat} {c : Nat → Nat → Frac} {last : Nat → Frac} {j : Nat} (hj : j < l.length) : stayRow l c (l.getD j 0) ++ [last (l.getD j 0)] ∈ eqRows l c last := by
  unfold eqRows
  refine List.mem_map.mpr ⟨l.getD j 0, ?_, rfl⟩
  rw [List.getD_eq_getElem?_getD, List.getElem?_eq_getElem hj]
  exact List.getElem_mem hj

theorem mean_some (g : Good b) {l : List Nat} (P : Pl b l) {last : Nat → Frac} (hl : ∀ x, Nf (last x)) : ∃ res, solveFrom (eqRows l (step1 b) last).length (eqRows l (step1 b) last).length [] (eqRows l (step1 b) last) = some res := by
  have hlen : (eqRows l (step1 b) last).length = l.length := by simp [eqRows]
  have hF : (b.faces.length : Rat) ≠ 0 := natne (by have := g.f1; omega)
  refine solve_some (fun r hr => ?_) fun x hx => ?_
  · obtain ⟨z, _, rfl⟩ := List.mem_map.mp hr
    rw [hlen]
    exact eqRow_wf g (fun p q => (step1_facts g p q).1) hl z
  · rw [hlen] at hx ⊢
    refine kernel_mean g P x fun j hj => ?_
    have := hx _ (mem_eqRows hj)
    rw [eqRows_dot P.nd (fun p q => (step1_facts g p q).1) x hj] at this
    have e : S l.length (fun m => (cntL b b.faces (l.getD j 0) (l.getD m 0) : Rat) * x m) = (b.faces.length : Rat) * S l.length (fun m => val (step1 b (l.getD j 0) (l.getD m 0)) * x m) := by
      rw [← S_mul]
      refine S_congr fun m _ => ?_
      rw [(step1_facts g _ _).2]
      grind
    rw [e]
    grind
theorem visits_some (g : Good b) {l : List Nat} (P : Pl b l) {last : Nat → Frac} (hl : ∀ x, Nf (last x)) : ∃ res, solveFrom (eqRows l (fun x y => step1 b y x) last).length (eqRows l (fun x y => step1 b y x) last).length [] (eqRows l (fun x y => step1 b y x) last) = some res := by
  have hlen : (eqRows l (fun x y => step1 b y x) last).length = l.length := by simp [eqRows]
  have hF : (b.faces.length : Rat) ≠ 0 := natne (by have := g.f1; omega)
  refine solve_some (fun r hr => ?_) fun x hx => ?_
  · obtain ⟨z, _, rfl⟩ := List.mem_map.mp hr
    rw [hlen]
    exact eqRow_wf g (c := fun x y => step1 b y x) (fun p q => (step1_facts g q p).1) hl z
  · rw [hlen] at hx ⊢
    refine kernel_visits g P x fun j hj => ?_
    have := hx _ (mem_eqRows hj)
    rw [eqRows_dot (c := fun x y => step1 b y x) P.nd (fun p q => (step1_facts g q p).1) x hj] at this
    have e : S l.length (fun m => (cntL b b.faces (l.getD m 0) (l.getD j 0) : Rat) * x m) = (b.faces.length : Rat) * S l.length (fun m => val (step1 b (l.getD m 0) (l.getD j 0)) * x m) := by
      rw [← S_mul]
      refine S_congr fun m _ => ?_
      rw [(step1_facts g _ _).2]
      grind
    rw [e]
    grind

/-! ### sizes -/
/-- a row whose numbers are whole ones over one whole one, all below 2 ^ B -/
structure RI (B n : Nat) (r : List Frac) : Prop where
  wf : WF n r
  ex : ∃ (D : Int) (M : Nat → Int), D ≠ 0 ∧ D.natAbs < 2 ^ B ∧ (∀ j, j < n → (M j).natAbs < 2 ^ B) ∧ ∀ j, j < n → ent r j = (M j : Rat) / (D : Rat)

theorem intne {D : Int} (h : D ≠ 0) : (D : Rat) ≠ 0 := by
  intro e
  apply h
  exact_mod_cast e

theorem nf_small {q : Frac} (h : Nf q) {m D : Int} (hD : D ≠ 0) (e : val q = (m : Rat) / (D : Rat)) : q.u.natAbs ≤ m.natAbs ∧ q.l ≤ D.natAbs := by
  have hq := natne h.1
  have hd := intne hD
  unfold val at e
  have c : (q.u : Rat) * (D : Rat) = (m : Rat) * (q.l : Rat) := by grind
  have c2 : q.u * D = m * (q.l : Int) := by exact_mod_cast c
  have c3 : q.u.natAbs * D.natAbs = m.natAbs * q.l := by
    have := congrArg Int.natAbs c2
    simpa [Int.natAbs_mul] using this
  have hdv : q.l ∣ D.natAbs := by
    have : q.l ∣ q.u.natAbs * D.natAbs := by rw [c3]; exact Nat.dvd_mul_left _ _
    exact (Nat.Coprime.symm h.2).dvd_of_dvd_mul_left this
  have hDp : 0 < D.natAbs := Int.natAbs_pos.mpr hD
  refine ⟨?_, Nat.le_of_dvd hDp hdv⟩
  obtain ⟨t, ht⟩ := hdv
  have hlp := h.1
  have htp : 0 < t := by
    rcases Nat.eq_zero_or_pos t with z | z
    · subst z; simp at ht; omega
    · exact z
  have c4 : m.natAbs = q.u.natAbs * t := by
    have : q.l * m.natAbs = q.l * (q.u.natAbs * t) := by rw [Nat.mul_comm, ← c3, ht]; grind
    exact Nat.eq_of_mul_eq_mul_left h.1 this
  rw [c4]
  exact Nat.le_mul_of_pos_right _ htp

/-- the size of one number -/
def Sz (k : Nat) (q : Frac) : Prop := Nf q ∧ q.u.natAbs < 2 ^ k ∧ q.l < 2 ^ k
theorem Sz.mono {j k : Nat} {q : Frac} (h : Sz j q) (hjk : j ≤ k) : Sz k q := by
  have : 2 ^ j ≤ 2 ^ k := Nat.pow_le_pow_right (by decide) hjk
  exact ⟨h.1, by have := h.2.1; omega, by have := h.2.2; omega⟩
theorem RI.sz {B n : Nat} {r : List Frac} (h : RI B n r) : ∀ y ∈ r, Sz B y := by
  obtain ⟨D, M, hD, hDB, hM, he⟩ := h.ex
  intro y hy
  obtain ⟨j, hj, rfl⟩ := List.mem_iff_getElem.mp hy
  have hjn : j < n := by rw [← h.wf.1]; exact hj
  have e := he j hjn
  unfold ent at e
  rw [List.getD_eq_getElem?_getD, List.getElem?_eq_getElem hj] at e
  have hn : Nf r[j] := h.wf.2 _ hy
  have := nf_small hn hD e
  have := hM j hjn
  exact ⟨hn, by omega, by omega⟩
theorem pow_mono {a c : Nat} (h : a ≤ c) : 2 ^ a ≤ 2 ^ c := Nat.pow_le_pow_right (by decide) h
theorem RI.mono {B C n : Nat} {r : List Frac} (h : RI B n r) (hBC : B ≤ C) : RI C n r := by
  obtain ⟨D, M, hD, hDB, hM, he⟩ := h.ex
  have := pow_mono hBC
  exact ⟨h.wf, D, M, hD, by omega, fun j hj => by have := hM j hj; omega, he⟩
theorem piv_ri {B n i : Nat} {r : List Frac} (h : RI B n r) (hi : i < n) (hne : (r.getD i zero).u ≠ 0) : RI B n (pivRow i r) := by
  obtain ⟨D, M, hD, hDB, hM, he⟩ := h.ex
  have w := h.wf
  have hri : ent r i ≠ 0 := fun e => hne ((val_eq0 (w.at i).1).mp e)
  have hD' := intne hD
  have hMi : M i ≠ 0 := fun z => hri (by rw [he i hi, z]; push_cast; grind)
  refine ⟨piv_wf w hi hne, M i, M, hMi, hM i hi, hM, fun j hj => ?_⟩
  rw [piv_ent w hi hne j hj, he j hj, he i hi]
  have := intne hMi
  grind
theorem mul_lt_pow {x y : Int} {a c : Nat} (hx : x.natAbs < 2 ^ a) (hy : y.natAbs < 2 ^ c) : (x * y).natAbs < 2 ^ (a + c) := by
  rw [Int.natAbs_mul, Nat.pow_add]
  exact Nat.mul_lt_mul'' hx hy
theorem out_ri {B n i : Nat} {p q : List Frac} (hp : RI B n p) (hq : RI B n q) (hi : i < n) : RI (2 * B + 1) n (outRow i p q) := by
  obtain ⟨D, M, hD, hDB, hM, he⟩ := hp.ex
  obtain ⟨D2, M2, hD2, hDB2, hM2, he2⟩ := hq.ex
  have n1 := intne hD
  have n2 := intne hD2
  refine ⟨out_wf hp.wf hq.wf, D2 * D, fun j => M2 j * D - M2 i * M j, ?_, ?_, fun j hj => ?_, fun j hj => ?_⟩
  · intro z
    rcases Int.mul_eq_zero.mp z with z | z
    · exact hD2 z
    · exact hD z
  · have := mul_lt_pow hDB2 hDB
    have e : 2 ^ (2 * B + 1) = 2 ^ (B + B) * 2 := by rw [← Nat.pow_succ]; congr 1; omega
    omega
  · have h1 := mul_lt_pow (hM2 j hj) hDB
    have h2 := mul_lt_pow (hM2 i hi) (hM j hj)
    have e : 2 ^ (2 * B + 1) = 2 ^ (B + B) * 2 := by rw [← Nat.pow_succ]; congr 1; omega
    show (M2 j * D - M2 i * M j).natAbs < _
    omega
  · rw [out_ent hp.wf hq.wf j hj, he2 j hj, he2 i hi, he j hj]
    push_cast
    grind

/-- the first rows -/
theorem first_ri (g : Good b) {l : List Nat} {c : Nat → Nat → Frac} {last : Nat → Frac} (hc : ∀ p q, Nf (c p q) ∧ ∃ m : Nat, m ≤ b.faces.length ∧ val (c p q) = (m : Rat) / (b.faces.length : Rat)) (hl : ∀ x, last x = one ∨ last x = zero) (x : Nat) :
    RI 3 (l.length + 1) (stayRow l c x ++ [last x]) := by
  have hF : 0 < b.faces.length := by have := g.f1; omega
  have f6 := g.f6
  have hFn := natne hF
  have hln : ∀ x, Nf (last x) := fun x => by rcases hl x with e | e <;> rw [e]; exact one_nf; exact zero_nf
  let cm : Nat → Nat → Nat := fun p q => (hc p q).2.choose
  have hcm : ∀ p q, cm p q ≤ b.faces.length ∧ val (c p q) = (cm p q : Rat) / (b.faces.length : Rat) := fun p q => (hc p q).2.choose_spec
  refine ⟨eqRow_wf g (fun p q => (hc p q).1) hln x, (b.faces.length : Int), fun j => if j < l.length then (if x = l.getD j 0 then (b.faces.length : Int) else 0) - (cm x (l.getD j 0) : Int) else if last x = one then (b.faces.length : Int) else 0, by omega, by simp; omega, fun j hj => ?_, fun j hj => ?_⟩
  · have := (hcm x (l.getD j 0)).1
    show (if j < l.length then _ else _ : Int).natAbs < 8
    split
    · split <;> omega
    · split <;> omega
  · by_cases hj2 : j < l.length
    · rw [eqRow_ent (fun p q => (hc p q).1) x hj2, (hcm _ _).2]
      show _ = ((if j < l.length then _ else _ : Int) : Rat) / _
      rw [if_pos hj2]
      split
      · push_cast; grind
      · push_cast; grind
    · have : j = l.length := by omega
      subst this
      rw [eqRow_last]
      show _ = ((if l.length < l.length then _ else _ : Int) : Rat) / _
      rw [if_neg (by omega)]
      rcases hl x with e | e
      · rw [e, if_pos rfl, val_one]; push_cast; grind
      · rw [e, if_neg (by decide), val_zero]; push_cast; grind

theorem step1_small (g : Good b) (p q : Nat) : Nf (step1 b p q) ∧ ∃ m : Nat, m ≤ b.faces.length ∧ val (step1 b p q) = (m : Rat) / (b.faces.length : Rat) :=
  ⟨(step1_facts g p q).1, cntL b b.faces p q, by unfold cntL; exact List.length_filter_le _ _, (step1_facts g p q).2⟩

/-! ### the loop of unknowns -/
structure Elim (k : Nat) (res : List (List Frac)) (i : Nat) (cur : List (List Frac)) : Prop where
  ex : ∃ done rows, cur = done ++ rows ∧ done.length = i ∧ Stage k done rows ∧ solveFrom k (k - i) done rows = some res
  ri : ∀ r ∈ cur, RI (2 ^ (i + 2) - 1) (k + 1) r

theorem elim_start {orig res : List (List Frac)} (w : ∀ r ∈ orig, RI 3 (orig.length + 1) r) (h : solveFrom orig.length orig.length [] orig = some res) : Elim orig.length res 0 orig :=
  ⟨⟨[], orig, rfl, rfl, ⟨by simp, by simp, fun r hr => (w r hr).wf, by simp, by simp⟩, h⟩, w⟩
theorem elim_end {k : Nat} {cur res : List (List Frac)} (E : Elim k res k cur) : cur = res := by
  obtain ⟨done, rows, e, hl, s, h⟩ := E.ex
  have hs := s.len
  rw [Nat.sub_self, solveFrom_zero] at h
  have : rows = [] := List.eq_nil_of_length_eq_zero (by omega)
  rw [e, this, List.append_nil]
  exact Option.some.inj h
theorem Elim.len {k i : Nat} {cur res : List (List Frac)} (E : Elim k res i cur) : cur.length = k := by
  obtain ⟨done, rows, e, hl, s, h⟩ := E.ex
  rw [e, List.length_append]
  exact s.len

/-- the program's next rows -/
def othersOf (cur : List (List Frac)) (i a : Nat) (own : List Frac) : List (List Frac) := cur.take i ++ [own] ++ ((List.range cur.length).filter fun j => decide (i ≤ j) && decide (j ≠ a)).map fun j => cur.getD j []
def nextRows (cur : List (List Frac)) (i a : Nat) : List (List Frac) :=
  (List.range (othersOf cur i a (pivRow i (cur.getD a []))).length).map fun j => if j = i then (othersOf cur i a (pivRow i (cur.getD a []))).getD j [] else outRow i (pivRow i (cur.getD a [])) ((othersOf cur i a (pivRow i (cur.getD a []))).getD j [])

theorem range_getD {α : Type} (d : α) : ∀ (l : List α), (List.range l.length).map (fun j => l.getD j d) = l := fun l => by
  refine List.ext_getElem (by simp) fun i h1 h2 => ?_
  simp only [List.getElem_map, List.getElem_range]
  rw [List.getD_eq_getElem?_getD, List.getElem?_eq_getElem h2]
  rfl

theorem erase_range {α : Type} (d : α) (rows : List α) : ∀ x, ((List.range rows.length).filter fun j => decide (j ≠ x)).map (fun j => rows.getD j d) = rows.eraseIdx x := by
  induction rows with
  | nil => intro x; simp
  | cons r t ih =>
    intro x
    rw [List.length_cons, List.range_succ_eq_map]
    cases x with
    | zero =>
      rw [List.filter_cons_of_neg (by simp)]
      rw [List.filter_eq_self.mpr (by intro a ha; obtain ⟨c, _, rfl⟩ := List.mem_map.mp ha; simp)]
      rw [List.map_map, List.eraseIdx_cons_zero]
      exact range_getD d t
    | succ x =>
      rw [List.filter_cons_of_pos (by simp), List.map_cons, List.eraseIdx_cons_succ, ← ih x, List.filter_map, List.map_map]
      congr 1
      rw [show ((fun j => decide (j ≠ x + 1)) ∘ Nat.succ) = (fun j => decide (j ≠ x)) from by funext j; simp]
      rfl

theorem others_eq (done rows : List (List Frac)) (x : Nat) (own : List Frac) : othersOf (done ++ rows) done.length (done.length + x) own = done ++ [own] ++ rows.eraseIdx x := by
  unfold othersOf
  rw [List.take_left]
  congr 1
  rw [List.length_append, List.range_add, List.filter_append, List.map_append]
  rw [List.filter_eq_nil_iff.mpr (by intro j hj; simp at hj; simp; omega)]
  rw [List.map_nil, List.nil_append, List.filter_map, List.map_map, ← erase_range [] rows x]
  rw [show ((fun j => decide (done.length ≤ j) && decide (j ≠ done.length + x)) ∘ fun x => done.length + x) = (fun j => decide (j ≠ x)) from by funext j; simp]
  refine List.map_congr_left fun j hj => ?_
  show (done ++ rows).getD (done.length + j) [] = rows.getD j []
  rw [List.getD_eq_getElem?_getD, List.getElem?_append_right (by omega), List.getD_eq_getElem?_getD]
  congr 2
  omega

theorem next_eq (done rows : List (List Frac)) (x : Nat) (own : List Frac) (f : List Frac → List Frac) : (List.range (done ++ [own] ++ rows).length).map (fun j => if j = done.length then (done ++ [own] ++ rows).getD j [] else f ((done ++ [own] ++ rows).getD j [])) = done.map f ++ [own] ++ rows.map f := by
  refine List.ext_getElem (by simp) fun i h1 h2 => ?_
  simp only [List.getElem_map, List.getElem_range]
  have hi : i < (done ++ [own] ++ rows).length := by simpa using h1
  rw [List.getD_eq_getElem?_getD, List.getElem?_eq_getElem hi]
  show (if i = done.length then (done ++ [own] ++ rows)[i] else f (done ++ [own] ++ rows)[i]) = _
  by_cases e : i = done.length
  · subst e
    rw [if_pos rfl]
    simp
  · rw [if_neg e]
    by_cases hl : i < done.length
    · simp [List.getElem_append, hl]
    · obtain ⟨m, hm⟩ : ∃ m, i = done.length + 1 + m := ⟨i - done.length - 1, by omega⟩
      subst hm
      simp [List.getElem_append, hl]
      simp [show done.length + 1 + m - done.length = m + 1 by omega]

theorem elim_turn {k i : Nat} {res cur : List (List Frac)} (E : Elim k res i cur) (hi : i < k) :
    ∃ a, i ≤ a ∧ a < k ∧ ((cur.getD a []).getD i zero).u ≠ 0 ∧ (∀ j, i ≤ j → j < a → ((cur.getD j []).getD i zero).u = 0) ∧ RI (2 ^ (i + 2) - 1) (k + 1) (pivRow i (cur.getD a [])) ∧ Elim k res (i + 1) (nextRows cur i a) := by
  obtain ⟨done, rows, e, hl, s, h⟩ := E.ex
  have hs := s.len
  obtain ⟨c, hc⟩ : ∃ c, k - i = c + 1 := ⟨k - i - 1, by omega⟩
  rw [hc, solveFrom_succ] at h
  have hci : k - (c + 1) = done.length := by omega
  rw [hci] at h
  cases ef : rows.findIdx? fun r => (r.getD done.length zero).u != 0 with
  | none => rw [ef] at h; cases h
  | some x =>
    rw [ef] at h
    dsimp only at h
    have s' := s.next ef
    obtain ⟨hx, hne, hlow⟩ := findIdx_facts ef
    have ex : rows.getD x [] = rows[x] := by rw [List.getD_eq_getElem?_getD, List.getElem?_eq_getElem hx]; rfl
    have gt : ∀ j, (done ++ rows).getD (done.length + j) [] = rows.getD j [] := fun j => by
      rw [List.getD_eq_getElem?_getD, List.getElem?_append_right (by omega), List.getD_eq_getElem?_getD]
      congr 2
      omega
    have hrx : rows[x] ∈ cur := by rw [e]; exact List.mem_append_right _ (List.getElem_mem hx)
    have pri : RI (2 ^ (i + 2) - 1) (k + 1) (pivRow i rows[x]) := piv_ri (E.ri _ hrx) (by omega) (by rw [← hl]; exact hne)
    refine ⟨i + x, by omega, by omega, ?_, fun j h1 h2 => ?_, ?_, ?_, ?_⟩
    · rw [e, ← hl, gt, ex]; exact hne
    · obtain ⟨y, hy⟩ : ∃ y, j = done.length + y := ⟨j - done.length, by omega⟩
      have hyl : y < rows.length := by omega
      rw [e, hy, gt, ← hl, List.getD_eq_getElem?_getD (l := rows), List.getElem?_eq_getElem hyl]
      exact hlow y hyl (by omega)
    · rw [e, ← hl, gt, ex]
      rw [← hl] at pri
      exact pri
    · refine ⟨done.map (outRow done.length (pivRow done.length (rows.getD x []))) ++ [pivRow done.length (rows.getD x [])], (rows.eraseIdx x).map (outRow done.length (pivRow done.length (rows.getD x []))), ?_, by simp; omega, s', ?_⟩
      · unfold nextRows
        rw [e, ← hl, gt, others_eq, next_eq done (rows.eraseIdx x) x]
      · rw [show k - (i + 1) = c by omega]
        exact h
    · intro r hr
      unfold nextRows at hr
      rw [e, ← hl, gt, others_eq, next_eq done (rows.eraseIdx x) x, ex, hl] at hr
      have hB : 2 * (2 ^ (i + 2) - 1) + 1 = 2 ^ (i + 1 + 2) - 1 := by
        have : 2 ^ (i + 1 + 2) = 2 ^ (i + 2) * 2 := by rw [← Nat.pow_succ]
        have hp : 0 < 2 ^ (i + 2) := Nat.pow_pos (by decide)
        omega
      rw [← hB]
      have big : ∀ q ∈ cur, RI (2 * (2 ^ (i + 2) - 1) + 1) (k + 1) (outRow i (pivRow i rows[x]) q) := fun q hq => out_ri pri (E.ri q hq) (by omega)
      rcases List.mem_append.mp hr with hr | hr
      · rcases List.mem_append.mp hr with hr | hr
        · obtain ⟨q, hq, rfl⟩ := List.mem_map.mp hr
          exact big q (by rw [e]; exact List.mem_append_left _ hq)
        · simp at hr
          subst hr
          exact pri.mono (by omega)
      · obtain ⟨q, hq, rfl⟩ := List.mem_map.mp hr
        exact big q (by rw [e]; exact List.mem_append_right _ (List.mem_of_mem_eraseIdx hq))
end LS

namespace LS
open Uw62
variable {b : Board}

/-! ### sums of naturals -/
def NS : Nat → (Nat → Nat) → Nat
  | 0, _ => 0
  | k + 1, f => NS k f + f k
theorem NS_congr {f g : Nat → Nat} : ∀ {k : Nat}, (∀ j, j < k → f j = g j) → NS k f = NS k g
  | 0, _ => rfl
  | k + 1, h => by
    show NS k f + f k = NS k g + g k
    rw [NS_congr (fun j hj => h j (by omega)), h k (by omega)]
theorem NS_add (f g : Nat → Nat) : ∀ k, NS k (fun j => f j + g j) = NS k f + NS k g
  | 0 => rfl
  | k + 1 => by
    show NS k _ + (f k + g k) = NS k f + f k + (NS k g + g k)
    rw [NS_add f g k]; omega
theorem NS_mul (c : Nat) (f : Nat → Nat) : ∀ k, NS k (fun j => c * f j) = c * NS k f
  | 0 => rfl
  | k + 1 => by
    show NS k _ + c * f k = c * (NS k f + f k)
    rw [NS_mul c f k, Nat.mul_add]
theorem NS_zero : ∀ k, NS k (fun _ => 0) = 0
  | 0 => rfl
  | k + 1 => by
    show NS k _ + 0 = 0
    rw [NS_zero k]
theorem NS_swap (f : Nat → Nat → Nat) (m : Nat) : ∀ k, NS k (fun i => NS m (fun j => f i j)) = NS m (fun j => NS k (fun i => f i j))
  | 0 => by
    show 0 = NS m fun j => 0
    rw [NS_zero]
  | k + 1 => by
    show NS k _ + NS m (fun j => f k j) = NS m (fun j => NS k (fun i => f i j) + f k j)
    rw [NS_add, NS_swap f m k]
theorem NS_pick {i : Nat} (v : Nat) : ∀ {k : Nat}, NS k (fun j => if j = i then v else 0) = if i < k then v else 0
  | 0 => by simp [NS]
  | k + 1 => by
    show NS k _ + (if k = i then v else 0) = _
    rw [NS_pick v (k := k)]
    by_cases h1 : i < k
    · rw [if_pos h1, if_neg (by omega), if_pos (by omega)]
      rfl
    · by_cases h2 : k = i
      · rw [if_neg h1, if_pos h2, if_pos (by omega)]
        omega
      · rw [if_neg h1, if_neg h2, if_neg (by omega)]
theorem NS_term {f : Nat → Nat} {k j : Nat} (hj : j < k) : f j ≤ NS k f := by
  induction k with
  | zero => exact absurd hj (Nat.not_lt_zero _)
  | succ k ih =>
    show f j ≤ NS k f + f k
    rcases Nat.lt_succ_iff_lt_or_eq.mp hj with hl | hl
    · have := ih hl
      omega
    · subst hl
      omega
theorem NS_pos {f : Nat → Nat} : ∀ {k : Nat}, 0 < NS k f → ∃ j, j < k ∧ 0 < f j
  | 0, h => absurd h (Nat.lt_irrefl _)
  | k + 1, h => by
    by_cases hk : 0 < f k
    · exact ⟨k, by omega, hk⟩
    · have h' : 0 < NS k f + f k := h
      obtain ⟨j, hj, hp⟩ := NS_pos (f := f) (k := k) (by omega)
      exact ⟨j, by omega, hp⟩
theorem foldl_NS (f : Nat → Nat) : ∀ k, (List.range k).foldl (fun s r => s + f r) 0 = NS k f
  | 0 => rfl
  | k + 1 => by
    rw [List.range_succ, List.foldl_append, foldl_NS f k]
    rfl
theorem sum_NS (f : Nat → Nat) : ∀ k, ((List.range k).map f).sum = NS k f
  | 0 => rfl
  | k + 1 => by
    rw [List.range_succ, List.map_append, List.sum_append, sum_NS f k]
    simp [NS]

/-! ### ways -/
def wnext (b : Board) (w : List Nat) : List Nat := (List.range (b.n + 1)).map fun q => (List.range (b.n + 1)).foldl (fun s r => s + w.getD r 0 * (b.faces.filter fun f => lands b r f == q).length) 0
theorem ways_zero (p : Nat) : ways b p 0 = (List.range (b.n + 1)).map fun q => if q = p then 1 else 0 := rfl
theorem ways_succ (p t : Nat) : ways b p (t + 1) = wnext b (ways b p t) := rfl
theorem getD_map_range (f : Nat → Nat) {k q : Nat} (h : q < k) : ((List.range k).map f).getD q 0 = f q := by
  rw [List.getD_eq_getElem?_getD, List.getElem?_map, List.getElem?_range h]
  rfl
theorem wnext_at (w : List Nat) {q : Nat} (h : q ≤ b.n) : (wnext b w).getD q 0 = NS (b.n + 1) (fun r => w.getD r 0 * cntL b b.faces r q) := by
  unfold wnext
  rw [getD_map_range _ (by omega)]
  exact foldl_NS (fun r => w.getD r 0 * cntL b b.faces r q) _
theorem ways_len (p : Nat) : ∀ t, (ways b p t).length = b.n + 1
  | 0 => by rw [ways_zero]; simp
  | t + 1 => by rw [ways_succ]; unfold wnext; simp
theorem wnext_len (w : List Nat) : (wnext b w).length = b.n + 1 := by unfold wnext; simp

theorem cnt_end (q : Nat) (fs : List Nat) : cntL b fs b.n q = if q = b.n then fs.length else 0 := by
  induction fs with
  | nil => rw [cntL_nil]; split <;> rfl
  | cons f r ih =>
    rw [cntL_cons, ih, lands_end (Nat.le_refl _)]
    by_cases h : q = b.n
    · rw [if_pos h.symm, if_pos h, if_pos h, List.length_cons]; omega
    · rw [if_neg (fun z => h z.symm), if_neg h, if_neg h]

theorem cnt_all (g : Good b) (r : Nat) (fs : List Nat) : NS (b.n + 1) (fun q => cntL b fs r q) = fs.length := by
  induction fs with
  | nil => exact NS_zero _
  | cons f t ih =>
    rw [NS_congr (g := fun q => (if q = lands b r f then 1 else 0) + cntL b t r q) (fun q _ => by
      rw [cntL_cons]
      congr 1
      by_cases h : lands b r f = q
      · rw [if_pos h, if_pos h.symm]
      · rw [if_neg h, if_neg (fun z => h z.symm)])]
    rw [NS_add, NS_pick, ih, if_pos (by have := lands_le g r f; omega), List.length_cons]
    omega

theorem list_NS (l : List Nat) : l.sum = NS l.length (fun q => l.getD q 0) := by
  rw [← sum_NS, range_getD]
theorem ways_sum (g : Good b) {p : Nat} (hp : p ≤ b.n) : ∀ t, (ways b p t).sum = b.faces.length ^ t
  | 0 => by
    rw [ways_zero, sum_NS, NS_pick, if_pos (by omega)]
    rfl
  | t + 1 => by
    rw [list_NS, ways_len, NS_congr (g := fun q => NS (b.n + 1) (fun r => (ways b p t).getD r 0 * cntL b b.faces r q)) (fun q hq => by rw [ways_succ, wnext_at _ (by omega)])]
    rw [NS_swap (fun q r => (ways b p t).getD r 0 * cntL b b.faces r q)]
    rw [NS_congr (g := fun r => b.faces.length * (ways b p t).getD r 0) (fun r _ => by rw [NS_mul, cnt_all g, Nat.mul_comm])]
    rw [NS_mul, Nat.pow_succ, Nat.mul_comm]
    congr 1
    rw [← ways_sum g hp t, list_NS, ways_len]
theorem ways_le (g : Good b) {p : Nat} (hp : p ≤ b.n) (t q : Nat) : (ways b p t).getD q 0 ≤ b.faces.length ^ t := by
  rw [← ways_sum g hp t, list_NS, ways_len]
  by_cases h : q < b.n + 1
  · exact NS_term (f := fun q => (ways b p t).getD q 0) h
  · rw [List.getD_eq_getElem?_getD, List.getElem?_eq_none (by rw [ways_len]; omega)]
    exact Nat.zero_le _

theorem path_ways (g : Good b) {t p q : Nat} (h : Path b t p q) (hp : p ≤ b.n) : 0 < (ways b p t).getD q 0 := by
  induction h with
  | nil =>
    rw [ways_zero, getD_map_range _ (by omega), if_pos rfl]
    decide
  | snoc h hf ih =>
    rename_i t p r f
    rw [ways_succ, wnext_at _ (lands_le g _ _)]
    have h1 := ih hp
    have h2 : 0 < cntL b b.faces r (lands b r f) := List.length_pos_of_mem (List.mem_filter.mpr ⟨hf, by simp⟩)
    have hr : r ≤ b.n := h.le g hp
    exact Nat.lt_of_lt_of_le (Nat.mul_pos h1 h2) (NS_term (f := fun r' => (ways b p t).getD r' 0 * cntL b b.faces r' (lands b r f)) (by omega))
theorem ways_path (g : Good b) {p : Nat} (hp : p ≤ b.n) : ∀ {t q : Nat}, 0 < (ways b p t).getD q 0 → Path b t p q
  | 0, q, h => by
    by_cases hq : q < b.n + 1
    · rw [ways_zero, getD_map_range _ hq] at h
      by_cases e : q = p
      · subst e; exact .nil _
      · rw [if_neg e] at h; exact absurd h (Nat.lt_irrefl _)
    · rw [List.getD_eq_getElem?_getD, List.getElem?_eq_none (by rw [ways_len]; omega)] at h
      exact absurd h (Nat.lt_irrefl _)
  | t + 1, q, h => by
    by_cases hq : q < b.n + 1
    · rw [ways_succ, wnext_at _ (by omega)] at h
      obtain ⟨r, hr, hpos⟩ := NS_pos h
      have h1 : 0 < (ways b p t).getD r 0 := Nat.pos_of_mul_pos_right hpos
      have h2 : 0 < cntL b b.faces r q := Nat.pos_of_mul_pos_left hpos
      unfold cntL at h2
      obtain ⟨f, hf⟩ := List.exists_mem_of_length_pos h2
      rw [List.mem_filter] at hf
      have e : lands b r f = q := by simpa using hf.2
      subst e
      exact .snoc (ways_path g hp h1) hf.1
    · rw [List.getD_eq_getElem?_getD, List.getElem?_eq_none (by rw [ways_len]; omega)] at h
      exact absurd h (Nat.lt_irrefl _)

/-! ### one throw more, as the program counts it -/
def bump (fs : List Nat) (t m : Nat) : List Nat := fs.set t (fs.getD t 0 + m)
theorem bump_len (fs : List Nat) (t m : Nat) : (bump fs t m).length = fs.length := by unfold bump; simp
theorem bump_at {fs : List Nat} {t m q : Nat} (ht : t < fs.length) : (bump fs t m).getD q 0 = fs.getD q 0 + (if q = t then m else 0) := by
  unfold bump
  by_cases h : q = t
  · subst h
    rw [if_pos rfl, List.getD_eq_getElem?_getD, List.getElem?_set_self ht]
    rfl
  · rw [if_neg h, List.getD_eq_getElem?_getD, List.getElem?_set_ne (fun z => h z.symm), ← List.getD_eq_getElem?_getD]
    rfl

/-- how many ways, counted over the first i places, all but the end -/
def part (b : Board) (w : List Nat) (i q : Nat) : Nat := NS i (fun r => if r = b.n then 0 else w.getD r 0 * cntL b b.faces r q)
/-- the lists that the loops hold -/
structure Cnt (b : Board) (fs : List Nat) (v : Nat → Nat) : Prop where
  len : fs.length = b.n + 1
  val : ∀ q, q ≤ b.n → fs.getD q 0 = v q
theorem cnt_bump {fs : List Nat} {v : Nat → Nat} (c : Cnt b fs v) {t m : Nat} (ht : t ≤ b.n) : Cnt b (bump fs t m) (fun q => v q + (if q = t then m else 0)) :=
  ⟨by rw [bump_len]; exact c.len, fun q hq => by rw [bump_at (by rw [c.len]; omega), c.val q hq]⟩
theorem Cnt.imp {fs : List Nat} {v w : Nat → Nat} (c : Cnt b fs v) (h : ∀ q, q ≤ b.n → v q = w q) : Cnt b fs w := ⟨c.len, fun q hq => by rw [c.val q hq, h q hq]⟩
theorem cntL_snoc (fs : List Nat) (f r q : Nat) : cntL b (fs ++ [f]) r q = cntL b fs r q + (if lands b r f = q then 1 else 0) := by
  induction fs with
  | nil => rw [List.nil_append, cntL_cons, cntL_nil]; omega
  | cons a t ih => rw [List.cons_append, cntL_cons, cntL_cons, ih]; omega
theorem cnt_face (g : Good b) {fs : List Nat} {v : Nat → Nat} {r m f : Nat} {pre : List Nat} (c : Cnt b fs (fun q => v q + m * cntL b pre r q)) : Cnt b (bump fs (lands b r f) m) (fun q => v q + m * cntL b (pre ++ [f]) r q) :=
  (cnt_bump c (lands_le g r f)).imp fun q _ => by
    rw [cntL_snoc]
    by_cases h : lands b r f = q
    · rw [if_pos h, if_pos h.symm, Nat.mul_add]; omega
    · rw [if_neg h, if_neg (fun z => h z.symm)]
      rfl
theorem cnt_zero : Cnt b (List.replicate (b.n + 1) 0) (fun q => part b w 0 q) := ⟨by simp, fun q hq => by
  rw [List.getD_eq_getElem?_getD, List.getElem?_replicate, if_pos (by omega)]
  rfl⟩
theorem part_succ {w : List Nat} {i q : Nat} (hi : i ≠ b.n) : part b w (i + 1) q = part b w i q + w.getD i 0 * cntL b b.faces i q := by
  show part b w i q + (if i = b.n then 0 else _) = _
  rw [if_neg hi]
theorem part_end {w : List Nat} {q : Nat} : part b w (b.n + 1) q = part b w b.n q := by
  show part b w b.n q + (if b.n = b.n then 0 else _) = _
  rw [if_pos rfl]
  rfl
theorem cnt_last {w fs : List Nat} (c : Cnt b fs (part b w (b.n + 1))) : bump fs b.n (w.getD b.n 0 * b.faces.length) = wnext b w := by
  have c2 := cnt_bump c (t := b.n) (m := w.getD b.n 0 * b.faces.length) (Nat.le_refl _)
  refine List.ext_getElem (by rw [c2.len, wnext_len]) fun q h1 h2 => ?_
  have hq : q ≤ b.n := by rw [wnext_len] at h2; omega
  have e1 := c2.val q hq
  have e2 := wnext_at (b := b) w hq
  rw [List.getD_eq_getElem?_getD, List.getElem?_eq_getElem h1] at e1
  rw [List.getD_eq_getElem?_getD, List.getElem?_eq_getElem h2] at e2
  have e1' : (bump fs b.n (w.getD b.n 0 * b.faces.length))[q] = _ := e1
  have e2' : (wnext b w)[q] = _ := e2
  rw [e1', e2', part_end]
  show part b w b.n q + _ = NS b.n (fun r => w.getD r 0 * cntL b b.faces r q) + w.getD b.n 0 * cntL b b.faces b.n q
  congr 1
  · exact NS_congr fun r hr => by rw [if_neg (by omega)]
  · rw [cnt_end]
    by_cases h : q = b.n
    · rw [if_pos h, if_pos h]
    · rw [if_neg h, if_neg h]; rfl

/-! ### the least number of throws -/
theorem least_is {p t : Nat} (h0 : ∀ t', t' < t → (ways b p t').getD b.n 0 = 0) (h1 : 0 < (ways b p t).getD b.n 0) (ht : t ≤ b.n + 1) : least b p = some (t, (ways b p t).getD b.n 0) := by
  unfold least
  rw [List.find?_eq_some_iff_getElem]
  refine ⟨by simpa using h1, t, by simp; omega, by simp, fun j hj => ?_⟩
  have := h0 j hj
  simp only [List.getElem_map, List.getElem_range]
  simpa using this
theorem least_no (g : Good b) {p : Nat} (hp : p ≤ b.n) (h : b.n ∉ comes b p) : least b p = none := by
  unfold least
  rw [List.find?_eq_none]
  intro x hx
  obtain ⟨t, _, rfl⟩ := List.mem_map.mp hx
  intro z
  exact h (comes_path g hp (ways_path g hp (by simpa using z)))
theorem least_first (g : Good b) {p : Nat} (hp : p ≤ b.n) (h : b.n ∈ comes b p) : ∃ t, t ≤ b.n + 1 ∧ 0 < (ways b p t).getD b.n 0 := by
  obtain ⟨t, ht, pa⟩ := comes_short h
  exact ⟨t, ht, path_ways g pa hp⟩

/-! ### sizes of sums, products -/
theorem frac_sz {u : Int} {l k : Nat} (h0 : 0 < l) (hl : l < 2 ^ k) (hu : u.natAbs < 2 ^ k) : Sz k (frac u l) := by
  obtain ⟨g, hg, e1, e2, _⟩ := frac_parts u h0
  refine ⟨frac_nf u h0, ?_, ?_⟩
  · have : (frac u l).u.natAbs ≤ u.natAbs := by
      conv => rhs; rw [e1]
      rw [Int.natAbs_mul]
      simp
      exact Nat.le_mul_of_pos_left _ hg
    omega
  · have : (frac u l).l ≤ l := by
      conv => rhs; rw [e2]
      exact Nat.le_mul_of_pos_left _ hg
    omega
theorem szmul {a c x y : Nat} (hx : x < 2 ^ a) (hy : y < 2 ^ c) : x * y < 2 ^ (a + c) := by rw [Nat.pow_add]; exact Nat.mul_lt_mul'' hx hy
theorem cross_lt {p q : Frac} {a c : Nat} (hp : Sz a p) (hq : Sz c q) : (p.u * (q.l : Int)).natAbs < 2 ^ (a + c) ∧ (q.u * (p.l : Int)).natAbs < 2 ^ (a + c) := by
  rw [Int.natAbs_mul, Int.natAbs_mul]
  refine ⟨szmul hp.2.1 (by simpa using hq.2.2), ?_⟩
  rw [Nat.add_comm]
  exact szmul hq.2.1 (by simpa using hp.2.2)
theorem plus_sz {p q : Frac} {a c : Nat} (hp : Sz a p) (hq : Sz c q) : Sz (a + c + 1) (plus p q) := by
  have := cross_lt hp hq
  have h2 := szmul hp.2.2 hq.2.2
  have e : 2 ^ (a + c + 1) = 2 ^ (a + c) * 2 := Nat.pow_succ _ _
  exact frac_sz (mulpos hp.1.1 hq.1.1) (by omega) (by omega)
theorem minus_sz {p q : Frac} {a c : Nat} (hp : Sz a p) (hq : Sz c q) : Sz (a + c + 1) (minus p q) := by
  have := cross_lt hp hq
  have h2 := szmul hp.2.2 hq.2.2
  have e : 2 ^ (a + c + 1) = 2 ^ (a + c) * 2 := Nat.pow_succ _ _
  exact frac_sz (mulpos hp.1.1 hq.1.1) (by omega) (by omega)
theorem times_sz {p q : Frac} {a c : Nat} (hp : Sz a p) (hq : Sz c q) : Sz (a + c) (times p q) := by
  refine frac_sz (mulpos hp.1.1 hq.1.1) (szmul hp.2.2 hq.2.2) ?_
  rw [Int.natAbs_mul]
  exact szmul hp.2.1 hq.2.1
theorem one_sz : Sz 1 one := ⟨one_nf, by decide, by decide⟩
theorem zero_sz : Sz 1 zero := ⟨zero_nf, by decide, by decide⟩

theorem chance_sz (g : Good b) {t : Nat} (p k : Nat) (hk : 6 ^ t < 2 ^ k) : Sz k (chance b t p) := by
  have h1 : b.faces.length ^ t ≤ 6 ^ t := Nat.pow_le_pow_left g.f6 t
  have h0 : 0 < b.faces.length ^ t := Nat.pow_pos (by have := g.f1; omega)
  have h2 := ways_le g (p := 0) (by omega) t p
  refine frac_sz h0 (by omega) ?_
  show (((ways b 0 t).getD p 0 : Nat) : Int).natAbs < _
  rw [Int.natAbs_natCast]
  omega

/-! ### the best jump more -/
theorem less_iff {p q : Frac} (hp : 0 < p.l) (hq : 0 < q.l) : less p q = true ↔ val p < val q := by
  unfold less
  rw [decide_eq_true_iff]
  have n1 := natpos hp
  have n2 := natpos hq
  have e1 : (p.u : Rat) = val p * (p.l : Rat) := by unfold val; grind
  have e2 : (q.u : Rat) = val q * (q.l : Rat) := by unfold val; grind
  have c : (p.u * (q.l : Int) < q.u * (p.l : Int)) ↔ ((p.u : Rat) * (q.l : Rat) < (q.u : Rat) * (p.l : Rat)) := by
    constructor
    · intro h; exact_mod_cast h
    · intro h; exact_mod_cast h
  rw [c, e1, e2]
  have hpq : 0 < (p.l : Rat) * (q.l : Rat) := Rat.mul_pos n1 n2
  constructor
  · intro h
    have h2 : 0 < (val q - val p) * ((p.l : Rat) * (q.l : Rat)) := by grind
    apply Classical.byContradiction
    intro hn
    have h3 : 0 ≤ (val p - val q) * ((p.l : Rat) * (q.l : Rat)) := Rat.mul_nonneg (by grind) (by grind)
    grind
  · intro h
    have h2 : 0 < (val q - val p) * ((p.l : Rat) * (q.l : Rat)) := Rat.mul_pos (by grind) hpq
    grind

/-- the first of the least -/
def lsS {α : Type} (m : α → Frac) (s : Option α) (x : α) : Option α := match s with
  | none => some x
  | some y => if less (m x) (m y) = true then some x else some y
theorem lsS_none {α : Type} (m : α → Frac) (x : α) : lsS m none x = some x := rfl
theorem lsS_some {α : Type} (m : α → Frac) (y x : α) : lsS m (some y) x = if less (m x) (m y) = true then some x else some y := rfl
def leastOf {α : Type} (m : α → Frac) (l : List α) : Option α := l.foldl (lsS m) none
theorem leastOf_snoc {α : Type} (m : α → Frac) (l : List α) (x : α) : leastOf m (l ++ [x]) = lsS m (leastOf m l) x := by
  unfold leastOf
  rw [List.foldl_append]
  rfl
theorem leastOf_mem {α : Type} (m : α → Frac) (l : List α) : ∀ {x : α}, leastOf m l = some x → x ∈ l := by
  suffices h : ∀ (r : List α) (s : Option α) (x : α), r.foldl (lsS m) s = some x → x ∈ r ∨ s = some x by
    intro x hx
    rcases h l none x hx with h | h
    · exact h
    · cases h
  intro r
  induction r with
  | nil => intro s x h; exact .inr h
  | cons a t ih =>
    intro s x h
    rw [List.foldl_cons] at h
    rcases ih _ x h with h2 | h2
    · exact .inl (List.mem_cons_of_mem _ h2)
    · cases s with
      | none =>
        rw [lsS_none] at h2
        cases h2
        exact .inl List.mem_cons_self
      | some y =>
        rw [lsS_some] at h2
        split at h2
        · cases h2
          exact .inl List.mem_cons_self
        · exact .inr h2
theorem leastOf_map {α β : Type} (f : α → β) (m : β → Frac) (l : List α) : leastOf m (l.map f) = (leastOf (fun x => m (f x)) l).map f := by
  suffices h : ∀ (r : List α) (s : Option α), (r.map f).foldl (lsS m) (s.map f) = (r.foldl (lsS fun x => m (f x)) s).map f from h l none
  intro r
  induction r with
  | nil => intro s; rfl
  | cons a t ih =>
    intro s
    rw [List.map_cons, List.foldl_cons, List.foldl_cons, ← ih]
    congr 1
    cases s with
    | none => rfl
    | some y =>
      rw [lsS_some, Option.map_some, lsS_some]
      split <;> rfl
def btS (now : Frac) (s : Option (Nat × Nat × Frac)) (x : Nat × Nat × Frac) : Option (Nat × Nat × Frac) := match s with
  | none => if less x.2.2 now = true then some x else none
  | some y => if less x.2.2 y.2.2 = true then some x else some y
theorem btS_none (now : Frac) (x : Nat × Nat × Frac) : btS now none x = if less x.2.2 now = true then some x else none := rfl
theorem btS_some (now : Frac) (y x : Nat × Nat × Frac) : btS now (some y) x = if less x.2.2 y.2.2 = true then some x else some y := rfl
theorem better_def (now : Frac) : better b now = (mores b).foldl (btS now) none := rfl
def below (now : Frac) (y : Nat × Nat × Frac) : Option (Nat × Nat × Frac) := if less y.2.2 now = true then some y else none
theorem better_least {l : List (Nat × Nat × Frac)} {now : Frac} (hn : 0 < now.l) (hl : ∀ x ∈ l, 0 < x.2.2.l) :
    l.foldl (btS now) none = (leastOf (fun x => x.2.2) l).bind (below now) := by
  suffices h : ∀ (r : List (Nat × Nat × Frac)) (s : Option (Nat × Nat × Frac)), (∀ x ∈ r, 0 < x.2.2.l) → (∀ x, s = some x → 0 < x.2.2.l) →
      r.foldl (btS now) (s.bind (below now)) = (r.foldl (lsS fun x => x.2.2) s).bind (below now) by
    exact h l none hl (by intro x h; cases h)
  intro r
  induction r with
  | nil => intro s _ _; rfl
  | cons a t ih =>
    intro s hr hs
    have ha := hr a List.mem_cons_self
    rw [List.foldl_cons, List.foldl_cons]
    have hr' : ∀ x ∈ t, 0 < x.2.2.l := fun x hx => hr x (List.mem_cons_of_mem _ hx)
    have key : btS now (s.bind (below now)) a = (lsS (fun x => x.2.2) s a).bind (below now) ∧ ∀ x, lsS (fun x => x.2.2) s a = some x → 0 < x.2.2.l := by
      cases s with
      | none => exact ⟨rfl, by intro x h; cases h; exact ha⟩
      | some y =>
        have hy := hs y rfl
        rw [lsS_some, Option.bind_some]
        unfold below
        by_cases c1 : less a.2.2 y.2.2 = true
        · rw [if_pos c1]
          refine ⟨?_, by intro x h; cases h; exact ha⟩
          rw [Option.bind_some]
          by_cases c2 : less y.2.2 now = true
          · have c3 : less a.2.2 now = true := by
              rw [less_iff ha hy] at c1
              rw [less_iff hy hn] at c2
              rw [less_iff ha hn]
              grind
            rw [if_pos c2, btS_some, if_pos c1, if_pos c3]
          · rw [if_neg c2, btS_none]
        · rw [if_neg c1]
          refine ⟨?_, by intro x h; cases h; exact hy⟩
          rw [Option.bind_some]
          by_cases c2 : less y.2.2 now = true
          · rw [if_pos c2, btS_some, if_neg c1]
          · have c3 : ¬ less a.2.2 now = true := by
              rw [less_iff ha hy] at c1
              rw [less_iff hy hn] at c2
              rw [less_iff ha hn]
              grind
            rw [if_neg c2, btS_none, if_neg c3]
    rw [key.1]
    exact ih _ hr' key.2
end LS

namespace LS
open Uw62
variable {b : Board}

/-! ### rings -/
def jAt (l : List (Nat × Nat)) (p : Nat) : Option Nat := (l.find? fun j => j.1 == p).map fun j => j.2
theorem jumpAt_jAt (p : Nat) : jumpAt b p = jAt b.jumps p := rfl
def jGet (l : List (Nat × Nat)) (p : Nat) : Nat := (jAt l p).getD p
def itj (l : List (Nat × Nat)) : Nat → Nat → Nat
  | 0, p => p
  | k + 1, p => jGet l (itj l k p)
theorem itj_front (l : List (Nat × Nat)) : ∀ k p, itj l (k + 1) p = itj l k (jGet l p)
  | 0, p => rfl
  | k + 1, p => by
    show jGet l (itj l (k + 1) p) = jGet l (itj l k (jGet l p))
    rw [itj_front l k p]
theorem itj_stay {l : List (Nat × Nat)} {p : Nat} (h : jAt l p = none) : ∀ k, itj l k p = p
  | 0 => rfl
  | k + 1 => by
    show jGet l (itj l k p) = p
    rw [itj_stay h k]
    unfold jGet
    rw [h]
    rfl
theorem follow_none : ∀ (f p : Nat), (follow b f p).isNone = (jAt b.jumps (itj b.jumps f p)).isSome
  | 0, p => by
    unfold follow
    show _ = (jAt b.jumps p).isSome
    rw [jumpAt_jAt]
    cases jAt b.jumps p <;> rfl
  | f + 1, p => by
    unfold follow
    rw [itj_front]
    rw [jumpAt_jAt]
    cases e : jAt b.jumps p with
    | none =>
      unfold jGet
      rw [e]
      show false = (jAt b.jumps (itj b.jumps f p)).isSome
      rw [itj_stay e, e]
      rfl
    | some q =>
      unfold jGet
      rw [e]
      exact follow_none f q
def hasRing (l : List (Nat × Nat)) : Bool := l.any fun j => (jAt l (itj l l.length j.1)).isSome
theorem jAt_mem {l : List (Nat × Nat)} {p q : Nat} (h : jAt l p = some q) : (p, q) ∈ l := jumpAt_mem (b := ⟨0, 0, [], l⟩) h
theorem ring_is (hj : ∀ j ∈ b.jumps, j.1 ≤ b.n) : ring b = hasRing b.jumps := by
  rw [Bool.eq_iff_iff]
  unfold ring hasRing
  rw [List.any_eq_true, List.any_eq_true]
  constructor
  · rintro ⟨p, _, h⟩
    rw [follow_none] at h
    cases e : jAt b.jumps p with
    | none => rw [itj_stay e, e] at h; cases h
    | some q => exact ⟨(p, q), jAt_mem e, h⟩
  · rintro ⟨j, hm, h⟩
    refine ⟨j.1, by have := hj j hm; simp; omega, ?_⟩
    rw [follow_none]
    exact h

/-- jumps that begin at unlike places: what is found is what is there -/
theorem jAt_of_mem : ∀ {l : List (Nat × Nat)}, (l.map fun j => j.1).Pairwise (· ≠ ·) → ∀ {p q : Nat}, (p, q) ∈ l → jAt l p = some q
  | [], _, p, q, h => by cases h
  | j :: r, hp, p, q, h => by
    rw [List.map_cons, List.pairwise_cons] at hp
    unfold jAt
    rcases List.mem_cons.mp h with e | h
    · subst e
      rw [List.find?_cons_of_pos (by simp)]
      rfl
    · have hne : j.1 ≠ p := hp.1 p (List.mem_map.mpr ⟨_, h, rfl⟩)
      rw [List.find?_cons_of_neg (by simpa using hne)]
      exact jAt_of_mem hp.2 h

/-! ### fewer jumps make no ring -/
def stepsTo (b : Board) : Nat → Nat → Nat
  | 0, _ => 0
  | f + 1, p => match jumpAt b p with
    | none => 0
    | some q => 1 + stepsTo b f q
theorem steps_more : ∀ {f p q : Nat}, follow b f p = some q → stepsTo b (f + 1) p = stepsTo b f p
  | 0, p, q, h => by
    unfold follow at h
    unfold stepsTo
    cases e : jumpAt b p with
    | none => rfl
    | some r => rw [e] at h; simp at h
  | f + 1, p, q, h => by
    unfold follow at h
    rw [stepsTo, stepsTo]
    cases e : jumpAt b p with
    | none => rfl
    | some r =>
      rw [e] at h
      dsimp only
      rw [steps_more h]
theorem rank_lt (g : Good b) {p q : Nat} (h : jumpAt b p = some q) : stepsTo b b.jumps.length q < stepsTo b b.jumps.length p := by
  obtain ⟨r, hr⟩ := follow_some g (p := p) (by have := jumpAt_in g h; omega)
  obtain ⟨f, ef, hf⟩ := follow_step hr h
  have e1 : stepsTo b b.jumps.length p = 1 + stepsTo b f q := by
    rw [ef, stepsTo, h]
  have e2 : stepsTo b b.jumps.length q = stepsTo b f q := by
    rw [ef, steps_more hf]
  omega
theorem trail {c : Board} {rk : Nat → Nat} (hrk : ∀ x q, jumpAt c x = some q → rk q < rk x) : ∀ (f p : Nat), follow c f p = none → ∃ l : List Nat, l.length = f + 1 ∧ l.Nodup ∧ (∀ x ∈ l, rk x ≤ rk p) ∧ ∀ x ∈ l, ∃ q, jumpAt c x = some q
  | 0, p, h => by
    unfold follow at h
    cases e : jumpAt c p with
    | none => rw [e] at h; simp at h
    | some q => exact ⟨[p], rfl, by simp, by simp, by simpa using ⟨q, e⟩⟩
  | f + 1, p, h => by
    unfold follow at h
    cases e : jumpAt c p with
    | none => rw [e] at h; simp at h
    | some q =>
      rw [e] at h
      obtain ⟨l, h1, h2, h3, h4⟩ := trail hrk f q h
      have hq := hrk p q e
      refine ⟨p :: l, by simp [h1], ?_, fun x hx => ?_, fun x hx => ?_⟩
      · rw [List.nodup_cons]
        refine ⟨fun hp => ?_, h2⟩
        have := h3 p hp
        omega
      · rcases List.mem_cons.mp hx with e | hx
        · subst e; exact Nat.le_refl _
        · have := h3 x hx
          omega
      · rcases List.mem_cons.mp hx with e2 | hx
        · subst e2; exact ⟨q, e⟩
        · exact h4 x hx
theorem no_ring_sub (g : Good b) {js : List (Nat × Nat)} (hs : ∀ j ∈ js, j ∈ b.jumps) : ring { b with jumps := js } = false := by
  unfold ring
  rw [List.any_eq_false]
  intro p _ hn
  have hn' : follow { b with jumps := js } js.length p = none := by simpa using hn
  have sub : ∀ x q, jumpAt { b with jumps := js } x = some q → jumpAt b x = some q := fun x q h => jAt_of_mem g.jd (hs _ (jumpAt_mem h))
  obtain ⟨l, h1, h2, _, h4⟩ := trail (c := { b with jumps := js }) (rk := stepsTo b b.jumps.length) (fun x q h => rank_lt g (sub x q h)) js.length p hn'
  have := pigeon l (js.map fun j => j.1) h2 fun x hx => by
    obtain ⟨q, hq⟩ := h4 x hx
    exact List.mem_map.mpr ⟨(x, q), jumpAt_mem hq, rfl⟩
  rw [List.length_map, h1] at this
  omega
def lessJ (b : Board) (j : Nat) : Board := { b with jumps := b.jumps.eraseIdx j }
theorem lessJ_good (g : Good b) (j : Nat) : Good (lessJ b j) :=
  ⟨g.n2, g.n10, g.rule, g.f1, g.f6, g.f12, fun i hi => g.jin i (List.mem_of_mem_eraseIdx hi), by
    show ((b.jumps.eraseIdx j).map fun j => j.1).Pairwise (· ≠ ·)
    exact List.Pairwise.sublist ((List.eraseIdx_sublist b.jumps j).map _) g.jd, no_ring_sub g fun i hi => List.mem_of_mem_eraseIdx hi⟩
def moreJ (b : Board) (j : Nat × Nat) : Board := { b with jumps := b.jumps ++ [j] }
theorem jumpAt_none {p : Nat} (h : jumpAt b p = none) : ∀ j ∈ b.jumps, j.1 ≠ p := by
  intro j hj e
  unfold jumpAt at h
  rw [Option.map_eq_none_iff, List.find?_eq_none] at h
  exact h j hj (by simpa using e)
theorem moreJ_pre (g : Good b) {j : Nat × Nat} (h1 : 1 ≤ j.1) (h2 : j.1 < b.n) (h3 : j.2 ≤ b.n) (h4 : j.1 ≠ j.2) (h5 : jumpAt b j.1 = none) :
    (∀ i ∈ (moreJ b j).jumps, 1 ≤ i.1 ∧ i.1 < b.n ∧ i.2 ≤ b.n ∧ i.1 ≠ i.2) ∧ ((moreJ b j).jumps.map fun i => i.1).Pairwise (· ≠ ·) := by
  refine ⟨fun i hi => ?_, ?_⟩
  · rcases List.mem_append.mp hi with h | h
    · exact g.jin i h
    · simp at h
      subst h
      exact ⟨h1, h2, h3, h4⟩
  · show ((b.jumps ++ [j]).map fun i => i.1).Pairwise (· ≠ ·)
    rw [List.map_append, List.pairwise_append]
    refine ⟨g.jd, by simp, fun x hx y hy => ?_⟩
    obtain ⟨i, hi, rfl⟩ := List.mem_map.mp hx
    simp at hy
    subst hy
    exact jumpAt_none h5 i hi
theorem moreJ_good (g : Good b) {j : Nat × Nat} (h1 : 1 ≤ j.1) (h2 : j.1 < b.n) (h3 : j.2 ≤ b.n) (h4 : j.1 ≠ j.2) (h5 : jumpAt b j.1 = none) (hr : ring (moreJ b j) = false) : Good (moreJ b j) :=
  ⟨g.n2, g.n10, g.rule, g.f1, g.f6, g.f12, (moreJ_pre g h1 h2 h3 h4 h5).1, (moreJ_pre g h1 h2 h3 h4 h5).2, hr⟩

/-! ### jumps more -/
def candAt (b : Board) (p : Nat) : List (Nat × Nat) := if (jumpAt b p).isSome = true then [] else ((List.range (b.n + 1)).filter fun q => decide (q ≠ p)).map fun q => (p, q)
/-- of the first i places from 1 on -/
def candTo (b : Board) (i : Nat) : List (Nat × Nat) := (List.range i).flatMap fun k => candAt b (1 + k)
theorem candTo_succ (i : Nat) : candTo b (i + 1) = candTo b i ++ candAt b (1 + i) := by
  unfold candTo
  rw [List.range_succ, List.flatMap_append]
  simp
def jumpsMore (b : Board) : List (Nat × Nat) := (candTo b (b.n - 1)).filter fun j => !hasRing (b.jumps ++ [j])
theorem cand_facts {p : Nat} {j : Nat × Nat} (h : j ∈ candAt b p) : j.1 = p ∧ jumpAt b p = none ∧ j.2 ≤ b.n ∧ j.1 ≠ j.2 := by
  unfold candAt at h
  split at h
  · cases h
  · rename_i hn
    obtain ⟨q, hq, rfl⟩ := List.mem_map.mp h
    rw [List.mem_filter] at hq
    have h1 := hq.1
    have h2 := hq.2
    simp at h1 h2
    refine ⟨rfl, by simpa using hn, by show q ≤ b.n; omega, by show p ≠ q; omega⟩
theorem candTo_facts {i : Nat} {j : Nat × Nat} (h : j ∈ candTo b i) : 1 ≤ j.1 ∧ j.1 < 1 + i ∧ jumpAt b j.1 = none ∧ j.2 ≤ b.n ∧ j.1 ≠ j.2 := by
  unfold candTo at h
  rw [List.mem_flatMap] at h
  obtain ⟨k, hk, h⟩ := h
  obtain ⟨e, h2, h3, h4⟩ := cand_facts h
  simp at hk
  refine ⟨by omega, by omega, by rw [e]; exact h2, h3, h4⟩
theorem more_good (g : Good b) {j : Nat × Nat} (h : j ∈ jumpsMore b) : Good (moreJ b j) := by
  unfold jumpsMore at h
  rw [List.mem_filter] at h
  have n2 := g.n2
  obtain ⟨h1, h2, h3, h4, h5⟩ := candTo_facts h.1
  refine moreJ_good g h1 (by omega) h4 h5 h3 ?_
  have pre := moreJ_pre g h1 (by omega) h4 h5 h3
  rw [ring_is fun i hi => by have := pre.1 i hi; show i.1 ≤ b.n; omega]
  show hasRing (b.jumps ++ [j]) = false
  simpa using h.2

theorem flatMap_eq {α β : Type} {f g : α → List β} : ∀ {l : List α}, (∀ x ∈ l, f x = g x) → l.flatMap f = l.flatMap g
  | [], _ => rfl
  | a :: r, h => by
    rw [List.flatMap_cons, List.flatMap_cons, h a List.mem_cons_self, flatMap_eq fun x hx => h x (List.mem_cons_of_mem _ hx)]
theorem filterMap_eq {α β : Type} {f g : α → Option β} : ∀ {l : List α}, (∀ x ∈ l, f x = g x) → l.filterMap f = l.filterMap g
  | [], _ => rfl
  | a :: r, h => by
    rw [List.filterMap_cons, List.filterMap_cons, h a List.mem_cons_self, filterMap_eq fun x hx => h x (List.mem_cons_of_mem _ hx)]
theorem inner_nd (p : Nat) : (inner b p).Nodup := ((comes_rising p).imp (fun h => Nat.ne_of_lt h)).filter _
theorem sure_mean (g : Good b) {p : Nat} (h : sure b p = false) : meanOf b p = none := by
  unfold meanOf
  rw [if_pos h]

theorem mores_is (g : Good b) : mores b = (jumpsMore b).filterMap fun j => (meanOf (moreJ b j) 0).map fun m => (j.1, j.2, m) := by
  unfold mores jumpsMore
  have n2 := g.n2
  obtain ⟨m, hm⟩ : ∃ m, b.n = m + 1 := ⟨b.n - 1, by omega⟩
  -- the places
  have e0 : ∀ (F : Nat → List (Nat × Nat × Frac)), F 0 = [] → F b.n = [] → (List.range (b.n + 1)).flatMap F = (List.range (b.n - 1)).flatMap fun k => F (1 + k) := by
    intro F h0 h1
    rw [List.range_succ, List.flatMap_append, hm, List.range_succ_eq_map, List.flatMap_cons, h0]
    rw [hm] at h1
    simp only [List.flatMap_cons, List.flatMap_nil, h1, List.append_nil, List.nil_append]
    rw [List.flatMap_map]
    rw [show m + 1 - 1 = m by omega]
    congr 1
    funext k
    rw [show k.succ = 1 + k by omega]
  rw [e0 _ (by simp) (by simp)]
  rw [List.filterMap_filter]
  unfold candTo
  rw [List.filterMap_flatMap]
  refine flatMap_eq fun k hk => ?_
  simp only [List.mem_range] at hk
  unfold candAt
  by_cases hs : (jumpAt b (1 + k)).isSome = true
  · rw [if_pos (Or.inr (Or.inr hs)), if_pos hs]
    rfl
  · rw [if_neg (by rintro (h | h | h); omega; omega; exact hs h), if_neg hs]
    rw [List.filterMap_map, List.filterMap_filter]
    refine filterMap_eq fun q hq => ?_
    simp only [List.mem_range] at hq
    by_cases hqk : q = 1 + k
    · rw [if_pos hqk, if_neg (by simpa using hqk)]
    · rw [if_neg hqk]
      have hdq : decide (q ≠ 1 + k) = true := by simpa using hqk
      have hnone : jumpAt b (1 + k) = none := by simpa using hs
      have pre := moreJ_pre g (j := (1 + k, q)) (by show 1 ≤ 1 + k; omega) (by show 1 + k < b.n; omega) (by show q ≤ b.n; omega) (by show 1 + k ≠ q; omega) hnone
      have er : ring { b with jumps := b.jumps ++ [(1 + k, q)] } = hasRing (b.jumps ++ [(1 + k, q)]) := ring_is (b := moreJ b (1 + k, q)) fun i hi => by have := pre.1 i hi; show i.1 ≤ b.n; omega
      dsimp only [Function.comp_apply]
      rw [er, if_pos hdq]
      by_cases hr : hasRing (b.jumps ++ [(1 + k, q)]) = true
      · rw [if_pos hr, if_neg (by rw [hr]; decide)]
      · rw [if_neg hr, if_pos (by simpa using hr)]
        rfl

/-! ### means and visits, by the place in the list -/
theorem zip_find : ∀ (l : List Nat) (m : List Frac) {j p : Nat}, l.Nodup → l.length = m.length → l[j]? = some p → (l.zip m).findSome? (fun y => if y.1 = p then some y.2 else none) = m[j]?
  | [], m, j, p, _, _, h => by simp at h
  | x :: r, [], j, p, _, h, _ => by simp at h
  | x :: r, z :: m, 0, p, hn, hl, h => by
    simp at h
    subst h
    simp
  | x :: r, z :: m, j + 1, p, hn, hl, h => by
    rw [List.nodup_cons] at hn
    have hj : r[j]? = some p := by simpa using h
    have hne : x ≠ p := fun e => hn.1 (e ▸ List.mem_of_getElem? hj)
    simp only [List.zip_cons_cons, List.findSome?_cons, if_neg hne]
    rw [zip_find r m hn.2 (by simpa using hl) hj]
    simp
theorem zip_find_no : ∀ (l : List Nat) (m : List Frac) {p : Nat}, p ∉ l → (l.zip m).findSome? (fun y => if y.1 = p then some y.2 else none) = none := by
  intro l m p h
  rw [List.findSome?_eq_none_iff]
  intro y hy
  have : y.1 ∈ l := (List.of_mem_zip hy).1
  exact if_neg fun (e : y.1 = p) => h (e ▸ this)

theorem comes_end (g : Good b) : comes b b.n = [b.n] := by
  refine rising_eq _ _ (comes_rising _) (by simp) fun x => ?_
  rw [comes_iff g (Nat.le_refl _)]
  constructor
  · rintro ⟨t, pa⟩
    simp
    generalize hq : b.n = q at pa
    induction pa with
    | nil => rfl
    | snoc pa hf ih => rw [ih hq, ← hq]; exact lands_end (Nat.le_refl _)
  · intro h
    simp at h
    subst h
    exact ⟨0, .nil _⟩
theorem inner_end (g : Good b) : inner b b.n = [] := by
  unfold inner
  rw [comes_end g]
  simp
theorem mem_inner {p q : Nat} : q ∈ inner b p ↔ q ∈ comes b p ∧ q ≠ b.n := by unfold inner; simp
theorem inner_len (g : Good b) {p : Nat} (hp : p ≤ b.n) : (inner b p).length ≤ 10 := by
  have := pigeon (inner b p) (List.range b.n) (((comes_rising p).imp (fun h => Nat.ne_of_lt h)).filter _) fun x hx => by
    obtain ⟨h1, h2⟩ := mem_inner.mp hx
    have := comes_le g hp h1
    simp
    omega
  rw [List.length_range] at this
  have := g.n10
  omega

theorem elim_len {k : Nat} {res : List (List Frac)} (E : Elim k res k res) : res.length = k := E.len
def lastOf (r : List Frac) : Frac := r.getLastD zero

theorem mean_eq (g : Good b) {p : Nat} (hp : p ≤ b.n) (hs : sure b p = true) {res : List (List Frac)} (hres : solveFrom (inner b p).length (inner b p).length [] (eqRows (inner b p) (step1 b) fun _ => one) = some res) (hrl : res.length = (inner b p).length) :
    (p = b.n → meanOf b p = some zero) ∧ ∀ j, (inner b p)[j]? = some p → p ≠ b.n → meanOf b p = some (lastOf (res.getD j [])) := by
  have e0 : meanOf b p = (solve (eqRows (inner b p) (step1 b) fun _ => one)).bind fun m => if b.n ≤ p then some zero else ((inner b p).zip m).findSome? fun y => if y.1 = p then some y.2 else none := by
    unfold meanOf
    rw [if_neg (by rw [hs]; decide)]
    rfl
  have e1 : solve (eqRows (inner b p) (step1 b) fun _ => one) = some (res.map lastOf) := by
    unfold solve
    have hl : (eqRows (inner b p) (step1 b) fun _ => one).length = (inner b p).length := by simp [eqRows]
    rw [hl, hres]
    rfl
  rw [e0, e1, Option.bind_some]
  refine ⟨fun e => by rw [if_pos (by omega)], fun j hj hne => ?_⟩
  rw [if_neg (by omega), zip_find _ _ (inner_nd p) (by simp [hrl]) hj]
  have hjl : j < res.length := by rw [hrl]; exact (List.getElem?_eq_some_iff.mp hj).1
  rw [List.getElem?_map, List.getD_eq_getElem?_getD, List.getElem?_eq_getElem hjl]
  rfl
theorem visits_eq (g : Good b) {p : Nat} (hs : sure b 0 = true) {res : List (List Frac)} (hres : solveFrom (inner b 0).length (inner b 0).length [] (eqRows (inner b 0) (fun x y => step1 b y x) fun x => if x = 0 then one else zero) = some res) (hrl : res.length = (inner b 0).length) :
    (p ∉ inner b 0 → visitsOf b p = some zero) ∧ ∀ j, (inner b 0)[j]? = some p → visitsOf b p = some (lastOf (res.getD j [])) := by
  have e0 : visitsOf b p = (solve (eqRows (inner b 0) (fun x y => step1 b y x) fun x => if x = 0 then one else zero)).map fun m => (((inner b 0).zip m).findSome? fun y => if y.1 = p then some y.2 else none).getD zero := by
    unfold visitsOf
    rw [if_neg (by rw [hs]; decide)]
    rfl
  have e1 : solve (eqRows (inner b 0) (fun x y => step1 b y x) fun x => if x = 0 then one else zero) = some (res.map lastOf) := by
    unfold solve
    have hl : (eqRows (inner b 0) (fun x y => step1 b y x) fun x => if x = 0 then one else zero).length = (inner b 0).length := by simp [eqRows]
    rw [hl, hres]
    rfl
  rw [e0, e1, Option.map_some]
  refine ⟨fun h => by rw [zip_find_no _ _ h]; rfl, fun j hj => ?_⟩
  rw [zip_find _ _ (inner_nd 0) (by simp [hrl]) hj]
  have hjl : j < res.length := by rw [hrl]; exact (List.getElem?_eq_some_iff.mp hj).1
  rw [List.getElem?_map, List.getD_eq_getElem?_getD, List.getElem?_eq_getElem hjl]
  rfl
end LS

namespace LS
open Uw62
/-! ### the calls as they are read -/
def ofNats (l : List Nat) : List Int := l.map fun (n : Nat) => (n : Int)
def Rd (l : List Int) (a a' : Nat) : Call → Prop
  | .board n rule faces jumps => l[a]? = some 0 ∧ l[a + 1]? = some (n : Int) ∧ l[a + 2]? = some (rule : Int) ∧ l[a + 3]? = some (faces.length : Int) ∧ (l.drop (a + 4)).take faces.length = ofNats faces ∧
      l[a + 4 + faces.length]? = some (jumps.length : Int) ∧ (l.drop (a + 5 + faces.length)).take jumps.length = ofNats jumps ∧ a' = a + 5 + faces.length + jumps.length
  | .lands p f => l[a]? = some 1 ∧ l[a + 1]? = some (p : Int) ∧ l[a + 2]? = some (f : Int) ∧ a' = a + 3
  | .within t => l[a]? = some 2 ∧ l[a + 1]? = some (t : Int) ∧ a' = a + 2
  | .at_ t p => l[a]? = some 3 ∧ l[a + 1]? = some (t : Int) ∧ l[a + 2]? = some (p : Int) ∧ a' = a + 3
  | .mean p => l[a]? = some 4 ∧ l[a + 1]? = some (p : Int) ∧ a' = a + 2
  | .least p => l[a]? = some 5 ∧ l[a + 1]? = some (p : Int) ∧ a' = a + 2
  | .visits p => l[a]? = some 6 ∧ l[a + 1]? = some (p : Int) ∧ a' = a + 2
  | .race t => l[a]? = some 7 ∧ l[a + 1]? = some (t : Int) ∧ a' = a + 2
  | .better => l[a]? = some 8 ∧ a' = a + 1
  | .without j => l[a]? = some 9 ∧ l[a + 1]? = some (j : Int) ∧ a' = a + 2

theorem nat_of {z : Int} (h : Uw62Neutral.nat z = true) : z = ((z.toNat : Nat) : Int) := by
  unfold Uw62Neutral.nat at h
  simp at h
  omega
theorem nats_of {l : List Int} (h : l.all Uw62Neutral.nat = true) : ofNats (l.map Int.toNat) = l := by
  induction l with
  | nil => rfl
  | cons z r ih =>
    rw [List.all_cons, Bool.and_eq_true] at h
    show ((z.toNat : Nat) : Int) :: ofNats (r.map Int.toNat) = z :: r
    rw [ih h.2, ← nat_of h.1]
theorem callOf_some {l : List Int} {x : Call} (h : Uw62Neutral.callOf l = some x) : l.all Uw62Neutral.nat = true ∧ Uw62Neutral.callIn (l.map Int.toNat) = some x := by
  unfold Uw62Neutral.callOf at h
  split at h
  · cases h
  · rename_i hn
    exact ⟨by simpa using hn, h⟩

theorem drop_get {l : List Int} {a : Nat} {x : Int} {r : List Int} (h : l.drop a = x :: r) : l[a]? = some x ∧ l.drop (a + 1) = r := by
  have hlt : a < l.length := by
    rcases Nat.lt_or_ge a l.length with h1 | h1
    · exact h1
    · rw [List.drop_eq_nil_of_le h1] at h; cases h
  rw [List.drop_eq_getElem_cons hlt] at h
  injection h with h1 h2
  exact ⟨by rw [List.getElem?_eq_getElem hlt, h1], h2⟩
theorem row_read {l : List Int} {a : Nat} {x s : List Int} (h : PyFlat.row (l.drop a) = some (x, s)) : l[a]? = some (x.length : Int) ∧ (l.drop (a + 1)).take x.length = x ∧ s = l.drop (a + 1 + x.length) := by
  cases e : l.drop a with
  | nil => rw [e] at h; cases h
  | cons n r =>
    rw [e] at h
    obtain ⟨h1, h2⟩ := drop_get e
    unfold PyFlat.row at h
    dsimp only at h
    split at h
    · rename_i hc
      cases h
      have hl : (r.take n.toNat).length = n.toNat := by rw [List.length_take]; omega
      refine ⟨?_, ?_, ?_⟩
      · rw [h1, hl]
        congr 1
        omega
      · rw [hl, h2]
      · rw [hl, ← h2, List.drop_drop]
    · cases h

theorem shape_cases {p : Int} {s : Nat × Nat} (h : PyUw62.shape p = some s) : (p = 0 ∧ s = (2, 2)) ∨ ((p = 1 ∨ p = 3) ∧ s = (2, 0)) ∨ ((p = 2 ∨ p = 4 ∨ p = 5 ∨ p = 6 ∨ p = 7 ∨ p = 9) ∧ s = (1, 0)) ∨ (p = 8 ∧ s = (0, 0)) := by
  unfold PyUw62.shape at h
  repeat' split at h
  all_goals first | (cases h; done) | skip
  all_goals (injection h with h; subst h; simp_all)

theorem callIn_board (n rule k : Nat) (l : List Nat) : Uw62Neutral.callIn (0 :: n :: rule :: k :: l) = if l.length < k then none else some (.board n rule (l.take k) (l.drop k)) := rfl
theorem whole2 {p x0 x1 : Int} (h : p = 1 ∨ p = 3) : (PyUw62.whole [[p, x0, x1]]).headD [] = [p, x0, x1] := by rcases h with rfl | rfl <;> rfl
theorem whole1 {p x0 : Int} (h : p = 2 ∨ p = 4 ∨ p = 5 ∨ p = 6 ∨ p = 7 ∨ p = 9) : (PyUw62.whole [[p, x0]]).headD [] = [p, x0] := by rcases h with rfl | rfl | rfl | rfl | rfl | rfl <;> rfl
theorem turn_read {l : List Int} {a f : Nat} {rest : List (List (List Int))} (ha : a < l.length) (h : PyFlat.calls PyUw62.shape f (l.drop a) = some rest)
    (hask : ∀ c ∈ rest, (Uw62Neutral.callOf ((PyUw62.whole c).headD [])).isSome = true) :
    ∃ c cs f' a' x, rest = c :: cs ∧ PyFlat.calls PyUw62.shape f' (l.drop a') = some cs ∧ a < a' ∧ Uw62Neutral.callOf ((PyUw62.whole c).headD []) = some x ∧ Rd l a a' x := by
  cases e : l.drop a with
  | nil =>
    have := List.drop_eq_nil_iff.mp e
    omega
  | cons p r =>
    rw [e] at h
    obtain ⟨g0, d0⟩ := drop_get e
    cases f with
    | zero => simp [PyFlat.calls] at h
    | succ f =>
      unfold PyFlat.calls at h
      cases ec : PyFlat.call PyUw62.shape (p :: r) with
      | none => rw [ec] at h; cases h
      | some ct =>
        obtain ⟨c, t⟩ := ct
        rw [ec] at h
        dsimp only at h
        cases er : PyFlat.calls PyUw62.shape f t with
        | none => rw [er] at h; cases h
        | some cs =>
          rw [er] at h
          dsimp only at h
          injection h with h
          have hx := hask c (by rw [← h]; exact List.mem_cons_self)
          obtain ⟨x, ex⟩ := Option.isSome_iff_exists.mp hx
          obtain ⟨hall, hin⟩ := callOf_some ex
          unfold PyFlat.call at ec
          dsimp only at ec
          cases es : PyUw62.shape p with
          | none => rw [es] at ec; cases ec
          | some s =>
            rw [es] at ec
            obtain ⟨n, k⟩ := s
            dsimp only at ec
            split at ec
            · cases ec
            rename_i hlen
            rcases shape_cases es with ⟨hp, hs⟩ | ⟨hp, hs⟩ | ⟨hp, hs⟩ | ⟨hp, hs⟩
            · -- board
              cases hs
              subst hp
              match r, d0, hlen with
              | x0 :: x1 :: r2, d0, hlen =>
                obtain ⟨g1, d1⟩ := drop_get d0
                obtain ⟨g2, d2⟩ := drop_get d1
                simp only [List.drop_succ_cons, List.drop_zero, List.take_succ_cons, List.take_zero] at ec
                unfold PyFlat.rows at ec
                cases e1 : PyFlat.row r2 with
                | none => rw [e1] at ec; cases ec
                | some q =>
                  obtain ⟨r0, s0⟩ := q
                  rw [e1] at ec
                  dsimp only at ec
                  unfold PyFlat.rows at ec
                  cases e2 : PyFlat.row s0 with
                  | none => rw [e2] at ec; cases ec
                  | some q =>
                    obtain ⟨r1, s1⟩ := q
                    rw [e2] at ec
                    dsimp only [PyFlat.rows] at ec
                    injection ec with ec
                    injection ec with ec1 ec2
                    subst ec1 ec2
                    rw [← d2] at e1
                    obtain ⟨a1, a2, a3⟩ := row_read e1
                    rw [a3] at e2
                    obtain ⟨b1, b2, b3⟩ := row_read e2
                    have ew : (PyUw62.whole [[0, x0, x1], r0, r1]).headD [] = 0 :: x0 :: x1 :: (r0.length : Int) :: (r0 ++ r1) := by
                      show [0] ++ [x0] ++ [x1] ++ [(r0.length : Int)] ++ r0 ++ r1 = _
                      simp
                    rw [ew] at hall hin
                    rw [List.all_cons, List.all_cons, List.all_cons, List.all_cons, List.all_append] at hall
                    simp only [Bool.and_eq_true] at hall
                    obtain ⟨_, n0, n1, n2, n3, n4⟩ := hall
                    simp only [List.map_cons, List.map_append, Int.toNat_natCast, Int.toNat_zero] at hin
                    rw [callIn_board, if_neg (by rw [List.length_append, List.length_map]; omega)] at hin
                    injection hin with hin
                    have t1 : List.take r0.length (r0.map Int.toNat ++ r1.map Int.toNat) = r0.map Int.toNat := by
                      rw [List.take_append_of_le_length (by simp), List.take_of_length_le (by simp)]
                    have t2 : List.drop r0.length (r0.map Int.toNat ++ r1.map Int.toNat) = r1.map Int.toNat := by
                      rw [List.drop_append_of_le_length (by simp), List.drop_of_length_le (by simp), List.nil_append]
                    rw [t1, t2] at hin
                    refine ⟨_, cs, f, a + 5 + r0.length + r1.length, x, h.symm, ?_, by omega, ex, ?_⟩
                    · rw [← er, b3, show a + 5 + r0.length + r1.length = a + 1 + 1 + 1 + 1 + r0.length + 1 + r1.length by omega]
                    · subst hin
                      refine ⟨g0, ?_, ?_, ?_, ?_, ?_, ?_, ?_⟩
                      · rw [g1]; exact congrArg some (nat_of n0)
                      · rw [g2]; exact congrArg some (nat_of n1)
                      · rw [List.length_map]; exact a1
                      · rw [List.length_map, nats_of n3]; exact a2
                      · rw [List.length_map, List.length_map, ← b1]
                      · rw [List.length_map, List.length_map, nats_of n4, show a + 5 + r0.length = a + 1 + 1 + 1 + 1 + r0.length + 1 by omega]
                        exact b2
                      · rw [List.length_map, List.length_map]
              | [_], d0, hlen => simp at hlen
              | [], d0, hlen => simp at hlen
            · -- two numbers
              cases hs
              match r, d0, hlen with
              | x0 :: x1 :: r2, d0, hlen =>
                obtain ⟨g1, d1⟩ := drop_get d0
                obtain ⟨g2, d2⟩ := drop_get d1
                simp only [List.drop_succ_cons, List.drop_zero, List.take_succ_cons, List.take_zero, PyFlat.rows] at ec
                injection ec with ec
                injection ec with ec1 ec2
                subst ec1 ec2
                refine ⟨_, cs, f, a + 3, x, h.symm, by rw [show a + 3 = a + 1 + 1 + 1 by omega, d2]; exact er, by omega, ex, ?_⟩
                rw [whole2 hp] at hall hin
                rcases hp with hp | hp
                all_goals
                  subst hp
                  simp only [List.all_cons, List.all_nil, Bool.and_eq_true, Bool.and_true] at hall
                  obtain ⟨_, n0, n1⟩ := hall
                  have hin' : some _ = some x := hin
                  injection hin' with hin'
                  subst hin'
                  exact ⟨g0, by rw [g1]; exact congrArg some (nat_of n0), by rw [g2]; exact congrArg some (nat_of n1), rfl⟩
              | [_], d0, hlen => simp at hlen
              | [], d0, hlen => simp at hlen
            · cases hs
              match r, d0, hlen with
              | x0 :: r2, d0, hlen =>
                obtain ⟨g1, d1⟩ := drop_get d0
                simp only [List.drop_succ_cons, List.drop_zero, List.take_succ_cons, List.take_zero, PyFlat.rows] at ec
                injection ec with ec
                injection ec with ec1 ec2
                subst ec1 ec2
                refine ⟨_, cs, f, a + 2, x, h.symm, by rw [show a + 2 = a + 1 + 1 by omega, d1]; exact er, by omega, ex, ?_⟩
                rw [whole1 hp] at hall hin
                rcases hp with hp | hp | hp | hp | hp | hp
                all_goals
                  subst hp
                  simp only [List.all_cons, List.all_nil, Bool.and_eq_true, Bool.and_true] at hall
                  obtain ⟨_, n0⟩ := hall
                  have hin' : some _ = some x := hin
                  injection hin' with hin'
                  subst hin'
                  exact ⟨g0, by rw [g1]; exact congrArg some (nat_of n0), rfl⟩
              | [], d0, hlen => simp at hlen
            · cases hs
              subst hp
              simp only [List.drop_zero, List.take_zero, PyFlat.rows] at ec
              injection ec with ec
              injection ec with ec1 ec2
              subst ec1 ec2
              refine ⟨_, cs, f, a + 1, x, h.symm, by rw [d0]; exact er, by omega, ex, ?_⟩
              have hin' : some Call.better = some x := hin
              injection hin' with hin'
              subst hin'
              exact ⟨g0, rfl⟩

/-! ### the answers -/
def told (b : Board) (rest : List (List (List Int))) : List Int := PyFlat.told (PyFlat.played (fun s c => Uw62Neutral.step s (c.headD [])) b (rest.map PyUw62.whole))
theorem told_nil (b : Board) : told b [] = [] := rfl
theorem told_cons {b : Board} {c : List (List Int)} {cs : List (List (List Int))} {x : Call} (h : Uw62Neutral.callOf ((PyUw62.whole c).headD []) = some x) :
    told b (c :: cs) = (((step b x).2.length : Int) :: (step b x).2) ++ told (step b x).1 cs := by
  unfold told
  rw [List.map_cons]
  have e : Uw62Neutral.step b ((PyUw62.whole c).headD []) = step b x := by
    unfold Uw62Neutral.step
    rw [h]
    rfl
  show PyFlat.told ((Uw62Neutral.step b ((PyUw62.whole c).headD [])).2 :: PyFlat.played (fun s c => Uw62Neutral.step s (c.headD [])) (Uw62Neutral.step b ((PyUw62.whole c).headD [])).1 (cs.map PyUw62.whole)) = _
  rw [e]
  unfold PyFlat.told
  rw [List.flatMap_cons]
structure Asked (l : List Int) (rest : List (List (List Int))) : Prop where
  calls : PyFlat.calls PyUw62.shape l.length l = some rest
  few : rest.length ≤ 40
  each : ∀ c ∈ rest, (Uw62Neutral.callOf ((PyUw62.whole c).headD [])).isSome = true
  ans : PyUw62.answers l = told Uw62.first rest
theorem asked_of {l : List Int} (h : PyUw62.answers_asked l = true) : ∃ rest, Asked l rest := by
  unfold PyUw62.answers_asked at h
  cases e : PyFlat.calls PyUw62.shape l.length l with
  | none => rw [e] at h; cases h
  | some raw =>
    rw [e] at h
    simp only [Bool.and_eq_true] at h
    obtain ⟨⟨⟨⟨h1, h2⟩, h3⟩, h4⟩, h5⟩ := h
    refine ⟨raw, e, ?_, ?_, ?_⟩
    · unfold PyFlat.atMost at h2
      exact of_decide_eq_true h2
    · unfold Uw62Neutral.asked at h4
      simp only [Bool.and_eq_true] at h4
      have := h4.1
      rw [List.all_eq_true] at this
      intro c hc
      exact this _ (List.mem_map.mpr ⟨PyUw62.whole c, List.mem_map.mpr ⟨c, hc, rfl⟩, rfl⟩)
    · unfold PyUw62.answers PyUw62.calls
      rw [e]
      rfl
theorem calls_end {l : List Int} {a f : Nat} {rest : List (List (List Int))} (ha : l.length ≤ a) (h : PyFlat.calls PyUw62.shape f (l.drop a) = some rest) : rest = [] := by
  rw [List.drop_eq_nil_of_le ha] at h
  cases f <;> simp [PyFlat.calls] at h <;> exact h

/-! ### the jumps as they are handed in -/
def pairsL : List Nat → List (Nat × Nat)
  | a :: c :: r => (a, c) :: pairsL r
  | _ => []
theorem pairs_even : ∀ {l : List Nat}, l.length % 2 = 0 → pairsOf l = some (pairsL l)
  | [], _ => rfl
  | [a], h => by simp at h
  | a :: c :: r, h => by
    unfold pairsOf pairsL
    rw [pairs_even (by simp at h; omega)]
    rfl
theorem pairs_odd : ∀ {l : List Nat}, l.length % 2 = 1 → pairsOf l = none
  | [], h => by simp at h
  | [a], h => rfl
  | a :: c :: r, h => by
    unfold pairsOf
    rw [pairs_odd (by simp at h; omega)]
    rfl
theorem pairs_range : ∀ (l : List Nat), (List.range (l.length / 2)).map (fun k => (l.getD (2 * k) 0, l.getD (2 * k + 1) 0)) = pairsL l
  | [] => rfl
  | [a] => by simp [pairsL]
  | a :: c :: r => by
    have e : (a :: c :: r).length / 2 = r.length / 2 + 1 := by simp only [List.length_cons]; omega
    rw [e, List.range_succ_eq_map, List.map_cons, List.map_map]
    unfold pairsL
    rw [← pairs_range r]
    rfl
end LS

namespace LS
open PySem PySem.Spec PyProof.Rows L2
open Uw62 (Board Frac)

/-! ### what is known for ever (F) within what is tracked (H) -/
structure Gr (F H F' H' : Hp) : Prop where
  h : Same H H'
  f : Same F F'
  s : Same F' H'
  n : ∀ b o, F' b = some o → F b = some o ∨ H b = none
theorem Gr.refl {F H : Hp} (s : Same F H) : Gr F H F H := ⟨Same.refl H, Same.refl F, s, fun _ _ e => .inl e⟩
theorem same_new {H : Hp} {p : Addr} {o : HO} (hp : H p = none) : Same H (upd H p o) := fun b u e => by rw [upd_ne (ne_of_none e hp)]; exact e
theorem Gr.trans {F H F1 H1 F2 H2 : Hp} (a : Gr F H F1 H1) (b : Gr F1 H1 F2 H2) : Gr F H F2 H2 :=
  ⟨a.h.trans b.h, a.f.trans b.f, b.s, fun c o e => by
    rcases b.n c o e with h | h
    · exact a.n c o h
    · exact .inr (a.h.free h)⟩
/-- a new thing that is known from now on -/
theorem Gr.new {F H F1 H1 : Hp} {p : Addr} {o : HO} (a : Gr F H F1 H1) (hp : H1 p = none) : Gr F H (upd F1 p o) (upd H1 p o) :=
  a.trans ⟨same_new hp, same_new (a.s.free hp), fun b u e => by
    by_cases hb : b = p
    · subst hb; rw [upd_same] at e ⊢; exact e
    · rw [upd_ne hb] at e ⊢; exact a.s b u e, fun b u e => by
    by_cases hb : b = p
    · subst hb; exact .inr hp
    · rw [upd_ne hb] at e; exact .inl e⟩
/-- a new thing that will change -/
theorem Gr.mut {F H F1 H1 : Hp} {p : Addr} {o : HO} (a : Gr F H F1 H1) (hp : H1 p = none) : Gr F H F1 (upd H1 p o) :=
  ⟨a.h.trans (same_new hp), a.f, a.s.trans (same_new hp), a.n⟩
/-- it changes: it was not there at the beginning, and is not known -/
theorem Gr.set {F H F1 H1 : Hp} {p : Addr} {o : HO} (a : Gr F H F1 H1) (h0 : H p = none) (hf : F1 p = none) : Gr F H F1 (upd H1 p o) :=
  ⟨fun b u e => by rw [upd_ne (ne_of_none e h0)]; exact a.h b u e, a.f, fun b u e => by rw [upd_ne (ne_of_none e hf)]; exact a.s b u e, a.n⟩
/-- what was not known and was there is not known now -/
theorem Gr.none {F H F1 H1 : Hp} {p : Addr} {o : HO} (a : Gr F H F1 H1) (hp : H p = some o) (hf : F p = .none) : F1 p = .none := by
  cases e : F1 p with
  | none => rfl
  | some u =>
    rcases a.n p u e with h | h
    · rw [hf] at h; cases h
    · rw [hp] at h; cases h
theorem Gr.none' {F H F1 H1 : Hp} {p : Addr} (a : Gr F H F1 H1) (hp : H1 p = .none) : F1 p = .none := a.s.free hp
/-- from now on it is known -/
theorem Gr.know {F H F1 H1 : Hp} {p : Addr} {o : HO} (a : Gr F H F1 H1) (h0 : H p = .none) (hp : H1 p = some o) (hf : F1 p = .none) : Gr F H (upd F1 p o) H1 :=
  ⟨a.h, fun b u e => by
    have q := a.f b u e
    rw [upd_ne (ne_of_none q hf)]; exact q, fun b u e => by
    by_cases hb : b = p
    · subst hb; rw [upd_same] at e; cases e; exact hp
    · rw [upd_ne hb] at e; exact a.s b u e, fun b u e => by
    by_cases hb : b = p
    · subst hb; exact .inr h0
    · rw [upd_ne hb] at e; exact a.n b u e⟩

/-! ### how things lie -/
theorem same_T {K : PySem.W.Frag} {H H' : Hp} {a : Addr} {xs : List V} (e : Same H H') (h : SqT K H a xs) : SqT K H' a xs := by
  rcases h with (h | ⟨o, h⟩) | h
  · exact .inl (.inl (e _ _ h))
  · exact .inl (.inr ⟨o, e _ _ h⟩)
  · exact .inr h
abbrev Rep (α : Type) := α → V → Hp → Prop
def Mono {α : Type} (R : Rep α) : Prop := ∀ x v F F', Same F F' → R x v F → R x v F'
/-- a fraction -/
def FrV (K : PySem.W.Frag) : Rep Frac := fun q v F => ∃ a, v = .ref a ∧ SqT K F a [.int q.u, .int (q.l : Int)]
theorem FrV.mono {K : PySem.W.Frag} : Mono (FrV K) := fun _ _ _ _ s ⟨a, e, h⟩ => ⟨a, e, same_T s h⟩
def IntR : Rep Int := fun i v _ => v = .int i
def NatR : Rep Nat := fun i v _ => v = .int (i : Int)
def BlR : Rep Bool := fun i v _ => v = .bl i
theorem NatR.mono : Mono NatR := fun _ _ _ _ _ h => h
theorem BlR.mono : Mono BlR := fun _ _ _ _ _ h => h
/-- items by items -/
structure L2R {α : Type} (R : Rep α) (F : Hp) (l : List α) (xs : List V) : Prop where
  len : xs.length = l.length
  get : ∀ (i : Nat) (x : α), l[i]? = some x → ∃ y, xs[i]? = some y ∧ R x y F
section
variable {α : Type} {R : Rep α} {F F' : Hp} {l l' : List α} {xs ys : List V}
theorem L2R.nil : L2R R F [] [] := ⟨rfl, fun i x h => by simp at h⟩
theorem L2R.mono (m : Mono R) (s : Same F F') (h : L2R R F l xs) : L2R R F' l xs := ⟨h.len, fun i x e => let ⟨y, h1, h2⟩ := h.get i x e; ⟨y, h1, m _ _ _ _ s h2⟩⟩
theorem L2R.append (h : L2R R F l xs) (h' : L2R R F l' ys) : L2R R F (l ++ l') (xs ++ ys) := by
  refine ⟨by rw [List.length_append, List.length_append, h.len, h'.len], fun i x e => ?_⟩
  by_cases hi : i < l.length
  · rw [List.getElem?_append_left hi] at e
    rw [List.getElem?_append_left (by rw [h.len]; exact hi)]
    exact h.get i x e
  · rw [List.getElem?_append_right (by omega)] at e
    rw [List.getElem?_append_right (by rw [h.len]; omega), h.len]
    exact h'.get _ x e
theorem L2R.one {x : α} {y : V} (h : R x y F) : L2R R F [x] [y] := ⟨rfl, fun i z e => by
  cases i with
  | zero => simp at e; subst e; exact ⟨y, rfl, h⟩
  | succ i => simp at e⟩
theorem L2R.snoc {x : α} {y : V} (h : L2R R F l xs) (hy : R x y F) : L2R R F (l ++ [x]) (xs ++ [y]) := h.append (.one hy)
theorem L2R.take (h : L2R R F l xs) (n : Nat) : L2R R F (l.take n) (xs.take n) := ⟨by rw [List.length_take, List.length_take, h.len], fun i x e => by
  rw [List.getElem?_take] at e ⊢
  split at e
  · rename_i hi
    rw [if_pos hi]
    exact h.get i x e
  · cases e⟩
theorem L2R.drop (h : L2R R F l xs) (n : Nat) : L2R R F (l.drop n) (xs.drop n) := ⟨by rw [List.length_drop, List.length_drop, h.len], fun i x e => by
  rw [List.getElem?_drop] at e ⊢
  exact h.get _ x e⟩
/-- the item at a place of xs is an item of l -/
theorem L2R.item {i : Nat} {y : V} (h : L2R R F l xs) (e : xs[i]? = some y) : ∃ x, l[i]? = some x ∧ R x y F := by
  have hi : i < xs.length := (List.getElem?_eq_some_iff.mp e).1
  have hl : i < l.length := by rw [← h.len]; exact hi
  obtain ⟨y', h1, h2⟩ := h.get i l[i] (List.getElem?_eq_getElem hl)
  rw [e] at h1
  cases h1
  exact ⟨_, List.getElem?_eq_getElem hl, h2⟩
/-- a list -/
def LsV (R : Rep α) : Rep (List α) := fun l v F => ∃ a xs, v = .ref a ∧ F a = some (.lst xs) ∧ L2R R F l xs
theorem LsV.mono (m : Mono R) : Mono (LsV R) := fun _ _ _ _ s ⟨a, xs, e, h, q⟩ => ⟨a, xs, e, s _ _ h, q.mono m s⟩
end
theorem nats_L2R {F : Hp} {l : List Nat} {xs : List V} (h : L2R NatR F l xs) : xs = (ofNats l).map V.int := by
  refine List.ext_getElem (by simp [ofNats, h.len]) fun i h1 h2 => ?_
  obtain ⟨x, e, q⟩ := h.item (List.getElem?_eq_getElem h1)
  have q' : xs[i] = V.int (x : Int) := q
  rw [q']
  obtain ⟨hl, ex⟩ := List.getElem?_eq_some_iff.mp e
  simp [ofNats, ex]
theorem L2R_nats {F : Hp} (l : List Nat) : L2R NatR F l ((ofNats l).map V.int) := ⟨by simp [ofNats], fun i x e => ⟨.int (x : Int), by simp [ofNats, e], rfl⟩⟩
theorem bls_L2R {F : Hp} {l : List Bool} {xs : List V} (h : L2R BlR F l xs) : xs = l.map V.bl := by
  refine List.ext_getElem (by simp [h.len]) fun i h1 h2 => ?_
  obtain ⟨x, e, q⟩ := h.item (List.getElem?_eq_getElem h1)
  have q' : xs[i] = V.bl x := q
  rw [q']
  obtain ⟨hl, ex⟩ := List.getElem?_eq_some_iff.mp e
  simp [ex]
/-- a list of whole numbers from 0 on -/
abbrev NsV : Rep (List Nat) := LsV NatR
theorem NsV.at {l : List Nat} {v : V} {F : Hp} (h : NsV l v F) : ∃ a, v = .ref a ∧ F a = some (.lst ((ofNats l).map V.int)) := by
  obtain ⟨a, xs, e, h, q⟩ := h
  rw [nats_L2R q] at h
  exact ⟨a, e, h⟩
theorem NsV.of {l : List Nat} {a : Addr} {F : Hp} (h : F a = some (.lst ((ofNats l).map V.int))) : NsV l (.ref a) F := ⟨a, _, rfl, h, L2R_nats l⟩
theorem FrV.tup {K : PySem.W.Frag} {q : Frac} {a : Addr} {F : Hp} (h : F a = some (.tup [.int q.u, .int (q.l : Int)])) : FrV K q (.ref a) F := ⟨a, rfl, SqT.of h⟩

/-! ### promises -/
/-- what a def that changes nothing hands back -/
def Ret (F H : Hp) (R : V → Hp → Prop) (Q : VK) : Prop := ∀ v F' H', Gr F H F' H' → R v F' → Q v H'
/-- a def by its name, with its promise -/
def FnG (P : Program) (w : World) (K : PySem.W.Frag) (mg : Str → Option Value) (base : Heap) (CX : CXT) (k : Nat) (x : Str) (ps : List Str) (sp : Sp) : Prop :=
  ∃ f fd, mg x = some (.ref f) ∧ PySem.W.keepIn K (.ref f) = true ∧ Binds K fd ps [] ∧ FnOk P w K mg base CX k f fd ps sp
/-- a method of the class at C -/
def MtG (P : Program) (w : World) (K : PySem.W.Frag) (mg : Str → Option Value) (base : Heap) (CX : CXT) (k : Nat) (C : Addr) (x : Str) (ps : List Str) (sp : Sp) : Prop :=
  ∃ f fd, Meth K C x f ∧ Binds K fd ps [] ∧ FnOk P w K mg base CX k f fd ps sp
section
variable {X : Cx} {CX : CXT} {k j : Nat} {C : Addr} {ps : List Str} {sp : Sp} {E : XK} {x m : Str} {p pos apos : Pos} {e o : Expr} {es : List Expr} {ta : TE} {t : TA}
theorem pe_fn (G : FnG X.prog X.w X.K X.mg X.base CX k x ps sp) (hr : Room j X.A) (hx : Passes CX X E) (ha : PA X (e :: es) t) (hkj : k ≤ j := by decide) (hg : Gl X x := by rfl) (hdb : (x == ("__debug__" : Str)) = false := by decide)
    (he : starEach (e :: es) X.env = (false, eval e X.env) :: starEach es X.env := by rfl) (hpl : (backTo pos (starEach es X.env)).any (·.1) = false := by rfl) : PE X (.Call (.Name x p) (e :: es) [] pos) (tCall sp [] E t) := by
  obtain ⟨f, fd, h1, h2, h3, h4⟩ := G
  exact pe_call h4 (hr.mono hkj) hg h1 h2 h3 .nil hx ha hdb he hpl
theorem pe_mt {pl : Sem Bool} (c : Cls X.K C) (G : MtG X.prog X.w X.K X.mg X.base CX k C m ps sp) (hr : Room j X.A) (hx : Passes CX X E) (he : PE X o ta) (ha : PA X (e :: es) t) (hkj : k ≤ j := by decide)
    (hst : starEach (e :: es) X.env = (false, eval e X.env) :: starEach es X.env := by rfl) (hpl : (backTo pos (starEach es X.env)).any (·.1) = false := by rfl)
    (ht : eval (.Call (.Attribute o m apos) (e :: es) [] pos) X.env = (do
      let ov ← eval o X.env
      standAt apos.atName
      let (f, first) ← holding [ov] (getMethod ov m pl)
      callWith pos f first (backTo pos (starEach (e :: es) X.env)) (backToKw pos (keywordEach [] X.env))) := by rfl) :
    PE X (.Call (.Attribute o m apos) (e :: es) [] pos) (tMeth C m sp [] E ta t) := by
  obtain ⟨f, fd, h1, h3, h4⟩ := G
  exact pe_meth he c h1 h4 (hr.mono hkj) h3 .nil hx ha hst hpl ht
theorem pe_mt0 {pl : Sem Bool} (c : Cls X.K C) (G : MtG X.prog X.w X.K X.mg X.base CX k C m ps sp) (hr : Room j X.A) (hx : Passes CX X E) (he : PE X o ta) (hkj : k ≤ j := by decide)
    (ht : eval (.Call (.Attribute o m apos) [] [] pos) X.env = (do
      let ov ← eval o X.env
      standAt apos.atName
      let (f, first) ← holding [ov] (getMethod ov m pl)
      callWith pos f first (backTo pos (starEach [] X.env)) (backToKw pos (keywordEach [] X.env))) := by rfl) :
    PE X (.Call (.Attribute o m apos) [] [] pos) (tMeth C m sp [] E ta tNil) := by
  obtain ⟨f, fd, h1, h3, h4⟩ := G
  exact pe_meth0 he c h1 h4 (hr.mono hkj) h3 .nil hx ht
theorem pe_gint {i : Int} (h : ∃ t, X.mg x = some (.int i t)) (hg : Gl X x := by rfl) (hd : (x == ("__debug__" : Str)) = false := by decide) : PE X (.Name x pos) (tC (.int i)) := by
  obtain ⟨t, h⟩ := h
  exact pe_glob hg h ⟨t, rfl⟩ hd
theorem pe_gref {a : Addr} (h : X.mg x = some (.ref a)) (hg : Gl X x := by rfl) (hd : (x == ("__debug__" : Str)) = false := by decide) : PE X (.Name x pos) (tC (.ref a)) := pe_glob hg h rfl hd
end

/-! ### rules whose reading names the written part: within a comprehension it is named outright -/
section
variable {X : Cx} {e a c : Expr} {f : Str} {pos : Pos} {ta tb : TE}
theorem pe_fldK (K : PySem.W.Frag) (he : PE X e ta) (hK : X.K = K := by rfl) (hb : attributeBase e f X.env (eval e X.env) = eval e X.env := by rfl) : PE X (.Attribute e f pos) (tFld K ta f) := by
  subst hK
  exact pe_fld he hb
theorem op_inK (K : PySem.W.Frag) (hK : X.K = K := by rfl) : OpR X (compareOp .In) (rIn K false) := by
  subst hK
  exact op_in_seq
theorem ix_lK (K : PySem.W.Frag) (ha : PE X a ta) (hb : PE X c tb) (hK : X.K = K := by rfl) (hs : PlainIx c := by exact fun _ _ => rfl) : PE X (.Subscript a c pos) (tOp (rIxL K) ta tb) := by
  subst hK
  exact pe_ix ix_list ha hb hs
theorem ix_tK (K : PySem.W.Frag) (ha : PE X a ta) (hb : PE X c tb) (hK : X.K = K := by rfl) (hs : PlainIx c := by exact fun _ _ => rfl) : PE X (.Subscript a c pos) (tOp (rIxT K) ta tb) := by
  subst hK
  exact pe_ix ix_tup ha hb hs
theorem op_neK (K : PySem.W.Frag) {k : Nat} (hr : Room k X.A) (hK : X.K = K := by rfl) : OpR X (compareOp .NotEq) (rNeD K) := by
  subst hK
  exact op_neD hr.units
end
/-! ### tests that are known -/
theorem if_t {c : Bool} {A B : Prop} (hc : c = true) (h : A) : if c = true then A else B := by
  rw [if_pos hc]
  exact h
theorem if_f {c : Bool} {A B : Prop} (hc : c = false) (h : B) : if c = true then A else B := by
  rw [hc, if_neg Bool.false_ne_true]
  exact h
theorem if_b {c : Bool} {A B : Prop} (h1 : c = true → A) (h2 : c = false → B) : if c = true then A else B := by
  cases c with
  | true => exact if_t rfl (h1 rfl)
  | false => exact if_f rfl (h2 rfl)

/-! ### comprehensions -/
def givenA {α : Type} (n : Nat) (f : Nat → Bool) (v : Nat → α) : List α := ((List.range n).filter f).map v
theorem givenA_yes {α : Type} {n : Nat} {f : Nat → Bool} {v : Nat → α} (h : f n = true) : givenA (n + 1) f v = givenA n f v ++ [v n] := by
  unfold givenA
  rw [List.range_succ, List.filter_append, List.map_append, List.filter_cons_of_pos h]
  rfl
theorem givenA_no {α : Type} {n : Nat} {f : Nat → Bool} {v : Nat → α} (h : f n = false) : givenA (n + 1) f v = givenA n f v := by
  unfold givenA
  rw [List.range_succ, List.filter_append, List.map_append, List.filter_cons_of_neg (by rw [h]; decide)]
  simp
theorem givenA_len {α : Type} (n : Nat) (f : Nat → Bool) (v : Nat → α) : (givenA n f v).length ≤ n := by
  unfold givenA
  rw [List.length_map]
  refine Nat.le_trans (List.length_filter_le _ _) ?_
  rw [List.length_range]
  exact Nat.le_refl _
theorem givenA_all {α : Type} (n : Nat) (v : Nat → α) : givenA n (fun _ => true) v = (List.range n).map v := by
  unfold givenA
  rw [List.filter_eq_self.mpr (fun _ _ => rfl)]
theorem small_line {n : Nat} (h : n ≤ 10000) : n < sizeLine := Nat.lt_of_le_of_lt h (by decide)
section
variable {α : Type} {J : It} {n : Nat} {G : Hp → Prop} {Y : Nat → Hp → V → Hp → Prop} {g : TG} {tt : TT} {te : TE} {vs : List Nat} {σ : L2.St} {F H1 : Hp} {D : Addr} {Qd : Hp → Prop}
theorem lc_rep (w : Walk J n G Y) (hD : H1 D = none) (s : Same F H1) (R : Rep α) (mo : Mono R) (f : Nat → Bool) (v : Nat → α) (hn : n ≤ 9000) (hG : ∀ H', Same F H' → G H')
    (turn : ∀ i F' H' x H'' (Qy : VK) (Qn : Hp → Prop), i < n → Gr F H1 F' H' → Y i H' x H'' → (f i = true → ∀ y F4 H4, Gr F' H' F4 H4 → R (v i) y F4 → Qy y H4) → (f i = false → ∀ F3 H3, Gr F' H' F3 H3 → Qn H3) →
      g x (wipe σ vs) H'' fun σ2 H2 => wipe σ2 vs = wipe σ vs ∧ tt σ2 H2 fun b H3 => if b = true then te σ2 H3 Qy else Qn H3)
    (kont : ∀ F' H', Gr F H1 F' H' → LsV R (givenA n f v) (.ref D) F' → Qd H') :
    ∃ W : Nat → Nat → Hp → Prop, (∃ m, W 0 m (upd H1 D (.lst []))) ∧ ∀ i m H, W i m H →
      (J.stop i H ∧ Qd H) ∨ (J.go i H ∧ ∃ Nx : Hp → Prop, (∀ H', Nx H' → ∃ m', m' < m ∧ W (i + 1) m' H') ∧ ∀ x H', J.yld i H x H' → g x (wipe σ vs) H' fun σ2 H2 => wipe σ2 vs = wipe σ vs ∧ tt σ2 H2 fun b H3 =>
        if b = true then te σ2 H3 fun y H4 => ∃ acc, H4 D = some (.lst acc) ∧ acc.length < sizeLine ∧ Nx (upd H4 D (.lst (acc ++ [y]))) else Nx H3) := by
  refine lc_it w (fun i H' => i ≤ n ∧ ∃ F' ys, Gr F H1 F' H' ∧ F' D = none ∧ H' D = some (.lst ys) ∧ L2R R F' (givenA i f v) ys) ?_ ?_ ?_ ?_
  · exact ⟨Nat.zero_le _, F, [], (Gr.refl s).mut hD, s.free hD, upd_same, L2R.nil⟩
  · rintro i H' _ ⟨_, F', ys, a, _⟩
    exact hG H' (a.f.trans a.s)
  · rintro i x H' H'' hi ⟨_, F', ys, a, fD, hD', r⟩ hy
    refine turn i F' H' x H'' _ _ hi a hy (fun hf y F4 H4 b hR => ?_) (fun hf F3 H3 b => ?_)
    · have f4 : F4 D = none := b.none hD' fD
      have hz : ys.length ≤ 9000 := by
        rw [r.len]
        exact Nat.le_trans (givenA_len i f v) (by omega)
      refine ⟨ys, b.h _ _ hD', small_line (by omega), hi, F4, ys ++ [y], (a.trans b).set hD f4, f4, upd_same, ?_⟩
      rw [givenA_yes hf]
      exact (r.mono mo b.f).snoc hR
    · refine ⟨hi, F3, ys, a.trans b, b.none hD' fD, b.h _ _ hD', ?_⟩
      rw [givenA_no hf]
      exact r.mono mo b.f
  · rintro H' ⟨_, F', ys, a, fD, hD', r⟩
    refine kont (upd F' D (.lst ys)) H' (a.know hD hD' fD) ⟨D, ys, rfl, upd_same, r.mono mo (same_new fD)⟩
/-- .. without ifs -/
theorem lc_map (w : Walk J n G Y) (hD : H1 D = none) (s : Same F H1) (R : Rep α) (mo : Mono R) (v : Nat → α) (hn : n ≤ 9000) (hG : ∀ H', Same F H' → G H')
    (turn : ∀ i F' H' x H'' (Qy : VK), i < n → Gr F H1 F' H' → Y i H' x H'' → (∀ y F4 H4, Gr F' H' F4 H4 → R (v i) y F4 → Qy y H4) →
      g x (wipe σ vs) H'' fun σ2 H2 => wipe σ2 vs = wipe σ vs ∧ (if true = true then te σ2 H2 Qy else True))
    (kont : ∀ F' H', Gr F H1 F' H' → LsV R ((List.range n).map v) (.ref D) F' → Qd H')
    (mg : ∀ x σ H (A B : L2.St → Hp → Prop), (∀ σ2 H2, A σ2 H2 → B σ2 H2) → g x σ H A → g x σ H B) :
    ∃ W : Nat → Nat → Hp → Prop, (∃ m, W 0 m (upd H1 D (.lst []))) ∧ ∀ i m H, W i m H →
      (J.stop i H ∧ Qd H) ∨ (J.go i H ∧ ∃ Nx : Hp → Prop, (∀ H', Nx H' → ∃ m', m' < m ∧ W (i + 1) m' H') ∧ ∀ x H', J.yld i H x H' → g x (wipe σ vs) H' fun σ2 H2 => wipe σ2 vs = wipe σ vs ∧ tYes σ2 H2 fun b H3 =>
        if b = true then te σ2 H3 fun y H4 => ∃ acc, H4 D = some (.lst acc) ∧ acc.length < sizeLine ∧ Nx (upd H4 D (.lst (acc ++ [y]))) else Nx H3) := by
  refine lc_rep w hD s R mo (fun _ => true) v hn hG (fun i F' H' x H'' Qy Qn hi a hy ky _ => ?_) (fun F' H' a l => kont F' H' a (by rw [givenA_all] at l; exact l))
  refine mg x _ _ _ _ (fun σ2 H2 ⟨e, q⟩ => ⟨e, ?_⟩) (turn i F' H' x H'' Qy hi a hy (ky rfl))
  rw [if_pos rfl] at q
  show (if true = true then te σ2 H2 Qy else Qn H2)
  rw [if_pos rfl]
  exact q
end
theorem mg_name {i : Nat} (x : V) (σ : L2.St) (H : Hp) (A B : L2.St → Hp → Prop) (h : ∀ σ2 H2, A σ2 H2 → B σ2 H2) (q : gName i x σ H A) : gName i x σ H B := h _ _ q
theorem mg_pair {K : PySem.W.Frag} {i j : Nat} (x : V) (σ : L2.St) (H : Hp) (A B : L2.St → Hp → Prop) (h : ∀ σ2 H2, A σ2 H2 → B σ2 H2) (q : gTup K 2 (gCons (gName i) (gCons (gName j) gNil)) x σ H A) : gTup K 2 (gCons (gName i) (gCons (gName j) gNil)) x σ H B := by
  obtain ⟨a, xs, e, s, l, v, r, e1, v2, r2, e2, e3, q⟩ := q
  exact ⟨a, xs, e, s, l, v, r, e1, v2, r2, e2, e3, h _ _ q⟩
/-- what a new pair of a walk is -/
theorem pair_new {K : PySem.W.Frag} {i j : Nat} {T : Addr} {x y : V} {σ : L2.St} {H : Hp} {A : L2.St → Hp → Prop} (h : H T = some (.tup [x, y])) (q : A ((σ.set i (some x)).set j (some y)) H) : gTup K 2 (gCons (gName i) (gCons (gName j) gNil)) (.ref T) σ H A :=
  ⟨T, [x, y], rfl, SqT.of h, rfl, x, [y], rfl, y, [], rfl, rfl, q⟩

/-! ### extend by a tuple -/
end LS
namespace PySem
open PySem.AutoSeq1
theorem ext_by_tuple (l b : Addr) (xs ys : Array Value) (n m : Nat) (od : Option Addr) (sl : Array (Option Value)) (h0 : ¬(!xs.isEmpty && Builtin.List.listTooLong (xs.size + ys.size)) = true) (h1 : xs.size ≤ sizeLine) (h2 : xs.size + ys.size ≤ sizeLine + 1) :
    Meets (Builtin.«list.extend» ⟨[.ref l, .ref b], []⟩) (fun _ R s => s.heap.get? l = some { cls := .type "list", dict := none, data := .seq xs n, slots := #[] } ∧ s.heap.get? b = some { cls := .type "tuple", dict := od, data := .seq ys m, slots := sl } ∧
      R (.ok (.ret Value.none)) { s with heap := s.heap.update l (Obj.mapSeq fun x => x ++ ys), toks := s.toks }) :=
  .of_wp fun prog w A R s h => by
    obtain ⟨hp, g, d, tk, os⟩ := s
    obtain ⟨hl, hb, h⟩ := h
    have f1 := idx_int
    have f2 := sub_tuple_tuple
    have f3 := sub_list_list
    have f4 := sub_tuple_list
    have f5 := sub_list_tuple
    have hz : (xs ++ ys).size ≤ sizeLine + 1 := by rw [Array.size_append]; exact h2
    wp_walk using (wpAny_updateSeq hl rfl (hz := h1) (_hz' := hz)), wpAny_loadPart' hl, wpAny_loadPart' hb
    exact ⟨_, rfl, h⟩
end PySem
namespace LS
open PySem PySem.Spec PyProof.Rows L2
open Uw62 (Board Frac)
def rExtT (K : PySem.W.Frag) : V → List V → Hp → VK → Prop := fun x vs H Q => ∃ l b xs zs, x = .ref l ∧ vs = [.ref b] ∧ H l = some (.lst xs) ∧ SqT K H b zs ∧ xs.length + zs.length ≤ sizeLine ∧ Q .non (upd H l (.lst (xs ++ zs)))
theorem mt_extT {X : Cx} : MtM X "list.extend" (rExtT X.K) := by
  intro pins s σ H x vs v us Q I rx rv h
  obtain ⟨l, b, xs, zs, rfl, rfl, hH, hB, hz, q⟩ := h
  cases rx
  obtain ⟨u, rfl, ru⟩ := rv.one
  cases ru
  obtain ⟨z, its, n, r, hl, e⟩ := I.lstM hH
  obtain ⟨its2, r2, ⟨o2, e2, c2, n2, d2⟩, z2⟩ := I.tuple hB
  have hl2 : zs.length = its2.length := r2.length
  have hsz : its.toArray.size + its2.toArray.size ≤ sizeLine := by rw [List.size_toArray, List.size_toArray]; omega
  have hlong : ¬ (!its.toArray.isEmpty && Builtin.List.listTooLong (its.toArray.size + its2.toArray.size)) = true := by
    rw [notLongL hsz, Bool.and_false]
    exact Bool.false_ne_true
  obtain ⟨oc, od, oda, osl⟩ := o2
  dsimp only at c2 d2
  subst c2 d2
  refine call_meets F.slot_list_extend ⟨_, e, rfl⟩ F.entry_list_extend (F.args_list_extend_2 _ _) (PySem.ext_by_tuple l b its.toArray its2.toArray n n2 od osl hlong (by rw [List.size_toArray]; omega) (by omega)) ⟨e, e2, ?_⟩
  refine ⟨.non, _, I.lset (its' := its ++ its2) hH e (by simp) (r.append r2) ?_, rfl, q⟩
  rw [List.length_append]
  omega
end LS

namespace LS
open PySem PySem.Spec PyProof.Rows L2
open Uw62 (Board Frac)

/-! ### the text -/
def topS (i : Nat) : Stmt := PySem.Challenge.pw_laddersnakes_s01_answers.main.body.getD i (.Pass ⟨0, 0, 0, 0⟩)
abbrev sCommon : Stmt := topS 8
abbrev sShare : Stmt := topS 9
abbrev sPlus : Stmt := topS 10
abbrev sLess : Stmt := topS 11
abbrev sTimes : Stmt := topS 12
abbrev sOver : Stmt := topS 13
abbrev sIsLess : Stmt := topS 14
abbrev sTotal : Stmt := topS 15

structure Txt (K : PySem.W.Frag) (mg : Str → Option Value) (CB CD CR aN aO aM : Addr) : Prop where
  n_abs : mg "abs" = none
  n_range : mg "range" = none
  n_len : mg "len" = none
  n_zip : mg "zip" = none
  n_enumerate : mg "enumerate" = none
  n_max : mg "max" = none
  n_sorted : mg "sorted" = none
  n_all : mg "all" = none
  n_list : mg "list" = none
  n_dict : mg "dict" = none
  n_int : mg "int" = none
  n_sum : mg "sum" = none
  gN : mg "NOUGHT" = some (.ref aN)
  gO : mg "ONE" = some (.ref aO)
  gM : mg "NUMBERS" = some (.ref aM)
  tN : ∀ H, SqT K H aN [.int 0, .int 1]
  tO : ∀ H, SqT K H aO [.int 1, .int 1]
  tM : ∀ H, SqT K H aM [.int 2, .int 2, .int 1, .int 2, .int 1, .int 1, .int 1, .int 1, .int 0, .int 1]
  gB : mg "Board" = some (.ref CB)
  gD : mg "Desk" = some (.ref CD)
  clB : Cls K CB
  clD : Cls K CD
  b_end : NoAttr K CB "end"
  b_rule : NoAttr K CB "rule"
  b_faces : NoAttr K CB "faces"
  b_jumps : NoAttr K CB "jumps"
  b_ends : NoAttr K CB "ends"
  d_own : NoAttr K CD "own"
  g_STAY : ∃ t, mg "STAY" = some (.int 0 t)
  g_TURN : ∃ t, mg "TURN" = some (.int 1 t)
  g_NOT_SO : ∃ t, mg "NOT_SO" = some (.int (-1) t)
  g_BAD_DIE : ∃ t, mg "BAD_DIE" = some (.int (-2) t)
  g_BAD_JUMP : ∃ t, mg "BAD_JUMP" = some (.int (-3) t)
  g_RING : ∃ t, mg "RING" = some (.int (-4) t)
  g_NO_PLACE : ∃ t, mg "NO_PLACE" = some (.int (-5) t)
  g_NOT_SURE : ∃ t, mg "NOT_SURE" = some (.int (-6) t)
  g_NEVER : ∃ t, mg "NEVER" = some (.int (-7) t)
  g_NONE_BETTER : ∃ t, mg "NONE_BETTER" = some (.int (-8) t)
  g_NO_JUMP : ∃ t, mg "NO_JUMP" = some (.int (-9) t)
  g_LEAST_END : ∃ t, mg "LEAST_END" = some (.int 2 t)
  g_MOST_END : ∃ t, mg "MOST_END" = some (.int 10 t)
  g_MOST_RULE : ∃ t, mg "MOST_RULE" = some (.int 2 t)
  g_MOST_FACES : ∃ t, mg "MOST_FACES" = some (.int 6 t)
  g_MOST_FACE : ∃ t, mg "MOST_FACE" = some (.int 12 t)
  g_MOST_THROWS : ∃ t, mg "MOST_THROWS" = some (.int 20 t)
  g_MOST_ROUNDS : ∃ t, mg "MOST_ROUNDS" = some (.int 6 t)
  g_BOARD : ∃ t, mg "BOARD" = some (.int 0 t)

section
variable {P : Program} {w : World} {K : PySem.W.Frag} {mg : Str → Option Value} {base : Heap} {CB CD CR aN aO aM : Addr}
/-- a def of the text keeps its promise: by its name -/
theorem fnG_of {x : Str} {st : Stmt} {f : Addr} {fd : FuncData} {CX : CXT} {k : Nat} {ps : List Str} {sp : Sp} (F : Fun K x x st f fd) (hm : mg x = some (.ref f)) (hb : Binds K fd ps []) (h : FnOk P w K mg base CX k f fd ps sp) : FnG P w K mg base CX k x ps sp := ⟨f, fd, hm, F.kp, hb, h⟩

/-! ### common -/
def spCommon : Sp := fun vs H Q _ => ∃ x y : Nat, vs = [.int (x : Int), .int (y : Int)] ∧ Q (.int ((Nat.gcd x y : Nat) : Int)) H
theorem scCommon : FnScope ["one", "other"] ["one", "other"] (defScope sCommon) := ⟨rfl, rfl, rfl, by decide +kernel, rfl, by decide +kernel, by decide +kernel⟩
theorem ok_common {f : Addr} {fd : FuncData} (F : Fun K "common" "common" sCommon f fd) : FnOk P w K mg base CX0 1 f fd ["one", "other"] spCommon := by
  refine F.ok scCommon (fun vs H Q E h => ?_) (fun cdv A outer s H vs Q E hr h => ?_)
  · obtain ⟨x, y, rfl, _⟩ := h
    rfl
  refine ⟨_, pss_cons (ps_while PassesOwn.never (pt_cmpR op_gt (pv 1) pe_int (nomark _)) (pss_one (ps_par (i := 0) (j := 1) rfl scCommon.nd rfl rfl (by decide) rfl rfl (pa_cons (pv 1) (pa_cons (pe_op op_mod (pv 0) (pv 1)) pa_nil)) (by rfl))))
    (pss_one (ps_ret (pv 0))), ?_⟩
  obtain ⟨x, y, rfl, k⟩ := h
  refine ⟨fun m σ H' => H' = H ∧ ∃ a c : Nat, c = m ∧ σ = [some (.int (a : Int)), some (.int (c : Int))] ∧ Nat.gcd a c = Nat.gcd x y, ⟨y, rfl, x, y, rfl, rfl, rfl⟩, ?_⟩
  rintro m σ H' ⟨rfl, a, c, rfl, rfl, hg⟩
  refine ⟨_, rfl, _, _, rfl, rfl, _, rfl, ?_⟩
  refine if_b (fun hc => ?_) (fun hc => ?_)
  · have hc' : 0 < c := by have := of_decide_eq_true hc; omega
    refine ⟨fun σ' H'' => H'' = H' ∧ σ' = [some (.int (c : Int)), some (.int ((a % c : Nat) : Int))], ?_, ?_⟩
    · rintro σ' H'' ⟨rfl, rfl⟩
      refine ⟨a % c, Nat.mod_lt _ hc', rfl, c, a % c, rfl, rfl, ?_⟩
      rw [← hg, Nat.gcd_comm a c, Nat.gcd_rec c a, Nat.gcd_comm]
    · refine ⟨_, rfl, _, rfl, _, rfl, _, _, rfl, rfl, by omega, _, _, rfl, rfl, ?_⟩
      show [some (V.int (c : Int)), some (V.int ((a : Int) % (c : Int)))] = _
      rw [← Int.natCast_emod]
  · have hc' : c = 0 := by have := of_decide_eq_false hc; omega
    subst hc'
    refine ⟨_, rfl, ?_⟩
    rw [← hg, Nat.gcd_zero_right] at k
    exact k

/-! ### share -/
def spShare (K : PySem.W.Frag) : Sp := fun vs H Q _ => ∃ (F : Hp) (u : Int) (l : Nat), vs = [.int u, .int (l : Int)] ∧ Same F H ∧ 0 < l ∧ l < 2 ^ 9000 ∧ Ret F H (FrV K (Uw62.frac u l)) Q
theorem scShare : FnScope ["above", "below", "by"] ["above", "below"] (defScope sShare) := ⟨rfl, rfl, rfl, by decide +kernel, rfl, by decide +kernel, by decide +kernel⟩
theorem ok_share {f : Addr} {fd : FuncData} (F : Fun K "share" "share" sShare f fd) (T : Txt K mg CB CD CR aN aO aM) (G1 : FnG P w K mg base CX0 1 "common" ["one", "other"] spCommon) : FnOk P w K mg base CX0 2 f fd ["above", "below"] (spShare K) := by
  refine F.ok scShare (fun vs H Q E h => ?_) (fun cdv A outer s H vs Q E hr h => ?_)
  · obtain ⟨F, x, y, rfl, _⟩ := h
    rfl
  refine ⟨_, pss_cons (ps_set (i := 2) scShare.nd rfl (Or.inl rfl) (pe_fn G1 hr pass0 (pa_cons (pe_callB call_abs (by rfl) T.n_abs (by decide +kernel) (pa_cons (pv 0) pa_nil)) (pa_cons (pv 1) pa_nil))))
    (pss_one (ps_ret (pe_tup (pa_cons (pe_op op_fdivW (pv 0) (pv 2)) (pa_cons (pe_op op_fdivW (pv 1) (pv 2)) pa_nil))))), ?_⟩
  obtain ⟨F, u, l, rfl, sF, hl, hl2, k⟩ := h
  have hg : 0 < Nat.gcd u.natAbs l := Nat.gcd_pos_of_pos_right _ hl
  have hgl : Nat.gcd u.natAbs l ≤ l := Nat.le_of_dvd hl (Nat.gcd_dvd_right _ _)
  have hd : ∀ z : Int, CDivW z ((Nat.gcd u.natAbs l : Nat) : Int) := fun z => wide_div (b := 9000) (by omega) (by rw [Int.natAbs_natCast]; omega) (by decide) (by decide)
  refine ⟨_, rfl, u, rfl, _, rfl, u.natAbs, l, ?_, ?_⟩
  · have e : (if u < 0 then -u else u) = ((u.natAbs : Nat) : Int) := by split <;> omega
    rw [e]
    rfl
  refine ⟨_, rfl, _, rfl, _, _, rfl, rfl, hd u, _, rfl, _, rfl, _, _, rfl, rfl, hd _, (by show 2 ≤ sizeLine; decide), fun p hp => ?_⟩
  refine k _ (upd F p _) _ ((Gr.refl sF).new hp) (FrV.tup ?_)
  rw [upd_same]
  show some (HO.tup [V.int (u / ((Nat.gcd u.natAbs l : Nat) : Int)), V.int ((l : Int) / ((Nat.gcd u.natAbs l : Nat) : Int))]) = some (HO.tup [V.int (u / ((Nat.gcd u.natAbs l : Nat) : Int)), V.int ((l / Nat.gcd u.natAbs l : Nat) : Int)])
  rw [Int.natCast_ediv]

/-! ### plus, times, less, over -/
theorem pos1 (k : Nat) : 0 < k + 1 := Nat.succ_pos k
theorem lt1 {a n : Nat} (h : n < 2 ^ a) : n < 2 ^ (a + 1) := by
  have := pow_mono (a := a) (c := a + 1) (by omega)
  omega
theorem mulW {i j : Int} {a c : Nat} (hi : i.natAbs < 2 ^ a) (hj : j.natAbs < 2 ^ c) (h : a + c ≤ 100000) : CMulW i j := wide_mul (lt1 hi) (lt1 hj) (pos1 a) (pos1 c) (by omega)
theorem Sz.l {k : Nat} {q : Frac} (h : Sz k q) : ((q.l : Nat) : Int).natAbs < 2 ^ k := by rw [Int.natAbs_natCast]; exact h.2.2
theorem bel {p q : Frac} {a c : Nat} (hp : Sz a p) (hq : Sz c q) (h : a + c ≤ 9000) : p.l * q.l < 2 ^ 9000 := Nat.lt_of_lt_of_le (szmul hp.2.2 hq.2.2) (pow_mono h)
def sp2 (K : PySem.W.Frag) (f : Frac → Frac → Frac) : Sp := fun vs H Q _ => ∃ (F : Hp) (x y : V) (p q : Frac) (a c : Nat), vs = [x, y] ∧ Same F H ∧ FrV K p x F ∧ FrV K q y F ∧ Sz a p ∧ Sz c q ∧ a + c ≤ 9000 ∧ Ret F H (FrV K (f p q)) Q
theorem scPlus : FnScope ["one", "other"] ["one", "other"] (defScope sPlus) := ⟨rfl, rfl, rfl, by decide +kernel, rfl, by decide +kernel, by decide +kernel⟩
theorem ok_plus {f : Addr} {fd : FuncData} (F : Fun K "plus" "plus" sPlus f fd) (G1 : FnG P w K mg base CX0 2 "share" ["above", "below"] (spShare K)) : FnOk P w K mg base CX0 3 f fd ["one", "other"] (sp2 K Uw62.plus) := by
  refine F.ok scPlus (fun vs H Q E h => ?_) (fun cdv A outer s H vs Q E hr h => ?_)
  · obtain ⟨F, x, y, p, q, a, c, rfl, _⟩ := h
    rfl
  refine ⟨_, pss_one (ps_ret (pe_fn G1 hr pass0 (pa_cons (pe_op op_add (pe_op op_mulW (pe_ix ix_tup (pv 0) pe_int (fun _ _ => rfl)) (pe_ix ix_tup (pv 1) pe_int (fun _ _ => rfl))) (pe_op op_mulW (pe_ix ix_tup (pv 1) pe_int (fun _ _ => rfl)) (pe_ix ix_tup (pv 0) pe_int (fun _ _ => rfl))))
    (pa_cons (pe_op op_mulW (pe_ix ix_tup (pv 0) pe_int (fun _ _ => rfl)) (pe_ix ix_tup (pv 1) pe_int (fun _ _ => rfl))) pa_nil)))), ?_⟩
  obtain ⟨F, x, y, p, q, a, c, rfl, sF, ⟨x', rfl, hx⟩, ⟨y', rfl, hy⟩, hp, hq, hac, k⟩ := h
  have hx := same_T sF hx
  have hy := same_T sF hy
  refine ⟨_, rfl, x', _, _, _, rfl, rfl, hx, rfl, _, rfl, y', _, _, _, rfl, rfl, hy, rfl, _, _, rfl, rfl, mulW hp.2.1 hq.l (by omega), ?_⟩
  refine ⟨_, rfl, y', _, _, _, rfl, rfl, hy, rfl, _, rfl, x', _, _, _, rfl, rfl, hx, rfl, _, _, rfl, rfl, mulW hq.2.1 hp.l (by omega), _, _, rfl, rfl, ?_⟩
  refine ⟨_, rfl, x', _, _, _, rfl, rfl, hx, rfl, _, rfl, y', _, _, _, rfl, rfl, hy, rfl, _, _, rfl, rfl, mulW hp.l hq.l (by omega), ?_⟩
  exact ⟨F, _, p.l * q.l, by rw [Int.natCast_mul]; rfl, sF, mulpos hp.1.1 hq.1.1, bel hp hq hac, k⟩
theorem scTimes : FnScope ["one", "other"] ["one", "other"] (defScope sTimes) := ⟨rfl, rfl, rfl, by decide +kernel, rfl, by decide +kernel, by decide +kernel⟩
theorem ok_times {f : Addr} {fd : FuncData} (F : Fun K "times" "times" sTimes f fd) (G1 : FnG P w K mg base CX0 2 "share" ["above", "below"] (spShare K)) : FnOk P w K mg base CX0 3 f fd ["one", "other"] (sp2 K Uw62.times) := by
  refine F.ok scTimes (fun vs H Q E h => ?_) (fun cdv A outer s H vs Q E hr h => ?_)
  · obtain ⟨F, x, y, p, q, a, c, rfl, _⟩ := h
    rfl
  refine ⟨_, pss_one (ps_ret (pe_fn G1 hr pass0 (pa_cons (pe_op op_mulW (pe_ix ix_tup (pv 0) pe_int (fun _ _ => rfl)) (pe_ix ix_tup (pv 1) pe_int (fun _ _ => rfl)))
    (pa_cons (pe_op op_mulW (pe_ix ix_tup (pv 0) pe_int (fun _ _ => rfl)) (pe_ix ix_tup (pv 1) pe_int (fun _ _ => rfl))) pa_nil)))), ?_⟩
  obtain ⟨F, x, y, p, q, a, c, rfl, sF, ⟨x', rfl, hx⟩, ⟨y', rfl, hy⟩, hp, hq, hac, k⟩ := h
  have hx := same_T sF hx
  have hy := same_T sF hy
  refine ⟨_, rfl, x', _, _, _, rfl, rfl, hx, rfl, _, rfl, y', _, _, _, rfl, rfl, hy, rfl, _, _, rfl, rfl, mulW hp.2.1 hq.2.1 (by omega), ?_⟩
  refine ⟨_, rfl, x', _, _, _, rfl, rfl, hx, rfl, _, rfl, y', _, _, _, rfl, rfl, hy, rfl, _, _, rfl, rfl, mulW hp.l hq.l (by omega), ?_⟩
  exact ⟨F, _, p.l * q.l, by rw [Int.natCast_mul]; rfl, sF, mulpos hp.1.1 hq.1.1, bel hp hq hac, k⟩
theorem neg_sz {q : Frac} {c : Nat} (h : Sz c q) : Sz c ⟨0 - q.u, q.l⟩ := by
  have e : (0 - q.u).natAbs = q.u.natAbs := by omega
  exact ⟨⟨h.1.1, by show Nat.gcd (0 - q.u).natAbs q.l = 1; rw [e]; exact h.1.2⟩, by show (0 - q.u).natAbs < _; rw [e]; exact h.2.1, h.2.2⟩
theorem plus_neg (p q : Frac) : Uw62.plus p ⟨0 - q.u, q.l⟩ = Uw62.minus p q := by
  unfold Uw62.plus Uw62.minus
  dsimp only
  congr 1
  rw [Int.zero_sub, Int.neg_mul]
  omega
theorem scLess : FnScope ["one", "other"] ["one", "other"] (defScope sLess) := ⟨rfl, rfl, rfl, by decide +kernel, rfl, by decide +kernel, by decide +kernel⟩
theorem ok_less {f : Addr} {fd : FuncData} (F : Fun K "less" "less" sLess f fd) (G1 : FnG P w K mg base CX0 3 "plus" ["one", "other"] (sp2 K Uw62.plus)) : FnOk P w K mg base CX0 4 f fd ["one", "other"] (sp2 K Uw62.minus) := by
  refine F.ok scLess (fun vs H Q E h => ?_) (fun cdv A outer s H vs Q E hr h => ?_)
  · obtain ⟨F, x, y, p, q, a, c, rfl, _⟩ := h
    rfl
  refine ⟨_, pss_one (ps_ret (pe_fn G1 hr pass0 (pa_cons (pv 0) (pa_cons (pe_tup (pa_cons (pe_op op_sub pe_int (pe_ix ix_tup (pv 1) pe_int (fun _ _ => rfl))) (pa_cons (pe_ix ix_tup (pv 1) pe_int (fun _ _ => rfl)) pa_nil))) pa_nil)))), ?_⟩
  obtain ⟨F, x, y, p, q, a, c, rfl, sF, hx, ⟨y', rfl, hy'⟩, hp, hq, hac, k⟩ := h
  have hy := same_T sF hy'
  refine ⟨_, rfl, _, rfl, y', _, _, _, rfl, rfl, hy, rfl, _, _, rfl, rfl, _, rfl, y', _, _, _, rfl, rfl, hy, rfl, (by show 2 ≤ sizeLine; decide), fun t ht => ?_⟩
  have g := (Gr.refl sF).new (o := .tup [.int (0 - q.u), .int (q.l : Int)]) ht
  refine ⟨_, _, _, p, ⟨0 - q.u, q.l⟩, a, c, rfl, g.s, FrV.mono _ _ _ _ g.f hx, FrV.tup upd_same, hp, neg_sz hq, hac, fun v F' H' g' hv => ?_⟩
  rw [plus_neg] at hv
  exact k v F' H' (g.trans g') hv
theorem inv_sz {q : Frac} {c : Nat} (h : Sz c q) (hu : q.u ≠ 0) : Sz c ⟨if q.u < 0 then 0 - (q.l : Int) else (q.l : Int), q.u.natAbs⟩ := by
  have e : (if q.u < 0 then 0 - (q.l : Int) else (q.l : Int)).natAbs = q.l := by split <;> omega
  refine ⟨⟨Int.natAbs_pos.mpr hu, ?_⟩, ?_, h.2.1⟩
  · show Nat.gcd (if q.u < 0 then 0 - (q.l : Int) else (q.l : Int)).natAbs q.u.natAbs = 1
    rw [e, Nat.gcd_comm]
    exact h.1.2
  · show (if q.u < 0 then 0 - (q.l : Int) else (q.l : Int)).natAbs < _
    rw [e]
    exact h.2.2
theorem times_inv (p q : Frac) : Uw62.times p ⟨if q.u < 0 then 0 - (q.l : Int) else (q.l : Int), q.u.natAbs⟩ = Uw62.by_ p q := by
  unfold Uw62.times Uw62.by_
  dsimp only
  congr 1
  split
  · rw [Int.zero_sub, Int.mul_neg, Int.mul_neg, Int.mul_one]
  · rw [Int.mul_one]
def spOver (K : PySem.W.Frag) : Sp := fun vs H Q _ => ∃ (F : Hp) (x y : V) (p q : Frac) (a c : Nat), vs = [x, y] ∧ Same F H ∧ FrV K p x F ∧ FrV K q y F ∧ Sz a p ∧ Sz c q ∧ a + c ≤ 9000 ∧ q.u ≠ 0 ∧ Ret F H (FrV K (Uw62.by_ p q)) Q
theorem scOver : FnScope ["one", "other"] ["one", "other"] (defScope sOver) := ⟨rfl, rfl, rfl, by decide +kernel, rfl, by decide +kernel, by decide +kernel⟩
theorem ok_over {f : Addr} {fd : FuncData} (F : Fun K "over" "over" sOver f fd) (G1 : FnG P w K mg base CX0 3 "times" ["one", "other"] (sp2 K Uw62.times)) : FnOk P w K mg base CX0 4 f fd ["one", "other"] (spOver K) := by
  refine F.ok scOver (fun vs H Q E h => ?_) (fun cdv A outer s H vs Q E hr h => ?_)
  · obtain ⟨F, x, y, p, q, a, c, rfl, _⟩ := h
    rfl
  refine ⟨_, pss_cons (ps_if (pt_cmpR op_lt (pe_ix ix_tup (pv 1) pe_int (fun _ _ => rfl)) pe_int (nomark _))
      (pss_one (ps_ret (pe_fn G1 hr pass0 (pa_cons (pv 0) (pa_cons (pe_tup (pa_cons (pe_op op_sub pe_int (pe_ix ix_tup (pv 1) pe_int (fun _ _ => rfl))) (pa_cons (pe_op op_sub pe_int (pe_ix ix_tup (pv 1) pe_int (fun _ _ => rfl))) pa_nil))) pa_nil))))) pss_nil)
    (pss_one (ps_ret (pe_fn G1 hr pass0 (pa_cons (pv 0) (pa_cons (pe_tup (pa_cons (pe_ix ix_tup (pv 1) pe_int (fun _ _ => rfl)) (pa_cons (pe_ix ix_tup (pv 1) pe_int (fun _ _ => rfl)) pa_nil))) pa_nil))))), ?_⟩
  obtain ⟨F, x, y, p, q, a, c, rfl, sF, hx, ⟨y', rfl, hy'⟩, hp, hq, hac, hu, k⟩ := h
  have hy := same_T sF hy'
  refine ⟨_, rfl, y', _, _, _, rfl, rfl, hy, rfl, _, _, rfl, rfl, _, rfl, ?_⟩
  have fin : ∀ (t : Addr) (i j : Int), H t = none → i = (if q.u < 0 then 0 - (q.l : Int) else (q.l : Int)) → j = ((q.u.natAbs : Nat) : Int) → sp2 K Uw62.times ([x] ++ [.ref t]) (upd H t (.tup [.int i, .int j])) Q E0 := by
    intro t i j ht ei ej
    have g := (Gr.refl sF).new (o := .tup [.int i, .int j]) ht
    refine ⟨_, _, _, p, ⟨if q.u < 0 then 0 - (q.l : Int) else (q.l : Int), q.u.natAbs⟩, a, c, rfl, g.s, FrV.mono _ _ _ _ g.f hx, FrV.tup (by rw [upd_same, ei, ej]), hp, inv_sz hq hu, hac, fun v F' H' g' hv => ?_⟩
    rw [times_inv] at hv
    exact k v F' H' (g.trans g') hv
  refine if_b (fun hc => ?_) (fun hc => ?_)
  · have hc' := of_decide_eq_true hc
    refine ⟨_, rfl, _, rfl, y', _, _, _, rfl, rfl, hy, rfl, _, _, rfl, rfl, _, rfl, y', _, _, _, rfl, rfl, hy, rfl, _, _, rfl, rfl, (by show 2 ≤ sizeLine; decide), fun t ht => ?_⟩
    exact fin t _ _ ht (by rw [if_pos hc']) (by omega)
  · have hc' := of_decide_eq_false hc
    refine ⟨_, rfl, _, rfl, y', _, _, _, rfl, rfl, hy, rfl, _, rfl, y', _, _, _, rfl, rfl, hy, rfl, (by show 2 ≤ sizeLine; decide), fun t ht => ?_⟩
    exact fin t _ _ ht (by rw [if_neg hc']) (by omega)
def spIsLess (K : PySem.W.Frag) : Sp := fun vs H Q _ => ∃ (x y : V) (p q : Frac) (a c : Nat), vs = [x, y] ∧ FrV K p x H ∧ FrV K q y H ∧ Sz a p ∧ Sz c q ∧ a + c ≤ 9000 ∧ Q (.bl (Uw62.less p q)) H
theorem scIsLess : FnScope ["one", "other"] ["one", "other"] (defScope sIsLess) := ⟨rfl, rfl, rfl, by decide +kernel, rfl, by decide +kernel, by decide +kernel⟩
theorem ok_isless {f : Addr} {fd : FuncData} (F : Fun K "is_less" "is_less" sIsLess f fd) : FnOk P w K mg base CX0 1 f fd ["one", "other"] (spIsLess K) := by
  refine F.ok scIsLess (fun vs H Q E h => ?_) (fun cdv A outer s H vs Q E hr h => ?_)
  · obtain ⟨x, y, p, q, a, c, rfl, _⟩ := h
    rfl
  refine ⟨_, pss_one (ps_ret (pe_cmpR op_lt (pe_op op_mulW (pe_ix ix_tup (pv 0) pe_int (fun _ _ => rfl)) (pe_ix ix_tup (pv 1) pe_int (fun _ _ => rfl))) (pe_op op_mulW (pe_ix ix_tup (pv 1) pe_int (fun _ _ => rfl)) (pe_ix ix_tup (pv 0) pe_int (fun _ _ => rfl))) (nomark _))), ?_⟩
  obtain ⟨x, y, p, q, a, c, rfl, ⟨x', rfl, hx⟩, ⟨y', rfl, hy⟩, hp, hq, hac, k⟩ := h
  refine ⟨_, rfl, x', _, _, _, rfl, rfl, hx, rfl, _, rfl, y', _, _, _, rfl, rfl, hy, rfl, _, _, rfl, rfl, mulW hp.2.1 hq.l (by omega), ?_⟩
  refine ⟨_, rfl, y', _, _, _, rfl, rfl, hy, rfl, _, rfl, x', _, _, _, rfl, rfl, hx, rfl, _, _, rfl, rfl, mulW hq.2.1 hp.l (by omega), _, _, rfl, rfl, k⟩
/-- the sizes of a sum's steps -/
def spTotal (K : PySem.W.Frag) : Sp := fun vs H Q _ => ∃ (F : Hp) (x : V) (l : List Frac) (c : Nat), vs = [x] ∧ Same F H ∧ LsV (FrV K) l x F ∧ (∀ q ∈ l, Sz c q) ∧ 1 + l.length * (c + 1) + c ≤ 9000 ∧ Ret F H (FrV K (Uw62.sum l)) Q
theorem scTotal : FnScope ["some", "found", "one"] ["some"] (defScope sTotal) := ⟨rfl, rfl, rfl, by decide +kernel, rfl, by decide +kernel, by decide +kernel⟩
theorem sum_take {l : List Frac} {i : Nat} {x : Frac} (h : l[i]? = some x) : Uw62.sum (l.take (i + 1)) = Uw62.plus (Uw62.sum (l.take i)) x := by
  unfold Uw62.sum
  obtain ⟨hi, rfl⟩ := List.getElem?_eq_some_iff.mp h
  rw [List.take_succ, List.getElem?_eq_getElem hi, List.foldl_append]
  rfl
theorem ok_total {f : Addr} {fd : FuncData} (F : Fun K "total" "total" sTotal f fd) (T : Txt K mg CB CD CR aN aO aM) (G1 : FnG P w K mg base CX0 3 "plus" ["one", "other"] (sp2 K Uw62.plus)) : FnOk P w K mg base CX0 4 f fd ["some"] (spTotal K) := by
  refine F.ok scTotal (fun vs H Q E h => ?_) (fun cdv A outer s H vs Q E hr h => ?_)
  · obtain ⟨F, x, l, c, rfl, _⟩ := h
    rfl
  refine ⟨_, pss_cons (ps_set (i := 1) scTotal.nd rfl (Or.inl rfl) (pe_gref T.gN)) (pss_cons (ps_for PassesOwn.never rfl (pi_list (pv 0)) (pg_name (i := 2) scTotal.nd rfl (Or.inl rfl))
    (pss_one (ps_set (i := 1) scTotal.nd rfl (Or.inl rfl) (pe_fn G1 hr pass0 (pa_cons (pv 1) (pa_cons (pv 2) pa_nil)))))) (pss_one (ps_ret (pv 1)))), ?_⟩
  obtain ⟨F, x, l, c, rfl, sF, ⟨a, xs, rfl, ha, hl⟩, hc, hz, k⟩ := h
  refine ⟨_, rfl, a, rfl, ⟨_, SqL.of (sF _ _ ha)⟩, for_it (walk_list (K := K) (a := a) (xs := xs)) (fun i σ H' => ∃ F' v o, Gr F H F' H' ∧ σ = [some (.ref a), some v, o] ∧ FrV K (Uw62.sum (l.take i)) v F' ∧ Sz (1 + i * (c + 1)) (Uw62.sum (l.take i)))
    ⟨F, _, none, Gr.refl sF, rfl, ⟨aN, rfl, T.tN F⟩, by rw [Nat.zero_mul]; exact zero_sz⟩ ?_ ?_ ?_⟩
  · rintro i σ H' _ ⟨F', v, o, g, _⟩
    exact SqL.of (g.s _ _ (g.f _ _ ha))
  · rintro i y σ H' H'' hi ⟨F', v, o, g, rfl, hv, sv⟩ ⟨rfl, hy⟩
    obtain ⟨q, hq, ry⟩ := hl.item hy
    refine ⟨_, rfl, _, rfl, F', v, y, _, q, 1 + i * (c + 1), c, rfl, g.s, hv, FrV.mono _ _ _ _ g.f ry, sv, hc q (List.mem_of_getElem? hq), ?_, fun v2 F2 H2 g2 hv2 => ?_⟩
    · have h1 : i * (c + 1) ≤ l.length * (c + 1) := Nat.mul_le_mul_right _ (by rw [← hl.len]; exact Nat.le_of_lt hi)
      omega
    · refine ⟨F2, v2, _, g.trans g2, rfl, ?_, ?_⟩
      · rw [sum_take hq]; exact hv2
      · rw [sum_take hq]
        have := plus_sz sv (hc q (List.mem_of_getElem? hq))
        rw [show 1 + (i + 1) * (c + 1) = 1 + i * (c + 1) + c + 1 by rw [Nat.succ_mul]; omega]
        exact this
  · rintro σ H' ⟨F', v, o, g, rfl, hv, sv⟩
    rw [hl.len, List.take_length] at hv
    exact ⟨_, rfl, k v F' H' g hv⟩
end
end LS

namespace LS
open PySem PySem.Spec PyProof.Rows L2
open Uw62 (Board Frac)

abbrev sBInit : Stmt := inClass (topS 3) 0
abbrev sThrown : Stmt := inClass (topS 3) 1
abbrev sBLands : Stmt := inClass (topS 3) 2
abbrev sOnward : Stmt := inClass (topS 3) 3
abbrev sComeTo : Stmt := inClass (topS 3) 4
abbrev sIsSure : Stmt := inClass (topS 3) 5
abbrev sWith : Stmt := inClass (topS 3) 6
abbrev sWithout : Stmt := inClass (topS 3) 7
abbrev sHasRing : Stmt := topS 4

/-! ### how a board lies -/
def kvsOf (l : List (Nat × Nat)) : List (Key × V) := l.map fun j => (Sum.inl (j.1 : Int), .int (j.2 : Int))
def bF (b : Board) (pf pj pe : Addr) : List (Str × V) := [("end", .int (b.n : Int)), ("rule", .int (b.rule : Int)), ("faces", .ref pf), ("jumps", .ref pj), ("ends", .ref pe)]
def PrR : Rep (Nat × Nat) := fun j v F => ∃ p, v = .ref p ∧ F p = some (.tup [.int (j.1 : Int), .int (j.2 : Int)])
theorem PrR.mono : Mono PrR := fun _ _ _ _ s ⟨p, e, h⟩ => ⟨p, e, s _ _ h⟩
abbrev PrsV : Rep (List (Nat × Nat)) := LsV PrR
structure BdAt (CB : Addr) (b : Board) (a dx pf pj pe : Addr) (F : Hp) : Prop where
  obj : F a = some (.ins CB dx (bF b pf pj pe))
  faces : F pf = some (.lst ((ofNats b.faces).map V.int))
  jumps : PrsV b.jumps (.ref pj) F
  ends : F pe = some (.dK (kvsOf b.jumps))
def BdV (CB : Addr) : Rep Board := fun b v F => ∃ a dx pf pj pe, v = .ref a ∧ BdAt CB b a dx pf pj pe F
theorem BdAt.mono {CB : Addr} {b : Board} {a dx pf pj pe : Addr} {F F' : Hp} (s : Same F F') (h : BdAt CB b a dx pf pj pe F) : BdAt CB b a dx pf pj pe F' := ⟨s _ _ h.obj, s _ _ h.faces, LsV.mono PrR.mono _ _ _ _ s h.jumps, s _ _ h.ends⟩
theorem BdV.mono {CB : Addr} : Mono (BdV CB) := fun _ _ _ _ s ⟨a, dx, pf, pj, pe, e, h⟩ => ⟨a, dx, pf, pj, pe, e, h.mono s⟩
theorem lk0 {k : Str} {v : V} {r : List (Str × V)} : List.lookup k ((k, v) :: r) = some v := by
  have e : (k == k) = true := beq_self_eq_true k
  simp only [List.lookup, e]
theorem lk1 {k g : Str} {v : V} {r : List (Str × V)} (h : (k == g) = false) : List.lookup k ((g, v) :: r) = List.lookup k r := by
  simp only [List.lookup, h]
section
variable (b : Board) (pf pj pe : Addr)
theorem bF_end : (bF b pf pj pe).lookup ("end" : Str) = some (.int (b.n : Int)) := lk0
theorem bF_rule : (bF b pf pj pe).lookup ("rule" : Str) = some (.int (b.rule : Int)) := (lk1 (by decide +kernel)).trans lk0
theorem bF_faces : (bF b pf pj pe).lookup ("faces" : Str) = some (.ref pf) := (lk1 (by decide +kernel)).trans ((lk1 (by decide +kernel)).trans lk0)
theorem bF_jumps : (bF b pf pj pe).lookup ("jumps" : Str) = some (.ref pj) := (lk1 (by decide +kernel)).trans ((lk1 (by decide +kernel)).trans ((lk1 (by decide +kernel)).trans lk0))
theorem bF_ends : (bF b pf pj pe).lookup ("ends" : Str) = some (.ref pe) := (lk1 (by decide +kernel)).trans ((lk1 (by decide +kernel)).trans ((lk1 (by decide +kernel)).trans ((lk1 (by decide +kernel)).trans lk0)))
theorem bF_no {m : Str} (h : (m == ("end" : Str)) = false ∧ (m == ("rule" : Str)) = false ∧ (m == ("faces" : Str)) = false ∧ (m == ("jumps" : Str)) = false ∧ (m == ("ends" : Str)) = false) : (bF b pf pj pe).lookup m = none :=
  (lk1 h.1).trans ((lk1 h.2.1).trans ((lk1 h.2.2.1).trans ((lk1 h.2.2.2.1).trans ((lk1 h.2.2.2.2).trans rfl))))
end
/-! ### dicts of jumps -/
theorem kvs_at (l : List (Nat × Nat)) (p : Nat) : valV (kvsOf l) (Sum.inl (p : Int)) = (jAt l p).map fun q => V.int (q : Int) := by
  induction l with
  | nil => rfl
  | cons j r ih =>
    by_cases h : j.1 = p
    · show valV ((Sum.inl (j.1 : Int), V.int (j.2 : Int)) :: kvsOf r) _ = _
      rw [valV_pos (by rw [h])]
      unfold jAt
      rw [List.find?_cons_of_pos (by simpa using h)]
      rfl
    · show valV ((Sum.inl (j.1 : Int), V.int (j.2 : Int)) :: kvsOf r) _ = _
      rw [valV_neg (fun e => h (by have := Sum.inl.inj e; omega)), ih]
      unfold jAt
      rw [List.find?_cons_of_neg (by simpa using h)]
theorem merge_snoc (l : List (Nat × Nat)) (j : Nat × Nat) (h : jAt l j.1 = none) : putK (kvsOf l) (Sum.inl (j.1 : Int)) (.int (j.2 : Int)) = kvsOf (l ++ [j]) := by
  rw [putK_new _ (by rw [kvs_at, h]; rfl)]
  unfold kvsOf
  rw [List.map_append]
  rfl
theorem jAt_none {l : List (Nat × Nat)} {p : Nat} (h : ∀ j ∈ l, j.1 ≠ p) : jAt l p = none := by
  unfold jAt
  rw [Option.map_eq_none_iff, List.find?_eq_none]
  intro j hj
  simpa using h j hj
theorem merge_go : ∀ (r l : List (Nat × Nat)), ((l ++ r).map fun j => j.1).Pairwise (· ≠ ·) → mergeK (kvsOf l) (kvsOf r) = kvsOf (l ++ r)
  | [], l, _ => by rw [List.append_nil]; rfl
  | j :: r, l, h => by
    have e : l ++ j :: r = l ++ [j] ++ r := by simp
    show mergeK (putK (kvsOf l) (Sum.inl (j.1 : Int)) (.int (j.2 : Int))) (kvsOf r) = _
    rw [merge_snoc l j, merge_go r (l ++ [j]) (by rw [← e]; exact h), ← e]
    refine jAt_none fun i hi => ?_
    rw [List.map_append, List.pairwise_append] at h
    exact h.2.2 i.1 (List.mem_map.mpr ⟨i, hi, rfl⟩) j.1 (List.mem_map.mpr ⟨j, List.mem_cons_self, rfl⟩)
theorem merge_all {l : List (Nat × Nat)} (h : (l.map fun j => j.1).Pairwise (· ≠ ·)) : mergeK [] (kvsOf l) = kvsOf l := merge_go l [] (by rw [List.nil_append]; exact h)
theorem length_putK_old {kvs : List (Key × V)} {k : Key} {v : V} (h : (valV kvs k).isSome = true) : (putK kvs k v).length = kvs.length := by
  unfold putK
  rw [valV_any, h, if_pos rfl, List.length_map]
theorem merge_less : ∀ (r acc : List (Key × V)), (mergeK acc r).length ≤ acc.length + r.length
  | [], acc => Nat.le_refl _
  | j :: r, acc => by
    have := merge_less r (putK acc j.1 j.2)
    have h2 := length_putK acc j.1 j.2
    show (mergeK (putK acc j.1 j.2) r).length ≤ _
    rw [List.length_cons]
    omega
theorem merge_dup : ∀ (r l : List (Nat × Nat)), (l.map fun j => j.1).Pairwise (· ≠ ·) → ¬ ((l ++ r).map fun j => j.1).Pairwise (· ≠ ·) → (mergeK (kvsOf l) (kvsOf r)).length < l.length + r.length
  | [], l, h, hn => absurd (by rw [List.append_nil]; exact h) hn
  | j :: r, l, h, hn => by
    have e : l ++ j :: r = l ++ [j] ++ r := by simp
    show (mergeK (putK (kvsOf l) (Sum.inl (j.1 : Int)) (.int (j.2 : Int))) (kvsOf r)).length < _
    cases q : jAt l j.1 with
    | none =>
      rw [merge_snoc l j q]
      have hl : ((l ++ [j]).map fun j => j.1).Pairwise (· ≠ ·) := by
        rw [List.map_append, List.pairwise_append]
        refine ⟨h, by simp, fun x hx y hy => ?_⟩
        obtain ⟨i, hi, rfl⟩ := List.mem_map.mp hx
        simp at hy
        subst hy
        exact jumpAt_none (b := ⟨0, 0, [], l⟩) q i hi
      have := merge_dup r (l ++ [j]) hl (by rw [← e]; exact hn)
      rw [List.length_append, List.length_singleton] at this
      rw [List.length_cons]
      omega
    | some z =>
      have h1 := merge_less (kvsOf r) (putK (kvsOf l) (Sum.inl (j.1 : Int)) (.int (j.2 : Int)))
      rw [length_putK_old (by rw [kvs_at, q]; rfl)] at h1
      have h2 : (kvsOf l).length = l.length := by simp [kvsOf]
      have h3 : (kvsOf r).length = r.length := by simp [kvsOf]
      rw [List.length_cons]
      omega
theorem prs_dict {K : PySem.W.Frag} {l : List (Nat × Nat)} {F : Hp} {xs : List V} (h : L2R PrR F l xs) : ∃ ps : List Addr, xs = ps.map V.ref ∧ Paired (fun p kv => SqT K F p [kV kv.1, kv.2]) ps (kvsOf l) := by
  induction l generalizing xs with
  | nil =>
    have := h.len
    have e : xs = [] := List.eq_nil_of_length_eq_zero this
    exact ⟨[], e, .nil⟩
  | cons j r ih =>
    cases xs with
    | nil => have := h.len; simp at this
    | cons y ys =>
      have hr : L2R PrR F r ys := ⟨by have := h.len; simpa using this, fun i x e => by
        obtain ⟨z, h1, h2⟩ := h.get (i + 1) x (by simpa using e)
        exact ⟨z, by simpa using h1, h2⟩⟩
      obtain ⟨ps, e1, e2⟩ := ih hr
      obtain ⟨z, h1, p, hz, hp⟩ := h.get 0 j rfl
      have : y = z := by simpa using h1
      subst this
      subst hz
      exact ⟨p :: ps, by rw [e1]; rfl, .cons (SqT.of hp) e2⟩
theorem inV_nats (t : Nat) (l : List Nat) : inV (.int (t : Int)) ((ofNats l).map V.int) = l.contains t := by
  unfold inV
  induction l with
  | nil => rfl
  | cons x r ih =>
    show (eqV (V.int (x : Int)) (V.int (t : Int)) || ((ofNats r).map V.int).any fun y => eqV y (V.int (t : Int))) = _
    rw [ih, List.contains_cons]
    congr 1
    show ((x : Int) == (t : Int)) = (t == x)
    by_cases h : x = t
    · subst h; simp
    · have h2 : ¬ t = x := fun e => h e.symm
      have h3 : ¬ (x : Int) = (t : Int) := by omega
      rw [beq_eq_false_iff_ne.mpr h3, beq_eq_false_iff_ne.mpr h2]
theorem flat_ints (l : List Int) : (l.map V.int).all flatV = true := by
  rw [List.all_map]
  exact List.all_eq_true.mpr fun _ _ => rfl
/-- an instance just made -/
theorem gr_made {F H F' H' : Hp} {x dx C : Addr} (sF : Same F H) (hx : H x = none) (hdx : H dx = none) (k1 : ∀ b o, (upd (upd H dx (.own x)) x (.ins C dx [])) b = some o → b ≠ x → H' b = some o) (k2 : Same F F') (k3 : Same F' H')
    (k4 : ∀ b o, F' b = some o → F b = some o ∨ b = x ∨ (upd (upd H dx (.own x)) x (.ins C dx [])) b = none) : Gr F H F' H' := by
  refine ⟨fun b o e => ?_, k2, k3, fun b o e => ?_⟩
  · have h1 : b ≠ x := ne_of_none e hx
    have h2 : b ≠ dx := ne_of_none e hdx
    exact k1 b o (by rw [upd_ne h1, upd_ne h2]; exact e) h1
  · rcases k4 b o e with h | h | h
    · exact .inl h
    · subst h; exact .inr hx
    · by_cases h1 : b = x
      · subst h1; exact .inr hx
      · rw [upd_ne h1] at h
        by_cases h2 : b = dx
        · subst h2; exact .inr hdx
        · rw [upd_ne h2] at h; exact .inr h

section
variable {P : Program} {w : World} {K : PySem.W.Frag} {mg : Str → Option Value} {base : Heap} {CB CD CR aN aO aM : Addr}

/-! ### Board.__init__ -/
def spBInit (CB : Addr) : Sp := fun vs H Q _ => ∃ (F : Hp) (p dx : Addr) (b : Board) (vf vj : V), vs = [.ref p, .int (b.n : Int), .int (b.rule : Int), vf, vj] ∧ Same F H ∧ H p = some (.ins CB dx []) ∧ F p = none ∧ NsV b.faces vf F ∧ PrsV b.jumps vj F ∧ (b.jumps.map fun j => j.1).Pairwise (· ≠ ·) ∧
  ∀ F' H' : Hp, (∀ c o, H c = some o → c ≠ p → H' c = some o) → Same F F' → Same F' H' → (∀ c o, F' c = some o → F c = some o ∨ c = p ∨ H c = none) → BdV CB b (.ref p) F' → Q .non H'
theorem scBInit : FnScope ["self", "end", "rule", "faces", "jumps"] ["self", "end", "rule", "faces", "jumps"] (defScope sBInit) := ⟨rfl, rfl, rfl, by decide +kernel, rfl, by decide +kernel, by decide +kernel⟩
theorem put_a {f : Str} {v x : V} {r : List (Str × V)} : putF f v ((f, x) :: r) = (f, v) :: r := if_pos rfl
theorem put_b {f g : Str} {v x : V} {r : List (Str × V)} (h : ¬ g = f) : putF f v ((g, x) :: r) = (g, x) :: putF f v r := if_neg h
theorem bF_new (b : Board) (pf pj pe : Addr) : putF "ends" (.ref pe) (putF "jumps" (.ref pj) (putF "faces" (.ref pf) (putF "rule" (.int (b.rule : Int)) (putF "end" (.int (b.n : Int)) [])))) = bF b pf pj pe := by
  have n0 : ¬ ("end" : Str) = "rule" := by decide +kernel
  have n1 : ¬ ("end" : Str) = "faces" := by decide +kernel
  have n2 : ¬ ("rule" : Str) = "faces" := by decide +kernel
  have n3 : ¬ ("end" : Str) = "jumps" := by decide +kernel
  have n4 : ¬ ("rule" : Str) = "jumps" := by decide +kernel
  have n5 : ¬ ("faces" : Str) = "jumps" := by decide +kernel
  have n6 : ¬ ("end" : Str) = "ends" := by decide +kernel
  have n7 : ¬ ("rule" : Str) = "ends" := by decide +kernel
  have n8 : ¬ ("faces" : Str) = "ends" := by decide +kernel
  have n9 : ¬ ("jumps" : Str) = "ends" := by decide +kernel
  simp only [putF, n0, n1, n2, n3, n4, n5, n6, n7, n8, n9, if_false]
  rfl
theorem ok_binit {f : Addr} {fd : FuncData} (F : Fun K "__init__" "Board.__init__" sBInit f fd) (T : Txt K mg CB CD CR aN aO aM) : FnOk P w K mg base CX0 1 f fd ["self", "end", "rule", "faces", "jumps"] (spBInit CB) := by
  refine F.ok scBInit (fun vs H Q E h => ?_) (fun cdv A outer s H vs Q E hr h => ?_)
  · obtain ⟨F, p, dx, b, vf, vj, rfl, _⟩ := h
    rfl
  refine ⟨_, pss_cons (ps_fld (pv 0) (pv 1) rfl) (pss_cons (ps_fld (pv 0) (pv 2) rfl)
    (pss_cons (ps_fld (pv 0) (pe_callTy call_list_of (by rfl) T.n_list (by decide +kernel) (pa_cons (pv 3) pa_nil)) rfl)
    (pss_cons (ps_fld (pv 0) (pe_callTy call_list_of (by rfl) T.n_list (by decide +kernel) (pa_cons (pv 4) pa_nil)) rfl)
    (pss_one (ps_fld (pv 0) (pe_callTy (call_dictP rfl) (by rfl) T.n_dict (by decide +kernel) (pa_cons (pv 4) pa_nil)) rfl))))), ?_⟩
  obtain ⟨F, p, dx, b, vf, vj, rfl, sF, hp, fp, hvf, hvj, hd, k⟩ := h
  obtain ⟨af, rfl, hf⟩ := hvf.at
  obtain ⟨aj, xs, rfl, hj, hxs⟩ := hvj
  have naf : af ≠ p := ne_of_none hf fp
  have naj : aj ≠ p := ne_of_none hj fp
  -- self.end, self.rule
  refine ⟨_, rfl, _, rfl, p, CB, dx, [], rfl, hp, T.clB, T.b_end, (by show 0 < 1000; decide), ?_⟩
  refine ⟨_, rfl, _, rfl, p, CB, dx, _, rfl, upd_same, T.clB, T.b_rule, (by show 1 < 1000; decide), ?_⟩
  rw [upd_upd]
  -- self.faces
  refine ⟨_, rfl, af, _, rfl, .inl (SqL.of (by rw [upd_ne naf]; exact sF _ _ hf)), fun pf hpf => ?_⟩
  have npf : pf ≠ p := fun e => by subst e; rw [upd_same] at hpf; cases hpf
  rw [upd_ne npf] at hpf
  refine ⟨_, rfl, p, CB, dx, _, rfl, by rw [upd_ne (Ne.symm npf)]; exact upd_same, T.clB, T.b_faces, (by show 2 < 1000; decide), ?_⟩
  -- self.jumps
  have e1 : ∀ c o, H c = some o → c ≠ p → ∀ o1 o2 o3, upd (upd (upd H p o1) pf o2) p o3 c = some o := fun c o hc hcp o1 o2 o3 => by
    rw [upd_ne hcp, upd_ne (ne_of_none hc hpf), upd_ne hcp]; exact hc
  refine ⟨_, rfl, aj, _, rfl, .inl (SqL.of (e1 _ _ (sF _ _ hj) naj _ _ _)), fun pj hpj => ?_⟩
  have npj : pj ≠ p := fun e => by subst e; rw [upd_same] at hpj; cases hpj
  rw [upd_ne npj] at hpj
  have npjf : pj ≠ pf := fun e => by subst e; rw [upd_same] at hpj; cases hpj
  rw [upd_ne npjf, upd_ne npj] at hpj
  refine ⟨_, rfl, p, CB, dx, _, rfl, by rw [upd_ne (Ne.symm npj)]; exact upd_same, T.clB, T.b_jumps, (by show 3 < 1000; decide), ?_⟩
  -- self.ends
  have e2 : ∀ c o, H c = some o → c ≠ p → ∀ o1 o2 o3 o4 o5, upd (upd (upd (upd (upd H p o1) pf o2) p o3) pj o4) p o5 c = some o := fun c o hc hcp o1 o2 o3 o4 o5 => by
    rw [upd_ne hcp, upd_ne (ne_of_none hc hpj)]; exact e1 c o hc hcp _ _ _
  have sF2 : ∀ o1 o2 o3 o4 o5, Same F (upd (upd (upd (upd (upd H p o1) pf o2) p o3) pj o4) p o5) := fun o1 o2 o3 o4 o5 c o hc => e2 c o (sF c o hc) (ne_of_none hc fp) _ _ _ _ _
  obtain ⟨ps, exs, hps⟩ := prs_dict (K := K) (hxs.mono PrR.mono (sF2 _ _ _ _ _))
  refine ⟨_, rfl, aj, ps, _, rfl, SqL.of (by rw [← exs]; exact sF2 _ _ _ _ _ _ _ hj), hps, fun pe hpe => ?_⟩
  have npe : pe ≠ p := fun e => by subst e; rw [upd_same] at hpe; cases hpe
  rw [upd_ne npe] at hpe
  have npej : pe ≠ pj := fun e => by subst e; rw [upd_same] at hpe; cases hpe
  rw [upd_ne npej, upd_ne npe] at hpe
  have npef : pe ≠ pf := fun e => by subst e; rw [upd_same] at hpe; cases hpe
  rw [upd_ne npef, upd_ne npe] at hpe
  refine ⟨_, rfl, p, CB, dx, _, rfl, by rw [upd_ne (Ne.symm npe)]; exact upd_same, T.clB, T.b_ends, (by show 4 < 1000; decide), ?_⟩
  have fpf : F pf = none := sF.free hpf
  have fpj : F pj = none := sF.free hpj
  have fpe : F pe = none := sF.free hpe
  refine k (upd (upd (upd (upd F pf (.lst ((ofNats b.faces).map V.int))) pj (.lst xs)) pe (.dK (kvsOf b.jumps))) p (.ins CB dx (bF b pf pj pe))) _ (fun c o hc hcp => ?_) (fun c o hc => ?_) (fun c o hc => ?_) (fun c o hc => ?_) ?_
  · rw [upd_ne hcp, upd_ne (ne_of_none hc hpe)]
    exact e2 c o hc hcp _ _ _ _ _
  · rw [upd_ne (ne_of_none hc fp), upd_ne (ne_of_none hc fpe), upd_ne (ne_of_none hc fpj), upd_ne (ne_of_none hc fpf)]
    exact hc
  · by_cases c1 : c = p
    · subst c1
      rw [upd_same] at hc ⊢
      rw [← hc, bF_new]
    · rw [upd_ne c1] at hc ⊢
      by_cases c2 : c = pe
      · subst c2
        rw [upd_same] at hc ⊢
        rw [← hc, merge_all hd]
      · rw [upd_ne c2] at hc ⊢
        rw [upd_ne c1]
        by_cases c3 : c = pj
        · subst c3
          rw [upd_same] at hc ⊢
          exact hc
        · rw [upd_ne c3] at hc ⊢
          rw [upd_ne c1]
          by_cases c4 : c = pf
          · subst c4
            rw [upd_same] at hc ⊢
            exact hc
          · rw [upd_ne c4] at hc ⊢
            rw [upd_ne c1]
            exact sF c o hc
  · by_cases c1 : c = p
    · exact .inr (.inl c1)
    · rw [upd_ne c1] at hc
      by_cases c2 : c = pe
      · subst c2; exact .inr (.inr hpe)
      · rw [upd_ne c2] at hc
        by_cases c3 : c = pj
        · subst c3; exact .inr (.inr hpj)
        · rw [upd_ne c3] at hc
          by_cases c4 : c = pf
          · subst c4; exact .inr (.inr hpf)
          · rw [upd_ne c4] at hc; exact .inl hc
  · refine ⟨p, dx, pf, pj, pe, rfl, upd_same, ?_, ?_, ?_⟩
    · rw [upd_ne npf, upd_ne (Ne.symm npef), upd_ne (Ne.symm npjf)]; exact upd_same
    · refine ⟨pj, xs, rfl, by rw [upd_ne npj, upd_ne (Ne.symm npej)]; exact upd_same, hxs.mono PrR.mono fun c o hc => ?_⟩
      rw [upd_ne (ne_of_none hc fp), upd_ne (ne_of_none hc fpe), upd_ne (ne_of_none hc fpj), upd_ne (ne_of_none hc fpf)]
      exact hc
    · rw [upd_ne npe]; exact upd_same
end
end LS

namespace LS
open PySem PySem.Spec PyProof.Rows L2
open Uw62 (Board Frac)
section
variable {P : Program} {w : World} {K : PySem.W.Frag} {mg : Str → Option Value} {base : Heap} {CB CD CR aN aO aM : Addr}

/-! ### Board.thrown -/
def spThrown (CB : Addr) : Sp := fun vs H Q _ => ∃ (v : V) (b : Board) (p f : Nat), vs = [v, .int (p : Int), .int (f : Int)] ∧ BdV CB b v H ∧ Q (.int ((Uw62.thrown b p f : Nat) : Int)) H
theorem scThrown : FnScope ["self", "place", "face", "there"] ["self", "place", "face"] (defScope sThrown) := ⟨rfl, rfl, rfl, by decide +kernel, rfl, by decide +kernel, by decide +kernel⟩
theorem ok_thrown {f : Addr} {fd : FuncData} (F : Fun K "thrown" "Board.thrown" sThrown f fd) (T : Txt K mg CB CD CR aN aO aM) : FnOk P w K mg base CX0 1 f fd ["self", "place", "face"] (spThrown CB) := by
  refine F.ok scThrown (fun vs H Q E h => ?_) (fun cdv A outer s H vs Q E hr h => ?_)
  · obtain ⟨v, b, p, f, rfl, _⟩ := h
    rfl
  refine ⟨_, pss_cons (ps_set (i := 3) scThrown.nd rfl (Or.inl rfl) (pe_op op_add (pv 1) (pv 2)))
    (pss_cons (ps_if (pt_cmpR op_le (pv 3) (pe_fld (pv 0) rfl) (nomark _)) (pss_one (ps_ret (pv 3))) pss_nil)
    (pss_cons (ps_if (pt_cmpR op_eq (pe_fld (pv 0) rfl) (pe_gint T.g_STAY) (nomark _)) (pss_one (ps_ret (pv 1))) pss_nil)
    (pss_one (ps_ret (pe_ifExp (pt_cmpR op_eq (pe_fld (pv 0) rfl) (pe_gint T.g_TURN) (nomark _))
      (pe_callB (call_max2 rfl) (by rfl) T.n_max (by decide +kernel) (pa_cons pe_int (pa_cons (pe_op op_sub (pe_op op_mul pe_int (pe_fld (pv 0) rfl)) (pv 3)) pa_nil))) (pe_fld (pv 0) rfl)))))), ?_⟩
  obtain ⟨v, b, p, f, rfl, ⟨a, dx, pf, pj, pe, rfl, B⟩, k⟩ := h
  refine ⟨_, rfl, _, rfl, _, _, rfl, rfl, ?_⟩
  refine ⟨_, rfl, _, rfl, a, CB, dx, _, _, rfl, B.obj, T.clB, T.b_end, bF_end b pf pj pe, _, _, rfl, rfl, _, rfl, ?_⟩
  unfold Uw62.thrown at k
  refine if_b (fun hc => ?_) (fun hc => ?_)
  · have hc' : p + f ≤ b.n := by have := of_decide_eq_true hc; omega
    rw [if_pos hc'] at k
    refine ⟨_, rfl, ?_⟩
    rw [Int.natCast_add] at k
    exact k
  · have hc' : ¬ p + f ≤ b.n := by have := of_decide_eq_false hc; omega
    rw [if_neg hc'] at k
    refine ⟨_, rfl, a, CB, dx, _, _, rfl, B.obj, T.clB, T.b_rule, bF_rule b pf pj pe, rfl, _, rfl, ?_⟩
    refine if_b (fun h0 => ?_) (fun h0 => ?_)
    · have h0' : b.rule = 0 := by have := of_decide_eq_true h0; have := V.int.inj this; omega
      rw [if_pos h0'] at k
      exact ⟨_, rfl, k⟩
    · have h0' : ¬ b.rule = 0 := fun e => (of_decide_eq_false h0) (by rw [e]; rfl)
      rw [if_neg h0'] at k
      refine ⟨_, rfl, a, CB, dx, _, _, rfl, B.obj, T.clB, T.b_rule, bF_rule b pf pj pe, rfl, _, rfl, ?_⟩
      refine if_b (fun h1 => ?_) (fun h1 => ?_)
      · have h1' : b.rule = 1 := by have := of_decide_eq_true h1; have := V.int.inj this; omega
        rw [if_pos h1'] at k
        refine ⟨_, rfl, a, CB, dx, _, _, rfl, B.obj, T.clB, T.b_end, bF_end b pf pj pe, _, _, rfl, rfl, .inl ⟨by decide, by decide⟩, _, rfl, _, _, rfl, rfl, _, _, rfl, ?_⟩
        have e : (if (2 * (b.n : Int) - ((p : Int) + (f : Int))) > 0 then (2 * (b.n : Int) - ((p : Int) + (f : Int))) else 0) = ((2 * b.n - (p + f) : Nat) : Int) := by split <;> omega
        rw [e]
        exact k
      · have h1' : ¬ b.rule = 1 := fun e => (of_decide_eq_false h1) (by rw [e]; rfl)
        rw [if_neg h1'] at k
        exact ⟨_, rfl, a, CB, dx, _, _, rfl, B.obj, T.clB, T.b_end, bF_end b pf pj pe, k⟩

/-! ### Board.lands -/
def spBLands (CB : Addr) : Sp := fun vs H Q _ => ∃ (v : V) (b : Board) (p f : Nat), vs = [v, .int (p : Int), .int (f : Int)] ∧ BdV CB b v H ∧ Good b ∧ p < b.n ∧ Q (.int ((Uw62.lands b p f : Nat) : Int)) H
theorem scBLands : FnScope ["self", "place", "face", "there"] ["self", "place", "face"] (defScope sBLands) := ⟨rfl, rfl, rfl, by decide +kernel, rfl, by decide +kernel, by decide +kernel⟩
theorem ok_blands {f : Addr} {fd : FuncData} (F : Fun K "lands" "Board.lands" sBLands f fd) (T : Txt K mg CB CD CR aN aO aM) (G1 : MtG P w K mg base CX0 1 CB "thrown" ["self", "place", "face"] (spThrown CB)) : FnOk P w K mg base CX0 2 f fd ["self", "place", "face"] (spBLands CB) := by
  refine F.ok scBLands (fun vs H Q E h => ?_) (fun cdv A outer s H vs Q E hr h => ?_)
  · obtain ⟨v, b, p, f, rfl, _⟩ := h
    rfl
  refine ⟨_, pss_cons (ps_set (i := 3) scBLands.nd rfl (Or.inl rfl) (pe_mt T.clB G1 hr pass0 (pv 0) (pa_cons (pv 1) (pa_cons (pv 2) pa_nil))))
    (pss_cons (ps_while PassesOwn.never (pt_cmp (pc_din (hu_of hr) (pv 3) (pe_fld (pv 0) rfl))) (pss_one (ps_set (i := 3) scBLands.nd rfl (Or.inl rfl) (pe_dget (hu_of hr) (pe_fld (pv 0) rfl) (pv 3) (fun _ _ => rfl)))))
    (pss_one (ps_ret (pv 3)))), ?_⟩
  obtain ⟨v, b, p, f, rfl, ⟨a, dx, pf, pj, pe, rfl, B⟩, g, hp, k⟩ := h
  refine ⟨_, rfl, a, dx, _, rfl, B.obj, bF_no b pf pj pe (by decide +kernel), _, rfl, _, rfl, _, b, p, f, rfl, ⟨a, dx, pf, pj, pe, rfl, B⟩, ?_⟩
  refine ⟨fun m σ H' => H' = H ∧ ∃ t : Nat, σ = [some (.ref a), some (.int (p : Int)), some (.int (f : Int)), some (.int (t : Int))] ∧ Uw62.follow b m t = some (Uw62.lands b p f), ⟨_, rfl, _, rfl, lands_follow g hp⟩, ?_⟩
  rintro m σ H' ⟨rfl, t, rfl, hf⟩
  refine ⟨_, rfl, _, rfl, a, CB, dx, _, _, rfl, B.obj, T.clB, T.b_ends, bF_ends b pf pj pe, pe, _, rfl, DGet.k (k := Sum.inl (t : Int)) B.ends, _, rfl, ?_⟩
  rw [kvs_at]
  cases e : jAt b.jumps t with
  | none =>
    refine if_f rfl ⟨_, rfl, ?_⟩
    rw [follow_end hf e] at k
    exact k
  | some r =>
    obtain ⟨m', rfl, hf'⟩ := follow_step hf e
    refine if_t rfl ⟨fun σ' H'' => H'' = H' ∧ σ' = [some (.ref a), some (.int (p : Int)), some (.int (f : Int)), some (.int (r : Int))], ?_, ?_⟩
    · rintro σ' H'' ⟨rfl, rfl⟩
      exact ⟨m', Nat.lt_succ_self _, rfl, r, rfl, hf'⟩
    · refine ⟨_, rfl, a, CB, dx, _, _, rfl, B.obj, T.clB, T.b_ends, bF_ends b pf pj pe, _, rfl, pe, .int (r : Int), rfl, ?_, rfl, rfl⟩
      have q := DGet.k (k := Sum.inl (t : Int)) B.ends
      rw [kvs_at, e] at q
      exact q

/-! ### Board.onward -/
def spOnward (CB : Addr) : Sp := fun vs H Q _ => ∃ (F : Hp) (v : V) (b : Board) (p : Nat), vs = [v, .int (p : Int)] ∧ Same F H ∧ BdV CB b v F ∧ Good b ∧ p ≤ b.n ∧ Ret F H (NsV (onw b p)) Q
theorem scOnward : FnScope ["self", "place", "face"] ["self", "place"] (defScope sOnward) := ⟨rfl, rfl, rfl, by decide +kernel, rfl, by decide +kernel, by decide +kernel⟩
theorem ok_onward {f : Addr} {fd : FuncData} (F : Fun K "onward" "Board.onward" sOnward f fd) (T : Txt K mg CB CD CR aN aO aM) (G1 : MtG P w K mg base CX0 2 CB "lands" ["self", "place", "face"] (spBLands CB)) : FnOk P w K mg base CX0 3 f fd ["self", "place"] (spOnward CB) := by
  refine F.ok scOnward (fun vs H Q E h => ?_) (fun cdv A outer s H vs Q E hr h => ?_)
  · obtain ⟨F, v, b, p, rfl, _⟩ := h
    rfl
  refine ⟨_, pss_one (ps_ret (pe_ifExp (pt_cmpR op_eq (pv 1) (pe_fld (pv 0) rfl) (nomark _)) (pe_lst pa_nil)
    (pe_lc (own := [("face", 2)]) (g := gName 2) (tt := tYes) rfl scOnward.nd (pi_list (pe_fld (pv 0) rfl)) (blkOk_by (own := [("face", 2)]) (N := ["self", "place", "face"]) (sc := defScope sOnward) (by decide +kernel))
      (fun _ _ _ _ _ => pg_name (i := 2) scOnward.nd rfl (Or.inl rfl)) (fun _ _ _ _ _ => pts_nil) (fun _ _ _ _ _ => pe_mt T.clB G1 hr pass0 (pv 0) (pa_cons (pv 1) (pa_cons (pv 2) pa_nil)))))), ?_⟩
  obtain ⟨F, v, b, p, rfl, sF, ⟨a, dx, pf, pj, pe, rfl, B⟩, g, hp, k⟩ := h
  have B' := B.mono sF
  refine ⟨_, rfl, _, rfl, a, CB, dx, _, _, rfl, B'.obj, T.clB, T.b_end, bF_end b pf pj pe, rfl, _, rfl, ?_⟩
  unfold onw at k
  refine if_b (fun hc => ?_) (fun hc => ?_)
  · have hc' : p = b.n := by have := V.int.inj (of_decide_eq_true hc); omega
    rw [if_pos hc'] at k
    refine ⟨(by show 0 ≤ sizeLine; decide), fun q hq => k _ _ _ ((Gr.refl sF).new hq) (NsV.of (by rw [upd_same]; rfl))⟩
  · have hc' : ¬ p = b.n := fun e => (of_decide_eq_false hc) (by rw [e])
    rw [if_neg hc'] at k
    refine ⟨_, rfl, a, CB, dx, _, _, rfl, B'.obj, T.clB, T.b_faces, bF_faces b pf pj pe, pf, rfl, ⟨_, SqL.of B'.faces⟩, fun D hD => ?_⟩
    refine lc_map (walk_list (K := K) (a := pf) (xs := (ofNats b.faces).map V.int)) hD sF NatR NatR.mono (fun i => Uw62.lands b p (b.faces.getD i 0)) (by have := g.f6; simp [ofNats]; omega) (fun H' s => SqL.of (s _ _ B.faces)) ?_ ?_ mg_name
    · rintro i F' H' x H'' Qy hi gr ⟨rfl, hx⟩ ky
      have hi' : i < b.faces.length := by simpa [ofNats] using hi
      have ex : x = V.int ((b.faces.getD i 0 : Nat) : Int) := by
        simp [ofNats, List.getElem?_eq_getElem hi'] at hx
        rw [← hx, List.getD_eq_getElem?_getD, List.getElem?_eq_getElem hi']
        rfl
      subst ex
      have B2 := B.mono (gr.f.trans gr.s)
      refine ⟨rfl, if_t rfl ⟨_, rfl, a, dx, _, rfl, B2.obj, bF_no b pf pj pe (by decide +kernel), _, rfl, _, rfl, _, b, p, _, rfl, ⟨a, dx, pf, pj, pe, rfl, B2⟩, g, by omega, ?_⟩⟩
      exact ky _ F' H'' (Gr.refl gr.s) rfl
    · intro F' H' gr hl
      have e : (List.range ((ofNats b.faces).map V.int).length).map (fun i => Uw62.lands b p (b.faces.getD i 0)) = b.faces.map (Uw62.lands b p) := by
        rw [List.length_map, show (ofNats b.faces).length = b.faces.length by simp [ofNats]]
        conv => rhs; rw [← range_getD 0 b.faces]
        rw [List.map_map]
        rfl
      rw [e] at hl
      exact k _ F' H' gr hl

/-! ### Board.come_to -/
def spComeTo (CB : Addr) : Sp := fun vs H Q _ => ∃ (F : Hp) (v : V) (b : Board) (p : Nat), vs = [v, .int (p : Int)] ∧ Same F H ∧ BdV CB b v F ∧ Good b ∧ p ≤ b.n ∧ Ret F H (NsV (Uw62.comes b p)) Q
theorem scComeTo : FnScope ["self", "place", "found", "at", "there"] ["self", "place"] (defScope sComeTo) := ⟨rfl, rfl, rfl, by decide +kernel, rfl, by decide +kernel, by decide +kernel⟩
theorem sorted_nats {b : Board} {p : Nat} (g : Good b) (hp : p ≤ b.n) {fs : List Nat} (Fd : Found b p fs fs.length) {ns : List Int} (h1 : ns.Perm (ofNats fs)) (h2 : ns.Pairwise (· ≤ ·)) : ns = ofNats (Uw62.comes b p) := by
  have h3 : ∀ z ∈ ns, ∃ x : Nat, x ∈ fs ∧ z = (x : Int) := fun z hz => by
    have := (h1.mem_iff).mp hz
    unfold ofNats at this
    obtain ⟨x, hx, e⟩ := List.mem_map.mp this
    exact ⟨x, hx, e.symm⟩
  have e : ns = ofNats (ns.map Int.toNat) := by
    unfold ofNats
    rw [List.map_map]
    conv => lhs; rw [← List.map_id ns]
    refine List.map_congr_left fun z hz => ?_
    obtain ⟨x, _, ez⟩ := h3 z hz
    show z = ((z.toNat : Nat) : Int)
    omega
  rw [e]
  congr 1
  have hnd : ns.Nodup := (h1.nodup_iff).mpr (by
    unfold ofNats
    exact (List.pairwise_map.mpr (Fd.nd.imp fun h => by omega)))
  refine found_end g hp Fd (fun x => ?_) ?_
  · constructor
    · intro hx
      obtain ⟨z, hz, ez⟩ := List.mem_map.mp hx
      obtain ⟨y, hy, ey⟩ := h3 z hz
      have : x = y := by omega
      rw [this]; exact hy
    · intro hx
      refine List.mem_map.mpr ⟨(x : Int), (h1.mem_iff).mpr (List.mem_map.mpr ⟨x, hx, rfl⟩), by omega⟩
  · rw [List.pairwise_map]
    have := List.Pairwise.and h2 hnd
    refine List.Pairwise.imp_of_mem (fun {x y} hx hy hxy => ?_) this
    obtain ⟨x', _, ex⟩ := h3 x hx
    obtain ⟨y', _, ey⟩ := h3 y hy
    have h5 := hxy.1
    have h6 := hxy.2
    omega
theorem ofNats_get {l : List Nat} {i : Nat} {y : V} (h : ((ofNats l).map V.int)[i]? = some y) : ∃ x : Nat, l[i]? = some x ∧ y = V.int (x : Int) := by
  unfold ofNats at h
  rw [List.getElem?_map, List.getElem?_map] at h
  cases e : l[i]? with
  | none => rw [e] at h; cases h
  | some x => rw [e] at h; exact ⟨x, rfl, (Option.some.inj h).symm⟩
theorem ofNats_len (l : List Nat) : ((ofNats l).map V.int).length = l.length := by simp [ofNats]
theorem ofNats_snoc (l : List Nat) (x : Nat) : (ofNats l).map V.int ++ [V.int (x : Int)] = (ofNats (l ++ [x])).map V.int := by simp [ofNats]
theorem take_snoc {α : Type} {l : List α} {i : Nat} {x : α} (h : l[i]? = some x) : l.take (i + 1) = l.take i ++ [x] := by
  rw [List.take_succ, h]
  rfl
theorem ok_comeTo {f : Addr} {fd : FuncData} (F : Fun K "come_to" "Board.come_to" sComeTo f fd) (T : Txt K mg CB CD CR aN aO aM) (G1 : MtG P w K mg base CX0 3 CB "onward" ["self", "place"] (spOnward CB)) : FnOk P w K mg base CX0 4 f fd ["self", "place"] (spComeTo CB) := by
  refine F.ok scComeTo (fun vs H Q E h => ?_) (fun cdv A outer s H vs Q E hr h => ?_)
  · obtain ⟨F, v, b, p, rfl, _⟩ := h
    rfl
  refine ⟨_, pss_cons (ps_set (i := 2) scComeTo.nd rfl (Or.inl rfl) (pe_lst (pa_cons (pv 1) pa_nil))) (pss_cons (ps_set (i := 3) scComeTo.nd rfl (Or.inl rfl) pe_int)
    (pss_cons (ps_while PassesOwn.never (pt_cmpR op_lt (pv 3) (pe_callB call_len_seq (by rfl) T.n_len (by decide +kernel) (pa_cons (pv 2) pa_nil)) (nomark _))
      (pss_cons (ps_for PassesOwn.never rfl (pi_list (pe_mt T.clB G1 hr pass0 (pv 0) (pa_cons (pe_ix ix_list (pv 2) (pv 3) (fun _ _ => rfl)) pa_nil))) (pg_name (i := 4) scComeTo.nd rfl (Or.inl rfl))
        (pss_one (ps_if (pt_cmpR op_notIn_seq (pv 4) (pv 2) (by rfl)) (pss_one (ps_expr (pe_bm PySem.F.plainAttrs_list PySem.F.slot_list_append PySem.F.type_list_append mt_append (pv 2) (pa_cons (pv 4) pa_nil)))) pss_nil)))
      (pss_one (ps_set (i := 3) scComeTo.nd rfl (Or.inl rfl) (pe_op op_add (pv 3) pe_int)))))
    (pss_one (ps_ret (pe_callB cr_sorted (by rfl) T.n_sorted (by decide +kernel) (pa_cons (pv 2) pa_nil)))))), ?_⟩
  obtain ⟨F, v, b, p, rfl, sF, hB, g, hp, k⟩ := h
  refine ⟨_, rfl, (by show 1 ≤ sizeLine; decide), fun d hd => ?_⟩
  refine ⟨fun m σ H' => ∃ F' fs i o, b.n + 1 - i = m ∧ i ≤ fs.length ∧ σ = [some v, some (.int (p : Int)), some (.ref d), some (.int (i : Int)), o] ∧ Gr F H F' H' ∧ F' d = none ∧ H' d = some (.lst ((ofNats fs).map V.int)) ∧ Found b p fs i,
    ⟨_, F, [p], 0, none, rfl, Nat.zero_le _, rfl, (Gr.refl sF).mut hd, sF.free hd, upd_same, found_start g hp⟩, ?_⟩
  rintro m σ H' ⟨F', fs, i, o, rfl, hi, rfl, gr, fd', hd', Fd⟩
  have hfl := found_len Fd
  have n10 := g.n10
  refine ⟨_, rfl, _, rfl, d, _, rfl, .inl (SqL.of hd'), _, _, rfl, rfl, _, rfl, ?_⟩
  refine if_b (fun hc => ?_) (fun hc => ?_)
  · have hc' : i < fs.length := by
      have := of_decide_eq_true hc
      rw [ofNats_len] at this
      omega
    have hx : fs[i]? = some fs[i] := List.getElem?_eq_getElem hc'
    have hB' := BdV.mono _ _ _ _ gr.f hB
    obtain ⟨a, dx, pf, pj, pe, rfl, B⟩ := hB'
    have B2 := B.mono gr.s
    refine ⟨fun σ' H'' => ∃ F'' o', σ' = [some (.ref a), some (.int (p : Int)), some (.ref d), some (.int ((i + 1 : Nat) : Int)), o'] ∧ Gr F H F'' H'' ∧ F'' d = none ∧ H'' d = some (.lst ((ofNats (addNew fs (onw b fs[i]))).map V.int)), ?_, ?_⟩
    · rintro σ' H'' ⟨F'', o', rfl, gr2, fd2, hd2⟩
      have Fd2 := found_turn g Fd hx
      obtain ⟨more, hmore⟩ := addNew_pre (onw b fs[i]) fs
      exact ⟨b.n + 1 - (i + 1), by omega, F'', _, i + 1, o', rfl, by rw [hmore, List.length_append]; omega, rfl, gr2, fd2, hd2, Fd2⟩
    · refine ⟨_, rfl, a, dx, _, rfl, B2.obj, bF_no b pf pj pe (by decide +kernel), _, rfl, _, rfl, d, _, _, V.int ((fs[i] : Nat) : Int), rfl, rfl, SqL.of hd', atI_nat (by rw [List.getElem?_map, ofNats, List.getElem?_map, hx]; rfl), ?_⟩
      refine ⟨F', _, b, fs[i], rfl, gr.s, ⟨a, dx, pf, pj, pe, rfl, B⟩, g, Fd.le _ (List.getElem_mem hc'), fun v1 F1 H1 g1 hv1 => ?_⟩
      obtain ⟨c, rfl, hc1⟩ := hv1.at
      have fd1 : F1 d = none := g1.none hd' fd'
      have ncd : c ≠ d := ne_of_none hc1 fd1
      refine ⟨c, rfl, ⟨_, SqL.of (g1.s _ _ hc1)⟩, for_it (walk_list (K := K) (a := c) (xs := (ofNats (onw b fs[i])).map V.int))
        (fun j σ' H'' => ∃ o', σ' = [some (.ref a), some (.int (p : Int)), some (.ref d), some (.int (i : Int)), o'] ∧ Gr F H F1 H'' ∧ H'' d = some (.lst ((ofNats (addNew fs ((onw b fs[i]).take j))).map V.int)))
        ⟨o, rfl, gr.trans g1, g1.h _ _ hd'⟩ ?_ ?_ ?_⟩
      · rintro j σ' H'' _ ⟨o', _, gr2, _⟩
        exact SqL.of (gr2.s _ _ hc1)
      · rintro j y σ' H2 H3 hj ⟨o', rfl, gr2, hd2⟩ ⟨rfl, hy⟩
        obtain ⟨t, ht, rfl⟩ := ofNats_get hy
        have e : addNew fs ((onw b fs[i]).take (j + 1)) = if (addNew fs ((onw b fs[i]).take j)).contains t then addNew fs ((onw b fs[i]).take j) else addNew fs ((onw b fs[i]).take j) ++ [t] := by
          rw [take_snoc ht, addNew_snoc]
        refine ⟨_, rfl, _, rfl, d, _, rfl, .inl (SqL.of hd2), rfl, flat_ints _, _, rfl, ?_⟩
        rw [if_pos rfl, inV_nats]
        refine if_b (fun h1 => ?_) (fun h1 => ?_)
        · have h1' : (addNew fs ((onw b fs[i]).take j)).contains t = false := by simpa using h1
          rw [h1', if_neg (by decide)] at e
          refine ⟨_, rfl, .inl ⟨rfl, _, SqL.of hd2⟩, _, rfl, d, _, _, rfl, rfl, hd2, ?_, ?_⟩
          · rw [ofNats_len]
            have : (addNew fs ((onw b fs[i]).take j)).length ≤ b.n + 1 := by
              have hnd := nodup_addNew (ths := (onw b fs[i]).take j) Fd.nd
              have := pigeon _ (List.range (b.n + 1)) hnd fun z hz => by
                rcases mem_addNew.mp hz with hz | hz
                · have := Fd.le z hz; simp; omega
                · have hz2 := List.mem_of_mem_take hz
                  unfold onw at hz2
                  split at hz2
                  · cases hz2
                  · obtain ⟨f', _, rfl⟩ := List.mem_map.mp hz2
                    have := lands_le g fs[i] f'
                    simp; omega
              simpa using this
            exact small_line (by omega)
          · refine ⟨_, rfl, gr2.set hd fd1, ?_⟩
            rw [upd_same, e, ofNats_snoc]
        · have h1' : (addNew fs ((onw b fs[i]).take j)).contains t = true := by simpa using h1
          rw [h1', if_pos rfl] at e
          refine ⟨_, rfl, gr2, ?_⟩
          rw [e]
          exact hd2
      · rintro σ' H'' ⟨o', rfl, gr2, hd2⟩
        rw [ofNats_len, List.take_length] at hd2
        refine ⟨_, rfl, _, _, rfl, rfl, F1, o', ?_, gr2, fd1, hd2⟩
        rw [Int.natCast_add]
        rfl
  · have hc' : i = fs.length := by
      have := of_decide_eq_false hc
      rw [ofNats_len] at this
      omega
    subst hc'
    refine ⟨_, rfl, d, ofNats fs, rfl, SqL.of hd', ?_, fun ns q h1 h2 hq => ?_⟩
    · have : (ofNats fs).length = fs.length := by simp [ofNats]
      omega
    · rw [sorted_nats g hp Fd h1 h2]
      exact k _ _ _ (gr.new hq) (NsV.of upd_same)

/-! ### Board.is_sure -/
def spIsSure (CB : Addr) : Sp := fun vs H Q _ => ∃ (F : Hp) (v : V) (b : Board) (p : Nat), vs = [v, .int (p : Int)] ∧ Same F H ∧ BdV CB b v F ∧ Good b ∧ p ≤ b.n ∧ Ret F H (fun v _ => v = .bl (Uw62.sure b p)) Q
theorem scIsSure : FnScope ["self", "place", "there"] ["self", "place"] (defScope sIsSure) := ⟨rfl, rfl, rfl, by decide +kernel, rfl, by decide +kernel, by decide +kernel⟩
theorem ok_isSure {f : Addr} {fd : FuncData} (F : Fun K "is_sure" "Board.is_sure" sIsSure f fd) (T : Txt K mg CB CD CR aN aO aM) (G1 : MtG P w K mg base CX0 4 CB "come_to" ["self", "place"] (spComeTo CB)) : FnOk P w K mg base CX0 5 f fd ["self", "place"] (spIsSure CB) := by
  refine F.ok scIsSure (fun vs H Q E h => ?_) (fun cdv A outer s H vs Q E hr h => ?_)
  · obtain ⟨F, v, b, p, rfl, _⟩ := h
    rfl
  refine ⟨_, pss_one (ps_ret (pe_callB (cr_all rfl) (by rfl) T.n_all (by decide +kernel) (pa_cons
    (pe_lc (own := [("there", 2)]) (g := gName 2) (tt := tYes) rfl scIsSure.nd (pi_list (pe_mt T.clB G1 hr pass0 (pv 0) (pa_cons (pv 1) pa_nil))) (blkOk_by (own := [("there", 2)]) (N := ["self", "place", "there"]) (sc := defScope sIsSure) (by decide +kernel))
      (fun _ _ _ _ _ => pg_name (i := 2) scIsSure.nd rfl (Or.inl rfl)) (fun _ _ _ _ _ => pts_nil)
      (fun _ _ _ _ _ => pe_cmpR (op_inK K) (pe_fldK K (pv 0)) (pe_mt T.clB G1 hr pass0 (pv 0) (pa_cons (pv 2) pa_nil)) (by rfl))) pa_nil))), ?_⟩
  obtain ⟨F, v, b, p, rfl, sF, hB, g, hp, k⟩ := h
  obtain ⟨a, dx, pf, pj, pe, rfl, B⟩ := hB
  have B1 := B.mono sF
  refine ⟨_, rfl, a, dx, _, rfl, B1.obj, bF_no b pf pj pe (by decide +kernel), _, rfl, F, _, b, p, rfl, sF, ⟨a, dx, pf, pj, pe, rfl, B⟩, g, hp, fun v1 F1 H1 g1 hv1 => ?_⟩
  obtain ⟨c, rfl, hc1⟩ := hv1.at
  have hlen : (Uw62.comes b p).length ≤ b.n + 1 := by
    have := pigeon (Uw62.comes b p) (List.range (b.n + 1)) ((comes_rising p).imp fun h => Nat.ne_of_lt h) fun x hx => by have := comes_le g hp hx; simp; omega
    simpa using this
  have n10 := g.n10
  refine ⟨c, rfl, ⟨_, SqL.of (g1.s _ _ hc1)⟩, fun D hD => ?_⟩
  refine lc_map (walk_list (K := K) (a := c) (xs := (ofNats (Uw62.comes b p)).map V.int)) hD g1.s BlR BlR.mono (fun i => (Uw62.comes b ((Uw62.comes b p).getD i 0)).contains b.n) (by rw [ofNats_len]; omega) (fun H' s => SqL.of (s _ _ hc1)) ?_ ?_ mg_name
  · rintro i F' H' x H'' Qy hi gr ⟨rfl, hx⟩ ky
    obtain ⟨q, hq, rfl⟩ := ofNats_get hx
    have hqm : q ∈ Uw62.comes b p := List.mem_of_getElem? hq
    have eq : (Uw62.comes b p).getD i 0 = q := by rw [List.getD_eq_getElem?_getD, hq]; rfl
    have B2 := B.mono (g1.f.trans gr.f)
    have B3 := B2.mono gr.s
    refine ⟨rfl, if_t rfl ⟨_, rfl, a, CB, dx, _, _, rfl, B3.obj, T.clB, T.b_end, bF_end b pf pj pe, _, rfl, a, dx, _, rfl, B3.obj, bF_no b pf pj pe (by decide +kernel), _, rfl, F', _, b, q, rfl, gr.s, ⟨a, dx, pf, pj, pe, rfl, B2⟩, g, comes_le g hp hqm, fun v2 F2 H2 g2 hv2 => ?_⟩⟩
    obtain ⟨c2, rfl, hc2⟩ := hv2.at
    refine ⟨c2, _, rfl, .inl (SqL.of (g2.s _ _ hc2)), rfl, flat_ints _, ?_⟩
    rw [if_neg (by decide), inV_nats]
    refine ky _ F2 H2 g2 ?_
    show V.bl _ = V.bl _
    rw [eq]
  · intro F' H' gr hl
    obtain ⟨c2, xs, e, hc2, hr2⟩ := hl
    cases e
    rw [bls_L2R hr2] at hc2
    refine ⟨D, _, rfl, SqL.of (gr.s _ _ hc2), ?_⟩
    refine k _ F' H' (g1.trans gr) ?_
    show V.bl _ = V.bl _
    congr 1
    unfold Uw62.sure
    rw [ofNats_len, List.all_map]
    conv => rhs; rw [← range_getD 0 (Uw62.comes b p), List.all_map]
    rfl
end
end LS

namespace LS
open PySem PySem.Spec PyProof.Rows L2
open Uw62 (Board Frac)
/-- a class that is made, by its __init__'s promise -/
def MkG (P : Program) (w : World) (K : PySem.W.Frag) (mg : Str → Option Value) (base : Heap) (k : Nat) (C : Addr) (ps : List Str) (sp : Sp) : Prop :=
  ∃ f fd, Mk K C f ∧ Binds K fd ps [] ∧ FnOk P w K mg base CX0 k f fd ps sp
theorem pe_mk {X : Cx} {k j : Nat} {C : Addr} {ps : List Str} {sp : Sp} {x : Str} {p pos : Pos} {e : Expr} {es : List Expr} {t : TA} (G : MkG X.prog X.w X.K X.mg X.base k C ps sp) (hr : Room j X.A) (hm : X.mg x = some (.ref C)) (ha : PA X (e :: es) t) (hkj : k + 1 ≤ j := by decide) (hg : Gl X x := by rfl)
    (hdb : (x == ("__debug__" : Str)) = false := by decide) (he : starEach (e :: es) X.env = (false, eval e X.env) :: starEach es X.env := by rfl) (hpl : (backTo pos (starEach es X.env)).any (·.1) = false := by rfl) : PE X (.Call (.Name x p) (e :: es) [] pos) (tMake C sp [] E0 t) := by
  obtain ⟨f, fd, h1, h2, h3⟩ := G
  exact pe_make h1 h3 (hr.mono hkj) hg hm h2 .nil pass0 ha hdb he hpl
abbrev psB : List Str := ["self", "end", "rule", "faces", "jumps"]
section
variable {P : Program} {w : World} {K : PySem.W.Frag} {mg : Str → Option Value} {base : Heap} {CB CD CR aN aO aM : Addr}
/-- Board(..), made -/
theorem make_board {F H : Hp} {b : Board} {vf vj : V} {Q : VK} (sF : Same F H) (hf : NsV b.faces vf F) (hj : PrsV b.jumps vj F) (hd : (b.jumps.map fun j => j.1).Pairwise (· ≠ ·)) (k : Ret F H (BdV CB b) Q) :
    ∀ x dx, H x = none → H dx = none → dx ≠ x → spBInit CB (.ref x :: ([.int (b.n : Int), .int (b.rule : Int), vf, vj] ++ [])) (upd (upd H dx (.own x)) x (.ins CB dx [])) (fun v H2 => v = .non ∧ Q (.ref x) H2) E0 := by
  intro x dx hx hdx hne
  refine ⟨F, x, dx, b, vf, vj, rfl, fun c o e => ?_, upd_same, sF.free hx, hf, hj, hd, fun F' H' k1 k2 k3 k4 hB => ⟨rfl, k _ F' H' (gr_made sF hx hdx k1 k2 k3 k4) hB⟩⟩
  have h := sF c o e
  rw [upd_ne (ne_of_none h hx), upd_ne (ne_of_none h hdx)]
  exact h
theorem BdAt.jl {b : Board} {a dx pf pj pe : Addr} {F : Hp} (B : BdAt CB b a dx pf pj pe F) : ∃ xs, F pj = some (.lst xs) ∧ L2R PrR F b.jumps xs := by
  obtain ⟨q, xs, e, h1, h2⟩ := B.jumps
  cases e
  exact ⟨xs, h1, h2⟩
def spWith (CB : Addr) : Sp := fun vs H Q _ => ∃ (F : Hp) (v vj : V) (b : Board) (j : Nat × Nat), vs = [v, vj] ∧ Same F H ∧ BdV CB b v F ∧ PrR j vj F ∧ b.jumps.length ≤ 100 ∧ ((moreJ b j).jumps.map fun j => j.1).Pairwise (· ≠ ·) ∧ Ret F H (BdV CB (moreJ b j)) Q
theorem scWith : FnScope ["self", "jump"] ["self", "jump"] (defScope sWith) := ⟨rfl, rfl, rfl, by decide +kernel, rfl, by decide +kernel, by decide +kernel⟩
theorem ok_with {f : Addr} {fd : FuncData} (F : Fun K "with_jump" "Board.with_jump" sWith f fd) (T : Txt K mg CB CD CR aN aO aM) (G1 : MkG P w K mg base 1 CB psB (spBInit CB)) : FnOk P w K mg base CX0 3 f fd ["self", "jump"] (spWith CB) := by
  refine F.ok scWith (fun vs H Q E h => ?_) (fun cdv A outer s H vs Q E hr h => ?_)
  · obtain ⟨F, v, vj, b, j, rfl, _⟩ := h
    rfl
  refine ⟨_, pss_one (ps_ret (pe_mk G1 hr T.gB (pa_cons (pe_fld (pv 0) rfl) (pa_cons (pe_fld (pv 0) rfl) (pa_cons (pe_fld (pv 0) rfl) (pa_cons (pe_op op_cat (pe_fld (pv 0) rfl) (pe_lst (pa_cons (pv 1) pa_nil))) pa_nil)))))), ?_⟩
  obtain ⟨F, v, vj, b, j, rfl, sF, ⟨a, dx, pf, pj, pe, rfl, B⟩, hj, hjl, hd, k⟩ := h
  obtain ⟨xs, hxs, rxs⟩ := B.jl
  have B1 := B.mono sF
  refine ⟨_, rfl, a, CB, dx, _, _, rfl, B1.obj, T.clB, T.b_end, bF_end b pf pj pe, ?_⟩
  refine ⟨_, rfl, a, CB, dx, _, _, rfl, B1.obj, T.clB, T.b_rule, bF_rule b pf pj pe, ?_⟩
  refine ⟨_, rfl, a, CB, dx, _, _, rfl, B1.obj, T.clB, T.b_faces, bF_faces b pf pj pe, ?_⟩
  refine ⟨_, rfl, a, CB, dx, _, _, rfl, B1.obj, T.clB, T.b_jumps, bF_jumps b pf pj pe, ?_⟩
  refine ⟨_, rfl, (by show 1 ≤ sizeLine; decide), fun l hl => ?_⟩
  have g1 := (Gr.refl sF).new (o := .lst [vj]) hl
  refine ⟨pj, l, xs, [vj], rfl, rfl, g1.s _ _ (g1.f _ _ hxs), upd_same, ?_, fun p hp => ?_⟩
  · rw [rxs.len]
    exact Nat.le_of_lt (small_line (by simp; omega))
  · have g2 := g1.new (o := .lst (xs ++ [vj])) hp
    refine make_board (b := moreJ b j) g2.s ?_ ?_ hd (fun v F' H' g3 hv => k v F' H' (g2.trans g3) hv)
    · exact NsV.of (g2.f _ _ B.faces)
    · exact ⟨p, _, rfl, upd_same, (rxs.mono PrR.mono g2.f).snoc (PrR.mono _ _ _ _ g2.f hj)⟩
def spWithout (CB : Addr) : Sp := fun vs H Q _ => ∃ (F : Hp) (v : V) (b : Board) (j : Nat), vs = [v, .int (j : Int)] ∧ Same F H ∧ BdV CB b v F ∧ Good b ∧ Ret F H (BdV CB (lessJ b j)) Q
theorem scWithout : FnScope ["self", "number"] ["self", "number"] (defScope sWithout) := ⟨rfl, rfl, rfl, by decide +kernel, rfl, by decide +kernel, by decide +kernel⟩
theorem cut_to (xs : List V) (j : Nat) : cutV xs none (some (j : Int)) = xs.take j := by
  unfold cutV
  rw [HT.sIx_none, HT.sIx_nat, List.drop_zero, Nat.sub_zero]
  by_cases h : j ≤ xs.length
  · rw [Nat.min_eq_left h]
  · rw [Nat.min_eq_right (by omega), List.take_of_length_le (Nat.le_refl _), List.take_of_length_le (by omega)]
theorem cut_from (xs : List V) (j : Nat) : cutV xs (some (j : Int)) none = xs.drop j := by
  unfold cutV
  rw [HT.sIx_none, HT.sIx_nat]
  by_cases h : j ≤ xs.length
  · rw [Nat.min_eq_left h, List.take_of_length_le (by rw [List.length_drop]; exact Nat.le_refl _)]
  · rw [Nat.min_eq_right (by omega), List.drop_of_length_le (Nat.le_refl _), List.drop_of_length_le (by omega)]
    simp
theorem ok_without {f : Addr} {fd : FuncData} (F : Fun K "without_jump" "Board.without_jump" sWithout f fd) (T : Txt K mg CB CD CR aN aO aM) (G1 : MkG P w K mg base 1 CB psB (spBInit CB)) : FnOk P w K mg base CX0 3 f fd ["self", "number"] (spWithout CB) := by
  refine F.ok scWithout (fun vs H Q E h => ?_) (fun cdv A outer s H vs Q E hr h => ?_)
  · obtain ⟨F, v, b, j, rfl, _⟩ := h
    rfl
  refine ⟨_, pss_one (ps_ret (pe_mk G1 hr T.gB (pa_cons (pe_fld (pv 0) rfl) (pa_cons (pe_fld (pv 0) rfl) (pa_cons (pe_fld (pv 0) rfl)
    (pa_cons (pe_op op_cat (pe_slice sl_list (pe_fld (pv 0) rfl) po_none (po_some (pv 1))) (pe_slice sl_list (pe_fld (pv 0) rfl) (po_some (pe_op op_add (pv 1) pe_int)) po_none)) pa_nil)))))), ?_⟩
  obtain ⟨F, v, b, j, rfl, sF, ⟨a, dx, pf, pj, pe, rfl, B⟩, g, k⟩ := h
  obtain ⟨xs, hxs, rxs⟩ := B.jl
  have B1 := B.mono sF
  have hjl := jumps_len g
  refine ⟨_, rfl, a, CB, dx, _, _, rfl, B1.obj, T.clB, T.b_end, bF_end b pf pj pe, ?_⟩
  refine ⟨_, rfl, a, CB, dx, _, _, rfl, B1.obj, T.clB, T.b_rule, bF_rule b pf pj pe, ?_⟩
  refine ⟨_, rfl, a, CB, dx, _, _, rfl, B1.obj, T.clB, T.b_faces, bF_faces b pf pj pe, ?_⟩
  refine ⟨_, rfl, a, CB, dx, _, _, rfl, B1.obj, T.clB, T.b_jumps, bF_jumps b pf pj pe, _, rfl, _, rfl, pj, xs, rfl, SqL.of (sF _ _ hxs), fun p1 hp1 => ?_⟩
  have g1 := (Gr.refl sF).new (o := .lst (cutV xs none (some (j : Int)))) hp1
  have B2 := (B.mono g1.f).mono g1.s
  refine ⟨_, rfl, a, CB, dx, _, _, rfl, B2.obj, T.clB, T.b_jumps, bF_jumps b pf pj pe, _, rfl, _, _, rfl, rfl, _, rfl, pj, xs, rfl, SqL.of (g1.s _ _ (g1.f _ _ hxs)), fun p2 hp2 => ?_⟩
  have g2 := g1.new (o := .lst (cutV xs (some ((j : Int) + 1)) none)) hp2
  refine ⟨p1, p2, _, _, rfl, rfl, g2.s _ _ (by rw [upd_ne (fun e => by rw [e] at hp2; rw [← e, upd_same] at hp2; cases hp2)]; exact upd_same), upd_same, ?_, fun p3 hp3 => ?_⟩
  · have h1 := cutV_length xs none (some (j : Int))
    have h2 := cutV_length xs (some ((j : Int) + 1)) none
    have := rxs.len
    exact Nat.le_of_lt (small_line (by omega))
  · have g3 := g2.new (o := .lst (cutV xs none (some (j : Int)) ++ cutV xs (some ((j : Int) + 1)) none)) hp3
    refine make_board (b := lessJ b j) g3.s ?_ ?_ (lessJ_good g j).jd (fun v F' H' g4 hv => k v F' H' (g3.trans g4) hv)
    · exact NsV.of (g3.f _ _ B.faces)
    · refine ⟨p3, _, rfl, upd_same, ?_⟩
      show L2R PrR _ (b.jumps.eraseIdx j) _
      rw [List.eraseIdx_eq_take_drop_succ]
      have hh := ((rxs.mono PrR.mono g3.f).take j).append ((rxs.mono PrR.mono g3.f).drop (j + 1))
      rw [← cut_to xs j, ← cut_from xs (j + 1)] at hh
      exact hh

/-! ### has_ring -/
theorem kvs_some (l : List (Nat × Nat)) (p : Nat) : (valV (kvsOf l) (Sum.inl (p : Int))).isSome = (jAt l p).isSome := by
  rw [kvs_at]
  cases jAt l p <;> rfl
def spHasRing : Sp := fun vs H Q _ => ∃ (F : Hp) (v : V) (l : List (Nat × Nat)), vs = [v] ∧ Same F H ∧ PrsV l v F ∧ (l.map fun j => j.1).Pairwise (· ≠ ·) ∧ l.length ≤ 1000 ∧ Ret F H (fun v _ => v = .bl (hasRing l)) Q
theorem scHasRing : FnScope ["jumps", "ends", "begin", "there", "turn"] ["jumps"] (defScope sHasRing) := ⟨rfl, rfl, rfl, by decide +kernel, rfl, by decide +kernel, by decide +kernel⟩
theorem ok_hasRing {f : Addr} {fd : FuncData} (F : Fun K "has_ring" "has_ring" sHasRing f fd) (T : Txt K mg CB CD CR aN aO aM) : FnOk P w K mg base CX0 1 f fd ["jumps"] spHasRing := by
  refine F.ok scHasRing (fun vs H Q E h => ?_) (fun cdv A outer s H vs Q E hr h => ?_)
  · obtain ⟨F, v, l, rfl, _⟩ := h
    rfl
  refine ⟨_, pss_cons (ps_set (i := 1) scHasRing.nd rfl (Or.inl rfl) (pe_callTy (call_dictP rfl) (by rfl) T.n_dict (by decide +kernel) (pa_cons (pv 0) pa_nil)))
    (pss_cons (ps_lock (ps_for PassesOwn.never rfl (pi_keys (pv 1)) (pg_name (i := 2) scHasRing.nd rfl (Or.inl rfl))
      (pss_cons (ps_set (i := 3) scHasRing.nd rfl (Or.inl rfl) (pv 2))
      (pss_cons (ps_for PassesOwn.never rfl (pi_range1 (by rfl) T.n_range (pa_cons (pe_callB call_len_seq (by rfl) T.n_len (by decide +kernel) (pa_cons (pv 0) pa_nil)) pa_nil)) (pg_name (i := 4) scHasRing.nd rfl (Or.inl rfl))
        (pss_one (ps_set (i := 3) scHasRing.nd rfl (Or.inl rfl) (pe_dget2 (hu_of hr) (pv 1) (pv 3) (pv 3) ⟨rfl, rfl, rfl, rfl⟩))))
      (pss_one (ps_if (pt_cmp (pc_din (hu_of hr) (pv 3) (pv 1))) (pss_one (ps_ret pe_bl)) pss_nil))))))
    (pss_one (ps_ret pe_bl))), ?_⟩
  obtain ⟨F, v, l, rfl, sF, ⟨a, xs, rfl, ha, hxs⟩, hd, hll, k⟩ := h
  obtain ⟨ps, exs, hps⟩ := prs_dict (K := K) (hxs.mono PrR.mono sF)
  refine ⟨_, rfl, a, ps, _, rfl, SqL.of (by rw [← exs]; exact sF _ _ ha), hps, fun d hdd => ?_⟩
  rw [merge_all hd]
  refine ⟨d, .dK (kvsOf l), upd_same, trivial, fun od => ?_⟩
  rw [upd_upd]
  have fd0 : F d = none := sF.free hdd
  have nad : a ≠ d := ne_of_none (sF _ _ ha) hdd
  have hfz : (upd H d (.frz od (.dK (kvsOf l)))) d = some (.frz od (.dK (kvsOf l))) := upd_same
  have fin : ∀ H', H' = upd H d (.frz od (.dK (kvsOf l))) → Gr F H F (upd H' d (.dK (kvsOf l))) := fun H' e => by
    rw [e, upd_upd]
    exact (Gr.refl sF).mut hdd
  refine ⟨_, rfl, d, od, rfl, .inl ⟨kvsOf l, hfz, ?_⟩⟩
  refine for_it walk_keys (fun i σ H' => H' = upd H d (.frz od (.dK (kvsOf l))) ∧ (∃ o1 o2 o3, σ = [some (.ref a), some (.ref d), o1, o2, o3]) ∧ ∀ (j : Nat) (x : Nat × Nat), j < i → l[j]? = some x → (jAt l (itj l l.length x.1)).isSome = false) ?_ ?_ ?_ ?_
  · exact ⟨rfl, ⟨_, _, _, rfl⟩, fun j x hj => absurd hj (Nat.not_lt_zero _)⟩
  · rintro i σ H' _ ⟨rfl, _⟩
    exact hfz
  · rintro i x σ H' H'' hi ⟨rfl, ⟨o1, o2, o3, rfl⟩, hall⟩ ⟨rfl, kk, vv, hk, rfl⟩
    obtain ⟨j, hj, ej⟩ : ∃ j : Nat × Nat, l[i]? = some j ∧ kk = Sum.inl (j.1 : Int) := by
      unfold kvsOf at hk
      rw [List.getElem?_map] at hk
      cases e : l[i]? with
      | none => rw [e] at hk; cases hk
      | some j =>
        rw [e] at hk
        have := Option.some.inj hk
        injection this with h1 h2
        exact ⟨j, rfl, h1.symm⟩
    subst ej
    refine ⟨_, rfl, _, rfl, a, xs, rfl, .inl (SqL.of (by rw [upd_ne nad]; exact sF _ _ ha)), _, rfl, by omega, ?_, ?_⟩
    · rw [hxs.len]; omega
    refine for_it walk_range (fun m σ H' => H' = upd H d (.frz od (.dK (kvsOf l))) ∧ ∃ o3, σ = [some (.ref a), some (.ref d), some (.int (j.1 : Int)), some (.int ((itj l m j.1 : Nat) : Int)), o3]) ⟨rfl, _, rfl⟩ (fun _ _ _ _ _ => trivial) ?_ ?_
    · rintro m x σ H' H'' hm ⟨rfl, o3, rfl⟩ ⟨rfl, rfl⟩
      refine ⟨_, rfl, d, rfl, .inl ⟨_, .inr ⟨od, hfz⟩⟩, _, rfl, _, rfl, valV (kvsOf l) (Sum.inl ((itj l m j.1 : Nat) : Int)), .inl ⟨kvsOf l, Sum.inl ((itj l m j.1 : Nat) : Int), .inr ⟨od, hfz⟩, rfl, rfl⟩, rfl, some (.int ((0 : Int) + (m : Nat))), ?_⟩
      rw [kvs_at]
      have e : ((jAt l (itj l m j.1)).map fun q => V.int (q : Int)).getD (V.int ((itj l m j.1 : Nat) : Int)) = V.int ((itj l (m + 1) j.1 : Nat) : Int) := by
        show _ = V.int ((jGet l (itj l m j.1) : Nat) : Int)
        unfold jGet
        cases jAt l (itj l m j.1) <;> rfl
      rw [e]
      rfl
    · rintro σ H' ⟨rfl, o3, rfl⟩
      rw [Int.toNat_natCast, hxs.len]
      refine ⟨_, rfl, _, rfl, d, valV (kvsOf l) (Sum.inl ((itj l l.length j.1 : Nat) : Int)), rfl, .inl ⟨kvsOf l, Sum.inl ((itj l l.length j.1 : Nat) : Int), .inr ⟨od, hfz⟩, rfl, rfl⟩, _, rfl, ?_⟩
      rw [kvs_some]
      refine if_b (fun h1 => ?_) (fun h1 => ?_)
      · refine ⟨hfz, k _ F _ (fin _ rfl) ?_⟩
        show V.bl true = V.bl (hasRing l)
        congr 1
        unfold hasRing
        exact (List.any_eq_true.mpr ⟨j, List.mem_of_getElem? hj, h1⟩).symm
      · refine ⟨rfl, ⟨_, _, _, rfl⟩, fun j' x' hj' hx' => ?_⟩
        rcases Nat.lt_succ_iff_lt_or_eq.mp hj' with h2 | h2
        · exact hall j' x' h2 hx'
        · subst h2
          rw [hj] at hx'
          cases hx'
          exact h1
  · rintro σ H' ⟨rfl, ⟨o1, o2, o3, rfl⟩, hall⟩
    refine ⟨hfz, k _ F _ (fin _ rfl) ?_⟩
    show V.bl false = V.bl (hasRing l)
    congr 1
    unfold hasRing
    refine (List.any_eq_false.mpr fun x hx => ?_).symm
    obtain ⟨j, hj, ej⟩ := List.mem_iff_getElem.mp hx
    have := hall j x (by simpa [kvsOf] using hj) (by rw [List.getElem?_eq_getElem hj, ej])
    rw [this]
    decide
end
end LS

namespace LS
open PySem PySem.Spec PyProof.Rows L2
open Uw62 (Board Frac)
abbrev sPivotAt : Stmt := topS 16
abbrev sWithoutU : Stmt := topS 17
abbrev sWithPivot : Stmt := topS 18
abbrev sUnknowns : Stmt := topS 19
abbrev RwV (K : PySem.W.Frag) : Rep (List Frac) := LsV (FrV K)
abbrev RsV (K : PySem.W.Frag) : Rep (List (List Frac)) := LsV (LsV (FrV K))
theorem RwV.mono {K : PySem.W.Frag} : Mono (RwV K) := LsV.mono FrV.mono
theorem RsV.mono {K : PySem.W.Frag} : Mono (RsV K) := LsV.mono RwV.mono
theorem tup_ne (q : Frac) (h : Nf q) : (!PyData.eqv (.tuple [.int q.u, .int (q.l : Int)]) (.tuple [.int 0, .int 1])) = (q.u != 0) := by
  have e : PyData.eqv (.tuple [.int q.u, .int (q.l : Int)]) (.tuple [.int 0, .int 1]) = (q.u == 0 && ((q.l : Int) == 1 && true)) := rfl
  rw [e]
  by_cases hu : q.u = 0
  · have hz := nf_zero h hu
    rw [hz]
    rfl
  · have h1 : (q.u == 0) = false := beq_eq_false_iff_ne.mpr hu
    rw [h1]
    simp [hu]
theorem getD_get {α : Type} {l : List α} {i : Nat} (h : i < l.length) (d : α) : l[i]? = some (l.getD i d) := by
  rw [List.getD_eq_getElem?_getD, List.getElem?_eq_getElem h]
  rfl
/-- an item of a list that lies in F -/
theorem LsV.get {α : Type} {R : Rep α} {l : List α} {v : V} {F : Hp} (h : LsV R l v F) {i : Nat} {x : α} (hx : l[i]? = some x) : ∃ a xs y, v = .ref a ∧ F a = some (.lst xs) ∧ atI xs (i : Int) = some y ∧ R x y F := by
  obtain ⟨a, xs, e, h1, h2⟩ := h
  obtain ⟨y, h3, h4⟩ := h2.get i x hx
  exact ⟨a, xs, y, e, h1, atI_nat h3, h4⟩
theorem given_first {α : Type} {n m : Nat} {f : Nat → Bool} {v : Nat → α} (hm : m < n) (hf : f m = true) (hl : ∀ j, j < m → f j = false) : (givenA n f v)[0]? = some (v m) := by
  unfold givenA
  obtain ⟨k, rfl⟩ : ∃ k, n = m + (k + 1) := ⟨n - m - 1, by omega⟩
  rw [List.range_add, List.filter_append, List.filter_eq_nil_iff.mpr (by intro j hj; simp at hj; rw [hl j hj]; decide), List.nil_append, List.range_succ_eq_map, List.map_cons, List.filter_cons_of_pos (by simpa using hf)]
  rfl
section
variable {P : Program} {w : World} {K : PySem.W.Frag} {mg : Str → Option Value} {base : Heap} {CB CD CR aN aO aM : Addr}

/-! ### pivot_at -/
def spPivotAt (K : PySem.W.Frag) : Sp := fun vs H Q _ => ∃ (F : Hp) (v : V) (rs : List (List Frac)) (i a : Nat), vs = [v, .int (i : Int)] ∧ Same F H ∧ RsV K rs v F ∧ rs.length ≤ 100 ∧ (∀ r ∈ rs, i < r.length ∧ ∀ q ∈ r, Nf q) ∧ i ≤ a ∧ a < rs.length ∧
  ((rs.getD a []).getD i Uw62.zero).u ≠ 0 ∧ (∀ j, i ≤ j → j < a → ((rs.getD j []).getD i Uw62.zero).u = 0) ∧ Ret F H (fun v _ => v = .int (a : Int)) Q
theorem scPivotAt : FnScope ["rows", "k", "at"] ["rows", "k"] (defScope sPivotAt) := ⟨rfl, rfl, rfl, by decide +kernel, rfl, by decide +kernel, by decide +kernel⟩
theorem ok_pivotAt {f : Addr} {fd : FuncData} (F : Fun K "pivot_at" "pivot_at" sPivotAt f fd) (T : Txt K mg CB CD CR aN aO aM) : FnOk P w K mg base CX0 1 f fd ["rows", "k"] (spPivotAt K) := by
  refine F.ok scPivotAt (fun vs H Q E h => ?_) (fun cdv A outer s H vs Q E hr h => ?_)
  · obtain ⟨F, v, rs, i, a, rfl, _⟩ := h
    rfl
  refine ⟨_, pss_one (ps_ret (pe_ix ix_list (pe_lc (own := [("at", 2)]) (g := gName 2) rfl scPivotAt.nd (pi_range2 (by rfl) T.n_range (pa_cons (pv 1) (pa_cons (pe_callB call_len_seq (by rfl) T.n_len (by decide +kernel) (pa_cons (pv 0) pa_nil)) pa_nil)))
      (blkOk_by (own := [("at", 2)]) (N := ["rows", "k", "at"]) (sc := defScope sPivotAt) (by decide +kernel)) (fun _ _ _ _ _ => pg_name (i := 2) scPivotAt.nd rfl (Or.inl rfl))
      (fun _ _ _ _ _ => pts_one (pt_cmpR (op_neK K hr) (ix_lK K (ix_lK K (pv 0) (pv 2)) (pv 1)) (pe_gref T.gN) (nomark _))) (fun _ _ _ _ _ => pv 2)) pe_int (fun _ _ => rfl))), ?_⟩
  obtain ⟨F, v, rs, i, a, rfl, sF, hrs, hrl, hw, hia, hal, hne, hlow, k⟩ := h
  obtain ⟨p, xs, rfl, hp, hxs⟩ := id hrs
  have hlen := hxs.len
  refine ⟨_, rfl, _, rfl, p, xs, rfl, .inl (SqL.of (sF _ _ hp)), (i : Int), (xs.length : Int), rfl, ⟨by omega, by omega, by omega, by omega⟩, fun D hD => ?_⟩
  have hn : ((xs.length : Int) - (i : Int)).toNat = rs.length - i := by omega
  rw [hn]
  refine lc_rep (walk_range (lo := (i : Int)) (n := rs.length - i)) hD sF NatR NatR.mono (fun m => ((rs.getD (i + m) []).getD i Uw62.zero).u != 0) (fun m => i + m) (by omega) (fun _ _ => trivial) ?_ ?_
  · rintro m F' H' x H'' Qy Qn hm gr ⟨rfl, rfl⟩ ky kn
    have hr1 : rs[i + m]? = some (rs.getD (i + m) []) := getD_get (by omega) []
    have hrm : rs.getD (i + m) [] ∈ rs := List.mem_of_getElem? hr1
    obtain ⟨p1, x1, y1, e1, f1, at1, r1⟩ := (RsV.mono _ _ _ _ gr.f hrs).get hr1
    obtain ⟨p2, x2, y2, e2, f2, at2, p3, e3, s3⟩ := r1.get (getD_get (hw _ hrm).1 Uw62.zero)
    cases e1
    subst e2 e3
    refine ⟨rfl, _, rfl, _, rfl, p, x1, _, _, rfl, rfl, SqL.of (gr.s _ _ f1), by rw [Int.natCast_add] at at1; exact at1, _, rfl, p2, x2, _, _, rfl, rfl, SqL.of (gr.s _ _ f2), at2, ?_⟩
    refine ⟨.tuple [.int _, .int _], .tuple [.int 0, .int 1], .tup (same_T gr.s s3) (.cons (.int _) (.cons (.int _) .nil)), .tup (T.tN _) (.cons (.int _) (.cons (.int _) .nil)), rfl, rfl, _, rfl, ?_⟩
    rw [tup_ne _ ((hw _ hrm).2 _ (List.mem_of_getElem? (getD_get (hw _ hrm).1 Uw62.zero)))]
    refine if_b (fun hc => ?_) (fun hc => ?_)
    · refine ⟨_, rfl, ky hc _ F' _ (Gr.refl gr.s) ?_⟩
      show V.int ((i : Int) + (m : Int)) = V.int ((i + m : Nat) : Int)
      rw [Int.natCast_add]
    · exact kn hc F' _ (Gr.refl gr.s)
  · intro F' H' gr hl
    obtain ⟨m, rfl⟩ : ∃ m, a = i + m := ⟨a - i, by omega⟩
    have h0 := given_first (n := rs.length - i) (m := m) (f := fun m => ((rs.getD (i + m) []).getD i Uw62.zero).u != 0) (v := fun m => i + m) (by omega) (by simpa using hne) (fun j hj => by have := hlow (i + j) (by omega) (by omega); simp only [this]; decide)
    obtain ⟨p1, x1, y1, e1, f1, at1, r1⟩ := hl.get h0
    cases e1
    refine ⟨D, x1, _, _, rfl, rfl, SqL.of (gr.s _ _ f1), at1, ?_⟩
    exact k _ F' H' gr r1

/-! ### without_unknown -/
def spWithoutU (K : PySem.W.Frag) : Sp := fun vs H Q _ => ∃ (F : Hp) (v u : V) (q p : List Frac) (i B : Nat), vs = [v, u, .int (i : Int)] ∧ Same F H ∧ RwV K q v F ∧ RwV K p u F ∧ q.length = p.length ∧ q.length ≤ 100 ∧ i < q.length ∧ (∀ y ∈ q, Sz B y) ∧ (∀ y ∈ p, Sz B y) ∧ 3 * B ≤ 9000 ∧ Ret F H (RwV K (outRow i p q)) Q
theorem scWithoutU : FnScope ["row", "pivot", "k", "many", "one", "other"] ["row", "pivot", "k"] (defScope sWithoutU) := ⟨rfl, rfl, rfl, by decide +kernel, rfl, by decide +kernel, by decide +kernel⟩
abbrev sp2G (P : Program) (w : World) (K : PySem.W.Frag) (mg : Str → Option Value) (base : Heap) (k : Nat) (x : Str) (f : Frac → Frac → Frac) : Prop := FnG P w K mg base CX0 k x ["one", "other"] (sp2 K f)
theorem zip_range {α β γ : Type} (f : α → β → γ) (d : α) (e : β) : ∀ (q : List α) (p : List β), q.length = p.length → (List.range q.length).map (fun i => f (q.getD i d) (p.getD i e)) = List.zipWith f q p
  | [], [], _ => rfl
  | [], _ :: _, h => by simp at h
  | _ :: _, [], h => by simp at h
  | x :: q, y :: p, h => by
    rw [List.length_cons, List.range_succ_eq_map, List.map_cons, List.map_map, List.zipWith_cons_cons, ← zip_range f d e q p (by simpa using h)]
    rfl
theorem ok_withoutU {f : Addr} {fd : FuncData} (F : Fun K "without_unknown" "without_unknown" sWithoutU f fd) (T : Txt K mg CB CD CR aN aO aM) (G1 : sp2G P w K mg base 4 "less" Uw62.minus) (G2 : sp2G P w K mg base 3 "times" Uw62.times) : FnOk P w K mg base CX0 5 f fd ["row", "pivot", "k"] (spWithoutU K) := by
  refine F.ok scWithoutU (fun vs H Q E h => ?_) (fun cdv A outer s H vs Q E hr h => ?_)
  · obtain ⟨F, v, u, q, p, i, B, rfl, _⟩ := h
    rfl
  refine ⟨_, pss_cons (ps_set (i := 3) scWithoutU.nd rfl (Or.inr rfl) (pe_ix ix_list (pv 0) (pv 2) (fun _ _ => rfl)))
    (pss_one (ps_ret (pe_lc (own := [("one", 4), ("other", 5)]) (g := gTup K 2 (gCons (gName 4) (gCons (gName 5) gNil))) (tt := tYes) rfl scWithoutU.nd (pi_zip (by rfl) T.n_zip (pa_cons (pv 0) (pa_cons (pv 1) pa_nil)))
      (blkOk_by (own := [("one", 4), ("other", 5)]) (N := ["row", "pivot", "k", "many", "one", "other"]) (sc := defScope sWithoutU) (by decide +kernel))
      (fun _ _ _ _ _ => pg_tup rfl (pgs_cons (pg_name (i := 4) scWithoutU.nd rfl (Or.inl rfl)) (pgs_cons (pg_name (i := 5) scWithoutU.nd rfl (Or.inl rfl)) pgs_nil))) (fun _ _ _ _ _ => pts_nil)
      (fun _ _ _ _ _ => pe_fn G1 hr pass0 (pa_cons (pv 4) (pa_cons (pe_fn G2 hr pass0 (pa_cons (pv 3) (pa_cons (pv 5) pa_nil))) pa_nil)))))), ?_⟩
  obtain ⟨F, v, u, q, p, i, B, rfl, sF, hq, hp, hqp, hql, hi, sq, sp, hB, k⟩ := h
  obtain ⟨a, xs, e2, fa, rxs⟩ := hq
  obtain ⟨c, ys, e3, fc, rys⟩ := hp
  subst e2 e3
  obtain ⟨y1, hy1, r1⟩ := rxs.get i _ (getD_get hi Uw62.zero)
  have at1 := atI_nat hy1
  have hm := sq _ (List.mem_of_getElem? (getD_get hi Uw62.zero))
  refine ⟨_, rfl, _, rfl, a, xs, _, _, rfl, rfl, SqL.of (sF _ _ fa), at1, ?_⟩
  refine ⟨_, rfl, _, rfl, a, c, xs, ys, rfl, SqL.of (sF _ _ fa), SqL.of (sF _ _ fc), fun D hD => ?_⟩
  refine lc_map (walk_zip (K := K) (a := a) (b := c) (xs := xs) (ys := ys) (n := q.length) (by rw [rxs.len, rys.len]; omega)) hD sF (FrV K) FrV.mono (fun j => Uw62.minus (q.getD j Uw62.zero) (Uw62.times (q.getD i Uw62.zero) (p.getD j Uw62.zero))) (by omega) (fun H' s => ⟨SqL.of (s _ _ fa), SqL.of (s _ _ fc)⟩) ?_ ?_ mg_pair
  · rintro j F' H' x H'' Qy hj gr ⟨t, z1, z2, rfl, ht, rfl, hz1, hz2⟩ ky
    obtain ⟨q1, hq1, rz1⟩ := rxs.item hz1
    obtain ⟨p1, hp1, rz2⟩ := rys.item hz2
    have eq : q.getD j Uw62.zero = q1 := by rw [List.getD_eq_getElem?_getD, hq1]; rfl
    have ep : p.getD j Uw62.zero = p1 := by rw [List.getD_eq_getElem?_getD, hp1]; rfl
    have g1 : Gr F' H' F' (upd H' t (.tup [z1, z2])) := (Gr.refl gr.s).mut ht
    refine pair_new upd_same ⟨rfl, if_t rfl ⟨_, rfl, _, rfl, _, rfl, F', _, _, q.getD i Uw62.zero, p1, B, B, rfl, g1.s, FrV.mono _ _ _ _ gr.f r1, FrV.mono _ _ _ _ gr.f rz2, hm, sp _ (List.mem_of_getElem? hp1), by omega, fun v2 F2 H2 g2 hv2 => ?_⟩⟩
    refine ⟨F2, _, _, q1, Uw62.times (q.getD i Uw62.zero) p1, B, B + B, rfl, g2.s, FrV.mono _ _ _ _ (gr.f.trans g2.f) rz1, hv2, sq _ (List.mem_of_getElem? hq1), times_sz hm (sp _ (List.mem_of_getElem? hp1)), by omega, fun v3 F3 H3 g3 hv3 => ?_⟩
    refine ky v3 F3 H3 (g1.trans (g2.trans g3)) ?_
    rw [eq, ep]
    exact hv3
  · intro F' H' gr hl
    rw [zip_range (fun x y => Uw62.minus x (Uw62.times (q.getD i Uw62.zero) y)) Uw62.zero Uw62.zero q p hqp] at hl
    exact k _ F' H' gr hl

/-! ### with_pivot -/
def spWithPivot (K : PySem.W.Frag) : Sp := fun vs H Q _ => ∃ (F : Hp) (v : V) (rs : List (List Frac)) (i a B : Nat), vs = [v, .int (i : Int)] ∧ Same F H ∧ RsV K rs v F ∧ rs.length ≤ 10 ∧ (∀ r ∈ rs, RI B (rs.length + 1) r) ∧ 3 * B ≤ 9000 ∧ i ≤ a ∧ a < rs.length ∧
  ((rs.getD a []).getD i Uw62.zero).u ≠ 0 ∧ (∀ j, i ≤ j → j < a → ((rs.getD j []).getD i Uw62.zero).u = 0) ∧ RI B (rs.length + 1) (pivRow i (rs.getD a [])) ∧ Ret F H (RsV K (nextRows rs i a)) Q
theorem scWithPivot : FnScope ["rows", "k", "at", "own", "others", "one", "j", "row"] ["rows", "k"] (defScope sWithPivot) := ⟨rfl, rfl, rfl, by decide +kernel, rfl, by decide +kernel, by decide +kernel⟩
abbrev nWP : List Str := ["rows", "k", "at", "own", "others", "one", "j", "row"]
theorem ok_withPivot {f : Addr} {fd : FuncData} (F : Fun K "with_pivot" "with_pivot" sWithPivot f fd) (T : Txt K mg CB CD CR aN aO aM) (G1 : FnG P w K mg base CX0 1 "pivot_at" ["rows", "k"] (spPivotAt K)) (G2 : FnG P w K mg base CX0 4 "over" ["one", "other"] (spOver K))
    (G3 : FnG P w K mg base CX0 5 "without_unknown" ["row", "pivot", "k"] (spWithoutU K)) : FnOk P w K mg base CX0 6 f fd ["rows", "k"] (spWithPivot K) := by
  refine F.ok scWithPivot (fun vs H Q E h => ?_) (fun cdv A outer s H vs Q E hr h => ?_)
  · obtain ⟨F, v, rs, i, a, B, rfl, _⟩ := h
    rfl
  refine ⟨_, pss_cons (ps_set (i := 2) scWithPivot.nd rfl (Or.inr rfl) (pe_fn G1 hr pass0 (pa_cons (pv 0) (pa_cons (pv 1) pa_nil))))
    (pss_cons (ps_set (i := 3) scWithPivot.nd rfl (Or.inr rfl) (pe_lc (own := [("one", 5)]) (g := gName 5) (tt := tYes) rfl scWithPivot.nd (pi_list (pe_ix ix_list (pv 0) (pv 2) (fun _ _ => rfl)))
      (blkOk_by (own := [("one", 5)]) (N := nWP) (sc := defScope sWithPivot) (by decide +kernel)) (fun _ _ _ _ _ => pg_name (i := 5) scWithPivot.nd rfl (Or.inl rfl)) (fun _ _ _ _ _ => pts_nil)
      (fun _ _ _ _ _ => pe_fn G2 hr pass0 (pa_cons (pv 5) (pa_cons (ix_lK K (ix_lK K (pv 0) (pv 2)) (pv 1)) pa_nil)))))
    (pss_cons (ps_set (i := 4) scWithPivot.nd rfl (Or.inl rfl) (pe_op op_cat (pe_op op_cat (pe_slice sl_list (pv 0) po_none (po_some (pv 1))) (pe_lst (pa_cons (pv 3) pa_nil)))
      (pe_lc (own := [("j", 6), ("row", 7)]) (g := gTup K 2 (gCons (gName 6) (gCons (gName 7) gNil))) rfl scWithPivot.nd (pi_enum (by rfl) T.n_enumerate (pa_cons (pv 0) pa_nil))
        (blkOk_by (own := [("j", 6), ("row", 7)]) (N := nWP) (sc := defScope sWithPivot) (by decide +kernel))
        (fun _ _ _ _ _ => pg_tup rfl (pgs_cons (pg_name (i := 6) scWithPivot.nd rfl (Or.inl rfl)) (pgs_cons (pg_name (i := 7) scWithPivot.nd rfl (Or.inl rfl)) pgs_nil)))
        (fun _ _ _ _ _ => pts_one (PW.pt (pw_and (pt_cmpR op_ge (pv 6) (pv 1) (nomark _)) (pw_and1 (pt_cmpR op_ne (pv 6) (pv 2) (nomark _)))))) (fun _ _ _ _ _ => pv 7))))
    (pss_one (ps_ret (pe_lc (own := [("j", 6), ("row", 7)]) (g := gTup K 2 (gCons (gName 6) (gCons (gName 7) gNil))) (tt := tYes) rfl scWithPivot.nd (pi_enum (by rfl) T.n_enumerate (pa_cons (pv 4) pa_nil))
        (blkOk_by (own := [("j", 6), ("row", 7)]) (N := nWP) (sc := defScope sWithPivot) (by decide +kernel))
        (fun _ _ _ _ _ => pg_tup rfl (pgs_cons (pg_name (i := 6) scWithPivot.nd rfl (Or.inl rfl)) (pgs_cons (pg_name (i := 7) scWithPivot.nd rfl (Or.inl rfl)) pgs_nil))) (fun _ _ _ _ _ => pts_nil)
        (fun _ _ _ _ _ => pe_ifExp (pt_cmpR op_eq (pv 6) (pv 1) (nomark _)) (pv 7) (pe_fn G3 hr pass0 (pa_cons (pv 7) (pa_cons (pv 3) (pa_cons (pv 1) pa_nil)))))))))), ?_⟩
  obtain ⟨F, v, rs, i, a, B, rfl, sF, hrs, hrl, hri, hB, hia, hal, hne, hlow, hpr, k⟩ := h
  have hw : ∀ r ∈ rs, i < r.length ∧ ∀ q ∈ r, Nf q := fun r hr' => ⟨by rw [(hri r hr').wf.1]; omega, (hri r hr').wf.2⟩
  -- at
  refine ⟨_, rfl, _, rfl, F, _, rs, i, a, rfl, sF, hrs, by omega, hw, hia, hal, hne, hlow, fun v1 F1 H1 g1 hv1 => ?_⟩
  subst hv1
  -- own
  have har : rs[a]? = some (rs.getD a []) := getD_get hal []
  have hra := hri _ (List.mem_of_getElem? har)
  obtain ⟨p, xs, e, fp0, rxs0⟩ := id hrs
  subst e
  have fp := g1.f _ _ fp0
  obtain ⟨y0, hy0, r0⟩ := (rxs0.mono RwV.mono g1.f).get a _ har
  have at0 := atI_nat hy0
  obtain ⟨pr, xr, rfl, fpr, rxr⟩ := id r0
  refine ⟨_, rfl, _, rfl, p, xs, _, _, rfl, rfl, SqL.of (g1.s _ _ fp), at0, pr, rfl, ⟨_, SqL.of (g1.s _ _ fpr)⟩, fun D hD => ?_⟩
  have hwi : i < (rs.getD a []).length := by rw [hra.wf.1]; omega
  have hpi := hra.sz _ (List.mem_of_getElem? (getD_get hwi Uw62.zero))
  refine lc_map (walk_list (K := K) (a := pr) (xs := xr)) hD g1.s (FrV K) FrV.mono (fun j => Uw62.by_ ((rs.getD a []).getD j Uw62.zero) ((rs.getD a []).getD i Uw62.one)) (by rw [rxr.len, hra.wf.1]; omega) (fun H' s => SqL.of (s _ _ fpr)) ?_ ?_ mg_name
  · rintro j F' H' x H'' Qy hj gr ⟨rfl, hx⟩ ky
    obtain ⟨q1, hq1, rq1⟩ := rxr.item hx
    obtain ⟨p2, x2, y2, e2, f2, at2, r2⟩ := r0.get (getD_get hwi Uw62.zero)
    cases e2
    refine ⟨rfl, if_t rfl ⟨_, rfl, _, rfl, _, rfl, p, xs, _, _, rfl, rfl, SqL.of (gr.s _ _ (gr.f _ _ fp)), at0, _, rfl, pr, x2, _, _, rfl, rfl, SqL.of (gr.s _ _ (gr.f _ _ f2)), at2, ?_⟩⟩
    refine ⟨F', _, _, q1, (rs.getD a []).getD i Uw62.zero, B, B, rfl, gr.s, FrV.mono _ _ _ _ gr.f rq1, FrV.mono _ _ _ _ gr.f r2, hra.sz _ (List.mem_of_getElem? hq1), hpi, by omega, hne, fun v3 F3 H3 g3 hv3 => ?_⟩
    refine ky v3 F3 H3 g3 ?_
    rw [show (rs.getD a []).getD j Uw62.zero = q1 by rw [List.getD_eq_getElem?_getD, hq1]; rfl, getD_in hwi Uw62.one Uw62.zero]
    exact hv3
  intro F2 H2 g2 hown
  have eown : (List.range xr.length).map (fun j => Uw62.by_ ((rs.getD a []).getD j Uw62.zero) ((rs.getD a []).getD i Uw62.one)) = pivRow i (rs.getD a []) := by
    unfold pivRow
    conv => rhs; rw [← range_getD Uw62.zero (rs.getD a [])]
    rw [List.map_map, rxr.len, range_getD]
    rfl
  rw [eown] at hown
  have g02 := g1.trans g2
  have fp2 := g2.f _ _ fp
  have hrs2 := RsV.mono _ _ _ _ (g1.f.trans g2.f) hrs
  -- rows[:k]
  refine ⟨_, rfl, _, rfl, _, rfl, p, xs, rfl, SqL.of (g2.s _ _ fp2), fun q1 hq1 => ?_⟩
  rw [cut_to]
  have g3 := g02.new (o := .lst (xs.take i)) hq1
  -- [own]
  refine ⟨_, rfl, (by show 1 ≤ sizeLine; decide), fun q2 hq2 => ?_⟩
  have g4 := g3.new (o := .lst [.ref D]) hq2
  have nq : q1 ≠ q2 := fun e => by rw [← e, upd_same] at hq2; cases hq2
  have hrows1 : L2R (RwV K) F2 rs xs := by
    obtain ⟨p', xs', e', f', r'⟩ := hrs2
    cases e'
    rw [fp2] at f'
    cases f'
    exact r'
  refine ⟨q1, q2, _, _, rfl, rfl, by rw [upd_ne nq]; exact upd_same, upd_same, ?_, fun q3 hq3 => ?_⟩
  · have := hrows1.len
    rw [List.length_take]
    exact Nat.le_of_lt (small_line (by simp; omega))
  have g5 := g4.new (o := .lst (xs.take i ++ [.ref D])) hq3
  have s25 : Same F2 _ := (same_new (g02.s.free hq1)).trans ((same_new (g3.s.free hq2)).trans (same_new (o := .lst (xs.take i ++ [.ref D])) (g4.s.free hq3)))
  -- the others
  have fp5 := s25 _ _ fp2
  refine ⟨_, rfl, p, xs, rfl, SqL.of (g5.s _ _ fp5), fun D2 hD2 => ?_⟩
  refine lc_rep (walk_enum (K := K) (a := p) (xs := xs)) hD2 g5.s (RwV K) RwV.mono (fun j => decide (i ≤ j) && decide (j ≠ a)) (fun j => rs.getD j []) (by have := hrows1.len; omega) (fun H' s => SqL.of (s _ _ fp5)) ?_ ?_
  · rintro j F' H' x H'' Qy Qn hj gr ⟨t, z1, z2, rfl, ht, rfl, hz1, hz2⟩ ky kn
    cases hz1
    obtain ⟨r1, hr1, rr1⟩ := hrows1.item hz2
    have gt : Gr F' H' F' (upd H' t (.tup [.int (j : Nat), z2])) := (Gr.refl gr.s).mut ht
    refine pair_new upd_same ⟨rfl, _, rfl, _, rfl, _, _, rfl, rfl, _, rfl, ?_⟩
    refine if_b (fun h1 => ?_) (fun h1 => ?_)
    · have h1' : i ≤ j := by have := of_decide_eq_true h1; omega
      refine ⟨_, rfl, _, rfl, rfl, _, rfl, ?_⟩
      refine if_b (fun h2 => ?_) (fun h2 => ?_)
      · have h2' : j ≠ a := fun e => by rw [e] at h2; simp at h2
        refine ⟨_, rfl, ky (by simp [h1', h2']) _ F' _ gt ?_⟩
        rw [show rs.getD j [] = r1 by rw [List.getD_eq_getElem?_getD, hr1]; rfl]
        exact RwV.mono _ _ _ _ (s25.trans gr.f) rr1
      · have h2' : j = a := by
          have : decide (V.int (j : Int) = V.int (a : Int)) = true := by simpa using h2
          have := V.int.inj (of_decide_eq_true this)
          omega
        exact kn (by simp [h2']) F' _ gt
    · have h1' : ¬ i ≤ j := by have := of_decide_eq_false h1; omega
      exact if_f rfl (kn (by simp [h1']) F' _ gt)
  intro F6 H6 g6 hoth
  obtain ⟨pd2, xd2, e2, fd2, rd2⟩ := hoth
  cases e2
  have f3 : F6 q3 = some (.lst (xs.take i ++ [.ref D])) := g6.f _ _ upd_same
  refine ⟨q3, D2, _, _, rfl, rfl, g6.s _ _ f3, g6.s _ _ fd2, ?_, fun q4 hq4 => ?_⟩
  · have h1 := rd2.len
    have h2 := givenA_len xs.length (fun j => decide (i ≤ j) && decide (j ≠ a)) (fun j => rs.getD j [])
    have h3 := hrows1.len
    rw [List.length_append, List.length_take]
    exact Nat.le_of_lt (small_line (by simp; omega))
  have g7 := (g5.trans g6).new (o := .lst (xs.take i ++ [.ref D] ++ xd2)) hq4
  have s26 := s25.trans g6.f
  have s27 := s26.trans (same_new (o := .lst (xs.take i ++ [.ref D] ++ xd2)) ((g5.trans g6).s.free hq4))
  have hoth : LsV (RwV K) (othersOf rs i a (pivRow i (rs.getD a []))) (.ref q4) (upd F6 q4 (.lst (xs.take i ++ [.ref D] ++ xd2))) := by
    refine ⟨q4, _, rfl, upd_same, ?_⟩
    have hlx := hrows1.len
    unfold othersOf
    refine L2R.append (L2R.append ((hrows1.mono RwV.mono s27).take i) (L2R.one (RwV.mono _ _ _ _ s27 hown))) ?_
    have := rd2.mono RwV.mono (same_new ((g5.trans g6).s.free hq4) (o := .lst (xs.take i ++ [.ref D] ++ xd2)))
    unfold givenA at this
    rw [hlx] at this
    exact this
  -- the last list
  obtain ⟨pq, xo, eo, fo, ro⟩ := id hoth
  cases eo
  have howns := RwV.mono _ _ _ _ s27 hown
  refine ⟨_, rfl, q4, xo, rfl, SqL.of (g7.s _ _ fo), fun D3 hD3 => ?_⟩
  have hol : (othersOf rs i a (pivRow i (rs.getD a []))).length ≤ 100 := by
    unfold othersOf
    have h2 : (((List.range rs.length).filter fun j => decide (i ≤ j) && decide (j ≠ a)).map fun j => rs.getD j []).length ≤ rs.length := givenA_len rs.length (fun j => decide (i ≤ j) && decide (j ≠ a)) (fun j => rs.getD j [])
    rw [List.length_append, List.length_append, List.length_take]
    simp only [List.length_singleton]
    omega
  have hmem : ∀ r ∈ othersOf rs i a (pivRow i (rs.getD a [])), RI B (rs.length + 1) r := fun r hr' => by
    unfold othersOf at hr'
    rcases List.mem_append.mp hr' with h | h
    · rcases List.mem_append.mp h with h | h
      · exact hri r (List.mem_of_mem_take h)
      · simp at h
        subst h
        exact hpr
    · obtain ⟨j, hj, rfl⟩ := List.mem_map.mp h
      have : j < rs.length := by simpa using (List.mem_filter.mp hj).1
      exact hri _ (List.mem_of_getElem? (getD_get this []))
  refine lc_map (walk_enum (K := K) (a := q4) (xs := xo)) hD3 g7.s (RwV K) RwV.mono (fun j => if j = i then (othersOf rs i a (pivRow i (rs.getD a []))).getD j [] else outRow i (pivRow i (rs.getD a [])) ((othersOf rs i a (pivRow i (rs.getD a []))).getD j [])) (by rw [ro.len]; omega) (fun H' s => SqL.of (s _ _ fo)) ?_ ?_ mg_pair
  · rintro j F' H' x H'' Qy hj gr ⟨t, z1, z2, rfl, ht, rfl, hz1, hz2⟩ ky
    cases hz1
    obtain ⟨r1, hr1, rr1⟩ := ro.item hz2
    have er : (othersOf rs i a (pivRow i (rs.getD a []))).getD j [] = r1 := by rw [List.getD_eq_getElem?_getD, hr1]; rfl
    have gt : Gr F' H' F' (upd H' t (.tup [.int (j : Nat), z2])) := (Gr.refl gr.s).mut ht
    have hr1m := hmem r1 (List.mem_of_getElem? hr1)
    refine pair_new upd_same ⟨rfl, if_t rfl ⟨_, rfl, _, rfl, rfl, _, rfl, ?_⟩⟩
    refine if_b (fun h1 => ?_) (fun h1 => ?_)
    · have h1' : j = i := by have := V.int.inj (of_decide_eq_true h1); omega
      refine ⟨_, rfl, ky _ F' _ gt ?_⟩
      rw [if_pos h1', er]
      exact RwV.mono _ _ _ _ gr.f rr1
    · have h1' : ¬ j = i := fun e => (of_decide_eq_false h1) (by rw [e])
      refine ⟨_, rfl, _, rfl, _, rfl, F', _, _, r1, pivRow i (rs.getD a []), i, B, rfl, gt.s, RwV.mono _ _ _ _ gr.f rr1, RwV.mono _ _ _ _ gr.f howns, by rw [hr1m.wf.1, hpr.wf.1], by rw [hr1m.wf.1]; omega, by rw [hr1m.wf.1]; omega, hr1m.sz, hpr.sz, hB, fun v3 F3 H3 g3' hv3 => ?_⟩
      refine ky v3 F3 H3 (gt.trans g3') ?_
      rw [if_neg h1', er]
      exact hv3
  · intro F8 H8 g8 hl
    refine k _ F8 H8 (g7.trans g8) ?_
    rw [ro.len] at hl
    exact hl

/-! ### unknowns -/
def spUnknowns (K : PySem.W.Frag) : Sp := fun vs H Q _ => ∃ (F : Hp) (v : V) (rs res : List (List Frac)), vs = [v] ∧ Same F H ∧ RsV K rs v F ∧ rs.length ≤ 10 ∧ (∀ r ∈ rs, RI 3 (rs.length + 1) r) ∧ Uw62.solveFrom rs.length rs.length [] rs = some res ∧ Ret F H (RwV K (res.map lastOf)) Q
theorem scUnknowns : FnScope ["rows", "k", "row"] ["rows"] (defScope sUnknowns) := ⟨rfl, rfl, rfl, by decide +kernel, rfl, by decide +kernel, by decide +kernel⟩
theorem L2R.last {α : Type} {R : Rep α} {F : Hp} {l : List α} {xs : List V} (h : L2R R F l xs) (d : α) (hl : 0 < l.length) : ∃ y, atI xs (-1) = some y ∧ R (l.getLastD d) y F := by
  obtain ⟨n, hn⟩ : ∃ n, l.length = n + 1 := ⟨l.length - 1, by omega⟩
  have hx : xs.length = n + 1 := by rw [h.len, hn]
  obtain ⟨y, h1, h2⟩ := h.get n (l.getLastD d) (by
    rw [List.getLastD_eq_getLast?, List.getLast?_eq_getElem?, hn, Nat.add_sub_cancel, List.getElem?_eq_getElem (by omega)]
    rfl)
  refine ⟨y, ?_, h2⟩
  have e : xs = xs.dropLast ++ [y] := by
    have hne : xs ≠ [] := fun z => by rw [z] at hx; simp at hx
    have := List.dropLast_concat_getLast hne
    have e2 : xs.getLast hne = y := by
      rw [List.getLast_eq_getElem]
      obtain ⟨h3, h4⟩ := List.getElem?_eq_some_iff.mp h1
      rw [← h4]
      congr 1
      omega
    rw [e2] at this
    exact this.symm
  rw [e]
  exact atI_last _ y
theorem elim_final {k : Nat} {res : List (List Frac)} (E : Elim k res k res) : ∀ r ∈ res, RI (2 ^ (k + 2) - 1) (k + 1) r := E.ri
theorem ok_unknowns {f : Addr} {fd : FuncData} (F : Fun K "unknowns" "unknowns" sUnknowns f fd) (T : Txt K mg CB CD CR aN aO aM) (G1 : FnG P w K mg base CX0 6 "with_pivot" ["rows", "k"] (spWithPivot K)) : FnOk P w K mg base CX0 7 f fd ["rows"] (spUnknowns K) := by
  refine F.ok scUnknowns (fun vs H Q E h => ?_) (fun cdv A outer s H vs Q E hr h => ?_)
  · obtain ⟨F, v, rs, res, rfl, _⟩ := h
    rfl
  refine ⟨_, pss_cons (ps_for PassesOwn.never rfl (pi_range1 (by rfl) T.n_range (pa_cons (pe_callB call_len_seq (by rfl) T.n_len (by decide +kernel) (pa_cons (pv 0) pa_nil)) pa_nil)) (pg_name (i := 1) scUnknowns.nd rfl (Or.inl rfl))
      (pss_one (ps_set (i := 0) scUnknowns.nd rfl (Or.inl rfl) (pe_fn G1 hr pass0 (pa_cons (pv 0) (pa_cons (pv 1) pa_nil))))))
    (pss_one (ps_ret (pe_lc (own := [("row", 2)]) (g := gName 2) (tt := tYes) rfl scUnknowns.nd (pi_list (pv 0)) (blkOk_by (own := [("row", 2)]) (N := ["rows", "k", "row"]) (sc := defScope sUnknowns) (by decide +kernel))
      (fun _ _ _ _ _ => pg_name (i := 2) scUnknowns.nd rfl (Or.inl rfl)) (fun _ _ _ _ _ => pts_nil) (fun _ _ _ _ _ => ix_lK K (pv 2) (pe_un un_neg pe_int))))), ?_⟩
  obtain ⟨F, v, rs, res, rfl, sF, hrs, hrl, hri, hres, k⟩ := h
  obtain ⟨p, xs, rfl, fp, rxs⟩ := id hrs
  refine ⟨_, rfl, p, xs, rfl, .inl (SqL.of (sF _ _ fp)), _, rfl, by omega, by rw [rxs.len]; omega, ?_⟩
  rw [Int.toNat_natCast, rxs.len]
  refine for_it walk_range (fun i σ H' => i ≤ rs.length ∧ ∃ F' v' o cur, Gr F H F' H' ∧ σ = [some v', o, none] ∧ RsV K cur v' F' ∧ Elim rs.length res i cur) ?_ (fun _ _ _ _ _ => trivial) ?_ ?_
  · exact ⟨Nat.zero_le _, F, _, none, rs, Gr.refl sF, rfl, hrs, elim_start hri hres⟩
  · rintro i x σ H' H'' hi ⟨_, F', v', o, cur, gr, rfl, hcur, El⟩ ⟨rfl, rfl⟩
    obtain ⟨a, h1, h2, h3, h4, h5, h6⟩ := elim_turn El hi
    have hB : 3 * (2 ^ (i + 2) - 1) ≤ 9000 := by
      have : 2 ^ (i + 2) ≤ 2 ^ 11 := pow_mono (by omega)
      have e : 2 ^ 11 = 2048 := by decide
      omega
    refine ⟨_, rfl, _, rfl, F', _, cur, i, a, 2 ^ (i + 2) - 1, ?_, gr.s, hcur, by rw [El.len]; exact hrl, by rw [El.len]; exact El.ri, hB, h1, by rw [El.len]; exact h2, h3, h4, by rw [El.len]; exact h5, fun v3 F3 H3 g3 hv3 => ?_⟩
    · show [v', V.int (0 + (i : Int))] = [v', V.int (i : Int)]
      rw [Int.zero_add]
    · exact ⟨hi, F3, v3, _, _, gr.trans g3, rfl, hv3, h6⟩
  · rintro σ H' ⟨_, F', v', o, cur, gr, rfl, hcur, El⟩
    have ec := elim_end El
    subst ec
    obtain ⟨q, ys, rfl, fq, rys⟩ := id hcur
    refine ⟨_, rfl, q, rfl, ⟨_, SqL.of (gr.s _ _ fq)⟩, fun D hD => ?_⟩
    have hcl := El.len
    refine lc_map (walk_list (K := K) (a := q) (xs := ys)) hD gr.s (FrV K) FrV.mono (fun j => lastOf (cur.getD j [])) (by rw [rys.len, hcl]; omega) (fun H' s => SqL.of (s _ _ fq)) ?_ ?_ mg_name
    · rintro j F2 H2 x H3 Qy hj g2 ⟨rfl, hx⟩ ky
      obtain ⟨r1, hr1, rr1⟩ := rys.item hx
      obtain ⟨pr, xr, rfl, fpr, rxr⟩ := RwV.mono _ _ _ _ g2.f rr1
      have hw := (El.ri r1 (List.mem_of_getElem? hr1)).wf
      obtain ⟨y, hy, ry⟩ := rxr.last Uw62.zero (by rw [hw.1]; omega)
      refine ⟨rfl, if_t rfl ⟨_, rfl, _, rfl, pr, xr, _, _, rfl, rfl, SqL.of (g2.s _ _ fpr), hy, ?_⟩⟩
      refine ky _ F2 _ (Gr.refl g2.s) ?_
      rw [show cur.getD j [] = r1 by rw [List.getD_eq_getElem?_getD, hr1]; rfl]
      exact ry
    · intro F2 H2 g2 hl
      refine k _ F2 H2 (gr.trans g2) ?_
      have e : (List.range ys.length).map (fun j => lastOf (cur.getD j [])) = cur.map lastOf := by
        conv => rhs; rw [← range_getD [] cur]
        rw [List.map_map, rys.len]
        rfl
      rw [e] at hl
      exact hl
end
end LS

namespace LS
open PySem PySem.Spec PyProof.Rows L2
open Uw62 (Board Frac)
abbrev sWaysOn : Stmt := topS 21
abbrev sFirstWays : Stmt := topS 22
abbrev sWaysBehind : Stmt := topS 23
abbrev sChanceAt : Stmt := topS 24
abbrev sLeastThrows : Stmt := topS 25
abbrev sChanceOf : Stmt := topS 26
abbrev sOpenPlaces : Stmt := topS 27
abbrev sStayRow : Stmt := topS 28
theorem ixN_at {n j : Nat} (hj : j < n) : ixN n (j : Int) = some j := by
  unfold ixN
  rw [if_pos (by omega), if_pos (by omega), Int.toNat_natCast]
theorem ofNats_at {l : List Nat} {i : Nat} (h : i < l.length) : atI ((ofNats l).map V.int) (i : Int) = some (V.int ((l.getD i 0 : Nat) : Int)) := by
  refine atI_nat ?_
  rw [ofNats, List.getElem?_map, List.getElem?_map, List.getElem?_eq_getElem h, List.getD_eq_getElem?_getD, List.getElem?_eq_getElem h]
  rfl
theorem ofNats_bump (fs : List Nat) (t m : Nat) : ((ofNats fs).map V.int).set t (V.int (((fs.getD t 0 : Nat) : Int) + (m : Int))) = (ofNats (bump fs t m)).map V.int := by
  unfold bump ofNats
  rw [List.map_set, List.map_set, Int.natCast_add]
theorem rep_zero (n : Nat) : (List.replicate n [V.int 0]).flatten = (ofNats (List.replicate n 0)).map V.int := by
  induction n with
  | zero => rfl
  | succ n ih => rw [List.replicate_succ, List.flatten_cons, ih, List.replicate_succ]; rfl
theorem nats_sum (l : List Nat) : (ofNats l).sum = ((l.sum : Nat) : Int) := by
  induction l with
  | nil => rfl
  | cons x r ih =>
    show (ofNats (x :: r)).sum = _
    rw [List.sum_cons, Int.natCast_add, ← ih]
    unfold ofNats
    rw [List.map_cons, List.sum_cons]
section
variable {P : Program} {w : World} {K : PySem.W.Frag} {mg : Str → Option Value} {base : Heap} {CB CD CR aN aO aM : Addr}

/-! ### ways_on -/
def spWaysOn (CB : Addr) : Sp := fun vs H Q _ => ∃ (F : Hp) (v u : V) (b : Board) (ws : List Nat), vs = [v, u] ∧ Same F H ∧ BdV CB b v F ∧ Good b ∧ NsV ws u F ∧ ws.length = b.n + 1 ∧ Ret F H (NsV (wnext b ws)) Q
theorem scWaysOn : FnScope ["board", "ways", "found", "place", "many", "there"] ["board", "ways"] (defScope sWaysOn) := ⟨rfl, rfl, rfl, by decide +kernel, rfl, by decide +kernel, by decide +kernel⟩
theorem ok_waysOn {f : Addr} {fd : FuncData} (F : Fun K "ways_on" "ways_on" sWaysOn f fd) (T : Txt K mg CB CD CR aN aO aM) (G1 : MtG P w K mg base CX0 3 CB "onward" ["self", "place"] (spOnward CB)) : FnOk P w K mg base CX0 4 f fd ["board", "ways"] (spWaysOn CB) := by
  refine F.ok scWaysOn (fun vs H Q E h => ?_) (fun cdv A outer s H vs Q E hr h => ?_)
  · obtain ⟨F, v, u, b, ws, rfl, _⟩ := h
    rfl
  refine ⟨_, pss_cons (ps_set (i := 2) scWaysOn.nd rfl (Or.inl rfl) (pe_op op_rep (pe_lst (pa_cons pe_int pa_nil)) (pe_op op_add (pe_fld (pv 0) rfl) pe_int)))
    (pss_cons (ps_for PassesOwn.never rfl (pi_enum (by rfl) T.n_enumerate (pa_cons (pv 1) pa_nil)) (pg_tup rfl (pgs_cons (pg_name (i := 3) scWaysOn.nd rfl (Or.inl rfl)) (pgs_cons (pg_name (i := 4) scWaysOn.nd rfl (Or.inl rfl)) pgs_nil)))
      (pss_one (ps_for PassesOwn.never rfl (pi_list (pe_mt T.clB G1 hr pass0 (pv 0) (pa_cons (pv 3) pa_nil))) (pg_name (i := 5) scWaysOn.nd rfl (Or.inl rfl))
        (pss_one (ps_asg (pe_op op_add (pe_ix ix_list (pv 2) (pv 5) (fun _ _ => rfl)) (pv 4)) (pg_sub (pv 2) (pv 5) set_list))))))
    (pss_cons (ps_asg (pe_op op_add (pe_ix ix_list (pv 2) (pe_fld (pv 0) rfl) (fun _ _ => rfl)) (pe_op op_mul (pe_ix ix_list (pv 1) (pe_fld (pv 0) rfl) (fun _ _ => rfl)) (pe_callB call_len_seq (by rfl) T.n_len (by decide +kernel) (pa_cons (pe_fld (pv 0) rfl) pa_nil))))
        (pg_sub (pv 2) (pe_fld (pv 0) rfl) set_list))
    (pss_one (ps_ret (pv 2))))), ?_⟩
  obtain ⟨F, v, u, b, ws, rfl, sF, ⟨a, dx, pf, pj, pe, rfl, B⟩, g, hws, hwl, k⟩ := h
  obtain ⟨c, rfl, fc⟩ := hws.at
  have n10 := g.n10
  have B1 := B.mono sF
  refine ⟨(by show 1 ≤ sizeLine; decide), fun t0 ht0 => ?_⟩
  have g0 := (Gr.refl sF).mut (o := .lst [V.int 0]) ht0
  have B2 := B.mono (g0.f.trans g0.s)
  refine ⟨_, rfl, a, CB, dx, _, _, rfl, B2.obj, T.clB, T.b_end, bF_end b pf pj pe, _, _, rfl, rfl, t0, _, _, rfl, rfl, upd_same, by omega, by omega, ?_, fun d hd => ?_⟩
  · show 1 * ((b.n : Int) + 1).toNat ≤ sizeLine
    exact Nat.le_of_lt (small_line (by omega))
  rw [show ((b.n : Int) + 1).toNat = b.n + 1 by omega, rep_zero]
  have hd0 : H d = none := g0.h.free hd
  have fd0 : F d = none := sF.free hd0
  have g1 := g0.mut (o := .lst ((ofNats (List.replicate (b.n + 1) 0)).map V.int)) hd
  refine ⟨_, rfl, c, _, rfl, SqL.of (g1.s _ _ fc), for_it (walk_enum (K := K) (a := c) (xs := (ofNats ws).map V.int))
    (fun i σ H' => ∃ F' fs o3 o4 o5, Gr F H F' H' ∧ F' d = none ∧ σ = [some (.ref a), some (.ref c), some (.ref d), o3, o4, o5] ∧ H' d = some (.lst ((ofNats fs).map V.int)) ∧ Cnt b fs (part b ws i)) ?_ ?_ ?_ ?_⟩
  · exact ⟨F, _, none, none, none, g1, fd0, rfl, upd_same, cnt_zero⟩
  · rintro i σ H' _ ⟨F', fs, o3, o4, o5, gr, _⟩
    exact SqL.of (gr.s _ _ (gr.f _ _ fc))
  · rintro i x σ H' H'' hi ⟨F', fs, o3, o4, o5, gr, fd', rfl, hd', hC⟩ ⟨t, z1, z2, rfl, ht, rfl, hz1, hz2⟩
    cases hz1
    obtain ⟨m, hm, rfl⟩ := ofNats_get hz2
    rw [ofNats_len] at hi
    have hmw : ws.getD i 0 = m := by rw [List.getD_eq_getElem?_getD, hm]; rfl
    have ntd : d ≠ t := ne_of_none hd' ht
    have gt : Gr F H F' (upd H' t (.tup [.int (i : Nat), .int (m : Int)])) := gr.mut ht
    have B3 := B.mono (gt.f.trans gt.s)
    refine pair_new upd_same ?_
    refine ⟨_, rfl, a, dx, _, rfl, B3.obj, bF_no b pf pj pe (by decide +kernel), _, rfl, F', _, b, i, rfl, gt.s, ⟨a, dx, pf, pj, pe, rfl, B.mono gr.f⟩, g, by omega, fun v1 F1 H1 g1' hv1 => ?_⟩
    obtain ⟨e, rfl, he⟩ := hv1.at
    have hd1 := g1'.h _ _ (show upd H' t (.tup [.int (i : Nat), .int (m : Int)]) d = _ by rw [upd_ne ntd]; exact hd')
    have fd1 : F1 d = none := g1'.none (show upd H' t (.tup [.int (i : Nat), .int (m : Int)]) d = _ by rw [upd_ne ntd]; exact hd') fd'
    have hCi : Cnt b fs (fun q => part b ws i q + m * cntL b (b.faces.take 0) i q) := hC.imp fun q _ => by
      rw [List.take_zero, cntL_nil]
      rfl
    refine ⟨e, rfl, ⟨_, SqL.of (g1'.s _ _ he)⟩, for_it (walk_list (K := K) (a := e) (xs := (ofNats (onw b i)).map V.int))
      (fun j σ H' => ∃ fs' o5, Gr F H F1 H' ∧ σ = [some (.ref a), some (.ref c), some (.ref d), some (.int (i : Int)), some (.int (m : Int)), o5] ∧ H' d = some (.lst ((ofNats fs').map V.int)) ∧ Cnt b fs' (fun q => part b ws i q + m * cntL b (b.faces.take j) i q))
      ⟨fs, o5, gt.trans g1', rfl, hd1, hCi⟩ ?_ ?_ ?_⟩
    · rintro j σ H2 _ ⟨fs', o5', gr2, _⟩
      exact SqL.of (gr2.s _ _ he)
    · rintro j y σ H2 H3 hj ⟨fs', o5', gr2, rfl, hd2, hC2⟩ ⟨rfl, hy⟩
      obtain ⟨t2, ht2, rfl⟩ := ofNats_get hy
      obtain ⟨hin, face, hface, et⟩ : i ≠ b.n ∧ ∃ face, b.faces[j]? = some face ∧ Uw62.lands b i face = t2 := by
        unfold onw at ht2
        split at ht2
        · simp at ht2
        · rename_i hne
          rw [List.getElem?_map] at ht2
          cases ef : b.faces[j]? with
          | none => rw [ef] at ht2; cases ht2
          | some face => rw [ef] at ht2; exact ⟨hne, face, rfl, Option.some.inj ht2⟩
      have htl : t2 ≤ b.n := by rw [← et]; exact lands_le g i face
      have hlt : t2 < fs'.length := by rw [hC2.len]; omega
      refine ⟨_, rfl, _, rfl, d, _, _, _, rfl, rfl, SqL.of hd2, ofNats_at hlt, _, rfl, _, _, rfl, rfl, _, rfl, _, rfl, d, _, _, t2, rfl, rfl, hd2, ixN_at (by rw [ofNats_len]; exact hlt), ?_⟩
      refine ⟨bump fs' t2 m, _, gr2.set hd0 fd1, rfl, ?_, ?_⟩
      · rw [upd_same, ofNats_bump]
      · rw [take_snoc hface, ← et]
        exact cnt_face g hC2
    · rintro σ H2 ⟨fs', o5', gr2, rfl, hd2, hC2⟩
      refine ⟨F1, fs', _, _, o5', gr2, fd1, rfl, hd2, hC2.imp fun q _ => ?_⟩
      rw [ofNats_len]
      by_cases hin : i = b.n
      · subst hin
        have : onw b b.n = [] := by unfold onw; rw [if_pos rfl]
        rw [this, List.length_nil, List.take_zero, cntL_nil, part_end]
        rfl
      · have : (onw b i).length = b.faces.length := by unfold onw; rw [if_neg hin, List.length_map]
        rw [this, List.take_length, part_succ hin, hmw]
  · rintro σ H' ⟨F', fs, o3, o4, o5, gr, fd', rfl, hd', hC⟩
    rw [ofNats_len, hwl] at hC
    have B3 := B.mono (gr.f.trans gr.s)
    have fcc := gr.s _ _ (gr.f _ _ fc)
    have f6 := g.f6
    refine ⟨_, rfl, _, rfl, a, CB, dx, _, _, rfl, B3.obj, T.clB, T.b_end, bF_end b pf pj pe, d, _, _, _, rfl, rfl, SqL.of hd', ofNats_at (by rw [hC.len]; omega), ?_⟩
    refine ⟨_, rfl, _, rfl, a, CB, dx, _, _, rfl, B3.obj, T.clB, T.b_end, bF_end b pf pj pe, c, _, _, _, rfl, rfl, SqL.of fcc, ofNats_at (by rw [hwl]; omega), ?_⟩
    refine ⟨_, rfl, a, CB, dx, _, _, rfl, B3.obj, T.clB, T.b_faces, bF_faces b pf pj pe, pf, _, rfl, .inl (SqL.of B3.faces), _, _, rfl, rfl, .inr ⟨by omega, by rw [ofNats_len]; omega⟩, _, _, rfl, rfl, ?_⟩
    refine ⟨_, rfl, _, rfl, a, CB, dx, _, _, rfl, B3.obj, T.clB, T.b_end, bF_end b pf pj pe, d, _, _, b.n, rfl, rfl, hd', ixN_at (by rw [ofNats_len, hC.len]; omega), ?_⟩
    refine ⟨_, rfl, ?_⟩
    rw [ofNats_len, ← Int.natCast_mul, ofNats_bump, cnt_last hC]
    have g9 := gr.set (o := .lst ((ofNats (wnext b ws)).map V.int)) hd0 fd'
    refine k _ (upd F' d (.lst ((ofNats (wnext b ws)).map V.int))) _ (g9.know hd0 upd_same fd') (NsV.of upd_same)

/-! ### first_ways, ways_behind, chance_at -/
def spFirstWays (CB : Addr) : Sp := fun vs H Q _ => ∃ (F : Hp) (v : V) (b : Board) (p : Nat), vs = [v, .int (p : Int)] ∧ Same F H ∧ BdV CB b v F ∧ Good b ∧ Ret F H (NsV (Uw62.ways b p 0)) Q
theorem scFirstWays : FnScope ["board", "place", "there"] ["board", "place"] (defScope sFirstWays) := ⟨rfl, rfl, rfl, by decide +kernel, rfl, by decide +kernel, by decide +kernel⟩
theorem ok_firstWays {f : Addr} {fd : FuncData} (F : Fun K "first_ways" "first_ways" sFirstWays f fd) (T : Txt K mg CB CD CR aN aO aM) : FnOk P w K mg base CX0 1 f fd ["board", "place"] (spFirstWays CB) := by
  refine F.ok scFirstWays (fun vs H Q E h => ?_) (fun cdv A outer s H vs Q E hr h => ?_)
  · obtain ⟨F, v, b, p, rfl, _⟩ := h
    rfl
  refine ⟨_, pss_one (ps_ret (pe_lc (own := [("there", 2)]) (g := gName 2) (tt := tYes) rfl scFirstWays.nd (pi_range1 (by rfl) T.n_range (pa_cons (pe_op op_add (pe_fld (pv 0) rfl) pe_int) pa_nil)) (blkOk_by (own := [("there", 2)]) (N := ["board", "place", "there"]) (sc := defScope sFirstWays) (by decide +kernel))
      (fun _ _ _ _ _ => pg_name (i := 2) scFirstWays.nd rfl (Or.inl rfl)) (fun _ _ _ _ _ => pts_nil) (fun _ _ _ _ _ => pe_callTy call_int1 (by rfl) T.n_int (by decide +kernel) (pa_cons (pe_cmpR op_eq (pv 2) (pv 1) (nomark _)) pa_nil)))), ?_⟩
  obtain ⟨F, v, b, p, rfl, sF, ⟨a, dx, pf, pj, pe, rfl, B⟩, g, k⟩ := h
  have n10 := g.n10
  have B1 := B.mono sF
  refine ⟨_, rfl, a, CB, dx, _, _, rfl, B1.obj, T.clB, T.b_end, bF_end b pf pj pe, _, _, rfl, rfl, _, rfl, by omega, by omega, fun D hD => ?_⟩
  rw [show ((b.n : Int) + 1).toNat = b.n + 1 by omega]
  refine lc_map (walk_range (lo := 0) (n := b.n + 1)) hD sF NatR NatR.mono (fun q => if q = p then 1 else 0) (by omega) (fun _ _ => trivial) ?_ (fun F' H' gr hl => k _ F' H' gr hl) mg_name
  rintro q F' H' x H'' Qy hq gr ⟨rfl, rfl⟩ ky
  refine ⟨rfl, if_t rfl ⟨_, rfl, _, rfl, rfl, .inr ⟨_, rfl, ky _ F' _ (Gr.refl gr.s) ?_⟩⟩⟩
  show V.int (if decide (V.int (0 + (q : Int)) = V.int (p : Int)) = true then 1 else 0) = V.int (((if q = p then 1 else 0 : Nat)) : Int)
  by_cases e : q = p
  · rw [if_pos e, if_pos (by rw [e, Int.zero_add]; exact decide_eq_true rfl)]
    rfl
  · rw [if_neg e, if_neg (by intro z; have := V.int.inj (of_decide_eq_true z); omega)]
    rfl
def spWaysBehind (CB : Addr) : Sp := fun vs H Q _ => ∃ (F : Hp) (v : V) (b : Board) (t : Nat), vs = [v, .int (t : Int)] ∧ Same F H ∧ BdV CB b v F ∧ Good b ∧ t ≤ 1000 ∧ Ret F H (NsV (Uw62.ways b 0 t)) Q
theorem scWaysBehind : FnScope ["board", "throws", "ways", "turn"] ["board", "throws"] (defScope sWaysBehind) := ⟨rfl, rfl, rfl, by decide +kernel, rfl, by decide +kernel, by decide +kernel⟩
theorem ok_waysBehind {f : Addr} {fd : FuncData} (F : Fun K "ways_behind" "ways_behind" sWaysBehind f fd) (T : Txt K mg CB CD CR aN aO aM) (G1 : FnG P w K mg base CX0 1 "first_ways" ["board", "place"] (spFirstWays CB)) (G2 : FnG P w K mg base CX0 4 "ways_on" ["board", "ways"] (spWaysOn CB)) : FnOk P w K mg base CX0 5 f fd ["board", "throws"] (spWaysBehind CB) := by
  refine F.ok scWaysBehind (fun vs H Q E h => ?_) (fun cdv A outer s H vs Q E hr h => ?_)
  · obtain ⟨F, v, b, p, rfl, _⟩ := h
    rfl
  refine ⟨_, pss_cons (ps_set (i := 2) scWaysBehind.nd rfl (Or.inl rfl) (pe_fn G1 hr pass0 (pa_cons (pv 0) (pa_cons pe_int pa_nil))))
    (pss_cons (ps_for PassesOwn.never rfl (pi_range1 (by rfl) T.n_range (pa_cons (pv 1) pa_nil)) (pg_name (i := 3) scWaysBehind.nd rfl (Or.inl rfl)) (pss_one (ps_set (i := 2) scWaysBehind.nd rfl (Or.inl rfl) (pe_fn G2 hr pass0 (pa_cons (pv 0) (pa_cons (pv 2) pa_nil))))))
    (pss_one (ps_ret (pv 2)))), ?_⟩
  obtain ⟨F, v, b, t, rfl, sF, hB, g, ht, k⟩ := h
  refine ⟨_, rfl, F, _, b, 0, rfl, sF, hB, g, fun v1 F1 H1 g1 hv1 => ?_⟩
  refine ⟨_, rfl, _, rfl, by omega, by omega, ?_⟩
  rw [Int.toNat_natCast]
  refine for_it walk_range (fun i σ H' => ∃ F' v' o, Gr F H F' H' ∧ σ = [some v, some (.int (t : Int)), some v', o] ∧ NsV (Uw62.ways b 0 i) v' F') ⟨F1, v1, none, g1, rfl, hv1⟩ (fun _ _ _ _ _ => trivial) ?_ ?_
  · rintro i x σ H' H'' hi ⟨F', v', o, gr, rfl, hv'⟩ ⟨rfl, rfl⟩
    exact ⟨_, rfl, _, rfl, F', _, _, b, _, rfl, gr.s, BdV.mono _ _ _ _ gr.f hB, g, hv', ways_len 0 i, fun v3 F3 H3 g3 hv3 => ⟨F3, v3, _, gr.trans g3, rfl, hv3⟩⟩
  · rintro σ H' ⟨F', v', o, gr, rfl, hv'⟩
    exact ⟨_, rfl, k v' F' H' gr hv'⟩
def spChanceAt (K : PySem.W.Frag) (CB : Addr) : Sp := fun vs H Q _ => ∃ (F : Hp) (v : V) (b : Board) (t p : Nat), vs = [v, .int (t : Int), .int (p : Int)] ∧ Same F H ∧ BdV CB b v F ∧ Good b ∧ t ≤ 20 ∧ p ≤ b.n ∧ Ret F H (FrV K (Uw62.chance b t p)) Q
theorem scChanceAt : FnScope ["board", "throws", "place", "ways"] ["board", "throws", "place"] (defScope sChanceAt) := ⟨rfl, rfl, rfl, by decide +kernel, rfl, by decide +kernel, by decide +kernel⟩
theorem pow_small {n t : Nat} (hn : n ≤ 6) (ht : t ≤ 20) : n ^ t < 2 ^ 9000 := by
  have h1 : n ^ t ≤ 6 ^ t := Nat.pow_le_pow_left hn t
  have h2 : 6 ^ t ≤ 6 ^ 20 := Nat.pow_le_pow_right (by decide) ht
  have h3 : 6 ^ 20 < 2 ^ 60 := by decide
  have h4 : 2 ^ 60 ≤ 2 ^ 9000 := pow_mono (by decide)
  omega
theorem ok_chanceAt {f : Addr} {fd : FuncData} (F : Fun K "chance_at" "chance_at" sChanceAt f fd) (T : Txt K mg CB CD CR aN aO aM) (G1 : FnG P w K mg base CX0 5 "ways_behind" ["board", "throws"] (spWaysBehind CB)) (G2 : FnG P w K mg base CX0 2 "share" ["above", "below"] (spShare K)) : FnOk P w K mg base CX0 6 f fd ["board", "throws", "place"] (spChanceAt K CB) := by
  refine F.ok scChanceAt (fun vs H Q E h => ?_) (fun cdv A outer s H vs Q E hr h => ?_)
  · obtain ⟨F, v, b, t, p, rfl, _⟩ := h
    rfl
  refine ⟨_, pss_cons (ps_set (i := 3) scChanceAt.nd rfl (Or.inl rfl) (pe_fn G1 hr pass0 (pa_cons (pv 0) (pa_cons (pv 1) pa_nil))))
    (pss_one (ps_ret (pe_fn G2 hr pass0 (pa_cons (pe_ix ix_list (pv 3) (pv 2) (fun _ _ => rfl)) (pa_cons (pe_callB (cr_sum rfl) (by rfl) T.n_sum (by decide +kernel) (pa_cons (pv 3) pa_nil)) pa_nil))))), ?_⟩
  obtain ⟨F, v, b, t, p, rfl, sF, hB, g, ht, hp, k⟩ := h
  refine ⟨_, rfl, _, rfl, F, _, b, t, rfl, sF, hB, g, by omega, fun v1 F1 H1 g1 hv1 => ?_⟩
  obtain ⟨c, rfl, fc⟩ := hv1.at
  refine ⟨_, rfl, _, rfl, c, _, _, _, rfl, rfl, SqL.of (g1.s _ _ fc), ofNats_at (by rw [ways_len]; omega), _, rfl, c, ofNats _, rfl, SqL.of (g1.s _ _ fc), ?_⟩
  rw [nats_sum, ways_sum g (Nat.zero_le _)]
  exact ⟨F1, _, b.faces.length ^ t, rfl, g1.s, Nat.pow_pos (by have := g.f1; omega), pow_small g.f6 ht, fun v2 F2 H2 g2 hv2 => k v2 F2 H2 (g1.trans g2) hv2⟩

/-! ### least_throws -/
def spLeastThrows (CB : Addr) : Sp := fun vs H Q _ => ∃ (F : Hp) (v : V) (b : Board) (p : Nat), vs = [v, .int (p : Int)] ∧ Same F H ∧ BdV CB b v F ∧ Good b ∧ p ≤ b.n ∧ b.n ∈ Uw62.comes b p ∧
  Ret F H (fun v F => ∃ t m a, Uw62.least b p = some (t, m) ∧ v = .ref a ∧ F a = some (.tup [.int (t : Int), .int (m : Int)])) Q
theorem scLeastThrows : FnScope ["board", "place", "ways", "throws"] ["board", "place"] (defScope sLeastThrows) := ⟨rfl, rfl, rfl, by decide +kernel, rfl, by decide +kernel, by decide +kernel⟩
theorem ok_leastThrows {f : Addr} {fd : FuncData} (F : Fun K "least_throws" "least_throws" sLeastThrows f fd) (T : Txt K mg CB CD CR aN aO aM) (G1 : FnG P w K mg base CX0 1 "first_ways" ["board", "place"] (spFirstWays CB)) (G2 : FnG P w K mg base CX0 4 "ways_on" ["board", "ways"] (spWaysOn CB)) : FnOk P w K mg base CX0 5 f fd ["board", "place"] (spLeastThrows CB) := by
  refine F.ok scLeastThrows (fun vs H Q E h => ?_) (fun cdv A outer s H vs Q E hr h => ?_)
  · obtain ⟨F, v, b, p, rfl, _⟩ := h
    rfl
  refine ⟨_, pss_cons (ps_set (i := 2) scLeastThrows.nd rfl (Or.inl rfl) (pe_fn G1 hr pass0 (pa_cons (pv 0) (pa_cons (pv 1) pa_nil)))) (pss_cons (ps_set (i := 3) scLeastThrows.nd rfl (Or.inl rfl) pe_int)
    (pss_cons (ps_while PassesOwn.never (pt_cmpR op_eq (pe_ix ix_list (pv 2) (pe_fld (pv 0) rfl) (fun _ _ => rfl)) pe_int (nomark _))
      (pss_cons (ps_set (i := 2) scLeastThrows.nd rfl (Or.inl rfl) (pe_fn G2 hr pass0 (pa_cons (pv 0) (pa_cons (pv 2) pa_nil)))) (pss_one (ps_set (i := 3) scLeastThrows.nd rfl (Or.inl rfl) (pe_op op_add (pv 3) pe_int)))))
    (pss_one (ps_ret (pe_tup (pa_cons (pv 3) (pa_cons (pe_ix ix_list (pv 2) (pe_fld (pv 0) rfl) (fun _ _ => rfl)) pa_nil))))))), ?_⟩
  obtain ⟨F, v, b, p, rfl, sF, hB, g, hp, hn, k⟩ := h
  obtain ⟨a, dx, pf, pj, pe, rfl, B⟩ := id hB
  refine ⟨_, rfl, _, rfl, F, _, b, p, rfl, sF, hB, g, fun v1 F1 H1 g1 hv1 => ?_⟩
  obtain ⟨t0, ht0, hpos⟩ := least_first g hp hn
  refine ⟨fun m σ H' => ∃ F' v' t, t0 - t = m ∧ t ≤ t0 ∧ Gr F H F' H' ∧ σ = [some (.ref a), some (.int (p : Int)), some v', some (.int (t : Int))] ∧ NsV (Uw62.ways b p t) v' F' ∧ ∀ t', t' < t → (Uw62.ways b p t').getD b.n 0 = 0,
    ⟨t0, F1, v1, 0, rfl, Nat.zero_le _, g1, rfl, hv1, fun t' h => absurd h (Nat.not_lt_zero _)⟩, ?_⟩
  rintro m σ H' ⟨F', v', t, rfl, htt, gr, rfl, hv', hz⟩
  obtain ⟨c, rfl, fc⟩ := hv'.at
  have B3 := B.mono (gr.f.trans gr.s)
  refine ⟨_, rfl, _, rfl, a, CB, dx, _, _, rfl, B3.obj, T.clB, T.b_end, bF_end b pf pj pe, c, _, _, _, rfl, rfl, SqL.of (gr.s _ _ fc), ofNats_at (by rw [ways_len]; omega), rfl, _, rfl, ?_⟩
  refine if_b (fun hc => ?_) (fun hc => ?_)
  · have hc' : (Uw62.ways b p t).getD b.n 0 = 0 := by have := V.int.inj (of_decide_eq_true hc); omega
    have htl : t < t0 := by
      rcases Nat.lt_or_ge t t0 with h | h
      · exact h
      · have : t = t0 := by omega
        rw [this] at hc'
        omega
    refine ⟨fun σ' H'' => ∃ F'' v'', Gr F H F'' H'' ∧ σ' = [some (.ref a), some (.int (p : Int)), some v'', some (.int ((t + 1 : Nat) : Int))] ∧ NsV (Uw62.ways b p (t + 1)) v'' F'', ?_, ?_⟩
    · rintro σ' H'' ⟨F'', v'', gr2, rfl, hv2⟩
      refine ⟨t0 - (t + 1), by omega, F'', v'', t + 1, rfl, htl, gr2, rfl, hv2, fun t' h => ?_⟩
      rcases Nat.lt_succ_iff_lt_or_eq.mp h with h | h
      · exact hz t' h
      · rw [h]; exact hc'
    · refine ⟨_, rfl, _, rfl, F', _, _, b, _, rfl, gr.s, ⟨a, dx, pf, pj, pe, rfl, B.mono gr.f⟩, g, hv', ways_len p t, fun v3 F3 H3 g3 hv3 => ?_⟩
      refine ⟨_, rfl, _, _, rfl, rfl, F3, v3, gr.trans g3, ?_, hv3⟩
      rw [Int.natCast_add]
      rfl
  · have hc' : (Uw62.ways b p t).getD b.n 0 ≠ 0 := fun e => (of_decide_eq_false hc) (by rw [e]; rfl)
    refine ⟨_, rfl, _, rfl, _, rfl, a, CB, dx, _, _, rfl, B3.obj, T.clB, T.b_end, bF_end b pf pj pe, c, _, _, _, rfl, rfl, SqL.of (gr.s _ _ fc), ofNats_at (by rw [ways_len]; omega), (by show 2 ≤ sizeLine; decide), fun q hq => ?_⟩
    exact k _ _ _ (gr.new hq) ⟨t, _, q, least_is hz (by omega) (by omega), rfl, upd_same⟩

/-! ### chance_of, open_places, stay_row -/
def spChanceOf (K : PySem.W.Frag) (CB : Addr) : Sp := fun vs H Q _ => ∃ (F : Hp) (v : V) (b : Board) (p q : Nat), vs = [v, .int (p : Int), .int (q : Int)] ∧ Same F H ∧ BdV CB b v F ∧ Good b ∧ p < b.n ∧ Ret F H (FrV K (Uw62.step1 b p q)) Q
theorem scChanceOf : FnScope ["board", "place", "there"] ["board", "place", "there"] (defScope sChanceOf) := ⟨rfl, rfl, rfl, by decide +kernel, rfl, by decide +kernel, by decide +kernel⟩
theorem count_nats (b : Board) (p q : Nat) (fs : List Nat) : (ofNats (fs.map (Uw62.lands b p))).count (q : Int) = (fs.filter fun f => Uw62.lands b p f == q).length := by
  induction fs with
  | nil => rfl
  | cons x r ih =>
    show ((((Uw62.lands b p x : Nat) : Int)) :: ofNats (r.map (Uw62.lands b p))).count (q : Int) = _
    rw [List.count_cons, ih]
    by_cases h : Uw62.lands b p x = q
    · rw [List.filter_cons_of_pos (by simpa using h), List.length_cons, if_pos (by rw [h]; simp)]
    · rw [List.filter_cons_of_neg (by simpa using h), if_neg (by simp; omega)]
      rfl
theorem ok_chanceOf {f : Addr} {fd : FuncData} (F : Fun K "chance_of" "chance_of" sChanceOf f fd) (T : Txt K mg CB CD CR aN aO aM) (G1 : MtG P w K mg base CX0 3 CB "onward" ["self", "place"] (spOnward CB)) (G2 : FnG P w K mg base CX0 2 "share" ["above", "below"] (spShare K)) : FnOk P w K mg base CX0 4 f fd ["board", "place", "there"] (spChanceOf K CB) := by
  refine F.ok scChanceOf (fun vs H Q E h => ?_) (fun cdv A outer s H vs Q E hr h => ?_)
  · obtain ⟨F, v, b, p, q, rfl, _⟩ := h
    rfl
  refine ⟨_, pss_one (ps_ret (pe_fn G2 hr pass0 (pa_cons (pe_bm PySem.F.plainAttrs_list PySem.F.slot_list_count PySem.F.type_list_count mt_lcount (pe_mt T.clB G1 hr pass0 (pv 0) (pa_cons (pv 1) pa_nil)) (pa_cons (pv 2) pa_nil))
    (pa_cons (pe_callB call_len_seq (by rfl) T.n_len (by decide +kernel) (pa_cons (pe_fld (pv 0) rfl) pa_nil)) pa_nil)))), ?_⟩
  obtain ⟨F, v, b, p, q, rfl, sF, ⟨a, dx, pf, pj, pe, rfl, B⟩, g, hp, k⟩ := h
  have B1 := B.mono sF
  refine ⟨_, rfl, a, dx, _, rfl, B1.obj, bF_no b pf pj pe (by decide +kernel), _, rfl, F, _, b, p, rfl, sF, ⟨a, dx, pf, pj, pe, rfl, B⟩, g, Nat.le_of_lt hp, fun v1 F1 H1 g1 hv1 => ?_⟩
  obtain ⟨c, rfl, fc⟩ := hv1.at
  have B2 := B.mono (g1.f.trans g1.s)
  refine ⟨.inl ⟨rfl, _, SqL.of (g1.s _ _ fc)⟩, _, rfl, c, ofNats (onw b p), _, rfl, rfl, SqL.of (g1.s _ _ fc), ?_⟩
  refine ⟨_, rfl, a, CB, dx, _, _, rfl, B2.obj, T.clB, T.b_faces, bF_faces b pf pj pe, pf, _, rfl, .inl (SqL.of B2.faces), ?_⟩
  have eo : onw b p = b.faces.map (Uw62.lands b p) := by unfold onw; rw [if_neg (by omega)]
  rw [eo, count_nats, ofNats_len]
  refine ⟨F1, _, b.faces.length, rfl, g1.s, by have := g.f1; omega, ?_, fun v2 F2 H2 g2 hv2 => k v2 F2 H2 (g1.trans g2) hv2⟩
  have := pow_small (n := b.faces.length) (t := 1) g.f6 (by omega)
  rw [Nat.pow_one] at this
  exact this
def spOpenPlaces (CB : Addr) : Sp := fun vs H Q _ => ∃ (F : Hp) (v : V) (b : Board) (p : Nat), vs = [v, .int (p : Int)] ∧ Same F H ∧ BdV CB b v F ∧ Good b ∧ p ≤ b.n ∧ Ret F H (NsV (Uw62.inner b p)) Q
theorem scOpenPlaces : FnScope ["board", "place", "there"] ["board", "place"] (defScope sOpenPlaces) := ⟨rfl, rfl, rfl, by decide +kernel, rfl, by decide +kernel, by decide +kernel⟩
theorem given_filter {α : Type} (d : α) (l : List α) (f : α → Bool) : givenA l.length (fun i => f (l.getD i d)) (fun i => l.getD i d) = l.filter f := by
  unfold givenA
  conv => rhs; rw [← range_getD d l, List.filter_map]
  rfl
theorem ok_openPlaces {f : Addr} {fd : FuncData} (F : Fun K "open_places" "open_places" sOpenPlaces f fd) (T : Txt K mg CB CD CR aN aO aM) (G1 : MtG P w K mg base CX0 4 CB "come_to" ["self", "place"] (spComeTo CB)) : FnOk P w K mg base CX0 5 f fd ["board", "place"] (spOpenPlaces CB) := by
  refine F.ok scOpenPlaces (fun vs H Q E h => ?_) (fun cdv A outer s H vs Q E hr h => ?_)
  · obtain ⟨F, v, b, p, rfl, _⟩ := h
    rfl
  refine ⟨_, pss_one (ps_ret (pe_lc (own := [("there", 2)]) (g := gName 2) rfl scOpenPlaces.nd (pi_list (pe_mt T.clB G1 hr pass0 (pv 0) (pa_cons (pv 1) pa_nil))) (blkOk_by (own := [("there", 2)]) (N := ["board", "place", "there"]) (sc := defScope sOpenPlaces) (by decide +kernel))
      (fun _ _ _ _ _ => pg_name (i := 2) scOpenPlaces.nd rfl (Or.inl rfl)) (fun _ _ _ _ _ => pts_one (pt_cmpR op_ne (pv 2) (pe_fldK K (pv 0)) (nomark _))) (fun _ _ _ _ _ => pv 2))), ?_⟩
  obtain ⟨F, v, b, p, rfl, sF, ⟨a, dx, pf, pj, pe, rfl, B⟩, g, hp, k⟩ := h
  have B1 := B.mono sF
  refine ⟨_, rfl, a, dx, _, rfl, B1.obj, bF_no b pf pj pe (by decide +kernel), _, rfl, F, _, b, p, rfl, sF, ⟨a, dx, pf, pj, pe, rfl, B⟩, g, hp, fun v1 F1 H1 g1 hv1 => ?_⟩
  obtain ⟨c, rfl, fc⟩ := hv1.at
  have hlen : (Uw62.comes b p).length ≤ b.n + 1 := by
    have := pigeon (Uw62.comes b p) (List.range (b.n + 1)) ((comes_rising p).imp fun h => Nat.ne_of_lt h) fun x hx => by have := comes_le g hp hx; simp; omega
    simpa using this
  have n10 := g.n10
  refine ⟨c, rfl, ⟨_, SqL.of (g1.s _ _ fc)⟩, fun D hD => ?_⟩
  refine lc_rep (walk_list (K := K) (a := c) (xs := (ofNats (Uw62.comes b p)).map V.int)) hD g1.s NatR NatR.mono (fun i => (Uw62.comes b p).getD i 0 != b.n) (fun i => (Uw62.comes b p).getD i 0) (by rw [ofNats_len]; omega) (fun H' s => SqL.of (s _ _ fc)) ?_ ?_
  · rintro i F' H' x H'' Qy Qn hi gr ⟨rfl, hx⟩ ky kn
    obtain ⟨q, hq, rfl⟩ := ofNats_get hx
    have eq : (Uw62.comes b p).getD i 0 = q := by rw [List.getD_eq_getElem?_getD, hq]; rfl
    rw [eq] at ky kn
    have B3 := B.mono ((g1.f.trans gr.f).trans gr.s)
    refine ⟨rfl, _, rfl, _, rfl, a, CB, dx, _, _, rfl, B3.obj, T.clB, T.b_end, bF_end b pf pj pe, rfl, _, rfl, ?_⟩
    refine if_b (fun hc => ?_) (fun hc => ?_)
    · have hc' : ¬ q = b.n := fun e => by rw [e] at hc; simp at hc
      exact ⟨_, rfl, ky (by simpa using hc') _ F' _ (Gr.refl gr.s) rfl⟩
    · have hc' : q = b.n := by
        have : decide (V.int (q : Int) = V.int (b.n : Int)) = true := by simpa using hc
        have := V.int.inj (of_decide_eq_true this)
        omega
      exact kn (by simpa using hc') F' _ (Gr.refl gr.s)
  · intro F' H' gr hl
    rw [ofNats_len, given_filter 0 (Uw62.comes b p) (fun q => q != b.n)] at hl
    exact k _ F' H' (g1.trans gr) hl
def spStayRow (K : PySem.W.Frag) : Sp := fun vs H Q _ => ∃ (F : Hp) (v u : V) (l : List Nat) (i : Nat) (cs : List Frac) (B : Nat), vs = [v, .int (i : Int), u] ∧ Same F H ∧ NsV l v F ∧ RwV K cs u F ∧ cs.length = l.length ∧ l.length ≤ 100 ∧ (∀ y ∈ cs, Sz B y) ∧ B ≤ 100 ∧
  Ret F H (RwV K ((List.range l.length).map fun m => Uw62.minus (if m = i then Uw62.one else Uw62.zero) (cs.getD m Uw62.zero))) Q
theorem scStayRow : FnScope ["places", "number", "chances", "k"] ["places", "number", "chances"] (defScope sStayRow) := ⟨rfl, rfl, rfl, by decide +kernel, rfl, by decide +kernel, by decide +kernel⟩
theorem ok_stayRow {f : Addr} {fd : FuncData} (F : Fun K "stay_row" "stay_row" sStayRow f fd) (T : Txt K mg CB CD CR aN aO aM) (G1 : sp2G P w K mg base 4 "less" Uw62.minus) : FnOk P w K mg base CX0 5 f fd ["places", "number", "chances"] (spStayRow K) := by
  refine F.ok scStayRow (fun vs H Q E h => ?_) (fun cdv A outer s H vs Q E hr h => ?_)
  · obtain ⟨F, v, u, l, i, cs, B, rfl, _⟩ := h
    rfl
  refine ⟨_, pss_one (ps_ret (pe_lc (own := [("k", 3)]) (g := gName 3) (tt := tYes) rfl scStayRow.nd (pi_range1 (by rfl) T.n_range (pa_cons (pe_callB call_len_seq (by rfl) T.n_len (by decide +kernel) (pa_cons (pv 0) pa_nil)) pa_nil)) (blkOk_by (own := [("k", 3)]) (N := ["places", "number", "chances", "k"]) (sc := defScope sStayRow) (by decide +kernel))
      (fun _ _ _ _ _ => pg_name (i := 3) scStayRow.nd rfl (Or.inl rfl)) (fun _ _ _ _ _ => pts_nil)
      (fun _ _ _ _ _ => pe_fn G1 hr pass0 (pa_cons (pe_ifExp (pt_cmpR op_eq (pv 3) (pv 1) (nomark _)) (pe_gref T.gO) (pe_gref T.gN)) (pa_cons (ix_lK K (pv 2) (pv 3)) pa_nil))))), ?_⟩
  obtain ⟨F, v, u, l, i, cs, B, rfl, sF, hl, hcs, hcl, hll, sc, hB, k⟩ := h
  obtain ⟨c, rfl, fc⟩ := hl.at
  obtain ⟨e, ys, rfl, fe, rys⟩ := id hcs
  refine ⟨_, rfl, c, _, rfl, .inl (SqL.of (sF _ _ fc)), _, rfl, by rw [ofNats_len]; omega, by rw [ofNats_len]; omega, fun D hD => ?_⟩
  rw [ofNats_len, Int.toNat_natCast]
  refine lc_map (walk_range (lo := 0) (n := l.length)) hD sF (FrV K) FrV.mono (fun m => Uw62.minus (if m = i then Uw62.one else Uw62.zero) (cs.getD m Uw62.zero)) (by omega) (fun _ _ => trivial) ?_ (fun F' H' gr hl => k _ F' H' gr hl) mg_name
  rintro m F' H' x H'' Qy hm gr ⟨rfl, rfl⟩ ky
  have hmc : cs[m]? = some (cs.getD m Uw62.zero) := getD_get (by omega) _
  obtain ⟨y, hy, ry⟩ := rys.get m _ hmc
  have fe' := gr.s _ _ (gr.f _ _ fe)
  have hat : atI ys (0 + (m : Int)) = some y := by rw [Int.zero_add]; exact atI_nat hy
  have fin : ∀ (a1 : Addr) (q : Frac), FrV K q (.ref a1) F' → Sz 1 q → (q = if m = i then Uw62.one else Uw62.zero) → sp2 K Uw62.minus ([.ref a1, y] ++ []) H'' Qy E0 := by
    intro a1 q h1 h2 h3
    refine ⟨F', _, _, q, cs.getD m Uw62.zero, 1, B, rfl, gr.s, h1, FrV.mono _ _ _ _ gr.f ry, h2, sc _ (List.mem_of_getElem? hmc), by omega, fun v3 F3 H3 g3 hv3 => ?_⟩
    rw [h3] at hv3
    exact ky v3 F3 H3 g3 hv3
  refine ⟨rfl, if_t rfl ⟨_, rfl, _, rfl, rfl, _, rfl, ?_⟩⟩
  refine if_b (fun h1 => ?_) (fun h1 => ?_)
  · have h1' : m = i := by have := V.int.inj (of_decide_eq_true h1); omega
    exact ⟨_, rfl, _, rfl, e, ys, _, _, rfl, rfl, SqL.of fe', hat, fin aO Uw62.one ⟨aO, rfl, T.tO _⟩ one_sz (by rw [if_pos h1'])⟩
  · have h1' : ¬ m = i := fun z => (of_decide_eq_false h1) (by rw [z]; show V.int (0 + (i : Int)) = V.int (i : Int); rw [Int.zero_add])
    exact ⟨_, rfl, _, rfl, e, ys, _, _, rfl, rfl, SqL.of fe', hat, fin aN Uw62.zero ⟨aN, rfl, T.tN _⟩ zero_sz (by rw [if_neg h1'])⟩
end
end LS

namespace LS
open PySem PySem.Spec PyProof.Rows L2
open Uw62 (Board Frac)
abbrev sMeanFrom : Stmt := topS 29
abbrev sVisitsAt : Stmt := topS 30
abbrev sRace : Stmt := topS 31
abbrev sLeastOf : Stmt := topS 32
theorem dp_ints {K : PySem.W.Frag} {H : Hp} : ∀ ns : List Int, DpAll K H (ns.map V.int) (ns.map PyData.int)
  | [] => .nil
  | n :: r => .cons (.int n) (dp_ints r)
theorem lay_ints : ∀ ns : List Int, PyData.canLayAll0 (ns.map PyData.int) = true
  | [] => rfl
  | n :: r => by
    show (PyData.canLay0 (.int n) && PyData.canLayAll0 (r.map PyData.int)) = true
    rw [lay_ints r]
    rfl
theorem depth_ints : ∀ ns : List Int, PyData.depthAll (ns.map PyData.int) ≤ 1
  | [] => by show PyData.depthAll [] ≤ 1; simp [PyData.depthAll]
  | n :: r => by
    have := depth_ints r
    show PyData.depthAll (PyData.int n :: r.map PyData.int) ≤ 1
    simp only [PyData.depthAll, PyData.depth]
    omega
theorem shaped_ints (ns : List Int) : SeqAt.shaped (.list (ns.map PyData.int)) = true := by
  unfold SeqAt.shaped
  have h1 : PyData.canLay0 (.list (ns.map PyData.int)) = true := lay_ints ns
  have h2 := depth_ints ns
  rw [h1, Bool.true_and]
  refine decide_eq_true ?_
  simp only [PyData.depth]
  omega
theorem eqv_nil (ns : List Int) : PyData.eqv (.list (ns.map PyData.int)) (.list []) = ns.isEmpty := by
  cases ns <;> rfl
/-- the equations' row as it is made -/
theorem stay_eq {l : List Nat} (hn : l.Nodup) (c : Nat → Nat → Frac) {i x : Nat} (hi : l[i]? = some x) : (List.range l.length).map (fun m => Uw62.minus (if m = i then Uw62.one else Uw62.zero) ((l.map (c x)).getD m Uw62.zero)) = stayRow l c x := by
  unfold stayRow
  conv => rhs; rw [← range_getD 0 l, List.map_map]
  refine List.map_congr_left fun m hm => ?_
  have hm' : m < l.length := by simpa using hm
  have e1 : (l.map (c x)).getD m Uw62.zero = c x (l.getD m 0) := by
    rw [List.getD_eq_getElem?_getD, List.getElem?_map, List.getElem?_eq_getElem hm', List.getD_eq_getElem?_getD, List.getElem?_eq_getElem hm']
    rfl
  have e2 : (m = i) ↔ (x = l.getD m 0) := by
    obtain ⟨hil, ex⟩ := List.getElem?_eq_some_iff.mp hi
    rw [List.getD_eq_getElem?_getD, List.getElem?_eq_getElem hm', ← ex]
    constructor
    · intro h; subst h; rfl
    · intro h; exact ((List.getElem_inj hn).mp h).symm
  show Uw62.minus _ _ = Uw62.minus (if x = l.getD m 0 then Uw62.one else Uw62.zero) (c x (l.getD m 0))
  rw [e1]
  by_cases h : m = i
  · rw [if_pos h, if_pos (e2.mp h)]
  · rw [if_neg h, if_neg fun z => h (e2.mpr z)]
theorem elim_run {k : Nat} {res : List (List Frac)} : ∀ (m i : Nat) (cur : List (List Frac)), m = k - i → i ≤ k → Elim k res i cur → Elim k res k res
  | 0, i, cur, hm, hi, E => by
    have : i = k := by omega
    subst this
    have e := elim_end E
    rw [e] at E
    exact E
  | m + 1, i, cur, hm, hi, E => by
    obtain ⟨a, _, _, _, _, _, h⟩ := elim_turn E (by omega)
    exact elim_run m (i + 1) _ (by omega) (by omega) h
theorem res_sz {orig res : List (List Frac)} (w : ∀ r ∈ orig, RI 3 (orig.length + 1) r) (h : Uw62.solveFrom orig.length orig.length [] orig = some res) (hl : orig.length ≤ 10) : res.length = orig.length ∧ ∀ r ∈ res, Sz 4095 (lastOf r) := by
  have E := elim_run _ 0 orig rfl (Nat.zero_le _) (elim_start w h)
  refine ⟨E.len, fun r hr => ?_⟩
  have hR := E.ri r hr
  have hne : r ≠ [] := fun z => by have := hR.wf.1; rw [z] at this; simp at this
  have hm : lastOf r ∈ r := by
    unfold lastOf
    rw [List.getLastD_eq_getLast?, List.getLast?_eq_some_getLast hne]
    exact List.getLast_mem hne
  refine (hR.sz _ hm).mono ?_
  have : 2 ^ (orig.length + 2) ≤ 2 ^ 12 := pow_mono (by omega)
  have e : 2 ^ 12 = 4096 := by decide
  omega
theorem index_of {l : List Nat} (hn : l.Nodup) {j p : Nat} (hj : l[j]? = some p) : ((ofNats l).map V.int)[j]? = some (V.int (p : Int)) ∧ ∀ (m : Nat) (z : V), m < j → ((ofNats l).map V.int)[m]? = some z → eqV z (V.int (p : Int)) = false := by
  refine ⟨by rw [ofNats, List.getElem?_map, List.getElem?_map, hj]; rfl, fun m z hm hz => ?_⟩
  obtain ⟨q, hq, rfl⟩ := ofNats_get hz
  show ((q : Int) == (p : Int)) = false
  refine beq_eq_false_iff_ne.mpr fun e => ?_
  have : q = p := by omega
  subst this
  obtain ⟨h1, e1⟩ := List.getElem?_eq_some_iff.mp hq
  obtain ⟨h2, e2⟩ := List.getElem?_eq_some_iff.mp hj
  have := (List.getElem_inj hn).mp (e1.trans e2.symm)
  omega
theorem eqRows_at {l : List Nat} {c : Nat → Nat → Frac} {last : Nat → Frac} {i x : Nat} (h : l[i]? = some x) : (eqRows l c last)[i]? = some (stayRow l c x ++ [last x]) := by
  unfold eqRows
  rw [List.getElem?_map, h]
  rfl
theorem step1_sz {b : Board} (g : Good b) (p q : Nat) : Sz 3 (Uw62.step1 b p q) := by
  have hF : 0 < b.faces.length := by have := g.f1; omega
  have f6 := g.f6
  unfold Uw62.step1
  refine frac_sz hF (by have : (2 : Nat) ^ 3 = 8 := by decide
                        omega) ?_
  show (((b.faces.filter fun f => Uw62.lands b p f == q).length : Nat) : Int).natAbs < _
  rw [Int.natAbs_natCast]
  have := List.length_filter_le (fun f => Uw62.lands b p f == q) b.faces
  have : (2 : Nat) ^ 3 = 8 := by decide
  omega
section
variable {P : Program} {w : World} {K : PySem.W.Frag} {mg : Str → Option Value} {base : Heap} {CB CD CR aN aO aM : Addr}
abbrev chanceG (P : Program) (w : World) (K : PySem.W.Frag) (mg : Str → Option Value) (base : Heap) (CB : Addr) : Prop := FnG P w K mg base CX0 4 "chance_of" ["board", "place", "there"] (spChanceOf K CB)
abbrev stayG (P : Program) (w : World) (K : PySem.W.Frag) (mg : Str → Option Value) (base : Heap) : Prop := FnG P w K mg base CX0 5 "stay_row" ["places", "number", "chances"] (spStayRow K)

/-! ### mean_from -/
def spMean (K : PySem.W.Frag) (CB : Addr) : Sp := fun vs H Q _ => ∃ (F : Hp) (v : V) (b : Board) (p : Nat), vs = [v, .int (p : Int)] ∧ Same F H ∧ BdV CB b v F ∧ Good b ∧ p ≤ b.n ∧ Uw62.sure b p = true ∧ Ret F H (fun v F => ∃ m, Uw62.meanOf b p = some m ∧ Sz 4095 m ∧ FrV K m v F) Q
abbrev nMF : List Str := ["board", "place", "places", "rows", "k", "one", "there"]
theorem scMeanFrom : FnScope nMF ["board", "place"] (defScope sMeanFrom) := ⟨rfl, rfl, rfl, by decide +kernel, rfl, by decide +kernel, by decide +kernel⟩
theorem ok_meanFrom {f : Addr} {fd : FuncData} (F : Fun K "mean_from" "mean_from" sMeanFrom f fd) (T : Txt K mg CB CD CR aN aO aM) (G1 : FnG P w K mg base CX0 5 "open_places" ["board", "place"] (spOpenPlaces CB)) (G2 : chanceG P w K mg base CB) (G3 : stayG P w K mg base)
    (G4 : FnG P w K mg base CX0 7 "unknowns" ["rows"] (spUnknowns K)) : FnOk P w K mg base CX0 8 f fd ["board", "place"] (spMean K CB) := by
  refine F.ok scMeanFrom (fun vs H Q E h => ?_) (fun cdv A outer s H vs Q E hr h => ?_)
  · obtain ⟨F, v, b, p, rfl, _⟩ := h
    rfl
  refine ⟨_, pss_cons (ps_set (i := 2) scMeanFrom.nd rfl (Or.inl rfl) (pe_fn G1 hr pass0 (pa_cons (pv 0) (pa_cons (pv 1) pa_nil)))) (pss_cons (ps_set (i := 3) scMeanFrom.nd rfl (Or.inl rfl) (pe_lst pa_nil))
    (pss_cons (ps_for PassesOwn.never rfl (pi_enum (by rfl) T.n_enumerate (pa_cons (pv 2) pa_nil)) (pg_tup rfl (pgs_cons (pg_name (i := 4) scMeanFrom.nd rfl (Or.inl rfl)) (pgs_cons (pg_name (i := 5) scMeanFrom.nd rfl (Or.inr rfl)) pgs_nil)))
      (pss_one (ps_expr (pe_bm PySem.F.plainAttrs_list PySem.F.slot_list_append PySem.F.type_list_append mt_append (pv 3) (pa_cons (pe_op op_cat (pe_fn G3 hr pass0 (pa_cons (pv 2) (pa_cons (pv 4) (pa_cons
        (pe_lc (own := [("there", 6)]) (g := gName 6) (tt := tYes) rfl scMeanFrom.nd (pi_list (pv 2)) (blkOk_by (own := [("there", 6)]) (N := nMF) (sc := defScope sMeanFrom) (by decide +kernel))
          (fun _ _ _ _ _ => pg_name (i := 6) scMeanFrom.nd rfl (Or.inl rfl)) (fun _ _ _ _ _ => pts_nil) (fun _ _ _ _ _ => pe_fn G2 hr pass0 (pa_cons (pv 0) (pa_cons (pv 5) (pa_cons (pv 6) pa_nil))))) pa_nil)))) (pe_lst (pa_cons (pe_gref T.gO) pa_nil))) pa_nil)))))
    (pss_one (ps_ret (pe_ifExp (pt_cmpR (op_eqD hr.units) (pv 2) (pe_lst pa_nil) (nomark _)) (pe_gref T.gN)
      (pe_ix ix_list (pe_fn G4 hr pass0 (pa_cons (pv 3) pa_nil)) (pe_bm PySem.F.plainAttrs_list PySem.F.slot_list_index PySem.F.type_list_index mt_index (pv 2) (pa_cons (pv 1) pa_nil)) (fun _ _ => rfl))))))), ?_⟩
  obtain ⟨F, v, b, p, rfl, sF, hB, g, hp, hs, k⟩ := h
  refine ⟨_, rfl, _, rfl, F, _, b, p, rfl, sF, hB, g, hp, fun v1 F1 H1 g1 hv1 => ?_⟩
  obtain ⟨c, rfl, fc⟩ := hv1.at
  have hll := inner_len g hp
  have hnd := inner_nd (b := b) p
  have hPl := inner_pl g hp hs
  have hin : ∀ x ∈ Uw62.inner b p, x < b.n := fun x hx => by
    obtain ⟨h1, h2⟩ := mem_inner.mp hx
    have := comes_le g hp h1
    omega
  obtain ⟨res, hres⟩ := mean_some g hPl (last := fun _ => Uw62.one) (fun _ => one_nf)
  have hel : (eqRows (Uw62.inner b p) (Uw62.step1 b) fun _ => Uw62.one).length = (Uw62.inner b p).length := by simp [eqRows]
  have hri : ∀ r ∈ eqRows (Uw62.inner b p) (Uw62.step1 b) fun _ => Uw62.one, RI 3 ((eqRows (Uw62.inner b p) (Uw62.step1 b) fun _ => Uw62.one).length + 1) r := fun r hr' => by
    obtain ⟨x, _, rfl⟩ := List.mem_map.mp hr'
    rw [hel]
    exact first_ri g (step1_small g) (fun _ => .inl rfl) x
  obtain ⟨hrl, hrz⟩ := res_sz hri hres (by rw [hel]; exact hll)
  -- rows = []
  refine ⟨(by show 0 ≤ sizeLine; decide), fun d hd => ?_⟩
  have hd0 : H d = none := g1.h.free hd
  have g1d := g1.mut (o := .lst []) hd
  refine ⟨_, rfl, c, _, rfl, SqL.of (g1d.s _ _ fc), for_it (walk_enum (K := K) (a := c) (xs := (ofNats (Uw62.inner b p)).map V.int))
    (fun i σ H' => ∃ F' ys o4 o5, Gr F H F' H' ∧ Same F1 F' ∧ F' d = none ∧ σ = [some v, some (.int (p : Int)), some (.ref c), some (.ref d), o4, o5, none] ∧ H' d = some (.lst ys) ∧ L2R (RwV K) F' ((eqRows (Uw62.inner b p) (Uw62.step1 b) fun _ => Uw62.one).take i) ys) ?_ ?_ ?_ ?_⟩
  · exact ⟨F1, [], none, none, g1d, Same.refl _, g1.s.free hd, rfl, upd_same, L2R.nil⟩
  · rintro i σ H' _ ⟨F', ys, o4, o5, gr, s1, _⟩
    exact SqL.of (gr.s _ _ (s1 _ _ fc))
  · rintro i x σ H' H'' hi ⟨F', ys, o4, o5, gr, s1, fd', rfl, hd', rys⟩ ⟨t, z1, z2, rfl, ht, rfl, hz1, hz2⟩
    cases hz1
    obtain ⟨x, hx, rfl⟩ := ofNats_get hz2
    rw [ofNats_len] at hi
    have ntd : d ≠ t := ne_of_none hd' ht
    have gt : Gr F' H' F' (upd H' t (.tup [.int (i : Nat), .int (x : Int)])) := (Gr.refl gr.s).mut ht
    have hdt : upd H' t (.tup [.int (i : Nat), .int (x : Int)]) d = some (.lst ys) := by rw [upd_ne ntd]; exact hd'
    refine pair_new upd_same ?_
    refine ⟨_, rfl, .inl ⟨rfl, _, SqL.of hdt⟩, _, rfl, _, rfl, _, rfl, c, rfl, ⟨_, SqL.of (gt.s _ _ (s1 _ _ fc))⟩, fun D hD => ?_⟩
    refine lc_map (walk_list (K := K) (a := c) (xs := (ofNats (Uw62.inner b p)).map V.int)) hD gt.s (FrV K) FrV.mono (fun m => Uw62.step1 b x ((Uw62.inner b p).getD m 0)) (by rw [ofNats_len]; omega) (fun H' s => SqL.of (s _ _ (s1 _ _ fc))) ?_ ?_ mg_name
    · rintro m F2 H2 y H3 Qy hm g2 ⟨rfl, hy⟩ ky
      obtain ⟨q, hq, rfl⟩ := ofNats_get hy
      refine ⟨rfl, if_t rfl ⟨_, rfl, _, rfl, _, rfl, F2, _, b, x, q, rfl, g2.s, BdV.mono _ _ _ _ ((gr.f.trans g2.f)) hB, g, hin x (List.mem_of_getElem? hx), fun v3 F3 H4 g3 hv3 => ?_⟩⟩
      refine ky v3 F3 H4 g3 ?_
      rw [show (Uw62.inner b p).getD m 0 = q by rw [List.getD_eq_getElem?_getD, hq]; rfl]
      exact hv3
    intro F2 H2 g2 hcs
    have ecs : (List.range ((ofNats (Uw62.inner b p)).map V.int).length).map (fun m => Uw62.step1 b x ((Uw62.inner b p).getD m 0)) = (Uw62.inner b p).map (Uw62.step1 b x) := by
      rw [ofNats_len]
      conv => rhs; rw [← range_getD 0 (Uw62.inner b p), List.map_map]
      rfl
    rw [ecs] at hcs
    have s12 : Same F1 F2 := s1.trans g2.f
    have g02 : Gr F' H' F2 H2 := gt.trans g2
    refine ⟨F2, _, _, Uw62.inner b p, i, (Uw62.inner b p).map (Uw62.step1 b x), 3, rfl, g2.s, NsV.of (s12 _ _ fc), hcs, by simp, by omega, fun y hy => ?_, by omega, fun v4 F4 H4 g4 hv4 => ?_⟩
    · obtain ⟨q, _, rfl⟩ := List.mem_map.mp hy
      exact step1_sz g x q
    rw [stay_eq hnd (Uw62.step1 b) hx] at hv4
    obtain ⟨e, xr, rfl, fe, rxr⟩ := hv4
    refine ⟨(by show 1 ≤ sizeLine; decide), fun q1 hq1 => ?_⟩
    have g5 := g4.new (o := .lst [.ref aO]) hq1
    have fe5 : upd F4 q1 (.lst [.ref aO]) e = some (.lst xr) := by rw [upd_ne (ne_of_none fe (g4.s.free hq1))]; exact fe
    refine ⟨e, q1, _, _, rfl, rfl, g5.s _ _ fe5, upd_same, ?_, fun q2 hq2 => ?_⟩
    · have := rxr.len
      simp only [stayRow, List.length_map] at this
      exact Nat.le_of_lt (small_line (by simp; omega))
    have g6 := g5.new (o := .lst (xr ++ [.ref aO])) hq2
    have g26 := g02.trans g6
    have hd6 := g26.h _ _ hd'
    have fd6 : _ := g26.none hd' fd'
    refine ⟨d, ys, _, rfl, rfl, hd6, ?_, ?_⟩
    · have := rys.len
      rw [List.length_take, hel] at this
      exact small_line (by omega)
    refine ⟨_, ys ++ [.ref q2], _, _, (gr.trans g26).set hd0 fd6, s1.trans g26.f, fd6, rfl, upd_same, ?_⟩
    rw [take_snoc (eqRows_at hx)]
    refine (rys.mono RwV.mono g26.f).snoc ⟨q2, _, rfl, upd_same, L2R.snoc (rxr.mono FrV.mono ?_) ⟨aO, rfl, T.tO _⟩⟩
    exact (same_new (o := .lst [.ref aO]) (g4.s.free hq1)).trans (same_new (g5.s.free hq2))
  · rintro σ H' ⟨F', ys, o4, o5, gr, s1, fd', rfl, hd', rys⟩
    rw [ofNats_len, ← hel, List.take_length] at rys
    have fc' := s1 _ _ fc
    refine ⟨_, rfl, (by show 0 ≤ sizeLine; decide), fun t ht => ?_⟩
    have ntd : d ≠ t := ne_of_none hd' ht
    have gt := gr.mut (o := .lst []) ht
    refine ⟨.list ((ofNats (Uw62.inner b p)).map PyData.int), .list [], .lst (SqL.of (gt.s _ _ fc')) (dp_ints _), .lst (SqL.of upd_same) .nil, shaped_ints _, rfl, _, rfl, ?_⟩
    rw [eqv_nil]
    have hmean := mean_eq g hp hs (by rw [hel] at hres; exact hres) (hrl.trans hel)
    refine if_b (fun h1 => ?_) (fun h1 => ?_)
    · have he : Uw62.inner b p = [] := by
        cases e : Uw62.inner b p with
        | nil => rfl
        | cons x r => rw [e] at h1; cases h1
      have hpn : p = b.n := by
        apply Classical.byContradiction
        intro hne
        have : p ∈ Uw62.inner b p := mem_inner.mpr ⟨comes_self g hp, hne⟩
        rw [he] at this
        cases this
      exact k _ F' _ gt ⟨_, hmean.1 hpn, zero_sz.mono (by decide), aN, rfl, T.tN _⟩
    · have hpn : p ≠ b.n := fun e => by
        rw [e, inner_end g] at h1
        cases h1
      have hpm : p ∈ Uw62.inner b p := mem_inner.mpr ⟨comes_self g hp, hpn⟩
      obtain ⟨j, hjl, ej⟩ := List.mem_iff_getElem.mp hpm
      have hj : (Uw62.inner b p)[j]? = some p := by rw [List.getElem?_eq_getElem hjl, ej]
      have hdt : upd H' t (.lst []) d = some (.lst ys) := by rw [upd_ne ntd]; exact hd'
      have gk := gt.know hd0 hdt fd'
      refine ⟨_, rfl, _, _, eqRows (Uw62.inner b p) (Uw62.step1 b) fun _ => Uw62.one, res, rfl, gk.s, ⟨d, ys, rfl, upd_same, rys.mono RwV.mono (same_new fd')⟩, by rw [hel]; exact hll, hri, hres, fun v6 F6 H6 g6 hv6 => ?_⟩
      have fc6 : F6 c = some (.lst ((ofNats (Uw62.inner b p)).map V.int)) := g6.f _ _ (by rw [upd_ne (ne_of_none fc' fd')]; exact fc')
      obtain ⟨hi1, hi2⟩ := index_of hnd hj
      refine ⟨_, rfl, .inl ⟨rfl, _, SqL.of (g6.s _ _ fc6)⟩, _, rfl, c, _, _, j, _, rfl, rfl, SqL.of (g6.s _ _ fc6), rfl, flat_ints _, hi1, ?_, hi2, ?_⟩
      · show ((p : Int) == (p : Int)) = true
        simp
      have hjr : j < res.length := by rw [hrl, hel]; exact hjl
      have hjm : (res.map lastOf)[j]? = some (lastOf (res.getD j [])) := by rw [List.getElem?_map, getD_get hjr []]; rfl
      obtain ⟨a1, x1, y1, e1, f1, at1, r1⟩ := hv6.get hjm
      subst e1
      refine ⟨a1, x1, _, y1, rfl, rfl, SqL.of (g6.s _ _ f1), at1, ?_⟩
      exact k y1 F6 H6 (gk.trans g6) ⟨_, hmean.2 j hj hpn, hrz _ (List.mem_of_getElem? (getD_get hjr [])), r1⟩
end
end LS

namespace LS
open PySem PySem.Spec PyProof.Rows L2
open Uw62 (Board Frac)
section
variable {P : Program} {w : World} {K : PySem.W.Frag} {mg : Str → Option Value} {base : Heap} {CB CD CR aN aO aM : Addr}

/-! ### visits_at -/
def spVisits (K : PySem.W.Frag) (CB : Addr) : Sp := fun vs H Q _ => ∃ (F : Hp) (v : V) (b : Board) (p : Nat), vs = [v, .int (p : Int)] ∧ Same F H ∧ BdV CB b v F ∧ Good b ∧ Uw62.sure b 0 = true ∧ Ret F H (fun v F => ∃ m, Uw62.visitsOf b p = some m ∧ FrV K m v F) Q
abbrev nVA : List Str := ["board", "place", "places", "rows", "k", "there", "row", "one"]
theorem scVisitsAt : FnScope nVA ["board", "place"] (defScope sVisitsAt) := ⟨rfl, rfl, rfl, by decide +kernel, rfl, by decide +kernel, by decide +kernel⟩
abbrev visRows (b : Board) : List (List Frac) := eqRows (Uw62.inner b 0) (fun x y => Uw62.step1 b y x) fun x => if x = 0 then Uw62.one else Uw62.zero
theorem ok_visitsAt {f : Addr} {fd : FuncData} (F : Fun K "visits_at" "visits_at" sVisitsAt f fd) (T : Txt K mg CB CD CR aN aO aM) (G1 : FnG P w K mg base CX0 5 "open_places" ["board", "place"] (spOpenPlaces CB)) (G2 : chanceG P w K mg base CB) (G3 : stayG P w K mg base)
    (G4 : FnG P w K mg base CX0 7 "unknowns" ["rows"] (spUnknowns K)) : FnOk P w K mg base CX0 8 f fd ["board", "place"] (spVisits K CB) := by
  refine F.ok scVisitsAt (fun vs H Q E h => ?_) (fun cdv A outer s H vs Q E hr h => ?_)
  · obtain ⟨F, v, b, p, rfl, _⟩ := h
    rfl
  refine ⟨_, pss_cons (ps_set (i := 2) scVisitsAt.nd rfl (Or.inl rfl) (pe_fn G1 hr pass0 (pa_cons (pv 0) (pa_cons pe_int pa_nil))))
    (pss_cons (ps_if (pt_cmpR op_notIn_seq (pv 1) (pv 2) (by rfl)) (pss_one (ps_ret (pe_gref T.gN))) pss_nil)
    (pss_cons (ps_set (i := 3) scVisitsAt.nd rfl (Or.inl rfl) (pe_lst pa_nil))
    (pss_cons (ps_for PassesOwn.never rfl (pi_enum (by rfl) T.n_enumerate (pa_cons (pv 2) pa_nil)) (pg_tup rfl (pgs_cons (pg_name (i := 4) scVisitsAt.nd rfl (Or.inl rfl)) (pgs_cons (pg_name (i := 5) scVisitsAt.nd rfl (Or.inr rfl)) pgs_nil)))
      (pss_cons (ps_set (i := 6) scVisitsAt.nd rfl (Or.inl rfl) (pe_fn G3 hr pass0 (pa_cons (pv 2) (pa_cons (pv 4) (pa_cons
        (pe_lc (own := [("one", 7)]) (g := gName 7) (tt := tYes) rfl scVisitsAt.nd (pi_list (pv 2)) (blkOk_by (own := [("one", 7)]) (N := nVA) (sc := defScope sVisitsAt) (by decide +kernel))
          (fun _ _ _ _ _ => pg_name (i := 7) scVisitsAt.nd rfl (Or.inl rfl)) (fun _ _ _ _ _ => pts_nil) (fun _ _ _ _ _ => pe_fn G2 hr pass0 (pa_cons (pv 0) (pa_cons (pv 7) (pa_cons (pv 5) pa_nil))))) pa_nil)))))
      (pss_one (ps_expr (pe_bm PySem.F.plainAttrs_list PySem.F.slot_list_append PySem.F.type_list_append mt_append (pv 3) (pa_cons (pe_op op_cat (pv 6) (pe_lst (pa_cons (pe_ifExp (pt_cmpR op_eq (pv 5) pe_int (nomark _)) (pe_gref T.gO) (pe_gref T.gN)) pa_nil))) pa_nil))))))
    (pss_one (ps_ret (pe_ix ix_list (pe_fn G4 hr pass0 (pa_cons (pv 3) pa_nil)) (pe_bm PySem.F.plainAttrs_list PySem.F.slot_list_index PySem.F.type_list_index mt_index (pv 2) (pa_cons (pv 1) pa_nil)) (fun _ _ => rfl))))))), ?_⟩
  obtain ⟨F, v, b, p, rfl, sF, hB, g, hs, k⟩ := h
  have hp : 0 ≤ b.n := Nat.zero_le _
  refine ⟨_, rfl, F, _, b, 0, rfl, sF, hB, g, hp, fun v1 F1 H1 g1 hv1 => ?_⟩
  obtain ⟨c, rfl, fc⟩ := hv1.at
  have hll := inner_len g hp
  have hnd := inner_nd (b := b) 0
  have hPl := inner_pl g hp hs
  have hin : ∀ x ∈ Uw62.inner b 0, x < b.n := fun x hx => by
    obtain ⟨h1, h2⟩ := mem_inner.mp hx
    have := comes_le g hp h1
    omega
  have lnf : ∀ x : Nat, Nf (if x = 0 then Uw62.one else Uw62.zero) := fun x => by split; exact one_nf; exact zero_nf
  obtain ⟨res, hres⟩ := visits_some g hPl (last := fun x => if x = 0 then Uw62.one else Uw62.zero) lnf
  have hel : (visRows b).length = (Uw62.inner b 0).length := by simp [visRows, eqRows]
  have hri : ∀ r ∈ visRows b, RI 3 ((visRows b).length + 1) r := fun r hr' => by
    obtain ⟨x, _, rfl⟩ := List.mem_map.mp hr'
    rw [hel]
    exact first_ri g (c := fun x y => Uw62.step1 b y x) (last := fun x => if x = 0 then Uw62.one else Uw62.zero) (fun p q => step1_small g q p) (fun x => by by_cases hx : x = 0; exact .inl (if_pos hx); exact .inr (if_neg hx)) x
  obtain ⟨hrl, hrz⟩ := res_sz hri hres (by rw [hel]; exact hll)
  have hvis := visits_eq g (p := p) hs (by rw [hel] at hres; exact hres) (hrl.trans hel)
  refine ⟨_, rfl, _, rfl, c, _, rfl, .inl (SqL.of (g1.s _ _ fc)), rfl, flat_ints _, _, rfl, ?_⟩
  rw [if_pos rfl, inV_nats]
  refine if_b (fun h0 => ?_) (fun h0 => ?_)
  · have h0' : p ∉ Uw62.inner b 0 := by simpa using h0
    exact k _ F1 H1 g1 ⟨_, hvis.1 h0', aN, rfl, T.tN _⟩
  have hpm : p ∈ Uw62.inner b 0 := by simpa using h0
  -- rows = []
  refine ⟨(by show 0 ≤ sizeLine; decide), fun d hd => ?_⟩
  have hd0 : H d = none := g1.h.free hd
  have g1d := g1.mut (o := .lst []) hd
  refine ⟨_, rfl, c, _, rfl, SqL.of (g1d.s _ _ fc), for_it (walk_enum (K := K) (a := c) (xs := (ofNats (Uw62.inner b 0)).map V.int))
    (fun i σ H' => ∃ F' ys o4 o5 o6, Gr F H F' H' ∧ Same F1 F' ∧ F' d = none ∧ σ = [some v, some (.int (p : Int)), some (.ref c), some (.ref d), o4, o5, o6, none] ∧ H' d = some (.lst ys) ∧ L2R (RwV K) F' ((visRows b).take i) ys) ?_ ?_ ?_ ?_⟩
  · exact ⟨F1, [], none, none, none, g1d, Same.refl _, g1.s.free hd, rfl, upd_same, L2R.nil⟩
  · rintro i σ H' _ ⟨F', ys, o4, o5, o6, gr, s1, _⟩
    exact SqL.of (gr.s _ _ (s1 _ _ fc))
  · rintro i x σ H' H'' hi ⟨F', ys, o4, o5, o6, gr, s1, fd', rfl, hd', rys⟩ ⟨t, z1, z2, rfl, ht, rfl, hz1, hz2⟩
    cases hz1
    obtain ⟨x, hx, rfl⟩ := ofNats_get hz2
    rw [ofNats_len] at hi
    have ntd : d ≠ t := ne_of_none hd' ht
    have gt : Gr F' H' F' (upd H' t (.tup [.int (i : Nat), .int (x : Int)])) := (Gr.refl gr.s).mut ht
    have hdt : upd H' t (.tup [.int (i : Nat), .int (x : Int)]) d = some (.lst ys) := by rw [upd_ne ntd]; exact hd'
    refine pair_new upd_same ?_
    refine ⟨_, rfl, _, rfl, _, rfl, c, rfl, ⟨_, SqL.of (gt.s _ _ (s1 _ _ fc))⟩, fun D hD => ?_⟩
    refine lc_map (walk_list (K := K) (a := c) (xs := (ofNats (Uw62.inner b 0)).map V.int)) hD gt.s (FrV K) FrV.mono (fun m => Uw62.step1 b ((Uw62.inner b 0).getD m 0) x) (by rw [ofNats_len]; omega) (fun H' s => SqL.of (s _ _ (s1 _ _ fc))) ?_ ?_ mg_name
    · rintro m F2 H2 y H3 Qy hm g2 ⟨rfl, hy⟩ ky
      obtain ⟨q, hq, rfl⟩ := ofNats_get hy
      refine ⟨rfl, if_t rfl ⟨_, rfl, _, rfl, _, rfl, F2, _, b, q, x, rfl, g2.s, BdV.mono _ _ _ _ ((gr.f.trans g2.f)) hB, g, hin q (List.mem_of_getElem? hq), fun v3 F3 H4 g3 hv3 => ?_⟩⟩
      refine ky v3 F3 H4 g3 ?_
      rw [show (Uw62.inner b 0).getD m 0 = q by rw [List.getD_eq_getElem?_getD, hq]; rfl]
      exact hv3
    intro F2 H2 g2 hcs
    have ecs : (List.range ((ofNats (Uw62.inner b 0)).map V.int).length).map (fun m => Uw62.step1 b ((Uw62.inner b 0).getD m 0) x) = (Uw62.inner b 0).map (fun y => Uw62.step1 b y x) := by
      rw [ofNats_len]
      conv => rhs; rw [← range_getD 0 (Uw62.inner b 0), List.map_map]
      rfl
    rw [ecs] at hcs
    have s12 : Same F1 F2 := s1.trans g2.f
    have g02 : Gr F' H' F2 H2 := gt.trans g2
    refine ⟨F2, _, _, Uw62.inner b 0, i, (Uw62.inner b 0).map (fun y => Uw62.step1 b y x), 3, rfl, g2.s, NsV.of (s12 _ _ fc), hcs, by simp, by omega, fun y hy => ?_, by omega, fun v4 F4 H4 g4 hv4 => ?_⟩
    · obtain ⟨q, _, rfl⟩ := List.mem_map.mp hy
      exact step1_sz g q x
    rw [stay_eq hnd (fun x y => Uw62.step1 b y x) hx] at hv4
    obtain ⟨e, xr, rfl, fe, rxr⟩ := hv4
    have g24 := g02.trans g4
    refine ⟨_, rfl, .inl ⟨rfl, _, SqL.of (g24.h _ _ hd')⟩, _, rfl, _, rfl, rfl, _, rfl, ?_⟩
    have fin : ∀ (al : Addr), FrV K (if x = 0 then Uw62.one else Uw62.zero) (.ref al) F4 → tLst (tCons (tC (.ref al)) tNil) [] H4 (fun y H1 => rCat (.ref e) y H1 fun z H2' => rAppend (.ref d) [z] H2' fun _ H3' => ∃ F' ys' o4 o5 o6, Gr F H F' H3' ∧ Same F1 F' ∧ F' d = none ∧
        ([some v, some (.int (p : Int)), some (.ref c), some (.ref d), some (.int (i : Int)), some (.int (x : Int)), some (.ref e), none] : L2.St) = [some v, some (.int (p : Int)), some (.ref c), some (.ref d), o4, o5, o6, none] ∧ H3' d = some (.lst ys') ∧ L2R (RwV K) F' ((visRows b).take (i + 1)) ys') := by
      intro al hal
      refine ⟨(by show 1 ≤ sizeLine; decide), fun q1 hq1 => ?_⟩
      have g5 := g4.new (o := .lst [.ref al]) hq1
      have fe5 : upd F4 q1 (.lst [.ref al]) e = some (.lst xr) := by rw [upd_ne (ne_of_none fe (g4.s.free hq1))]; exact fe
      refine ⟨e, q1, _, _, rfl, rfl, g5.s _ _ fe5, upd_same, ?_, fun q2 hq2 => ?_⟩
      · have := rxr.len
        simp only [stayRow, List.length_map] at this
        exact Nat.le_of_lt (small_line (by simp; omega))
      have g6 := g5.new (o := .lst (xr ++ [.ref al])) hq2
      have g26 := g02.trans g6
      have hd6 := g26.h _ _ hd'
      have fd6 : _ := g26.none hd' fd'
      refine ⟨d, ys, _, rfl, rfl, hd6, ?_, ?_⟩
      · have := rys.len
        rw [List.length_take, hel] at this
        exact small_line (by omega)
      have s46 := (same_new (o := .lst [.ref al]) (g4.s.free hq1)).trans (same_new (o := .lst (xr ++ [.ref al])) (g5.s.free hq2))
      refine ⟨_, ys ++ [.ref q2], _, _, _, (gr.trans g26).set hd0 fd6, s1.trans g26.f, fd6, rfl, upd_same, ?_⟩
      rw [take_snoc (eqRows_at hx)]
      exact (rys.mono RwV.mono g26.f).snoc ⟨q2, _, rfl, upd_same, L2R.snoc (rxr.mono FrV.mono s46) (FrV.mono _ _ _ _ s46 hal)⟩
    refine if_b (fun h1 => ?_) (fun h1 => ?_)
    · have h1' : x = 0 := by have := V.int.inj (of_decide_eq_true h1); omega
      exact fin aO (by rw [if_pos h1']; exact ⟨aO, rfl, T.tO _⟩)
    · have h1' : ¬ x = 0 := fun z => (of_decide_eq_false h1) (by rw [z]; rfl)
      exact fin aN (by rw [if_neg h1']; exact ⟨aN, rfl, T.tN _⟩)
  · rintro σ H' ⟨F', ys, o4, o5, o6, gr, s1, fd', rfl, hd', rys⟩
    rw [ofNats_len, ← hel, List.take_length] at rys
    have fc' := s1 _ _ fc
    obtain ⟨j, hjl, ej⟩ := List.mem_iff_getElem.mp hpm
    have hj : (Uw62.inner b 0)[j]? = some p := by rw [List.getElem?_eq_getElem hjl, ej]
    have gk := gr.know hd0 hd' fd'
    refine ⟨_, rfl, _, _, visRows b, res, rfl, gk.s, ⟨d, ys, rfl, upd_same, rys.mono RwV.mono (same_new fd')⟩, by rw [hel]; exact hll, hri, hres, fun v6 F6 H6 g6 hv6 => ?_⟩
    have fc6 : F6 c = some (.lst ((ofNats (Uw62.inner b 0)).map V.int)) := g6.f _ _ (by rw [upd_ne (ne_of_none fc' fd')]; exact fc')
    obtain ⟨hi1, hi2⟩ := index_of hnd hj
    refine ⟨_, rfl, .inl ⟨rfl, _, SqL.of (g6.s _ _ fc6)⟩, _, rfl, c, _, _, j, _, rfl, rfl, SqL.of (g6.s _ _ fc6), rfl, flat_ints _, hi1, ?_, hi2, ?_⟩
    · show ((p : Int) == (p : Int)) = true
      simp
    have hjr : j < res.length := by rw [hrl, hel]; exact hjl
    have hjm : (res.map lastOf)[j]? = some (lastOf (res.getD j [])) := by rw [List.getElem?_map, getD_get hjr []]; rfl
    obtain ⟨a1, x1, y1, e1, f1, at1, r1⟩ := hv6.get hjm
    subst e1
    refine ⟨a1, x1, _, y1, rfl, rfl, SqL.of (g6.s _ _ f1), at1, ?_⟩
    exact k y1 F6 H6 (gk.trans g6) ⟨_, hvis.2 j hj, r1⟩

/-! ### least_of -/
def MjR (K : PySem.W.Frag) : Rep (Frac × Nat × Nat) := fun x v F => ∃ a vm vj, v = .ref a ∧ F a = some (.tup [vm, vj]) ∧ FrV K x.1 vm F ∧ PrR x.2 vj F
theorem MjR.mono {K : PySem.W.Frag} : Mono (MjR K) := fun _ _ _ _ s ⟨a, vm, vj, e, h, h1, h2⟩ => ⟨a, vm, vj, e, s _ _ h, FrV.mono _ _ _ _ s h1, PrR.mono _ _ _ _ s h2⟩
def OptV {α : Type} (R : Rep α) : Rep (Option α) := fun o v F => match o with
  | none => v = .non
  | some x => v ≠ .non ∧ R x v F
def spLeastOf (K : PySem.W.Frag) : Sp := fun vs H Q _ => ∃ (F : Hp) (v : V) (l : List (Frac × Nat × Nat)), vs = [v] ∧ Same F H ∧ LsV (MjR K) l v F ∧ (∀ x ∈ l, Sz 4095 x.1) ∧ Ret F H (OptV (MjR K) (leastOf (fun x => x.1) l)) Q
theorem scLeastOf : FnScope ["some", "found", "one"] ["some"] (defScope sLeastOf) := ⟨rfl, rfl, rfl, by decide +kernel, rfl, by decide +kernel, by decide +kernel⟩
theorem ok_leastOf {f : Addr} {fd : FuncData} (F : Fun K "least_of" "least_of" sLeastOf f fd) (T : Txt K mg CB CD CR aN aO aM) (G1 : FnG P w K mg base CX0 1 "is_less" ["one", "other"] (spIsLess K)) : FnOk P w K mg base CX0 2 f fd ["some"] (spLeastOf K) := by
  refine F.ok scLeastOf (fun vs H Q E h => ?_) (fun cdv A outer s H vs Q E hr h => ?_)
  · obtain ⟨F, v, l, rfl, _⟩ := h
    rfl
  refine ⟨_, pss_cons (ps_set (i := 1) scLeastOf.nd rfl (Or.inl rfl) pe_non) (pss_cons (ps_for PassesOwn.never rfl (pi_list (pv 0)) (pg_name (i := 2) scLeastOf.nd rfl (Or.inl rfl))
    (pss_one (ps_if (PW.pt (pw_or (pt_cmpR op_isN (pv 1) pe_non (nomark _)) (pw_or1 (pt_val (pe_fn G1 hr pass0 (pa_cons (pe_ix ix_tup (pv 2) pe_int (fun _ _ => rfl)) (pa_cons (pe_ix ix_tup (pv 1) pe_int (fun _ _ => rfl)) pa_nil))))))) (pss_one (ps_set (i := 1) scLeastOf.nd rfl (Or.inl rfl) (pv 2))) pss_nil)))
    (pss_one (ps_ret (pv 1)))), ?_⟩
  obtain ⟨F, v, l, rfl, sF, ⟨c, xs, rfl, fc, rxs⟩, hsz, k⟩ := h
  refine ⟨_, rfl, c, rfl, ⟨_, SqL.of (sF _ _ fc)⟩, for_it (walk_list (K := K) (a := c) (xs := xs)) (fun i σ H' => H' = H ∧ ∃ v' o, σ = [some (.ref c), some v', o] ∧ OptV (MjR K) (leastOf (fun x => x.1) (l.take i)) v' F) ⟨rfl, _, none, rfl, rfl⟩ ?_ ?_ ?_⟩
  · rintro i σ H' _ ⟨rfl, _⟩
    exact SqL.of (sF _ _ fc)
  · rintro i y σ H' H'' hi ⟨rfl, v', o, rfl, ho⟩ ⟨rfl, hy⟩
    obtain ⟨x, hx, a, vm, vj, rfl, fa, hm, hj⟩ := rxs.item hy
    have hstep : leastOf (fun x => x.1) (l.take (i + 1)) = lsS (fun x => x.1) (leastOf (fun x => x.1) (l.take i)) x := by rw [take_snoc hx, leastOf_snoc]
    refine ⟨_, rfl, rfl, _, rfl, ?_⟩
    cases e : leastOf (fun x => x.1) (l.take i) with
    | none =>
      rw [e] at ho hstep
      have ho' : v' = .non := ho
      subst ho'
      refine if_t rfl (if_t rfl ⟨_, rfl, rfl, _, _, rfl, ?_⟩)
      rw [hstep]
      exact ⟨fun q => V.noConfusion q, a, vm, vj, rfl, fa, hm, hj⟩
    | some z =>
      rw [e] at ho hstep
      obtain ⟨hne, a', vm', vj', rfl, fa', hm', hj'⟩ := ho
      refine if_f rfl ⟨_, rfl, a, _, _, _, rfl, rfl, SqT.of (sF _ _ fa), rfl, _, rfl, a', _, _, _, rfl, rfl, SqT.of (sF _ _ fa'), rfl, ?_⟩
      have hz : z ∈ l := List.mem_of_mem_take (leastOf_mem _ _ e)
      refine ⟨vm, vm', x.1, z.1, 4095, 4095, rfl, FrV.mono _ _ _ _ sF hm, FrV.mono _ _ _ _ sF hm', hsz _ (List.mem_of_getElem? hx), hsz _ hz, by decide, _, rfl, ?_⟩
      rw [lsS_some] at hstep
      refine if_b (fun h1 => ?_) (fun h1 => ?_)
      · rw [if_pos h1] at hstep
        refine ⟨_, rfl, rfl, _, _, rfl, ?_⟩
        rw [hstep]
        exact ⟨fun q => V.noConfusion q, a, vm, vj, rfl, fa, hm, hj⟩
      · rw [if_neg (by rw [h1]; decide)] at hstep
        refine ⟨rfl, _, _, rfl, ?_⟩
        rw [hstep]
        exact ⟨hne, a', vm', vj', rfl, fa', hm', hj'⟩
  · rintro σ H' ⟨rfl, v', o, rfl, ho⟩
    rw [rxs.len, List.take_length] at ho
    exact ⟨_, rfl, k v' F H' (Gr.refl sF) ho⟩

/-! ### race -/
def spRace (K : PySem.W.Frag) (CB : Addr) : Sp := fun vs H Q _ => ∃ (F : Hp) (v : V) (b : Board) (t : Nat), vs = [v, .int (t : Int)] ∧ Same F H ∧ BdV CB b v F ∧ Good b ∧ t ≤ 6 ∧
  Ret F H (fun v F => ∃ a v1 v2 v3, v = .ref a ∧ F a = some (.tup [v1, v2, v3]) ∧ FrV K (Uw62.race b t).1 v1 F ∧ FrV K (Uw62.race b t).2.1 v2 F ∧ FrV K (Uw62.race b t).2.2 v3 F) Q
abbrev nRC : List Str := ["board", "rounds", "within", "away", "comes", "first", "second", "throws", "one", "k"]
theorem scRace : FnScope nRC ["board", "rounds"] (defScope sRace) := ⟨rfl, rfl, rfl, by decide +kernel, rfl, by decide +kernel, by decide +kernel⟩
theorem map_range_at {α : Type} (f : Nat → α) {n i : Nat} (h : i < n) : ((List.range n).map f)[i]? = some (f i) := by
  rw [List.getElem?_map, List.getElem?_range h]
  rfl
theorem within_sz {b : Board} (g : Good b) {t : Nat} (ht : t ≤ 6) : Sz 16 (Uw62.within b t) := by
  refine chance_sz g b.n 16 ?_
  have : 6 ^ t ≤ 6 ^ 6 := Nat.pow_le_pow_right (by decide) ht
  have e : (6 : Nat) ^ 6 < 2 ^ 16 := by decide
  omega
theorem ok_race {f : Addr} {fd : FuncData} (F : Fun K "race" "race" sRace f fd) (T : Txt K mg CB CD CR aN aO aM) (G1 : FnG P w K mg base CX0 6 "chance_at" ["board", "throws", "place"] (spChanceAt K CB)) (G2 : sp2G P w K mg base 4 "less" Uw62.minus) (G3 : sp2G P w K mg base 3 "times" Uw62.times)
    (G4 : FnG P w K mg base CX0 4 "total" ["some"] (spTotal K)) : FnOk P w K mg base CX0 7 f fd ["board", "rounds"] (spRace K CB) := by
  refine F.ok scRace (fun vs H Q E h => ?_) (fun cdv A outer s H vs Q E hr h => ?_)
  · obtain ⟨F, v, b, t, rfl, _⟩ := h
    rfl
  refine ⟨_, pss_cons (ps_set (i := 2) scRace.nd rfl (Or.inr rfl) (pe_lc (own := [("throws", 7)]) (g := gName 7) (tt := tYes) rfl scRace.nd (pi_range1 (by rfl) T.n_range (pa_cons (pe_op op_add (pv 1) pe_int) pa_nil)) (blkOk_by (own := [("throws", 7)]) (N := nRC) (sc := defScope sRace) (by decide +kernel))
      (fun _ _ _ _ _ => pg_name (i := 7) scRace.nd rfl (Or.inl rfl)) (fun _ _ _ _ _ => pts_nil) (fun _ _ _ _ _ => pe_fn G1 hr pass0 (pa_cons (pv 0) (pa_cons (pv 7) (pa_cons (pe_fldK K (pv 0)) pa_nil))))))
    (pss_cons (ps_set (i := 3) scRace.nd rfl (Or.inr rfl) (pe_lc (own := [("one", 8)]) (g := gName 8) (tt := tYes) rfl scRace.nd (pi_list (pv 2)) (blkOk_by (own := [("one", 8)]) (N := nRC) (sc := defScope sRace) (by decide +kernel))
      (fun _ _ _ _ _ => pg_name (i := 8) scRace.nd rfl (Or.inl rfl)) (fun _ _ _ _ _ => pts_nil) (fun _ _ _ _ _ => pe_fn G2 hr pass0 (pa_cons (pe_gref T.gO) (pa_cons (pv 8) pa_nil)))))
    (pss_cons (ps_set (i := 4) scRace.nd rfl (Or.inr rfl) (pe_lc (own := [("k", 9)]) (g := gName 9) (tt := tYes) rfl scRace.nd (pi_range1 (by rfl) T.n_range (pa_cons (pv 1) pa_nil)) (blkOk_by (own := [("k", 9)]) (N := nRC) (sc := defScope sRace) (by decide +kernel))
      (fun _ _ _ _ _ => pg_name (i := 9) scRace.nd rfl (Or.inl rfl)) (fun _ _ _ _ _ => pts_nil) (fun _ _ _ _ _ => pe_fn G2 hr pass0 (pa_cons (ix_lK K (pv 2) (pe_op op_add (pv 9) pe_int)) (pa_cons (ix_lK K (pv 2) (pv 9)) pa_nil)))))
    (pss_cons (ps_set (i := 5) scRace.nd rfl (Or.inl rfl) (pe_fn G4 hr pass0 (pa_cons (pe_lc (own := [("k", 9)]) (g := gName 9) (tt := tYes) rfl scRace.nd (pi_range1 (by rfl) T.n_range (pa_cons (pv 1) pa_nil)) (blkOk_by (own := [("k", 9)]) (N := nRC) (sc := defScope sRace) (by decide +kernel))
      (fun _ _ _ _ _ => pg_name (i := 9) scRace.nd rfl (Or.inl rfl)) (fun _ _ _ _ _ => pts_nil) (fun _ _ _ _ _ => pe_fn G3 hr pass0 (pa_cons (ix_lK K (pv 4) (pv 9)) (pa_cons (ix_lK K (pv 3) (pv 9)) pa_nil)))) pa_nil)))
    (pss_cons (ps_set (i := 6) scRace.nd rfl (Or.inl rfl) (pe_fn G4 hr pass0 (pa_cons (pe_lc (own := [("k", 9)]) (g := gName 9) (tt := tYes) rfl scRace.nd (pi_range1 (by rfl) T.n_range (pa_cons (pv 1) pa_nil)) (blkOk_by (own := [("k", 9)]) (N := nRC) (sc := defScope sRace) (by decide +kernel))
      (fun _ _ _ _ _ => pg_name (i := 9) scRace.nd rfl (Or.inl rfl)) (fun _ _ _ _ _ => pts_nil) (fun _ _ _ _ _ => pe_fn G3 hr pass0 (pa_cons (ix_lK K (pv 4) (pv 9)) (pa_cons (ix_lK K (pv 3) (pe_op op_add (pv 9) pe_int)) pa_nil)))) pa_nil)))
    (pss_one (ps_ret (pe_tup (pa_cons (pv 5) (pa_cons (pv 6) (pa_cons (pe_fn G3 hr pass0 (pa_cons (pe_ix ix_list (pv 3) (pe_un un_neg pe_int) (fun _ _ => rfl)) (pa_cons (pe_ix ix_list (pv 3) (pe_un un_neg pe_int) (fun _ _ => rfl)) pa_nil))) pa_nil)))))))))), ?_⟩
  obtain ⟨F, v, b, t, rfl, sF, hB, g, ht, k⟩ := h
  obtain ⟨a, dx, pf, pj, pe, rfl, B⟩ := id hB
  -- within
  refine ⟨_, rfl, _, _, rfl, rfl, _, rfl, by omega, by omega, fun D1 hD1 => ?_⟩
  rw [show ((t : Int) + 1).toNat = t + 1 by omega]
  refine lc_map (walk_range (lo := 0) (n := t + 1)) hD1 sF (FrV K) FrV.mono (fun j => Uw62.within b j) (by omega) (fun _ _ => trivial) ?_ ?_ mg_name
  · rintro j F' H' x H'' Qy hj gr ⟨rfl, rfl⟩ ky
    have B3 := B.mono (gr.f.trans gr.s)
    refine ⟨rfl, if_t rfl ⟨_, rfl, _, rfl, _, rfl, a, CB, dx, _, _, rfl, B3.obj, T.clB, T.b_end, bF_end b pf pj pe, ?_⟩⟩
    refine ⟨F', _, b, j, b.n, ?_, gr.s, BdV.mono _ _ _ _ gr.f hB, g, by omega, Nat.le_refl _, fun v3 F3 H3 g3 hv3 => ky v3 F3 H3 g3 hv3⟩
    show [V.ref a, V.int (0 + (j : Int)), V.int (b.n : Int)] = [V.ref a, V.int (j : Int), V.int (b.n : Int)]
    rw [Int.zero_add]
  intro F1 H1 g1 hW
  -- away
  obtain ⟨p1, x1, e1, f1, r1⟩ := id hW
  cases e1
  have hl1 := r1.len
  simp only [List.length_map, List.length_range] at hl1
  refine ⟨_, rfl, D1, rfl, ⟨_, SqL.of (g1.s _ _ f1)⟩, fun D2 hD2 => ?_⟩
  refine lc_map (walk_list (K := K) (a := D1) (xs := x1)) hD2 g1.s (FrV K) FrV.mono (fun j => Uw62.minus Uw62.one (Uw62.within b j)) (by omega) (fun H' s => SqL.of (s _ _ f1)) ?_ ?_ mg_name
  · rintro j F' H' x H'' Qy hj gr ⟨rfl, hx⟩ ky
    obtain ⟨q, hq, rq⟩ := r1.item hx
    have hjt : j < t + 1 := by omega
    rw [map_range_at _ hjt] at hq
    cases hq
    refine ⟨rfl, if_t rfl ⟨_, rfl, F', _, _, Uw62.one, Uw62.within b j, 1, 16, rfl, gr.s, ⟨aO, rfl, T.tO _⟩, FrV.mono _ _ _ _ gr.f rq, one_sz, within_sz g (by omega), by decide, fun v3 F3 H3 g3 hv3 => ky v3 F3 H3 g3 hv3⟩⟩
  intro F2 H2 g2 hA
  rw [hl1] at hA
  have g02 := g1.trans g2
  have hW2 := RwV.mono _ _ _ _ g2.f hW
  -- comes
  refine ⟨_, rfl, _, rfl, by omega, by omega, fun D3 hD3 => ?_⟩
  rw [Int.toNat_natCast]
  refine lc_map (walk_range (lo := 0) (n := t)) hD3 g2.s (FrV K) FrV.mono (fun j => Uw62.minus (Uw62.within b (j + 1)) (Uw62.within b j)) (by omega) (fun _ _ => trivial) ?_ ?_ mg_name
  · rintro j F' H' x H'' Qy hj gr ⟨rfl, rfl⟩ ky
    have hW' := RwV.mono _ _ _ _ gr.f hW2
    obtain ⟨q1, y1, z1, e1, h1, at1, rr1⟩ := hW'.get (map_range_at (fun j => Uw62.within b j) (show j + 1 < t + 1 by omega))
    obtain ⟨q2, y2, z2, e2, h2, at2, rr2⟩ := hW'.get (map_range_at (fun j => Uw62.within b j) (show j < t + 1 by omega))
    cases e1
    cases e2
    refine ⟨rfl, if_t rfl ⟨_, rfl, _, rfl, _, _, rfl, rfl, D1, y1, _, z1, rfl, rfl, SqL.of (gr.s _ _ h1), by rw [Int.natCast_add] at at1; rw [Int.zero_add]; exact at1, _, rfl, _, rfl, D1, y2, _, z2, rfl, rfl, SqL.of (gr.s _ _ h2), by rw [Int.zero_add]; exact at2, ?_⟩⟩
    exact ⟨F', _, _, _, _, 16, 16, rfl, gr.s, rr1, rr2, within_sz g (by omega), within_sz g (by omega), by decide, fun v3 F3 H3 g3 hv3 => ky v3 F3 H3 g3 hv3⟩
  intro F3 H3 g3 hC
  have g03 := g02.trans g3
  have hA3 := RwV.mono _ _ _ _ g3.f hA
  have sA : ∀ j, j ≤ t → Sz 18 (Uw62.minus Uw62.one (Uw62.within b j)) := fun j hj => minus_sz one_sz (within_sz g (by omega))
  have sC : ∀ j, j < t → Sz 33 (Uw62.minus (Uw62.within b (j + 1)) (Uw62.within b j)) := fun j hj => minus_sz (within_sz g (by omega)) (within_sz g (by omega))
  -- first
  refine ⟨_, rfl, _, rfl, by omega, by omega, fun D4 hD4 => ?_⟩
  rw [Int.toNat_natCast]
  refine lc_map (walk_range (lo := 0) (n := t)) hD4 g3.s (FrV K) FrV.mono (fun j => Uw62.firstIn b j) (by omega) (fun _ _ => trivial) ?_ ?_ mg_name
  · rintro j F' H' x H'' Qy hj gr ⟨rfl, rfl⟩ ky
    obtain ⟨q1, y1, z1, e1, h1, at1, rr1⟩ := (RwV.mono _ _ _ _ gr.f hC).get (map_range_at (fun j => Uw62.minus (Uw62.within b (j + 1)) (Uw62.within b j)) hj)
    obtain ⟨q2, y2, z2, e2, h2, at2, rr2⟩ := (RwV.mono _ _ _ _ gr.f hA3).get (map_range_at (fun j => Uw62.minus Uw62.one (Uw62.within b j)) (show j < t + 1 by omega))
    cases e1
    cases e2
    refine ⟨rfl, if_t rfl ⟨_, rfl, _, rfl, D3, y1, _, z1, rfl, rfl, SqL.of (gr.s _ _ h1), by rw [Int.zero_add]; exact at1, _, rfl, _, rfl, D2, y2, _, z2, rfl, rfl, SqL.of (gr.s _ _ h2), by rw [Int.zero_add]; exact at2, ?_⟩⟩
    exact ⟨F', _, _, _, _, 33, 18, rfl, gr.s, rr1, rr2, sC j hj, sA j (by omega), by decide, fun v3 F3 H3 g3 hv3 => ky v3 F3 H3 g3 hv3⟩
  intro F4 H4 g4 hT1
  refine ⟨F4, _, (List.range t).map (Uw62.firstIn b), 51, rfl, g4.s, hT1, fun q hq => ?_, by rw [List.length_map, List.length_range]; omega, fun v5 F5 H5 g5 hv5 => ?_⟩
  · obtain ⟨j, hj, rfl⟩ := List.mem_map.mp hq
    have hj' : j < t := by simpa using hj
    exact times_sz (sC j hj') (sA j (by omega))
  have g05 := (g03.trans g4).trans g5
  have s35 := g4.f.trans g5.f
  -- second
  refine ⟨_, rfl, _, rfl, by omega, by omega, fun D5 hD5 => ?_⟩
  rw [Int.toNat_natCast]
  refine lc_map (walk_range (lo := 0) (n := t)) hD5 g5.s (FrV K) FrV.mono (fun j => Uw62.secondIn b j) (by omega) (fun _ _ => trivial) ?_ ?_ mg_name
  · rintro j F' H' x H'' Qy hj gr ⟨rfl, rfl⟩ ky
    obtain ⟨q1, y1, z1, e1, h1, at1, rr1⟩ := (RwV.mono _ _ _ _ (s35.trans gr.f) hC).get (map_range_at (fun j => Uw62.minus (Uw62.within b (j + 1)) (Uw62.within b j)) hj)
    obtain ⟨q2, y2, z2, e2, h2, at2, rr2⟩ := (RwV.mono _ _ _ _ (s35.trans gr.f) hA3).get (map_range_at (fun j => Uw62.minus Uw62.one (Uw62.within b j)) (show j + 1 < t + 1 by omega))
    cases e1
    cases e2
    refine ⟨rfl, if_t rfl ⟨_, rfl, _, rfl, D3, y1, _, z1, rfl, rfl, SqL.of (gr.s _ _ h1), by rw [Int.zero_add]; exact at1, _, rfl, _, rfl, _, _, rfl, rfl, D2, y2, _, z2, rfl, rfl, SqL.of (gr.s _ _ h2), by rw [Int.natCast_add] at at2; rw [Int.zero_add]; exact at2, ?_⟩⟩
    exact ⟨F', _, _, _, _, 33, 18, rfl, gr.s, rr1, rr2, sC j hj, sA (j + 1) (by omega), by decide, fun v3 F3 H3 g3 hv3 => ky v3 F3 H3 g3 hv3⟩
  intro F6 H6 g6 hT2
  refine ⟨F6, _, (List.range t).map (Uw62.secondIn b), 51, rfl, g6.s, hT2, fun q hq => ?_, by rw [List.length_map, List.length_range]; omega, fun v7 F7 H7 g7 hv7 => ?_⟩
  · obtain ⟨j, hj, rfl⟩ := List.mem_map.mp hq
    have hj' : j < t := by simpa using hj
    exact times_sz (sC j hj') (sA (j + 1) (by omega))
  have g07 := (g05.trans g6).trans g7
  have s57 := g6.f.trans g7.f
  -- the last
  obtain ⟨pA, xA, eA, fA, rA⟩ := RwV.mono _ _ _ _ (s35.trans s57) hA3
  cases eA
  obtain ⟨yA, hyA, ryA⟩ := rA.last Uw62.zero (by rw [List.length_map, List.length_range]; omega)
  have eA2 : ((List.range (t + 1)).map fun j => Uw62.minus Uw62.one (Uw62.within b j)).getLastD Uw62.zero = Uw62.minus Uw62.one (Uw62.within b t) := by
    rw [List.range_succ, List.map_append]
    simp
  rw [eA2] at ryA
  refine ⟨_, rfl, _, rfl, _, rfl, _, rfl, D2, xA, _, yA, rfl, rfl, SqL.of (g07.s _ _ fA), hyA, _, rfl, _, rfl, D2, xA, _, yA, rfl, rfl, SqL.of (g07.s _ _ fA), hyA, ?_⟩
  refine ⟨F7, _, _, _, _, 18, 18, rfl, g07.s, ryA, ryA, sA t (Nat.le_refl _), sA t (Nat.le_refl _), by decide, fun v8 F8 H8 g8 hv8 => ?_⟩
  refine ⟨(by show 3 ≤ sizeLine; decide), fun q hq => ?_⟩
  have g9 := (g07.trans g8).new (o := .tup [v5, v7, v8]) hq
  have s89 := same_new (o := .tup [v5, v7, v8]) ((g07.trans g8).s.free hq)
  exact k _ _ _ g9 ⟨q, v5, v7, v8, rfl, upd_same, FrV.mono _ _ _ _ ((s57.trans g8.f).trans s89) hv5, FrV.mono _ _ _ _ (g8.f.trans s89) hv7, FrV.mono _ _ _ _ s89 hv8⟩
end
end LS

namespace LS
open PySem PySem.Spec PyProof.Rows L2
open Uw62 (Board Frac)
abbrev sRInit : Stmt := inClass (topS 50) 0
abbrev sWant : Stmt := topS 51
abbrev sPairsOf : Stmt := topS 52
abbrev sWantJumps : Stmt := topS 53
/-- what the text says of Refused -/
structure TxtR (K : PySem.W.Frag) (mg : Str → Option Value) (CR fI : Addr) : Prop where
  gR : mg "Refused" = some (.ref CR)
  oex : OexC K CR
  iC : PySem.W.findIn K (.ref CR) "__init__" = some (some (.ref fI))
  tI : PySem.W.typeIn K (.ref fI) = some (.type "function")
  noR : PySem.W.findIn K (.ref CR) "refusal" = some none
  nVE : mg "ValueError" = none
  vV : PySem.W.findCls K (.type "ValueError") (.type "type") "__init__" = some (.val (.builtin "ValueError.__init__"))
  xf : XfC K CR
  te : PySem.W.exmOne K (.ref CR) (.ref CR) = some true
section
variable {P : Program} {w : World} {K : PySem.W.Frag} {mg : Str → Option Value} {base : Heap} {CB CD CR aN aO aM fI : Addr}
def xdOf (r : Int) : HO := .xd [(("refusal" : Str), .int r)]
def spRInit (CR : Addr) : Sp := fun vs H Q _ => ∃ (a : Addr) (r : Int), vs = [.ref a, .int r] ∧ H a = some (exo a CR none) ∧ ∀ dx, H dx = none → dx ≠ a → Q .non (upd (upd H dx (exd dx [(("refusal" : Str), .int r)])) a (exo a CR (some dx)))
theorem scRInit : FnScope ["self", "refusal"] ["self", "refusal"] (defScope sRInit) := ⟨rfl, rfl, rfl, by decide +kernel, rfl, by decide +kernel, by decide +kernel⟩
theorem ok_rinit {f : Addr} {fd : FuncData} (F : Fun K "__init__" "Refused.__init__" sRInit f fd) (R : TxtR K mg CR fI) : FnOk P w K mg base CX0 1 f fd ["self", "refusal"] (spRInit CR) := by
  refine F.ok scRInit (fun vs H Q E h => ?_) (fun cdv A outer s H vs Q E hr h => ?_)
  · obtain ⟨a, r, rfl, _⟩ := h
    rfl
  refine ⟨_, pss_cons (ps_expr (pe_veinit (by rfl) R.nVE R.vV (pa_cons (pv 0) (pa_cons pe_str pa_nil)))) (pss_one (ps_ost (pv 0) (pv 1))), ?_⟩
  obtain ⟨a, r, rfl, ha, k⟩ := h
  refine ⟨_, rfl, a, CR, _, rfl, (by show 1 ≤ 1000; decide), R.oex, ha, ?_⟩
  exact ⟨_, rfl, _, rfl, a, CR, rfl, R.oex, R.noR, .inl ⟨ha, fun dx h1 h2 => k dx h1 h2⟩⟩

/-! ### want -/
def spWant (CR : Addr) : Sp := fun vs H Q E => ∃ (c : Bool) (r : Int), vs = [.bl c, .int r] ∧ (c = true → Q .non H) ∧ (c = false → ∀ d H', Same H H' → H' d = some (xdOf r) → E (.ref CR) (some d) H')
theorem scWant : FnScope ["is_so", "refusal"] ["is_so", "refusal"] (defScope sWant) := ⟨rfl, rfl, rfl, by decide +kernel, rfl, by decide +kernel, by decide +kernel⟩
theorem ok_want {f fR : Addr} {fd fdR : FuncData} (F : Fun K "want" "want" sWant f fd) (R : TxtR K mg CR fI) (G1 : FnOk P w K mg base CX0 1 fI fdR ["self", "refusal"] (spRInit CR)) (bI : Binds K fdR ["self", "refusal"] []) : FnOk P w K mg base (L2.CX P w) 3 f fd ["is_so", "refusal"] (spWant CR) := by
  refine F.okX scWant (fun vs H Q E h => ?_) (fun cdv A outer s H vs Q E hr h => ?_)
  · obtain ⟨c, r, rfl, _⟩ := h
    rfl
  refine ⟨_, pss_one (ps_if (pt_not (pt_val (pv 0))) (pss_one (ps_raise rfl (takes_of rfl rfl rfl rfl) (pmk_oex R.oex R.iC R.tI G1 hr bI .nil pass0 (by rfl) R.gR (pa_cons (pv 1) pa_nil)))) pss_nil), ?_⟩
  obtain ⟨c, r, rfl, k1, k2⟩ := h
  refine ⟨_, rfl, c, rfl, ?_⟩
  cases c with
  | true => exact if_f rfl (k1 rfl)
  | false =>
    refine if_t rfl ⟨_, rfl, (by show 1 ≤ 1000; decide), fun a ha => ⟨a, r, rfl, upd_same, fun dx h1 h2 => ⟨rfl, dx, [(("refusal" : Str), .int r)], upd_same, ?_, ?_, ?_⟩⟩⟩
    · rw [upd_ne h2]; exact upd_same
    · rw [upd_ne h2] at h1; exact h1
    · rw [upd_ne h2] at h1
      refine k2 rfl dx _ (fun b o e => ?_) upd_same
      have hb : b ≠ a := ne_of_none e ha
      have hbd : b ≠ dx := ne_of_none e h1
      rw [upd_ne hbd, del_ne hb, upd_ne hb, upd_ne hbd, upd_ne hb]
      exact e
abbrev wantG (P : Program) (w : World) (K : PySem.W.Frag) (mg : Str → Option Value) (base : Heap) (CR : Addr) : Prop := FnG P w K mg base (L2.CX P w) 3 "want" ["is_so", "refusal"] (spWant CR)

/-! ### pairs_of -/
def spPairsOf : Sp := fun vs H Q _ => ∃ (F : Hp) (v : V) (l : List Nat), vs = [v] ∧ Same F H ∧ NsV l v F ∧ l.length ≤ 9000 ∧ Ret F H (PrsV (pairsL l)) Q
theorem scPairsOf : FnScope ["numbers", "k"] ["numbers"] (defScope sPairsOf) := ⟨rfl, rfl, rfl, by decide +kernel, rfl, by decide +kernel, by decide +kernel⟩
theorem ok_pairsOf {f : Addr} {fd : FuncData} (F : Fun K "pairs_of" "pairs_of" sPairsOf f fd) (T : Txt K mg CB CD CR aN aO aM) : FnOk P w K mg base CX0 1 f fd ["numbers"] spPairsOf := by
  refine F.ok scPairsOf (fun vs H Q E h => ?_) (fun cdv A outer s H vs Q E hr h => ?_)
  · obtain ⟨F, v, l, rfl, _⟩ := h
    rfl
  refine ⟨_, pss_one (ps_ret (pe_lc (own := [("k", 1)]) (g := gName 1) (tt := tYes) rfl scPairsOf.nd (pi_range1 (by rfl) T.n_range (pa_cons (pe_op op_fdiv (pe_callB call_len_seq (by rfl) T.n_len (by decide +kernel) (pa_cons (pv 0) pa_nil)) pe_int) pa_nil)) (blkOk_by (own := [("k", 1)]) (N := ["numbers", "k"]) (sc := defScope sPairsOf) (by decide +kernel))
      (fun _ _ _ _ _ => pg_name (i := 1) scPairsOf.nd rfl (Or.inl rfl)) (fun _ _ _ _ _ => pts_nil)
      (fun _ _ _ _ _ => pe_tup (pa_cons (ix_lK K (pv 0) (pe_op op_mul pe_int (pv 1))) (pa_cons (ix_lK K (pv 0) (pe_op op_add (pe_op op_mul pe_int (pv 1)) pe_int)) pa_nil))))), ?_⟩
  obtain ⟨F, v, l, rfl, sF, hl, hll, k⟩ := h
  obtain ⟨c, rfl, fc⟩ := hl.at
  refine ⟨_, rfl, c, _, rfl, .inl (SqL.of (sF _ _ fc)), _, _, rfl, rfl, ⟨by decide, by decide⟩, _, rfl, by rw [ofNats_len]; omega, by rw [ofNats_len]; omega, fun D hD => ?_⟩
  rw [ofNats_len, show (((l.length : Nat) : Int) / 2).toNat = l.length / 2 by omega]
  refine lc_map (walk_range (lo := 0) (n := l.length / 2)) hD sF PrR PrR.mono (fun m => (l.getD (2 * m) 0, l.getD (2 * m + 1) 0)) (by omega) (fun _ _ => trivial) ?_ (fun F' H' gr h => ?_) mg_name
  · rintro m F' H' x H'' Qy hm gr ⟨rfl, rfl⟩ ky
    have fc' := gr.s _ _ (gr.f _ _ fc)
    have h1 := ofNats_at (l := l) (i := 2 * m) (by omega)
    have h2 := ofNats_at (l := l) (i := 2 * m + 1) (by omega)
    have h1' : atI ((ofNats l).map V.int) (2 * (0 + (m : Int))) = some (V.int ((l.getD (2 * m) 0 : Nat) : Int)) := by
      rw [Int.natCast_mul] at h1
      rw [Int.zero_add]
      exact h1
    have h2' : atI ((ofNats l).map V.int) (2 * (0 + (m : Int)) + 1) = some (V.int ((l.getD (2 * m + 1) 0 : Nat) : Int)) := by
      rw [Int.natCast_add, Int.natCast_mul] at h2
      rw [Int.zero_add]
      exact h2
    refine ⟨rfl, if_t rfl ⟨_, rfl, _, rfl, _, _, rfl, rfl, .inl ⟨by decide, by decide⟩, c, _, _, _, rfl, rfl, SqL.of fc', h1', _, rfl, _, rfl, _, _, rfl, rfl, .inl ⟨by decide, by decide⟩, _, _, rfl, rfl, c, _, _, _, rfl, rfl, SqL.of fc', h2', (by show 2 ≤ sizeLine; decide), fun p hp => ?_⟩⟩
    exact ky _ _ _ ((Gr.refl gr.s).new hp) ⟨p, rfl, upd_same⟩
  · rw [pairs_range] at h
    exact k _ F' H' gr h

/-! ### want_jumps -/
def jumpsOk (n : Nat) (l : List Nat) : Bool := match Uw62.pairsOf l with
  | none => false
  | some j => Uw62.goodJumps n j
def spWantJumps (CR : Addr) : Sp := fun vs H Q E => ∃ (F : Hp) (v : V) (n : Nat) (l : List Nat), vs = [.int (n : Int), v] ∧ Same F H ∧ NsV l v F ∧ l.length ≤ 9000 ∧ (jumpsOk n l = true → ∀ F' H', Gr F H F' H' → Q .non H') ∧ (jumpsOk n l = false → ∀ d H', Same H H' → H' d = some (xdOf (-3)) → E (.ref CR) (some d) H')
abbrev nWJ : List Str := ["end", "numbers", "jumps", "begin", "goal"]
theorem scWantJumps : FnScope nWJ ["end", "numbers"] (defScope sWantJumps) := ⟨rfl, rfl, rfl, by decide +kernel, rfl, by decide +kernel, by decide +kernel⟩
def jOk (n : Nat) (j : Nat × Nat) : Bool := decide (1 ≤ j.1) && (decide (j.1 < n) && (decide (j.2 ≤ n) && decide (j.1 ≠ j.2)))
theorem pairsL_len : ∀ l : List Nat, (pairsL l).length = l.length / 2
  | [] => rfl
  | [_] => by simp [pairsL]
  | _ :: _ :: r => by
    unfold pairsL
    rw [List.length_cons, pairsL_len r]
    simp only [List.length_cons]
    omega
theorem good_split (n : Nat) (l : List (Nat × Nat)) : Uw62.goodJumps n l = ((l.map (jOk n)).all id && decide ((l.map fun j => j.1).Pairwise (· ≠ ·))) := by
  unfold Uw62.goodJumps
  congr 1
  rw [List.all_map]
  congr 1
  funext j
  show _ = jOk n j
  unfold jOk
  by_cases h : j.1 = j.2
  · have h1 : (j.1 != j.2) = false := by simp [h]
    have h2 : decide (j.1 ≠ j.2) = false := by simp [h]
    rw [h1, h2]
  · have h1 : (j.1 != j.2) = true := by simp [h]
    have h2 : decide (j.1 ≠ j.2) = true := by simp [h]
    rw [h1, h2]
theorem ok_wantJumps {f : Addr} {fd : FuncData} (F : Fun K "want_jumps" "want_jumps" sWantJumps f fd) (T : Txt K mg CB CD CR aN aO aM) (G1 : wantG P w K mg base CR) (G2 : FnG P w K mg base CX0 1 "pairs_of" ["numbers"] spPairsOf) : FnOk P w K mg base (L2.CX P w) 4 f fd ["end", "numbers"] (spWantJumps CR) := by
  refine F.okX scWantJumps (fun vs H Q E h => ?_) (fun cdv A outer s H vs Q E hr h => ?_)
  · obtain ⟨F, v, n, l, rfl, _⟩ := h
    rfl
  have PW : Passes (L2.CX P w) (cxOf (L2.CX P w) P w K mg base nWJ "want_jumps" (defScope sWantJumps) f cdv A outer s H E) E := passes_call (takes_of rfl rfl rfl rfl) (fun _ _ _ _ h => h)
  refine ⟨_, pss_cons (ps_expr (pe_fn G1 hr PW (pa_cons (pe_cmpR op_eq (pe_op op_mod (pe_callB call_len_seq (by rfl) T.n_len (by decide +kernel) (pa_cons (pv 1) pa_nil)) pe_int) pe_int (nomark _)) (pa_cons (pe_gint T.g_BAD_JUMP) pa_nil))))
    (pss_cons (ps_set (i := 2) scWantJumps.nd rfl (Or.inl rfl) (pe_fn G2 hr pass0 (pa_cons (pv 1) pa_nil)))
    (pss_cons (ps_expr (pe_fn G1 hr PW (pa_cons (pe_callB (cr_all rfl) (by rfl) T.n_all (by decide +kernel) (pa_cons
      (pe_lc (own := [("begin", 3), ("goal", 4)]) (g := gTup K 2 (gCons (gName 3) (gCons (gName 4) gNil))) (tt := tYes) rfl scWantJumps.nd (pi_list (pv 2)) (blkOk_by (own := [("begin", 3), ("goal", 4)]) (N := nWJ) (sc := defScope sWantJumps) (by decide +kernel))
        (fun _ _ _ _ _ => pg_tup rfl (pgs_cons (pg_name (i := 3) scWantJumps.nd rfl (Or.inl rfl)) (pgs_cons (pg_name (i := 4) scWantJumps.nd rfl (Or.inl rfl)) pgs_nil))) (fun _ _ _ _ _ => pts_nil)
        (fun _ _ _ _ _ => pe_and (pe_chain op_le op_lt pe_int (pv 3) (pv 0)) (pe_and (pe_cmpR op_le (pv 4) (pv 0) (nomark _)) (pe_one (pe_cmpR op_ne (pv 4) (pv 3) (nomark _)))))) pa_nil)) (pa_cons (pe_gint T.g_BAD_JUMP) pa_nil))))
    (pss_one (ps_expr (pe_fn G1 hr PW (pa_cons (pe_cmpR op_eq (pe_callB call_lenD (by rfl) T.n_len (by decide +kernel) (pa_cons (pe_callTy (call_dictP rfl) (by rfl) T.n_dict (by decide +kernel) (pa_cons (pv 2) pa_nil)) pa_nil)) (pe_callB call_len_seq (by rfl) T.n_len (by decide +kernel) (pa_cons (pv 2) pa_nil)) (nomark _)) (pa_cons (pe_gint T.g_BAD_JUMP) pa_nil))))))), ?_⟩
  obtain ⟨F, v, n, l, rfl, sF, hl, hll, k1, k2⟩ := h
  obtain ⟨c, rfl, fc⟩ := hl.at
  refine ⟨_, rfl, c, _, rfl, .inl (SqL.of (sF _ _ fc)), _, _, rfl, rfl, (by show (0 : Int) < 2; decide), rfl, _, _, rfl, fun hc => ?_, fun hc => ?_⟩
  rotate_left
  · have hodd : l.length % 2 = 1 := by
      have h1 : ¬ V.int ((((ofNats l).map V.int).length : Int) % 2) = V.int 0 := of_decide_eq_false hc
      rw [ofNats_len] at h1
      have h2 : ¬ ((l.length : Int) % 2) = 0 := fun e => h1 (by rw [e])
      omega
    exact k2 (by unfold jumpsOk; rw [pairs_odd hodd])
  have heven : l.length % 2 = 0 := by
    have h1 := V.int.inj (of_decide_eq_true hc)
    rw [ofNats_len] at h1
    omega
  have hjo : jumpsOk n l = Uw62.goodJumps n (pairsL l) := by unfold jumpsOk; rw [pairs_even heven]
  rw [hjo, good_split] at k1 k2
  have hpl := pairsL_len l
  refine ⟨_, rfl, F, _, l, rfl, sF, hl, hll, fun v1 F1 H1 g1 hv1 => ?_⟩
  obtain ⟨e, xs, rfl, fe, rxs⟩ := id hv1
  refine ⟨_, rfl, e, rfl, ⟨_, SqL.of (g1.s _ _ fe)⟩, fun D hD => ?_⟩
  refine lc_map (walk_list (K := K) (a := e) (xs := xs)) hD g1.s BlR BlR.mono (fun m => jOk n ((pairsL l).getD m (0, 0))) (by rw [rxs.len]; omega) (fun H' s => SqL.of (s _ _ fe)) ?_ ?_ mg_pair
  · rintro m F' H' x H'' Qy hm gr ⟨rfl, hx⟩ ky
    obtain ⟨j, hj, p, rfl, hp⟩ := rxs.item hx
    have ej : (pairsL l).getD m (0, 0) = j := by rw [List.getD_eq_getElem?_getD, hj]; rfl
    rw [ej] at ky
    refine pair_new (gr.s _ _ (gr.f _ _ hp)) ⟨rfl, if_t rfl ⟨_, rfl, _, _, rfl, rfl, _, rfl, ?_⟩⟩
    have fin : ∀ bb : Bool, bb = jOk n j → Qy (.bl bb) H'' := fun bb e => ky _ F' _ (Gr.refl gr.s) (by rw [e]; rfl)
    unfold jOk at fin
    refine if_b (fun h1 => ?_) (fun h1 => ?_)
    · have h1' : 1 ≤ j.1 := by have := of_decide_eq_true h1; omega
      refine ⟨_, rfl, _, _, rfl, rfl, _, rfl, ?_⟩
      refine if_b (fun h2 => ?_) (fun h2 => ?_)
      · have h2' : j.1 < n := by have := of_decide_eq_true h2; omega
        refine ⟨_, rfl, _, rfl, _, _, rfl, rfl, _, rfl, ?_⟩
        refine if_b (fun h3 => ?_) (fun h3 => ?_)
        · have h3' : j.2 ≤ n := by have := of_decide_eq_true h3; omega
          refine ⟨_, rfl, _, rfl, rfl, fin _ ?_⟩
          rw [decide_eq_true h1', decide_eq_true h2', decide_eq_true h3']
          by_cases h4 : j.1 = j.2
          · rw [h4]; simp
          · have h5 : ¬ V.int (j.2 : Int) = V.int (j.1 : Int) := fun z => h4 (by have := V.int.inj z; omega)
            rw [decide_eq_false h5, decide_eq_true h4]
            rfl
        · have h3' : ¬ j.2 ≤ n := by have := of_decide_eq_false h3; omega
          exact fin _ (by rw [decide_eq_true h1', decide_eq_true h2', decide_eq_false h3']; rfl)
      · have h2' : ¬ j.1 < n := by have := of_decide_eq_false h2; omega
        exact fin _ (by rw [decide_eq_true h1', decide_eq_false h2']; rfl)
    · have h1' : ¬ 1 ≤ j.1 := by have := of_decide_eq_false h1; omega
      exact ⟨_, rfl, if_f rfl (fin _ (by rw [decide_eq_false h1']; rfl))⟩
  intro F2 H2 g2 hbl
  obtain ⟨d2, xs2, e2, f2, r2⟩ := hbl
  cases e2
  rw [bls_L2R r2] at f2
  have eall : (((List.range xs.length).map fun m => jOk n ((pairsL l).getD m (0, 0))).all id) = ((pairsL l).map (jOk n)).all id := by
    rw [rxs.len]
    conv => rhs; rw [← range_getD (0, 0) (pairsL l), List.map_map]
    rfl
  have g02 := g1.trans g2
  refine ⟨D, _, rfl, SqL.of (g2.s _ _ f2), _, _, rfl, fun hc2 => ?_, fun hc2 => ?_⟩
  rotate_left
  · rw [eall] at hc2
    exact fun d H' s' hd => k2 (by rw [hc2]; rfl) d H' (g02.h.trans s') hd
  rw [eall] at hc2
  rw [hc2, Bool.true_and] at k1 k2
  have fe2 := g2.f _ _ fe
  obtain ⟨ps, exs, hps⟩ := prs_dict (K := K) ((rxs.mono PrR.mono g2.f).mono PrR.mono g2.s)
  refine ⟨_, rfl, e, ps, _, rfl, SqL.of (by rw [← exs]; exact g2.s _ _ fe2), hps, fun dd hdd => ?_⟩
  have g3 := g02.mut (o := .dK (mergeK [] (kvsOf (pairsL l)))) hdd
  refine ⟨dd, _, rfl, upd_same, _, rfl, e, _, rfl, .inl (SqL.of (g3.s _ _ fe2)), rfl, _, _, rfl, fun hc3 => ?_, fun hc3 => ?_⟩
  · have h1 := V.int.inj (of_decide_eq_true hc3)
    refine k1 (decide_eq_true ?_) F2 _ g3
    apply Classical.byContradiction
    intro hn
    have := merge_dup (pairsL l) [] (by simp) (by simpa using hn)
    have h2 := rxs.len
    simp only [List.length_nil, Nat.zero_add] at this
    have h3 : (mergeK [] (kvsOf (pairsL l))).length < (pairsL l).length := this
    omega
  · have h1 := of_decide_eq_false hc3
    refine fun d H' s' hd => k2 (decide_eq_false fun hn => h1 ?_) d H' (g3.h.trans s') hd
    rw [merge_all hn, rxs.len]
    simp [kvsOf]
end
end LS

namespace LS
open PySem PySem.Spec PyProof.Rows L2
open Uw62 (Board Frac)
abbrev sDInit : Stmt := inClass (topS 54) 0
abbrev sPut : Stmt := inClass (topS 54) 1
abbrev sWantPlace : Stmt := inClass (topS 54) 2
abbrev sDLands : Stmt := inClass (topS 54) 3
abbrev sWithin : Stmt := inClass (topS 54) 4
abbrev sAtPlace : Stmt := inClass (topS 54) 5
abbrev sMean : Stmt := inClass (topS 54) 6
abbrev sLeast : Stmt := inClass (topS 54) 7
abbrev sVisits : Stmt := inClass (topS 54) 8
abbrev sRaceTold : Stmt := inClass (topS 54) 9
abbrev sJumpsMore : Stmt := inClass (topS 54) 10
abbrev sBetter : Stmt := inClass (topS 54) 11
abbrev sDWithout : Stmt := inClass (topS 54) 12

/-! ### the desk -/
def dF (vb : V) : List (Str × V) := [("own", vb)]
theorem dF_own (vb : V) : (dF vb).lookup ("own" : Str) = some vb := lk0
theorem dF_no (vb : V) {m : Str} (h : (m == ("own" : Str)) = false) : (dF vb).lookup m = none := (lk1 h).trans rfl
/-- a desk at ad, its board known -/
structure Dk (CB CD : Addr) (F H : Hp) (b : Board) (ad dx a dxb pf pj pe : Addr) : Prop where
  s : Same F H
  desk : H ad = some (.ins CD dx (dF (.ref a)))
  nf : F ad = none
  bd : BdAt CB b a dxb pf pj pe F
  g : Good b
/-- a list of whole numbers, as an answer -/
def IsV (l : List Int) (v : V) (F : Hp) : Prop := ∃ a, v = .ref a ∧ F a = some (.lst (l.map V.int))
/-- what a call answers: the list, or (of one number) the refusal -/
structure RetE (CR : Addr) (F H : Hp) (ans : List Int) (Q : VK) (E : XK) : Prop where
  v : Ret F H (IsV ans) Q
  e : ∀ (r : Int) (d : Addr) (H' : Hp), ans = [r] → Same H H' → H' d = some (xdOf r) → E (.ref CR) (some d) H'
def spM1 (CB CD CR : Addr) (mk : Nat → Uw62.Call) : Sp := fun vs H Q E => ∃ (F : Hp) (b : Board) (ad dx a dxb pf pj pe : Addr) (p : Nat), vs = [.ref ad, .int (p : Int)] ∧ Dk CB CD F H b ad dx a dxb pf pj pe ∧ RetE CR F H (Uw62.step b (mk p)).2 Q E
def spM2 (CB CD CR : Addr) (mk : Nat → Nat → Uw62.Call) : Sp := fun vs H Q E => ∃ (F : Hp) (b : Board) (ad dx a dxb pf pj pe : Addr) (p q : Nat), vs = [.ref ad, .int (p : Int), .int (q : Int)] ∧ Dk CB CD F H b ad dx a dxb pf pj pe ∧ RetE CR F H (Uw62.step b (mk p q)).2 Q E
def spM0 (CB CD CR : Addr) (c : Uw62.Call) : Sp := fun vs H Q E => ∃ (F : Hp) (b : Board) (ad dx a dxb pf pj pe : Addr), vs = [.ref ad] ∧ Dk CB CD F H b ad dx a dxb pf pj pe ∧ RetE CR F H (Uw62.step b c).2 Q E
theorem Dk.next {CB CD : Addr} {F H F' H' : Hp} {b : Board} {ad dx a dxb pf pj pe : Addr} (k : Dk CB CD F H b ad dx a dxb pf pj pe) (gr : Gr F H F' H') : Dk CB CD F' H' b ad dx a dxb pf pj pe := ⟨gr.s, gr.h _ _ k.desk, gr.none k.desk k.nf, k.bd.mono gr.f, k.g⟩
theorem Dk.bdv {CB CD : Addr} {F H : Hp} {b : Board} {ad dx a dxb pf pj pe : Addr} (k : Dk CB CD F H b ad dx a dxb pf pj pe) : BdV CB b (.ref a) F := ⟨a, dxb, pf, pj, pe, rfl, k.bd⟩
theorem Dk.bh {CB CD : Addr} {F H : Hp} {b : Board} {ad dx a dxb pf pj pe : Addr} (k : Dk CB CD F H b ad dx a dxb pf pj pe) : BdAt CB b a dxb pf pj pe H := k.bd.mono k.s
section
variable {P : Program} {w : World} {K : PySem.W.Frag} {mg : Str → Option Value} {base : Heap} {CB CD CR aN aO aM fI : Addr}
/-- [0] + list(a fraction) -/
theorem out_frac {F H F1 H1 : Hp} {t0 : Addr} {v : V} {q : Frac} {Q : VK} {ans : List Int} (gr : Gr F H F1 H1) (ht : H1 t0 = some (.lst [.int 0])) (hv : FrV K q v F1) (ha : ans = 0 :: Uw62.fracOut q) (k : Ret F H (IsV ans) Q) :
    ∃ p ys, [v] = [V.ref p] ∧ (SqL K H1 p ys ∨ SqT K H1 p ys) ∧ ∀ l, H1 l = none → rCat (.ref t0) (.ref l) (upd H1 l (.lst ys)) Q := by
  obtain ⟨p, rfl, hp⟩ := hv
  refine ⟨p, _, rfl, .inr (same_T gr.s hp), fun l hl => ?_⟩
  have g1 := gr.mut (o := .lst [.int q.u, .int (q.l : Int)]) hl
  refine ⟨t0, l, _, _, rfl, rfl, by rw [upd_ne (ne_of_none ht hl)]; exact ht, upd_same, (by show 3 ≤ sizeLine; decide), fun r hr => ?_⟩
  exact k _ _ _ (g1.new hr) ⟨r, rfl, by rw [upd_same, ha]; rfl⟩

/-! ### Desk.want_place -/
def spWantPlace (CB CD CR : Addr) : Sp := fun vs H Q E => ∃ (F : Hp) (b : Board) (ad dx a dxb pf pj pe : Addr) (p : Nat), vs = [.ref ad, .int (p : Int)] ∧ Dk CB CD F H b ad dx a dxb pf pj pe ∧ (p ≤ b.n → Q .non H) ∧ (¬ p ≤ b.n → ∀ d H', Same H H' → H' d = some (xdOf (-5)) → E (.ref CR) (some d) H')
theorem scWantPlace : FnScope ["self", "p"] ["self", "p"] (defScope sWantPlace) := ⟨rfl, rfl, rfl, by decide +kernel, rfl, by decide +kernel, by decide +kernel⟩
theorem ok_wantPlace {f : Addr} {fd : FuncData} (F : Fun K "want_place" "Desk.want_place" sWantPlace f fd) (T : Txt K mg CB CD CR aN aO aM) (G1 : wantG P w K mg base CR) : FnOk P w K mg base (L2.CX P w) 4 f fd ["self", "p"] (spWantPlace CB CD CR) := by
  refine F.okX scWantPlace (fun vs H Q E h => ?_) (fun cdv A outer s H vs Q E hr h => ?_)
  · obtain ⟨F, b, ad, dx, a, dxb, pf, pj, pe, p, rfl, _⟩ := h
    rfl
  have PW : Passes (L2.CX P w) (cxOf (L2.CX P w) P w K mg base ["self", "p"] "Desk.want_place" (defScope sWantPlace) f cdv A outer s H E) E := passes_call (takes_of rfl rfl rfl rfl) (fun _ _ _ _ h => h)
  refine ⟨_, pss_one (ps_expr (pe_fn G1 hr PW (pa_cons (pe_cmpR op_le (pv 1) (pe_fld (pe_fld (pv 0) rfl) rfl) (nomark _)) (pa_cons (pe_gint T.g_NO_PLACE) pa_nil)))), ?_⟩
  obtain ⟨F, b, ad, dx, a, dxb, pf, pj, pe, p, rfl, D, k1, k2⟩ := h
  refine ⟨_, rfl, _, rfl, ad, CD, dx, _, _, rfl, D.desk, T.clD, T.d_own, dF_own _, a, CB, dxb, _, _, rfl, D.bh.obj, T.clB, T.b_end, bF_end b pf pj pe, _, _, rfl, rfl, _, _, rfl, fun hc => ?_, fun hc => ?_⟩
  · exact k1 (by have := of_decide_eq_true hc; omega)
  · exact k2 (by have := of_decide_eq_false hc; omega)
abbrev wantPG (P : Program) (w : World) (K : PySem.W.Frag) (mg : Str → Option Value) (base : Heap) (CB CD CR : Addr) : Prop := MtG P w K mg base (L2.CX P w) 4 CD "want_place" ["self", "p"] (spWantPlace CB CD CR)

/-! ### Desk.lands -/
theorem scDLands : FnScope ["self", "p", "f"] ["self", "p", "f"] (defScope sDLands) := ⟨rfl, rfl, rfl, by decide +kernel, rfl, by decide +kernel, by decide +kernel⟩
theorem ok_dlands {f : Addr} {fd : FuncData} (F : Fun K "lands" "Desk.lands" sDLands f fd) (T : Txt K mg CB CD CR aN aO aM) (G1 : wantG P w K mg base CR) (G2 : MtG P w K mg base CX0 2 CB "lands" ["self", "place", "face"] (spBLands CB)) : FnOk P w K mg base (L2.CX P w) 4 f fd ["self", "p", "f"] (spM2 CB CD CR .lands) := by
  refine F.okX scDLands (fun vs H Q E h => ?_) (fun cdv A outer s H vs Q E hr h => ?_)
  · obtain ⟨F, b, ad, dx, a, dxb, pf, pj, pe, p, q, rfl, _⟩ := h
    rfl
  have PW : Passes (L2.CX P w) (cxOf (L2.CX P w) P w K mg base ["self", "p", "f"] "Desk.lands" (defScope sDLands) f cdv A outer s H E) E := passes_call (takes_of rfl rfl rfl rfl) (fun _ _ _ _ h => h)
  refine ⟨_, pss_cons (ps_expr (pe_fn G1 hr PW (pa_cons (pe_cmpR op_lt (pv 1) (pe_fld (pe_fld (pv 0) rfl) rfl) (nomark _)) (pa_cons (pe_gint T.g_NO_PLACE) pa_nil))))
    (pss_cons (ps_expr (pe_fn G1 hr PW (pa_cons (pe_cmpR op_le (pv 2) (pe_gint T.g_MOST_FACE) (nomark _)) (pa_cons (pe_gint T.g_NOT_SO) pa_nil))))
    (pss_one (ps_ret (pe_lst (pa_cons (pe_mt T.clB G2 hr pass0 (pe_fld (pv 0) rfl) (pa_cons (pv 1) (pa_cons (pv 2) pa_nil))) pa_nil))))), ?_⟩
  obtain ⟨F, b, ad, dx, a, dxb, pf, pj, pe, p, q, rfl, D, k⟩ := h
  have ea : (Uw62.step b (.lands p q)).2 = if b.n ≤ p then [-5] else if 12 < q then [-1] else [((Uw62.lands b p q : Nat) : Int)] := rfl
  rw [ea] at k
  refine ⟨_, rfl, _, rfl, ad, CD, dx, _, _, rfl, D.desk, T.clD, T.d_own, dF_own _, a, CB, dxb, _, _, rfl, D.bh.obj, T.clB, T.b_end, bF_end b pf pj pe, _, _, rfl, rfl, _, _, rfl, fun hc => ?_, fun hc d H' s' hd => ?_⟩
  rotate_left
  · exact k.e (-5) d H' (by rw [if_pos (by have := of_decide_eq_false hc; omega)]) s' hd
  have hp : p < b.n := by have := of_decide_eq_true hc; omega
  rw [if_neg (by omega)] at k
  refine ⟨_, rfl, _, _, rfl, rfl, _, _, rfl, fun hc => ?_, fun hc d H' s' hd => ?_⟩
  rotate_left
  · exact k.e (-1) d H' (by rw [if_pos (by have := of_decide_eq_false hc; omega)]) s' hd
  rw [if_neg (by have := of_decide_eq_true hc; omega)] at k
  refine ⟨_, rfl, ad, CD, dx, _, _, rfl, D.desk, T.clD, T.d_own, dF_own _, a, dxb, _, rfl, D.bh.obj, bF_no b pf pj pe (by decide +kernel), _, rfl, _, rfl, _, b, p, q, rfl, ⟨a, dxb, pf, pj, pe, rfl, D.bh⟩, D.g, hp, ?_⟩
  exact ⟨(by show 1 ≤ sizeLine; decide), fun l hl => k.v _ _ _ ((Gr.refl D.s).new hl) ⟨l, rfl, by rw [upd_same]; rfl⟩⟩

/-! ### Desk.within, at_place -/
theorem scWithin : FnScope ["self", "t"] ["self", "t"] (defScope sWithin) := ⟨rfl, rfl, rfl, by decide +kernel, rfl, by decide +kernel, by decide +kernel⟩
abbrev chanceAtG (P : Program) (w : World) (K : PySem.W.Frag) (mg : Str → Option Value) (base : Heap) (CB : Addr) : Prop := FnG P w K mg base CX0 6 "chance_at" ["board", "throws", "place"] (spChanceAt K CB)
theorem ok_within {f : Addr} {fd : FuncData} (F : Fun K "within" "Desk.within" sWithin f fd) (T : Txt K mg CB CD CR aN aO aM) (G1 : wantG P w K mg base CR) (G2 : chanceAtG P w K mg base CB) : FnOk P w K mg base (L2.CX P w) 7 f fd ["self", "t"] (spM1 CB CD CR .within) := by
  refine F.okX scWithin (fun vs H Q E h => ?_) (fun cdv A outer s H vs Q E hr h => ?_)
  · obtain ⟨F, b, ad, dx, a, dxb, pf, pj, pe, p, rfl, _⟩ := h
    rfl
  have PW : Passes (L2.CX P w) (cxOf (L2.CX P w) P w K mg base ["self", "t"] "Desk.within" (defScope sWithin) f cdv A outer s H E) E := passes_call (takes_of rfl rfl rfl rfl) (fun _ _ _ _ h => h)
  refine ⟨_, pss_cons (ps_expr (pe_fn G1 hr PW (pa_cons (pe_cmpR op_le (pv 1) (pe_gint T.g_MOST_THROWS) (nomark _)) (pa_cons (pe_gint T.g_NOT_SO) pa_nil))))
    (pss_one (ps_ret (pe_op op_cat (pe_lst (pa_cons pe_int pa_nil)) (pe_callTy call_list_of (by rfl) T.n_list (by decide +kernel) (pa_cons (pe_fn G2 hr pass0 (pa_cons (pe_fld (pv 0) rfl) (pa_cons (pv 1) (pa_cons (pe_fld (pe_fld (pv 0) rfl) rfl) pa_nil)))) pa_nil))))), ?_⟩
  obtain ⟨F, b, ad, dx, a, dxb, pf, pj, pe, p, rfl, D, k⟩ := h
  have ea : (Uw62.step b (.within p)).2 = if 20 < p then [-1] else 0 :: Uw62.fracOut (Uw62.within b p) := rfl
  rw [ea] at k
  refine ⟨_, rfl, _, _, rfl, rfl, _, _, rfl, fun hc => ?_, fun hc d H' s' hd => ?_⟩
  rotate_left
  · exact k.e (-1) d H' (by rw [if_pos (by have := of_decide_eq_false hc; omega)]) s' hd
  have hp : p ≤ 20 := by have := of_decide_eq_true hc; omega
  rw [if_neg (by omega)] at k
  refine ⟨(by show 1 ≤ sizeLine; decide), fun t0 ht0 => ?_⟩
  have g0 := (Gr.refl D.s).mut (o := .lst [.int 0]) ht0
  have D1 := D.next g0
  refine ⟨_, rfl, ad, CD, dx, _, _, rfl, D1.desk, T.clD, T.d_own, dF_own _, _, rfl, _, rfl, ad, CD, dx, _, _, rfl, D1.desk, T.clD, T.d_own, dF_own _, a, CB, dxb, _, _, rfl, D1.bh.obj, T.clB, T.b_end, bF_end b pf pj pe, ?_⟩
  refine ⟨F, _, b, p, b.n, rfl, D1.s, D1.bdv, D.g, hp, Nat.le_refl _, fun v1 F1 H1 g1 hv1 => ?_⟩
  exact out_frac (g0.trans g1) (g1.h _ _ upd_same) hv1 rfl k.v
theorem scAtPlace : FnScope ["self", "t", "p"] ["self", "t", "p"] (defScope sAtPlace) := ⟨rfl, rfl, rfl, by decide +kernel, rfl, by decide +kernel, by decide +kernel⟩
theorem ok_atPlace {f : Addr} {fd : FuncData} (F : Fun K "at_place" "Desk.at_place" sAtPlace f fd) (T : Txt K mg CB CD CR aN aO aM) (G1 : wantG P w K mg base CR) (G2 : chanceAtG P w K mg base CB) (G3 : wantPG P w K mg base CB CD CR) : FnOk P w K mg base (L2.CX P w) 7 f fd ["self", "t", "p"] (spM2 CB CD CR .at_) := by
  refine F.okX scAtPlace (fun vs H Q E h => ?_) (fun cdv A outer s H vs Q E hr h => ?_)
  · obtain ⟨F, b, ad, dx, a, dxb, pf, pj, pe, t, p, rfl, _⟩ := h
    rfl
  have PW : Passes (L2.CX P w) (cxOf (L2.CX P w) P w K mg base ["self", "t", "p"] "Desk.at_place" (defScope sAtPlace) f cdv A outer s H E) E := passes_call (takes_of rfl rfl rfl rfl) (fun _ _ _ _ h => h)
  refine ⟨_, pss_cons (ps_expr (pe_fn G1 hr PW (pa_cons (pe_cmpR op_le (pv 1) (pe_gint T.g_MOST_THROWS) (nomark _)) (pa_cons (pe_gint T.g_NOT_SO) pa_nil))))
    (pss_cons (ps_expr (pe_mt T.clD G3 hr PW (pv 0) (pa_cons (pv 2) pa_nil)))
    (pss_one (ps_ret (pe_op op_cat (pe_lst (pa_cons pe_int pa_nil)) (pe_callTy call_list_of (by rfl) T.n_list (by decide +kernel) (pa_cons (pe_fn G2 hr pass0 (pa_cons (pe_fld (pv 0) rfl) (pa_cons (pv 1) (pa_cons (pv 2) pa_nil)))) pa_nil)))))), ?_⟩
  obtain ⟨F, b, ad, dx, a, dxb, pf, pj, pe, t, p, rfl, D, k⟩ := h
  have ea : (Uw62.step b (.at_ t p)).2 = if 20 < t then [-1] else if b.n < p then [-5] else 0 :: Uw62.fracOut (Uw62.chance b t p) := rfl
  rw [ea] at k
  refine ⟨_, rfl, _, _, rfl, rfl, _, _, rfl, fun hc => ?_, fun hc d H' s' hd => ?_⟩
  rotate_left
  · exact k.e (-1) d H' (by rw [if_pos (by have := of_decide_eq_false hc; omega)]) s' hd
  have ht : t ≤ 20 := by have := of_decide_eq_true hc; omega
  rw [if_neg (by omega)] at k
  refine ⟨_, rfl, ad, dx, _, rfl, D.desk, dF_no _ (by decide +kernel), _, rfl, F, b, ad, dx, a, dxb, pf, pj, pe, p, rfl, D, fun hp => ?_, fun hp d H' s' hd => ?_⟩
  rotate_left
  · exact k.e (-5) d H' (by rw [if_pos (by omega)]) s' hd
  rw [if_neg (by omega)] at k
  refine ⟨(by show 1 ≤ sizeLine; decide), fun t0 ht0 => ?_⟩
  have g0 := (Gr.refl D.s).mut (o := .lst [.int 0]) ht0
  have D1 := D.next g0
  refine ⟨_, rfl, ad, CD, dx, _, _, rfl, D1.desk, T.clD, T.d_own, dF_own _, _, rfl, _, rfl, ?_⟩
  refine ⟨F, _, b, t, p, rfl, D1.s, D1.bdv, D.g, ht, hp, fun v1 F1 H1 g1 hv1 => ?_⟩
  exact out_frac (g0.trans g1) (g1.h _ _ upd_same) hv1 rfl k.v

/-! ### Desk.mean, least, visits -/
theorem scMean : FnScope ["self", "p"] ["self", "p"] (defScope sMean) := ⟨rfl, rfl, rfl, by decide +kernel, rfl, by decide +kernel, by decide +kernel⟩
abbrev isSureG (P : Program) (w : World) (K : PySem.W.Frag) (mg : Str → Option Value) (base : Heap) (CB : Addr) : Prop := MtG P w K mg base CX0 5 CB "is_sure" ["self", "place"] (spIsSure CB)
abbrev meanG (P : Program) (w : World) (K : PySem.W.Frag) (mg : Str → Option Value) (base : Heap) (CB : Addr) : Prop := FnG P w K mg base CX0 8 "mean_from" ["board", "place"] (spMean K CB)
theorem visits_none {b : Board} {p : Nat} (h : Uw62.sure b 0 = false) : Uw62.visitsOf b p = none := by
  unfold Uw62.visitsOf
  rw [if_pos h]
theorem ok_mean {f : Addr} {fd : FuncData} (F : Fun K "mean" "Desk.mean" sMean f fd) (T : Txt K mg CB CD CR aN aO aM) (G1 : wantG P w K mg base CR) (G2 : wantPG P w K mg base CB CD CR) (G3 : isSureG P w K mg base CB) (G4 : meanG P w K mg base CB) : FnOk P w K mg base (L2.CX P w) 9 f fd ["self", "p"] (spM1 CB CD CR .mean) := by
  refine F.okX scMean (fun vs H Q E h => ?_) (fun cdv A outer s H vs Q E hr h => ?_)
  · obtain ⟨F, b, ad, dx, a, dxb, pf, pj, pe, p, rfl, _⟩ := h
    rfl
  have PW : Passes (L2.CX P w) (cxOf (L2.CX P w) P w K mg base ["self", "p"] "Desk.mean" (defScope sMean) f cdv A outer s H E) E := passes_call (takes_of rfl rfl rfl rfl) (fun _ _ _ _ h => h)
  refine ⟨_, pss_cons (ps_expr (pe_mt T.clD G2 hr PW (pv 0) (pa_cons (pv 1) pa_nil)))
    (pss_cons (ps_expr (pe_fn G1 hr PW (pa_cons (pe_mt T.clB G3 hr pass0 (pe_fld (pv 0) rfl) (pa_cons (pv 1) pa_nil)) (pa_cons (pe_gint T.g_NOT_SURE) pa_nil))))
    (pss_one (ps_ret (pe_op op_cat (pe_lst (pa_cons pe_int pa_nil)) (pe_callTy call_list_of (by rfl) T.n_list (by decide +kernel) (pa_cons (pe_fn G4 hr pass0 (pa_cons (pe_fld (pv 0) rfl) (pa_cons (pv 1) pa_nil))) pa_nil)))))), ?_⟩
  obtain ⟨F, b, ad, dx, a, dxb, pf, pj, pe, p, rfl, D, k⟩ := h
  have ea : (Uw62.step b (.mean p)).2 = if b.n < p then [-5] else Uw62.orElse (Uw62.meanOf b p) (-6) := rfl
  rw [ea] at k
  refine ⟨_, rfl, ad, dx, _, rfl, D.desk, dF_no _ (by decide +kernel), _, rfl, F, b, ad, dx, a, dxb, pf, pj, pe, p, rfl, D, fun hp => ?_, fun hp d H' s' hd => ?_⟩
  rotate_left
  · exact k.e (-5) d H' (by rw [if_pos (by omega)]) s' hd
  rw [if_neg (by omega)] at k
  refine ⟨_, rfl, ad, CD, dx, _, _, rfl, D.desk, T.clD, T.d_own, dF_own _, a, dxb, _, rfl, D.bh.obj, bF_no b pf pj pe (by decide +kernel), _, rfl, F, _, b, p, rfl, D.s, D.bdv, D.g, hp, fun v1 F1 H1 g1 hv1 => ?_⟩
  subst hv1
  have D1 := D.next g1
  refine ⟨_, _, rfl, fun hc => ?_, fun hc d H' s' hd => ?_⟩
  rotate_left
  · exact k.e (-6) d H' (by rw [sure_mean D.g hc]; rfl) (g1.h.trans s') hd
  refine ⟨(by show 1 ≤ sizeLine; decide), fun t0 ht0 => ?_⟩
  have g0 := g1.mut (o := .lst [.int 0]) ht0
  have D2 := D.next g0
  refine ⟨_, rfl, ad, CD, dx, _, _, rfl, D2.desk, T.clD, T.d_own, dF_own _, _, rfl, ?_⟩
  refine ⟨F1, _, b, p, rfl, D2.s, D2.bdv, D.g, hp, hc, fun v2 F2 H2 g2 hv2 => ?_⟩
  obtain ⟨m, hm, _, hv2⟩ := hv2
  exact out_frac (g0.trans g2) (g2.h _ _ upd_same) hv2 (by rw [hm]; rfl) k.v
theorem scLeast : FnScope ["self", "p"] ["self", "p"] (defScope sLeast) := ⟨rfl, rfl, rfl, by decide +kernel, rfl, by decide +kernel, by decide +kernel⟩
theorem ok_least {f : Addr} {fd : FuncData} (F : Fun K "least" "Desk.least" sLeast f fd) (T : Txt K mg CB CD CR aN aO aM) (G1 : wantG P w K mg base CR) (G2 : wantPG P w K mg base CB CD CR) (G3 : MtG P w K mg base CX0 4 CB "come_to" ["self", "place"] (spComeTo CB)) (G4 : FnG P w K mg base CX0 5 "least_throws" ["board", "place"] (spLeastThrows CB)) : FnOk P w K mg base (L2.CX P w) 9 f fd ["self", "p"] (spM1 CB CD CR .least) := by
  refine F.okX scLeast (fun vs H Q E h => ?_) (fun cdv A outer s H vs Q E hr h => ?_)
  · obtain ⟨F, b, ad, dx, a, dxb, pf, pj, pe, p, rfl, _⟩ := h
    rfl
  have PW : Passes (L2.CX P w) (cxOf (L2.CX P w) P w K mg base ["self", "p"] "Desk.least" (defScope sLeast) f cdv A outer s H E) E := passes_call (takes_of rfl rfl rfl rfl) (fun _ _ _ _ h => h)
  refine ⟨_, pss_cons (ps_expr (pe_mt T.clD G2 hr PW (pv 0) (pa_cons (pv 1) pa_nil)))
    (pss_cons (ps_expr (pe_fn G1 hr PW (pa_cons (pe_cmpR op_in_seq (pe_fld (pe_fld (pv 0) rfl) rfl) (pe_mt T.clB G3 hr pass0 (pe_fld (pv 0) rfl) (pa_cons (pv 1) pa_nil)) (by rfl)) (pa_cons (pe_gint T.g_NEVER) pa_nil))))
    (pss_one (ps_ret (pe_callTy call_list_of (by rfl) T.n_list (by decide +kernel) (pa_cons (pe_fn G4 hr pass0 (pa_cons (pe_fld (pv 0) rfl) (pa_cons (pv 1) pa_nil))) pa_nil))))), ?_⟩
  obtain ⟨F, b, ad, dx, a, dxb, pf, pj, pe, p, rfl, D, k⟩ := h
  have ea : (Uw62.step b (.least p)).2 = if b.n < p then [-5] else match Uw62.least b p with
    | none => [-7]
    | some x => Uw62.ints [x.1, x.2] := rfl
  rw [ea] at k
  refine ⟨_, rfl, ad, dx, _, rfl, D.desk, dF_no _ (by decide +kernel), _, rfl, F, b, ad, dx, a, dxb, pf, pj, pe, p, rfl, D, fun hp => ?_, fun hp d H' s' hd => ?_⟩
  rotate_left
  · exact k.e (-5) d H' (by rw [if_pos (by omega)]) s' hd
  rw [if_neg (by omega)] at k
  refine ⟨_, rfl, ad, CD, dx, _, _, rfl, D.desk, T.clD, T.d_own, dF_own _, a, CB, dxb, _, _, rfl, D.bh.obj, T.clB, T.b_end, bF_end b pf pj pe, ?_⟩
  refine ⟨_, rfl, ad, CD, dx, _, _, rfl, D.desk, T.clD, T.d_own, dF_own _, a, dxb, _, rfl, D.bh.obj, bF_no b pf pj pe (by decide +kernel), _, rfl, F, _, b, p, rfl, D.s, D.bdv, D.g, hp, fun v1 F1 H1 g1 hv1 => ?_⟩
  obtain ⟨c, rfl, fc⟩ := hv1.at
  have D1 := D.next g1
  refine ⟨c, _, rfl, .inl (SqL.of (g1.s _ _ fc)), rfl, flat_ints _, _, _, rfl, fun hc => ?_, fun hc d H' s' hd => ?_⟩
  rotate_left
  · rw [if_neg (by decide), inV_nats] at hc
    exact k.e (-7) d H' (by rw [least_no D.g hp (by simpa using hc)]) (g1.h.trans s') hd
  rw [if_neg (by decide), inV_nats] at hc
  refine ⟨_, rfl, ad, CD, dx, _, _, rfl, D1.desk, T.clD, T.d_own, dF_own _, _, rfl, ?_⟩
  refine ⟨F1, _, b, p, rfl, D1.s, D1.bdv, D.g, hp, by simpa using hc, fun v2 F2 H2 g2 hv2 => ?_⟩
  obtain ⟨t, m, q, hl, rfl, hq⟩ := hv2
  rw [hl] at k
  refine ⟨q, _, rfl, .inr (SqT.of (g2.s _ _ hq)), fun l hl => ?_⟩
  exact k.v _ _ _ ((g1.trans g2).new hl) ⟨l, rfl, by rw [upd_same]; rfl⟩
theorem scVisits : FnScope ["self", "p"] ["self", "p"] (defScope sVisits) := ⟨rfl, rfl, rfl, by decide +kernel, rfl, by decide +kernel, by decide +kernel⟩
theorem ok_visits {f : Addr} {fd : FuncData} (F : Fun K "visits" "Desk.visits" sVisits f fd) (T : Txt K mg CB CD CR aN aO aM) (G1 : wantG P w K mg base CR) (G2 : wantPG P w K mg base CB CD CR) (G3 : isSureG P w K mg base CB) (G4 : FnG P w K mg base CX0 8 "visits_at" ["board", "place"] (spVisits K CB)) : FnOk P w K mg base (L2.CX P w) 9 f fd ["self", "p"] (spM1 CB CD CR .visits) := by
  refine F.okX scVisits (fun vs H Q E h => ?_) (fun cdv A outer s H vs Q E hr h => ?_)
  · obtain ⟨F, b, ad, dx, a, dxb, pf, pj, pe, p, rfl, _⟩ := h
    rfl
  have PW : Passes (L2.CX P w) (cxOf (L2.CX P w) P w K mg base ["self", "p"] "Desk.visits" (defScope sVisits) f cdv A outer s H E) E := passes_call (takes_of rfl rfl rfl rfl) (fun _ _ _ _ h => h)
  refine ⟨_, pss_cons (ps_expr (pe_mt T.clD G2 hr PW (pv 0) (pa_cons (pv 1) pa_nil)))
    (pss_cons (ps_expr (pe_fn G1 hr PW (pa_cons (pe_mt T.clB G3 hr pass0 (pe_fld (pv 0) rfl) (pa_cons pe_int pa_nil)) (pa_cons (pe_gint T.g_NOT_SURE) pa_nil))))
    (pss_one (ps_ret (pe_op op_cat (pe_lst (pa_cons pe_int pa_nil)) (pe_callTy call_list_of (by rfl) T.n_list (by decide +kernel) (pa_cons (pe_fn G4 hr pass0 (pa_cons (pe_fld (pv 0) rfl) (pa_cons (pv 1) pa_nil))) pa_nil)))))), ?_⟩
  obtain ⟨F, b, ad, dx, a, dxb, pf, pj, pe, p, rfl, D, k⟩ := h
  have ea : (Uw62.step b (.visits p)).2 = if b.n < p then [-5] else Uw62.orElse (Uw62.visitsOf b p) (-6) := rfl
  rw [ea] at k
  refine ⟨_, rfl, ad, dx, _, rfl, D.desk, dF_no _ (by decide +kernel), _, rfl, F, b, ad, dx, a, dxb, pf, pj, pe, p, rfl, D, fun hp => ?_, fun hp d H' s' hd => ?_⟩
  rotate_left
  · exact k.e (-5) d H' (by rw [if_pos (by omega)]) s' hd
  rw [if_neg (by omega)] at k
  refine ⟨_, rfl, ad, CD, dx, _, _, rfl, D.desk, T.clD, T.d_own, dF_own _, a, dxb, _, rfl, D.bh.obj, bF_no b pf pj pe (by decide +kernel), F, _, b, 0, rfl, D.s, D.bdv, D.g, Nat.zero_le _, fun v1 F1 H1 g1 hv1 => ?_⟩
  subst hv1
  have D1 := D.next g1
  refine ⟨_, _, rfl, fun hc => ?_, fun hc d H' s' hd => ?_⟩
  rotate_left
  · exact k.e (-6) d H' (by rw [visits_none hc]; rfl) (g1.h.trans s') hd
  refine ⟨(by show 1 ≤ sizeLine; decide), fun t0 ht0 => ?_⟩
  have g0 := g1.mut (o := .lst [.int 0]) ht0
  have D2 := D.next g0
  refine ⟨_, rfl, ad, CD, dx, _, _, rfl, D2.desk, T.clD, T.d_own, dF_own _, _, rfl, ?_⟩
  refine ⟨F1, _, b, p, rfl, D2.s, D2.bdv, D.g, hc, fun v2 F2 H2 g2 hv2 => ?_⟩
  obtain ⟨m, hm, hv2⟩ := hv2
  exact out_frac (g0.trans g2) (g2.h _ _ upd_same) hv2 (by rw [hm]; rfl) k.v
end
end LS

namespace LS
open PySem PySem.Spec PyProof.Rows L2
open Uw62 (Board Frac)
section
variable {P : Program} {w : World} {K : PySem.W.Frag} {mg : Str → Option Value} {base : Heap} {CB CD CR aN aO aM fI : Addr}

/-! ### Desk.race_told -/
def raceL (b : Board) (p : Nat) : List V := [V.int 0, V.int (Uw62.race b p).1.u, V.int ((Uw62.race b p).1.l : Int), V.int (Uw62.race b p).2.1.u, V.int ((Uw62.race b p).2.1.l : Int), V.int (Uw62.race b p).2.2.u, V.int ((Uw62.race b p).2.2.l : Int)]
theorem scRaceTold : FnScope ["self", "t", "found", "one"] ["self", "t"] (defScope sRaceTold) := ⟨rfl, rfl, rfl, by decide +kernel, rfl, by decide +kernel, by decide +kernel⟩
theorem ok_raceTold {f : Addr} {fd : FuncData} (F : Fun K "race_told" "Desk.race_told" sRaceTold f fd) (T : Txt K mg CB CD CR aN aO aM) (G1 : wantG P w K mg base CR) (G2 : FnG P w K mg base CX0 7 "race" ["board", "rounds"] (spRace K CB)) : FnOk P w K mg base (L2.CX P w) 9 f fd ["self", "t"] (spM1 CB CD CR .race) := by
  refine F.okX scRaceTold (fun vs H Q E h => ?_) (fun cdv A outer s H vs Q E hr h => ?_)
  · obtain ⟨F, b, ad, dx, a, dxb, pf, pj, pe, p, rfl, _⟩ := h
    rfl
  have PW : Passes (L2.CX P w) (cxOf (L2.CX P w) P w K mg base ["self", "t", "found", "one"] "Desk.race_told" (defScope sRaceTold) f cdv A outer s H E) E := passes_call (takes_of rfl rfl rfl rfl) (fun _ _ _ _ h => h)
  refine ⟨_, pss_cons (ps_expr (pe_fn G1 hr PW (pa_cons (pe_cmpR op_le (pv 1) (pe_gint T.g_MOST_ROUNDS) (nomark _)) (pa_cons (pe_gint T.g_NOT_SO) pa_nil))))
    (pss_cons (ps_set (i := 2) scRaceTold.nd rfl (Or.inl rfl) (pe_lst (pa_cons pe_int pa_nil)))
    (pss_cons (ps_for (passes_of rfl) rfl (pi_tup (pe_fn G2 hr pass0 (pa_cons (pe_fld (pv 0) rfl) (pa_cons (pv 1) pa_nil)))) (pg_name (i := 3) scRaceTold.nd rfl (Or.inl rfl))
      (pss_one (ps_expr (pe_bm PySem.F.plainAttrs_list PySem.F.slot_list_extend PySem.F.type_list_extend mt_extT (pv 2) (pa_cons (pv 3) pa_nil)))))
    (pss_one (ps_ret (pv 2))))), ?_⟩
  obtain ⟨F, b, ad, dx, a, dxb, pf, pj, pe, p, rfl, D, k⟩ := h
  have ea : (Uw62.step b (.race p)).2 = if 6 < p then [-1] else 0 :: (Uw62.fracOut (Uw62.race b p).1 ++ (Uw62.fracOut (Uw62.race b p).2.1 ++ Uw62.fracOut (Uw62.race b p).2.2)) := rfl
  rw [ea] at k
  refine ⟨_, rfl, _, _, rfl, rfl, _, _, rfl, fun hc => ?_, fun hc d H' s' hd => ?_⟩
  rotate_left
  · exact k.e (-1) d H' (by rw [if_pos (by have := of_decide_eq_false hc; omega)]) s' hd
  have hp : p ≤ 6 := by have := of_decide_eq_true hc; omega
  rw [if_neg (by omega)] at k
  refine ⟨(by show 1 ≤ sizeLine; decide), fun d hd => ?_⟩
  have g0 := (Gr.refl D.s).mut (o := .lst [.int 0]) hd
  have D1 := D.next g0
  have fd0 : F d = none := D.s.free hd
  refine ⟨_, rfl, ad, CD, dx, _, _, rfl, D1.desk, T.clD, T.d_own, dF_own _, _, rfl, F, _, b, p, rfl, D1.s, D1.bdv, D.g, hp, fun v1 F1 H1 g1 hv1 => ?_⟩
  obtain ⟨q, v1, v2, v3, rfl, hq, ⟨a1, rfl, h1⟩, ⟨a2, rfl, h2⟩, ⟨a3, rfl, h3⟩⟩ := hv1
  have fd1 : F1 d = none := g1.none upd_same fd0
  have hd1 : H1 d = some (.lst [.int 0]) := g1.h _ _ upd_same
  have g01 := g0.trans g1
  refine ⟨q, rfl, ⟨_, SqT.of (g1.s _ _ hq)⟩, for_it (walk_tup (K := K) (a := q) (xs := [.ref a1, .ref a2, .ref a3]))
    (fun i σ H' => ∃ o, Gr F H F1 H' ∧ σ = [some (.ref ad), some (.int (p : Int)), some (.ref d), o] ∧ H' d = some (.lst ((raceL b p).take (1 + 2 * i)))) ?_ ?_ ?_ ?_⟩
  · exact ⟨none, g01, rfl, hd1⟩
  · rintro i σ H' _ ⟨o, gr, _⟩
    exact SqT.of (gr.s _ _ hq)
  · rintro i y σ H' H'' hi ⟨o, gr, rfl, hd'⟩ ⟨rfl, hy⟩
    have step : ∀ (ai : Addr) (u : Int) (l : Int) (xs : List V), H'' d = some (.lst xs) → xs.length ≤ 5 → SqT K F1 ai [.int u, .int l] → y = .ref ai → (raceL b p).take (1 + 2 * (i + 1)) = xs ++ [.int u, .int l] →
        gName 3 y [some (.ref ad), some (.int (p : Int)), some (.ref d), o] H'' fun σ2 H2 => tDrop (tBM K "list" (rExtT K) (tVar 2) (tCons (tVar 3) tNil)) { nx := fun σ H' => ∃ o, Gr F H F1 H' ∧ σ = [some (.ref ad), some (.int (p : Int)), some (.ref d), o] ∧ H' d = some (.lst ((raceL b p).take (1 + 2 * (i + 1)))), rt := Q } σ2 H2 := by
      intro ai u l xs hdx hxl hai hy' hxs
      subst hy'
      refine ⟨_, rfl, .inl ⟨rfl, _, SqL.of hdx⟩, _, rfl, d, ai, xs, _, rfl, rfl, hdx, same_T gr.s hai, Nat.le_of_lt (small_line (by simp; omega)), ?_⟩
      exact ⟨_, gr.set hd fd1, rfl, by rw [upd_same, hxs]⟩
    match i, hi, hy, hd', step with
    | 0, _, hy, hd', step => cases hy; exact step a1 _ _ _ hd' (by simp [raceL]) h1 rfl rfl
    | 1, _, hy, hd', step => cases hy; exact step a2 _ _ _ hd' (by simp [raceL]) h2 rfl rfl
    | 2, _, hy, hd', step => cases hy; exact step a3 _ _ _ hd' (by simp [raceL]) h3 rfl rfl
    | n + 3, hi, _, _, _ => exact absurd hi (by simp)
  · rintro σ H' ⟨o, gr, rfl, hd'⟩
    refine ⟨_, rfl, k.v _ _ _ (gr.know hd hd' fd1) ⟨d, rfl, upd_same⟩⟩

/-! ### Desk.without -/
theorem scDWithout : FnScope ["self", "j", "board"] ["self", "j"] (defScope sDWithout) := ⟨rfl, rfl, rfl, by decide +kernel, rfl, by decide +kernel, by decide +kernel⟩
theorem ok_dwithout {f : Addr} {fd : FuncData} (F : Fun K "without" "Desk.without" sDWithout f fd) (T : Txt K mg CB CD CR aN aO aM) (G1 : wantG P w K mg base CR) (G2 : MtG P w K mg base CX0 3 CB "without_jump" ["self", "number"] (spWithout CB)) (G3 : isSureG P w K mg base CB) (G4 : meanG P w K mg base CB) : FnOk P w K mg base (L2.CX P w) 9 f fd ["self", "j"] (spM1 CB CD CR .without) := by
  refine F.okX scDWithout (fun vs H Q E h => ?_) (fun cdv A outer s H vs Q E hr h => ?_)
  · obtain ⟨F, b, ad, dx, a, dxb, pf, pj, pe, p, rfl, _⟩ := h
    rfl
  have PW : Passes (L2.CX P w) (cxOf (L2.CX P w) P w K mg base ["self", "j", "board"] "Desk.without" (defScope sDWithout) f cdv A outer s H E) E := passes_call (takes_of rfl rfl rfl rfl) (fun _ _ _ _ h => h)
  refine ⟨_, pss_cons (ps_expr (pe_fn G1 hr PW (pa_cons (pe_cmpR op_lt (pv 1) (pe_callB call_len_seq (by rfl) T.n_len (by decide +kernel) (pa_cons (pe_fld (pe_fld (pv 0) rfl) rfl) pa_nil)) (nomark _)) (pa_cons (pe_gint T.g_NO_JUMP) pa_nil))))
    (pss_cons (ps_set (i := 2) scDWithout.nd rfl (Or.inl rfl) (pe_mt T.clB G2 hr pass0 (pe_fld (pv 0) rfl) (pa_cons (pv 1) pa_nil)))
    (pss_cons (ps_expr (pe_fn G1 hr PW (pa_cons (pe_mt T.clB G3 hr pass0 (pv 2) (pa_cons pe_int pa_nil)) (pa_cons (pe_gint T.g_NOT_SURE) pa_nil))))
    (pss_one (ps_ret (pe_op op_cat (pe_lst (pa_cons pe_int pa_nil)) (pe_callTy call_list_of (by rfl) T.n_list (by decide +kernel) (pa_cons (pe_fn G4 hr pass0 (pa_cons (pv 2) (pa_cons pe_int pa_nil))) pa_nil))))))), ?_⟩
  obtain ⟨F, b, ad, dx, a, dxb, pf, pj, pe, p, rfl, D, k⟩ := h
  have ea : (Uw62.step b (.without p)).2 = if b.jumps.length ≤ p then [-9] else Uw62.orElse (Uw62.meanOf (lessJ b p) 0) (-6) := rfl
  rw [ea] at k
  obtain ⟨xs, hxs, rxs⟩ := D.bd.jl
  refine ⟨_, rfl, _, rfl, ad, CD, dx, _, _, rfl, D.desk, T.clD, T.d_own, dF_own _, a, CB, dxb, _, _, rfl, D.bh.obj, T.clB, T.b_jumps, bF_jumps b pf pj pe, pj, xs, rfl, .inl (SqL.of (D.s _ _ hxs)), _, _, rfl, rfl, _, _, rfl, fun hc => ?_, fun hc d H' s' hd => ?_⟩
  rotate_left
  · exact k.e (-9) d H' (by rw [if_pos (by have := of_decide_eq_false hc; have := rxs.len; omega)]) s' hd
  rw [if_neg (by have := of_decide_eq_true hc; have := rxs.len; omega)] at k
  refine ⟨_, rfl, ad, CD, dx, _, _, rfl, D.desk, T.clD, T.d_own, dF_own _, a, dxb, _, rfl, D.bh.obj, bF_no b pf pj pe (by decide +kernel), _, rfl, F, _, b, p, rfl, D.s, D.bdv, D.g, fun v1 F1 H1 g1 hv1 => ?_⟩
  have gc := lessJ_good D.g p
  obtain ⟨c, dxc, qf, qj, qe, rfl, C⟩ := id hv1
  refine ⟨_, rfl, c, dxc, _, rfl, (C.mono g1.s).obj, bF_no _ qf qj qe (by decide +kernel), F1, _, lessJ b p, 0, rfl, g1.s, hv1, gc, Nat.zero_le _, fun v2 F2 H2 g2 hv2 => ?_⟩
  subst hv2
  refine ⟨_, _, rfl, fun hc => ?_, fun hc d H' s' hd => ?_⟩
  rotate_left
  · exact k.e (-6) d H' (by rw [sure_mean gc hc]; rfl) ((g1.trans g2).h.trans s') hd
  refine ⟨(by show 1 ≤ sizeLine; decide), fun t0 ht0 => ?_⟩
  have g0 := (g1.trans g2).mut (o := .lst [.int 0]) ht0
  refine ⟨_, rfl, F2, _, lessJ b p, 0, rfl, g0.s, BdV.mono _ _ _ _ g2.f hv1, gc, Nat.zero_le _, hc, fun v3 F3 H3 g3 hv3 => ?_⟩
  obtain ⟨m, hm, _, hv3⟩ := hv3
  exact out_frac (g0.trans g3) (g3.h _ _ upd_same) hv3 (by rw [hm]; rfl) k.v

/-! ### Desk.__init__ -/
theorem make_boardA {F H : Hp} {b : Board} {vf vj : V} {Q : Addr → Hp → Prop} (sF : Same F H) (hf : NsV b.faces vf F) (hj : PrsV b.jumps vj F) (hd : (b.jumps.map fun j => j.1).Pairwise (· ≠ ·)) (k : ∀ x F' H', Gr F H F' H' → BdV CB b (.ref x) F' → Q x H') :
    ∀ x dx, H x = none → H dx = none → dx ≠ x → spBInit CB (.ref x :: ([.int (b.n : Int), .int (b.rule : Int), vf, vj] ++ [])) (upd (upd H dx (.own x)) x (.ins CB dx [])) (fun v H2 => v = .non ∧ Q x H2) E0 := by
  intro x dx hx hdx hne
  refine ⟨F, x, dx, b, vf, vj, rfl, fun c o e => ?_, upd_same, sF.free hx, hf, hj, hd, fun F' H' k1 k2 k3 k4 hB => ⟨rfl, k x F' H' (gr_made sF hx hdx k1 k2 k3 k4) hB⟩⟩
  have h := sF c o e
  rw [upd_ne (ne_of_none h hx), upd_ne (ne_of_none h hdx)]
  exact h
def spDInit (CB CD : Addr) : Sp := fun vs H Q _ => ∃ (F : Hp) (p dx : Addr), vs = [.ref p] ∧ Same F H ∧ H p = some (.ins CD dx []) ∧ F p = none ∧
  ∀ (F' H' : Hp) (a dxb pf pj pe : Addr), (∀ c o, H c = some o → c ≠ p → H' c = some o) → Same F F' → (∀ c o, F' c = some o → F c = some o ∨ H c = none) → Dk CB CD F' H' Uw62.first p dx a dxb pf pj pe → Q .non H'
theorem scDInit : FnScope ["self"] ["self"] (defScope sDInit) := ⟨rfl, rfl, rfl, by decide +kernel, rfl, by decide +kernel, by decide +kernel⟩
theorem ok_dinit {f : Addr} {fd : FuncData} (F : Fun K "__init__" "Desk.__init__" sDInit f fd) (T : Txt K mg CB CD CR aN aO aM) (G1 : MkG P w K mg base 1 CB psB (spBInit CB)) : FnOk P w K mg base CX0 3 f fd ["self"] (spDInit CB CD) := by
  refine F.ok scDInit (fun vs H Q E h => ?_) (fun cdv A outer s H vs Q E hr h => ?_)
  · obtain ⟨F, p, dx, rfl, _⟩ := h
    rfl
  refine ⟨_, pss_one (ps_fld (pv 0) (pe_mk G1 hr T.gB (pa_cons (pe_gint T.g_LEAST_END) (pa_cons pe_int (pa_cons (pe_lst (pa_cons pe_int pa_nil)) (pa_cons (pe_lst pa_nil) pa_nil))))) rfl), ?_⟩
  obtain ⟨F, p, dx, rfl, sF, hp, fp, k⟩ := h
  refine ⟨(by show 1 ≤ sizeLine; decide), fun t1 ht1 => ?_⟩
  have g1 := (Gr.refl sF).new (o := .lst [.int 1]) ht1
  refine ⟨(by show 0 ≤ sizeLine; decide), fun t2 ht2 => ?_⟩
  have g2 := g1.new (o := .lst []) ht2
  refine make_boardA (CB := CB) (b := Uw62.first) g2.s ?_ ?_ (by simp [Uw62.first]) (fun v F' H' g3 hv => ?_)
  · exact NsV.of (by rw [upd_ne (fun e => by rw [← e, upd_same] at ht2; cases ht2)]; rw [upd_same]; rfl)
  · exact ⟨t2, [], rfl, upd_same, L2R.nil⟩
  have g03 := g2.trans g3
  have fp3 : F' p = none := g03.none hp fp
  obtain ⟨a, dxb, pf, pj, pe, e, B⟩ := hv
  cases e
  refine ⟨_, rfl, p, CD, dx, [], rfl, g03.h _ _ hp, T.clD, T.d_own, (by show 0 < 1000; decide), ?_⟩
  refine k F' _ _ dxb pf pj pe (fun c o hc hcp => ?_) g03.f g03.n ⟨fun c o hc => ?_, by rw [upd_same]; rfl, fp3, B, first_good⟩
  · rw [upd_ne hcp]; exact g03.h _ _ hc
  · rw [upd_ne (ne_of_none hc fp3)]; exact g03.s _ _ hc
end
end LS

namespace LS
open PySem PySem.Spec PyProof.Rows L2
open Uw62 (Board Frac)
section
variable {P : Program} {w : World} {K : PySem.W.Frag} {mg : Str → Option Value} {base : Heap} {CB CD CR aN aO aM fI : Addr}

/-! ### Desk.jumps_more -/
def spJumpsMore (CB CD : Addr) : Sp := fun vs H Q _ => ∃ (F : Hp) (b : Board) (ad dx a dxb pf pj pe : Addr), vs = [.ref ad] ∧ Dk CB CD F H b ad dx a dxb pf pj pe ∧ Ret F H (PrsV (jumpsMore b)) Q
abbrev nJM : List Str := ["self", "end", "found", "begin", "goal", "jump"]
theorem scJumpsMore : FnScope nJM ["self"] (defScope sJumpsMore) := ⟨rfl, rfl, rfl, by decide +kernel, rfl, by decide +kernel, by decide +kernel⟩
theorem candAt_len (b : Board) (p : Nat) : (candAt b p).length ≤ b.n + 1 := by
  unfold candAt
  split
  · simp
  · rw [List.length_map]
    refine Nat.le_trans (List.length_filter_le _ _) ?_
    simp
theorem candTo_len (b : Board) : ∀ i, (candTo b i).length ≤ i * (b.n + 1)
  | 0 => by simp [candTo]
  | i + 1 => by
    have := candTo_len b i
    have h2 := candAt_len b (1 + i)
    rw [candTo_succ, List.length_append, Nat.succ_mul]
    omega
theorem ok_jumpsMore {f : Addr} {fd : FuncData} (F : Fun K "jumps_more" "Desk.jumps_more" sJumpsMore f fd) (T : Txt K mg CB CD CR aN aO aM) (G1 : FnG P w K mg base CX0 1 "has_ring" ["jumps"] spHasRing) : FnOk P w K mg base CX0 2 f fd ["self"] (spJumpsMore CB CD) := by
  refine F.ok scJumpsMore (fun vs H Q E h => ?_) (fun cdv A outer s H vs Q E hr h => ?_)
  · obtain ⟨F, b, ad, dx, a, dxb, pf, pj, pe, rfl, _⟩ := h
    rfl
  refine ⟨_, pss_cons (ps_set (i := 1) scJumpsMore.nd rfl (Or.inl rfl) (pe_fld (pe_fld (pv 0) rfl) rfl)) (pss_cons (ps_set (i := 2) scJumpsMore.nd rfl (Or.inl rfl) (pe_lst pa_nil))
    (pss_cons (ps_for PassesOwn.never rfl (pi_range2 (by rfl) T.n_range (pa_cons pe_int (pa_cons (pv 1) pa_nil))) (pg_name (i := 3) scJumpsMore.nd rfl (Or.inr rfl))
      (pss_one (ps_if (pt_cmp (pc_dnotin (hu_of hr) (pv 3) (pe_fld (pe_fld (pv 0) rfl) rfl)))
        (pss_one (ps_expr (pe_bm PySem.F.plainAttrs_list PySem.F.slot_list_extend PySem.F.type_list_extend mt_extend (pv 2) (pa_cons
          (pe_lc (own := [("goal", 4)]) (g := gName 4) rfl scJumpsMore.nd (pi_range1 (by rfl) T.n_range (pa_cons (pe_op op_add (pv 1) pe_int) pa_nil)) (blkOk_by (own := [("goal", 4)]) (N := nJM) (sc := defScope sJumpsMore) (by decide +kernel))
            (fun _ _ _ _ _ => pg_name (i := 4) scJumpsMore.nd rfl (Or.inl rfl)) (fun _ _ _ _ _ => pts_one (pt_cmpR op_ne (pv 4) (pv 3) (nomark _))) (fun _ _ _ _ _ => pe_tup (pa_cons (pv 3) (pa_cons (pv 4) pa_nil)))) pa_nil)))) pss_nil)))
    (pss_one (ps_ret (pe_lc (own := [("jump", 5)]) (g := gName 5) rfl scJumpsMore.nd (pi_list (pv 2)) (blkOk_by (own := [("jump", 5)]) (N := nJM) (sc := defScope sJumpsMore) (by decide +kernel))
      (fun _ _ _ _ _ => pg_name (i := 5) scJumpsMore.nd rfl (Or.inl rfl))
      (fun _ _ _ _ _ => pts_one (pt_not (pt_val (pe_fn G1 hr pass0 (pa_cons (pe_op op_cat (pe_fldK K (pe_fldK K (pv 0))) (pe_lst (pa_cons (pv 5) pa_nil))) pa_nil))))) (fun _ _ _ _ _ => pv 5)))))), ?_⟩
  obtain ⟨F, b, ad, dx, a, dxb, pf, pj, pe, rfl, D, k⟩ := h
  have n10 := D.g.n10
  have n2 := D.g.n2
  have hjl := jumps_len D.g
  refine ⟨_, rfl, ad, CD, dx, _, _, rfl, D.desk, T.clD, T.d_own, dF_own _, a, CB, dxb, _, _, rfl, D.bh.obj, T.clB, T.b_end, bF_end b pf pj pe, ?_⟩
  refine ⟨(by show 0 ≤ sizeLine; decide), fun d hd => ?_⟩
  have g0 := (Gr.refl D.s).mut (o := .lst []) hd
  have fd0 : F d = none := D.s.free hd
  refine ⟨_, rfl, _, _, rfl, ⟨by omega, by omega, by omega, by omega⟩, ?_⟩
  rw [show ((b.n : Int) - 1).toNat = b.n - 1 by omega]
  refine for_it walk_range (fun i σ H' => i ≤ b.n - 1 ∧ ∃ F' ys o3, Gr F H F' H' ∧ F' d = none ∧ σ = [some (.ref ad), some (.int (b.n : Int)), some (.ref d), o3, none, none] ∧ H' d = some (.lst ys) ∧ L2R PrR F' (candTo b i) ys) ?_ (fun _ _ _ _ _ => trivial) ?_ ?_
  · exact ⟨Nat.zero_le _, F, [], none, g0, fd0, rfl, upd_same, L2R.nil⟩
  · rintro i x σ H' H'' hi ⟨_, F', ys, o3, gr, fd', rfl, hd', rys⟩ ⟨rfl, rfl⟩
    have D1 := D.next gr
    have e1 : (1 : Int) + (i : Int) = ((1 + i : Nat) : Int) := by omega
    refine ⟨_, rfl, _, rfl, ad, CD, dx, _, _, rfl, D1.desk, T.clD, T.d_own, dF_own _, a, CB, dxb, _, _, rfl, D1.bh.obj, T.clB, T.b_ends, bF_ends b pf pj pe, pe, _, rfl, DGet.k (k := Sum.inl (1 + (i : Int))) D1.bh.ends, _, rfl, ?_⟩
    rw [e1, kvs_some]
    have hcs := candTo_succ (b := b) i
    refine if_b (fun hc => ?_) (fun hc => ?_)
    · have hc' : (jAt b.jumps (1 + i)).isSome = false := by simpa using hc
      have hcand : candAt b (1 + i) = givenA (b.n + 1) (fun q => decide (q ≠ 1 + i)) (fun q => (1 + i, q)) := by
        unfold candAt givenA
        rw [jumpAt_jAt, if_neg (by rw [hc']; decide)]
      refine ⟨_, rfl, .inl ⟨rfl, _, SqL.of hd'⟩, _, rfl, _, _, rfl, rfl, _, rfl, by omega, by omega, fun D2 hD2 => ?_⟩
      rw [show ((b.n : Int) + 1).toNat = b.n + 1 by omega]
      refine lc_rep (walk_range (lo := 0) (n := b.n + 1)) hD2 gr.s PrR PrR.mono (fun q => decide (q ≠ 1 + i)) (fun q => (1 + i, q)) (by omega) (fun _ _ => trivial) ?_ ?_
      · rintro q F2 H2 x H3 Qy Qn hq g2 ⟨rfl, rfl⟩ ky kn
        refine ⟨rfl, _, rfl, _, rfl, rfl, _, rfl, ?_⟩
        refine if_b (fun h1 => ?_) (fun h1 => ?_)
        · have h1' : q ≠ 1 + i := fun e => by
            have h2 : decide (V.int (0 + (q : Int)) = V.int (1 + (i : Int))) = false := by simpa using h1
            exact (of_decide_eq_false h2) (by rw [e]; congr 1; omega)
          refine ⟨_, rfl, _, rfl, (by show 2 ≤ sizeLine; decide), fun p hp => ?_⟩
          refine ky (decide_eq_true h1') _ _ _ ((Gr.refl g2.s).new hp) ⟨p, rfl, ?_⟩
          rw [upd_same]
          show some (HO.tup [V.int (1 + (i : Int)), V.int (0 + (q : Int))]) = some (HO.tup [V.int ((1 + i : Nat) : Int), V.int (q : Int)])
          rw [e1, Int.zero_add]
        · have h1' : q = 1 + i := by
            have h2 : decide (V.int (0 + (q : Int)) = V.int (1 + (i : Int))) = true := by simpa using h1
            have := V.int.inj (of_decide_eq_true h2)
            omega
          exact kn (by simp [h1']) F2 _ (Gr.refl g2.s)
      intro F2 H2 g2 hl
      obtain ⟨p2, zs, ez, fz, rz⟩ := hl
      cases ez
      have hd2 := g2.h _ _ hd'
      have fd2 := g2.none hd' fd'
      refine ⟨d, D2, ys, zs, rfl, rfl, hd2, g2.s _ _ fz, ?_, ?_⟩
      · have h1 := rys.len
        have h2 := rz.len
        have h3 := candTo_len b i
        have h4 := givenA_len (b.n + 1) (fun q => decide (q ≠ 1 + i)) (fun q => ((1 + i, q) : Nat × Nat))
        have h5 : i * (b.n + 1) ≤ 9 * 11 := Nat.mul_le_mul (by omega) (by omega)
        exact Nat.le_of_lt (small_line (by omega))
      · refine ⟨by omega, F2, ys ++ zs, _, (gr.trans g2).set hd fd2, fd2, rfl, upd_same, ?_⟩
        rw [hcs, hcand]
        exact (rys.mono PrR.mono g2.f).append rz
    · have hc' : (jAt b.jumps (1 + i)).isSome = true := by simpa using hc
      refine ⟨by omega, F', ys, _, gr, fd', rfl, hd', ?_⟩
      rw [hcs]
      unfold candAt
      rw [jumpAt_jAt, if_pos hc', List.append_nil]
      exact rys
  · rintro σ H' ⟨_, F', ys, o3, gr, fd', rfl, hd', rys⟩
    have h3 := candTo_len b (b.n - 1)
    have h5 : (b.n - 1) * (b.n + 1) ≤ 9 * 11 := Nat.mul_le_mul (by omega) (by omega)
    have hyl := rys.len
    have gk := gr.know hd hd' fd'
    have fdk : (upd F' d (.lst ys)) d = some (.lst ys) := upd_same
    have rk := rys.mono PrR.mono (same_new (o := .lst ys) fd')
    refine ⟨_, rfl, d, rfl, ⟨_, SqL.of hd'⟩, fun D2 hD2 => ?_⟩
    refine lc_rep (walk_list (K := K) (a := d) (xs := ys)) hD2 gk.s PrR PrR.mono (fun m => !hasRing (b.jumps ++ [(candTo b (b.n - 1)).getD m (0, 0)])) (fun m => (candTo b (b.n - 1)).getD m (0, 0)) (by omega) (fun H' s => SqL.of (s _ _ fdk)) ?_ ?_
    · rintro m F2 H2 x H3 Qy Qn hm g2 ⟨rfl, hx⟩ ky kn
      obtain ⟨j, hj, rj⟩ := rk.item hx
      have ej : (candTo b (b.n - 1)).getD m (0, 0) = j := by rw [List.getD_eq_getElem?_getD, hj]; rfl
      rw [ej] at ky kn
      obtain ⟨c1, c2, c3, c4, c5⟩ := candTo_facts (List.mem_of_getElem? hj)
      have pre := moreJ_pre D.g c1 (by omega) c4 c5 c3
      have D1 := D.next (gk.trans g2)
      obtain ⟨xs, hxs, rxs⟩ := D1.bd.jl
      refine ⟨rfl, _, rfl, ad, CD, dx, _, _, rfl, D1.desk, T.clD, T.d_own, dF_own _, a, CB, dxb, _, _, rfl, D1.bh.obj, T.clB, T.b_jumps, bF_jumps b pf pj pe, ?_⟩
      refine ⟨_, rfl, (by show 1 ≤ sizeLine; decide), fun q1 hq1 => ?_⟩
      have g3 := (Gr.refl g2.s).new (o := .lst [x]) hq1
      refine ⟨pj, q1, xs, _, rfl, rfl, g3.s _ _ (g3.f _ _ hxs), upd_same, ?_, fun q2 hq2 => ?_⟩
      · have := rxs.len
        exact Nat.le_of_lt (small_line (by simp; omega))
      have g4 := g3.new (o := .lst (xs ++ [x])) hq2
      refine ⟨_, _, b.jumps ++ [j], rfl, g4.s, ⟨q2, _, rfl, upd_same, (rxs.mono PrR.mono g4.f).snoc (PrR.mono _ _ _ _ (g2.f.trans g4.f) rj)⟩, pre.2, by simp; omega, fun v5 F5 H5 g5 hv5 => ?_⟩
      subst hv5
      refine ⟨_, rfl, ?_⟩
      refine if_b (fun h1 => ?_) (fun h1 => ?_)
      · exact ⟨_, rfl, ky h1 _ F5 _ (g4.trans g5) (PrR.mono _ _ _ _ (g2.f.trans (g4.trans g5).f) rj)⟩
      · exact kn h1 F5 _ (g4.trans g5)
    · intro F2 H2 g2 hl
      refine k _ F2 H2 (gk.trans g2) ?_
      rw [hyl, given_filter (0, 0) (candTo b (b.n - 1)) (fun j => !hasRing (b.jumps ++ [j]))] at hl
      exact hl
end
end LS

namespace LS
open PySem PySem.Spec PyProof.Rows L2
open Uw62 (Board Frac)
/-- the mean on the board with one jump more -/
def mv (b : Board) (j : Nat × Nat) : Frac := (Uw62.meanOf (moreJ b j) 0).getD Uw62.zero
def someL (b : Board) : List (Frac × Nat × Nat) := ((jumpsMore b).filter fun j => Uw62.sure (moreJ b j) 0).map fun j => (mv b j, j)
theorem mean_is {b : Board} (g : Good b) {p : Nat} (hp : p ≤ b.n) (hs : Uw62.sure b p = true) : ∃ m, Uw62.meanOf b p = some m ∧ Sz 4095 m := by
  have hll := inner_len g hp
  have hPl := inner_pl g hp hs
  obtain ⟨res, hres⟩ := mean_some g hPl (last := fun _ => Uw62.one) (fun _ => one_nf)
  have hel : (eqRows (Uw62.inner b p) (Uw62.step1 b) fun _ => Uw62.one).length = (Uw62.inner b p).length := by simp [eqRows]
  have hri : ∀ r ∈ eqRows (Uw62.inner b p) (Uw62.step1 b) fun _ => Uw62.one, RI 3 ((eqRows (Uw62.inner b p) (Uw62.step1 b) fun _ => Uw62.one).length + 1) r := fun r hr' => by
    obtain ⟨x, _, rfl⟩ := List.mem_map.mp hr'
    rw [hel]
    exact first_ri g (step1_small g) (fun _ => .inl rfl) x
  obtain ⟨hrl, hrz⟩ := res_sz hri hres (by rw [hel]; exact hll)
  have hmean := mean_eq g hp hs (by rw [hel] at hres; exact hres) (hrl.trans hel)
  by_cases hpn : p = b.n
  · exact ⟨_, hmean.1 hpn, zero_sz.mono (by decide)⟩
  · have hpm : p ∈ Uw62.inner b p := mem_inner.mpr ⟨comes_self g hp, hpn⟩
    obtain ⟨j, hjl, ej⟩ := List.mem_iff_getElem.mp hpm
    have hj : (Uw62.inner b p)[j]? = some p := by rw [List.getElem?_eq_getElem hjl, ej]
    have hjr : j < res.length := by rw [hrl, hel]; exact hjl
    exact ⟨_, hmean.2 j hj hpn, hrz _ (List.mem_of_getElem? (getD_get hjr []))⟩
theorem some_mores {b : Board} (g : Good b) : someL b = (Uw62.mores b).map fun x => (x.2.2, x.1, x.2.1) := by
  rw [mores_is g, List.map_filterMap]
  unfold someL
  rw [← List.filterMap_eq_map, List.filterMap_filter]
  refine filterMap_eq fun j hj => ?_
  have gj := more_good g hj
  by_cases hs : Uw62.sure (moreJ b j) 0 = true
  · obtain ⟨m, hm, _⟩ := mean_is gj (Nat.zero_le _) hs
    rw [if_pos hs, hm]
    show some (mv b j, j) = some (m, j.1, j.2)
    unfold mv
    rw [hm]
    rfl
  · rw [if_neg hs, sure_mean gj (by simpa using hs)]
    rfl
theorem some_sz {b : Board} (g : Good b) : ∀ x ∈ someL b, Sz 4095 x.1 := by
  intro x hx
  unfold someL at hx
  obtain ⟨j, hj, rfl⟩ := List.mem_map.mp hx
  rw [List.mem_filter] at hj
  obtain ⟨m, hm, sz⟩ := mean_is (more_good g hj.1) (Nat.zero_le _) hj.2
  show Sz 4095 (mv b j)
  unfold mv
  rw [hm]
  exact sz
/-- what better answers, by the least of all -/
theorem better_ans {b : Board} (g : Good b) {now : Frac} (hm : Uw62.meanOf b 0 = some now) (sz : Sz 4095 now) : (Uw62.step b .better).2 = match leastOf (fun x => x.1) (someL b) with
    | none => [-8]
    | some x => if Uw62.less x.1 now = true then [0, (x.2.1 : Int), (x.2.2 : Int), x.1.u, (x.1.l : Int)] else [-8] := by
  have e0 : (Uw62.step b .better).2 = match Uw62.better b now with
      | none => [-8]
      | some x => Uw62.ints [0, x.1, x.2.1] ++ Uw62.fracOut x.2.2 := by
    show (match Uw62.meanOf b 0 with
      | none => [-6]
      | some now => match Uw62.better b now with
        | none => [-8]
        | some x => Uw62.ints [0, x.1, x.2.1] ++ Uw62.fracOut x.2.2) = _
    rw [hm]
  have hpos : ∀ x ∈ Uw62.mores b, 0 < x.2.2.l := fun x hx => by
    have : (x.2.2, x.1, x.2.1) ∈ someL b := by rw [some_mores g]; exact List.mem_map.mpr ⟨x, hx, rfl⟩
    exact (some_sz g _ this).1.1
  rw [e0, better_def, better_least sz.1.1 hpos, some_mores g, leastOf_map]
  cases e : leastOf (fun x => x.2.2) (Uw62.mores b) with
  | none => rfl
  | some x =>
    show (match below now x with
      | none => [-8]
      | some x => Uw62.ints [0, x.1, x.2.1] ++ Uw62.fracOut x.2.2) = if Uw62.less x.2.2 now = true then _ else _
    unfold below
    by_cases h : Uw62.less x.2.2 now = true
    · rw [if_pos h, if_pos h]
      rfl
    · rw [if_neg h, if_neg h]
theorem jumpsMore_len {b : Board} (g : Good b) : (jumpsMore b).length ≤ 99 := by
  unfold jumpsMore
  have n10 := g.n10
  refine Nat.le_trans (List.length_filter_le _ _) (Nat.le_trans (candTo_len b _) ?_)
  exact Nat.mul_le_mul (show b.n - 1 ≤ 9 by omega) (show b.n + 1 ≤ 11 by omega)
/-- a jump and its board -/
def JbR (CB : Addr) (b : Board) : Rep (Nat × Nat) := fun j v F => ∃ p vj vb, v = .ref p ∧ F p = some (.tup [vj, vb]) ∧ PrR j vj F ∧ BdV CB (moreJ b j) vb F
theorem JbR.mono {CB : Addr} {b : Board} : Mono (JbR CB b) := fun _ _ _ _ s ⟨p, vj, vb, e, h, h1, h2⟩ => ⟨p, vj, vb, e, s _ _ h, PrR.mono _ _ _ _ s h1, BdV.mono _ _ _ _ s h2⟩
section
variable {P : Program} {w : World} {K : PySem.W.Frag} {mg : Str → Option Value} {base : Heap} {CB CD CR aN aO aM fI : Addr}
abbrev nBT : List Str := ["self", "boards", "best", "jump", "board"]
theorem scBetter : FnScope nBT ["self"] (defScope sBetter) := ⟨rfl, rfl, rfl, by decide +kernel, rfl, by decide +kernel, by decide +kernel⟩
theorem ok_better {f : Addr} {fd : FuncData} (F : Fun K "better" "Desk.better" sBetter f fd) (T : Txt K mg CB CD CR aN aO aM) (G1 : wantG P w K mg base CR) (GS : isSureG P w K mg base CB) (GJ : MtG P w K mg base CX0 2 CD "jumps_more" ["self"] (spJumpsMore CB CD)) (GW : MtG P w K mg base CX0 3 CB "with_jump" ["self", "jump"] (spWith CB))
    (GM : meanG P w K mg base CB) (GL : FnG P w K mg base CX0 2 "least_of" ["some"] (spLeastOf K)) (GI : FnG P w K mg base CX0 1 "is_less" ["one", "other"] (spIsLess K)) : FnOk P w K mg base (L2.CX P w) 9 f fd ["self"] (spM0 CB CD CR .better) := by
  refine F.okX scBetter (fun vs H Q E h => ?_) (fun cdv A outer s H vs Q E hr h => ?_)
  · obtain ⟨F, b, ad, dx, a, dxb, pf, pj, pe, rfl, _⟩ := h
    rfl
  have PW : Passes (L2.CX P w) (cxOf (L2.CX P w) P w K mg base nBT "Desk.better" (defScope sBetter) f cdv A outer s H E) E := passes_call (takes_of rfl rfl rfl rfl) (fun _ _ _ _ h => h)
  refine ⟨_, pss_cons (ps_expr (pe_fn G1 hr PW (pa_cons (pe_mt T.clB GS hr pass0 (pe_fld (pv 0) rfl) (pa_cons pe_int pa_nil)) (pa_cons (pe_gint T.g_NOT_SURE) pa_nil))))
    (pss_cons (ps_setLc (i := 1) (own := [("jump", 3)]) (g := gName 3) (tt := tYes) rfl scBetter.nd rfl rfl (sw_true rfl rfl rfl (by decide +kernel)) (pi_list (pe_mt0 T.clD GJ hr pass0 (pv 0))) (blkOk_by (own := [("jump", 3)]) (N := nBT) (sc := defScope sBetter) (by decide +kernel))
      (fun _ _ _ _ _ => pg_name (i := 3) scBetter.nd rfl (Or.inl rfl)) (fun _ _ _ _ _ => pts_nil) (fun _ _ _ _ _ => pe_tup (pa_cons (pv 3) (pa_cons (pe_mt T.clB GW hr pass0 (pe_fldK K (pv 0)) (pa_cons (pv 3) pa_nil)) pa_nil))))
    (pss_cons (ps_set (i := 2) scBetter.nd rfl (Or.inl rfl) (pe_fn GL hr pass0 (pa_cons (pe_lc (own := [("jump", 3), ("board", 4)]) (g := gTup K 2 (gCons (gName 3) (gCons (gName 4) gNil))) rfl scBetter.nd (pi_list (pv 1)) (blkOk_by (own := [("jump", 3), ("board", 4)]) (N := nBT) (sc := defScope sBetter) (by decide +kernel))
      (fun _ _ _ _ _ => pg_tup rfl (pgs_cons (pg_name (i := 3) scBetter.nd rfl (Or.inl rfl)) (pgs_cons (pg_name (i := 4) scBetter.nd rfl (Or.inl rfl)) pgs_nil)))
      (fun _ _ _ _ _ => pts_one (pt_val (pe_mt T.clB GS hr pass0 (pv 4) (pa_cons pe_int pa_nil)))) (fun _ _ _ _ _ => pe_tup (pa_cons (pe_fn GM hr pass0 (pa_cons (pv 4) (pa_cons pe_int pa_nil))) (pa_cons (pv 3) pa_nil)))) pa_nil)))
    (pss_cons (ps_expr (pe_fn G1 hr PW (pa_cons (pe_and (pe_cmpR op_notN (pv 2) pe_non (nomark _)) (pe_one (pe_fn GI hr pass0 (pa_cons (pe_ix ix_tup (pv 2) pe_int (fun _ _ => rfl)) (pa_cons (pe_fn GM hr pass0 (pa_cons (pe_fld (pv 0) rfl) (pa_cons pe_int pa_nil))) pa_nil))))) (pa_cons (pe_gint T.g_NONE_BETTER) pa_nil))))
    (pss_one (ps_ret (pe_op op_cat (pe_op op_cat (pe_lst (pa_cons pe_int pa_nil)) (pe_callTy call_list_of (by rfl) T.n_list (by decide +kernel) (pa_cons (pe_ix ix_tup (pv 2) pe_int (fun _ _ => rfl)) pa_nil))) (pe_callTy call_list_of (by rfl) T.n_list (by decide +kernel) (pa_cons (pe_ix ix_tup (pv 2) pe_int (fun _ _ => rfl)) pa_nil)))))))), ?_⟩
  obtain ⟨F, b, ad, dx, a, dxb, pf, pj, pe, rfl, D, k⟩ := h
  have hjml := jumpsMore_len D.g
  have hjl := jumps_len D.g
  refine ⟨_, rfl, ad, CD, dx, _, _, rfl, D.desk, T.clD, T.d_own, dF_own _, a, dxb, _, rfl, D.bh.obj, bF_no b pf pj pe (by decide +kernel), F, _, b, 0, rfl, D.s, D.bdv, D.g, Nat.zero_le _, fun v1 F1 H1 g1 hv1 => ?_⟩
  subst hv1
  have D1 := D.next g1
  refine ⟨_, _, rfl, fun hs => ?_, fun hc d H' s' hd => ?_⟩
  rotate_left
  · refine k.e (-6) d H' ?_ (g1.h.trans s') hd
    show (match Uw62.meanOf b 0 with
      | none => [-6]
      | some now => _) = _
    rw [sure_mean D.g hc]
  obtain ⟨now, hnow, snow⟩ := mean_is D.g (Nat.zero_le _) hs
  have hans := better_ans D.g hnow snow
  -- the boards
  refine ⟨_, rfl, ad, dx, _, rfl, D1.desk, dF_no _ (by decide +kernel), F1, b, ad, dx, a, dxb, pf, pj, pe, rfl, D1, fun v2 F2 H2 g2 hv2 => ?_⟩
  obtain ⟨c, xs, rfl, fc, rxs⟩ := hv2
  refine ⟨c, rfl, ⟨_, SqL.of (g2.s _ _ fc)⟩, fun Db hDb => ?_⟩
  refine lc_map (walk_list (K := K) (a := c) (xs := xs)) hDb g2.s (JbR CB b) JbR.mono (fun m => (jumpsMore b).getD m (0, 0)) (by rw [rxs.len]; omega) (fun H' s => SqL.of (s _ _ fc)) ?_ ?_ mg_name
  · rintro m F' H' x H'' Qy hm gr ⟨rfl, hx⟩ ky
    obtain ⟨j, hj, rj⟩ := rxs.item hx
    have ej : (jumpsMore b).getD m (0, 0) = j := by rw [List.getD_eq_getElem?_getD, hj]; rfl
    have gj := more_good D.g (List.mem_of_getElem? hj)
    have D2 := D1.next (g2.trans gr)
    refine ⟨rfl, if_t rfl ⟨_, rfl, _, rfl, ad, CD, dx, _, _, rfl, D2.desk, T.clD, T.d_own, dF_own _, a, dxb, _, rfl, D2.bh.obj, bF_no b pf pj pe (by decide +kernel), _, rfl, ?_⟩⟩
    refine ⟨F', _, _, b, j, rfl, D2.s, D2.bdv, PrR.mono _ _ _ _ gr.f rj, by omega, gj.jd, fun v3 F3 H3 g3 hv3 => ?_⟩
    refine ⟨(by show 2 ≤ sizeLine; decide), fun p hp => ?_⟩
    have g4 := g3.new (o := .tup [x, v3]) hp
    refine ky _ _ _ g4 ?_
    rw [ej]
    exact ⟨p, x, v3, rfl, upd_same, PrR.mono _ _ _ _ (gr.f.trans g4.f) rj, BdV.mono _ _ _ _ (same_new (g3.s.free hp)) hv3⟩
  intro F3 H3 g3 hl
  rw [rxs.len, range_getD] at hl
  obtain ⟨c3, ys, ec, fc3, rys⟩ := hl
  cases ec
  have g03 := g1.trans (g2.trans g3)
  -- their means
  refine ⟨_, rfl, Db, rfl, ⟨_, SqL.of (g3.s _ _ fc3)⟩, fun D5 hD5 => ?_⟩
  refine lc_rep (walk_list (K := K) (a := Db) (xs := ys)) hD5 g3.s (MjR K) MjR.mono (fun m => Uw62.sure (moreJ b ((jumpsMore b).getD m (0, 0))) 0) (fun m => (mv b ((jumpsMore b).getD m (0, 0)), (jumpsMore b).getD m (0, 0))) (by rw [rys.len]; omega) (fun H' s => SqL.of (s _ _ fc3)) ?_ ?_
  · rintro m F' H' x H'' Qy Qn hm gr ⟨rfl, hx⟩ ky kn
    obtain ⟨j, hj, p, vj, vb, rfl, fp, rj, rb⟩ := rys.item hx
    have ej : (jumpsMore b).getD m (0, 0) = j := by rw [List.getD_eq_getElem?_getD, hj]; rfl
    rw [ej] at ky kn
    have gj := more_good D.g (List.mem_of_getElem? hj)
    have rb' := BdV.mono _ _ _ _ gr.f rb
    obtain ⟨cb, dxc, qf, qj, qe, rfl, C⟩ := id rb'
    refine pair_new (gr.s _ _ (gr.f _ _ fp)) ⟨rfl, _, rfl, cb, dxc, _, rfl, (C.mono gr.s).obj, bF_no _ qf qj qe (by decide +kernel), F', _, moreJ b j, 0, rfl, gr.s, rb', gj, Nat.zero_le _, fun v4 F4 H4 g4 hv4 => ?_⟩
    subst hv4
    refine ⟨_, rfl, ?_⟩
    refine if_b (fun h1 => ?_) (fun h1 => ?_)
    · refine ⟨_, rfl, F4, _, moreJ b j, 0, rfl, g4.s, BdV.mono _ _ _ _ g4.f rb', gj, Nat.zero_le _, h1, fun v5 F5 H5 g5 hv5 => ?_⟩
      obtain ⟨mm, hmm, _, hv5⟩ := hv5
      refine ⟨_, rfl, (by show 2 ≤ sizeLine; decide), fun q hq => ?_⟩
      have g6 := (g4.trans g5).new (o := .tup [v5, vj]) hq
      refine ky h1 _ _ _ g6 ⟨q, v5, vj, rfl, upd_same, FrV.mono _ _ _ _ (same_new ((g4.trans g5).s.free hq)) ?_, PrR.mono _ _ _ _ (gr.f.trans g6.f) rj⟩
      show FrV K (mv b j) v5 F5
      unfold mv
      rw [hmm]
      exact hv5
    · exact kn h1 F4 _ g4
  intro F6 H6 g6 hl
  have esome : givenA ys.length (fun m => Uw62.sure (moreJ b ((jumpsMore b).getD m (0, 0))) 0) (fun m => (mv b ((jumpsMore b).getD m (0, 0)), (jumpsMore b).getD m (0, 0))) = someL b := by
    unfold someL
    rw [rys.len, ← given_filter (0, 0) (jumpsMore b) (fun j => Uw62.sure (moreJ b j) 0)]
    unfold givenA
    rw [List.map_map]
    rfl
  rw [esome] at hl
  refine ⟨F6, _, someL b, rfl, g6.s, hl, some_sz D.g, fun v7 F7 H7 g7 hv7 => ?_⟩
  have g07 := (g03.trans g6).trans g7
  have D7 := D.next g07
  -- is it less
  refine ⟨_, rfl, rfl, _, rfl, ?_⟩
  cases eb : leastOf (fun x => x.1) (someL b) with
  | none =>
    rw [eb] at hv7 hans
    have hv7' : v7 = .non := hv7
    subst hv7'
    exact if_f rfl ⟨_, _, rfl, fun q => Bool.noConfusion q, fun _ d H' s' hd => k.e (-8) d H' hans (g07.h.trans s') hd⟩
  | some x =>
    rw [eb] at hv7 hans
    obtain ⟨hne, p, vm, vj, rfl, fp, rm, p2, rfl, fp2⟩ := hv7
    have sx := some_sz D.g x (leastOf_mem _ _ eb)
    refine if_t rfl ⟨_, rfl, p, _, _, _, rfl, rfl, SqT.of (g7.s _ _ fp), rfl, ?_⟩
    refine ⟨_, rfl, ad, CD, dx, _, _, rfl, D7.desk, T.clD, T.d_own, dF_own _, F7, _, b, 0, rfl, g7.s, D7.bdv, D.g, Nat.zero_le _, hs, fun v8 F8 H8 g8 hv8 => ?_⟩
    obtain ⟨now', hnow', _, rnow⟩ := hv8
    rw [hnow] at hnow'
    cases hnow'
    have g08 := g07.trans g8
    have rm8 := FrV.mono _ _ _ _ g8.f rm
    have fp8 := g8.f _ _ fp
    have fp28 := g8.f _ _ fp2
    refine ⟨_, _, x.1, now, 4095, 4095, rfl, FrV.mono _ _ _ _ g8.s rm8, FrV.mono _ _ _ _ g8.s rnow, sx, snow, by decide, _, _, rfl, fun hc => ?_, fun hc d H' s' hd => ?_⟩
    rotate_left
    · exact k.e (-8) d H' (by rw [hans]; exact if_neg (by rw [hc]; decide)) (g08.h.trans s') hd
    have hans' : (Uw62.step b .better).2 = [0, (x.2.1 : Int), (x.2.2 : Int), x.1.u, (x.1.l : Int)] := by
      rw [hans]
      exact if_pos hc
    obtain ⟨a3, rfl, h3⟩ := rm8
    refine ⟨(by show 1 ≤ sizeLine; decide), fun t0 ht0 => ?_⟩
    have g9 := g08.new (o := .lst [.int 0]) ht0
    have s9 := same_new (o := .lst [.int 0]) (g08.s.free ht0)
    refine ⟨_, rfl, p, _, _, _, rfl, rfl, SqT.of (g9.s _ _ (s9 _ _ fp8)), rfl, p2, _, rfl, .inr (SqT.of (g9.s _ _ (s9 _ _ fp28))), fun l1 hl1 => ?_⟩
    have g10 := g9.new (o := .lst [.int (x.2.1 : Int), .int (x.2.2 : Int)]) hl1
    have s10 := same_new (o := .lst [.int (x.2.1 : Int), .int (x.2.2 : Int)]) (g9.s.free hl1)
    have ht1 := s10 _ _ (upd_same (H := F8) (a := t0) (o := .lst [.int 0]))
    refine ⟨t0, l1, _, _, rfl, rfl, g10.s _ _ ht1, upd_same, (by show 3 ≤ sizeLine; decide), fun t2 ht2 => ?_⟩
    have g11 := g10.new (o := .lst ([.int 0] ++ [.int (x.2.1 : Int), .int (x.2.2 : Int)])) ht2
    have s11 := same_new (o := .lst ([V.int 0] ++ [V.int (x.2.1 : Int), .int (x.2.2 : Int)])) (g10.s.free ht2)
    refine ⟨_, rfl, p, _, _, _, rfl, rfl, SqT.of (g11.s _ _ (s11 _ _ (s10 _ _ (s9 _ _ fp8)))), rfl, a3, _, rfl, .inr (same_T (s9.trans (s10.trans (s11.trans g11.s))) h3), fun l3 hl3 => ?_⟩
    have g12 := g11.new (o := .lst [.int x.1.u, .int (x.1.l : Int)]) hl3
    have s12 := same_new (o := .lst [.int x.1.u, .int (x.1.l : Int)]) (g11.s.free hl3)
    have ht3 := s12 _ _ (upd_same (a := t2))
    refine ⟨t2, l3, _, _, rfl, rfl, g12.s _ _ ht3, upd_same, (by show 5 ≤ sizeLine; decide), fun t4 ht4 => ?_⟩
    exact k.v _ _ _ (g12.new ht4) ⟨t4, rfl, by rw [upd_same, hans']; rfl⟩
end
end LS

namespace LS
open PySem PySem.Spec PyProof.Rows L2
open Uw62 (Board Frac)
theorem step_board (b : Board) (n rule : Nat) (fs js : List Nat) : Uw62.step b (.board n rule fs js) = if n < 2 ∨ 10 < n ∨ 2 < rule then (b, [-1])
    else if fs.length < 1 ∨ 6 < fs.length ∨ fs.any (fun f => decide (12 < f)) = true then (b, [-2])
    else if jumpsOk n js = false then (b, [-3])
    else if hasRing (pairsL js) = true then (b, [-4])
    else (⟨n, rule, fs, pairsL js⟩, [(((Uw62.comes ⟨n, rule, fs, pairsL js⟩ 0).length : Nat) : Int), if Uw62.sure ⟨n, rule, fs, pairsL js⟩ 0 = true then 1 else 0]) := by
  unfold Uw62.step
  dsimp only
  by_cases h1 : n < 2 ∨ 10 < n ∨ 2 < rule
  · rw [if_pos h1, if_pos h1]
  rw [if_neg h1, if_neg h1]
  by_cases h2 : fs.length < 1 ∨ 6 < fs.length ∨ fs.any (fun f => decide (12 < f)) = true
  · rw [if_pos h2, if_pos h2]
  rw [if_neg h2, if_neg h2]
  rcases Nat.mod_two_eq_zero_or_one js.length with he | he
  · have e := pairs_even he
    have ej : jumpsOk n js = Uw62.goodJumps n (pairsL js) := by unfold jumpsOk; rw [e]
    rw [e, ej]
    dsimp only
    by_cases h3 : Uw62.goodJumps n (pairsL js) = false
    · rw [if_pos h3, if_pos h3]
    · rw [if_neg h3, if_neg h3]
      have hg := goodJumps_iff.mp (by simpa using h3 : Uw62.goodJumps n (pairsL js) = true)
      have er : Uw62.ring ⟨n, rule, fs, pairsL js⟩ = hasRing (pairsL js) := ring_is (b := ⟨n, rule, fs, pairsL js⟩) fun j hj => by have := hg.1 j hj; show j.1 ≤ n; omega
      rw [er]
  · rw [pairs_odd he]
    have ej : jumpsOk n js = false := by unfold jumpsOk; rw [pairs_odd he]
    rw [if_pos ej]
section
variable {P : Program} {w : World} {K : PySem.W.Frag} {mg : Str → Option Value} {base : Heap} {CB CD CR aN aO aM fI : Addr}
def spPut (CB CD CR : Addr) : Sp := fun vs H Q E => ∃ (F : Hp) (b : Board) (ad dx a dxb pf pj pe : Addr) (n rule : Nat) (fs js : List Nat) (vf vj : V), vs = [.ref ad, .int (n : Int), .int (rule : Int), vf, vj] ∧ Dk CB CD F H b ad dx a dxb pf pj pe ∧ NsV fs vf F ∧ NsV js vj F ∧ fs.length ≤ 9000 ∧ js.length ≤ 9000 ∧
  (∀ (r : Int) (d : Addr) (H' : Hp), Uw62.step b (.board n rule fs js) = (b, [r]) → Same H H' → H' d = some (xdOf r) → E (.ref CR) (some d) H') ∧
  (∀ (v : V) (F' H' : Hp) (a' dxb' pf' pj' pe' : Addr), (∀ c o, H c = some o → c ≠ ad → H' c = some o) → Same F F' → (∀ c o, F' c = some o → F c = some o ∨ H c = none) → Dk CB CD F' H' (Uw62.step b (.board n rule fs js)).1 ad dx a' dxb' pf' pj' pe' → IsV (Uw62.step b (.board n rule fs js)).2 v F' → Q v H')
abbrev nPB : List Str := ["self", "n", "rule", "faces", "jumps"]
theorem scPut : FnScope nPB nPB (defScope sPut) := ⟨rfl, rfl, rfl, by decide +kernel, rfl, by decide +kernel, by decide +kernel⟩
theorem ok_put {f : Addr} {fd : FuncData} (F : Fun K "put_board" "Desk.put_board" sPut f fd) (T : Txt K mg CB CD CR aN aO aM) (G1 : wantG P w K mg base CR) (GWJ : FnG P w K mg base (L2.CX P w) 4 "want_jumps" ["end", "numbers"] (spWantJumps CR)) (GR : FnG P w K mg base CX0 1 "has_ring" ["jumps"] spHasRing)
    (GP : FnG P w K mg base CX0 1 "pairs_of" ["numbers"] spPairsOf) (GB : MkG P w K mg base 1 CB psB (spBInit CB)) (GC : MtG P w K mg base CX0 4 CB "come_to" ["self", "place"] (spComeTo CB)) (GS : isSureG P w K mg base CB) : FnOk P w K mg base (L2.CX P w) 7 f fd nPB (spPut CB CD CR) := by
  refine F.okX scPut (fun vs H Q E h => ?_) (fun cdv A outer s H vs Q E hr h => ?_)
  · obtain ⟨F, b, ad, dx, a, dxb, pf, pj, pe, n, rule, fs, js, vf, vj, rfl, _⟩ := h
    rfl
  have PW : Passes (L2.CX P w) (cxOf (L2.CX P w) P w K mg base nPB "Desk.put_board" (defScope sPut) f cdv A outer s H E) E := passes_call (takes_of rfl rfl rfl rfl) (fun _ _ _ _ h => h)
  refine ⟨_, pss_cons (ps_expr (pe_fn G1 hr PW (pa_cons (pe_and (pe_chain op_le op_le (pe_gint T.g_LEAST_END) (pv 1) (pe_gint T.g_MOST_END)) (pe_one (pe_cmpR op_le (pv 2) (pe_gint T.g_MOST_RULE) (nomark _)))) (pa_cons (pe_gint T.g_NOT_SO) pa_nil))))
    (pss_cons (ps_expr (pe_fn G1 hr PW (pa_cons (pe_and (pe_chain op_le op_le pe_int (pe_callB call_len_seq (by rfl) T.n_len (by decide +kernel) (pa_cons (pv 3) pa_nil)) (pe_gint T.g_MOST_FACES)) (pe_one (pe_cmpR op_le (pe_callB (cr_max rfl) (by rfl) T.n_max (by decide +kernel) (pa_cons (pv 3) pa_nil)) (pe_gint T.g_MOST_FACE) (nomark _)))) (pa_cons (pe_gint T.g_BAD_DIE) pa_nil))))
    (pss_cons (ps_expr (pe_fn GWJ hr PW (pa_cons (pv 1) (pa_cons (pv 4) pa_nil))))
    (pss_cons (ps_expr (pe_fn G1 hr PW (pa_cons (pe_not (pe_fn GR hr pass0 (pa_cons (pe_fn GP hr pass0 (pa_cons (pv 4) pa_nil)) pa_nil))) (pa_cons (pe_gint T.g_RING) pa_nil))))
    (pss_cons (ps_fld (pv 0) (pe_mk GB hr T.gB (pa_cons (pv 1) (pa_cons (pv 2) (pa_cons (pv 3) (pa_cons (pe_fn GP hr pass0 (pa_cons (pv 4) pa_nil)) pa_nil))))) rfl)
    (pss_one (ps_ret (pe_lst (pa_cons (pe_callB call_len_seq (by rfl) T.n_len (by decide +kernel) (pa_cons (pe_mt T.clB GC hr pass0 (pe_fld (pv 0) rfl) (pa_cons pe_int pa_nil)) pa_nil)) (pa_cons (pe_callTy call_int1 (by rfl) T.n_int (by decide +kernel) (pa_cons (pe_mt T.clB GS hr pass0 (pe_fld (pv 0) rfl) (pa_cons pe_int pa_nil)) pa_nil)) pa_nil))))))))), ?_⟩
  obtain ⟨F, b, ad, dx, a, dxb, pf, pj, pe, n, rule, fs, js, vf, vj, rfl, D, hf, hj, hfl, hjl, kE, kQ⟩ := h
  rw [step_board] at kE kQ
  obtain ⟨cf, rfl, ff⟩ := hf.at
  -- n, rule
  refine ⟨_, rfl, _, _, rfl, rfl, _, rfl, ?_⟩
  by_cases h1 : n < 2 ∨ 10 < n ∨ 2 < rule
  · rw [if_pos h1] at kE
    have no : ∀ d H', Same H H' → H' d = some (xdOf (-1)) → E (.ref CR) (some d) H' := fun d H' => kE (-1) d H' rfl
    refine if_b (fun c1 => ?_) (fun c1 => ?_)
    · refine ⟨_, _, rfl, rfl, _, rfl, ?_⟩
      refine if_b (fun c2 => ?_) (fun c2 => ?_)
      · refine ⟨_, rfl, _, _, rfl, rfl, ?_⟩
        exact ⟨_, _, rfl, fun q => absurd (of_decide_eq_true q) (by have := of_decide_eq_true c1; have := of_decide_eq_true c2; omega), fun _ => no⟩
      · exact ⟨_, _, rfl, fun q => Bool.noConfusion q, fun _ => no⟩
    · exact ⟨_, rfl, if_f rfl ⟨_, _, rfl, fun q => Bool.noConfusion q, fun _ => no⟩⟩
  rw [if_neg h1] at kE kQ
  refine if_t (decide_eq_true (by omega)) ⟨_, _, rfl, rfl, _, rfl, if_t (decide_eq_true (by omega)) ⟨_, rfl, _, _, rfl, rfl, _, _, rfl, fun _ => ?_, fun q => absurd (of_decide_eq_false q) (by omega)⟩⟩
  -- faces
  refine ⟨_, rfl, cf, _, rfl, .inl (SqL.of (D.s _ _ ff)), _, _, rfl, rfl, _, rfl, ?_⟩
  by_cases h2 : fs.length < 1 ∨ 6 < fs.length ∨ fs.any (fun f => decide (12 < f)) = true
  · rw [if_pos h2] at kE
    have no : ∀ d H', Same H H' → H' d = some (xdOf (-2)) → E (.ref CR) (some d) H' := fun d H' => kE (-2) d H' rfl
    rw [ofNats_len]
    refine if_b (fun c1 => ?_) (fun c1 => ?_)
    · have c1' : 1 ≤ fs.length := by have := of_decide_eq_true c1; omega
      refine ⟨_, _, rfl, rfl, _, rfl, ?_⟩
      refine if_b (fun c2 => ?_) (fun c2 => ?_)
      · have c2' : fs.length ≤ 6 := by have := of_decide_eq_true c2; omega
        refine ⟨_, rfl, cf, ofNats fs, rfl, SqL.of (D.s _ _ ff), by simp [ofNats]; omega, fun m hm hle => ⟨_, _, rfl, rfl, ?_⟩⟩
        refine ⟨_, _, rfl, fun q => ?_, fun _ => no⟩
        exfalso
        have hm12 := of_decide_eq_true q
        rcases h2 with h2 | h2 | h2
        · omega
        · omega
        · rw [List.any_eq_true] at h2
          obtain ⟨z, hz, hz2⟩ := h2
          have hz3 := of_decide_eq_true hz2
          have := hle (z : Int) (List.mem_map.mpr ⟨z, hz, rfl⟩)
          omega
      · exact ⟨_, _, rfl, fun q => Bool.noConfusion q, fun _ => no⟩
    · exact ⟨_, rfl, if_f rfl ⟨_, _, rfl, fun q => Bool.noConfusion q, fun _ => no⟩⟩
  rw [if_neg h2] at kE kQ
  have hf1 : 1 ≤ fs.length := by omega
  have hf6 : fs.length ≤ 6 := by omega
  have hf12 : ∀ f ∈ fs, f ≤ 12 := fun f hf' => by
    apply Classical.byContradiction
    intro hn
    exact h2 (.inr (.inr (List.any_eq_true.mpr ⟨f, hf', decide_eq_true (by omega)⟩)))
  rw [ofNats_len]
  refine if_t (decide_eq_true (by omega)) ⟨_, _, rfl, rfl, _, rfl, if_t (decide_eq_true (by omega)) ⟨_, rfl, cf, ofNats fs, rfl, SqL.of (D.s _ _ ff), by simp [ofNats]; omega, fun m hm hle => ⟨_, _, rfl, rfl, ?_⟩⟩⟩
  have hm12 : m ≤ 12 := by
    obtain ⟨z, hz, ez⟩ := List.mem_map.mp hm
    have := hf12 z hz
    omega
  refine ⟨_, _, rfl, fun _ => ?_, fun q => absurd (of_decide_eq_false q) (by omega)⟩
  -- jumps
  refine ⟨_, rfl, _, rfl, F, _, n, js, rfl, D.s, hj, hjl, fun h3 F1 H1 g1 => ?_, fun h3 => ?_⟩
  rotate_left
  · rw [if_pos h3] at kE
    exact fun d H' => kE (-3) d H' rfl
  rw [if_neg (by rw [h3]; decide)] at kE kQ
  have hjo : ∃ j, Uw62.pairsOf js = some j ∧ Uw62.goodJumps n j = true := by
    unfold jumpsOk at h3
    cases e : Uw62.pairsOf js with
    | none => rw [e] at h3; cases h3
    | some j => rw [e] at h3; exact ⟨j, rfl, h3⟩
  have hpe : Uw62.pairsOf js = some (pairsL js) := by
    rcases Nat.mod_two_eq_zero_or_one js.length with he | he
    · exact pairs_even he
    · obtain ⟨j, hj1, _⟩ := hjo
      rw [pairs_odd he] at hj1
      cases hj1
  obtain ⟨j0, hj0, hgj⟩ := hjo
  rw [hpe] at hj0
  cases hj0
  have hgood := goodJumps_iff.mp hgj
  have hplen := pairsL_len js
  have hpl9 : (pairsL js).length ≤ 9 := by
    have h := pigeon ((pairsL js).map fun (j : Nat × Nat) => j.1) ((List.range n).filter fun (i : Nat) => decide (1 ≤ i)) hgood.2 fun x hx => by
      obtain ⟨j, hj, rfl⟩ := List.mem_map.mp hx
      have := hgood.1 j hj
      simp
      omega
    rw [List.length_map] at h
    have h2 : ((List.range n).filter fun (i : Nat) => decide (1 ≤ i)).length ≤ n - 1 := by
      obtain ⟨m, hm⟩ : ∃ m, n = m + 1 := ⟨n - 1, by omega⟩
      rw [hm, List.range_succ_eq_map, List.filter_cons_of_neg (by simp)]
      refine Nat.le_trans (List.length_filter_le _ _) ?_
      simp
    omega
  -- a ring
  refine ⟨_, rfl, F1, _, js, rfl, g1.s, LsV.mono NatR.mono _ _ _ _ g1.f hj, hjl, fun v2 F2 H2 g2 hv2 => ?_⟩
  refine ⟨F2, _, pairsL js, rfl, g2.s, hv2, hgood.2, by omega, fun v3 F3 H3 g3 hv3 => ?_⟩
  subst hv3
  have g03 := (g1.trans g2).trans g3
  refine ⟨_, rfl, _, _, rfl, fun h4 => ?_, fun h4 d H' s' hd => ?_⟩
  rotate_left
  · have h4' : hasRing (pairsL js) = true := by simpa using h4
    rw [if_pos h4'] at kE
    exact kE (-4) d H' rfl (g03.h.trans s') hd
  have h4' : hasRing (pairsL js) = false := by simpa using h4
  rw [if_neg (by rw [h4']; decide)] at kE kQ
  have gc : Good ⟨n, rule, fs, pairsL js⟩ := ⟨by show 2 ≤ n; omega, by show n ≤ 10; omega, by show rule ≤ 2; omega, hf1, hf6, hf12, hgood.1, hgood.2, by
    rw [ring_is (b := ⟨n, rule, fs, pairsL js⟩) fun j hj => by have := hgood.1 j hj; show j.1 ≤ n; omega]
    exact h4'⟩
  -- the board
  refine ⟨_, rfl, _, rfl, _, rfl, _, rfl, F3, _, js, rfl, g3.s, LsV.mono NatR.mono _ _ _ _ g03.f hj, hjl, fun v4 F4 H4 g4 hv4 => ?_⟩
  have g04 := g03.trans g4
  refine make_boardA (CB := CB) (b := ⟨n, rule, fs, pairsL js⟩) g4.s (NsV.of (g04.f _ _ ff)) hv4 hgood.2 (fun x F5 H5 g5 hB => ?_)
  have g05 := g04.trans g5
  have D5 := D.next g05
  obtain ⟨a5, dx5, pf5, pj5, pe5, e5, B5⟩ := hB
  cases e5
  refine ⟨_, rfl, ad, CD, dx, _, rfl, D5.desk, T.clD, T.d_own, (by show 1 < 1000; decide), ?_⟩
  have eput : putF "own" (V.ref x) (dF (V.ref a)) = dF (.ref x) := put_a
  rw [eput]
  have D6 : Dk CB CD F5 (upd H5 ad (.ins CD dx (dF (.ref x)))) ⟨n, rule, fs, pairsL js⟩ ad dx x dx5 pf5 pj5 pe5 := ⟨fun c o hc => by rw [upd_ne (ne_of_none hc D5.nf)]; exact D5.s _ _ hc, upd_same, D5.nf, B5, gc⟩
  -- the answer
  refine ⟨_, rfl, ad, CD, dx, _, _, rfl, D6.desk, T.clD, T.d_own, dF_own _, x, dx5, _, rfl, D6.bh.obj, bF_no _ pf5 pj5 pe5 (by decide +kernel), F5, _, ⟨n, rule, fs, pairsL js⟩, 0, rfl, D6.s, D6.bdv, gc, Nat.zero_le _, fun v7 F7 H7 g7 hv7 => ?_⟩
  obtain ⟨c7, rfl, f7⟩ := hv7.at
  have D7 := D6.next g7
  refine ⟨c7, _, rfl, .inl (SqL.of (g7.s _ _ f7)), ?_⟩
  refine ⟨_, rfl, ad, CD, dx, _, _, rfl, D7.desk, T.clD, T.d_own, dF_own _, x, dx5, _, rfl, D7.bh.obj, bF_no _ pf5 pj5 pe5 (by decide +kernel), F7, _, ⟨n, rule, fs, pairsL js⟩, 0, rfl, D7.s, D7.bdv, gc, Nat.zero_le _, fun v8 F8 H8 g8 hv8 => ?_⟩
  subst hv8
  have g78 := g7.trans g8
  refine .inr ⟨_, rfl, (by show 2 ≤ sizeLine; decide), fun q hq => ?_⟩
  have g9 := g78.new (o := .lst [.int (((ofNats (Uw62.comes ⟨n, rule, fs, pairsL js⟩ 0)).map V.int).length : Int), .int (if Uw62.sure ⟨n, rule, fs, pairsL js⟩ 0 = true then 1 else 0)]) hq
  have D9 := D6.next g9
  refine kQ _ _ _ x dx5 pf5 pj5 pe5 (fun c o hc hca => ?_) (g05.f.trans g9.f) (fun c o hc => ?_) D9 ⟨q, rfl, ?_⟩
  · refine g9.h _ _ ?_
    rw [upd_ne hca]
    exact g05.h _ _ hc
  · rcases g9.n c o hc with h | h
    · exact g05.n c o h
    · by_cases hca : c = ad
      · subst hca
        rw [D9.nf] at hc
        cases hc
      · rw [upd_ne hca] at h
        exact .inr (g05.h.free h)
  · rw [upd_same, ofNats_len]
    rfl
end
end LS

namespace LS
open PySem PySem.Spec PyProof.Rows L2
open Uw62 (Board Frac Call)
abbrev sOfPlace : Stmt := topS 58
abbrev sOfThrows : Stmt := topS 59
abbrev sAnswer : Stmt := topS 60
/-! ### a call as it is handed on: its number, its numbers, its rows -/
def codeN : Call → Nat
  | .board _ _ _ _ => 0
  | .lands _ _ => 1
  | .within _ => 2
  | .at_ _ _ => 3
  | .mean _ => 4
  | .least _ => 5
  | .visits _ => 6
  | .race _ => 7
  | .better => 8
  | .without _ => 9
def numsN : Call → List Nat
  | .board n rule _ _ => [n, rule]
  | .lands p f => [p, f]
  | .within t => [t]
  | .at_ t p => [t, p]
  | .mean p => [p]
  | .least p => [p]
  | .visits p => [p]
  | .race t => [t]
  | .better => []
  | .without j => [j]
def rowsN : Call → List (List Nat)
  | .board _ _ fs js => [fs, js]
  | _ => []
theorem step_same (b : Board) (x : Call) (h : codeN x ≠ 0) : (Uw62.step b x).1 = b := by
  cases x <;> first | rfl | exact absurd rfl h
section
variable {X : Cx} {CX : CXT} {k j : Nat} {C : Addr} {ps : List Str} {sp : Sp} {E : L2.St → XK} {x m : Str} {p pos apos : Pos} {e o : Expr} {es : List Expr} {ta : TE} {t : TA}
/-- calls within a try: what is raised is wished for at the slots as they stand -/
theorem pe_fnS (G : FnG X.prog X.w X.K X.mg X.base CX k x ps sp) (hr : Room j X.A) (hx : ∀ σ, PassesAt CX X σ (E σ)) (ha : PA X (e :: es) t) (hkj : k ≤ j := by decide) (hg : Gl X x := by rfl) (hdb : (x == ("__debug__" : Str)) = false := by decide)
    (he : starEach (e :: es) X.env = (false, eval e X.env) :: starEach es X.env := by rfl) (hpl : (backTo pos (starEach es X.env)).any (·.1) = false := by rfl) : PE X (.Call (.Name x p) (e :: es) [] pos) (tCallS sp E t) := by
  obtain ⟨f, fd, h1, h2, h3, h4⟩ := G
  exact pe_callS h4 (hr.mono hkj) hg h1 h2 h3 hx ha hdb he hpl
def tMtS (C : Addr) (m : Str) (sp : Sp) (E : L2.St → XK) (ta : TE) (t : TA) : TE := fun σ H Q => ta σ H fun x H1 => ∃ a dx fs, x = .ref a ∧ H1 a = some (.ins C dx fs) ∧ fs.lookup m = none ∧ t σ H1 fun vs H2 => sp (x :: vs) H2 Q (E σ)
theorem pe_mtS {pl : Sem Bool} (c : Cls X.K C) (G : MtG X.prog X.w X.K X.mg X.base CX k C m ps sp) (hr : Room j X.A) (hx : ∀ σ, PassesAt CX X σ (E σ)) (he : PE X o ta) (ha : PA X (e :: es) t) (hkj : k ≤ j := by decide)
    (hst : starEach (e :: es) X.env = (false, eval e X.env) :: starEach es X.env := by rfl) (hpl : (backTo pos (starEach es X.env)).any (·.1) = false := by rfl)
    (ht : eval (.Call (.Attribute o m apos) (e :: es) [] pos) X.env = (do
      let ov ← eval o X.env
      standAt apos.atName
      let (f, first) ← holding [ov] (getMethod ov m pl)
      callWith pos f first (backTo pos (starEach (e :: es) X.env)) (backToKw pos (keywordEach [] X.env))) := by rfl) :
    PE X (.Call (.Attribute o m apos) (e :: es) [] pos) (tMtS C m sp E ta t) := by
  obtain ⟨f, fd, hm, hb, F⟩ := G
  refine ⟨fun pins s σ H Q I h => PySem.W.methodCall_KW (pl := pl) (thn (he.run pins s σ H _ I h) fun u s1 hh => ?_) ht⟩
  obtain ⟨y, H1, I1, ry, a, dx, fs, ey, ea, l, q⟩ := hh
  subst ey
  obtain rfl : u = Value.ref a := ry
  refine getmeth_ok I1 ea c hm l (PySem.W.callWith_K (first := [.ref a]) (h₀ := X.base) I.ok.mod.kin hm.kp (thn (ha.run pos pins s1 σ H1 _ I1 q) fun us s2 hq => ?_) hst hpl)
  obtain ⟨vs, H2, I2, r, q2⟩ := hq
  exact ⟨I2.kIn, run_fnS (us := .ref a :: us) (vs := .ref a :: vs) F (hr.mono hkj) hb (hx σ) I2 (.cons rfl r) q2⟩
theorem pe_mtS0 {pl : Sem Bool} (c : Cls X.K C) (G : MtG X.prog X.w X.K X.mg X.base CX k C m ps sp) (hr : Room j X.A) (hx : ∀ σ, PassesAt CX X σ (E σ)) (he : PE X o ta) (hkj : k ≤ j := by decide)
    (ht : eval (.Call (.Attribute o m apos) [] [] pos) X.env = (do
      let ov ← eval o X.env
      standAt apos.atName
      let (f, first) ← holding [ov] (getMethod ov m pl)
      callWith pos f first (backTo pos (starEach [] X.env)) (backToKw pos (keywordEach [] X.env))) := by rfl) :
    PE X (.Call (.Attribute o m apos) [] [] pos) (tMtS C m sp E ta tNil) := by
  obtain ⟨f, fd, hm, hb, F⟩ := G
  refine ⟨fun pins s σ H Q I h => PySem.W.methodCall_KW (pl := pl) (thn (he.run pins s σ H _ I h) fun u s1 hh => ?_) ht⟩
  obtain ⟨y, H1, I1, ry, a, dx, fs, ey, ea, l, q⟩ := hh
  subst ey
  obtain rfl : u = Value.ref a := ry
  exact getmeth_ok I1 ea c hm l (PySem.W.callWith_K0 (first := [.ref a]) I1.kIn hm.kp (run_fnS (us := [.ref a]) (vs := [.ref a]) F (hr.mono hkj) hb (hx σ) I1 (.cons rfl .nil) q))
end
section
variable {P : Program} {w : World} {K : PySem.W.Frag} {mg : Str → Option Value} {base : Heap} {CB CD CR aN aO aM fI : Addr}
abbrev m1G (P : Program) (w : World) (K : PySem.W.Frag) (mg : Str → Option Value) (base : Heap) (CB CD CR : Addr) (x : Str) (ps : List Str) (mk : Nat → Call) : Prop := MtG P w K mg base (L2.CX P w) 9 CD x ps (spM1 CB CD CR mk)
abbrev m2G (P : Program) (w : World) (K : PySem.W.Frag) (mg : Str → Option Value) (base : Heap) (CB CD CR : Addr) (x : Str) (ps : List Str) (mk : Nat → Nat → Call) : Prop := MtG P w K mg base (L2.CX P w) 9 CD x ps (spM2 CB CD CR mk)
/-- calls of some numbers, handed on -/
def spOf (CB CD CR : Addr) (ok : Nat → Bool) : Sp := fun vs H Q E => ∃ (F : Hp) (b : Board) (ad dx a dxb pf pj pe : Addr) (x : Call) (vn : V), vs = [.ref ad, .int (codeN x : Int), vn] ∧ Dk CB CD F H b ad dx a dxb pf pj pe ∧ NsV (numsN x) vn F ∧ ok (codeN x) = true ∧ RetE CR F H (Uw62.step b x).2 Q E
theorem nsv1 {F : Hp} {v : V} {p : Nat} (h : NsV [p] v F) : ∃ a, v = .ref a ∧ F a = some (.lst [.int (p : Int)]) := h.at
theorem nsv2 {F : Hp} {v : V} {p q : Nat} (h : NsV [p, q] v F) : ∃ a, v = .ref a ∧ F a = some (.lst [.int (p : Int), .int (q : Int)]) := h.at
theorem scOfPlace : FnScope ["desk", "call", "n"] ["desk", "call", "n"] (defScope sOfPlace) := ⟨rfl, rfl, rfl, by decide +kernel, rfl, by decide +kernel, by decide +kernel⟩
theorem ok_ofPlace {f : Addr} {fd : FuncData} (F : Fun K "of_place" "of_place" sOfPlace f fd) (T : Txt K mg CB CD CR aN aO aM) (G1 : m2G P w K mg base CB CD CR "lands" ["self", "p", "f"] .lands) (G2 : m1G P w K mg base CB CD CR "mean" ["self", "p"] .mean) (G3 : m1G P w K mg base CB CD CR "least" ["self", "p"] .least)
    (G4 : m1G P w K mg base CB CD CR "visits" ["self", "p"] .visits) : FnOk P w K mg base (L2.CX P w) 10 f fd ["desk", "call", "n"] (spOf CB CD CR fun c => [1, 4, 5, 6].contains c) := by
  refine F.okX scOfPlace (fun vs H Q E h => ?_) (fun cdv A outer s H vs Q E hr h => ?_)
  · obtain ⟨F, b, ad, dx, a, dxb, pf, pj, pe, x, vn, rfl, _⟩ := h
    rfl
  have PW : Passes (L2.CX P w) (cxOf (L2.CX P w) P w K mg base ["desk", "call", "n"] "of_place" (defScope sOfPlace) f cdv A outer s H E) E := passes_call (takes_of rfl rfl rfl rfl) (fun _ _ _ _ h => h)
  refine ⟨_, pss_cons (ps_if (pt_cmpR op_eq (pv 1) pe_int (nomark _)) (pss_one (ps_ret (pe_mt T.clD G1 hr PW (pv 0) (pa_cons (pe_ix ix_list (pv 2) pe_int (fun _ _ => rfl)) (pa_cons (pe_ix ix_list (pv 2) pe_int (fun _ _ => rfl)) pa_nil))))) pss_nil)
    (pss_cons (ps_if (pt_cmpR op_eq (pv 1) pe_int (nomark _)) (pss_one (ps_ret (pe_mt T.clD G2 hr PW (pv 0) (pa_cons (pe_ix ix_list (pv 2) pe_int (fun _ _ => rfl)) pa_nil)))) pss_nil)
    (pss_one (ps_ret (pe_ifExp (pt_cmpR op_eq (pv 1) pe_int (nomark _)) (pe_mt T.clD G3 hr PW (pv 0) (pa_cons (pe_ix ix_list (pv 2) pe_int (fun _ _ => rfl)) pa_nil)) (pe_mt T.clD G4 hr PW (pv 0) (pa_cons (pe_ix ix_list (pv 2) pe_int (fun _ _ => rfl)) pa_nil)))))), ?_⟩
  obtain ⟨F, b, ad, dx, a, dxb, pf, pj, pe, x, vn, rfl, D, hn, hok, k⟩ := h
  cases x with
  | lands p q =>
    obtain ⟨c, rfl, fc⟩ := nsv2 hn
    have hc := SqL.of (K := K) (D.s _ _ fc)
    refine ⟨_, rfl, rfl, _, rfl, if_t rfl ⟨_, rfl, ad, dx, _, rfl, D.desk, dF_no _ (by decide +kernel), _, rfl, c, _, _, _, rfl, rfl, hc, rfl, _, rfl, c, _, _, _, rfl, rfl, hc, rfl, ?_⟩⟩
    exact ⟨F, b, ad, dx, a, dxb, pf, pj, pe, p, q, rfl, D, k⟩
  | mean p =>
    obtain ⟨c, rfl, fc⟩ := nsv1 hn
    have hc := SqL.of (K := K) (D.s _ _ fc)
    refine ⟨_, rfl, rfl, _, rfl, if_f rfl ⟨_, rfl, rfl, _, rfl, if_t rfl ⟨_, rfl, ad, dx, _, rfl, D.desk, dF_no _ (by decide +kernel), _, rfl, c, _, _, _, rfl, rfl, hc, rfl, ?_⟩⟩⟩
    exact ⟨F, b, ad, dx, a, dxb, pf, pj, pe, p, rfl, D, k⟩
  | least p =>
    obtain ⟨c, rfl, fc⟩ := nsv1 hn
    have hc := SqL.of (K := K) (D.s _ _ fc)
    refine ⟨_, rfl, rfl, _, rfl, if_f rfl ⟨_, rfl, rfl, _, rfl, if_f rfl ⟨_, rfl, rfl, _, rfl, if_t rfl ⟨_, rfl, ad, dx, _, rfl, D.desk, dF_no _ (by decide +kernel), _, rfl, c, _, _, _, rfl, rfl, hc, rfl, ?_⟩⟩⟩⟩
    exact ⟨F, b, ad, dx, a, dxb, pf, pj, pe, p, rfl, D, k⟩
  | visits p =>
    obtain ⟨c, rfl, fc⟩ := nsv1 hn
    have hc := SqL.of (K := K) (D.s _ _ fc)
    refine ⟨_, rfl, rfl, _, rfl, if_f rfl ⟨_, rfl, rfl, _, rfl, if_f rfl ⟨_, rfl, rfl, _, rfl, if_f rfl ⟨_, rfl, ad, dx, _, rfl, D.desk, dF_no _ (by decide +kernel), _, rfl, c, _, _, _, rfl, rfl, hc, rfl, ?_⟩⟩⟩⟩
    exact ⟨F, b, ad, dx, a, dxb, pf, pj, pe, p, rfl, D, k⟩
  | _ => cases hok
theorem scOfThrows : FnScope ["desk", "call", "n"] ["desk", "call", "n"] (defScope sOfThrows) := ⟨rfl, rfl, rfl, by decide +kernel, rfl, by decide +kernel, by decide +kernel⟩
theorem ok_ofThrows {f : Addr} {fd : FuncData} (F : Fun K "of_throws" "of_throws" sOfThrows f fd) (T : Txt K mg CB CD CR aN aO aM) (G1 : m1G P w K mg base CB CD CR "within" ["self", "t"] .within) (G2 : m2G P w K mg base CB CD CR "at_place" ["self", "t", "p"] .at_) (G3 : m1G P w K mg base CB CD CR "race_told" ["self", "t"] .race) :
    FnOk P w K mg base (L2.CX P w) 10 f fd ["desk", "call", "n"] (spOf CB CD CR fun c => [2, 3, 7].contains c) := by
  refine F.okX scOfThrows (fun vs H Q E h => ?_) (fun cdv A outer s H vs Q E hr h => ?_)
  · obtain ⟨F, b, ad, dx, a, dxb, pf, pj, pe, x, vn, rfl, _⟩ := h
    rfl
  have PW : Passes (L2.CX P w) (cxOf (L2.CX P w) P w K mg base ["desk", "call", "n"] "of_throws" (defScope sOfThrows) f cdv A outer s H E) E := passes_call (takes_of rfl rfl rfl rfl) (fun _ _ _ _ h => h)
  refine ⟨_, pss_cons (ps_if (pt_cmpR op_eq (pv 1) pe_int (nomark _)) (pss_one (ps_ret (pe_mt T.clD G1 hr PW (pv 0) (pa_cons (pe_ix ix_list (pv 2) pe_int (fun _ _ => rfl)) pa_nil)))) pss_nil)
    (pss_one (ps_ret (pe_ifExp (pt_cmpR op_eq (pv 1) pe_int (nomark _)) (pe_mt T.clD G2 hr PW (pv 0) (pa_cons (pe_ix ix_list (pv 2) pe_int (fun _ _ => rfl)) (pa_cons (pe_ix ix_list (pv 2) pe_int (fun _ _ => rfl)) pa_nil))) (pe_mt T.clD G3 hr PW (pv 0) (pa_cons (pe_ix ix_list (pv 2) pe_int (fun _ _ => rfl)) pa_nil))))), ?_⟩
  obtain ⟨F, b, ad, dx, a, dxb, pf, pj, pe, x, vn, rfl, D, hn, hok, k⟩ := h
  cases x with
  | within p =>
    obtain ⟨c, rfl, fc⟩ := nsv1 hn
    have hc := SqL.of (K := K) (D.s _ _ fc)
    refine ⟨_, rfl, rfl, _, rfl, if_t rfl ⟨_, rfl, ad, dx, _, rfl, D.desk, dF_no _ (by decide +kernel), _, rfl, c, _, _, _, rfl, rfl, hc, rfl, ?_⟩⟩
    exact ⟨F, b, ad, dx, a, dxb, pf, pj, pe, p, rfl, D, k⟩
  | at_ p q =>
    obtain ⟨c, rfl, fc⟩ := nsv2 hn
    have hc := SqL.of (K := K) (D.s _ _ fc)
    refine ⟨_, rfl, rfl, _, rfl, if_f rfl ⟨_, rfl, rfl, _, rfl, if_t rfl ⟨_, rfl, ad, dx, _, rfl, D.desk, dF_no _ (by decide +kernel), _, rfl, c, _, _, _, rfl, rfl, hc, rfl, _, rfl, c, _, _, _, rfl, rfl, hc, rfl, ?_⟩⟩⟩
    exact ⟨F, b, ad, dx, a, dxb, pf, pj, pe, p, q, rfl, D, k⟩
  | race p =>
    obtain ⟨c, rfl, fc⟩ := nsv1 hn
    have hc := SqL.of (K := K) (D.s _ _ fc)
    refine ⟨_, rfl, rfl, _, rfl, if_f rfl ⟨_, rfl, rfl, _, rfl, if_f rfl ⟨_, rfl, ad, dx, _, rfl, D.desk, dF_no _ (by decide +kernel), _, rfl, c, _, _, _, rfl, rfl, hc, rfl, ?_⟩⟩⟩
    exact ⟨F, b, ad, dx, a, dxb, pf, pj, pe, p, rfl, D, k⟩
  | _ => cases hok

/-! ### answer -/
def spAnswer (CB CD : Addr) : Sp := fun vs H Q _ => ∃ (F : Hp) (b : Board) (ad dx a dxb pf pj pe : Addr) (x : Call) (vn vr : V), vs = [.ref ad, .int (codeN x : Int), vn, vr] ∧ Dk CB CD F H b ad dx a dxb pf pj pe ∧ NsV (numsN x) vn F ∧ (codeN x = 0 → LsV NsV (rowsN x) vr F) ∧ (∀ r ∈ rowsN x, r.length ≤ 9000) ∧
  ∀ (v : V) (F' H' : Hp) (a' dxb' pf' pj' pe' : Addr), (∀ c o, H c = some o → c ≠ ad → H' c = some o) → Same F F' → (∀ c o, F' c = some o → F c = some o ∨ H c = none) → Dk CB CD F' H' (Uw62.step b x).1 ad dx a' dxb' pf' pj' pe' → IsV (Uw62.step b x).2 v F' → Q v H'
abbrev nAN : List Str := ["desk", "call", "n", "rows", "e"]
theorem scAnswer : FnScope nAN ["desk", "call", "n", "rows"] (defScope sAnswer) := ⟨rfl, rfl, rfl, by decide +kernel, rfl, by decide +kernel, by decide +kernel⟩
/-- the suite: return [e.refusal] -/
def tSuite (CR : Addr) : Addr → Value → Option Addr → TS := fun a cls d => tRet (tLst (tCons (tXf a cls d CR "refusal" (tVar 4)) tNil))
theorem ok_answer {f : Addr} {fd : FuncData} (F : Fun K "answer" "answer" sAnswer f fd) (T : Txt K mg CB CD CR aN aO aM) (R : TxtR K mg CR fI) (GP : MtG P w K mg base (L2.CX P w) 7 CD "put_board" nPB (spPut CB CD CR)) (G1 : FnG P w K mg base (L2.CX P w) 10 "of_place" ["desk", "call", "n"] (spOf CB CD CR fun c => [1, 4, 5, 6].contains c))
    (G2 : FnG P w K mg base (L2.CX P w) 10 "of_throws" ["desk", "call", "n"] (spOf CB CD CR fun c => [2, 3, 7].contains c)) (G3 : MtG P w K mg base (L2.CX P w) 9 CD "better" ["self"] (spM0 CB CD CR .better)) (G4 : m1G P w K mg base CB CD CR "without" ["self", "j"] .without) : FnOk P w K mg base CX0 11 f fd ["desk", "call", "n", "rows"] (spAnswer CB CD) := by
  refine F.ok scAnswer (fun vs H Q E h => ?_) (fun cdv A outer s H vs Q E hr h => ?_)
  · obtain ⟨F, b, ad, dx, a, dxb, pf, pj, pe, x, vn, vr, rfl, _⟩ := h
    rfl
  refine ⟨_, pss_one (ps_try_as (i := 4) (ts := tSuite CR) (Wout := fun _ _ _ _ => False) rfl rfl scAnswer.nd rfl rfl ⟨rfl, by decide, Or.inl R.gR⟩ takes0
    (fun W pn xe tk _ => pss_cons (ps_if (pt_cmpR op_eq (pv 1) (pe_gint T.g_BOARD) (nomark _)) (pss_one (ps_ret (pe_mtS (E := WE W) T.clD GP hr (fun σ => passAt tk σ) (pv 0) (pa_cons (ix_lK K (pv 2) pe_int) (pa_cons (ix_lK K (pv 2) pe_int) (pa_cons (ix_lK K (pv 3) pe_int) (pa_cons (ix_lK K (pv 3) pe_int) pa_nil))))))) pss_nil)
      (pss_cons (ps_if (pt_cmpR (op_inK K) (pv 1) (pe_tup (pa_cons pe_int (pa_cons pe_int (pa_cons pe_int (pa_cons pe_int pa_nil))))) (by rfl)) (pss_one (ps_ret (pe_fnS (E := WE W) G1 hr (fun σ => passAt tk σ) (pa_cons (pv 0) (pa_cons (pv 1) (pa_cons (pv 2) pa_nil)))))) pss_nil)
      (pss_cons (ps_if (pt_cmpR (op_inK K) (pv 1) (pe_tup (pa_cons pe_int (pa_cons pe_int (pa_cons pe_int pa_nil)))) (by rfl)) (pss_one (ps_ret (pe_fnS (E := WE W) G2 hr (fun σ => passAt tk σ) (pa_cons (pv 0) (pa_cons (pv 1) (pa_cons (pv 2) pa_nil)))))) pss_nil)
      (pss_one (ps_ret (pe_ifExp (pt_cmpR op_eq (pv 1) pe_int (nomark _)) (pe_mtS0 (E := WE W) T.clD G3 hr (fun σ => passAt tk σ) (pv 0)) (pe_mtS (E := WE W) T.clD G4 hr (fun σ => passAt tk σ) (pv 0) (pa_cons (ix_lK K (pv 2) pe_int) pa_nil))))))))
    (fun a oe cls d pn hz hf => pss_one (ps_ret (pe_lst (pa_cons (pe_xf R.xf R.noR hz hf (pv 4)) pa_nil))))), ?_⟩
  obtain ⟨F, b, ad, dx, a, dxb, pf, pj, pe, x, vn, vr, rfl, D, hn, hr', hl, k⟩ := h
  have no : ∀ (σ : L2.St) (H1 : Hp), Same H H1 → 4 < σ.length → ∀ (r : Int) (d : Addr) (H' : Hp), Uw62.step b x = (b, [r]) → Same H1 H' → H' d = some (xdOf r) → wAs K (.ref CR) 4 (tSuite CR) (fun _ _ _ _ => False) { nx := fun _ H => Q .non H, rt := Q, bk := fun _ _ => False, ct := fun _ _ => False } (.ref CR) (some d) σ H' := fun σ H1 s1 hσ r d H' e s2 hd => by
    refine ⟨true, R.te, fun _ a0 _ => ?_, fun q => Bool.noConfusion q⟩
    refine ⟨.ref a0, by rw [List.getElem?_set_self hσ], rfl, rfl, d, _, _, rfl, hd, rfl, ?_⟩
    refine ⟨(by show 1 ≤ sizeLine; decide), fun l hl => ?_⟩
    have g : Gr F H F H' := ⟨s1.trans s2, Same.refl _, D.s.trans (s1.trans s2), fun _ _ h => .inl h⟩
    have g' := g.new (o := .lst [.int r]) hl
    refine k _ _ _ a dxb pf pj pe (fun c o hc _ => g'.h _ _ hc) g'.f g'.n ?_ ?_
    · rw [e]; exact D.next g'
    · rw [e]; exact ⟨l, rfl, upd_same⟩
  have ret : codeN x ≠ 0 → ∀ (σ : L2.St) (H1 : Hp), Gr F H F H1 → 4 < σ.length → RetE CR F H1 (Uw62.step b x).2 Q (WE (wAs K (.ref CR) 4 (tSuite CR) (fun _ _ _ _ => False) { nx := fun _ H => Q .non H, rt := Q, bk := fun _ _ => False, ct := fun _ _ => False }) σ) := fun hx σ H1 g hσ => by
    have e1 := step_same b x hx
    refine ⟨fun v F' H' g' hv => ?_, fun r d H' e s2 hd => ?_⟩
    · have g2 := g.trans g'
      exact k _ _ _ a dxb pf pj pe (fun c o hc _ => g2.h _ _ hc) g2.f g2.n (by rw [e1]; exact D.next g2) hv
    · exact no σ H1 g.h hσ r d H' (Prod.ext e1 e) s2 hd
  cases x with
  | board n rule fs js =>
    obtain ⟨c, rfl, fc⟩ := nsv2 hn
    have hc := SqL.of (K := K) (D.s _ _ fc)
    obtain ⟨c2, xs, rfl, f2, l2⟩ := hr' rfl
    have hc2 := SqL.of (K := K) (D.s _ _ f2)
    obtain ⟨y0, e0, r0⟩ := l2.get 0 fs rfl
    obtain ⟨y1, e1, r1⟩ := l2.get 1 js rfl
    have lens : xs.length = 2 := l2.len
    obtain ⟨y0', y1', rfl⟩ : ∃ u v, xs = [u, v] := by
      match xs, lens with
      | [u, v], _ => exact ⟨u, v, rfl⟩
    cases e0
    cases e1
    refine ⟨_, rfl, rfl, _, rfl, if_t rfl ⟨_, rfl, ad, dx, _, rfl, D.desk, dF_no _ (by decide +kernel), _, rfl, c, _, _, _, rfl, rfl, hc, rfl, _, rfl, c, _, _, _, rfl, rfl, hc, rfl, _, rfl, c2, _, _, _, rfl, rfl, hc2, rfl, _, rfl, c2, _, _, _, rfl, rfl, hc2, rfl, ?_⟩⟩
    exact ⟨F, b, ad, dx, a, dxb, pf, pj, pe, n, rule, fs, js, _, _, rfl, D, r0, r1, hl _ (by simp [rowsN]), hl _ (by simp [rowsN]), no _ H (Same.refl _) (by show 4 < 5; decide), k⟩
  | lands p q =>
    have g1 : ∀ {t : Addr}, H t = none → ∀ o, Gr F H F (upd H t o) := fun ht o => (Gr.refl D.s).mut ht
    refine ⟨_, rfl, rfl, _, rfl, if_f rfl ⟨_, rfl, (by show 4 ≤ sizeLine; decide), fun t ht => ⟨t, _, rfl, .inr (SqT.of upd_same), rfl, rfl, _, rfl, if_t rfl ⟨_, rfl, _, rfl, _, rfl, F, b, ad, dx, a, dxb, pf, pj, pe, .lands p q, vn, rfl, D.next (g1 ht _), hn, rfl, ret (by show (1 : Nat) ≠ 0; decide) _ _ (g1 ht _) (by show 4 < 5; decide)⟩⟩⟩⟩
  | mean p =>
    have g1 : ∀ {t : Addr}, H t = none → ∀ o, Gr F H F (upd H t o) := fun ht o => (Gr.refl D.s).mut ht
    refine ⟨_, rfl, rfl, _, rfl, if_f rfl ⟨_, rfl, (by show 4 ≤ sizeLine; decide), fun t ht => ⟨t, _, rfl, .inr (SqT.of upd_same), rfl, rfl, _, rfl, if_t rfl ⟨_, rfl, _, rfl, _, rfl, F, b, ad, dx, a, dxb, pf, pj, pe, .mean p, vn, rfl, D.next (g1 ht _), hn, rfl, ret (by show (4 : Nat) ≠ 0; decide) _ _ (g1 ht _) (by show 4 < 5; decide)⟩⟩⟩⟩
  | least p =>
    have g1 : ∀ {t : Addr}, H t = none → ∀ o, Gr F H F (upd H t o) := fun ht o => (Gr.refl D.s).mut ht
    refine ⟨_, rfl, rfl, _, rfl, if_f rfl ⟨_, rfl, (by show 4 ≤ sizeLine; decide), fun t ht => ⟨t, _, rfl, .inr (SqT.of upd_same), rfl, rfl, _, rfl, if_t rfl ⟨_, rfl, _, rfl, _, rfl, F, b, ad, dx, a, dxb, pf, pj, pe, .least p, vn, rfl, D.next (g1 ht _), hn, rfl, ret (by show (5 : Nat) ≠ 0; decide) _ _ (g1 ht _) (by show 4 < 5; decide)⟩⟩⟩⟩
  | visits p =>
    have g1 : ∀ {t : Addr}, H t = none → ∀ o, Gr F H F (upd H t o) := fun ht o => (Gr.refl D.s).mut ht
    refine ⟨_, rfl, rfl, _, rfl, if_f rfl ⟨_, rfl, (by show 4 ≤ sizeLine; decide), fun t ht => ⟨t, _, rfl, .inr (SqT.of upd_same), rfl, rfl, _, rfl, if_t rfl ⟨_, rfl, _, rfl, _, rfl, F, b, ad, dx, a, dxb, pf, pj, pe, .visits p, vn, rfl, D.next (g1 ht _), hn, rfl, ret (by show (6 : Nat) ≠ 0; decide) _ _ (g1 ht _) (by show 4 < 5; decide)⟩⟩⟩⟩
  | within t1 =>
    have g1 : ∀ {t : Addr}, H t = none → ∀ o, Gr F H F (upd H t o) := fun ht o => (Gr.refl D.s).mut ht
    refine ⟨_, rfl, rfl, _, rfl, if_f rfl ⟨_, rfl, (by show 4 ≤ sizeLine; decide), fun t ht => ⟨t, _, rfl, .inr (SqT.of upd_same), rfl, rfl, _, rfl, if_f rfl ⟨_, rfl, (by show 3 ≤ sizeLine; decide), fun u hu => ⟨u, _, rfl, .inr (SqT.of upd_same), rfl, rfl, _, rfl, if_t rfl ⟨_, rfl, _, rfl, _, rfl, F, b, ad, dx, a, dxb, pf, pj, pe, .within t1, vn, rfl, D.next ((g1 ht _).mut hu), hn, rfl, ret (by show (2 : Nat) ≠ 0; decide) _ _ ((g1 ht _).mut hu) (by show 4 < 5; decide)⟩⟩⟩⟩⟩⟩
  | at_ t1 p =>
    have g1 : ∀ {t : Addr}, H t = none → ∀ o, Gr F H F (upd H t o) := fun ht o => (Gr.refl D.s).mut ht
    refine ⟨_, rfl, rfl, _, rfl, if_f rfl ⟨_, rfl, (by show 4 ≤ sizeLine; decide), fun t ht => ⟨t, _, rfl, .inr (SqT.of upd_same), rfl, rfl, _, rfl, if_f rfl ⟨_, rfl, (by show 3 ≤ sizeLine; decide), fun u hu => ⟨u, _, rfl, .inr (SqT.of upd_same), rfl, rfl, _, rfl, if_t rfl ⟨_, rfl, _, rfl, _, rfl, F, b, ad, dx, a, dxb, pf, pj, pe, .at_ t1 p, vn, rfl, D.next ((g1 ht _).mut hu), hn, rfl, ret (by show (3 : Nat) ≠ 0; decide) _ _ ((g1 ht _).mut hu) (by show 4 < 5; decide)⟩⟩⟩⟩⟩⟩
  | race t1 =>
    have g1 : ∀ {t : Addr}, H t = none → ∀ o, Gr F H F (upd H t o) := fun ht o => (Gr.refl D.s).mut ht
    refine ⟨_, rfl, rfl, _, rfl, if_f rfl ⟨_, rfl, (by show 4 ≤ sizeLine; decide), fun t ht => ⟨t, _, rfl, .inr (SqT.of upd_same), rfl, rfl, _, rfl, if_f rfl ⟨_, rfl, (by show 3 ≤ sizeLine; decide), fun u hu => ⟨u, _, rfl, .inr (SqT.of upd_same), rfl, rfl, _, rfl, if_t rfl ⟨_, rfl, _, rfl, _, rfl, F, b, ad, dx, a, dxb, pf, pj, pe, .race t1, vn, rfl, D.next ((g1 ht _).mut hu), hn, rfl, ret (by show (7 : Nat) ≠ 0; decide) _ _ ((g1 ht _).mut hu) (by show 4 < 5; decide)⟩⟩⟩⟩⟩⟩
  | better =>
    have g1 : ∀ {t : Addr}, H t = none → ∀ o, Gr F H F (upd H t o) := fun ht o => (Gr.refl D.s).mut ht
    refine ⟨_, rfl, rfl, _, rfl, if_f rfl ⟨_, rfl, (by show 4 ≤ sizeLine; decide), fun t ht => ⟨t, _, rfl, .inr (SqT.of upd_same), rfl, rfl, _, rfl, if_f rfl ⟨_, rfl, (by show 3 ≤ sizeLine; decide), fun u hu => ⟨u, _, rfl, .inr (SqT.of upd_same), rfl, rfl, _, rfl, if_f rfl ⟨_, rfl, rfl, _, rfl, if_t rfl ⟨_, rfl, ad, dx, _, rfl, (D.next ((g1 ht _).mut hu)).desk, dF_no _ (by decide +kernel), F, b, ad, dx, a, dxb, pf, pj, pe, rfl, D.next ((g1 ht _).mut hu), ret (by show (8 : Nat) ≠ 0; decide) _ _ ((g1 ht _).mut hu) (by show 4 < 5; decide)⟩⟩⟩⟩⟩⟩⟩
  | without j =>
    have g1 : ∀ {t : Addr}, H t = none → ∀ o, Gr F H F (upd H t o) := fun ht o => (Gr.refl D.s).mut ht
    obtain ⟨c, rfl, fc⟩ := nsv1 hn
    refine ⟨_, rfl, rfl, _, rfl, if_f rfl ⟨_, rfl, (by show 4 ≤ sizeLine; decide), fun t ht => ⟨t, _, rfl, .inr (SqT.of upd_same), rfl, rfl, _, rfl, if_f rfl ⟨_, rfl, (by show 3 ≤ sizeLine; decide), fun u hu => ⟨u, _, rfl, .inr (SqT.of upd_same), rfl, rfl, _, rfl, if_f rfl ⟨_, rfl, rfl, _, rfl, if_f rfl ⟨_, rfl, ad, dx, _, rfl, (D.next ((g1 ht _).mut hu)).desk, dF_no _ (by decide +kernel), _, rfl, c, _, _, _, rfl, rfl, SqL.of (((g1 ht _).mut hu).s _ _ fc), rfl, F, b, ad, dx, a, dxb, pf, pj, pe, j, rfl, D.next ((g1 ht _).mut hu), ret (by show (9 : Nat) ≠ 0; decide) _ _ ((g1 ht _).mut hu) (by show 4 < 5; decide)⟩⟩⟩⟩⟩⟩⟩
end
end LS

namespace LS
open PySem PySem.Spec PyProof.Rows L2
open Uw62 (Board Frac Call)
abbrev sLists : Stmt := topS 61
abbrev sAnswers : Stmt := topS 62
/-! ### lists_from -/
theorem same_L {K : PySem.W.Frag} {H H' : Hp} {a : Addr} {xs : List V} (e : Same H H') (h : SqL K H a xs) : SqL K H' a xs := e.seq h
/-- l[i:i+k], as it is told -/
theorem cut_of {l : List Int} {i k : Nat} {r : List Nat} (hk : (l.drop i).take k = ofNats r) (hr : r.length = k) : cutV (l.map V.int) (some (i : Int)) (some ((i + k : Nat) : Int)) = (ofNats r).map V.int := by
  have hle : i + k ≤ l.length ∨ k = 0 := by
    have h := congrArg List.length hk
    rw [List.length_take, List.length_drop, show (ofNats r).length = r.length by simp [ofNats], hr] at h
    omega
  unfold cutV
  rw [HT.sIx_nat, HT.sIx_nat, List.length_map, ← hk]
  rcases hle with hle | hle
  · rw [Nat.min_eq_left (by omega), Nat.min_eq_left (by omega), show i + k - i = k by omega, List.map_take, List.map_drop]
  · subst hle
    rw [show min (i + 0) l.length - min i l.length = 0 by omega]
    rfl
section
variable {P : Program} {w : World} {K : PySem.W.Frag} {mg : Str → Option Value} {base : Heap} {CB CD CR aN aO aM fI : Addr}
def spLists (K : PySem.W.Frag) : Sp := fun vs H Q _ => ∃ (F : Hp) (a : Addr) (l : List Int) (p : Nat) (fs js : List Nat), vs = [.ref a, .int (p : Int)] ∧ Same F H ∧ SqL K F a (l.map V.int) ∧ l[p]? = some (fs.length : Int) ∧ (l.drop (p + 1)).take fs.length = ofNats fs ∧
  l[p + 1 + fs.length]? = some (js.length : Int) ∧ (l.drop (p + 2 + fs.length)).take js.length = ofNats js ∧ Ret F H (fun v F => ∃ t c, v = .ref t ∧ SqT K F t [c, .int ((p + 2 + fs.length + js.length : Nat) : Int)] ∧ LsV NsV [fs, js] c F) Q
abbrev nLF : List Str := ["calls", "at", "found", "turn", "behind"]
theorem scLists : FnScope nLF ["calls", "at"] (defScope sLists) := ⟨rfl, rfl, rfl, by decide +kernel, rfl, by decide +kernel, by decide +kernel⟩
theorem ok_lists {f : Addr} {fd : FuncData} (F : Fun K "lists_from" "lists_from" sLists f fd) (T : Txt K mg CB CD CR aN aO aM) : FnOk P w K mg base CX0 1 f fd ["calls", "at"] (spLists K) := by
  refine F.ok scLists (fun vs H Q E h => ?_) (fun cdv A outer s H vs Q E hr h => ?_)
  · obtain ⟨F, a, l, p, fs, js, rfl, _⟩ := h
    rfl
  refine ⟨_, pss_cons (ps_set (i := 2) scLists.nd rfl (Or.inl rfl) (pe_lst pa_nil))
    (pss_cons (ps_for PassesOwn.never rfl (pi_range1 (by rfl) T.n_range (pa_cons pe_int pa_nil)) (pg_name (i := 3) scLists.nd rfl (Or.inl rfl))
      (pss_cons (ps_set (i := 4) scLists.nd rfl (Or.inl rfl) (pe_op op_add (pe_op op_add (pv 1) pe_int) (pe_ix ix_list (pv 0) (pv 1) (fun _ _ => rfl))))
      (pss_cons (ps_expr (pe_bm PySem.F.plainAttrs_list PySem.F.slot_list_append PySem.F.type_list_append mt_append (pv 2) (pa_cons (pe_slice sl_list (pv 0) (po_some (pe_op op_add (pv 1) pe_int)) (po_some (pv 4))) pa_nil)))
      (pss_one (ps_set (i := 1) scLists.nd rfl (Or.inl rfl) (pv 4))))))
    (pss_one (ps_ret (pe_tup (pa_cons (pv 2) (pa_cons (pv 1) pa_nil)))))), ?_⟩
  obtain ⟨F, a, l, p, fs, js, rfl, sF, ha, h0, h1, h2, h3, k⟩ := h
  refine ⟨(by show 0 ≤ sizeLine; decide), fun d hd => ?_⟩
  have at_ : ∀ j, j < 2 → ∃ r q, ([fs, js] : List (List Nat))[j]? = some r ∧ (if j = 0 then p else if j = 1 then p + 1 + fs.length else p + 2 + fs.length + js.length) = q ∧ (if j + 1 = 0 then p else if j + 1 = 1 then p + 1 + fs.length else p + 2 + fs.length + js.length) = q + 1 + r.length ∧ l[q]? = some (r.length : Int) ∧ (l.drop (q + 1)).take r.length = ofNats r := by
    intro j hj
    match j, hj with
    | 0, _ => exact ⟨fs, p, rfl, rfl, rfl, h0, h1⟩
    | 1, _ => exact ⟨js, p + 1 + fs.length, rfl, rfl, by show p + 2 + fs.length + js.length = _; omega, h2, by rw [show p + 1 + fs.length + 1 = p + 2 + fs.length by omega]; exact h3⟩
  refine ⟨_, rfl, by decide, by decide, for_it walk_range (fun j σ H' => ∃ F' ys o3 o4, Gr F H F' H' ∧ F' d = none ∧ σ = [some (.ref a), some (.int ((if j = 0 then p else if j = 1 then p + 1 + fs.length else p + 2 + fs.length + js.length : Nat) : Int)), some (.ref d), o3, o4] ∧ H' d = some (.lst ys) ∧ L2R NsV F' ([fs, js].take j) ys)
    ⟨F, [], none, none, (Gr.refl sF).mut hd, sF.free hd, rfl, upd_same, L2R.nil⟩ (fun _ _ _ _ _ => trivial) ?_ ?_⟩
  · rintro j x σ H' H'' hj ⟨F', ys, o3, o4, gr, fd', rfl, hd', rys⟩ ⟨rfl, rfl⟩
    obtain ⟨r, q, e1, e2, e3, e4, e5⟩ := at_ j hj
    rw [e2]
    have ha' := same_L (gr.f.trans gr.s) ha
    refine ⟨_, rfl, _, _, rfl, rfl, _, rfl, _, rfl, a, _, _, V.int (r.length : Int), rfl, rfl, ha', atI_nat (by rw [List.getElem?_map, e4]; rfl), _, _, rfl, rfl, ?_⟩
    refine ⟨_, rfl, .inl ⟨rfl, _, SqL.of hd'⟩, _, rfl, _, rfl, _, _, rfl, rfl, _, rfl, _, rfl, _, rfl, a, _, rfl, ha', fun t ht => ?_⟩
    have ecut : cutV (l.map V.int) (some ((q : Int) + 1)) (some ((q : Int) + 1 + (r.length : Int))) = (ofNats r).map V.int := by
      have := cut_of e5 rfl
      rw [show ((q : Int) + 1) = ((q + 1 : Nat) : Int) by omega, show ((((q + 1 : Nat) : Int)) + (r.length : Int)) = ((q + 1 + r.length : Nat) : Int) by omega]
      exact this
    rw [ecut]
    have g1 := gr.new (o := .lst ((ofNats r).map V.int)) ht
    have ntd : d ≠ t := ne_of_none hd' ht
    have hd1 : upd H'' t (.lst ((ofNats r).map V.int)) d = some (.lst ys) := by rw [upd_ne ntd]; exact hd'
    have fd1 : upd F' t (.lst ((ofNats r).map V.int)) d = none := by rw [upd_ne ntd]; exact fd'
    refine ⟨d, ys, _, rfl, rfl, hd1, ?_, ?_⟩
    · have := rys.len
      rw [List.length_take] at this
      have h2 : ([fs, js] : List (List Nat)).length = 2 := rfl
      exact small_line (by omega)
    refine ⟨_, rfl, _, ys ++ [.ref t], some (.int (0 + (j : Int))), some (.int ((q : Int) + 1 + (r.length : Int))), g1.set hd fd1, fd1, ?_, upd_same, ?_⟩
    · rw [e3, show ((q + 1 + r.length : Nat) : Int) = (q : Int) + 1 + (r.length : Int) by omega]
      rfl
    · rw [take_snoc e1]
      exact (rys.mono (LsV.mono NatR.mono) (same_new (gr.s.free ht))).snoc (NsV.of upd_same)
  · rintro σ H' ⟨F', ys, o3, o4, gr, fd', rfl, hd', rys⟩
    refine ⟨_, rfl, _, rfl, (by show 2 ≤ sizeLine; decide), fun t ht => ?_⟩
    have g1 := gr.know hd hd' fd'
    have g2 := g1.new (o := .tup [.ref d, .int ((p + 2 + fs.length + js.length : Nat) : Int)]) ht
    have s2 := same_new (o := .tup [.ref d, .int ((p + 2 + fs.length + js.length : Nat) : Int)]) (g1.s.free ht)
    refine k _ _ _ g2 ⟨t, .ref d, rfl, SqT.of upd_same, ?_⟩
    exact ⟨d, ys, rfl, s2 _ _ upd_same, rys.mono (LsV.mono NatR.mono) ((same_new fd').trans s2)⟩
end
end LS

namespace LS
open PySem PySem.Spec PyProof.Rows L2
open Uw62 (Board Frac Call)
/-! ### what a call reads and how much it answers -/
theorem orElse_len (o : Option Frac) (no : Int) : (Uw62.orElse o no).length ≤ 7 := by
  unfold Uw62.orElse Uw62.fracOut
  split <;> simp
theorem step_len (b : Board) (x : Call) : (Uw62.step b x).2.length ≤ 7 := by
  cases x with
  | board n rule fs js =>
    rw [step_board]
    repeat' split
    all_goals simp
  | lands p f => show (if b.n ≤ p then [-5] else if 12 < f then [-1] else [(Uw62.lands b p f : Int)]).length ≤ 7; (repeat' split) <;> simp
  | within t => show (if 20 < t then [-1] else 0 :: Uw62.fracOut (Uw62.within b t)).length ≤ 7; unfold Uw62.fracOut; (repeat' split) <;> simp
  | at_ t p => show (if 20 < t then [-1] else if b.n < p then [-5] else 0 :: Uw62.fracOut (Uw62.chance b t p)).length ≤ 7; unfold Uw62.fracOut; (repeat' split) <;> simp
  | mean p =>
    show (if b.n < p then [-5] else Uw62.orElse (Uw62.meanOf b p) (-6)).length ≤ 7
    split
    · simp
    · exact orElse_len _ _
  | least p =>
    show (if b.n < p then [-5] else match Uw62.least b p with
      | none => [-7]
      | some x => Uw62.ints [x.1, x.2]).length ≤ 7
    unfold Uw62.ints
    repeat' split
    all_goals simp
  | visits p =>
    show (if b.n < p then [-5] else Uw62.orElse (Uw62.visitsOf b p) (-6)).length ≤ 7
    split
    · simp
    · exact orElse_len _ _
  | race t => show (if 6 < t then [-1] else 0 :: (Uw62.fracOut (Uw62.race b t).1 ++ (Uw62.fracOut (Uw62.race b t).2.1 ++ Uw62.fracOut (Uw62.race b t).2.2))).length ≤ 7; unfold Uw62.fracOut; (repeat' split) <;> simp
  | better =>
    show (match Uw62.meanOf b 0 with
      | none => [-6]
      | some now => match Uw62.better b now with
        | none => [-8]
        | some x => Uw62.ints [0, x.1, x.2.1] ++ Uw62.fracOut x.2.2).length ≤ 7
    unfold Uw62.ints Uw62.fracOut
    repeat' split
    all_goals simp
  | without j =>
    show (if b.jumps.length ≤ j then [-9] else Uw62.orElse (Uw62.meanOf { b with jumps := b.jumps.eraseIdx j } 0) (-6)).length ≤ 7
    split
    · simp
    · exact orElse_len _ _
theorem take_one {l : List Int} {i : Nat} {x : Int} (h : l[i]? = some x) : (l.drop i).take 1 = [x] := by
  obtain ⟨hi, e⟩ := List.getElem?_eq_some_iff.mp h
  rw [List.drop_eq_getElem_cons hi, e]
  rfl
theorem take_two {l : List Int} {i : Nat} {x y : Int} (h : l[i]? = some x) (h' : l[i + 1]? = some y) : (l.drop i).take 2 = [x, y] := by
  obtain ⟨hi, e⟩ := List.getElem?_eq_some_iff.mp h
  obtain ⟨hj, e'⟩ := List.getElem?_eq_some_iff.mp h'
  rw [List.drop_eq_getElem_cons hi, List.drop_eq_getElem_cons hj, e, e']
  rfl
/-- the numbers of a call, where they lie -/
theorem rd_nums {l : List Int} {p p' : Nat} {x : Call} (h : Rd l p p' x) : l[p]? = some (codeN x : Int) ∧ (l.drop (p + 1)).take (numsN x).length = ofNats (numsN x) ∧ (codeN x ≠ 0 → p' = p + 1 + (numsN x).length) := by
  cases x with
  | board n rule fs js => exact ⟨h.1, take_two h.2.1 h.2.2.1, fun e => absurd rfl e⟩
  | lands a b => exact ⟨h.1, take_two h.2.1 h.2.2.1, fun _ => h.2.2.2⟩
  | at_ a b => exact ⟨h.1, take_two h.2.1 h.2.2.1, fun _ => h.2.2.2⟩
  | better => exact ⟨h.1, rfl, fun _ => h.2⟩
  | within a => exact ⟨h.1, take_one h.2.1, fun _ => h.2.2⟩
  | mean a => exact ⟨h.1, take_one h.2.1, fun _ => h.2.2⟩
  | least a => exact ⟨h.1, take_one h.2.1, fun _ => h.2.2⟩
  | visits a => exact ⟨h.1, take_one h.2.1, fun _ => h.2.2⟩
  | race a => exact ⟨h.1, take_one h.2.1, fun _ => h.2.2⟩
  | without a => exact ⟨h.1, take_one h.2.1, fun _ => h.2.2⟩
theorem numbers_at (x : Call) : atI [V.int 2, .int 2, .int 1, .int 2, .int 1, .int 1, .int 1, .int 1, .int 0, .int 1] (codeN x : Int) = some (.int ((numsN x).length : Int)) := by cases x <;> rfl
theorem codeN_rows {x : Call} (h : codeN x ≠ 0) : rowsN x = [] := by
  cases x <;> first | rfl | exact absurd rfl h
theorem take_len {l : List Int} {i : Nat} {r : List Nat} (h : (l.drop i).take r.length = ofNats r) : r.length ≤ l.length := by
  have h := congrArg List.length h
  rw [List.length_take, List.length_drop, show (ofNats r).length = r.length by simp [ofNats]] at h
  omega
theorem Dk.set {CB CD : Addr} {F H : Hp} {b : Board} {ad dx a dxb pf pj pe d : Addr} {o : HO} (k : Dk CB CD F H b ad dx a dxb pf pj pe) (hd : F d = none) (hne : d ≠ ad) : Dk CB CD F (upd H d o) b ad dx a dxb pf pj pe :=
  ⟨fun c o e => by rw [upd_ne (ne_of_none e hd)]; exact k.s _ _ e, by rw [upd_ne (Ne.symm hne)]; exact k.desk, k.nf, k.bd, k.g⟩
section
variable {P : Program} {w : World} {K : PySem.W.Frag} {mg : Str → Option Value} {base : Heap} {CB CD CR aN aO aM fI : Addr}
theorem pe_mk0 {X : Cx} {k j : Nat} {C : Addr} {ps : List Str} {sp : Sp} {x : Str} {p pos : Pos} (G : MkG X.prog X.w X.K X.mg X.base k C ps sp) (hr : Room j X.A) (hm : X.mg x = some (.ref C)) (hkj : k + 1 ≤ j := by decide) (hg : Gl X x := by rfl) (hdb : (x == ("__debug__" : Str)) = false := by decide) :
    PE X (.Call (.Name x p) [] [] pos) (tMake C sp [] E0 tNil) := by
  obtain ⟨f, fd, h1, h2, h3⟩ := G
  exact pe_make0 h1 h3 (hr.mono hkj) hg hm h2 .nil pass0 hdb
def spAns (K : PySem.W.Frag) : Sp := fun vs H Q _ => ∃ (a : Addr) (l : List Int), vs = [.ref a] ∧ SqL K H a (l.map V.int) ∧ l.length ≤ 8000 ∧ PyUw62.answers_asked l = true ∧ ∀ (H' : Hp) (p : Addr), H' p = some (.lst ((PyUw62.answers l).map V.int)) → Q (.ref p) H'
abbrev nAS : List Str := ["calls", "desk", "found", "at", "call", "behind", "n", "rows", "one"]
theorem scAnswers : FnScope nAS ["calls"] (defScope sAnswers) := ⟨rfl, rfl, rfl, by decide +kernel, rfl, by decide +kernel, by decide +kernel⟩
theorem ok_answers {f : Addr} {fd : FuncData} (F : Fun K "answers" "answers" sAnswers f fd) (T : Txt K mg CB CD CR aN aO aM) (GD : MkG P w K mg base 3 CD ["self"] (spDInit CB CD)) (GL : FnG P w K mg base CX0 1 "lists_from" ["calls", "at"] (spLists K)) (GA : FnG P w K mg base CX0 11 "answer" ["desk", "call", "n", "rows"] (spAnswer CB CD)) :
    FnOk P w K mg base CX0 12 f fd ["calls"] (spAns K) := by
  refine F.ok scAnswers (fun vs H Q E h => ?_) (fun cdv A outer s H vs Q E hr h => ?_)
  · obtain ⟨a, l, rfl, _⟩ := h
    rfl
  refine ⟨_, pss_cons (ps_set (i := 1) scAnswers.nd rfl (Or.inl rfl) (pe_mk0 GD hr T.gD)) (pss_cons (ps_set (i := 2) scAnswers.nd rfl (Or.inl rfl) (pe_lst pa_nil)) (pss_cons (ps_set (i := 3) scAnswers.nd rfl (Or.inl rfl) pe_int)
    (pss_cons (ps_while PassesOwn.never (pt_cmpR op_lt (pv 3) (pe_callB call_len_seq (by rfl) T.n_len (by decide +kernel) (pa_cons (pv 0) pa_nil)) (nomark _))
      (pss_cons (ps_set (i := 4) scAnswers.nd rfl (Or.inl rfl) (pe_ix ix_list (pv 0) (pv 3) (fun _ _ => rfl)))
      (pss_cons (ps_set (i := 5) scAnswers.nd rfl (Or.inl rfl) (pe_op op_add (pe_op op_add (pv 3) pe_int) (pe_ix ix_tup (pe_gref T.gM) (pv 4) (fun _ _ => rfl))))
      (pss_cons (ps_set (i := 6) scAnswers.nd rfl (Or.inl rfl) (pe_slice sl_list (pv 0) (po_some (pe_op op_add (pv 3) pe_int)) (po_some (pv 5))))
      (pss_cons (ps_set (i := 7) scAnswers.nd rfl (Or.inl rfl) (pe_lst pa_nil))
      (pss_cons (ps_if (pt_cmpR op_eq (pv 4) (pe_gint T.g_BOARD) (nomark _)) (pss_one (ps_asg (pe_fn GL hr pass0 (pa_cons (pv 0) (pa_cons (pv 5) pa_nil))) (pg_tup rfl (pgs_cons (pg_name (i := 7) scAnswers.nd rfl (Or.inl rfl)) (pgs_cons (pg_name (i := 5) scAnswers.nd rfl (Or.inl rfl)) pgs_nil))))) pss_nil)
      (pss_cons (ps_set (i := 8) scAnswers.nd rfl (Or.inl rfl) (pe_fn GA hr pass0 (pa_cons (pv 1) (pa_cons (pv 4) (pa_cons (pv 6) (pa_cons (pv 7) pa_nil))))))
      (pss_cons (ps_expr (pe_bm PySem.F.plainAttrs_list PySem.F.slot_list_append PySem.F.type_list_append mt_append (pv 2) (pa_cons (pe_callB call_len_seq (by rfl) T.n_len (by decide +kernel) (pa_cons (pv 8) pa_nil)) pa_nil)))
      (pss_cons (ps_expr (pe_bm PySem.F.plainAttrs_list PySem.F.slot_list_extend PySem.F.type_list_extend mt_extend (pv 2) (pa_cons (pv 8) pa_nil)))
      (pss_one (ps_set (i := 3) scAnswers.nd rfl (Or.inl rfl) (pv 5))))))))))))
    (pss_one (ps_ret (pv 2)))))), ?_⟩
  obtain ⟨a, l, rfl, ha, hl, hask, k⟩ := h
  obtain ⟨rest0, A0⟩ := asked_of hask
  rw [A0.ans] at k
  intro ad dx had hdx hne
  refine ⟨H, ad, dx, rfl, ?_, upd_same, had, fun F1 H1 ab dxb pf pj pe k1 k2 k3 D1 => ⟨rfl, ?_⟩⟩
  · intro c o e
    rw [upd_ne (ne_of_none e had), upd_ne (ne_of_none e hdx)]
    exact e
  refine ⟨(by show 0 ≤ sizeLine; decide), fun d hd => ?_⟩
  have hda : d ≠ ad := fun e => by subst e; rw [D1.desk] at hd; cases hd
  have fd1 : F1 d = none := D1.s.free hd
  refine ⟨fun m σ H' => ∃ F' b rest g p out ab dxb pf pj pe o4 o5 o6 o7 o8, rest.length = m ∧ σ = [some (.ref a), some (.ref ad), some (.ref d), some (.int ((p : Nat) : Int)), o4, o5, o6, o7, o8] ∧ Dk CB CD F' H' b ad dx ab dxb pf pj pe ∧ SqL K F' a (l.map V.int) ∧ F' d = none ∧ H' d = some (.lst (out.map V.int)) ∧
    PyFlat.calls PyUw62.shape g (l.drop p) = some rest ∧ (∀ c ∈ rest, (Uw62Neutral.callOf ((PyUw62.whole c).headD [])).isSome = true) ∧ out ++ told b rest = told Uw62.first rest0 ∧ out.length + 8 * rest.length ≤ 320, ⟨_, F1, Uw62.first, rest0, _, 0, [], ab, dxb, pf, pj, pe, none, none, none, none, none, rfl, rfl, D1.set fd1 hda, same_L k2 ha, fd1, upd_same, A0.calls, A0.each, rfl, ?_⟩, ?_⟩
  · have := A0.few
    show 0 + 8 * rest0.length ≤ 320
    omega
  rintro m σ H' ⟨F', b, rest, g, p, out, ab, dxb, pf, pj, pe, o4, o5, o6, o7, o8, rfl, rfl, D, ha', fd', hd', hcalls, heach, hout, hlen⟩
  have haH := same_L D.s ha'
  refine ⟨_, rfl, _, rfl, a, _, rfl, .inl haH, _, _, rfl, rfl, _, rfl, ?_⟩
  rw [List.length_map]
  refine if_b (fun hc => ?_) (fun hc => ?_)
  rotate_left
  · have hc' : l.length ≤ p := by
      have := of_decide_eq_false hc
      omega
    have er := calls_end hc' hcalls
    subst er
    rw [told_nil, List.append_nil] at hout
    subst hout
    exact ⟨_, rfl, k _ _ hd'⟩
  have hp : p < l.length := by
    have := of_decide_eq_true hc
    omega
  obtain ⟨c, cs, g', p', x, rfl, hcs, hpp, hx, hR⟩ := turn_read hp hcalls heach
  obtain ⟨e1, e2, e3⟩ := rd_nums hR
  refine ⟨fun σ' H'' => ∃ F'' b out ab dxb pf pj pe o4 o5 o6 o7 o8, σ' = [some (.ref a), some (.ref ad), some (.ref d), some (.int ((p' : Nat) : Int)), o4, o5, o6, o7, o8] ∧ Dk CB CD F'' H'' b ad dx ab dxb pf pj pe ∧ SqL K F'' a (l.map V.int) ∧ F'' d = none ∧ H'' d = some (.lst (out.map V.int)) ∧
    out ++ told b cs = told Uw62.first rest0 ∧ out.length + 8 * cs.length ≤ 320, ?_, ?_⟩
  · rintro σ' H'' ⟨F'', b, out, ab, dxb, pf, pj, pe, o4, o5, o6, o7, o8, rfl, h1, h2, h3, h4, h5, h6⟩
    exact ⟨cs.length, Nat.lt_succ_self _, F'', b, cs, g', p', out, ab, dxb, pf, pj, pe, o4, o5, o6, o7, o8, rfl, rfl, h1, h2, h3, h4, hcs, fun c hc => heach c (List.mem_cons_of_mem _ hc), h5, h6⟩
  -- call, behind, n, rows
  refine ⟨_, rfl, _, rfl, a, _, _, V.int (codeN x : Int), rfl, rfl, haH, atI_nat (by rw [List.getElem?_map, e1]; rfl), ?_⟩
  refine ⟨_, rfl, _, _, rfl, rfl, _, rfl, aM, _, _, _, rfl, rfl, T.tM _, numbers_at x, _, _, rfl, rfl, ?_⟩
  refine ⟨_, rfl, _, rfl, _, _, rfl, rfl, _, rfl, _, rfl, _, rfl, a, _, rfl, haH, fun t6 ht6 => ?_⟩
  have ecut : cutV (l.map V.int) (some ((p : Int) + 1)) (some ((p : Int) + 1 + ((numsN x).length : Int))) = (ofNats (numsN x)).map V.int := by
    have := cut_of e2 rfl
    rw [show ((p : Int) + 1) = ((p + 1 : Nat) : Int) by omega, show ((((p + 1 : Nat) : Int)) + ((numsN x).length : Int)) = ((p + 1 + (numsN x).length : Nat) : Int) by omega]
    exact this
  rw [ecut]
  have g6 := (Gr.refl D.s).new (o := .lst ((ofNats (numsN x)).map V.int)) ht6
  refine ⟨(by show 0 ≤ sizeLine; decide), fun t7 ht7 => ?_⟩
  have g7 := g6.mut (o := .lst []) ht7
  have hs7 := step_len b x
  rw [List.length_cons] at hlen
  have n6 : NsV (numsN x) (.ref t6) (upd F' t6 (.lst ((ofNats (numsN x)).map V.int))) := NsV.of upd_same
  refine ⟨_, rfl, rfl, _, rfl, ?_⟩
  by_cases hx0 : codeN x = 0
  · refine if_t (by cases x <;> first | rfl | cases hx0) ?_
    obtain ⟨n, rule, fs, js, rfl⟩ : ∃ n rule fs js, x = .board n rule fs js := by
      cases x <;> first | exact ⟨_, _, _, _, rfl⟩ | cases hx0
    obtain ⟨r0, r1, r2, r3, r4, r5, r6, r7⟩ := hR
    have hrl : ∀ r ∈ rowsN (.board n rule fs js), r.length ≤ 9000 := fun r hr' => by
      have h1 := take_len r4
      have h2 := take_len r6
      have h3 : r = fs ∨ r = js := by simpa [rowsN] using hr'
      rcases h3 with rfl | rfl <;> omega
    refine ⟨_, rfl, _, rfl, upd F' t6 (.lst ((ofNats (numsN (.board n rule fs js))).map V.int)), a, l, p + 3, fs, js, ?_, g7.s, same_L g7.f ha', r3, r4, ?_, ?_, fun v8 F8 H8 g8 hv8 => ?_⟩
    · show [V.ref a, V.int ((p : Int) + 1 + 2)] = [V.ref a, V.int ((p + 3 : Nat) : Int)]
      rw [show (p : Int) + 1 + 2 = ((p + 3 : Nat) : Int) by omega]
    · rw [show p + 3 + 1 + fs.length = p + 4 + fs.length by omega]
      exact r5
    · rw [show p + 3 + 2 + fs.length = p + 5 + fs.length by omega]
      exact r6
    obtain ⟨t8, c8, rfl, s8, l8⟩ := hv8
    refine ⟨t8, _, rfl, same_T g8.s s8, rfl, _, _, rfl, _, _, rfl, rfl, ?_⟩
    have g9 := g7.trans g8
    have hn2 := LsV.mono NatR.mono _ _ _ _ g8.f n6
    have hrows : codeN (.board n rule fs js) = 0 → LsV NsV (rowsN (.board n rule fs js)) c8 F8 := fun _ => l8
    have hpn : ((p + 3 + 2 + fs.length + js.length : Nat) : Int) = (p' : Int) := by omega
    have hd2 := g9.h _ _ hd'
    have fd2 := g9.none hd' fd'
    refine ⟨_, rfl, _, rfl, _, rfl, _, rfl, F8, b, ad, dx, ab, dxb, pf, pj, pe, .board n rule fs js, _, c8, rfl, D.next g9, hn2, hrows, hrl, fun v F3 H3 ab3 dxb3 pf3 pj3 pe3 j1 j2 j3 D3 hv => ?_⟩
    obtain ⟨e, rfl, fe⟩ := hv
    have hd3 := j1 d _ hd2 hda
    have fd3 : F3 d = none := by
      cases q : F3 d with
      | none => rfl
      | some o =>
        rcases j3 d o q with h | h
        · rw [fd2] at h; cases h
        · rw [hd2] at h; cases h
    have ned : e ≠ d := ne_of_none fe fd3
    refine ⟨_, rfl, .inl ⟨rfl, _, SqL.of hd3⟩, _, rfl, e, _, rfl, .inl (SqL.of (D3.s _ _ fe)), d, _, _, rfl, rfl, hd3, ?_, ?_⟩
    · rw [List.length_map]
      exact small_line (by omega)
    refine ⟨_, rfl, .inl ⟨rfl, _, SqL.of upd_same⟩, _, rfl, d, e, _, _, rfl, rfl, upd_same, (by rw [upd_ne ned]; exact D3.s _ _ fe), ?_, ?_⟩
    · refine Nat.le_of_lt (small_line ?_)
      rw [List.length_append, List.length_map, List.length_map, List.length_singleton]
      omega
    refine ⟨_, rfl, F3, (Uw62.step b (.board n rule fs js)).1, out ++ (((Uw62.step b (.board n rule fs js)).2.length : Int) :: (Uw62.step b (.board n rule fs js)).2), ab3, dxb3, pf3, pj3, pe3, some (.int (codeN (.board n rule fs js) : Int)), some (.int (p' : Int)), some (.ref t6), some c8, some (.ref e), ?_, (D3.set fd3 hda).set fd3 hda, same_L (g9.f.trans j2) ha', fd3, ?_, ?_, ?_⟩
    · show [some (V.ref a), some (V.ref ad), some (V.ref d), some (V.int ((p + 3 + 2 + fs.length + js.length : Nat) : Int)), some (V.int (codeN (.board n rule fs js) : Int)), some (V.int ((p + 3 + 2 + fs.length + js.length : Nat) : Int)), some (V.ref t6), some c8, some (V.ref e)] = _
      rw [hpn]
    · rw [upd_same, List.length_map, List.map_append, List.map_cons, List.append_assoc]
      rfl
    · rw [List.append_assoc, ← told_cons hx]
      exact hout
    · rw [List.length_append, List.length_cons]
      omega
  · refine if_f (by cases x <;> first | rfl | exact absurd rfl hx0) ?_
    have hrl : ∀ r ∈ rowsN x, r.length ≤ 9000 := fun r hr' => by
      rw [codeN_rows hx0] at hr'
      cases hr'
    have hn2 := n6
    have hrows : codeN x = 0 → LsV NsV (rowsN x) (V.ref t7) (upd F' t6 (.lst ((ofNats (numsN x)).map V.int))) := fun e => absurd e hx0
    have hpn : (p : Int) + 1 + ((numsN x).length : Int) = (p' : Int) := by rw [e3 hx0]; omega
    have hd2 := g7.h _ _ hd'
    have fd2 := g7.none hd' fd'
    refine ⟨_, rfl, _, rfl, _, rfl, _, rfl, upd F' t6 (.lst ((ofNats (numsN x)).map V.int)), b, ad, dx, ab, dxb, pf, pj, pe, x, _, (V.ref t7), rfl, D.next g7, hn2, hrows, hrl, fun v F3 H3 ab3 dxb3 pf3 pj3 pe3 j1 j2 j3 D3 hv => ?_⟩
    obtain ⟨e, rfl, fe⟩ := hv
    have hd3 := j1 d _ hd2 hda
    have fd3 : F3 d = none := by
      cases q : F3 d with
      | none => rfl
      | some o =>
        rcases j3 d o q with h | h
        · rw [fd2] at h; cases h
        · rw [hd2] at h; cases h
    have ned : e ≠ d := ne_of_none fe fd3
    refine ⟨_, rfl, .inl ⟨rfl, _, SqL.of hd3⟩, _, rfl, e, _, rfl, .inl (SqL.of (D3.s _ _ fe)), d, _, _, rfl, rfl, hd3, ?_, ?_⟩
    · rw [List.length_map]
      exact small_line (by omega)
    refine ⟨_, rfl, .inl ⟨rfl, _, SqL.of upd_same⟩, _, rfl, d, e, _, _, rfl, rfl, upd_same, (by rw [upd_ne ned]; exact D3.s _ _ fe), ?_, ?_⟩
    · refine Nat.le_of_lt (small_line ?_)
      rw [List.length_append, List.length_map, List.length_map, List.length_singleton]
      omega
    refine ⟨_, rfl, F3, (Uw62.step b x).1, out ++ (((Uw62.step b x).2.length : Int) :: (Uw62.step b x).2), ab3, dxb3, pf3, pj3, pe3, some (.int (codeN x : Int)), some (.int (p' : Int)), some (.ref t6), some (V.ref t7), some (.ref e), ?_, (D3.set fd3 hda).set fd3 hda, same_L (g7.f.trans j2) ha', fd3, ?_, ?_, ?_⟩
    · show [some (V.ref a), some (V.ref ad), some (V.ref d), some (V.int ((p : Int) + 1 + ((numsN x).length : Int))), some (V.int (codeN x : Int)), some (V.int ((p : Int) + 1 + ((numsN x).length : Int))), some (V.ref t6), some (V.ref t7), some (V.ref e)] = _
      rw [hpn]
    · rw [upd_same, List.length_map, List.map_append, List.map_cons, List.append_assoc]
      rfl
    · rw [List.append_assoc, ← told_cons hx]
      exact hout
    · rw [List.length_append, List.length_cons]
      omega
end
end LS

namespace LS
open PySem PySem.Spec PyProof.Rows L2
open Uw62 (Board Frac Call)
/-! ### the written part -/
structure DefAt (K : PySem.W.Frag) (x qual : Str) (st : Stmt) (f : Addr) : Prop where
  ex : ∃ fd, Fun K x qual st f fd
theorem defAt_mk {K : PySem.W.Frag} {x qual : Str} {st : Stmt} {f : Addr} {oc : Value} {od an : Option Addr} {osl : Array (Option Value)} {kV doc pm cdv ct : Value} (l : K.lookup f = some ⟨oc, od, .func (PySem.W.fnOf x qual (defArgs st) (defBody st) (defScope st) .none kV doc pm an cdv ct), osl⟩)
    (c : PySem.W.codeIn K cdv qual = true) (k : PySem.W.keepIn K (.ref f) = true) : DefAt K x qual st f := ⟨_, fun_mk l c k⟩
/-- a tuple of whole numbers, a constant of the text -/
def TupAt (K : PySem.W.Frag) (a : Addr) (ns : List Int) : Prop := ∃ (o : Obj) (its : Array Value) (n : Nat), K.lookup a = some o ∧ o.cls = .type "tuple" ∧ o.data = .seq its n ∧ its.size ≤ sizeLine ∧ Vals (ns.map V.int) its.toList
theorem tupAt_2 {K : PySem.W.Frag} {a : Addr} {n0 n1 : Int} {od : Option Addr} {z : Nat} {sl : Array (Option Value)} {t0 t1} (l : K.lookup a = some ⟨.type "tuple", od, .seq #[.int n0 t0, .int n1 t1] z, sl⟩) : TupAt K a [n0, n1] :=
  ⟨_, _, _, l, rfl, rfl, (by show 2 ≤ sizeLine; decide), .cons ⟨_, rfl⟩ (.cons ⟨_, rfl⟩ .nil)⟩
theorem tupAt_10 {K : PySem.W.Frag} {a : Addr} {n0 n1 n2 n3 n4 n5 n6 n7 n8 n9 : Int} {od : Option Addr} {z : Nat} {sl : Array (Option Value)} {t0 t1 t2 t3 t4 t5 t6 t7 t8 t9}
    (l : K.lookup a = some ⟨.type "tuple", od, .seq #[.int n0 t0, .int n1 t1, .int n2 t2, .int n3 t3, .int n4 t4, .int n5 t5, .int n6 t6, .int n7 t7, .int n8 t8, .int n9 t9] z, sl⟩) : TupAt K a [n0, n1, n2, n3, n4, n5, n6, n7, n8, n9] :=
  ⟨_, _, _, l, rfl, rfl, (by show 10 ≤ sizeLine; decide), .cons ⟨_, rfl⟩ (.cons ⟨_, rfl⟩ (.cons ⟨_, rfl⟩ (.cons ⟨_, rfl⟩ (.cons ⟨_, rfl⟩ (.cons ⟨_, rfl⟩ (.cons ⟨_, rfl⟩ (.cons ⟨_, rfl⟩ (.cons ⟨_, rfl⟩ (.cons ⟨_, rfl⟩ .nil)))))))))⟩
/-- the own error's class -/
def ExcAt (K : PySem.W.Frag) (C : Addr) : Prop := ∃ nm q N bs bm sn sub ab col dd k0 k1 k2 k3 k5, K.lookup C = some (excClassObj nm q C N bs bm true sn sub ab col dd k0 k1 k2 k3 k5 "ValueError.__new__") ∧ PySem.HandSPX.refsVE bm = true
theorem excAt_mk {K : PySem.W.Frag} {C : Addr} {nm q : Str} {N : Addr} {bs : List Value} {sn : List Str} {sub : List Value} {ab : Bool} {col : Option Bool} {dd : Option Addr} {m0 m1 m2 m3 m5 : Option Value}
    (l : K.lookup C = some (excClassObj nm q C N bs [.type "ValueError", .type "Exception", .type "BaseException", .type "object"] true sn sub ab col dd m0 m1 m2 m3 m5 "ValueError.__new__")) : ExcAt K C := ⟨nm, q, N, bs, _, sn, sub, ab, col, dd, m0, m1, m2, m3, m5, l, by decide +kernel⟩
/-- an except clause that names the error's own class takes it -/
theorem own_taken {K : PySem.W.Frag} {S : Addr} (h1 : PySem.W.subIn K (.ref S) (.type "BaseException") = some true) (h2 : PySem.W.isClsIn K S = true) (h3 : PySem.W.typeIn K (.ref S) = some (.type "type")) (h4 : PySem.W.subIn K (.ref S) (.ref S) = some true) : PySem.W.exmOne K (.ref S) (.ref S) = some true := by
  have h2' : (PySem.W.clsIn K S).isSome = true := h2
  show (if (PySem.W.subIn K (.ref S) (.type "BaseException") == some true) = true then (if ((PySem.W.clsIn K S).isSome && PySem.W.typeIn K (.ref S) == some (.type "type")) = true then PySem.W.subIn K (.ref S) (.ref S) else none) else none) = some true
  have u1 : (PySem.W.subIn K (.ref S) (.type "BaseException") == some true) = true := by rw [h1]; rfl
  have u2 : ((PySem.W.clsIn K S).isSome && PySem.W.typeIn K (.ref S) == some (.type "type")) = true := by rw [h2', h3]; rfl
  rw [if_pos u1, if_pos u2, h4]
theorem all_mk {P : Program} {w : World} {K : PySem.W.Frag} {h : Heap} {mg : Str → Option Value} {fa : Addr} (X : K.In h) (G : h.Ns mainGlobals mg) (hfa : mg "answers" = some (.ref fa))
    {CB CD CR aN aO aM fI f_common f_share f_plus f_times f_less f_over f_is_less f_total f_has_ring f_pivot_at f_without_unknown f_with_pivot f_unknowns f_b___init__ f_b_thrown f_b_lands f_b_onward f_b_come_to f_b_is_sure f_b_with_jump f_b_without_jump f_ways_on f_first_ways f_ways_behind f_chance_at f_least_throws f_chance_of f_open_places f_stay_row f_mean_from f_visits_at f_least_of f_race f_want f_pairs_of f_want_jumps f_d___init__ f_d_put_board f_d_want_place f_d_lands f_d_within f_d_at_place f_d_mean f_d_least f_d_visits f_d_race_told f_d_jumps_more f_d_better f_d_without f_of_place f_of_throws f_answer f_lists_from f_answers : Addr}
    {t_STAY t_TURN t_NOT_SO t_BAD_DIE t_BAD_JUMP t_RING t_NO_PLACE t_NOT_SURE t_NEVER t_NONE_BETTER t_NO_JUMP t_LEAST_END t_MOST_END t_MOST_RULE t_MOST_FACES t_MOST_FACE t_MOST_THROWS t_MOST_ROUNDS t_BOARD}
    (n_abs : PySem.W.nsIn K mainGlobals "abs" = some none)
    (n_range : PySem.W.nsIn K mainGlobals "range" = some none)
    (n_len : PySem.W.nsIn K mainGlobals "len" = some none)
    (n_zip : PySem.W.nsIn K mainGlobals "zip" = some none)
    (n_enumerate : PySem.W.nsIn K mainGlobals "enumerate" = some none)
    (n_max : PySem.W.nsIn K mainGlobals "max" = some none)
    (n_sorted : PySem.W.nsIn K mainGlobals "sorted" = some none)
    (n_all : PySem.W.nsIn K mainGlobals "all" = some none)
    (n_list : PySem.W.nsIn K mainGlobals "list" = some none)
    (n_dict : PySem.W.nsIn K mainGlobals "dict" = some none)
    (n_int : PySem.W.nsIn K mainGlobals "int" = some none)
    (n_sum : PySem.W.nsIn K mainGlobals "sum" = some none)
    (n_ValueError : PySem.W.nsIn K mainGlobals "ValueError" = some none)
    (c_STAY : PySem.W.nsIn K mainGlobals "STAY" = some (some (.int (0) t_STAY)))
    (c_TURN : PySem.W.nsIn K mainGlobals "TURN" = some (some (.int (1) t_TURN)))
    (c_NOT_SO : PySem.W.nsIn K mainGlobals "NOT_SO" = some (some (.int (-1) t_NOT_SO)))
    (c_BAD_DIE : PySem.W.nsIn K mainGlobals "BAD_DIE" = some (some (.int (-2) t_BAD_DIE)))
    (c_BAD_JUMP : PySem.W.nsIn K mainGlobals "BAD_JUMP" = some (some (.int (-3) t_BAD_JUMP)))
    (c_RING : PySem.W.nsIn K mainGlobals "RING" = some (some (.int (-4) t_RING)))
    (c_NO_PLACE : PySem.W.nsIn K mainGlobals "NO_PLACE" = some (some (.int (-5) t_NO_PLACE)))
    (c_NOT_SURE : PySem.W.nsIn K mainGlobals "NOT_SURE" = some (some (.int (-6) t_NOT_SURE)))
    (c_NEVER : PySem.W.nsIn K mainGlobals "NEVER" = some (some (.int (-7) t_NEVER)))
    (c_NONE_BETTER : PySem.W.nsIn K mainGlobals "NONE_BETTER" = some (some (.int (-8) t_NONE_BETTER)))
    (c_NO_JUMP : PySem.W.nsIn K mainGlobals "NO_JUMP" = some (some (.int (-9) t_NO_JUMP)))
    (c_LEAST_END : PySem.W.nsIn K mainGlobals "LEAST_END" = some (some (.int (2) t_LEAST_END)))
    (c_MOST_END : PySem.W.nsIn K mainGlobals "MOST_END" = some (some (.int (10) t_MOST_END)))
    (c_MOST_RULE : PySem.W.nsIn K mainGlobals "MOST_RULE" = some (some (.int (2) t_MOST_RULE)))
    (c_MOST_FACES : PySem.W.nsIn K mainGlobals "MOST_FACES" = some (some (.int (6) t_MOST_FACES)))
    (c_MOST_FACE : PySem.W.nsIn K mainGlobals "MOST_FACE" = some (some (.int (12) t_MOST_FACE)))
    (c_MOST_THROWS : PySem.W.nsIn K mainGlobals "MOST_THROWS" = some (some (.int (20) t_MOST_THROWS)))
    (c_MOST_ROUNDS : PySem.W.nsIn K mainGlobals "MOST_ROUNDS" = some (some (.int (6) t_MOST_ROUNDS)))
    (c_BOARD : PySem.W.nsIn K mainGlobals "BOARD" = some (some (.int (0) t_BOARD)))
    (q_NOUGHT : PySem.W.nsIn K mainGlobals "NOUGHT" = some (some (.ref aN)))
    (tup_NOUGHT : TupAt K aN [0, 1])
    (q_ONE : PySem.W.nsIn K mainGlobals "ONE" = some (some (.ref aO)))
    (tup_ONE : TupAt K aO [1, 1])
    (q_NUMBERS : PySem.W.nsIn K mainGlobals "NUMBERS" = some (some (.ref aM)))
    (tup_NUMBERS : TupAt K aM [2, 2, 1, 2, 1, 1, 1, 1, 0, 1])
    (q_Board : PySem.W.nsIn K mainGlobals "Board" = some (some (.ref CB)))
    (pg_Board : PySem.W.plainGet K CB Str.empty = true)
    (hd_Board : PySem.W.hasDictIn K CB = true)
    (po_Board : PySem.W.plainOver K CB = true)
    (sa_Board : PySem.W.findIn K (.ref CB) "__setattr__" = some (some (.builtin "object.__setattr__")))
    (mk_Board : PySem.W.makesIn K CB = true)
    (kp_Board : PySem.W.keepIn K (.ref CB) = true)
    (q_Desk : PySem.W.nsIn K mainGlobals "Desk" = some (some (.ref CD)))
    (pg_Desk : PySem.W.plainGet K CD Str.empty = true)
    (hd_Desk : PySem.W.hasDictIn K CD = true)
    (po_Desk : PySem.W.plainOver K CD = true)
    (sa_Desk : PySem.W.findIn K (.ref CD) "__setattr__" = some (some (.builtin "object.__setattr__")))
    (mk_Desk : PySem.W.makesIn K CD = true)
    (kp_Desk : PySem.W.keepIn K (.ref CD) = true)
    (nb_end : PySem.W.findIn K (.ref CB) "end" = some none)
    (nb_rule : PySem.W.findIn K (.ref CB) "rule" = some none)
    (nb_faces : PySem.W.findIn K (.ref CB) "faces" = some none)
    (nb_jumps : PySem.W.findIn K (.ref CB) "jumps" = some none)
    (nb_ends : PySem.W.findIn K (.ref CB) "ends" = some none)
    (nd_own : PySem.W.findIn K (.ref CD) "own" = some none)
    (q_Refused : PySem.W.nsIn K mainGlobals "Refused" = some (some (.ref CR)))
    (x_R : ExcAt K CR)
    (sa_R : PySem.W.findIn K (.ref CR) "__setattr__" = some (some (.builtin "object.__setattr__")))
    (ga_R : PySem.W.findIn K (.ref CR) "__getattribute__" = some (some (.builtin "BaseException.__getattribute__")))
    (gg_R : PySem.W.findIn K (.ref CR) "__getattr__" = some none)
    (no_R : PySem.W.findIn K (.ref CR) "refusal" = some none)
    (i_R : PySem.W.findIn K (.ref CR) "__init__" = some (some (.ref fI)))
    (ti_R : PySem.W.typeIn K (.ref fI) = some (.type "function"))
    (k_R : PySem.W.keepIn K (.ref CR) = true)
    (e_R : PySem.W.subIn K (.ref CR) (.type "BaseException") = some true)
    (t_R : PySem.W.typeIn K (.ref CR) = some (.type "type"))
    (h_R : PySem.W.hasDictIn K CR = true)
    (ic_R : PySem.W.isClsIn K CR = true)
    (s_R : PySem.W.subIn K (.ref CR) (.ref CR) = some true)
    (v_R : PySem.W.findCls K (.type "ValueError") (.type "type") "__init__" = some (.val (.builtin "ValueError.__init__")))
    (d_R : DefAt K "__init__" "Refused.__init__" sRInit fI)
    (a_common : PySem.W.nsIn K mainGlobals "common" = some (some (.ref f_common)))
    (df_common : DefAt K "common" "common" sCommon f_common)
    (a_share : PySem.W.nsIn K mainGlobals "share" = some (some (.ref f_share)))
    (df_share : DefAt K "share" "share" sShare f_share)
    (a_plus : PySem.W.nsIn K mainGlobals "plus" = some (some (.ref f_plus)))
    (df_plus : DefAt K "plus" "plus" sPlus f_plus)
    (a_times : PySem.W.nsIn K mainGlobals "times" = some (some (.ref f_times)))
    (df_times : DefAt K "times" "times" sTimes f_times)
    (a_less : PySem.W.nsIn K mainGlobals "less" = some (some (.ref f_less)))
    (df_less : DefAt K "less" "less" sLess f_less)
    (a_over : PySem.W.nsIn K mainGlobals "over" = some (some (.ref f_over)))
    (df_over : DefAt K "over" "over" sOver f_over)
    (a_is_less : PySem.W.nsIn K mainGlobals "is_less" = some (some (.ref f_is_less)))
    (df_is_less : DefAt K "is_less" "is_less" sIsLess f_is_less)
    (a_total : PySem.W.nsIn K mainGlobals "total" = some (some (.ref f_total)))
    (df_total : DefAt K "total" "total" sTotal f_total)
    (a_has_ring : PySem.W.nsIn K mainGlobals "has_ring" = some (some (.ref f_has_ring)))
    (df_has_ring : DefAt K "has_ring" "has_ring" sHasRing f_has_ring)
    (a_pivot_at : PySem.W.nsIn K mainGlobals "pivot_at" = some (some (.ref f_pivot_at)))
    (df_pivot_at : DefAt K "pivot_at" "pivot_at" sPivotAt f_pivot_at)
    (a_without_unknown : PySem.W.nsIn K mainGlobals "without_unknown" = some (some (.ref f_without_unknown)))
    (df_without_unknown : DefAt K "without_unknown" "without_unknown" sWithoutU f_without_unknown)
    (a_with_pivot : PySem.W.nsIn K mainGlobals "with_pivot" = some (some (.ref f_with_pivot)))
    (df_with_pivot : DefAt K "with_pivot" "with_pivot" sWithPivot f_with_pivot)
    (a_unknowns : PySem.W.nsIn K mainGlobals "unknowns" = some (some (.ref f_unknowns)))
    (df_unknowns : DefAt K "unknowns" "unknowns" sUnknowns f_unknowns)
    (a_b___init__ : PySem.W.findIn K (.ref CB) "__init__" = some (some (.ref f_b___init__)))
    (i_b___init__ : PySem.W.isFn K (.ref f_b___init__) = true)
    (df_b___init__ : DefAt K "__init__" "Board.__init__" sBInit f_b___init__)
    (a_b_thrown : PySem.W.findIn K (.ref CB) "thrown" = some (some (.ref f_b_thrown)))
    (i_b_thrown : PySem.W.isFn K (.ref f_b_thrown) = true)
    (df_b_thrown : DefAt K "thrown" "Board.thrown" sThrown f_b_thrown)
    (a_b_lands : PySem.W.findIn K (.ref CB) "lands" = some (some (.ref f_b_lands)))
    (i_b_lands : PySem.W.isFn K (.ref f_b_lands) = true)
    (df_b_lands : DefAt K "lands" "Board.lands" sBLands f_b_lands)
    (a_b_onward : PySem.W.findIn K (.ref CB) "onward" = some (some (.ref f_b_onward)))
    (i_b_onward : PySem.W.isFn K (.ref f_b_onward) = true)
    (df_b_onward : DefAt K "onward" "Board.onward" sOnward f_b_onward)
    (a_b_come_to : PySem.W.findIn K (.ref CB) "come_to" = some (some (.ref f_b_come_to)))
    (i_b_come_to : PySem.W.isFn K (.ref f_b_come_to) = true)
    (df_b_come_to : DefAt K "come_to" "Board.come_to" sComeTo f_b_come_to)
    (a_b_is_sure : PySem.W.findIn K (.ref CB) "is_sure" = some (some (.ref f_b_is_sure)))
    (i_b_is_sure : PySem.W.isFn K (.ref f_b_is_sure) = true)
    (df_b_is_sure : DefAt K "is_sure" "Board.is_sure" sIsSure f_b_is_sure)
    (a_b_with_jump : PySem.W.findIn K (.ref CB) "with_jump" = some (some (.ref f_b_with_jump)))
    (i_b_with_jump : PySem.W.isFn K (.ref f_b_with_jump) = true)
    (df_b_with_jump : DefAt K "with_jump" "Board.with_jump" sWith f_b_with_jump)
    (a_b_without_jump : PySem.W.findIn K (.ref CB) "without_jump" = some (some (.ref f_b_without_jump)))
    (i_b_without_jump : PySem.W.isFn K (.ref f_b_without_jump) = true)
    (df_b_without_jump : DefAt K "without_jump" "Board.without_jump" sWithout f_b_without_jump)
    (a_ways_on : PySem.W.nsIn K mainGlobals "ways_on" = some (some (.ref f_ways_on)))
    (df_ways_on : DefAt K "ways_on" "ways_on" sWaysOn f_ways_on)
    (a_first_ways : PySem.W.nsIn K mainGlobals "first_ways" = some (some (.ref f_first_ways)))
    (df_first_ways : DefAt K "first_ways" "first_ways" sFirstWays f_first_ways)
    (a_ways_behind : PySem.W.nsIn K mainGlobals "ways_behind" = some (some (.ref f_ways_behind)))
    (df_ways_behind : DefAt K "ways_behind" "ways_behind" sWaysBehind f_ways_behind)
    (a_chance_at : PySem.W.nsIn K mainGlobals "chance_at" = some (some (.ref f_chance_at)))
    (df_chance_at : DefAt K "chance_at" "chance_at" sChanceAt f_chance_at)
    (a_least_throws : PySem.W.nsIn K mainGlobals "least_throws" = some (some (.ref f_least_throws)))
    (df_least_throws : DefAt K "least_throws" "least_throws" sLeastThrows f_least_throws)
    (a_chance_of : PySem.W.nsIn K mainGlobals "chance_of" = some (some (.ref f_chance_of)))
    (df_chance_of : DefAt K "chance_of" "chance_of" sChanceOf f_chance_of)
    (a_open_places : PySem.W.nsIn K mainGlobals "open_places" = some (some (.ref f_open_places)))
    (df_open_places : DefAt K "open_places" "open_places" sOpenPlaces f_open_places)
    (a_stay_row : PySem.W.nsIn K mainGlobals "stay_row" = some (some (.ref f_stay_row)))
    (df_stay_row : DefAt K "stay_row" "stay_row" sStayRow f_stay_row)
    (a_mean_from : PySem.W.nsIn K mainGlobals "mean_from" = some (some (.ref f_mean_from)))
    (df_mean_from : DefAt K "mean_from" "mean_from" sMeanFrom f_mean_from)
    (a_visits_at : PySem.W.nsIn K mainGlobals "visits_at" = some (some (.ref f_visits_at)))
    (df_visits_at : DefAt K "visits_at" "visits_at" sVisitsAt f_visits_at)
    (a_least_of : PySem.W.nsIn K mainGlobals "least_of" = some (some (.ref f_least_of)))
    (df_least_of : DefAt K "least_of" "least_of" sLeastOf f_least_of)
    (a_race : PySem.W.nsIn K mainGlobals "race" = some (some (.ref f_race)))
    (df_race : DefAt K "race" "race" sRace f_race)
    (a_want : PySem.W.nsIn K mainGlobals "want" = some (some (.ref f_want)))
    (df_want : DefAt K "want" "want" sWant f_want)
    (a_pairs_of : PySem.W.nsIn K mainGlobals "pairs_of" = some (some (.ref f_pairs_of)))
    (df_pairs_of : DefAt K "pairs_of" "pairs_of" sPairsOf f_pairs_of)
    (a_want_jumps : PySem.W.nsIn K mainGlobals "want_jumps" = some (some (.ref f_want_jumps)))
    (df_want_jumps : DefAt K "want_jumps" "want_jumps" sWantJumps f_want_jumps)
    (a_d___init__ : PySem.W.findIn K (.ref CD) "__init__" = some (some (.ref f_d___init__)))
    (i_d___init__ : PySem.W.isFn K (.ref f_d___init__) = true)
    (df_d___init__ : DefAt K "__init__" "Desk.__init__" sDInit f_d___init__)
    (a_d_put_board : PySem.W.findIn K (.ref CD) "put_board" = some (some (.ref f_d_put_board)))
    (i_d_put_board : PySem.W.isFn K (.ref f_d_put_board) = true)
    (df_d_put_board : DefAt K "put_board" "Desk.put_board" sPut f_d_put_board)
    (a_d_want_place : PySem.W.findIn K (.ref CD) "want_place" = some (some (.ref f_d_want_place)))
    (i_d_want_place : PySem.W.isFn K (.ref f_d_want_place) = true)
    (df_d_want_place : DefAt K "want_place" "Desk.want_place" sWantPlace f_d_want_place)
    (a_d_lands : PySem.W.findIn K (.ref CD) "lands" = some (some (.ref f_d_lands)))
    (i_d_lands : PySem.W.isFn K (.ref f_d_lands) = true)
    (df_d_lands : DefAt K "lands" "Desk.lands" sDLands f_d_lands)
    (a_d_within : PySem.W.findIn K (.ref CD) "within" = some (some (.ref f_d_within)))
    (i_d_within : PySem.W.isFn K (.ref f_d_within) = true)
    (df_d_within : DefAt K "within" "Desk.within" sWithin f_d_within)
    (a_d_at_place : PySem.W.findIn K (.ref CD) "at_place" = some (some (.ref f_d_at_place)))
    (i_d_at_place : PySem.W.isFn K (.ref f_d_at_place) = true)
    (df_d_at_place : DefAt K "at_place" "Desk.at_place" sAtPlace f_d_at_place)
    (a_d_mean : PySem.W.findIn K (.ref CD) "mean" = some (some (.ref f_d_mean)))
    (i_d_mean : PySem.W.isFn K (.ref f_d_mean) = true)
    (df_d_mean : DefAt K "mean" "Desk.mean" sMean f_d_mean)
    (a_d_least : PySem.W.findIn K (.ref CD) "least" = some (some (.ref f_d_least)))
    (i_d_least : PySem.W.isFn K (.ref f_d_least) = true)
    (df_d_least : DefAt K "least" "Desk.least" sLeast f_d_least)
    (a_d_visits : PySem.W.findIn K (.ref CD) "visits" = some (some (.ref f_d_visits)))
    (i_d_visits : PySem.W.isFn K (.ref f_d_visits) = true)
    (df_d_visits : DefAt K "visits" "Desk.visits" sVisits f_d_visits)
    (a_d_race_told : PySem.W.findIn K (.ref CD) "race_told" = some (some (.ref f_d_race_told)))
    (i_d_race_told : PySem.W.isFn K (.ref f_d_race_told) = true)
    (df_d_race_told : DefAt K "race_told" "Desk.race_told" sRaceTold f_d_race_told)
    (a_d_jumps_more : PySem.W.findIn K (.ref CD) "jumps_more" = some (some (.ref f_d_jumps_more)))
    (i_d_jumps_more : PySem.W.isFn K (.ref f_d_jumps_more) = true)
    (df_d_jumps_more : DefAt K "jumps_more" "Desk.jumps_more" sJumpsMore f_d_jumps_more)
    (a_d_better : PySem.W.findIn K (.ref CD) "better" = some (some (.ref f_d_better)))
    (i_d_better : PySem.W.isFn K (.ref f_d_better) = true)
    (df_d_better : DefAt K "better" "Desk.better" sBetter f_d_better)
    (a_d_without : PySem.W.findIn K (.ref CD) "without" = some (some (.ref f_d_without)))
    (i_d_without : PySem.W.isFn K (.ref f_d_without) = true)
    (df_d_without : DefAt K "without" "Desk.without" sDWithout f_d_without)
    (a_of_place : PySem.W.nsIn K mainGlobals "of_place" = some (some (.ref f_of_place)))
    (df_of_place : DefAt K "of_place" "of_place" sOfPlace f_of_place)
    (a_of_throws : PySem.W.nsIn K mainGlobals "of_throws" = some (some (.ref f_of_throws)))
    (df_of_throws : DefAt K "of_throws" "of_throws" sOfThrows f_of_throws)
    (a_answer : PySem.W.nsIn K mainGlobals "answer" = some (some (.ref f_answer)))
    (df_answer : DefAt K "answer" "answer" sAnswer f_answer)
    (a_lists_from : PySem.W.nsIn K mainGlobals "lists_from" = some (some (.ref f_lists_from)))
    (df_lists_from : DefAt K "lists_from" "lists_from" sLists f_lists_from)
    (a_answers : PySem.W.nsIn K mainGlobals "answers" = some (some (.ref f_answers)))
    (df_answers : DefAt K "answers" "answers" sAnswers f_answers)
    : ∃ fd : FuncData, (∀ (s : Shared) (us : List Value), us.length = (["calls"] : List Str).length → BindsTo s fd ⟨us, []⟩ ((["calls"] : List Str).zip us)) ∧ ∀ base : Heap, K.In base → base.Ns mainGlobals mg → FnOk P w K mg base CX0 12 fa fd ["calls"] (spAns K) := by
  have e := hfa.symm.trans (PySem.W.mg_of X G a_answers)
  cases e
  have T : Txt K mg CB CD CR aN aO aM :=
    { n_abs := PySem.W.mg_none_of X G n_abs,
      n_range := PySem.W.mg_none_of X G n_range,
      n_len := PySem.W.mg_none_of X G n_len,
      n_zip := PySem.W.mg_none_of X G n_zip,
      n_enumerate := PySem.W.mg_none_of X G n_enumerate,
      n_max := PySem.W.mg_none_of X G n_max,
      n_sorted := PySem.W.mg_none_of X G n_sorted,
      n_all := PySem.W.mg_none_of X G n_all,
      n_list := PySem.W.mg_none_of X G n_list,
      n_dict := PySem.W.mg_none_of X G n_dict,
      n_int := PySem.W.mg_none_of X G n_int,
      n_sum := PySem.W.mg_none_of X G n_sum,
      gN := PySem.W.mg_of X G q_NOUGHT, gO := PySem.W.mg_of X G q_ONE, gM := PySem.W.mg_of X G q_NUMBERS, tN := fun H => .inr tup_NOUGHT, tO := fun H => .inr tup_ONE, tM := fun H => .inr tup_NUMBERS,
      gB := PySem.W.mg_of X G q_Board, gD := PySem.W.mg_of X G q_Desk, clB := ⟨pg_Board, hd_Board, po_Board, sa_Board⟩, clD := ⟨pg_Desk, hd_Desk, po_Desk, sa_Desk⟩,
      b_end := nb_end, b_rule := nb_rule, b_faces := nb_faces, b_jumps := nb_jumps, b_ends := nb_ends, d_own := nd_own,
      g_STAY := ⟨_, PySem.W.mg_of X G c_STAY⟩,
      g_TURN := ⟨_, PySem.W.mg_of X G c_TURN⟩,
      g_NOT_SO := ⟨_, PySem.W.mg_of X G c_NOT_SO⟩,
      g_BAD_DIE := ⟨_, PySem.W.mg_of X G c_BAD_DIE⟩,
      g_BAD_JUMP := ⟨_, PySem.W.mg_of X G c_BAD_JUMP⟩,
      g_RING := ⟨_, PySem.W.mg_of X G c_RING⟩,
      g_NO_PLACE := ⟨_, PySem.W.mg_of X G c_NO_PLACE⟩,
      g_NOT_SURE := ⟨_, PySem.W.mg_of X G c_NOT_SURE⟩,
      g_NEVER := ⟨_, PySem.W.mg_of X G c_NEVER⟩,
      g_NONE_BETTER := ⟨_, PySem.W.mg_of X G c_NONE_BETTER⟩,
      g_NO_JUMP := ⟨_, PySem.W.mg_of X G c_NO_JUMP⟩,
      g_LEAST_END := ⟨_, PySem.W.mg_of X G c_LEAST_END⟩,
      g_MOST_END := ⟨_, PySem.W.mg_of X G c_MOST_END⟩,
      g_MOST_RULE := ⟨_, PySem.W.mg_of X G c_MOST_RULE⟩,
      g_MOST_FACES := ⟨_, PySem.W.mg_of X G c_MOST_FACES⟩,
      g_MOST_FACE := ⟨_, PySem.W.mg_of X G c_MOST_FACE⟩,
      g_MOST_THROWS := ⟨_, PySem.W.mg_of X G c_MOST_THROWS⟩,
      g_MOST_ROUNDS := ⟨_, PySem.W.mg_of X G c_MOST_ROUNDS⟩,
      g_BOARD := ⟨_, PySem.W.mg_of X G c_BOARD⟩ }
  have R : TxtR K mg CR fI := ⟨PySem.W.mg_of X G q_Refused, ⟨x_R, sa_R, e_R, t_R, k_R⟩, i_R, ti_R, no_R, PySem.W.mg_none_of X G n_ValueError, v_R, ⟨ga_R, gg_R, e_R, h_R⟩, own_taken e_R ic_R t_R s_R⟩
  obtain ⟨fdR, FR⟩ := d_R.ex
  have bR := FR.binds (ps := ["self", "refusal"]) fun _ _ _ _ _ _ us hl => match us, hl with | [_, _], _ => rfl
  obtain ⟨fdA, FA⟩ := df_answers.ex
  refine ⟨fdA, ?_, fun base _ _ => ?_⟩
  · obtain ⟨oc, od, kV, doc, pm, an, cdv, ct, osl, rfl, lk, hcd⟩ := FA.ex
    exact fun s us hu => match us, hu with | [_], _ => .of_eq rfl
  have g_common : FnG P w K mg base CX0 1 "common" ["one", "other"] spCommon := by
    obtain ⟨fd, F⟩ := df_common.ex
    exact ⟨_, fd, PySem.W.mg_of X G a_common, F.kp, (F.binds (ps := ["one", "other"]) fun _ _ _ _ _ _ us hl => match us, hl with | [_, _], _ => rfl), ok_common F⟩
  have g_share : FnG P w K mg base CX0 2 "share" ["above", "below"] (spShare K) := by
    obtain ⟨fd, F⟩ := df_share.ex
    exact ⟨_, fd, PySem.W.mg_of X G a_share, F.kp, (F.binds (ps := ["above", "below"]) fun _ _ _ _ _ _ us hl => match us, hl with | [_, _], _ => rfl), ok_share F T g_common⟩
  have g_plus : FnG P w K mg base CX0 3 "plus" ["one", "other"] (sp2 K Uw62.plus) := by
    obtain ⟨fd, F⟩ := df_plus.ex
    exact ⟨_, fd, PySem.W.mg_of X G a_plus, F.kp, (F.binds (ps := ["one", "other"]) fun _ _ _ _ _ _ us hl => match us, hl with | [_, _], _ => rfl), ok_plus F g_share⟩
  have g_times : FnG P w K mg base CX0 3 "times" ["one", "other"] (sp2 K Uw62.times) := by
    obtain ⟨fd, F⟩ := df_times.ex
    exact ⟨_, fd, PySem.W.mg_of X G a_times, F.kp, (F.binds (ps := ["one", "other"]) fun _ _ _ _ _ _ us hl => match us, hl with | [_, _], _ => rfl), ok_times F g_share⟩
  have g_less : FnG P w K mg base CX0 4 "less" ["one", "other"] (sp2 K Uw62.minus) := by
    obtain ⟨fd, F⟩ := df_less.ex
    exact ⟨_, fd, PySem.W.mg_of X G a_less, F.kp, (F.binds (ps := ["one", "other"]) fun _ _ _ _ _ _ us hl => match us, hl with | [_, _], _ => rfl), ok_less F g_plus⟩
  have g_over : FnG P w K mg base CX0 4 "over" ["one", "other"] (spOver K) := by
    obtain ⟨fd, F⟩ := df_over.ex
    exact ⟨_, fd, PySem.W.mg_of X G a_over, F.kp, (F.binds (ps := ["one", "other"]) fun _ _ _ _ _ _ us hl => match us, hl with | [_, _], _ => rfl), ok_over F g_times⟩
  have g_is_less : FnG P w K mg base CX0 1 "is_less" ["one", "other"] (spIsLess K) := by
    obtain ⟨fd, F⟩ := df_is_less.ex
    exact ⟨_, fd, PySem.W.mg_of X G a_is_less, F.kp, (F.binds (ps := ["one", "other"]) fun _ _ _ _ _ _ us hl => match us, hl with | [_, _], _ => rfl), ok_isless F⟩
  have g_total : FnG P w K mg base CX0 4 "total" ["some"] (spTotal K) := by
    obtain ⟨fd, F⟩ := df_total.ex
    exact ⟨_, fd, PySem.W.mg_of X G a_total, F.kp, (F.binds (ps := ["some"]) fun _ _ _ _ _ _ us hl => match us, hl with | [_], _ => rfl), ok_total F T g_plus⟩
  have g_has_ring : FnG P w K mg base CX0 1 "has_ring" ["jumps"] spHasRing := by
    obtain ⟨fd, F⟩ := df_has_ring.ex
    exact ⟨_, fd, PySem.W.mg_of X G a_has_ring, F.kp, (F.binds (ps := ["jumps"]) fun _ _ _ _ _ _ us hl => match us, hl with | [_], _ => rfl), ok_hasRing F T⟩
  have g_pivot_at : FnG P w K mg base CX0 1 "pivot_at" ["rows", "k"] (spPivotAt K) := by
    obtain ⟨fd, F⟩ := df_pivot_at.ex
    exact ⟨_, fd, PySem.W.mg_of X G a_pivot_at, F.kp, (F.binds (ps := ["rows", "k"]) fun _ _ _ _ _ _ us hl => match us, hl with | [_, _], _ => rfl), ok_pivotAt F T⟩
  have g_without_unknown : FnG P w K mg base CX0 5 "without_unknown" ["row", "pivot", "k"] (spWithoutU K) := by
    obtain ⟨fd, F⟩ := df_without_unknown.ex
    exact ⟨_, fd, PySem.W.mg_of X G a_without_unknown, F.kp, (F.binds (ps := ["row", "pivot", "k"]) fun _ _ _ _ _ _ us hl => match us, hl with | [_, _, _], _ => rfl), ok_withoutU F T g_less g_times⟩
  have g_with_pivot : FnG P w K mg base CX0 6 "with_pivot" ["rows", "k"] (spWithPivot K) := by
    obtain ⟨fd, F⟩ := df_with_pivot.ex
    exact ⟨_, fd, PySem.W.mg_of X G a_with_pivot, F.kp, (F.binds (ps := ["rows", "k"]) fun _ _ _ _ _ _ us hl => match us, hl with | [_, _], _ => rfl), ok_withPivot F T g_pivot_at g_over g_without_unknown⟩
  have g_unknowns : FnG P w K mg base CX0 7 "unknowns" ["rows"] (spUnknowns K) := by
    obtain ⟨fd, F⟩ := df_unknowns.ex
    exact ⟨_, fd, PySem.W.mg_of X G a_unknowns, F.kp, (F.binds (ps := ["rows"]) fun _ _ _ _ _ _ us hl => match us, hl with | [_], _ => rfl), ok_unknowns F T g_with_pivot⟩
  have b___init__ : MkG P w K mg base 1 CB ["self", "end", "rule", "faces", "jumps"] (spBInit CB) := by
    obtain ⟨fd, F⟩ := df_b___init__.ex
    exact ⟨_, fd, ⟨mk_Board, a_b___init__, i_b___init__, kp_Board⟩, (F.binds (ps := ["self", "end", "rule", "faces", "jumps"]) fun _ _ _ _ _ _ us hl => match us, hl with | [_, _, _, _, _], _ => rfl), ok_binit F T⟩
  have b_thrown : MtG P w K mg base CX0 1 CB "thrown" ["self", "place", "face"] (spThrown CB) := by
    obtain ⟨fd, F⟩ := df_b_thrown.ex
    exact ⟨_, fd, ⟨a_b_thrown, i_b_thrown, F.kp⟩, (F.binds (ps := ["self", "place", "face"]) fun _ _ _ _ _ _ us hl => match us, hl with | [_, _, _], _ => rfl), ok_thrown F T⟩
  have b_lands : MtG P w K mg base CX0 2 CB "lands" ["self", "place", "face"] (spBLands CB) := by
    obtain ⟨fd, F⟩ := df_b_lands.ex
    exact ⟨_, fd, ⟨a_b_lands, i_b_lands, F.kp⟩, (F.binds (ps := ["self", "place", "face"]) fun _ _ _ _ _ _ us hl => match us, hl with | [_, _, _], _ => rfl), ok_blands F T b_thrown⟩
  have b_onward : MtG P w K mg base CX0 3 CB "onward" ["self", "place"] (spOnward CB) := by
    obtain ⟨fd, F⟩ := df_b_onward.ex
    exact ⟨_, fd, ⟨a_b_onward, i_b_onward, F.kp⟩, (F.binds (ps := ["self", "place"]) fun _ _ _ _ _ _ us hl => match us, hl with | [_, _], _ => rfl), ok_onward F T b_lands⟩
  have b_come_to : MtG P w K mg base CX0 4 CB "come_to" ["self", "place"] (spComeTo CB) := by
    obtain ⟨fd, F⟩ := df_b_come_to.ex
    exact ⟨_, fd, ⟨a_b_come_to, i_b_come_to, F.kp⟩, (F.binds (ps := ["self", "place"]) fun _ _ _ _ _ _ us hl => match us, hl with | [_, _], _ => rfl), ok_comeTo F T b_onward⟩
  have b_is_sure : MtG P w K mg base CX0 5 CB "is_sure" ["self", "place"] (spIsSure CB) := by
    obtain ⟨fd, F⟩ := df_b_is_sure.ex
    exact ⟨_, fd, ⟨a_b_is_sure, i_b_is_sure, F.kp⟩, (F.binds (ps := ["self", "place"]) fun _ _ _ _ _ _ us hl => match us, hl with | [_, _], _ => rfl), ok_isSure F T b_come_to⟩
  have b_with_jump : MtG P w K mg base CX0 3 CB "with_jump" ["self", "jump"] (spWith CB) := by
    obtain ⟨fd, F⟩ := df_b_with_jump.ex
    exact ⟨_, fd, ⟨a_b_with_jump, i_b_with_jump, F.kp⟩, (F.binds (ps := ["self", "jump"]) fun _ _ _ _ _ _ us hl => match us, hl with | [_, _], _ => rfl), ok_with F T b___init__⟩
  have b_without_jump : MtG P w K mg base CX0 3 CB "without_jump" ["self", "number"] (spWithout CB) := by
    obtain ⟨fd, F⟩ := df_b_without_jump.ex
    exact ⟨_, fd, ⟨a_b_without_jump, i_b_without_jump, F.kp⟩, (F.binds (ps := ["self", "number"]) fun _ _ _ _ _ _ us hl => match us, hl with | [_, _], _ => rfl), ok_without F T b___init__⟩
  have g_ways_on : FnG P w K mg base CX0 4 "ways_on" ["board", "ways"] (spWaysOn CB) := by
    obtain ⟨fd, F⟩ := df_ways_on.ex
    exact ⟨_, fd, PySem.W.mg_of X G a_ways_on, F.kp, (F.binds (ps := ["board", "ways"]) fun _ _ _ _ _ _ us hl => match us, hl with | [_, _], _ => rfl), ok_waysOn F T b_onward⟩
  have g_first_ways : FnG P w K mg base CX0 1 "first_ways" ["board", "place"] (spFirstWays CB) := by
    obtain ⟨fd, F⟩ := df_first_ways.ex
    exact ⟨_, fd, PySem.W.mg_of X G a_first_ways, F.kp, (F.binds (ps := ["board", "place"]) fun _ _ _ _ _ _ us hl => match us, hl with | [_, _], _ => rfl), ok_firstWays F T⟩
  have g_ways_behind : FnG P w K mg base CX0 5 "ways_behind" ["board", "throws"] (spWaysBehind CB) := by
    obtain ⟨fd, F⟩ := df_ways_behind.ex
    exact ⟨_, fd, PySem.W.mg_of X G a_ways_behind, F.kp, (F.binds (ps := ["board", "throws"]) fun _ _ _ _ _ _ us hl => match us, hl with | [_, _], _ => rfl), ok_waysBehind F T g_first_ways g_ways_on⟩
  have g_chance_at : FnG P w K mg base CX0 6 "chance_at" ["board", "throws", "place"] (spChanceAt K CB) := by
    obtain ⟨fd, F⟩ := df_chance_at.ex
    exact ⟨_, fd, PySem.W.mg_of X G a_chance_at, F.kp, (F.binds (ps := ["board", "throws", "place"]) fun _ _ _ _ _ _ us hl => match us, hl with | [_, _, _], _ => rfl), ok_chanceAt F T g_ways_behind g_share⟩
  have g_least_throws : FnG P w K mg base CX0 5 "least_throws" ["board", "place"] (spLeastThrows CB) := by
    obtain ⟨fd, F⟩ := df_least_throws.ex
    exact ⟨_, fd, PySem.W.mg_of X G a_least_throws, F.kp, (F.binds (ps := ["board", "place"]) fun _ _ _ _ _ _ us hl => match us, hl with | [_, _], _ => rfl), ok_leastThrows F T g_first_ways g_ways_on⟩
  have g_chance_of : FnG P w K mg base CX0 4 "chance_of" ["board", "place", "there"] (spChanceOf K CB) := by
    obtain ⟨fd, F⟩ := df_chance_of.ex
    exact ⟨_, fd, PySem.W.mg_of X G a_chance_of, F.kp, (F.binds (ps := ["board", "place", "there"]) fun _ _ _ _ _ _ us hl => match us, hl with | [_, _, _], _ => rfl), ok_chanceOf F T b_onward g_share⟩
  have g_open_places : FnG P w K mg base CX0 5 "open_places" ["board", "place"] (spOpenPlaces CB) := by
    obtain ⟨fd, F⟩ := df_open_places.ex
    exact ⟨_, fd, PySem.W.mg_of X G a_open_places, F.kp, (F.binds (ps := ["board", "place"]) fun _ _ _ _ _ _ us hl => match us, hl with | [_, _], _ => rfl), ok_openPlaces F T b_come_to⟩
  have g_stay_row : FnG P w K mg base CX0 5 "stay_row" ["places", "number", "chances"] (spStayRow K) := by
    obtain ⟨fd, F⟩ := df_stay_row.ex
    exact ⟨_, fd, PySem.W.mg_of X G a_stay_row, F.kp, (F.binds (ps := ["places", "number", "chances"]) fun _ _ _ _ _ _ us hl => match us, hl with | [_, _, _], _ => rfl), ok_stayRow F T g_less⟩
  have g_mean_from : FnG P w K mg base CX0 8 "mean_from" ["board", "place"] (spMean K CB) := by
    obtain ⟨fd, F⟩ := df_mean_from.ex
    exact ⟨_, fd, PySem.W.mg_of X G a_mean_from, F.kp, (F.binds (ps := ["board", "place"]) fun _ _ _ _ _ _ us hl => match us, hl with | [_, _], _ => rfl), ok_meanFrom F T g_open_places g_chance_of g_stay_row g_unknowns⟩
  have g_visits_at : FnG P w K mg base CX0 8 "visits_at" ["board", "place"] (spVisits K CB) := by
    obtain ⟨fd, F⟩ := df_visits_at.ex
    exact ⟨_, fd, PySem.W.mg_of X G a_visits_at, F.kp, (F.binds (ps := ["board", "place"]) fun _ _ _ _ _ _ us hl => match us, hl with | [_, _], _ => rfl), ok_visitsAt F T g_open_places g_chance_of g_stay_row g_unknowns⟩
  have g_least_of : FnG P w K mg base CX0 2 "least_of" ["some"] (spLeastOf K) := by
    obtain ⟨fd, F⟩ := df_least_of.ex
    exact ⟨_, fd, PySem.W.mg_of X G a_least_of, F.kp, (F.binds (ps := ["some"]) fun _ _ _ _ _ _ us hl => match us, hl with | [_], _ => rfl), ok_leastOf F T g_is_less⟩
  have g_race : FnG P w K mg base CX0 7 "race" ["board", "rounds"] (spRace K CB) := by
    obtain ⟨fd, F⟩ := df_race.ex
    exact ⟨_, fd, PySem.W.mg_of X G a_race, F.kp, (F.binds (ps := ["board", "rounds"]) fun _ _ _ _ _ _ us hl => match us, hl with | [_, _], _ => rfl), ok_race F T g_chance_at g_less g_times g_total⟩
  have g_want : FnG P w K mg base (L2.CX P w) 3 "want" ["is_so", "refusal"] (spWant CR) := by
    obtain ⟨fd, F⟩ := df_want.ex
    exact ⟨_, fd, PySem.W.mg_of X G a_want, F.kp, (F.binds (ps := ["is_so", "refusal"]) fun _ _ _ _ _ _ us hl => match us, hl with | [_, _], _ => rfl), ok_want (fR := fI) F R (ok_rinit FR R) bR⟩
  have g_pairs_of : FnG P w K mg base CX0 1 "pairs_of" ["numbers"] spPairsOf := by
    obtain ⟨fd, F⟩ := df_pairs_of.ex
    exact ⟨_, fd, PySem.W.mg_of X G a_pairs_of, F.kp, (F.binds (ps := ["numbers"]) fun _ _ _ _ _ _ us hl => match us, hl with | [_], _ => rfl), ok_pairsOf F T⟩
  have g_want_jumps : FnG P w K mg base (L2.CX P w) 4 "want_jumps" ["end", "numbers"] (spWantJumps CR) := by
    obtain ⟨fd, F⟩ := df_want_jumps.ex
    exact ⟨_, fd, PySem.W.mg_of X G a_want_jumps, F.kp, (F.binds (ps := ["end", "numbers"]) fun _ _ _ _ _ _ us hl => match us, hl with | [_, _], _ => rfl), ok_wantJumps F T g_want g_pairs_of⟩
  have d___init__ : MkG P w K mg base 3 CD ["self"] (spDInit CB CD) := by
    obtain ⟨fd, F⟩ := df_d___init__.ex
    exact ⟨_, fd, ⟨mk_Desk, a_d___init__, i_d___init__, kp_Desk⟩, (F.binds (ps := ["self"]) fun _ _ _ _ _ _ us hl => match us, hl with | [_], _ => rfl), ok_dinit F T b___init__⟩
  have d_put_board : MtG P w K mg base (L2.CX P w) 7 CD "put_board" ["self", "n", "rule", "faces", "jumps"] (spPut CB CD CR) := by
    obtain ⟨fd, F⟩ := df_d_put_board.ex
    exact ⟨_, fd, ⟨a_d_put_board, i_d_put_board, F.kp⟩, (F.binds (ps := ["self", "n", "rule", "faces", "jumps"]) fun _ _ _ _ _ _ us hl => match us, hl with | [_, _, _, _, _], _ => rfl), ok_put F T g_want g_want_jumps g_has_ring g_pairs_of b___init__ b_come_to b_is_sure⟩
  have d_want_place : MtG P w K mg base (L2.CX P w) 4 CD "want_place" ["self", "p"] (spWantPlace CB CD CR) := by
    obtain ⟨fd, F⟩ := df_d_want_place.ex
    exact ⟨_, fd, ⟨a_d_want_place, i_d_want_place, F.kp⟩, (F.binds (ps := ["self", "p"]) fun _ _ _ _ _ _ us hl => match us, hl with | [_, _], _ => rfl), ok_wantPlace F T g_want⟩
  have d_lands : MtG P w K mg base (L2.CX P w) 9 CD "lands" ["self", "p", "f"] (spM2 CB CD CR .lands) := by
    obtain ⟨fd, F⟩ := df_d_lands.ex
    exact ⟨_, fd, ⟨a_d_lands, i_d_lands, F.kp⟩, (F.binds (ps := ["self", "p", "f"]) fun _ _ _ _ _ _ us hl => match us, hl with | [_, _, _], _ => rfl), (ok_dlands F T g_want b_lands).mono (by decide)⟩
  have d_within : MtG P w K mg base (L2.CX P w) 9 CD "within" ["self", "t"] (spM1 CB CD CR .within) := by
    obtain ⟨fd, F⟩ := df_d_within.ex
    exact ⟨_, fd, ⟨a_d_within, i_d_within, F.kp⟩, (F.binds (ps := ["self", "t"]) fun _ _ _ _ _ _ us hl => match us, hl with | [_, _], _ => rfl), (ok_within F T g_want g_chance_at).mono (by decide)⟩
  have d_at_place : MtG P w K mg base (L2.CX P w) 9 CD "at_place" ["self", "t", "p"] (spM2 CB CD CR .at_) := by
    obtain ⟨fd, F⟩ := df_d_at_place.ex
    exact ⟨_, fd, ⟨a_d_at_place, i_d_at_place, F.kp⟩, (F.binds (ps := ["self", "t", "p"]) fun _ _ _ _ _ _ us hl => match us, hl with | [_, _, _], _ => rfl), (ok_atPlace F T g_want g_chance_at d_want_place).mono (by decide)⟩
  have d_mean : MtG P w K mg base (L2.CX P w) 9 CD "mean" ["self", "p"] (spM1 CB CD CR .mean) := by
    obtain ⟨fd, F⟩ := df_d_mean.ex
    exact ⟨_, fd, ⟨a_d_mean, i_d_mean, F.kp⟩, (F.binds (ps := ["self", "p"]) fun _ _ _ _ _ _ us hl => match us, hl with | [_, _], _ => rfl), ok_mean F T g_want d_want_place b_is_sure g_mean_from⟩
  have d_least : MtG P w K mg base (L2.CX P w) 9 CD "least" ["self", "p"] (spM1 CB CD CR .least) := by
    obtain ⟨fd, F⟩ := df_d_least.ex
    exact ⟨_, fd, ⟨a_d_least, i_d_least, F.kp⟩, (F.binds (ps := ["self", "p"]) fun _ _ _ _ _ _ us hl => match us, hl with | [_, _], _ => rfl), ok_least F T g_want d_want_place b_come_to g_least_throws⟩
  have d_visits : MtG P w K mg base (L2.CX P w) 9 CD "visits" ["self", "p"] (spM1 CB CD CR .visits) := by
    obtain ⟨fd, F⟩ := df_d_visits.ex
    exact ⟨_, fd, ⟨a_d_visits, i_d_visits, F.kp⟩, (F.binds (ps := ["self", "p"]) fun _ _ _ _ _ _ us hl => match us, hl with | [_, _], _ => rfl), ok_visits F T g_want d_want_place b_is_sure g_visits_at⟩
  have d_race_told : MtG P w K mg base (L2.CX P w) 9 CD "race_told" ["self", "t"] (spM1 CB CD CR .race) := by
    obtain ⟨fd, F⟩ := df_d_race_told.ex
    exact ⟨_, fd, ⟨a_d_race_told, i_d_race_told, F.kp⟩, (F.binds (ps := ["self", "t"]) fun _ _ _ _ _ _ us hl => match us, hl with | [_, _], _ => rfl), ok_raceTold F T g_want g_race⟩
  have d_jumps_more : MtG P w K mg base CX0 2 CD "jumps_more" ["self"] (spJumpsMore CB CD) := by
    obtain ⟨fd, F⟩ := df_d_jumps_more.ex
    exact ⟨_, fd, ⟨a_d_jumps_more, i_d_jumps_more, F.kp⟩, (F.binds (ps := ["self"]) fun _ _ _ _ _ _ us hl => match us, hl with | [_], _ => rfl), ok_jumpsMore F T g_has_ring⟩
  have d_better : MtG P w K mg base (L2.CX P w) 9 CD "better" ["self"] (spM0 CB CD CR .better) := by
    obtain ⟨fd, F⟩ := df_d_better.ex
    exact ⟨_, fd, ⟨a_d_better, i_d_better, F.kp⟩, (F.binds (ps := ["self"]) fun _ _ _ _ _ _ us hl => match us, hl with | [_], _ => rfl), ok_better F T g_want b_is_sure d_jumps_more b_with_jump g_mean_from g_least_of g_is_less⟩
  have d_without : MtG P w K mg base (L2.CX P w) 9 CD "without" ["self", "j"] (spM1 CB CD CR .without) := by
    obtain ⟨fd, F⟩ := df_d_without.ex
    exact ⟨_, fd, ⟨a_d_without, i_d_without, F.kp⟩, (F.binds (ps := ["self", "j"]) fun _ _ _ _ _ _ us hl => match us, hl with | [_, _], _ => rfl), ok_dwithout F T g_want b_without_jump b_is_sure g_mean_from⟩
  have g_of_place : FnG P w K mg base (L2.CX P w) 10 "of_place" ["desk", "call", "n"] (spOf CB CD CR fun c => [1, 4, 5, 6].contains c) := by
    obtain ⟨fd, F⟩ := df_of_place.ex
    exact ⟨_, fd, PySem.W.mg_of X G a_of_place, F.kp, (F.binds (ps := ["desk", "call", "n"]) fun _ _ _ _ _ _ us hl => match us, hl with | [_, _, _], _ => rfl), ok_ofPlace F T d_lands d_mean d_least d_visits⟩
  have g_of_throws : FnG P w K mg base (L2.CX P w) 10 "of_throws" ["desk", "call", "n"] (spOf CB CD CR fun c => [2, 3, 7].contains c) := by
    obtain ⟨fd, F⟩ := df_of_throws.ex
    exact ⟨_, fd, PySem.W.mg_of X G a_of_throws, F.kp, (F.binds (ps := ["desk", "call", "n"]) fun _ _ _ _ _ _ us hl => match us, hl with | [_, _, _], _ => rfl), ok_ofThrows F T d_within d_at_place d_race_told⟩
  have g_answer : FnG P w K mg base CX0 11 "answer" ["desk", "call", "n", "rows"] (spAnswer CB CD) := by
    obtain ⟨fd, F⟩ := df_answer.ex
    exact ⟨_, fd, PySem.W.mg_of X G a_answer, F.kp, (F.binds (ps := ["desk", "call", "n", "rows"]) fun _ _ _ _ _ _ us hl => match us, hl with | [_, _, _, _], _ => rfl), ok_answer F T R d_put_board g_of_place g_of_throws d_better d_without⟩
  have g_lists_from : FnG P w K mg base CX0 1 "lists_from" ["calls", "at"] (spLists K) := by
    obtain ⟨fd, F⟩ := df_lists_from.ex
    exact ⟨_, fd, PySem.W.mg_of X G a_lists_from, F.kp, (F.binds (ps := ["calls", "at"]) fun _ _ _ _ _ _ us hl => match us, hl with | [_, _], _ => rfl), ok_lists F T⟩
  exact ok_answers FA T d___init__ g_lists_from g_answer
end LS

open PySem PySem.W PyProof.Rows
set_option maxRecDepth 100000 in
set_option maxHeartbeats 8000000 in
theorem PySem.Challenge.cw_laddersnakes_s01_answers_holds : PySem.Challenge.rw_laddersnakes_s01_answers.Holds := by
  w_on; k_headS; (case hw => exact ⟨[.list [.int 8]], by decide +kernel, by decide +kernel⟩)
  k_fillS
  refine L2.walk_specK (r := PySem.Challenge.rw_laddersnakes_s01_answers) (k := 12) (CX := L2.CX0) (ps := ["calls"]) (sp := LS.spAns) (by decide +kernel) rfl rfl ⟨rfl, by decide, by decide⟩ (fun w h Y => PySem.W.kIn_of Y) ?F ?S (fun _ _ _ _ z => z)
  case F =>
    intro w mg fa h Y KX G hmg
    refine' LS.all_mk KX G hmg ?n_abs ?n_range ?n_len ?n_zip ?n_enumerate ?n_max ?n_sorted ?n_all ?n_list ?n_dict ?n_int ?n_sum ?n_ValueError ?c_STAY ?c_TURN ?c_NOT_SO ?c_BAD_DIE ?c_BAD_JUMP ?c_RING ?c_NO_PLACE ?c_NOT_SURE ?c_NEVER ?c_NONE_BETTER ?c_NO_JUMP ?c_LEAST_END ?c_MOST_END ?c_MOST_RULE ?c_MOST_FACES ?c_MOST_FACE ?c_MOST_THROWS ?c_MOST_ROUNDS ?c_BOARD ?q_NOUGHT ?tup_NOUGHT ?q_ONE ?tup_ONE ?q_NUMBERS ?tup_NUMBERS ?q_Board ?pg_Board ?hd_Board ?po_Board ?sa_Board ?mk_Board ?kp_Board ?q_Desk ?pg_Desk ?hd_Desk ?po_Desk ?sa_Desk ?mk_Desk ?kp_Desk ?nb_end ?nb_rule ?nb_faces ?nb_jumps ?nb_ends ?nd_own ?q_Refused ?x_R ?sa_R ?ga_R ?gg_R ?no_R ?i_R ?ti_R ?k_R ?e_R ?t_R ?h_R ?ic_R ?s_R ?v_R ?d_R ?a_common ?df_common ?a_share ?df_share ?a_plus ?df_plus ?a_times ?df_times ?a_less ?df_less ?a_over ?df_over ?a_is_less ?df_is_less ?a_total ?df_total ?a_has_ring ?df_has_ring ?a_pivot_at ?df_pivot_at ?a_without_unknown ?df_without_unknown ?a_with_pivot ?df_with_pivot ?a_unknowns ?df_unknowns ?a_b___init__ ?i_b___init__ ?df_b___init__ ?a_b_thrown ?i_b_thrown ?df_b_thrown ?a_b_lands ?i_b_lands ?df_b_lands ?a_b_onward ?i_b_onward ?df_b_onward ?a_b_come_to ?i_b_come_to ?df_b_come_to ?a_b_is_sure ?i_b_is_sure ?df_b_is_sure ?a_b_with_jump ?i_b_with_jump ?df_b_with_jump ?a_b_without_jump ?i_b_without_jump ?df_b_without_jump ?a_ways_on ?df_ways_on ?a_first_ways ?df_first_ways ?a_ways_behind ?df_ways_behind ?a_chance_at ?df_chance_at ?a_least_throws ?df_least_throws ?a_chance_of ?df_chance_of ?a_open_places ?df_open_places ?a_stay_row ?df_stay_row ?a_mean_from ?df_mean_from ?a_visits_at ?df_visits_at ?a_least_of ?df_least_of ?a_race ?df_race ?a_want ?df_want ?a_pairs_of ?df_pairs_of ?a_want_jumps ?df_want_jumps ?a_d___init__ ?i_d___init__ ?df_d___init__ ?a_d_put_board ?i_d_put_board ?df_d_put_board ?a_d_want_place ?i_d_want_place ?df_d_want_place ?a_d_lands ?i_d_lands ?df_d_lands ?a_d_within ?i_d_within ?df_d_within ?a_d_at_place ?i_d_at_place ?df_d_at_place ?a_d_mean ?i_d_mean ?df_d_mean ?a_d_least ?i_d_least ?df_d_least ?a_d_visits ?i_d_visits ?df_d_visits ?a_d_race_told ?i_d_race_told ?df_d_race_told ?a_d_jumps_more ?i_d_jumps_more ?df_d_jumps_more ?a_d_better ?i_d_better ?df_d_better ?a_d_without ?i_d_without ?df_d_without ?a_of_place ?df_of_place ?a_of_throws ?df_of_throws ?a_answer ?df_answer ?a_lists_from ?df_lists_from ?a_answers ?df_answers
    (case n_abs => k_is)
    (case n_range => k_is)
    (case n_len => k_is)
    (case n_zip => k_is)
    (case n_enumerate => k_is)
    (case n_max => k_is)
    (case n_sorted => k_is)
    (case n_all => k_is)
    (case n_list => k_is)
    (case n_dict => k_is)
    (case n_int => k_is)
    (case n_sum => k_is)
    (case n_ValueError => k_is)
    (case c_STAY => k_is)
    (case c_TURN => k_is)
    (case c_NOT_SO => k_is)
    (case c_BAD_DIE => k_is)
    (case c_BAD_JUMP => k_is)
    (case c_RING => k_is)
    (case c_NO_PLACE => k_is)
    (case c_NOT_SURE => k_is)
    (case c_NEVER => k_is)
    (case c_NONE_BETTER => k_is)
    (case c_NO_JUMP => k_is)
    (case c_LEAST_END => k_is)
    (case c_MOST_END => k_is)
    (case c_MOST_RULE => k_is)
    (case c_MOST_FACES => k_is)
    (case c_MOST_FACE => k_is)
    (case c_MOST_THROWS => k_is)
    (case c_MOST_ROUNDS => k_is)
    (case c_BOARD => k_is)
    (case q_NOUGHT => k_is)
    (case tup_NOUGHT => refine' LS.tupAt_2 ?l; (case l => k_is))
    (case q_ONE => k_is)
    (case tup_ONE => refine' LS.tupAt_2 ?l; (case l => k_is))
    (case q_NUMBERS => k_is)
    (case tup_NUMBERS => refine' LS.tupAt_10 ?l; (case l => k_is))
    (case q_Board => k_is)
    (case pg_Board => k_is)
    (case hd_Board => k_is)
    (case po_Board => k_is)
    (case sa_Board => k_is)
    (case mk_Board => k_is)
    (case kp_Board => k_is)
    (case q_Desk => k_is)
    (case pg_Desk => k_is)
    (case hd_Desk => k_is)
    (case po_Desk => k_is)
    (case sa_Desk => k_is)
    (case mk_Desk => k_is)
    (case kp_Desk => k_is)
    (case nb_end => k_is)
    (case nb_rule => k_is)
    (case nb_faces => k_is)
    (case nb_jumps => k_is)
    (case nb_ends => k_is)
    (case nd_own => k_is)
    (case q_Refused => k_is)
    (case x_R => refine' LS.excAt_mk ?l; (case l => k_is))
    (case sa_R => k_is)
    (case ga_R => k_is)
    (case gg_R => k_is)
    (case no_R => k_is)
    (case i_R => k_is)
    (case ti_R => k_is)
    (case k_R => k_is)
    (case e_R => k_is)
    (case t_R => k_is)
    (case h_R => k_is)
    (case ic_R => k_is)
    (case s_R => first | rfl | k_is)
    (case v_R => k_is)
    (case d_R => refine' LS.defAt_mk ?l ?c ?k; (case l => k_is); (case c => k_is); (case k => k_is))
    (case a_common => k_is)
    (case df_common => refine' LS.defAt_mk ?l ?c ?k; (case l => k_is); (case c => k_is); (case k => k_is))
    (case a_share => k_is)
    (case df_share => refine' LS.defAt_mk ?l ?c ?k; (case l => k_is); (case c => k_is); (case k => k_is))
    (case a_plus => k_is)
    (case df_plus => refine' LS.defAt_mk ?l ?c ?k; (case l => k_is); (case c => k_is); (case k => k_is))
    (case a_times => k_is)
    (case df_times => refine' LS.defAt_mk ?l ?c ?k; (case l => k_is); (case c => k_is); (case k => k_is))
    (case a_less => k_is)
    (case df_less => refine' LS.defAt_mk ?l ?c ?k; (case l => k_is); (case c => k_is); (case k => k_is))
    (case a_over => k_is)
    (case df_over => refine' LS.defAt_mk ?l ?c ?k; (case l => k_is); (case c => k_is); (case k => k_is))
    (case a_is_less => k_is)
    (case df_is_less => refine' LS.defAt_mk ?l ?c ?k; (case l => k_is); (case c => k_is); (case k => k_is))
    (case a_total => k_is)
    (case df_total => refine' LS.defAt_mk ?l ?c ?k; (case l => k_is); (case c => k_is); (case k => k_is))
    (case a_has_ring => k_is)
    (case df_has_ring => refine' LS.defAt_mk ?l ?c ?k; (case l => k_is); (case c => k_is); (case k => k_is))
    (case a_pivot_at => k_is)
    (case df_pivot_at => refine' LS.defAt_mk ?l ?c ?k; (case l => k_is); (case c => k_is); (case k => k_is))
    (case a_without_unknown => k_is)
    (case df_without_unknown => refine' LS.defAt_mk ?l ?c ?k; (case l => k_is); (case c => k_is); (case k => k_is))
    (case a_with_pivot => k_is)
    (case df_with_pivot => refine' LS.defAt_mk ?l ?c ?k; (case l => k_is); (case c => k_is); (case k => k_is))
    (case a_unknowns => k_is)
    (case df_unknowns => refine' LS.defAt_mk ?l ?c ?k; (case l => k_is); (case c => k_is); (case k => k_is))
    (case a_b___init__ => k_is)
    (case i_b___init__ => k_is)
    (case df_b___init__ => refine' LS.defAt_mk ?l ?c ?k; (case l => k_is); (case c => k_is); (case k => k_is))
    (case a_b_thrown => k_is)
    (case i_b_thrown => k_is)
    (case df_b_thrown => refine' LS.defAt_mk ?l ?c ?k; (case l => k_is); (case c => k_is); (case k => k_is))
    (case a_b_lands => k_is)
    (case i_b_lands => k_is)
    (case df_b_lands => refine' LS.defAt_mk ?l ?c ?k; (case l => k_is); (case c => k_is); (case k => k_is))
    (case a_b_onward => k_is)
    (case i_b_onward => k_is)
    (case df_b_onward => refine' LS.defAt_mk ?l ?c ?k; (case l => k_is); (case c => k_is); (case k => k_is))
    (case a_b_come_to => k_is)
    (case i_b_come_to => k_is)
    (case df_b_come_to => refine' LS.defAt_mk ?l ?c ?k; (case l => k_is); (case c => k_is); (case k => k_is))
    (case a_b_is_sure => k_is)
    (case i_b_is_sure => k_is)
    (case df_b_is_sure => refine' LS.defAt_mk ?l ?c ?k; (case l => k_is); (case c => k_is); (case k => k_is))
    (case a_b_with_jump => k_is)
    (case i_b_with_jump => k_is)
    (case df_b_with_jump => refine' LS.defAt_mk ?l ?c ?k; (case l => k_is); (case c => k_is); (case k => k_is))
    (case a_b_without_jump => k_is)
    (case i_b_without_jump => k_is)
    (case df_b_without_jump => refine' LS.defAt_mk ?l ?c ?k; (case l => k_is); (case c => k_is); (case k => k_is))
    (case a_ways_on => k_is)
    (case df_ways_on => refine' LS.defAt_mk ?l ?c ?k; (case l => k_is); (case c => k_is); (case k => k_is))
    (case a_first_ways => k_is)
    (case df_first_ways => refine' LS.defAt_mk ?l ?c ?k; (case l => k_is); (case c => k_is); (case k => k_is))
    (case a_ways_behind => k_is)
    (case df_ways_behind => refine' LS.defAt_mk ?l ?c ?k; (case l => k_is); (case c => k_is); (case k => k_is))
    (case a_chance_at => k_is)
    (case df_chance_at => refine' LS.defAt_mk ?l ?c ?k; (case l => k_is); (case c => k_is); (case k => k_is))
    (case a_least_throws => k_is)
    (case df_least_throws => refine' LS.defAt_mk ?l ?c ?k; (case l => k_is); (case c => k_is); (case k => k_is))
    (case a_chance_of => k_is)
    (case df_chance_of => refine' LS.defAt_mk ?l ?c ?k; (case l => k_is); (case c => k_is); (case k => k_is))
    (case a_open_places => k_is)
    (case df_open_places => refine' LS.defAt_mk ?l ?c ?k; (case l => k_is); (case c => k_is); (case k => k_is))
    (case a_stay_row => k_is)
    (case df_stay_row => refine' LS.defAt_mk ?l ?c ?k; (case l => k_is); (case c => k_is); (case k => k_is))
    (case a_mean_from => k_is)
    (case df_mean_from => refine' LS.defAt_mk ?l ?c ?k; (case l => k_is); (case c => k_is); (case k => k_is))
    (case a_visits_at => k_is)
    (case df_visits_at => refine' LS.defAt_mk ?l ?c ?k; (case l => k_is); (case c => k_is); (case k => k_is))
    (case a_least_of => k_is)
    (case df_least_of => refine' LS.defAt_mk ?l ?c ?k; (case l => k_is); (case c => k_is); (case k => k_is))
    (case a_race => k_is)
    (case df_race => refine' LS.defAt_mk ?l ?c ?k; (case l => k_is); (case c => k_is); (case k => k_is))
    (case a_want => k_is)
    (case df_want => refine' LS.defAt_mk ?l ?c ?k; (case l => k_is); (case c => k_is); (case k => k_is))
    (case a_pairs_of => k_is)
    (case df_pairs_of => refine' LS.defAt_mk ?l ?c ?k; (case l => k_is); (case c => k_is); (case k => k_is))
    (case a_want_jumps => k_is)
    (case df_want_jumps => refine' LS.defAt_mk ?l ?c ?k; (case l => k_is); (case c => k_is); (case k => k_is))
    (case a_d___init__ => k_is)
    (case i_d___init__ => k_is)
    (case df_d___init__ => refine' LS.defAt_mk ?l ?c ?k; (case l => k_is); (case c => k_is); (case k => k_is))
    (case a_d_put_board => k_is)
    (case i_d_put_board => k_is)
    (case df_d_put_board => refine' LS.defAt_mk ?l ?c ?k; (case l => k_is); (case c => k_is); (case k => k_is))
    (case a_d_want_place => k_is)
    (case i_d_want_place => k_is)
    (case df_d_want_place => refine' LS.defAt_mk ?l ?c ?k; (case l => k_is); (case c => k_is); (case k => k_is))
    (case a_d_lands => k_is)
    (case i_d_lands => k_is)
    (case df_d_lands => refine' LS.defAt_mk ?l ?c ?k; (case l => k_is); (case c => k_is); (case k => k_is))
    (case a_d_within => k_is)
    (case i_d_within => k_is)
    (case df_d_within => refine' LS.defAt_mk ?l ?c ?k; (case l => k_is); (case c => k_is); (case k => k_is))
    (case a_d_at_place => k_is)
    (case i_d_at_place => k_is)
    (case df_d_at_place => refine' LS.defAt_mk ?l ?c ?k; (case l => k_is); (case c => k_is); (case k => k_is))
    (case a_d_mean => k_is)
    (case i_d_mean => k_is)
    (case df_d_mean => refine' LS.defAt_mk ?l ?c ?k; (case l => k_is); (case c => k_is); (case k => k_is))
    (case a_d_least => k_is)
    (case i_d_least => k_is)
    (case df_d_least => refine' LS.defAt_mk ?l ?c ?k; (case l => k_is); (case c => k_is); (case k => k_is))
    (case a_d_visits => k_is)
    (case i_d_visits => k_is)
    (case df_d_visits => refine' LS.defAt_mk ?l ?c ?k; (case l => k_is); (case c => k_is); (case k => k_is))
    (case a_d_race_told => k_is)
    (case i_d_race_told => k_is)
    (case df_d_race_told => refine' LS.defAt_mk ?l ?c ?k; (case l => k_is); (case c => k_is); (case k => k_is))
    (case a_d_jumps_more => k_is)
    (case i_d_jumps_more => k_is)
    (case df_d_jumps_more => refine' LS.defAt_mk ?l ?c ?k; (case l => k_is); (case c => k_is); (case k => k_is))
    (case a_d_better => k_is)
    (case i_d_better => k_is)
    (case df_d_better => refine' LS.defAt_mk ?l ?c ?k; (case l => k_is); (case c => k_is); (case k => k_is))
    (case a_d_without => k_is)
    (case i_d_without => k_is)
    (case df_d_without => refine' LS.defAt_mk ?l ?c ?k; (case l => k_is); (case c => k_is); (case k => k_is))
    (case a_of_place => k_is)
    (case df_of_place => refine' LS.defAt_mk ?l ?c ?k; (case l => k_is); (case c => k_is); (case k => k_is))
    (case a_of_throws => k_is)
    (case df_of_throws => refine' LS.defAt_mk ?l ?c ?k; (case l => k_is); (case c => k_is); (case k => k_is))
    (case a_answer => k_is)
    (case df_answer => refine' LS.defAt_mk ?l ?c ?k; (case l => k_is); (case c => k_is); (case k => k_is))
    (case a_lists_from => k_is)
    (case df_lists_from => refine' LS.defAt_mk ?l ?c ?k; (case l => k_is); (case c => k_is); (case k => k_is))
    (case a_answers => k_is)
    (case df_answers => refine' LS.defAt_mk ?l ?c ?k; (case l => k_is); (case c => k_is); (case k => k_is))
  case S =>
    intro K H xs a hO hwi hask hx
    cases hx with
    | cons h1 h2 =>
      cases h2
      cases h1 with
      | lst hs ha =>
        have e := L2.ints_dw a.1 _ ha
        subst e
        have q : ((Codec.inLen 0 6000 a.1 && a.1.all (Codec.inInt 0 4294967295)) && true) = true := hwi
        rw [Bool.and_eq_true, Bool.and_eq_true] at q
        have q2 := (Codec.inNat_iff.mp q.1.1).2
        exact ⟨_, a.1, rfl, hs, by omega, hask, fun H' p hp => .lst (L2.SqL.of hp) (L2.dw_ints _)⟩
