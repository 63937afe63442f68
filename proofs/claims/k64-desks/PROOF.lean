import PyProof.Rows.All
import Wide.All
import OpenK.AllK
import Wide.FinOn
import HandS.ForMost
import HandS.ForExc
import HandS.Evl
import HandS.Deep
import HandS.IsInst
import HandS.TupAny
import HandS.Zip
import HandS.Flow
import HandS.Star
import PySem.Challenge.RW_defaultswaps_k64_whole_desks_by_a_model
import KE.SortData
import HandS.SortInts
import HandS.SetFor
import HandS.Strs
import HandS.TupSets
import KE.KeyNested
import HandS.Property
import HandS.WordsExc
import HandS.ExcOwn
import HandS.More
import KE.KUnpackStar
import KE.KWithOwn
import HandS.TryMany
import HandS.Lambda
import HandS.EndTab
import KE.KNest
import KE.KNestM
/-! The plain law: what the program and the law reckon, as functions over plain lists, and why they agree. No Python here. -/
set_option linter.all false
namespace DSW

/-- a rule: head (none: no head), holds, fails -/
abbrev Rl := Option Int × List Int × List Int

def within (xs ys : List Int) : Bool := xs.all fun x => ys.contains x
def remB (c : List Int) (r : Rl) : Bool := r.2.2.all fun a => !c.contains a
def hdIn (h : Option Int) (c : List Int) : Bool := match h with
  | none => false
  | some a => c.contains a
def obB (c : List Int) (r : Rl) : Bool := hdIn r.1 c || !within r.2.1 c
def vioB (c : List Int) (r : Rl) : Bool := remB c r && !obB c r

/-! ### strictly ascending lists -/
abbrev Asc (l : List Int) : Prop := l.Pairwise (· < ·)
def ins (x : Int) : List Int → List Int
  | [] => [x]
  | y :: r => if x < y then x :: y :: r else if x = y then y :: r else y :: ins x r
def srt (l : List Int) : List Int := l.foldr ins []
theorem mem_ins {x z : Int} : ∀ {l : List Int}, z ∈ ins x l ↔ z = x ∨ z ∈ l
  | [] => by simp [ins]
  | y :: r => by
    unfold ins
    split
    · simp
    · split
      · rename_i h; subst h; simp
      · rw [List.mem_cons, mem_ins (l := r), List.mem_cons]
        constructor
        · rintro (h | h | h)
          · exact .inr (.inl h)
          · exact .inl h
          · exact .inr (.inr h)
        · rintro (h | h | h)
          · exact .inr (.inl h)
          · exact .inl h
          · exact .inr (.inr h)
theorem asc_ins {x : Int} : ∀ {l : List Int}, Asc l → Asc (ins x l)
  | [], _ => List.pairwise_singleton _ _
  | y :: r, h => by
    obtain ⟨h1, h2⟩ := List.pairwise_cons.mp h
    unfold ins
    split
    · rename_i q
      refine List.pairwise_cons.mpr ⟨fun z hz => ?_, h⟩
      rcases List.mem_cons.mp hz with e | hz
      · omega
      · have := h1 z hz; omega
    · split
      · exact h
      · refine List.pairwise_cons.mpr ⟨fun z hz => ?_, asc_ins h2⟩
        rcases mem_ins.mp hz with e | hz
        · omega
        · exact h1 z hz
theorem mem_srt {z : Int} : ∀ {l : List Int}, z ∈ srt l ↔ z ∈ l
  | [] => Iff.rfl
  | x :: r => by
    show z ∈ ins x (srt r) ↔ _
    rw [mem_ins, mem_srt (l := r), List.mem_cons]
theorem asc_srt : ∀ l : List Int, Asc (srt l)
  | [] => List.Pairwise.nil
  | x :: r => asc_ins (asc_srt r)
/-- an ascending list is told by its members -/
theorem asc_ext : ∀ {l m : List Int}, Asc l → Asc m → (∀ z, z ∈ l ↔ z ∈ m) → l = m
  | [], [], _, _, _ => rfl
  | [], y :: m, _, _, h => absurd ((h y).mpr List.mem_cons_self) (by simp)
  | x :: l, [], _, _, h => absurd ((h x).mp List.mem_cons_self) (by simp)
  | x :: l, y :: m, hl, hm, h => by
    obtain ⟨l1, l2⟩ := List.pairwise_cons.mp hl
    obtain ⟨m1, m2⟩ := List.pairwise_cons.mp hm
    have e : x = y := by
      rcases List.mem_cons.mp ((h x).mp List.mem_cons_self) with e | q
      · exact e
      · rcases List.mem_cons.mp ((h y).mpr List.mem_cons_self) with e | p
        · exact e.symm
        · have a := m1 x q
          have b := l1 y p
          omega
    subst e
    have : l = m := asc_ext l2 m2 fun z => by
      constructor
      · intro hz
        rcases List.mem_cons.mp ((h z).mp (List.mem_cons_of_mem _ hz)) with e | q
        · have := l1 z hz; omega
        · exact q
      · intro hz
        rcases List.mem_cons.mp ((h z).mpr (List.mem_cons_of_mem _ hz)) with e | q
        · have := m1 z hz; omega
        · exact q
    rw [this]
theorem asc_nodup {l : List Int} (h : Asc l) : l.Nodup := List.Pairwise.imp (fun h => by omega) h
/-- sorted without equal ones: ascending -/
theorem asc_of_sorted {l : List Int} (h : l.Pairwise (· ≤ ·)) (n : l.Nodup) : Asc l := by
  induction l with
  | nil => exact List.Pairwise.nil
  | cons x r ih =>
    obtain ⟨h1, h2⟩ := List.pairwise_cons.mp h
    obtain ⟨n1, n2⟩ := List.nodup_cons.mp n
    refine List.pairwise_cons.mpr ⟨fun z hz => ?_, ih h2 n2⟩
    have a := h1 z hz
    have b : x ≠ z := fun e => n1 (e ▸ hz)
    omega
theorem srt_of {l m : List Int} (h : m.Pairwise (· ≤ ·)) (n : m.Nodup) (e : ∀ z, z ∈ m ↔ z ∈ l) : m = srt l :=
  asc_ext (asc_of_sorted h n) (asc_srt l) fun z => (e z).trans mem_srt.symm
theorem srt_asc {l : List Int} (h : Asc l) : srt l = l := asc_ext (asc_srt l) h fun z => mem_srt

/-! ### few -/
def Bd (n : Int) (l : List Int) : Prop := ∀ x ∈ l, 0 ≤ x ∧ x < n
theorem len_bd : ∀ (k : Nat) (l : List Int), l.Nodup → Bd k l → l.length ≤ k
  | 0, [], _, _ => Nat.le_refl _
  | 0, x :: r, _, h => by have := h x List.mem_cons_self; omega
  | k + 1, l, n, h => by
    have h2 : (l.erase (k : Int)).length ≤ k := len_bd k _ (n.erase _) fun x hx => by
      obtain ⟨ne, m⟩ := (List.Nodup.mem_erase_iff n).mp hx
      have := h x m
      omega
    by_cases hm : (k : Int) ∈ l
    · rw [List.length_erase_of_mem hm] at h2
      omega
    · rw [List.erase_of_not_mem hm] at h2
      omega

/-! ### what the rules ask of a set -/
def Closed (rs : List Rl) (S : List Int) : Prop := ∀ r ∈ rs, ∀ a, r.1 = some a → (∀ x ∈ r.2.1, x ∈ S) → a ∈ S
theorem within_iff {xs ys : List Int} : within xs ys = true ↔ ∀ x ∈ xs, x ∈ ys := by simp [within]
/-- the law's step, lap, laps -/
def stp (low : List Int) (r : Rl) : List Int := match r.1 with
  | none => low
  | some a => if !low.contains a && within r.2.1 low then low ++ [a] else low
def lap (rs : List Rl) (low : List Int) : List Int := rs.foldl stp low
def laps (rs : List Rl) : Nat → List Int → List Int
  | 0, low => low
  | n + 1, low => laps rs n (lap rs low)
theorem laps_succ (rs : List Rl) : ∀ (n : Nat) (low : List Int), laps rs (n + 1) low = lap rs (laps rs n low)
  | 0, _ => rfl
  | n + 1, low => laps_succ rs n (lap rs low)
theorem stp_sub {r : Rl} {low S : List Int} (hS : ∀ a, r.1 = some a → (∀ x ∈ r.2.1, x ∈ S) → a ∈ S) (h : ∀ x ∈ low, x ∈ S) : ∀ x ∈ stp low r, x ∈ S := by
  unfold stp
  split
  · exact h
  · rename_i a e
    split
    · rename_i c
      rw [Bool.and_eq_true] at c
      intro x hx
      rcases List.mem_append.mp hx with q | q
      · exact h x q
      · rw [List.mem_singleton.mp q]
        exact hS a e fun y hy => h y (within_iff.mp c.2 y hy)
    · exact h
theorem lap_sub {rs : List Rl} {S : List Int} (hS : Closed rs S) : ∀ {low : List Int}, (∀ x ∈ low, x ∈ S) → ∀ x ∈ lap rs low, x ∈ S := by
  induction rs with
  | nil => intro low h; exact h
  | cons r rs ih =>
    intro low h
    exact ih (fun q hq => hS q (List.mem_cons_of_mem _ hq)) (stp_sub (hS r List.mem_cons_self) h)
theorem laps_sub {rs : List Rl} {S : List Int} (hS : Closed rs S) : ∀ (n : Nat) {low : List Int}, (∀ x ∈ low, x ∈ S) → ∀ x ∈ laps rs n low, x ∈ S
  | 0, _, h => h
  | n + 1, _, h => laps_sub hS n (lap_sub hS h)
theorem stp_grow (low : List Int) (r : Rl) : stp low r = low ∨ ∃ a, stp low r = low ++ [a] ∧ a ∉ low ∧ r.1 = some a := by
  unfold stp
  split
  · exact .inl rfl
  · rename_i a e
    split
    · rename_i c
      rw [Bool.and_eq_true] at c
      refine .inr ⟨a, rfl, ?_, e⟩
      have := c.1
      simpa using this
    · exact .inl rfl
theorem lap_len (rs : List Rl) : ∀ low : List Int, low.length ≤ (lap rs low).length := by
  induction rs with
  | nil => intro low; exact Nat.le_refl _
  | cons r rs ih =>
    intro low
    refine Nat.le_trans ?_ (ih (stp low r))
    rcases stp_grow low r with e | ⟨a, e, _⟩
    · rw [e]; exact Nat.le_refl _
    · rw [e, List.length_append]; omega
theorem lap_fix {rs : List Rl} : ∀ {low : List Int}, (lap rs low).length = low.length → lap rs low = low ∧ Closed rs low := by
  induction rs with
  | nil => intro low _; exact ⟨rfl, fun r hr => by cases hr⟩
  | cons r rs ih =>
    intro low h
    have h1 : (lap rs (stp low r)).length = low.length := h
    have h2 := lap_len rs (stp low r)
    rcases stp_grow low r with e | ⟨a, e, _⟩
    · rw [e] at h1
      obtain ⟨i1, i2⟩ := ih h1
      refine ⟨by show lap rs (stp low r) = low; rw [e]; exact i1, fun q hq => ?_⟩
      rcases List.mem_cons.mp hq with c | c
      · intro a ea hx
        subst c
        unfold stp at e
        rw [ea] at e
        dsimp only at e
        split at e
        · have := congrArg List.length e
          rw [List.length_append, List.length_singleton] at this
          omega
        · rename_i c
          rw [Bool.and_eq_true, not_and] at c
          by_cases m : a ∈ low
          · exact m
          · exact absurd (within_iff.mpr hx) (c (by simp [m]))
      · exact i2 q c
    · have h3 : (stp low r).length = low.length + 1 := by rw [e, List.length_append, List.length_singleton]
      omega
def HdBd (n : Int) (rs : List Rl) : Prop := ∀ r ∈ rs, ∀ a, r.1 = some a → 0 ≤ a ∧ a < n
theorem lap_ok {n : Int} {rs : List Rl} (hb : HdBd n rs) : ∀ {low : List Int}, low.Nodup → Bd n low → (lap rs low).Nodup ∧ Bd n (lap rs low) := by
  induction rs with
  | nil => intro low h1 h2; exact ⟨h1, h2⟩
  | cons r rs ih =>
    intro low h1 h2
    refine ih (fun q hq => hb q (List.mem_cons_of_mem _ hq)) ?_ ?_
    · rcases stp_grow low r with e | ⟨a, e, m, _⟩
      · rw [e]; exact h1
      · rw [e]
        refine List.nodup_append.mpr ⟨h1, List.pairwise_singleton _ _, fun x hx y hy z => ?_⟩
        rw [List.mem_singleton.mp hy] at z
        exact m (z ▸ hx)
    · rcases stp_grow low r with e | ⟨a, e, m, ea⟩
      · rw [e]; exact h2
      · rw [e]
        intro x hx
        rcases List.mem_append.mp hx with q | q
        · exact h2 x q
        · rw [List.mem_singleton.mp q]
          exact hb r List.mem_cons_self a ea
theorem laps_ok {n : Int} {rs : List Rl} (hb : HdBd n rs) : ∀ (k : Nat) {low : List Int}, low.Nodup → Bd n low → (laps rs k low).Nodup ∧ Bd n (laps rs k low)
  | 0, _, h1, h2 => ⟨h1, h2⟩
  | k + 1, _, h1, h2 => laps_ok hb k (lap_ok hb h1 h2).1 (lap_ok hb h1 h2).2
theorem laps_fixed {rs : List Rl} {low : List Int} (h : lap rs low = low) : ∀ k, laps rs k low = low
  | 0 => rfl
  | k + 1 => by show laps rs k (lap rs low) = low; rw [h]; exact laps_fixed h k
theorem laps_add (rs : List Rl) : ∀ (i j : Nat) (low : List Int), laps rs (i + j) low = laps rs j (laps rs i low)
  | 0, j, low => by rw [Nat.zero_add]; rfl
  | i + 1, j, low => by
    rw [Nat.succ_add]
    exact laps_add rs i j (lap rs low)
/-- five laps are enough for four atoms -/
theorem laps_closed {rs : List Rl} (hb : HdBd 4 rs) : Closed rs (laps rs 5 []) := by
  have nd : ∀ k, (laps rs k []).Nodup ∧ Bd 4 (laps rs k []) := fun k => laps_ok hb k List.nodup_nil (fun x hx => by cases hx)
  have le4 : ∀ k, (laps rs k []).length ≤ 4 := fun k => len_bd 4 _ (nd k).1 (nd k).2
  have stop : ∃ i, i ≤ 4 ∧ (lap rs (laps rs i [])).length = (laps rs i []).length := by
    refine Classical.byContradiction fun no => ?_
    have up : ∀ i, i ≤ 5 → i ≤ (laps rs i []).length := by
      intro i
      induction i with
      | zero => intro _; exact Nat.zero_le _
      | succ i ih =>
        intro hi
        have a := ih (by omega)
        have b := lap_len rs (laps rs i [])
        have c : (lap rs (laps rs i [])).length ≠ (laps rs i []).length := fun e => no ⟨i, by omega, e⟩
        rw [laps_succ]
        omega
    have a := up 5 (Nat.le_refl _)
    have b := le4 5
    omega
  obtain ⟨i, hi, e⟩ := stop
  obtain ⟨f, c⟩ := lap_fix e
  have e5 : laps rs 5 [] = laps rs i [] := by
    have : laps rs (i + (5 - i)) [] = laps rs (5 - i) (laps rs i []) := laps_add rs i (5 - i) []
    rw [show i + (5 - i) = 5 by omega, laps_fixed f] at this
    exact this
  rw [e5]
  exact c
/-- the least set, ascending -/
def lfp (rs : List Rl) : List Int := srt (laps rs 5 [])
theorem lfp_is {rs : List Rl} (hb : HdBd 4 rs) {f : List Int} (hf : Asc f) (hc : Closed rs f) (hm : ∀ S, Closed rs S → ∀ x ∈ f, x ∈ S) : f = lfp rs :=
  asc_ext hf (asc_srt _) fun z => by
    unfold lfp
    rw [mem_srt]
    exact ⟨fun h => hm _ (laps_closed hb) z h, fun h => laps_sub hc 5 (fun x hx => by cases hx) z h⟩

/-! ### the program's own loop -/
def heads (rs : List Rl) (c : List Int) : List Rl := rs.filter fun r => r.1.isSome && remB c r
def ables (rs : List Rl) (c : List Int) : List Rl := rs.filter (remB c)
/-- the heads still wanted at f -/
def more (sm : List Rl) (f : List Int) : List Int := (sm.filter fun r => !obB f r).filterMap (·.1)
def grow (sm : List Rl) (f : List Int) : List Int := srt (f ++ more sm f)
theorem mem_more {sm : List Rl} {f : List Int} {a : Int} : a ∈ more sm f ↔ ∃ r ∈ sm, r.1 = some a ∧ a ∉ f ∧ ∀ x ∈ r.2.1, x ∈ f := by
  unfold more
  rw [List.mem_filterMap]
  constructor
  · rintro ⟨r, hr, e⟩
    obtain ⟨h1, h2⟩ := List.mem_filter.mp hr
    refine ⟨r, h1, e, ?_⟩
    unfold obB hdIn at h2
    rw [e] at h2
    simp only [Bool.not_or, Bool.not_not, Bool.and_eq_true] at h2
    exact ⟨by simpa using h2.1, within_iff.mp h2.2⟩
  · rintro ⟨r, hr, e, h1, h2⟩
    refine ⟨r, List.mem_filter.mpr ⟨hr, ?_⟩, e⟩
    unfold obB hdIn
    rw [e]
    simp only [Bool.not_or, Bool.not_not, Bool.and_eq_true]
    exact ⟨by simpa using h1, within_iff.mpr h2⟩
theorem more_nil {sm : List Rl} {f : List Int} (h : more sm f = []) : Closed sm f := fun r hr a e hx => by
  by_cases m : a ∈ f
  · exact m
  · have : a ∈ more sm f := mem_more.mpr ⟨r, hr, e, m, hx⟩
    rw [h] at this
    cases this
/-- what holds of f while it grows -/
structure Gr (n : Int) (sm : List Rl) (f : List Int) : Prop where
  asc : Asc f
  bd : Bd n f
  low : ∀ S, Closed sm S → ∀ x ∈ f, x ∈ S
theorem Gr.nil (n : Int) (sm : List Rl) : Gr n sm [] := ⟨List.Pairwise.nil, (fun x hx => by cases hx), (fun _ _ x hx => by cases hx)⟩
theorem Gr.next {n : Int} {sm : List Rl} (hb : HdBd n sm) {f : List Int} (g : Gr n sm f) : Gr n sm (grow sm f) := by
  refine ⟨asc_srt _, fun x hx => ?_, fun S hS x hx => ?_⟩
  · rcases List.mem_append.mp (mem_srt.mp hx) with q | q
    · exact g.bd x q
    · obtain ⟨r, hr, e, _⟩ := mem_more.mp q
      exact hb r hr x e
  · rcases List.mem_append.mp (mem_srt.mp hx) with q | q
    · exact g.low S hS x q
    · obtain ⟨r, hr, e, _, h2⟩ := mem_more.mp q
      exact hS r hr x e fun y hy => g.low S hS y (h2 y hy)
theorem nodup_sub_len : ∀ {l m : List Int}, l.Nodup → (∀ x ∈ l, x ∈ m) → l.length ≤ m.length
  | [], _, _, _ => Nat.zero_le _
  | x :: l, m, n, h => by
    obtain ⟨n1, n2⟩ := List.nodup_cons.mp n
    have hx := h x List.mem_cons_self
    have : l.length ≤ (m.erase x).length := nodup_sub_len n2 fun y hy => by
      have ne : y ≠ x := fun e => n1 (e ▸ hy)
      exact (List.mem_erase_of_ne ne).mpr (h y (List.mem_cons_of_mem _ hy))
    rw [List.length_erase_of_mem hx] at this
    have p : 0 < m.length := List.length_pos_of_mem hx
    rw [List.length_cons]
    omega
/-- it grows while something is wanted -/
theorem grow_len {sm : List Rl} {f : List Int} (hf : Asc f) (h : more sm f ≠ []) : f.length < (grow sm f).length := by
  obtain ⟨a, ha⟩ := List.exists_mem_of_ne_nil _ h
  obtain ⟨r, hr, e, m, _⟩ := mem_more.mp ha
  have : (a :: f).length ≤ (grow sm f).length := nodup_sub_len (List.nodup_cons.mpr ⟨m, asc_nodup hf⟩) fun x hx => by
    refine mem_srt.mpr (List.mem_append.mpr ?_)
    rcases List.mem_cons.mp hx with q | q
    · rw [q]; exact .inr ha
    · exact .inl q
  exact this
theorem closed_heads {rs : List Rl} {c S : List Int} : Closed (heads rs c) S ↔ Closed (ables rs c) S := by
  constructor
  · intro h r hr a e
    obtain ⟨h1, h2⟩ := List.mem_filter.mp hr
    exact h r (List.mem_filter.mpr ⟨h1, by rw [e, h2]; rfl⟩) a e
  · intro h r hr a e
    obtain ⟨h1, h2⟩ := List.mem_filter.mp hr
    rw [Bool.and_eq_true] at h2
    exact h r (List.mem_filter.mpr ⟨h1, h2.2⟩) a e
/-- the loop's end is the law's least set -/
theorem gr_end {rs : List Rl} {c f : List Int} (hb : HdBd 4 rs) (g : Gr 4 (heads rs c) f) (h : more (heads rs c) f = []) : f = lfp (ables rs c) := by
  refine lfp_is (fun r hr => hb r (List.mem_filter.mp hr).1) g.asc (closed_heads.mp (more_nil h)) fun S hS => g.low S (closed_heads.mpr hS)

/-! ### settled, both ways -/
/-- the program's -/
def settB (rs : List Rl) (c : List Int) : Bool := decide (lfp (ables rs c) = c) && (rs.filter (vioB c)).isEmpty
/-- the law's -/
def lawB (rs : List Rl) (c : List Int) : Bool := decide (lfp (ables rs c) = c) && ((ables rs c).filter fun r => r.1.isNone && within r.2.1 c).isEmpty
theorem lfp_closed {rs : List Rl} (hb : HdBd 4 rs) : Closed rs (lfp rs) := fun r hr a e h =>
  mem_srt.mpr (laps_closed hb r hr a e fun x hx => mem_srt.mp (h x hx))
theorem sett_law {rs : List Rl} (hb : HdBd 4 rs) (c : List Int) : settB rs c = lawB rs c := by
  unfold settB lawB
  by_cases e : lfp (ables rs c) = c
  · rw [decide_eq_true e, Bool.true_and, Bool.true_and]
    have cl : Closed (ables rs c) c := by
      have := lfp_closed (rs := ables rs c) fun r hr => hb r (List.mem_filter.mp hr).1
      rw [e] at this
      exact this
    rw [Bool.eq_iff_iff, List.isEmpty_iff, List.isEmpty_iff, List.filter_eq_nil_iff, List.filter_eq_nil_iff]
    constructor
    · intro h r hr q
      obtain ⟨h1, h2⟩ := List.mem_filter.mp hr
      rw [Bool.and_eq_true] at q
      refine h r h1 ?_
      unfold vioB obB hdIn
      have n : r.1 = none := by simpa using q.1
      rw [h2, n, q.2]
      rfl
    · intro h r hr q
      unfold vioB at q
      rw [Bool.and_eq_true] at q
      obtain ⟨q1, q2⟩ := q
      unfold obB at q2
      rw [Bool.not_or, Bool.not_not, Bool.and_eq_true] at q2
      obtain ⟨q2, q3⟩ := q2
      have hm : r ∈ ables rs c := List.mem_filter.mpr ⟨hr, q1⟩
      cases er : r.1 with
      | none => exact h r hm (by rw [er, q3]; rfl)
      | some a =>
        have : a ∈ c := cl r hm a er (within_iff.mp q3)
        unfold hdIn at q2
        rw [er] at q2
        simp [this] at q2
  · rw [decide_eq_false e, Bool.false_and, Bool.false_and]

end DSW
set_option Elab.async false
set_option linter.all false
set_option maxRecDepth 100000
set_option maxHeartbeats 2000000
/-! A small calculus over the layer: expressions and statements told by data (PyData), the heap only grown. -/
namespace DSW
open PySem PySem.Spec PyProof.Rows L2 Evl

/-! ### data in an abstract heap -/
mutual
def Dq (K : PySem.W.Frag) (H : Hp) : PyData → V → Prop
  | .none, v => v = .non
  | .bool b, v => v = .bl b
  | .int i, v => v = .int i
  | .str x, v => v = .str x
  | .tuple ds, v => ∃ a xs, v = .ref a ∧ SqT K H a xs ∧ DqA K H ds xs
  | .list ds, v => ∃ a xs, v = .ref a ∧ H a = some (.lst xs) ∧ DqA K H ds xs
  | .dict _, _ => False
def DqA (K : PySem.W.Frag) (H : Hp) : List PyData → List V → Prop
  | [], vs => vs = []
  | d :: ds, vs => ∃ v r, vs = v :: r ∧ Dq K H d v ∧ DqA K H ds r
end
section
variable {K : PySem.W.Frag} {H H' : Hp}
theorem dq_int {i : Int} {v : V} : Dq K H (.int i) v ↔ v = .int i := by unfold Dq; exact Iff.rfl
theorem dq_bool {b : Bool} {v : V} : Dq K H (.bool b) v ↔ v = .bl b := by unfold Dq; exact Iff.rfl
theorem dq_str {x : Str} {v : V} : Dq K H (.str x) v ↔ v = .str x := by unfold Dq; exact Iff.rfl
theorem dq_none {v : V} : Dq K H .none v ↔ v = .non := by unfold Dq; exact Iff.rfl
theorem dq_tup {ds : List PyData} {v : V} : Dq K H (.tuple ds) v ↔ ∃ a xs, v = .ref a ∧ SqT K H a xs ∧ DqA K H ds xs := by unfold Dq; exact Iff.rfl
theorem dq_lst {ds : List PyData} {v : V} : Dq K H (.list ds) v ↔ ∃ a xs, v = .ref a ∧ H a = some (.lst xs) ∧ DqA K H ds xs := by unfold Dq; exact Iff.rfl
theorem dqA_nil {vs : List V} : DqA K H [] vs ↔ vs = [] := by unfold DqA; exact Iff.rfl
theorem dqA_cons {d : PyData} {ds : List PyData} {vs : List V} : DqA K H (d :: ds) vs ↔ ∃ v r, vs = v :: r ∧ Dq K H d v ∧ DqA K H ds r := by
  rw [show DqA K H (d :: ds) vs = (∃ v r, vs = v :: r ∧ Dq K H d v ∧ DqA K H ds r) by conv => lhs; unfold DqA]

/-- what the data leans on: lists and tuples, locked ones too -/
def isSq : HO → Bool
  | .lst _ => true
  | .tup _ => true
  | .frz _ _ => true
  | _ => false
/-- lists and tuples stay -/
def Kp (H H' : Hp) : Prop := ∀ a o, H a = some o → isSq o = true → H' a = some o
theorem Kp.of (e : Ex H H') : Kp H H' := fun a o h _ => e a o h
theorem Kp.refl (H : Hp) : Kp H H := fun _ _ h _ => h
theorem Kp.trans {H1 H2 H3 : Hp} (a : Kp H1 H2) (b : Kp H2 H3) : Kp H1 H3 := fun x o h s => b x o (a x o h s) s
theorem kp_rdT {a : Addr} {xs : List V} (k : Kp H H') (h : SqT K H a xs) : SqT K H' a xs := by
  rcases h with (h | ⟨o, h⟩) | h
  · exact .inl (.inl (k _ _ h rfl))
  · exact .inl (.inr ⟨o, k _ _ h rfl⟩)
  · exact .inr h
/-- .. and instances -/
def isSqI : HO → Bool
  | .ins _ _ _ => true
  | o => isSq o
def Kpi (H H' : Hp) : Prop := ∀ a o, H a = some o → isSqI o = true → H' a = some o
theorem Kpi.of (e : Ex H H') : Kpi H H' := fun a o h _ => e a o h
theorem isSqI_of {o : HO} (h : isSq o = true) : isSqI o = true := by cases o <;> first | rfl | exact h
theorem Kpi.kp (k : Kpi H H') : Kp H H' := fun a o h s => k a o h (isSqI_of s)
mutual
theorem Dq.keep (k : Kp H H') : ∀ (d : PyData) (v : V), Dq K H d v → Dq K H' d v
  | .none, _, h => dq_none.mpr (dq_none.mp h)
  | .bool _, _, h => dq_bool.mpr (dq_bool.mp h)
  | .int _, _, h => dq_int.mpr (dq_int.mp h)
  | .str _, _, h => dq_str.mpr (dq_str.mp h)
  | .tuple ds, _, h => by
    obtain ⟨a, xs, e, hs, ha⟩ := dq_tup.mp h
    exact dq_tup.mpr ⟨a, xs, e, kp_rdT k hs, DqA.keep k ds xs ha⟩
  | .list ds, _, h => by
    obtain ⟨a, xs, e, hs, ha⟩ := dq_lst.mp h
    exact dq_lst.mpr ⟨a, xs, e, k _ _ hs rfl, DqA.keep k ds xs ha⟩
  | .dict _, _, h => by unfold Dq at h; exact h.elim
theorem DqA.keep (k : Kp H H') : ∀ (ds : List PyData) (vs : List V), DqA K H ds vs → DqA K H' ds vs
  | [], _, h => dqA_nil.mpr (dqA_nil.mp h)
  | d :: ds, _, h => by
    obtain ⟨v, r, e, h1, h2⟩ := dqA_cons.mp h
    exact dqA_cons.mpr ⟨v, r, e, Dq.keep k d v h1, DqA.keep k ds r h2⟩
end
mutual
theorem Dq.dp : ∀ (d : PyData) (v : V), Dq K H d v → Dp K H v d
  | .none, _, h => by rw [dq_none.mp h]; exact .non
  | .bool _, _, h => by rw [dq_bool.mp h]; exact .bl _
  | .int _, _, h => by rw [dq_int.mp h]; exact .int _
  | .str _, _, h => by rw [dq_str.mp h]; exact .str _
  | .tuple ds, _, h => by
    obtain ⟨a, xs, e, hs, ha⟩ := dq_tup.mp h
    rw [e]
    exact .tup hs (DqA.dp ds xs ha)
  | .list ds, _, h => by
    obtain ⟨a, xs, e, hs, ha⟩ := dq_lst.mp h
    rw [e]
    exact .lst (SqL.of hs) (DqA.dp ds xs ha)
  | .dict _, _, h => by unfold Dq at h; exact h.elim
theorem DqA.dp : ∀ (ds : List PyData) (vs : List V), DqA K H ds vs → DpAll K H vs ds
  | [], _, h => by rw [dqA_nil.mp h]; exact .nil
  | d :: ds, _, h => by
    obtain ⟨v, r, e, h1, h2⟩ := dqA_cons.mp h
    rw [e]
    exact .cons (Dq.dp d v h1) (DqA.dp ds r h2)
end
theorem DqA.len : ∀ {ds : List PyData} {vs : List V}, DqA K H ds vs → vs.length = ds.length
  | [], _, h => by rw [dqA_nil.mp h]; rfl
  | d :: ds, _, h => by
    obtain ⟨v, r, e, h1, h2⟩ := dqA_cons.mp h
    rw [e, List.length_cons, List.length_cons, DqA.len h2]
theorem DqA.get : ∀ {ds : List PyData} {vs : List V} {i : Nat} {d : PyData}, DqA K H ds vs → ds[i]? = some d → ∃ v, vs[i]? = some v ∧ Dq K H d v
  | [], _, _, _, _, e => by simp at e
  | d :: ds, _, 0, x, h, e => by
    obtain ⟨v, r, ev, h1, h2⟩ := dqA_cons.mp h
    have e' : d = x := by simpa using e
    rw [ev, ← e']
    exact ⟨v, rfl, h1⟩
  | d :: ds, _, i + 1, x, h, e => by
    obtain ⟨v, r, ev, h1, h2⟩ := dqA_cons.mp h
    rw [ev]
    exact DqA.get (i := i) h2 (by simpa using e)
theorem DqA.get' {ds : List PyData} {vs : List V} {i : Nat} {v : V} (h : DqA K H ds vs) (e : vs[i]? = some v) : ∃ d, ds[i]? = some d ∧ Dq K H d v := by
  have hi : i < ds.length := by
    rw [← h.len]
    exact (List.getElem?_eq_some_iff.mp e).1
  obtain ⟨w, e2, q⟩ := h.get (List.getElem?_eq_getElem hi)
  rw [e] at e2
  cases e2
  exact ⟨_, List.getElem?_eq_getElem hi, q⟩
theorem DqA.append : ∀ {ds es : List PyData} {vs ws : List V}, DqA K H ds vs → DqA K H es ws → DqA K H (ds ++ es) (vs ++ ws)
  | [], _, _, _, h, h' => by rw [dqA_nil.mp h]; exact h'
  | d :: ds, _, _, _, h, h' => by
    obtain ⟨v, r, e, h1, h2⟩ := dqA_cons.mp h
    rw [e]
    exact dqA_cons.mpr ⟨v, _, rfl, h1, DqA.append h2 h'⟩
theorem DqA.one {d : PyData} {v : V} (h : Dq K H d v) : DqA K H [d] [v] := dqA_cons.mpr ⟨v, [], rfl, h, dqA_nil.mpr rfl⟩
theorem DqA.take : ∀ {ds : List PyData} {vs : List V} (n : Nat), DqA K H ds vs → DqA K H (ds.take n) (vs.take n)
  | _, _, 0, _ => dqA_nil.mpr rfl
  | [], _, n + 1, h => by rw [dqA_nil.mp h]; exact dqA_nil.mpr rfl
  | d :: ds, _, n + 1, h => by
    obtain ⟨v, r, e, h1, h2⟩ := dqA_cons.mp h
    rw [e]
    exact dqA_cons.mpr ⟨v, _, rfl, h1, DqA.take n h2⟩
theorem DqA.drop : ∀ {ds : List PyData} {vs : List V} (n : Nat), DqA K H ds vs → DqA K H (ds.drop n) (vs.drop n)
  | _, _, 0, h => h
  | [], _, n + 1, h => by rw [dqA_nil.mp h]; exact dqA_nil.mpr rfl
  | d :: ds, _, n + 1, h => by
    obtain ⟨v, r, e, h1, h2⟩ := dqA_cons.mp h
    rw [e]
    exact DqA.drop n h2
end

/-! ### what a slot holds: data, or a very value -/
inductive Dv where
  | d (x : PyData)
  | v (x : V)
  /-- the instance at a of the class at C, its attributes data -/
  | o (a C : Addr) (fs : List (Str × PyData))
abbrev En := List (Option Dv)
/-- the instance at a has these attributes -/
def InsAt (K : PySem.W.Frag) (H : Hp) (a C : Addr) (fs : List (Str × PyData)) : Prop := ∃ dx vs, H a = some (.ins C dx ((fs.map (·.1)).zip vs)) ∧ DqA K H (fs.map (·.2)) vs
def Rv (K : PySem.W.Frag) (H : Hp) (v : V) : Dv → Prop
  | .d x => Dq K H x v
  | .v x => v = x
  | .o a C fs => v = .ref a ∧ InsAt K H a C fs
theorem rv_bool {K : PySem.W.Frag} {H : Hp} {v : V} {b : Bool} : Rv K H v (.d (.bool b)) ↔ v = .bl b := dq_bool (K := K) (H := H)
theorem rv_int {K : PySem.W.Frag} {H : Hp} {v : V} {i : Int} : Rv K H v (.d (.int i)) ↔ v = .int i := dq_int (K := K) (H := H)
theorem rv_str {K : PySem.W.Frag} {H : Hp} {v : V} {x : Str} : Rv K H v (.d (.str x)) ↔ v = .str x := dq_str (K := K) (H := H)
theorem rv_none {K : PySem.W.Frag} {H : Hp} {v : V} : Rv K H v (.d .none) ↔ v = .non := dq_none (K := K) (H := H)
theorem rv_tup {K : PySem.W.Frag} {H : Hp} {v : V} {ds : List PyData} : Rv K H v (.d (.tuple ds)) ↔ ∃ a xs, v = .ref a ∧ SqT K H a xs ∧ DqA K H ds xs := dq_tup (K := K) (H := H)
theorem rv_lst {K : PySem.W.Frag} {H : Hp} {v : V} {ds : List PyData} : Rv K H v (.d (.list ds)) ↔ ∃ a xs, v = .ref a ∧ H a = some (.lst xs) ∧ DqA K H ds xs := dq_lst (K := K) (H := H)
theorem Rv.keep {K : PySem.W.Frag} {H H' : Hp} (k : Kpi H H') {v : V} : ∀ {d : Dv}, Rv K H v d → Rv K H' v d
  | .d x, h => Dq.keep k.kp x v h
  | .v _, h => h
  | .o a C fs, ⟨e, dx, vs, h1, h2⟩ => ⟨e, dx, vs, k _ _ h1 rfl, DqA.keep k.kp _ _ h2⟩
theorem Rv.ex {K : PySem.W.Frag} {H H' : Hp} (e : Ex H H') {v : V} {d : Dv} (h : Rv K H v d) : Rv K H' v d := h.keep (.of e)
inductive RvA (K : PySem.W.Frag) (H : Hp) : List V → List Dv → Prop
  | nil : RvA K H [] []
  | cons {v : V} {vs : List V} {d : Dv} {ds : List Dv} : Rv K H v d → RvA K H vs ds → RvA K H (v :: vs) (d :: ds)
theorem RvA.keep {K : PySem.W.Frag} {H H' : Hp} (k : Kpi H H') {vs : List V} {ds : List Dv} (h : RvA K H vs ds) : RvA K H' vs ds := by
  induction h with
  | nil => exact .nil
  | cons a _ ih => exact .cons (a.keep k) ih
theorem RvA.ex {K : PySem.W.Frag} {H H' : Hp} (e : Ex H H') {vs : List V} {ds : List Dv} (h : RvA K H vs ds) : RvA K H' vs ds := h.keep (.of e)
theorem RvA.len {K : PySem.W.Frag} {H : Hp} {vs : List V} {ds : List Dv} (h : RvA K H vs ds) : vs.length = ds.length := by
  induction h with
  | nil => rfl
  | cons _ _ ih => rw [List.length_cons, List.length_cons, ih]
theorem RvA.data {K : PySem.W.Frag} {H : Hp} : ∀ {ds : List PyData} {vs : List V}, RvA K H vs (ds.map Dv.d) → DqA K H ds vs
  | [], _, h => by cases h; exact dqA_nil.mpr rfl
  | d :: ds, _, h => by
    cases h with
    | cons a b => exact dqA_cons.mpr ⟨_, _, rfl, a, RvA.data b⟩
theorem RvA.get {K : PySem.W.Frag} {H : Hp} {vs : List V} {ds : List Dv} (h : RvA K H vs ds) : ∀ {i : Nat} {d : Dv}, ds[i]? = some d → ∃ v, vs[i]? = some v ∧ Rv K H v d := by
  induction h with
  | nil => intro i d e; simp at e
  | cons a b ih =>
    intro i d e
    cases i with
    | zero =>
      have e' := Option.some.inj (show some _ = some d from e)
      rw [← e']
      exact ⟨_, rfl, a⟩
    | succ i => exact ih (i := i) (by simpa using e)

/-- the slots hold what ρ says (none: anything) -/
def Rs (K : PySem.W.Frag) (H : Hp) (σ : L2.St) (ρ : En) : Prop := σ.length = ρ.length ∧ ∀ (i : Nat) (d : Dv), ρ[i]? = some (some d) → ∃ v, σ[i]? = some (some v) ∧ Rv K H v d
section
variable {K : PySem.W.Frag} {H H' : Hp} {σ : L2.St} {ρ ρ' : En}
theorem Rs.keep (k : Kpi H H') (h : Rs K H σ ρ) : Rs K H' σ ρ := ⟨h.1, fun i d e => by
  obtain ⟨v, e1, r⟩ := h.2 i d e
  exact ⟨v, e1, r.keep k⟩⟩
theorem Rs.ex (e : Ex H H') (h : Rs K H σ ρ) : Rs K H' σ ρ := h.keep (.of e)
theorem Rs.set {i : Nat} {v : V} {d : Dv} (h : Rs K H σ ρ) (r : Rv K H v d) : Rs K H (σ.set i (some v)) (ρ.set i (some d)) := by
  refine ⟨by rw [List.length_set, List.length_set]; exact h.1, fun j x e => ?_⟩
  by_cases hj : i = j
  · subst hj
    by_cases hl : i < ρ.length
    · rw [List.getElem?_set_self hl] at e
      cases e
      exact ⟨v, List.getElem?_set_self (by rw [h.1]; exact hl), r⟩
    · rw [List.getElem?_eq_none (by simpa using hl)] at e
      cases e
  · rw [List.getElem?_set_ne hj] at e ⊢
    exact h.2 j x e
theorem Rs.drop {i : Nat} {o : Option V} (h : Rs K H σ ρ) : Rs K H (σ.set i o) (ρ.set i none) := by
  refine ⟨by rw [List.length_set, List.length_set]; exact h.1, fun j x e => ?_⟩
  by_cases hj : i = j
  · subst hj
    by_cases hl : i < ρ.length
    · rw [List.getElem?_set_self hl] at e
      cases e
    · rw [List.getElem?_eq_none (by simpa using hl)] at e
      cases e
  · rw [List.getElem?_set_ne hj] at e ⊢
    exact h.2 j x e
/-- ρ' says no more than ρ -/
def Fg (ρ ρ' : En) : Prop := ρ.length = ρ'.length ∧ ∀ (i : Nat) (d : Dv), ρ'[i]? = some (some d) → ρ[i]? = some (some d)
theorem Fg.refl (ρ : En) : Fg ρ ρ := ⟨rfl, fun _ _ h => h⟩
theorem Rs.fg (h : Rs K H σ ρ) (f : Fg ρ ρ') : Rs K H σ ρ' := ⟨h.1.trans f.1, fun i d e => h.2 i d (f.2 i d e)⟩
def wipeE (ρ : En) : List Nat → En
  | [] => ρ
  | v :: vs => (wipeE ρ vs).set v none
theorem Rs.wipe (h : Rs K H σ ρ) : ∀ vs : List Nat, Rs K H (L2.wipe σ vs) (wipeE ρ vs)
  | [] => h
  | v :: vs => (Rs.wipe h vs).drop
end

/-! ### the judgements -/
def tD (K : PySem.W.Frag) (ρ : En) (d : Dv) : TE := fun σ H Q => Rs K H σ ρ ∧ ∀ v H', Ex H H' → Rv K H' v d → Q v H'
def tDT (K : PySem.W.Frag) (ρ : En) (b : Bool) : TT := fun σ H Q => Rs K H σ ρ ∧ ∀ H', Ex H H' → Q b H'
def tDA (K : PySem.W.Frag) (ρ : En) (ds : List Dv) : TA := fun σ H Q => Rs K H σ ρ ∧ ∀ vs H', Ex H H' → RvA K H' vs ds → Q vs H'
abbrev DE (X : Cx) (e : Expr) (ρ : En) (d : Dv) : Prop := PE X e (tD X.K ρ d)
abbrev DT (X : Cx) (e : Expr) (ρ : En) (b : Bool) : Prop := PT X e (tDT X.K ρ b)
abbrev DW (X : Cx) (e : Expr) (ρ : En) (b : Bool) : Prop := PW X e (tDT X.K ρ b)
abbrev DA (X : Cx) (es : List Expr) (ρ : En) (ds : List Dv) : Prop := PA X es (tDA X.K ρ ds)
section
variable {X : Cx} {e a b c : Expr} {es : List Expr} {ρ : En} {d da db : Dv} {pos : Pos}
theorem _root_.L2.PE.imp {t t' : TE} (h : PE X e t) (i : ∀ σ H Q, t' σ H Q → t σ H Q) : PE X e t' := ⟨fun pins s σ H Q I q => h.run pins s σ H Q I (i σ H Q q)⟩
theorem _root_.L2.PT.imp {t t' : TT} (h : PT X e t) (i : ∀ σ H Q, t' σ H Q → t σ H Q) : PT X e t' := ⟨fun pins s σ H Q I q => h.run pins s σ H Q I (i σ H Q q)⟩
theorem _root_.L2.PW.imp {t t' : TT} (h : PW X e t) (i : ∀ σ H Q, t' σ H Q → t σ H Q) : PW X e t' := ⟨fun wh pins s σ H Q I q => h.run wh pins s σ H Q I (i σ H Q q)⟩
theorem _root_.L2.PA.imp {t t' : TA} (h : PA X es t) (i : ∀ σ H Q, t' σ H Q → t σ H Q) : PA X es t' := ⟨fun p pins s σ H Q I q => h.run p pins s σ H Q I (i σ H Q q)⟩
theorem _root_.L2.PS.imp {st : Stmt} {t t' : TS} (h : PS X st t) (i : ∀ D σ H, t' D σ H → t D σ H) : PS X st t' := ⟨fun pins s σ H D I q => h.run pins s σ H D I (i D σ H q)⟩
theorem _root_.L2.PSs.imp {st : List Stmt} {t t' : TS} (h : PSs X st t) (i : ∀ D σ H, t' D σ H → t D σ H) : PSs X st t' := ⟨fun pins s σ H D I q => h.run pins s σ H D I (i D σ H q)⟩

/-! ### expressions -/
theorem de_var (i : Nat) {x : Str} (hd' : ρ[i]? = some (some d) := by rfl) (hN : X.N[i]? = some x := by rfl) (hv : Vis X.env.scope x := by first | exact Or.inl rfl | exact Or.inr (Or.inl rfl) | exact Or.inr (Or.inr rfl))
    (hd : (x == ("__debug__" : Str)) = false := by decide) (hcd : (x == ("__classdict__" : Str)) = false := by decide) : DE X (.Name x pos) ρ d :=
  (pe_var hN hv hd hcd).imp fun σ H Q ⟨hs, q⟩ => by
    obtain ⟨v, e1, r⟩ := hs.2 i d hd'
    exact ⟨v, e1, q v H (Ex.refl H) r⟩
theorem de_int {i : Int} {j : Nat} : DE X (.Constant (.int i) j pos) ρ (.d (.int i)) := pe_int.imp fun σ H Q ⟨_, q⟩ => q _ H (Ex.refl H) (rv_int.mpr rfl)
theorem de_bl {b : Bool} {j : Nat} : DE X (.Constant (.bool b) j pos) ρ (.d (.bool b)) := pe_bl.imp fun σ H Q ⟨_, q⟩ => q _ H (Ex.refl H) (rv_bool.mpr rfl)
theorem de_non {j : Nat} : DE X (.Constant .none j pos) ρ (.d .none) := pe_non.imp fun σ H Q ⟨_, q⟩ => q _ H (Ex.refl H) (rv_none.mpr rfl)
theorem de_str {x : Str} {j : Nat} : DE X (.Constant (.str x) j pos) ρ (.d (.str x)) := pe_str.imp fun σ H Q ⟨_, q⟩ => q _ H (Ex.refl H) (rv_str.mpr rfl)
theorem de_globI {x : Str} {i : Int} {t : Tok} (hg : Gl X x) (hm : X.mg x = some (.int i t)) (hd : (x == ("__debug__" : Str)) = false := by decide) : DE X (.Name x pos) ρ (.d (.int i)) :=
  (pe_glob (v := .int i) hg hm ⟨t, rfl⟩ hd).imp fun σ H Q ⟨_, q⟩ => q _ H (Ex.refl H) (rv_int.mpr rfl)
theorem de_ty {x : Str} {T : String} (hg : Gl X x) (hm : X.mg x = none) (hv : bootBuiltins x = some (.type T)) (hn : x ≠ "__name__" := by decide) (hd : (x == ("__debug__" : Str)) = false := by decide) : DE X (.Name x pos) ρ (.v (.ty T)) :=
  (pe_bltn (v := .ty T) hg hm hv rfl hn hd).imp fun σ H Q ⟨_, q⟩ => q _ H (Ex.refl H) rfl
/-- a two-place operation -/
theorem de_op {op : Operator} {r : R2} (ho : OpR X (binaryOp op) r) (ha : DE X a ρ da) (hb : DE X b ρ db) (hr : ∀ x y H Q, Rv X.K H x da → Rv X.K H y db → (∀ v H', Ex H H' → Rv X.K H' v d → Q v H') → r x y H Q) :
    DE X (.BinOp a op b pos) ρ d := (pe_op ho ha hb).imp fun σ H Q ⟨hs, q⟩ => ⟨hs, fun x H1 e1 rx => ⟨hs.ex e1, fun y H2 e2 ry => hr x y H2 Q (rx.ex e2) ry fun v H3 e3 rv => q v H3 ((e1.trans e2).trans e3) rv⟩⟩
theorem de_cmp {op : CmpOp} {r : R2} {k : Bool} (ho : OpR X (compareOp op) r) (ha : DE X a ρ da) (hb : DE X b ρ db) (hr : ∀ x y H Q, Rv X.K H x da → Rv X.K H y db → Q (.bl k) H → r x y H Q)
    (hm : behindInMarks op b = false) : DE X (.Compare a [op] [b] pos) ρ (.d (.bool k)) :=
  (pe_cmpR ho ha hb hm).imp fun σ H Q ⟨hs, q⟩ => ⟨hs, fun x H1 e1 rx => ⟨hs.ex e1, fun y H2 e2 ry => hr x y H2 Q (rx.ex e2) ry (q _ H2 (e1.trans e2) (rv_bool.mpr rfl))⟩⟩
theorem dt_cmp {op : CmpOp} {r : R2} {k : Bool} (ho : OpR X (compareOp op) r) (ha : DE X a ρ da) (hb : DE X b ρ db) (hr : ∀ x y H Q, Rv X.K H x da → Rv X.K H y db → Q (.bl k) H → r x y H Q)
    (hm : behindInMarks op b = false) : DT X (.Compare a [op] [b] pos) ρ k :=
  (pt_cmpR ho ha hb hm).imp fun σ H Q ⟨hs, q⟩ => ⟨hs, fun x H1 e1 rx => ⟨hs.ex e1, fun y H2 e2 ry => hr x y H2 _ (rx.ex e2) ry ⟨k, rfl, q H2 (e1.trans e2)⟩⟩⟩
/-- a bool's value as a test -/
theorem dt_val {k : Bool} (h : DE X e ρ (.d (.bool k))) (he : ∀ whole, isTrue e X.env whole = (do let v ← whole; standAt e.pos; holding [v] (truthy v)) := by intro _; rfl) : DT X e ρ k :=
  (pt_val h he).imp fun σ H Q ⟨hs, q⟩ => ⟨hs, fun x H1 e1 rx => ⟨k, rv_bool.mp rx, q H1 e1⟩⟩
theorem dt_not {k : Bool} (h : DT X a ρ k) : DT X (.UnaryOp .Not a pos) ρ (!k) := (pt_not h).imp fun σ H Q ⟨hs, q⟩ => ⟨hs, fun H1 e1 => q H1 e1⟩
theorem dw_and1 {k : Bool} (h : DT X a ρ k) : DW X (.BoolOp .And [a] pos) ρ k := pw_and1 h
theorem dw_or1 {k : Bool} (h : DT X a ρ k) : DW X (.BoolOp .Or [a] pos) ρ k := pw_or1 h
theorem dw_and {k l : Bool} {rest : List Expr} (h : DT X a ρ k) (h2 : k = true → DW X (.BoolOp .And (b :: rest) pos) ρ l) : DW X (.BoolOp .And (a :: b :: rest) pos) ρ (k && l) := by
  refine ⟨fun wh pins s σ H Q I ⟨hs, q⟩ => ?_⟩
  cases k with
  | true =>
    exact ((pw_and h (h2 rfl)).imp fun σ H Q ⟨hs, q⟩ => ⟨hs, fun H1 e1 => iteT ⟨hs.ex e1, fun H2 e2 => q H2 (e1.trans e2)⟩⟩).run wh pins s σ H Q I (show tDT X.K ρ l σ H Q from ⟨hs, q⟩)
  | false =>
    exact ((pw_and h (tB' := fun _ _ _ => False) ⟨fun _ _ _ _ _ _ _ z => z.elim⟩).imp fun σ H Q ⟨hs, q⟩ => ⟨hs, fun H1 e1 => iteF (q H1 e1)⟩).run wh pins s σ H Q I (show tDT X.K ρ false σ H Q from ⟨hs, q⟩)
theorem dw_or {k l : Bool} {rest : List Expr} (h : DT X a ρ k) (h2 : k = false → DW X (.BoolOp .Or (b :: rest) pos) ρ l) : DW X (.BoolOp .Or (a :: b :: rest) pos) ρ (k || l) := by
  refine ⟨fun wh pins s σ H Q I ⟨hs, q⟩ => ?_⟩
  cases k with
  | false =>
    exact ((pw_or h (h2 rfl)).imp fun σ H Q ⟨hs, q⟩ => ⟨hs, fun H1 e1 => iteF ⟨hs.ex e1, fun H2 e2 => q H2 (e1.trans e2)⟩⟩).run wh pins s σ H Q I (show tDT X.K ρ l σ H Q from ⟨hs, q⟩)
  | true =>
    exact ((pw_or h (tB' := fun _ _ _ => False) ⟨fun _ _ _ _ _ _ _ z => z.elim⟩).imp fun σ H Q ⟨hs, q⟩ => ⟨hs, fun H1 e1 => iteT (q H1 e1)⟩).run wh pins s σ H Q I (show tDT X.K ρ true σ H Q from ⟨hs, q⟩)
theorem dt_is {k l : Bool} (h : DT X e ρ k) (he : k = l) : DT X e ρ l := by rw [← he]; exact h
theorem de_is {d' : Dv} (h : DE X e ρ d) (he : d = d') : DE X e ρ d' := by rw [← he]; exact h
/-- .. as values -/
theorem de_one {op : BoolOp} (h : DE X a ρ d) : DE X (.BoolOp op [a] pos) ρ d := pe_one h
theorem de_and {k l : Bool} {rest : List Expr} (h : DE X a ρ (.d (.bool k))) (h2 : k = true → DE X (.BoolOp .And (b :: rest) pos) ρ (.d (.bool l))) : DE X (.BoolOp .And (a :: b :: rest) pos) ρ (.d (.bool (k && l))) := by
  refine ⟨fun pins s σ H Q I ⟨hs, q⟩ => ?_⟩
  cases k with
  | true =>
    exact ((pe_and h (h2 rfl)).imp fun σ H Q ⟨hs, q⟩ => ⟨hs, fun x H1 e1 r => ⟨true, rv_bool.mp r, iteT ⟨hs.ex e1, fun v H2 e2 r2 => q v H2 (e1.trans e2) r2⟩⟩⟩).run pins s σ H Q I (show tD X.K ρ (.d (.bool l)) σ H Q from ⟨hs, q⟩)
  | false =>
    exact ((pe_and h (tb := fun _ _ _ => False) ⟨fun _ _ _ _ _ _ z => z.elim⟩).imp fun σ H Q ⟨hs, q⟩ => ⟨hs, fun x H1 e1 r => ⟨false, rv_bool.mp r, iteF (q _ H1 e1 (rv_bool.mpr rfl))⟩⟩).run pins s σ H Q I (show tD X.K ρ (.d (.bool false)) σ H Q from ⟨hs, q⟩)
theorem de_or {k l : Bool} {rest : List Expr} (h : DE X a ρ (.d (.bool k))) (h2 : k = false → DE X (.BoolOp .Or (b :: rest) pos) ρ (.d (.bool l))) : DE X (.BoolOp .Or (a :: b :: rest) pos) ρ (.d (.bool (k || l))) := by
  refine ⟨fun pins s σ H Q I ⟨hs, q⟩ => ?_⟩
  cases k with
  | false =>
    exact ((pe_or h (h2 rfl)).imp fun σ H Q ⟨hs, q⟩ => ⟨hs, fun x H1 e1 r => ⟨false, rv_bool.mp r, iteF ⟨hs.ex e1, fun v H2 e2 r2 => q v H2 (e1.trans e2) r2⟩⟩⟩).run pins s σ H Q I (show tD X.K ρ (.d (.bool l)) σ H Q from ⟨hs, q⟩)
  | true =>
    exact ((pe_or h (tb := fun _ _ _ => False) ⟨fun _ _ _ _ _ _ z => z.elim⟩).imp fun σ H Q ⟨hs, q⟩ => ⟨hs, fun x H1 e1 r => ⟨true, rv_bool.mp r, iteT (q _ H1 e1 (rv_bool.mpr rfl))⟩⟩).run pins s σ H Q I (show tD X.K ρ (.d (.bool true)) σ H Q from ⟨hs, q⟩)
theorem de_not {k : Bool} (h : DE X a ρ (.d (.bool k))) : DE X (.UnaryOp .Not a pos) ρ (.d (.bool (!k))) :=
  (pe_not h).imp fun σ H Q ⟨hs, q⟩ => ⟨hs, fun x H1 e1 r => ⟨k, rv_bool.mp r, q _ H1 e1 (rv_bool.mpr rfl)⟩⟩
theorem de_ifT (hc : DT X c ρ true) (ha : DE X a ρ d) : DE X (.IfExp c a b pos) ρ d :=
  (pe_ifExp (tb := fun _ _ _ => False) hc ha ⟨fun _ _ _ _ _ _ z => z.elim⟩).imp fun σ H Q ⟨hs, q⟩ => ⟨hs, fun H1 e1 => iteT ⟨hs.ex e1, fun v H2 e2 r => q v H2 (e1.trans e2) r⟩⟩
theorem de_ifF (hc : DT X c ρ false) (hb : DE X b ρ d) : DE X (.IfExp c a b pos) ρ d :=
  (pe_ifExp (ta := fun _ _ _ => False) hc ⟨fun _ _ _ _ _ _ z => z.elim⟩ hb).imp fun σ H Q ⟨hs, q⟩ => ⟨hs, fun H1 e1 => iteF ⟨hs.ex e1, fun v H2 e2 r => q v H2 (e1.trans e2) r⟩⟩
theorem de_if {k : Bool} (hc : DT X c ρ k) (ha : k = true → DE X a ρ d) (hb : k = false → DE X b ρ d) : DE X (.IfExp c a b pos) ρ d := by
  cases k with
  | true => exact de_ifT hc (ha rfl)
  | false => exact de_ifF hc (hb rfl)
/-- argument lists -/
theorem da_nil : DA X [] ρ [] := pa_nil.imp fun σ H Q ⟨hs, q⟩ => q [] H (Ex.refl H) .nil
theorem da_cons {ds : List Dv} (ha : DE X e ρ d) (hr : DA X es ρ ds) (hs : starEach (e :: es) X.env = (false, eval e X.env) :: starEach es X.env := by rfl) : DA X (e :: es) ρ (d :: ds) :=
  (pa_cons ha hr hs).imp fun σ H Q ⟨hs, q⟩ => ⟨hs, fun x H1 e1 rx => ⟨hs.ex e1, fun xs H2 e2 rxs => q _ H2 (e1.trans e2) (.cons (rx.ex e2) rxs)⟩⟩
/-- displays -/
theorem de_tup {k : Nat} {ds : List PyData} (h : DA X es ρ (ds.map Dv.d)) (hz : ds.length ≤ 100000) : DE X (.Tuple es k pos) ρ (.d (.tuple ds)) :=
  (pe_tup h).imp fun σ H Q ⟨hs, q⟩ => ⟨hs, fun vs H1 e1 r => ⟨by rw [r.data.len]; exact sz_of hz, fun p hp => q _ _ (e1.trans (Ex.new hp)) (rv_tup.mpr ⟨p, vs, rfl, SqT.of upd_same, r.data.keep (.of (Ex.new hp))⟩)⟩⟩
theorem de_lst {ds : List PyData} (h : DA X es ρ (ds.map Dv.d)) (hz : ds.length ≤ 100000) : DE X (.List es pos) ρ (.d (.list ds)) :=
  (pe_lst h).imp fun σ H Q ⟨hs, q⟩ => ⟨hs, fun vs H1 e1 r => ⟨by rw [r.data.len]; exact sz_of hz, fun p hp => q _ _ (e1.trans (Ex.new hp)) (rv_lst.mpr ⟨p, vs, rfl, upd_same, r.data.keep (.of (Ex.new hp))⟩)⟩⟩
end
end DSW
set_option Elab.async false
set_option linter.all false
set_option maxRecDepth 100000
set_option maxHeartbeats 2000000
/-! The calculus: operations, calls, comprehensions. -/
namespace DSW
open PySem PySem.Spec PyProof.Rows L2 Evl
section
variable {X : Cx} {e a b c : Expr} {es : List Expr} {ρ : En} {d da db : Dv} {pos : Pos}

/-! ### ints -/
theorem de_add {i j : Int} (ha : DE X a ρ (.d (.int i))) (hb : DE X b ρ (.d (.int j))) : DE X (.BinOp a .Add b pos) ρ (.d (.int (i + j))) :=
  de_op op_add ha hb fun x y H Q rx ry q => ⟨i, j, rv_int.mp rx, rv_int.mp ry, q _ H (Ex.refl H) (rv_int.mpr rfl)⟩
theorem de_sub {i j : Int} (ha : DE X a ρ (.d (.int i))) (hb : DE X b ρ (.d (.int j))) : DE X (.BinOp a .Sub b pos) ρ (.d (.int (i - j))) :=
  de_op op_sub ha hb fun x y H Q rx ry q => ⟨i, j, rv_int.mp rx, rv_int.mp ry, q _ H (Ex.refl H) (rv_int.mpr rfl)⟩
theorem de_mul {i j : Int} (ha : DE X a ρ (.d (.int i))) (hb : DE X b ρ (.d (.int j))) (hc : CMul i j) : DE X (.BinOp a .Mult b pos) ρ (.d (.int (i * j))) :=
  de_op op_mul ha hb fun x y H Q rx ry q => ⟨i, j, rv_int.mp rx, rv_int.mp ry, hc, q _ H (Ex.refl H) (rv_int.mpr rfl)⟩
theorem de_mod {i j : Int} (ha : DE X a ρ (.d (.int i))) (hb : DE X b ρ (.d (.int j))) (hc : 0 < j) : DE X (.BinOp a .Mod b pos) ρ (.d (.int (i % j))) :=
  de_op op_mod ha hb fun x y H Q rx ry q => ⟨i, j, rv_int.mp rx, rv_int.mp ry, hc, q _ H (Ex.refl H) (rv_int.mpr rfl)⟩
theorem de_fdiv {i j : Int} (ha : DE X a ρ (.d (.int i))) (hb : DE X b ρ (.d (.int j))) (hc : CDiv i j) : DE X (.BinOp a .FloorDiv b pos) ρ (.d (.int (i / j))) :=
  de_op op_fdiv ha hb fun x y H Q rx ry q => ⟨i, j, rv_int.mp rx, rv_int.mp ry, hc, q _ H (Ex.refl H) (rv_int.mpr rfl)⟩
theorem de_pow {i j : Int} (ha : DE X a ρ (.d (.int i))) (hb : DE X b ρ (.d (.int j))) (hc : CPow i j) : DE X (.BinOp a .Pow b pos) ρ (.d (.int (i ^ j.toNat))) :=
  de_op op_pow ha hb fun x y H Q rx ry q => ⟨i, j, rv_int.mp rx, rv_int.mp ry, hc, q _ H (Ex.refl H) (rv_int.mpr rfl)⟩
theorem de_neg {i : Int} (ha : DE X a ρ (.d (.int i))) : DE X (.UnaryOp .USub a pos) ρ (.d (.int (-i))) :=
  (pe_un un_neg ha).imp fun σ H Q ⟨hs, q⟩ => ⟨hs, fun x H1 e1 rx => ⟨i, rv_int.mp rx, q _ H1 e1 (rv_int.mpr rfl)⟩⟩
theorem dt_lt {i j : Int} (ha : DE X a ρ (.d (.int i))) (hb : DE X b ρ (.d (.int j))) : DT X (.Compare a [.Lt] [b] pos) ρ (decide (i < j)) :=
  dt_cmp op_lt ha hb (fun x y H Q rx ry q => ⟨i, j, rv_int.mp rx, rv_int.mp ry, q⟩) (nomark _)
theorem de_lt {i j : Int} (ha : DE X a ρ (.d (.int i))) (hb : DE X b ρ (.d (.int j))) : DE X (.Compare a [.Lt] [b] pos) ρ (.d (.bool (decide (i < j)))) :=
  de_cmp op_lt ha hb (fun x y H Q rx ry q => ⟨i, j, rv_int.mp rx, rv_int.mp ry, q⟩) (nomark _)
theorem dt_gt {i j : Int} (ha : DE X a ρ (.d (.int i))) (hb : DE X b ρ (.d (.int j))) : DT X (.Compare a [.Gt] [b] pos) ρ (decide (j < i)) :=
  dt_cmp op_gt ha hb (fun x y H Q rx ry q => ⟨i, j, rv_int.mp rx, rv_int.mp ry, q⟩) (nomark _)
theorem dt_ge {i j : Int} (ha : DE X a ρ (.d (.int i))) (hb : DE X b ρ (.d (.int j))) : DT X (.Compare a [.GtE] [b] pos) ρ (decide (j ≤ i)) :=
  dt_cmp op_ge ha hb (fun x y H Q rx ry q => ⟨i, j, rv_int.mp rx, rv_int.mp ry, q⟩) (nomark _)
/-- a op b op' c of ints, both true or not -/
theorem de_chain {op op' : CmpOp} {p p' : Int → Int → Bool} {i j l : Int} (ho : OpR X (compareOp op) (rI0 fun i j => .bl (p i j))) (ho' : OpR X (compareOp op') (rI0 fun i j => .bl (p' i j)))
    (ha : DE X a ρ (.d (.int i))) (hb : DE X b ρ (.d (.int j))) (hc : DE X c ρ (.d (.int l))) (hm : lastMarks [op, op'] [b, c] = false := by with_unfolding_all rfl) :
    DE X (.Compare a [op, op'] [b, c] pos) ρ (.d (.bool (p i j && p' j l))) :=
  (pe_chain ho ho' ha hb hc hm).imp fun σ H Q ⟨hs, q⟩ => ⟨hs, fun x H1 e1 rx => ⟨hs.ex e1, fun y H2 e2 ry => ⟨i, j, rv_int.mp rx, rv_int.mp ry, p i j, rfl, by
    cases hp : p i j with
    | true => exact iteT ⟨hs.ex (e1.trans e2), fun z H3 e3 rz => ⟨j, l, rv_int.mp (ry.ex e3), rv_int.mp rz, q _ H3 ((e1.trans e2).trans e3) (by rw [hp]; exact rv_bool.mpr rfl)⟩⟩
    | false => exact iteF (q _ H2 (e1.trans e2) (by rw [hp]; exact rv_bool.mpr rfl))⟩⟩⟩

/-! ### ==, in over data -/
theorem de_eq {x y : PyData} (hu : X.A.units + 64 < cLine) (ha : DE X a ρ (.d x)) (hb : DE X b ρ (.d y)) (sx : SeqAt.shaped x = true) (sy : SeqAt.shaped y = true) : DE X (.Compare a [.Eq] [b] pos) ρ (.d (.bool (PyData.eqv x y))) :=
  de_cmp (op_eqD hu) ha hb (fun u v H Q rx ry q => ⟨x, y, Dq.dp _ _ rx, Dq.dp _ _ ry, sx, sy, q⟩) (nomark _)
theorem dt_eq {x y : PyData} (hu : X.A.units + 64 < cLine) (ha : DE X a ρ (.d x)) (hb : DE X b ρ (.d y)) (sx : SeqAt.shaped x = true) (sy : SeqAt.shaped y = true) : DT X (.Compare a [.Eq] [b] pos) ρ (PyData.eqv x y) :=
  dt_cmp (op_eqD hu) ha hb (fun u v H Q rx ry q => ⟨x, y, Dq.dp _ _ rx, Dq.dp _ _ ry, sx, sy, q⟩) (nomark _)
theorem dt_ne {x y : PyData} (hu : X.A.units + 64 < cLine) (ha : DE X a ρ (.d x)) (hb : DE X b ρ (.d y)) (sx : SeqAt.shaped x = true) (sy : SeqAt.shaped y = true) : DT X (.Compare a [.NotEq] [b] pos) ρ (!PyData.eqv x y) :=
  dt_cmp (op_neD hu) ha hb (fun u v H Q rx ry q => ⟨x, y, Dq.dp _ _ rx, Dq.dp _ _ ry, sx, sy, q⟩) (nomark _)
/-- x in a tuple (or list) of data -/
def rInT (K : PySem.W.Frag) (neg : Bool) : R2 := fun x y H Q => ∃ d ds, Dp K H x d ∧ (Dp K H y (.tuple ds) ∨ Dp K H y (.list ds)) ∧ SeqAt.shaped d = true ∧ SeqAt.shaped (.tuple ds) = true ∧ Q (.bl (if neg then !ds.any fun z => PyData.eqv z d else ds.any fun z => PyData.eqv z d)) H
theorem op_inT (hu : X.A.units + 65 < cLine) : OpR X (compareOp .In) (rInT X.K false) := by
  intro pins s σ H x y v u Q I rx ry h
  obtain ⟨d, ds, hd, he, sd, se, q⟩ := h
  obtain ⟨as, r1⟩ := Dp.reads I d x v hd rx
  rcases he with he | he
  · obtain ⟨bs, r2⟩ := Dp.reads I (.tuple ds) y u he ry
    exact SeqAt.in_tuple_reads r2 r1 (SeqAt.canLay_of_shaped se) (SeqAt.canLay_of_shaped sd) (room_in_shaped sd hu) ⟨.bl _, H, I, rfl, q⟩
  · obtain ⟨bs, r2⟩ := Dp.reads I (.list ds) y u he ry
    exact SeqAt.in_list_reads r2 r1 (SeqAt.canLay_of_shaped se) (SeqAt.canLay_of_shaped sd) (room_in_shaped sd hu) ⟨.bl _, H, I, rfl, q⟩
theorem op_notInT (hu : X.A.units + 65 < cLine) : OpR X (compareOp .NotIn) (rInT X.K true) := by
  intro pins s σ H x y v u Q I rx ry h
  obtain ⟨d, ds, hd, he, sd, se, q⟩ := h
  obtain ⟨as, r1⟩ := Dp.reads I d x v hd rx
  rcases he with he | he
  · obtain ⟨bs, r2⟩ := Dp.reads I (.tuple ds) y u he ry
    exact SeqAt.notIn_tuple_reads r2 r1 (SeqAt.canLay_of_shaped se) (SeqAt.canLay_of_shaped sd) (room_in_shaped sd hu) ⟨.bl _, H, I, rfl, q⟩
  · obtain ⟨bs, r2⟩ := Dp.reads I (.list ds) y u he ry
    exact SeqAt.notIn_list_reads r2 r1 (SeqAt.canLay_of_shaped se) (SeqAt.canLay_of_shaped sd) (room_in_shaped sd hu) ⟨.bl _, H, I, rfl, q⟩
section
variable {x : PyData} {ds : List PyData}
theorem de_in (hu : X.A.units + 65 < cLine) (ha : DE X a ρ (.d x)) (hb : DE X b ρ (.d (.tuple ds)) ∨ DE X b ρ (.d (.list ds))) (sx : SeqAt.shaped x = true) (sy : SeqAt.shaped (.tuple ds) = true) (hm : behindInMarks .In b = false := by rfl) :
    DE X (.Compare a [.In] [b] pos) ρ (.d (.bool (ds.any fun z => PyData.eqv z x))) := by
  rcases hb with hb | hb
  · exact de_cmp (op_inT hu) ha hb (fun u v H Q rx ry q => ⟨x, ds, Dq.dp _ _ rx, .inl (Dq.dp _ _ ry), sx, sy, q⟩) hm
  · exact de_cmp (op_inT hu) ha hb (fun u v H Q rx ry q => ⟨x, ds, Dq.dp _ _ rx, .inr (Dq.dp _ _ ry), sx, sy, q⟩) hm
theorem dt_in (hu : X.A.units + 65 < cLine) (ha : DE X a ρ (.d x)) (hb : DE X b ρ (.d (.tuple ds)) ∨ DE X b ρ (.d (.list ds))) (sx : SeqAt.shaped x = true) (sy : SeqAt.shaped (.tuple ds) = true) (hm : behindInMarks .In b = false := by rfl) :
    DT X (.Compare a [.In] [b] pos) ρ (ds.any fun z => PyData.eqv z x) := by
  rcases hb with hb | hb
  · exact dt_cmp (op_inT hu) ha hb (fun u v H Q rx ry q => ⟨x, ds, Dq.dp _ _ rx, .inl (Dq.dp _ _ ry), sx, sy, q⟩) hm
  · exact dt_cmp (op_inT hu) ha hb (fun u v H Q rx ry q => ⟨x, ds, Dq.dp _ _ rx, .inr (Dq.dp _ _ ry), sx, sy, q⟩) hm
theorem de_nin (hu : X.A.units + 65 < cLine) (ha : DE X a ρ (.d x)) (hb : DE X b ρ (.d (.tuple ds)) ∨ DE X b ρ (.d (.list ds))) (sx : SeqAt.shaped x = true) (sy : SeqAt.shaped (.tuple ds) = true) (hm : behindInMarks .NotIn b = false := by rfl) :
    DE X (.Compare a [.NotIn] [b] pos) ρ (.d (.bool (!ds.any fun z => PyData.eqv z x))) := by
  rcases hb with hb | hb
  · exact de_cmp (op_notInT hu) ha hb (fun u v H Q rx ry q => ⟨x, ds, Dq.dp _ _ rx, .inl (Dq.dp _ _ ry), sx, sy, q⟩) hm
  · exact de_cmp (op_notInT hu) ha hb (fun u v H Q rx ry q => ⟨x, ds, Dq.dp _ _ rx, .inr (Dq.dp _ _ ry), sx, sy, q⟩) hm
theorem dt_nin (hu : X.A.units + 65 < cLine) (ha : DE X a ρ (.d x)) (hb : DE X b ρ (.d (.tuple ds)) ∨ DE X b ρ (.d (.list ds))) (sx : SeqAt.shaped x = true) (sy : SeqAt.shaped (.tuple ds) = true) (hm : behindInMarks .NotIn b = false := by rfl) :
    DT X (.Compare a [.NotIn] [b] pos) ρ (!ds.any fun z => PyData.eqv z x) := by
  rcases hb with hb | hb
  · exact dt_cmp (op_notInT hu) ha hb (fun u v H Q rx ry q => ⟨x, ds, Dq.dp _ _ rx, .inl (Dq.dp _ _ ry), sx, sy, q⟩) hm
  · exact dt_cmp (op_notInT hu) ha hb (fun u v H Q rx ry q => ⟨x, ds, Dq.dp _ _ rx, .inr (Dq.dp _ _ ry), sx, sy, q⟩) hm
end
/-- is None -/
def isNoneD : PyData → Bool
  | .none => true
  | _ => false
theorem rv_isN {K : PySem.W.Frag} {H : Hp} {x : PyData} {v : V} (r : Rv K H v (.d x)) : decide (v = .non) = isNoneD x := by
  cases x with
  | none => rw [rv_none.mp r]; rfl
  | bool b => rw [rv_bool.mp r]; rfl
  | int i => rw [rv_int.mp r]; rfl
  | str y => rw [rv_str.mp r]; rfl
  | tuple ds => obtain ⟨p, xs, e1, _⟩ := rv_tup.mp r; rw [e1]; rfl
  | list ds => obtain ⟨p, xs, e1, _⟩ := rv_lst.mp r; rw [e1]; rfl
  | dict kvs => unfold Rv Dq at r; exact r.elim
theorem dt_isN {x : PyData} {j : Nat} {p2 : Pos} (ha : DE X a ρ (.d x)) : DT X (.Compare a [.Is] [.Constant .none j p2] pos) ρ (isNoneD x) :=
  (pt_cmpR op_isN ha pe_non (nomark _)).imp fun σ H Q ⟨hs, q⟩ => ⟨hs, fun v H1 e1 r => ⟨rfl, _, rfl, by rw [rv_isN r]; exact q H1 e1⟩⟩
theorem de_isN {x : PyData} {j : Nat} {p2 : Pos} (ha : DE X a ρ (.d x)) : DE X (.Compare a [.Is] [.Constant .none j p2] pos) ρ (.d (.bool (isNoneD x))) :=
  (pe_cmpR op_isN ha pe_non (nomark _)).imp fun σ H Q ⟨hs, q⟩ => ⟨hs, fun v H1 e1 r => ⟨rfl, q _ H1 e1 (by rw [rv_isN r]; exact rv_bool.mpr rfl)⟩⟩
theorem dt_notN {x : PyData} {j : Nat} {p2 : Pos} (ha : DE X a ρ (.d x)) : DT X (.Compare a [.IsNot] [.Constant .none j p2] pos) ρ (!isNoneD x) :=
  (pt_cmpR op_notN ha pe_non (nomark _)).imp fun σ H Q ⟨hs, q⟩ => ⟨hs, fun v H1 e1 r => ⟨rfl, _, rfl, by rw [rv_isN r]; exact q H1 e1⟩⟩

/-! ### items, slices, + -/
theorem atI_dq {K : PySem.W.Frag} {H : Hp} {ds : List PyData} {xs : List V} {i : Int} {d : PyData} (h : DqA K H ds xs) (e : atI ds i = some d) : ∃ v, atI xs i = some v ∧ Dq K H d v := by
  unfold atI at e ⊢
  rw [h.len]
  cases q : ixN ds.length i with
  | none => rw [q] at e; cases e
  | some j =>
    rw [q] at e
    exact h.get e
theorem de_ixT {ds : List PyData} {i : Int} {x : PyData} (ha : DE X a ρ (.d (.tuple ds))) (hb : DE X b ρ (.d (.int i))) (h : atI ds i = some x) (hs : PlainIx b := by exact fun _ _ => rfl) : DE X (.Subscript a b pos) ρ (.d x) :=
  (pe_ix ix_tup ha hb hs).imp fun σ H Q ⟨hs, q⟩ => ⟨hs, fun v H1 e1 rx => ⟨hs.ex e1, fun y H2 e2 ry => by
    obtain ⟨p, xs, ev, hq, hA⟩ := rv_tup.mp (rx.ex e2)
    obtain ⟨z, hz, hd⟩ := atI_dq hA h
    exact ⟨p, xs, i, z, ev, rv_int.mp ry, hq, hz, q z H2 (e1.trans e2) hd⟩⟩⟩
theorem de_ixL {ds : List PyData} {i : Int} {x : PyData} (ha : DE X a ρ (.d (.list ds))) (hb : DE X b ρ (.d (.int i))) (h : atI ds i = some x) (hs : PlainIx b := by exact fun _ _ => rfl) : DE X (.Subscript a b pos) ρ (.d x) :=
  (pe_ix ix_list ha hb hs).imp fun σ H Q ⟨hs, q⟩ => ⟨hs, fun v H1 e1 rx => ⟨hs.ex e1, fun y H2 e2 ry => by
    obtain ⟨p, xs, ev, hq, hA⟩ := rv_lst.mp (rx.ex e2)
    obtain ⟨z, hz, hd⟩ := atI_dq hA h
    exact ⟨p, xs, i, z, ev, rv_int.mp ry, SqL.of hq, hz, q z H2 (e1.trans e2) hd⟩⟩⟩
/-- t + u of tuples -/
theorem dqA_nil_iff {K : PySem.W.Frag} {H : Hp} {ds : List PyData} {xs : List V} (h : DqA K H ds xs) : xs = [] ↔ ds = [] := by
  have e := h.len
  constructor
  · rintro rfl; exact List.eq_nil_of_length_eq_zero e.symm
  · rintro rfl; exact List.eq_nil_of_length_eq_zero e
theorem de_catT {ds es' : List PyData} (ha : DE X a ρ (.d (.tuple ds))) (hb : DE X b ρ (.d (.tuple es'))) (hz : ds.length + es'.length ≤ 100000) : DE X (.BinOp a .Add b pos) ρ (.d (.tuple (ds ++ es'))) :=
  de_op op_catA ha hb fun x y H Q rx ry q => by
    obtain ⟨p, xs, ex, hx, hA⟩ := rv_tup.mp rx
    obtain ⟨p2, ys, ey, hy, hB⟩ := rv_tup.mp ry
    refine ⟨p, p2, xs, ys, ex, ey, hx, hy, by rw [hA.len, hB.len]; exact sz_of hz, fun z => ?_, fun _ z => ?_, fun _ _ t ht => ?_⟩
    · refine q _ H (Ex.refl H) ?_
      rw [(dqA_nil_iff hA).mp z]
      exact rv_tup.mpr ⟨p2, ys, rfl, hy, hB⟩
    · refine q _ H (Ex.refl H) ?_
      rw [(dqA_nil_iff hB).mp z, List.append_nil]
      exact rv_tup.mpr ⟨p, xs, rfl, hx, hA⟩
    · exact q _ _ (Ex.new ht) (rv_tup.mpr ⟨t, _, rfl, SqT.of upd_same, (hA.append hB).keep (.of (Ex.new ht))⟩)
theorem de_catL {ds es' : List PyData} (ha : DE X a ρ (.d (.list ds))) (hb : DE X b ρ (.d (.list es'))) (hz : ds.length + es'.length ≤ 100000) : DE X (.BinOp a .Add b pos) ρ (.d (.list (ds ++ es'))) :=
  de_op op_cat ha hb fun x y H Q rx ry q => by
    obtain ⟨p, xs, ex, hx, hA⟩ := rv_lst.mp rx
    obtain ⟨p2, ys, ey, hy, hB⟩ := rv_lst.mp ry
    exact ⟨p, p2, xs, ys, ex, ey, hx, hy, by rw [hA.len, hB.len]; exact sz_of hz, fun t ht => q _ _ (Ex.new ht) (rv_lst.mpr ⟨t, _, rfl, upd_same, (hA.append hB).keep (.of (Ex.new ht))⟩)⟩
theorem dqA_rep {K : PySem.W.Frag} {H : Hp} {ds : List PyData} {xs : List V} (h : DqA K H ds xs) : ∀ k : Nat, DqA K H (List.replicate k ds).flatten (List.replicate k xs).flatten
  | 0 => dqA_nil.mpr rfl
  | k + 1 => by
    rw [List.replicate_succ, List.replicate_succ, List.flatten_cons, List.flatten_cons]
    exact h.append (dqA_rep h k)
theorem de_rep {ds : List PyData} {k : Int} (ha : DE X a ρ (.d (.list ds))) (hb : DE X b ρ (.d (.int k))) (h0 : 0 ≤ k) (h1 : k ≤ 1000) (hz : ds.length ≤ 100) : DE X (.BinOp a .Mult b pos) ρ (.d (.list (List.replicate k.toNat ds).flatten)) :=
  de_op op_rep ha hb fun x y H Q rx ry q => by
    obtain ⟨p, xs, ex, hx, hA⟩ := rv_lst.mp rx
    refine ⟨p, k, xs, ex, rv_int.mp ry, hx, by omega, by omega, ?_, fun t ht => q _ _ (Ex.new ht) (rv_lst.mpr ⟨t, _, rfl, upd_same, (dqA_rep hA _).keep (.of (Ex.new ht))⟩)⟩
    rw [hA.len]
    have h2 : k.toNat ≤ 1000 := by omega
    exact sz_of (Nat.mul_le_mul hz h2)
/-- slices -/
def tDO (K : PySem.W.Frag) (ρ : En) (o : Option Int) : TO := fun σ H Q => Rs K H σ ρ ∧ ∀ H', Ex H H' → Q o H'
theorem do_none : PO X none (tDO X.K ρ none) := ⟨fun pins s σ H Q I ⟨hs, q⟩ => po_none.run pins s σ H Q I (q H (Ex.refl H))⟩
theorem do_some {i : Int} (h : DE X e ρ (.d (.int i))) : PO X (some e) (tDO X.K ρ (some i)) := ⟨fun pins s σ H Q I ⟨hs, q⟩ => (po_some h).run pins s σ H Q I ⟨hs, fun v H1 e1 r => ⟨i, rv_int.mp r, q H1 e1⟩⟩⟩
theorem dqA_cut {K : PySem.W.Frag} {H : Hp} {ds : List PyData} {xs : List V} (h : DqA K H ds xs) (lo hi : Option Int) : DqA K H ((ds.drop (HT.sIx ds.length 0 lo)).take (HT.sIx ds.length ds.length hi - HT.sIx ds.length 0 lo)) (cutV xs lo hi) := by
  unfold cutV
  rw [h.len]
  exact (h.drop _).take _
def cutD (ds : List PyData) (lo hi : Option Int) : List PyData := (ds.drop (HT.sIx ds.length 0 lo)).take (HT.sIx ds.length ds.length hi - HT.sIx ds.length 0 lo)
theorem de_slT {ds : List PyData} {lo hi : Option Expr} {l h : Option Int} {p2 : Pos} (ha : DE X a ρ (.d (.tuple ds))) (hl : PO X lo (tDO X.K ρ l)) (hh : PO X hi (tDO X.K ρ h)) : DE X (.Subscript a (.Slice lo hi none p2) pos) ρ (.d (.tuple (cutD ds l h))) :=
  (pe_slice sl_tupA ha hl hh).imp fun σ H Q ⟨hs, q⟩ => ⟨hs, fun x H1 e1 rx => ⟨hs.ex e1, fun H2 e2 => ⟨hs.ex (e1.trans e2), fun H3 e3 => by
    obtain ⟨p, xs, ex, hx, hA⟩ := rv_tup.mp (rx.ex (e2.trans e3))
    refine ⟨p, xs, ex, hx, fun z => ?_, fun _ t ht => ?_⟩
    · refine q _ H3 ((e1.trans e2).trans e3) (rv_tup.mpr ⟨p, xs, rfl, hx, ?_⟩)
      have c := dqA_cut hA l h
      have ec : cutV xs l h = xs := by
        unfold cutV
        rw [z.1, z.2, List.drop_zero, Nat.sub_zero, List.take_length]
      rw [ec] at c
      exact c
    · exact q _ _ (((e1.trans e2).trans e3).trans (Ex.new ht)) (rv_tup.mpr ⟨t, _, rfl, SqT.of upd_same, (dqA_cut hA l h).keep (.of (Ex.new ht))⟩)⟩⟩⟩
theorem de_slL {ds : List PyData} {lo hi : Option Expr} {l h : Option Int} {p2 : Pos} (ha : DE X a ρ (.d (.list ds))) (hl : PO X lo (tDO X.K ρ l)) (hh : PO X hi (tDO X.K ρ h)) : DE X (.Subscript a (.Slice lo hi none p2) pos) ρ (.d (.list (cutD ds l h))) :=
  (pe_slice sl_list ha hl hh).imp fun σ H Q ⟨hs, q⟩ => ⟨hs, fun x H1 e1 rx => ⟨hs.ex e1, fun H2 e2 => ⟨hs.ex (e1.trans e2), fun H3 e3 => by
    obtain ⟨p, xs, ex, hx, hA⟩ := rv_lst.mp (rx.ex (e2.trans e3))
    exact ⟨p, xs, ex, SqL.of hx, fun t ht => q _ _ (((e1.trans e2).trans e3).trans (Ex.new ht)) (rv_lst.mpr ⟨t, _, rfl, upd_same, (dqA_cut hA l h).keep (.of (Ex.new ht))⟩)⟩⟩⟩⟩

/-! ### calls of built-in things -/
theorem de_callB {x : Str} {id : String} {r : List V → Hp → VK → Prop} {p : Pos} {ds : List Dv} (hc : CallR X (.builtin id) r) (hg : Gl X x) (hm : X.mg x = none) (hv : bootBuiltins x = some (.builtin id)) (ha : DA X (e :: es) ρ ds)
    (hr : ∀ vs H Q, RvA X.K H vs ds → (∀ v H', Ex H H' → Rv X.K H' v d → Q v H') → r vs H Q) (hn : x ≠ "__name__" := by decide) (hdb : (x == ("__debug__" : Str)) = false := by decide)
    (he : starEach (e :: es) X.env = (false, eval e X.env) :: starEach es X.env := by rfl) (hpl : (backTo pos (starEach es X.env)).any (·.1) = false := by rfl) : DE X (.Call (.Name x p) (e :: es) [] pos) ρ d :=
  (pe_callB hc hg hm hv ha hn hdb he hpl).imp fun σ H Q ⟨hs, q⟩ => ⟨hs, fun vs H1 e1 rs => hr vs H1 Q rs fun v H2 e2 r2 => q v H2 (e1.trans e2) r2⟩
theorem de_callTy {x : Str} {T : String} {r : List V → Hp → VK → Prop} {p : Pos} {ds : List Dv} (hc : CallR X (.type T) r) (hg : Gl X x) (hm : X.mg x = none) (hv : bootBuiltins x = some (.type T)) (ha : DA X (e :: es) ρ ds)
    (hr : ∀ vs H Q, RvA X.K H vs ds → (∀ v H', Ex H H' → Rv X.K H' v d → Q v H') → r vs H Q) (hn : x ≠ "__name__" := by decide) (hdb : (x == ("__debug__" : Str)) = false := by decide)
    (he : starEach (e :: es) X.env = (false, eval e X.env) :: starEach es X.env := by rfl) (hpl : (backTo pos (starEach es X.env)).any (·.1) = false := by rfl) : DE X (.Call (.Name x p) (e :: es) [] pos) ρ d :=
  (pe_callTy hc hg hm hv ha hn hdb he hpl).imp fun σ H Q ⟨hs, q⟩ => ⟨hs, fun vs H1 e1 rs => hr vs H1 Q rs fun v H2 e2 r2 => q v H2 (e1.trans e2) r2⟩
theorem rvA1 {K : PySem.W.Frag} {H : Hp} {vs : List V} {d : Dv} (h : RvA K H vs [d]) : ∃ v, vs = [v] ∧ Rv K H v d := by
  cases h with
  | cons a b => cases b; exact ⟨_, rfl, a⟩
theorem rvA2 {K : PySem.W.Frag} {H : Hp} {vs : List V} {d d' : Dv} (h : RvA K H vs [d, d']) : ∃ v w, vs = [v, w] ∧ Rv K H v d ∧ Rv K H w d' := by
  cases h with
  | cons a b =>
    obtain ⟨w, e, r⟩ := rvA1 b
    rw [e]
    exact ⟨_, w, rfl, a, r⟩
theorem boot_len' : bootBuiltins "len" = some (.builtin "len") := by decide +kernel
theorem boot_all' : bootBuiltins "all" = some (.builtin "all") := by decide +kernel
theorem boot_isinstance' : bootBuiltins "isinstance" = some (.builtin "isinstance") := by decide +kernel
theorem boot_sorted' : bootBuiltins "sorted" = some (.builtin "sorted") := by decide +kernel
theorem boot_tuple' : bootBuiltins "tuple" = some (.type "tuple") := by decide +kernel
theorem boot_set' : bootBuiltins "set" = some (.type "set") := by decide +kernel
theorem boot_int' : bootBuiltins "int" = some (.type "int") := by decide +kernel
theorem boot_bool' : bootBuiltins "bool" = some (.type "bool") := by decide +kernel
theorem boot_str' : bootBuiltins "str" = some (.type "str") := by decide +kernel
theorem de_lenT {ds : List PyData} {p : Pos} (hg : Gl X "len") (hm : X.mg "len" = none) (ha : DE X a ρ (.d (.tuple ds))) (hs : starEach [a] X.env = (false, eval a X.env) :: starEach [] X.env := by rfl) :
    DE X (.Call (.Name "len" p) [a] [] pos) ρ (.d (.int (ds.length : Int))) :=
  de_callB call_len_seq hg hm boot_len' (da_cons ha da_nil hs) (fun vs H Q r q => by
    obtain ⟨v, rfl, rv⟩ := rvA1 r
    obtain ⟨t, xs, rfl, hq, hA⟩ := rv_tup.mp rv
    exact ⟨t, xs, rfl, .inr hq, q _ H (Ex.refl H) (by rw [hA.len]; exact rv_int.mpr rfl)⟩) (he := hs)
theorem de_lenL {ds : List PyData} {p : Pos} (hg : Gl X "len") (hm : X.mg "len" = none) (ha : DE X a ρ (.d (.list ds))) (hs : starEach [a] X.env = (false, eval a X.env) :: starEach [] X.env := by rfl) :
    DE X (.Call (.Name "len" p) [a] [] pos) ρ (.d (.int (ds.length : Int))) :=
  de_callB call_len_seq hg hm boot_len' (da_cons ha da_nil hs) (fun vs H Q r q => by
    obtain ⟨v, rfl, rv⟩ := rvA1 r
    obtain ⟨t, xs, rfl, hq, hA⟩ := rv_lst.mp rv
    exact ⟨t, xs, rfl, .inl (SqL.of hq), q _ H (Ex.refl H) (by rw [hA.len]; exact rv_int.mpr rfl)⟩) (he := hs)
theorem bools_of {K : PySem.W.Frag} {H : Hp} : ∀ {bs : List Bool} {xs : List V}, DqA K H (bs.map PyData.bool) xs → xs = bs.map V.bl
  | [], _, h => dqA_nil.mp h
  | b :: bs, _, h => by
    obtain ⟨v, r, e, h1, h2⟩ := dqA_cons.mp h
    rw [e, dq_bool.mp h1, bools_of h2]
    rfl
theorem de_all {bs : List Bool} {p : Pos} (hc : X.calm = true) (hg : Gl X "all") (hm : X.mg "all" = none) (ha : DE X a ρ (.d (.list (bs.map PyData.bool)))) (hs : starEach [a] X.env = (false, eval a X.env) :: starEach [] X.env := by rfl) :
    DE X (.Call (.Name "all" p) [a] [] pos) ρ (.d (.bool (bs.all id))) :=
  de_callB (cr_all hc) hg hm boot_all' (da_cons ha da_nil hs) (fun vs H Q r q => by
    obtain ⟨v, rfl, rv⟩ := rvA1 r
    obtain ⟨t, xs, rfl, hq, hA⟩ := rv_lst.mp rv
    exact ⟨t, bs, rfl, SqL.of (by rw [← bools_of hA]; exact hq), q _ H (Ex.refl H) (rv_bool.mpr rfl)⟩) (he := hs)
/-- tuple(list) -/
theorem de_tupL {ds : List PyData} {p : Pos} (hg : Gl X "tuple") (hm : X.mg "tuple" = none) (ha : DE X a ρ (.d (.list ds))) (hs : starEach [a] X.env = (false, eval a X.env) :: starEach [] X.env := by rfl) :
    DE X (.Call (.Name "tuple" p) [a] [] pos) ρ (.d (.tuple ds)) :=
  de_callTy call_tuple_of hg hm boot_tuple' (da_cons ha da_nil hs) (fun vs H Q r q => by
    obtain ⟨v, rfl, rv⟩ := rvA1 r
    obtain ⟨t, xs, rfl, hq, hA⟩ := rv_lst.mp rv
    exact ⟨t, xs, rfl, .inl ⟨SqL.of hq, fun l hl => q _ _ (Ex.new hl) (rv_tup.mpr ⟨l, xs, rfl, SqT.of upd_same, hA.keep (.of (Ex.new hl))⟩)⟩⟩) (he := hs)
/-- isinstance -/
def tyD : PyData → String
  | .none => "NoneType"
  | .bool _ => "bool"
  | .int _ => "int"
  | .str _ => "str"
  | .tuple _ => "tuple"
  | .list _ => "list"
  | .dict _ => "dict"
theorem rv_ty {K : PySem.W.Frag} {H : Hp} {x : PyData} {v : V} (r : Rv K H v (.d x)) : TyX K H v (.type (tyD x)) := by
  cases x with
  | none => rw [rv_none.mp r]; exact .base .non
  | bool b => rw [rv_bool.mp r]; exact .base (.bl b)
  | int i => rw [rv_int.mp r]; exact .base (.int i)
  | str y => rw [rv_str.mp r]; exact .base (.str y)
  | tuple ds =>
    obtain ⟨p, xs, e1, hq, _⟩ := rv_tup.mp r
    rw [e1]
    rcases hq with (h | ⟨o, h⟩) | ⟨o, its, n, h1, h2, _⟩
    · exact .base (.tup h)
    · exact .fTuple h
    · exact .kTuple h1 h2
  | list ds =>
    obtain ⟨p, xs, e1, hq, _⟩ := rv_lst.mp r
    rw [e1]
    exact .base (.lst hq)
  | dict kvs => unfold Rv Dq at r; exact r.elim
theorem de_isi {x : PyData} {y : Str} {T : String} {k : Bool} {p p2 : Pos} (hg : Gl X "isinstance") (hm : X.mg "isinstance" = none) (ha : DE X a ρ (.d x)) (hg2 : Gl X y) (hm2 : X.mg y = none) (hv : bootBuiltins y = some (.type T))
    (hk : kitB (tyD x) T = some k) (hs : starEach [a, .Name y p2] X.env = (false, eval a X.env) :: starEach [.Name y p2] X.env := by rfl) (hn : y ≠ "__name__" := by decide) (hd : (y == ("__debug__" : Str)) = false := by decide) :
    DE X (.Call (.Name "isinstance" p) [a, .Name y p2] [] pos) ρ (.d (.bool k)) :=
  de_callB call_isi hg hm boot_isinstance' (da_cons ha (da_cons (de_ty hg2 hm2 hv hn hd) da_nil) hs) (fun vs H Q r q => by
    obtain ⟨v, w, rfl, rv, rw'⟩ := rvA2 r
    have ew : w = .ty T := rw'
    subst ew
    exact ⟨v, .ty T, .type (tyD x), .type T, k, rfl, .ty T, rv_ty rv, kit_ty hk, q _ H (Ex.refl H) (rv_bool.mpr rfl)⟩) (he := hs)
end

/-! ### a def whose promise is told by data -/
def spD (K : PySem.W.Frag) (F : List Dv → Dv → Prop) : Sp := fun vs H Q _ => ∃ ds d, RvA K H vs ds ∧ F ds d ∧ ∀ v H', Ex H H' → Rv K H' v d → Q v H'
/-- the module's def x keeps a promise told by data -/
def Pf (P : Program) (w : World) (K : PySem.W.Frag) (mg : Str → Option Value) (base : Heap) (x : Str) (k : Nat) (F : List Dv → Dv → Prop) : Prop :=
  ∃ (f : Addr) (fd : FuncData) (ps : List Str), mg x = some (.ref f) ∧ FnOk P w K mg base CX0 k f fd ps (spD K F) ∧ PySem.W.keepIn K (.ref f) = true ∧ L2.Binds K fd ps []
theorem Pf.mono {P : Program} {w : World} {K : PySem.W.Frag} {mg : Str → Option Value} {base : Heap} {x : Str} {j k : Nat} {F : List Dv → Dv → Prop} (h : Pf P w K mg base x j F) (le : j ≤ k) : Pf P w K mg base x k F := by
  obtain ⟨f, fd, ps, h1, h2, h3, h4⟩ := h
  exact ⟨f, fd, ps, h1, h2.mono le, h3, h4⟩
theorem Pf.imp {P : Program} {w : World} {K : PySem.W.Frag} {mg : Str → Option Value} {base : Heap} {x : Str} {k : Nat} {F F' : List Dv → Dv → Prop} (h : Pf P w K mg base x k F) (i : ∀ ds d, F' ds d → F ds d) : Pf P w K mg base x k F' := by
  obtain ⟨f, fd, ps, h1, h2, h3, h4⟩ := h
  exact ⟨f, fd, ps, h1, h2.imp fun vs H Q E ⟨ds, d, r, q, k⟩ => ⟨ds, d, r, i _ _ q, k⟩, h3, h4⟩
theorem de_call {X : Cx} {x : Str} {k : Nat} {F : List Dv → Dv → Prop} {e : Expr} {es : List Expr} {ρ : En} {ds : List Dv} {d : Dv} {p pos : Pos} (h : Pf X.prog X.w X.K X.mg X.base x k F) (hr : Room k X.A) (hg : Gl X x) (ha : DA X (e :: es) ρ ds) (hF : F ds d)
    (hdb : (x == ("__debug__" : Str)) = false := by decide) (he : starEach (e :: es) X.env = (false, eval e X.env) :: starEach es X.env := by rfl) (hpl : (backTo pos (starEach es X.env)).any (·.1) = false := by rfl) :
    DE X (.Call (.Name x p) (e :: es) [] pos) ρ d := by
  obtain ⟨f, fd, ps, h1, h2, h3, h4⟩ := h
  exact (pe_call h2 hr hg h1 h3 h4 .nil (pass0 (X := X)) ha hdb he hpl).imp fun σ H Q ⟨hs, q⟩ => ⟨hs, fun vs H1 e1 rs => ⟨ds, d, by rw [List.append_nil]; exact rs, hF, fun v H2 e2 r2 => q v H2 (e1.trans e2) r2⟩⟩

/-! ### comprehensions -/
theorem lc_by {J : It} {g : TG} {tt : TT} {te : TE} {vs : List Nat} {σ : L2.St} {H1 : Hp} {D : Addr} {Qd : Hp → Prop} (n : Nat) (Pv : Nat → Hp → Prop) (h0 : Pv 0 (upd H1 D (.lst []))) (hgo : ∀ i H, i < n → Pv i H → J.go i H) (hstop : ∀ H, Pv n H → J.stop n H)
    (hs : ∀ i x H H', i < n → Pv i H → J.yld i H x H' → g x (L2.wipe σ vs) H' fun σ2 H2 => L2.wipe σ2 vs = L2.wipe σ vs ∧ tt σ2 H2 fun b H3 =>
      if b = true then te σ2 H3 fun y H4 => ∃ acc, H4 D = some (.lst acc) ∧ acc.length < sizeLine ∧ Pv (i + 1) (upd H4 D (.lst (acc ++ [y]))) else Pv (i + 1) H3) (hd : ∀ H, Pv n H → Qd H) :
    ∃ W : Nat → Nat → Hp → Prop, (∃ m, W 0 m (upd H1 D (.lst []))) ∧ ∀ i m H, W i m H →
      (J.stop i H ∧ Qd H) ∨ (J.go i H ∧ ∃ Nx : Hp → Prop, (∀ H', Nx H' → ∃ m', m' < m ∧ W (i + 1) m' H') ∧ ∀ x H', J.yld i H x H' → g x (L2.wipe σ vs) H' fun σ2 H2 => L2.wipe σ2 vs = L2.wipe σ vs ∧ tt σ2 H2 fun b H3 =>
        if b = true then te σ2 H3 fun y H4 => ∃ acc, H4 D = some (.lst acc) ∧ acc.length < sizeLine ∧ Nx (upd H4 D (.lst (acc ++ [y]))) else Nx H3) := by
  refine ⟨fun i m H => m = n - i ∧ i ≤ n ∧ Pv i H, ⟨n, rfl, Nat.zero_le _, h0⟩, ?_⟩
  rintro i m H ⟨rfl, hi, p⟩
  by_cases hlt : i < n
  · exact .inr ⟨hgo i H hlt p, Pv (i + 1), fun H' p' => ⟨n - (i + 1), by omega, rfl, hlt, p'⟩, fun x H' y => hs i x H H' hlt p y⟩
  · have e : i = n := by omega
    rw [e] at p ⊢
    exact .inl ⟨hstop H p, hd H p⟩
section
variable {ι : Type} {K : PySem.W.Frag}
/-- readings over all items -/
def uT (K : PySem.W.Frag) (items : List ι) (env : ι → En) (f : ι → Bool) : TT := fun σ H Q => ∃ x ∈ items, tDT K (env x) (f x) σ H Q
def uE (K : PySem.W.Frag) (items : List ι) (env : ι → En) (f : ι → Bool) (g : ι → PyData) : TE := fun σ H Q => ∃ x ∈ items, f x = true ∧ tD K (env x) (.d (g x)) σ H Q
/-- what is made of the items so far -/
def Lw (K : PySem.W.Frag) (H1 : Hp) (D : Addr) (items : List ι) (f : ι → Bool) (g : ι → PyData) (i : Nat) (H' : Hp) : Prop :=
  ∃ acc, Ex H1 H' ∧ H' D = some (.lst acc) ∧ DqA K H' (((items.take i).filter f).map g) acc
theorem lw_zero {H1 : Hp} {D : Addr} {items : List ι} {f : ι → Bool} {g : ι → PyData} (hD : H1 D = none) : Lw K H1 D items f g 0 (upd H1 D (.lst [])) := ⟨[], Ex.new hD, upd_same, dqA_nil.mpr rfl⟩
end
/-! ### data without lists leans on tuples alone -/
mutual
def noL : PyData → Bool
  | .list _ => false
  | .dict _ => false
  | .tuple ds => noLA ds
  | _ => true
def noLA : List PyData → Bool
  | [] => true
  | d :: ds => noL d && noLA ds
end
def isTp : HO → Bool
  | .tup _ => true
  | .frz _ _ => true
  | _ => false
def KpT (H H' : Hp) : Prop := ∀ a o, H a = some o → isTp o = true → H' a = some o
section
variable {K : PySem.W.Frag} {H H' : Hp}
theorem kpT_sq {a : Addr} {xs : List V} (k : KpT H H') (h : SqT K H a xs) : SqT K H' a xs := by
  rcases h with (h | ⟨o, h⟩) | h
  · exact .inl (.inl (k _ _ h rfl))
  · exact .inl (.inr ⟨o, k _ _ h rfl⟩)
  · exact .inr h
mutual
theorem Dq.keepT (k : KpT H H') : ∀ (d : PyData) (v : V), noL d = true → Dq K H d v → Dq K H' d v
  | .none, _, _, h => dq_none.mpr (dq_none.mp h)
  | .bool _, _, _, h => dq_bool.mpr (dq_bool.mp h)
  | .int _, _, _, h => dq_int.mpr (dq_int.mp h)
  | .str _, _, _, h => dq_str.mpr (dq_str.mp h)
  | .tuple ds, _, n, h => by
    obtain ⟨a, xs, e, hs, ha⟩ := dq_tup.mp h
    exact dq_tup.mpr ⟨a, xs, e, kpT_sq k hs, DqA.keepT k ds xs (by unfold noL at n; exact n) ha⟩
  | .list ds, _, n, h => by unfold noL at n; cases n
  | .dict _, _, n, h => by unfold noL at n; cases n
theorem DqA.keepT (k : KpT H H') : ∀ (ds : List PyData) (vs : List V), noLA ds = true → DqA K H ds vs → DqA K H' ds vs
  | [], _, _, h => dqA_nil.mpr (dqA_nil.mp h)
  | d :: ds, _, n, h => by
    unfold noLA at n
    rw [Bool.and_eq_true] at n
    obtain ⟨v, r, e, h1, h2⟩ := dqA_cons.mp h
    exact dqA_cons.mpr ⟨v, r, e, Dq.keepT k d v n.1 h1, DqA.keepT k ds r n.2 h2⟩
end
theorem noLA_iff : ∀ {ds : List PyData}, noLA ds = true ↔ ∀ d ∈ ds, noL d = true
  | [] => by unfold noLA; simp
  | d :: ds => by
    unfold noLA
    rw [Bool.and_eq_true, noLA_iff (ds := ds), List.forall_mem_cons]
theorem kpT_upd {D : Addr} {o u : HO} (h : H D = some o) (n : isTp o = false) : KpT H (upd H D u) := fun a x e t => by
  rw [upd_ne fun z => ?_]
  · exact e
  · rw [z, h] at e
    cases e
    rw [n] at t
    cases t
end
section
variable {ι : Type} {K : PySem.W.Frag} {items : List ι} {env : ι → En} {f : ι → Bool} {g : ι → PyData} {H1 H' : Hp} {D : Addr}
theorem lw_noL (hn : ∀ x ∈ items, f x = true → noL (g x) = true) (i : Nat) : noLA (((items.take i).filter f).map g) = true := by
  refine noLA_iff.mpr fun d hd => ?_
  obtain ⟨x, hx, e⟩ := List.mem_map.mp hd
  obtain ⟨h1, h2⟩ := List.mem_filter.mp hx
  rw [← e]
  exact hn x (List.mem_of_mem_take h1) h2
/-- one turn, the item bound -/
theorem lw_turn {i : Nat} {x : ι} {σ2 : L2.St} {H2 : Hp} (hD : H1 D = none) (hi : items[i]? = some x) (hn : ∀ x ∈ items, f x = true → noL (g x) = true) (hz : items.length ≤ 100000) (p : Lw K H1 D items f g i H') (e2 : Ex H' H2) (hs : Rs K H2 σ2 (env x)) :
    uT K items env f σ2 H2 fun b H3 => if b = true then uE K items env f g σ2 H3 fun y H4 => ∃ acc, H4 D = some (.lst acc) ∧ acc.length < sizeLine ∧ Lw K H1 D items f g (i + 1) (upd H4 D (.lst (acc ++ [y]))) else Lw K H1 D items f g (i + 1) H3 := by
  obtain ⟨acc, q1, q2, q3⟩ := p
  have hx : x ∈ items := List.mem_of_getElem? hi
  have ht : items.take (i + 1) = items.take i ++ [x] := by rw [List.take_add_one, hi]; rfl
  refine ⟨x, hx, hs, fun H3 e3 => ?_⟩
  cases hf : f x with
  | true =>
    refine iteT ⟨x, hx, hf, hs.ex e3, fun y H4 e4 ry => ?_⟩
    have e24 := (e2.trans e3).trans e4
    have h4 : H4 D = some (.lst acc) := e24 _ _ q2
    refine ⟨acc, h4, ?_, acc ++ [y], Ex.mut (q1.trans e24) hD, upd_same, ?_⟩
    · refine sz_lt ?_
      rw [q3.len, List.length_map]
      have a := List.length_filter_le f (items.take i)
      rw [List.length_take] at a
      have b := (List.getElem?_eq_some_iff.mp hi).1
      omega
    · rw [ht, List.filter_append, List.map_append, List.filter_cons, if_pos hf, List.filter_nil]
      have k := kpT_upd (u := .lst (acc ++ [y])) h4 rfl
      exact (DqA.keepT k _ _ (lw_noL hn i) (q3.keep (.of e24))).append (DqA.one (Dq.keepT k _ _ (hn x hx hf) ry))
  | false =>
    refine iteF ⟨acc, (q1.trans e2).trans e3, e3 _ _ (e2 _ _ q2), ?_⟩
    rw [ht, List.filter_append, List.map_append, List.filter_cons, if_neg (by rw [hf]; decide), List.filter_nil, List.map_nil, List.append_nil]
    exact q3.keep (.of (e2.trans e3))
theorem lw_end {H' : Hp} {v : V} (p : Lw K H1 D items f g items.length H') : Rv K H' (.ref D) (.d (.list ((items.filter f).map g))) := by
  obtain ⟨acc, _, q2, q3⟩ := p
  rw [List.take_length] at q3
  exact rv_lst.mpr ⟨D, acc, rfl, q2, q3⟩
end
section
variable {X : Cx} {ρ : En} {elt iter : Expr} {ifs : List Expr} {scope : Scope} {pos tp : Pos} {x : Str} {j : Nat}
/-- what a comprehension's block is asked: its tests, its element, for each item -/
def BlkT {ι : Type} (X : Cx) (scope : Scope) (ifs : List Expr) (items : List ι) (env : ι → En) (f : ι → Bool) : Prop :=
  ∀ x ∈ items, ∀ (s : Shared) (H : Hp) (C : Addr) (cl : List (Str × Addr)) (fp : List Addr), PTs (X.blk s H scope (compEnvC scope cl C X.env) fp) ifs (tDT X.K (env x) (f x))
def BlkE {ι : Type} (X : Cx) (scope : Scope) (elt : Expr) (items : List ι) (env : ι → En) (f : ι → Bool) (g : ι → PyData) : Prop :=
  ∀ x ∈ items, f x = true → ∀ (s : Shared) (H : Hp) (C : Addr) (cl : List (Str × Addr)) (fp : List Addr), DE (X.blk s H scope (compEnvC scope cl C X.env) fp) elt (env x) (.d (g x))
theorem blkT_run {ι : Type} {items : List ι} {env : ι → En} {f : ι → Bool} (h : BlkT X scope ifs items env f) (s : Shared) (H : Hp) (C : Addr) (cl : List (Str × Addr)) (fp : List Addr) : PTs (X.blk s H scope (compEnvC scope cl C X.env) fp) ifs (uT X.K items env f) :=
  ⟨fun pins s' σ H' Q I ⟨x, hx, q⟩ => (h x hx s H C cl fp).run pins s' σ H' Q I q⟩
theorem blkE_run {ι : Type} {items : List ι} {env : ι → En} {f : ι → Bool} {g : ι → PyData} (h : BlkE X scope elt items env f g) (s : Shared) (H : Hp) (C : Addr) (cl : List (Str × Addr)) (fp : List Addr) : PE (X.blk s H scope (compEnvC scope cl C X.env) fp) elt (uE X.K items env f g) :=
  ⟨fun pins s' σ H' Q I ⟨x, hx, hf, q⟩ => (h x hx hf s H C cl fp).run pins s' σ H' Q I q⟩
theorem blkT_nil {ι : Type} {items : List ι} {env : ι → En} : BlkT X scope [] items env fun _ => true := fun x hx s H C cl fp => ⟨fun pins s' σ H' Q I ⟨hs, q⟩ => pts_nil.run pins s' σ H' Q I (q H' (Ex.refl H'))⟩
theorem blkT_one {ι : Type} {items : List ι} {env : ι → En} {f : ι → Bool} {c : Expr} (h : ∀ x ∈ items, ∀ (s : Shared) (H : Hp) (C : Addr) (cl : List (Str × Addr)) (fp : List Addr), DT (X.blk s H scope (compEnvC scope cl C X.env) fp) c (env x) (f x)) : BlkT X scope [c] items env f :=
  fun x hx s H C cl fp => pts_one (h x hx s H C cl fp)
theorem wipe_set (σ : L2.St) (j : Nat) (o : Option V) : L2.wipe ((L2.wipe σ [j]).set j o) [j] = L2.wipe σ [j] := by
  show ((σ.set j none).set j o).set j none = σ.set j none
  rw [List.set_set, List.set_set]
/-- the environment of an item bound to one name -/
abbrev env1 (ρ : En) (j : Nat) (d : PyData) : En := (wipeE ρ [j]).set j (some (.d d))
/-- the block's own name may be stored -/
def OwnN (X : Cx) (scope : Scope) (x : Str) : Prop := ∀ (s : Shared) (H : Hp) (C : Addr) (cl : List (Str × Addr)) (fp : List Addr), Loc (X.blk s H scope (compEnvC scope cl C X.env) fp).env.scope x ∧
  ((X.blk s H scope (compEnvC scope cl C X.env) fp).fn x = true ∨ (X.blk s H scope (compEnvC scope cl C X.env) fp).env.scope.names.lookup x = some .local)
/-- [elt for x in e if ..], e a tuple or a list -/
theorem de_lc {ds : List PyData} {f : PyData → Bool} {g : PyData → PyData} (hc : X.calm = true) (hN : X.N.Nodup) (hj : X.N[j]? = some x)
    (hi : DE X iter ρ (.d (.tuple ds)) ∨ DE X iter ρ (.d (.list ds))) (ok : BlkOk X.N X.env.scope scope [(x, j)])
    (hl : OwnN X scope x)
    (ht : BlkT X scope ifs ds (env1 ρ j) f) (he : BlkE X scope elt ds (env1 ρ j) f g) (hn : ∀ d ∈ ds, f d = true → noL (g d) = true) (hz : ds.length ≤ 100000) (hs : ∀ x, foldedSetIterable iter X.env x = pure x := by intro _; rfl) :
    DE X (.ListComp elt [⟨.Name x tp, iter, ifs, 0⟩] scope pos) ρ (.d (.list ((ds.filter f).map g))) := by
  have pg : ∀ (s : Shared) (H : Hp) (C : Addr) (cl : List (Str × Addr)) (fp : List Addr), PG (X.blk s H scope (compEnvC scope cl C X.env) fp) (.Name x tp) (gName j) := fun s H C cl fp => pg_name (i := j) hN hj (hl s H C cl fp).1 (hl s H C cl fp).2
  rcases hi with hi | hi
  · refine (pe_lc hc hN (pi_tup hi) ok pg (blkT_run ht) (blkE_run he) hs).imp fun σ H Q ⟨hr, q⟩ => ⟨hr, fun v H1 e1 r => ?_⟩
    obtain ⟨a, xs, rfl, hq, hA⟩ := rv_tup.mp r
    refine ⟨a, rfl, ⟨xs, hq⟩, fun D hD => lc_by ds.length (Lw X.K H1 D ds f g) (lw_zero hD) (fun i H' hlt p => ?_) (fun H' p => ?_) (fun i y H' H2 hlt p hy => ?_) fun H' p => ?_⟩
    · obtain ⟨acc, q1, _⟩ := p
      exact ⟨xs, xs[i]'(by rw [hA.len]; exact hlt), ex_t q1 hq, List.getElem?_eq_getElem _⟩
    · obtain ⟨acc, q1, _⟩ := p
      exact ⟨xs, ex_t q1 hq, Nat.le_of_eq hA.len⟩
    · obtain ⟨eH, fy⟩ := hy
      subst eH
      have q1 := p
      obtain ⟨acc, q1, _⟩ := q1
      have gx := fy xs (ex_t q1 hq)
      obtain ⟨d, hd, rd⟩ := hA.get' gx
      exact ⟨wipe_set σ j _, lw_turn hD hd hn hz p (Ex.refl _) (((hr.ex (e1.trans q1)).wipe [j]).set (show Rv X.K H2 y (.d d) from Dq.keep (.of q1) _ _ rd))⟩
    · have q1 := p
      obtain ⟨acc, q1, _⟩ := q1
      exact q _ H' (e1.trans q1) (lw_end (v := .non) p)
  · refine (pe_lc hc hN (pi_list hi) ok pg (blkT_run ht) (blkE_run he) hs).imp fun σ H Q ⟨hr, q⟩ => ⟨hr, fun v H1 e1 r => ?_⟩
    obtain ⟨a, xs, rfl, hq, hA⟩ := rv_lst.mp r
    refine ⟨a, rfl, ⟨xs, SqL.of hq⟩, fun D hD => lc_by ds.length (Lw X.K H1 D ds f g) (lw_zero hD) (fun i H' hlt p => ?_) (fun H' p => ?_) (fun i y H' H2 hlt p hy => ?_) fun H' p => ?_⟩
    · obtain ⟨acc, q1, _⟩ := p
      exact ⟨xs, xs[i]'(by rw [hA.len]; exact hlt), SqL.of (q1 _ _ hq), List.getElem?_eq_getElem _⟩
    · obtain ⟨acc, q1, _⟩ := p
      exact ⟨xs, SqL.of (q1 _ _ hq), Nat.le_of_eq hA.len⟩
    · obtain ⟨eH, fy⟩ := hy
      subst eH
      have q1 := p
      obtain ⟨acc, q1, _⟩ := q1
      have gx := fy xs (SqL.of (q1 _ _ hq))
      obtain ⟨d, hd, rd⟩ := hA.get' gx
      exact ⟨wipe_set σ j _, lw_turn hD hd hn hz p (Ex.refl _) (((hr.ex (e1.trans q1)).wipe [j]).set (show Rv X.K H2 y (.d d) from Dq.keep (.of q1) _ _ rd))⟩
    · have q1 := p
      obtain ⟨acc, q1, _⟩ := q1
      exact q _ H' (e1.trans q1) (lw_end (v := .non) p)
end
end DSW
set_option Elab.async false
set_option linter.all false
set_option maxRecDepth 100000
set_option maxHeartbeats 2000000
/-! The calculus: comprehensions over ranges and zips; statements; defs. -/
namespace DSW
open PySem PySem.Spec PyProof.Rows L2 Evl
section
variable {X : Cx} {ρ : En} {elt iter : Expr} {ifs : List Expr} {scope : Scope} {pos tp : Pos} {x y : Str} {i j : Nat}
def intsD (n : Nat) : List PyData := (List.range n).map fun (k : Nat) => PyData.int (k : Int)
theorem intsD_get {n k : Nat} (h : k < n) : (intsD n)[k]? = some (.int (k : Int)) := by
  unfold intsD
  rw [List.getElem?_map, List.getElem?_range h]
  rfl
theorem intsD_len (n : Nat) : (intsD n).length = n := by unfold intsD; rw [List.length_map, List.length_range]
/-- [elt for x in range(e) if ..] -/
theorem de_lcR {e : Expr} {n : Nat} {p p2 : Pos} {f : PyData → Bool} {g : PyData → PyData} (hc : X.calm = true) (hN : X.N.Nodup) (hj : X.N[j]? = some x) (hgr : Gl X "range") (hmr : X.mg "range" = none)
    (hi : DE X e ρ (.d (.int (n : Int)))) (ok : BlkOk X.N X.env.scope scope [(x, j)]) (hl : OwnN X scope x)
    (ht : BlkT X scope ifs (intsD n) (env1 ρ j) f) (he : BlkE X scope elt (intsD n) (env1 ρ j) f g) (hn : ∀ d ∈ intsD n, f d = true → noL (g d) = true) (hz : n ≤ 100000)
    (hst : starEach [e] X.env = [(false, eval e X.env)] := by rfl) (hs : ∀ x, foldedSetIterable (.Call (.Name "range" p) [e] [] p2) X.env x = pure x := by intro _; rfl) :
    DE X (.ListComp elt [⟨.Name x tp, .Call (.Name "range" p) [e] [] p2, ifs, 0⟩] scope pos) ρ (.d (.list (((intsD n).filter f).map g))) := by
  have pg : ∀ (s : Shared) (H : Hp) (C : Addr) (cl : List (Str × Addr)) (fp : List Addr), PG (X.blk s H scope (compEnvC scope cl C X.env) fp) (.Name x tp) (gName j) := fun s H C cl fp => pg_name (i := j) hN hj (hl s H C cl fp).1 (hl s H C cl fp).2
  refine (pe_lc hc hN (pi_range1 hgr hmr (da_cons hi da_nil hst) hst) ok pg (blkT_run ht) (blkE_run he) hs).imp fun σ H Q ⟨hr, q⟩ => ⟨hr, fun vs H1 e1 r => ?_⟩
  obtain ⟨v, rfl, rv⟩ := rvA1 r
  refine ⟨(n : Int), by rw [rv_int.mp rv], by omega, by omega, fun D hD => ?_⟩
  have en : ((n : Int)).toNat = n := by simp
  rw [en]
  refine lc_by n (Lw X.K H1 D (intsD n) f g) (lw_zero hD) (fun i H' hlt p => hlt) (fun H' p => Nat.le_refl n) (fun i y H' H2 hlt p hy => ?_) fun H' p => ?_
  · obtain ⟨eH, ey⟩ := hy
    have q1 := p
    obtain ⟨acc, q1, _⟩ := q1
    rw [eH, ey]
    refine ⟨wipe_set σ j _, lw_turn hD (intsD_get hlt) hn (by rw [intsD_len]; exact hz) p (Ex.refl _) (((hr.ex (e1.trans q1)).wipe [j]).set (show Rv X.K H' (V.int (0 + (i : Int))) (.d (.int (i : Int))) from rv_int.mpr ?_))⟩
    rw [Int.zero_add]
  · have q1 := p
    obtain ⟨acc, q1, _⟩ := q1
    exact q _ H' (e1.trans q1) (lw_end (v := .non) (by rw [intsD_len]; exact p))
abbrev env2 (ρ : En) (i j : Nat) (d : PyData × PyData) : En := ((wipeE ρ [i, j]).set i (some (.d d.1))).set j (some (.d d.2))
theorem wipe_set2 (σ : L2.St) (i j : Nat) (o o' : Option V) : L2.wipe (((L2.wipe σ [i, j]).set i o).set j o') [i, j] = L2.wipe σ [i, j] := by
  show (((((σ.set j none).set i none).set i o).set j o').set j none).set i none = (σ.set j none).set i none
  by_cases h : i = j
  · subst h
    simp only [List.set_set]
  · simp only [List.set_set]
    rw [List.set_comm (l := σ.set j none) _ _ h, List.set_set, List.set_set]
/-- [elt for x, y in zip(e, e2) if ..] of two tuples -/
theorem de_lcZ {e e2 : Expr} {ds es : List PyData} {p p2 t1 t2 tp' : Pos} {kk : Nat} {f : PyData × PyData → Bool} {g : PyData × PyData → PyData} (hc : X.calm = true) (hN : X.N.Nodup) (hi' : X.N[i]? = some x) (hj : X.N[j]? = some y) (hgz : Gl X "zip") (hmz : X.mg "zip" = none)
    (h1 : DE X e ρ (.d (.tuple ds))) (h2 : DE X e2 ρ (.d (.tuple es))) (ok : BlkOk X.N X.env.scope scope [(x, i), (y, j)]) (hl : OwnN X scope x) (hl2 : OwnN X scope y)
    (ht : BlkT X scope ifs (ds.zip es) (env2 ρ i j) f) (he : BlkE X scope elt (ds.zip es) (env2 ρ i j) f g) (hn : ∀ d ∈ ds.zip es, f d = true → noL (g d) = true) (hz : ds.length ≤ 100000)
    (hlen : ∀ (s : Shared) (H : Hp) (C : Addr) (cl : List (Str × Addr)) (fp : List Addr), (assignEach [.Name x t1, .Name y t2] (X.blk s H scope (compEnvC scope cl C X.env) fp).env).length = 2 := by intros; rfl)
    (hst2 : ∀ (s : Shared) (H : Hp) (C : Addr) (cl : List (Str × Addr)) (fp : List Addr), (assignEach [.Name x t1, .Name y t2] (X.blk s H scope (compEnvC scope cl C X.env) fp).env).findIdx? (·.1) = none := by intros; rfl)
    (hst : starEach [e, e2] X.env = (false, eval e X.env) :: starEach [e2] X.env := by rfl) (hst' : starEach [e2] X.env = (false, eval e2 X.env) :: starEach [] X.env := by rfl) (hpl : (backTo p2 (starEach [e2] X.env)).any (·.1) = false := by rfl)
    (hs : ∀ x, foldedSetIterable (.Call (.Name "zip" p) [e, e2] [] p2) X.env x = pure x := by intro _; rfl) :
    DE X (.ListComp elt [⟨.Tuple [.Name x t1, .Name y t2] kk tp', .Call (.Name "zip" p) [e, e2] [] p2, ifs, 0⟩] scope pos) ρ (.d (.list (((ds.zip es).filter f).map g))) := by
  have ha : ∀ (s : Shared) (H : Hp) (C : Addr) (cl : List (Str × Addr)) (fp : List Addr), PGs (X.blk s H scope (compEnvC scope cl C X.env) fp) [.Name x t1, .Name y t2] (gCons (gName i) (gCons (gName j) gNil)) := fun s H C cl fp => pgs_cons (pg_name hN hi' (hl s H C cl fp).1 (hl s H C cl fp).2) (pgs_cons (pg_name hN hj (hl2 s H C cl fp).1 (hl2 s H C cl fp).2) pgs_nil)
  have pg : ∀ (s : Shared) (H : Hp) (C : Addr) (cl : List (Str × Addr)) (fp : List Addr), PG (X.blk s H scope (compEnvC scope cl C X.env) fp) (.Tuple [.Name x t1, .Name y t2] kk tp') (gTup X.K 2 (gCons (gName i) (gCons (gName j) gNil))) := fun s H C cl fp => pg_tup (X := X.blk s H scope (compEnvC scope cl C X.env) fp) (n := 2) hc (ha s H C cl fp) (hlen s H C cl fp) (hst2 s H C cl fp)
  refine (pe_lc hc hN (RZ.pi_zipA hgz hmz (da_cons h1 (da_cons h2 da_nil hst') hst) hst hpl) ok pg (blkT_run ht) (blkE_run he) hs).imp fun σ H Q ⟨hr, q⟩ => ⟨hr, fun vs H1 e1 r => ?_⟩
  obtain ⟨v, w, rfl, rv, rw'⟩ := rvA2 r
  obtain ⟨a, xs, rfl, hq, hA⟩ := rv_tup.mp rv
  obtain ⟨a2, ys, rfl, hq2, hB⟩ := rv_tup.mp rw'
  refine ⟨a, a2, xs, ys, rfl, .inr ⟨hq, hq2, fun D hD => lc_by (ds.zip es).length (Lw X.K H1 D (ds.zip es) f g) (lw_zero hD) (fun k H' hlt p => ?_) (fun H' p => ?_) (fun k u H' H2 hlt p hy => ?_) fun H' p => ?_⟩⟩
  · obtain ⟨acc, q1, _⟩ := p
    rw [List.length_zip] at hlt
    have l1 : k < xs.length := by rw [hA.len]; omega
    have l2 : k < ys.length := by rw [hB.len]; omega
    exact ⟨xs, ys, xs[k], ys[k], ex_t q1 hq, ex_t q1 hq2, List.getElem?_eq_getElem l1, List.getElem?_eq_getElem l2⟩
  · obtain ⟨acc, q1, _⟩ := p
    refine ⟨xs, ys, ex_t q1 hq, ex_t q1 hq2, ?_⟩
    rw [hA.len, hB.len, List.length_zip]
    omega
  · obtain ⟨T, u1, u2, eu, hT, eH, fx, fy⟩ := hy
    have q1 := p
    obtain ⟨acc, q1, _⟩ := q1
    obtain ⟨d1, hd1, r1⟩ := hA.get' (fx xs (ex_t q1 hq))
    obtain ⟨d2, hd2, r2⟩ := hB.get' (fy ys (ex_t q1 hq2))
    rw [eu, eH]
    have eT : Ex H' (upd H' T (.tup [u1, u2])) := Ex.new hT
    refine ⟨T, [u1, u2], rfl, SqT.of upd_same, rfl, u1, [u2], rfl, u2, [], rfl, rfl, wipe_set2 σ i j _ _, ?_⟩
    have hk : (ds.zip es)[k]? = some (d1, d2) := by
      rw [List.getElem?_zip_eq_some]
      exact ⟨hd1, hd2⟩
    have hz2 : (ds.zip es).length ≤ 100000 := by
      rw [List.length_zip]
      omega
    exact lw_turn hD hk hn hz2 p eT ((((hr.ex ((e1.trans q1).trans eT)).wipe [i, j]).set (show Rv X.K _ u1 (.d d1) from Dq.keep (.of (q1.trans eT)) _ _ r1)).set (show Rv X.K _ u2 (.d d2) from Dq.keep (.of (q1.trans eT)) _ _ r2))
  · have q1 := p
    obtain ⟨acc, q1, _⟩ := q1
    exact q _ H' (e1.trans q1) (lw_end (v := .non) p)
end

/-! ### statements -/
inductive Out where
  | nx (ρ : En)
  | rt (d : Dv)
def Out.at (K : PySem.W.Frag) (D : Ends) (H : Hp) : Out → Prop
  | .nx ρ => ∀ σ' H', Ex H H' → Rs K H' σ' ρ → D.nx σ' H'
  | .rt d => ∀ v H', Ex H H' → Rv K H' v d → D.rt v H'
theorem Out.at_ex {K : PySem.W.Frag} {D : Ends} {H H' : Hp} (e : Ex H H') : ∀ {o : Out}, o.at K D H → o.at K D H'
  | .nx ρ, h => fun σ' H2 e2 r => h σ' H2 (e.trans e2) r
  | .rt d, h => fun v H2 e2 r => h v H2 (e.trans e2) r
def tS (K : PySem.W.Frag) (ρ : En) (o : Out) : TS := fun D σ H => Rs K H σ ρ ∧ o.at K D H
abbrev DS (X : Cx) (st : Stmt) (ρ : En) (o : Out) : Prop := PS X st (tS X.K ρ o)
abbrev DSs (X : Cx) (sts : List Stmt) (ρ : En) (o : Out) : Prop := PSs X sts (tS X.K ρ o)
section
variable {X : Cx} {ρ ρ' : En} {e c : Expr} {d : Dv} {o : Out} {st : Stmt} {rest body els : List Stmt} {pos pos' : Pos} {x : Str} {i j : Nat}
theorem dss_nil : DSs X [] ρ (.nx ρ) := pss_nil.imp fun D σ H ⟨hs, q⟩ => q σ H (Ex.refl H) hs
theorem dss_cons (h1 : DS X st ρ (.nx ρ')) (h2 : DSs X rest ρ' o) : DSs X (st :: rest) ρ o :=
  (pss_cons h1 h2).imp fun D σ H ⟨hs, q⟩ => ⟨hs, fun σ' H' e1 r => ⟨r, Out.at_ex e1 q⟩⟩
/-- a statement that returns -/
theorem dss_stop (h1 : DS X st ρ (.rt d)) : DSs X (st :: rest) ρ (.rt d) :=
  (pss_cons h1 (u := fun _ _ _ => False) ⟨fun _ _ _ _ _ _ z => z.elim⟩).imp fun D σ H ⟨hs, q⟩ => ⟨hs, q⟩
theorem dss_one (h1 : DS X st ρ o) : DSs X [st] ρ o := pss_one h1
theorem ds_ret (h : DE X e ρ d) : DS X (.Return (some e) pos) ρ (.rt d) := (ps_ret h).imp fun D σ H ⟨hs, q⟩ => ⟨hs, fun v H1 e1 r => q v H1 e1 r⟩
theorem dss_ret (h : DE X e ρ d) : DSs X (.Return (some e) pos :: rest) ρ (.rt d) := dss_stop (ds_ret h)
theorem ds_set (i : Nat) (h : DE X e ρ d) (hN : X.N.Nodup) (hi : X.N[i]? = some x := by rfl) (hx : Loc X.env.scope x := by first | exact Or.inl rfl | exact Or.inr rfl) (hs : swapsWith e (some (.Name x pos')) pos.line X.env = pure false := by rfl)
    (hf : X.fn x = true ∨ X.env.scope.names.lookup x = some .local := by first | exact .inl rfl | exact .inr rfl) : DS X (.Assign [.Name x pos'] e pos) ρ (.nx (ρ.set i (some d))) :=
  (ps_set hN hi hx h hs hf).imp fun D σ H ⟨hr, q⟩ => ⟨hr, fun v H1 e1 r => q _ H1 e1 ((hr.ex e1).set r)⟩
theorem ds_if {k : Bool} (hc : DT X c ρ k) (h1 : k = true → DSs X body ρ o) (h2 : k = false → DSs X els ρ o) : DS X (.If c body els pos) ρ o := by
  refine ⟨fun pins s σ H D I ⟨hs, q⟩ => ?_⟩
  cases k with
  | true => exact ((ps_if hc (h1 rfl) (u := fun _ _ _ => False) ⟨fun _ _ _ _ _ _ z => z.elim⟩).imp fun D σ H ⟨hs, q⟩ => ⟨hs, fun H1 e1 => iteT ⟨hs.ex e1, Out.at_ex e1 q⟩⟩).run pins s σ H D I (show tS X.K ρ o D σ H from ⟨hs, q⟩)
  | false => exact ((ps_if hc (t := fun _ _ _ => False) ⟨fun _ _ _ _ _ _ z => z.elim⟩ (h2 rfl)).imp fun D σ H ⟨hs, q⟩ => ⟨hs, fun H1 e1 => iteF ⟨hs.ex e1, Out.at_ex e1 q⟩⟩).run pins s σ H D I (show tS X.K ρ o D σ H from ⟨hs, q⟩)
/-- if c: (it ends there), else the rest -/
theorem dss_if {k : Bool} (hc : DT X c ρ k) (h1 : k = true → DSs X body ρ o ∧ (∃ d, o = .rt d)) (h2 : k = false → DSs X rest ρ o) : DSs X (.If c body [] pos :: rest) ρ o := by
  cases k with
  | true =>
    obtain ⟨h, d, e⟩ := h1 rfl
    subst e
    exact dss_stop (ds_if hc (fun _ => h) fun z => by cases z)
  | false => exact dss_cons (ds_if hc (fun z => by cases z) fun _ => dss_nil) (h2 rfl)
theorem ds_expr (h : DE X e ρ d) (hs : swapsWith e none pos.line X.env = pure false := by rfl) : DS X (.Expr e pos) ρ (.nx ρ) := (ps_expr h hs).imp fun D σ H ⟨hr, q⟩ => ⟨hr, fun v H1 e1 r => q σ H1 e1 (hr.ex e1)⟩
theorem dss_fg {ρ'' : En} (h : DSs X body ρ (.nx ρ')) (f : Fg ρ' ρ'') : DSs X body ρ (.nx ρ'') := h.imp fun D σ H ⟨hs, q⟩ => ⟨hs, fun σ' H' e1 r => q σ' H' e1 (r.fg f)⟩
theorem dss_pre {ρ'' : En} (h : DSs X body ρ o) (f : Fg ρ'' ρ) : DSs X body ρ'' o := h.imp fun D σ H ⟨hs, q⟩ => ⟨hs.fg f, q⟩
/-- y = [elt for ..] on one line, y a local -/
theorem ds_setLc {elt iter : Expr} {ifs : List Expr} {scope : Scope} {pos2 : Pos} {ds : List PyData} {f : PyData → Bool} {g : PyData → PyData} {y : Str} {tp : Pos} (i : Nat) (hc : X.calm = true) (hN : X.N.Nodup) (hy : X.N[i]? = some y) (hyl : X.env.scope.names.lookup y = some .local) (hj : X.N[j]? = some x)
    (hsw : swapsWith (.ListComp elt [⟨.Name x tp, iter, ifs, 0⟩] scope pos2) (some (.Name y pos')) pos.line X.env = pure true)
    (hi : DE X iter ρ (.d (.tuple ds)) ∨ DE X iter ρ (.d (.list ds))) (ok : BlkOk X.N X.env.scope scope [(x, j)]) (hl : OwnN X scope x)
    (ht : BlkT X scope ifs ds (env1 ρ j) f) (he : BlkE X scope elt ds (env1 ρ j) f g) (hn : ∀ d ∈ ds, f d = true → noL (g d) = true) (hz : ds.length ≤ 100000) (hs : ∀ x, foldedSetIterable iter X.env x = pure x := by intro _; rfl) :
    DS X (.Assign [.Name y pos'] (.ListComp elt [⟨.Name x tp, iter, ifs, 0⟩] scope pos2) pos) ρ (.nx (ρ.set i (some (.d (.list ((ds.filter f).map g)))))) := by
  have pg : ∀ (s : Shared) (H : Hp) (C : Addr) (cl : List (Str × Addr)) (fp : List Addr), PG (X.blk s H scope (compEnvC scope cl C X.env) fp) (.Name x tp) (gName j) := fun s H C cl fp => pg_name (i := j) hN hj (hl s H C cl fp).1 (hl s H C cl fp).2
  rcases hi with hi | hi
  · refine (ps_setLc (i := i) hc hN hy hyl hsw (pi_tup hi) ok pg (blkT_run ht) (blkE_run he) hs).imp fun D0 σ H ⟨hr, q⟩ => ⟨hr, fun v H1 e1 r => ?_⟩
    obtain ⟨a, xs, rfl, hq, hA⟩ := rv_tup.mp r
    refine ⟨a, rfl, ⟨xs, hq⟩, fun D hD => lc_by ds.length (Lw X.K H1 D ds f g) (lw_zero hD) (fun i H' hlt p => ?_) (fun H' p => ?_) (fun i y H' H2 hlt p hy => ?_) fun H' p => ?_⟩
    · obtain ⟨acc, q1, _⟩ := p
      exact ⟨xs, xs[i]'(by rw [hA.len]; exact hlt), ex_t q1 hq, List.getElem?_eq_getElem _⟩
    · obtain ⟨acc, q1, _⟩ := p
      exact ⟨xs, ex_t q1 hq, Nat.le_of_eq hA.len⟩
    · obtain ⟨eH, fy⟩ := hy
      subst eH
      have q1 := p
      obtain ⟨acc, q1, _⟩ := q1
      obtain ⟨d, hd, rd⟩ := hA.get' (fy xs (ex_t q1 hq))
      exact ⟨wipe_set σ j _, lw_turn hD hd hn hz p (Ex.refl _) (((hr.ex (e1.trans q1)).wipe [j]).set (show Rv X.K H2 y (.d d) from Dq.keep (.of q1) _ _ rd))⟩
    · have q1 := p
      obtain ⟨acc, q1, _⟩ := q1
      exact q _ H' (e1.trans q1) ((hr.ex (e1.trans q1)).set (lw_end (v := .non) p))
  · refine (ps_setLc (i := i) hc hN hy hyl hsw (pi_list hi) ok pg (blkT_run ht) (blkE_run he) hs).imp fun D0 σ H ⟨hr, q⟩ => ⟨hr, fun v H1 e1 r => ?_⟩
    obtain ⟨a, xs, rfl, hq, hA⟩ := rv_lst.mp r
    refine ⟨a, rfl, ⟨xs, SqL.of hq⟩, fun D hD => lc_by ds.length (Lw X.K H1 D ds f g) (lw_zero hD) (fun i H' hlt p => ?_) (fun H' p => ?_) (fun i y H' H2 hlt p hy => ?_) fun H' p => ?_⟩
    · obtain ⟨acc, q1, _⟩ := p
      exact ⟨xs, xs[i]'(by rw [hA.len]; exact hlt), SqL.of (q1 _ _ hq), List.getElem?_eq_getElem _⟩
    · obtain ⟨acc, q1, _⟩ := p
      exact ⟨xs, SqL.of (q1 _ _ hq), Nat.le_of_eq hA.len⟩
    · obtain ⟨eH, fy⟩ := hy
      subst eH
      have q1 := p
      obtain ⟨acc, q1, _⟩ := q1
      obtain ⟨d, hd, rd⟩ := hA.get' (fy xs (SqL.of (q1 _ _ hq)))
      exact ⟨wipe_set σ j _, lw_turn hD hd hn hz p (Ex.refl _) (((hr.ex (e1.trans q1)).wipe [j]).set (show Rv X.K H2 y (.d d) from Dq.keep (.of q1) _ _ rd))⟩
    · have q1 := p
      obtain ⟨acc, q1, _⟩ := q1
      exact q _ H' (e1.trans q1) ((hr.ex (e1.trans q1)).set (lw_end (v := .non) p))
/-- what binding a value to a target does to the slots -/
def Tgt (K : PySem.W.Frag) (tg : TG) (ρ : En) (d : Dv) (ρ' : En) : Prop := ∀ (σ : L2.St) (H : Hp) (v : V) (Q : L2.St → Hp → Prop), Rs K H σ ρ → Rv K H v d → (∀ σ' H', Ex H H' → Rs K H' σ' ρ' → Q σ' H') → tg v σ H Q
theorem tgt_name {K : PySem.W.Frag} {ρ : En} {d : Dv} (j : Nat) : Tgt K (gName j) ρ d (ρ.set j (some d)) := fun σ H v Q hs r q => q _ H (Ex.refl H) (hs.set r)
theorem tgt_tup2 {K : PySem.W.Frag} {ρ : En} {a b : PyData} (i j : Nat) : Tgt K (gTup K 2 (gCons (gName i) (gCons (gName j) gNil))) ρ (.d (.tuple [a, b])) ((ρ.set i (some (.d a))).set j (some (.d b))) := fun σ H v Q hs r q => by
  obtain ⟨p, xs, rfl, hq, hA⟩ := rv_tup.mp r
  obtain ⟨x, r1, rfl, ra, h1⟩ := dqA_cons.mp hA
  obtain ⟨y, r2, rfl, rb, h2⟩ := dqA_cons.mp h1
  rw [dqA_nil.mp h2] at hq
  exact ⟨p, [x, y], rfl, hq, rfl, x, [y], rfl, y, [], rfl, rfl, q _ H (Ex.refl H) ((hs.set (show Rv K H x (.d a) from ra)).set (show Rv K H y (.d b) from rb))⟩
theorem tgt_tup3 {K : PySem.W.Frag} {ρ : En} {a b c : PyData} (i j k : Nat) : Tgt K (gTup K 3 (gCons (gName i) (gCons (gName j) (gCons (gName k) gNil)))) ρ (.d (.tuple [a, b, c])) (((ρ.set i (some (.d a))).set j (some (.d b))).set k (some (.d c))) := fun σ H v Q hs r q => by
  obtain ⟨p, xs, rfl, hq, hA⟩ := rv_tup.mp r
  obtain ⟨x, r1, rfl, ra, h1⟩ := dqA_cons.mp hA
  obtain ⟨y, r2, rfl, rb, h2⟩ := dqA_cons.mp h1
  obtain ⟨z, r3, rfl, rc, h3⟩ := dqA_cons.mp h2
  rw [dqA_nil.mp h3] at hq
  exact ⟨p, [x, y, z], rfl, hq, rfl, x, [y, z], rfl, y, [z], rfl, z, [], rfl, rfl, q _ H (Ex.refl H) (((hs.set (show Rv K H x (.d a) from ra)).set (show Rv K H y (.d b) from rb)).set (show Rv K H z (.d c) from rc))⟩
theorem tgt_tup4 {K : PySem.W.Frag} {ρ : En} {a b c d : PyData} (i j k l : Nat) : Tgt K (gTup K 4 (gCons (gName i) (gCons (gName j) (gCons (gName k) (gCons (gName l) gNil))))) ρ (.d (.tuple [a, b, c, d])) ((((ρ.set i (some (.d a))).set j (some (.d b))).set k (some (.d c))).set l (some (.d d))) := fun σ H v Q hs r q => by
  obtain ⟨p, xs, rfl, hq, hA⟩ := rv_tup.mp r
  obtain ⟨x, r1, rfl, ra, h1⟩ := dqA_cons.mp hA
  obtain ⟨y, r2, rfl, rb, h2⟩ := dqA_cons.mp h1
  obtain ⟨z, r3, rfl, rc, h3⟩ := dqA_cons.mp h2
  obtain ⟨w, r4, rfl, rd, h4⟩ := dqA_cons.mp h3
  rw [dqA_nil.mp h4] at hq
  exact ⟨p, [x, y, z, w], rfl, hq, rfl, x, [y, z, w], rfl, y, [z, w], rfl, z, [w], rfl, w, [], rfl, rfl, q _ H (Ex.refl H) ((((hs.set (show Rv K H x (.d a) from ra)).set (show Rv K H y (.d b) from rb)).set (show Rv K H z (.d c) from rc)).set (show Rv K H w (.d d) from rd))⟩
/-- for t in e: body, e a tuple or a list that the body leaves as it is -/
theorem ds_for {iter t : Expr} {tg : TG} {ds : List PyData} (ρs ρb : Nat → En) (hp : PassesOwn (model X.prog X.w) X.A X.env X.xe) (hc : X.calm = true) (hg : PG X t tg) (hi : DE X iter ρ (.d (.tuple ds)) ∨ DE X iter ρ (.d (.list ds)))
    (h0 : Fg ρ (ρs 0)) (ht : ∀ (i : Nat) (d : PyData), ds[i]? = some d → Tgt X.K tg (ρs i) (.d d) (ρb i)) (hb : ∀ (i : Nat) (d : PyData), ds[i]? = some d → DSs X body (ρb i) (.nx (ρs (i + 1)))) (hs : ∀ x, foldedSetIterable iter X.env x = pure x := by intro _; rfl) : DS X (.For t iter body [] pos) ρ (.nx (ρs ds.length)) := by
  have hbody : PSs X body (fun D σ H => ∃ (i : Nat) (d : PyData), ds[i]? = some d ∧ tS X.K (ρb i) (.nx (ρs (i + 1))) D σ H) := ⟨fun pins s σ H D I ⟨i, d, hd, q⟩ => (hb i d hd).run pins s σ H D I q⟩
  rcases hi with hi | hi
  · refine (ps_for hp hc (pi_tup hi) hg hbody hs).imp fun D σ H ⟨hr, q⟩ => ⟨hr, fun v H1 e1 r => ?_⟩
    obtain ⟨a, xs, rfl, hq, hA⟩ := rv_tup.mp r
    refine ⟨a, rfl, ⟨xs, hq⟩, ?_⟩
    refine for_tup (g := tg) (tb := fun D σ H => ∃ (i : Nat) (d : PyData), ds[i]? = some d ∧ tS X.K (ρb i) (.nx (ρs (i + 1))) D σ H) (D := D) (xs := xs) (fun i σ' H' => Ex H1 H' ∧ Rs X.K H' σ' (ρs i)) ⟨Ex.refl _, (hr.ex e1).fg h0⟩ (fun i σ' H' _ p => ex_t p.1 hq) (fun i y σ' H' hy p => ?_) fun σ' H' p => ?_
    · obtain ⟨d, hd, rd⟩ := hA.get' hy
      exact ht i d hd σ' H' y _ p.2 (Dq.keep (.of p.1) _ _ rd) fun σ2 H2 e2 r2 => ⟨i, d, hd, r2, fun σ3 H3 e3 r3 => ⟨(p.1.trans e2).trans e3, r3⟩⟩
    · exact q σ' H' (e1.trans p.1) (by rw [← hA.len]; exact p.2)
  · refine (ps_for hp hc (pi_list hi) hg hbody hs).imp fun D σ H ⟨hr, q⟩ => ⟨hr, fun v H1 e1 r => ?_⟩
    obtain ⟨a, xs, rfl, hq, hA⟩ := rv_lst.mp r
    refine ⟨a, rfl, ⟨xs, SqL.of hq⟩, ?_⟩
    refine for_list (g := tg) (tb := fun D σ H => ∃ (i : Nat) (d : PyData), ds[i]? = some d ∧ tS X.K (ρb i) (.nx (ρs (i + 1))) D σ H) (D := D) (xs := xs) (fun i σ' H' => Ex H1 H' ∧ Rs X.K H' σ' (ρs i)) ⟨Ex.refl _, (hr.ex e1).fg h0⟩ (fun i σ' H' _ p => SqL.of (p.1 _ _ hq)) (fun i y σ' H' hy p => ?_) fun σ' H' p => ?_
    · obtain ⟨d, hd, rd⟩ := hA.get' hy
      exact ht i d hd σ' H' y _ p.2 (Dq.keep (.of p.1) _ _ rd) fun σ2 H2 e2 r2 => ⟨i, d, hd, r2, fun σ3 H3 e3 r3 => ⟨(p.1.trans e2).trans e3, r3⟩⟩
    · exact q σ' H' (e1.trans p.1) (by rw [← hA.len]; exact p.2)
/-- for x in range(e): body -/
theorem ds_forR {n : Nat} {p p2 tp : Pos} (j : Nat) (ρs : Nat → En) (hp : PassesOwn (model X.prog X.w) X.A X.env X.xe) (hc : X.calm = true) (hg : PG X (.Name x tp) (gName j)) (hgr : Gl X "range") (hmr : X.mg "range" = none) (hi : DE X e ρ (.d (.int (n : Int)))) (hz : n ≤ 100000)
    (h0 : Fg ρ (ρs 0)) (hb : ∀ i : Nat, i < n → DSs X body ((ρs i).set j (some (.d (.int (i : Int))))) (.nx (ρs (i + 1)))) (hst : starEach [e] X.env = [(false, eval e X.env)] := by rfl) (hs : ∀ x, foldedSetIterable (.Call (.Name "range" p) [e] [] p2) X.env x = pure x := by intro _; rfl) :
    DS X (.For (.Name x tp) (.Call (.Name "range" p) [e] [] p2) body [] pos) ρ (.nx (ρs n)) := by
  have hbody : PSs X body (fun D σ H => ∃ i : Nat, i < n ∧ tS X.K ((ρs i).set j (some (.d (.int (i : Int))))) (.nx (ρs (i + 1))) D σ H) := ⟨fun pins s σ H D I ⟨i, hd, q⟩ => (hb i hd).run pins s σ H D I q⟩
  refine (ps_for hp hc (pi_range1 hgr hmr (da_cons hi da_nil hst) hst) hg hbody hs).imp fun D σ H ⟨hr, q⟩ => ⟨hr, fun vs H1 e1 r => ?_⟩
  obtain ⟨v, rfl, rv⟩ := rvA1 r
  refine ⟨(n : Int), by rw [rv_int.mp rv], by omega, by omega, ?_⟩
  have en : ((n : Int)).toNat = n := by simp
  rw [en]
  refine for_range (lo := 0) (g := gName j) (tb := fun D σ H => ∃ i : Nat, i < n ∧ tS X.K ((ρs i).set j (some (.d (.int (i : Int))))) (.nx (ρs (i + 1))) D σ H) (D := D) (fun i σ' H' => Ex H1 H' ∧ Rs X.K H' σ' (ρs i)) ⟨Ex.refl _, (hr.ex e1).fg h0⟩ (fun i σ' H' hlt p => ?_) fun σ' H' p => q σ' H' (e1.trans p.1) p.2
  refine ⟨i, hlt, p.2.set (show Rv X.K H' (V.int (0 + (i : Int))) (.d (.int (i : Int))) from rv_int.mpr ?_), fun σ2 H2 e2 r2 => ⟨p.1.trans e2, r2⟩⟩
  rw [Int.zero_add]
/-- a, b = e1, e2 (plain locals) -/
theorem ds_par {x y : Str} {a b : Expr} {d1 d2 : Dv} {px py pt : Pos} {kt k2 pt2} (i j : Nat) (hc : X.calm = true) (hN : X.N.Nodup) (hi : X.N[i]? = some x) (hj : X.N[j]? = some y) (hij : i ≠ j) (hx : X.env.scope.names.lookup x = some .local) (hy : X.env.scope.names.lookup y = some .local)
    (h1 : DE X a ρ d1) (h2 : DE X b ρ d2) (hw : swappedStores [.Tuple [.Name x px, .Name y py] kt pt] (.Tuple [a, b] k2 pt2) X.env = pure (some [x, y]))
    (hst : starEach [a, b] X.env = (false, eval a X.env) :: starEach [b] X.env := by rfl) (hst2 : starEach [b] X.env = (false, eval b X.env) :: starEach [] X.env := by rfl)
    (hs : swapsWithSole [.Tuple [.Name x px, .Name y py] kt pt] (.Tuple [a, b] k2 pt2) pos.line X.env = pure false := by rfl) :
    DS X (.Assign [.Tuple [.Name x px, .Name y py] kt pt] (.Tuple [a, b] k2 pt2) pos) ρ (.nx ((ρ.set i (some d1)).set j (some d2))) :=
  (ps_par hc hN hi hj hij hx hy (da_cons h1 (da_cons h2 da_nil hst2) hst) hw hs).imp fun D σ H ⟨hr, q⟩ => ⟨hr, fun vs H1 e1 r => by
    obtain ⟨v, w, rfl, rv, rw'⟩ := rvA2 r
    exact ⟨v, w, rfl, q _ H1 e1 (((hr.ex e1).set rv).set rw')⟩⟩
end

/-! ### a def -/
def enE (N : List Str) (ds : List Dv) : En := ds.map some ++ List.replicate (N.length - ds.length) none
theorem rs_start {K : PySem.W.Frag} {H : Hp} {N : List Str} {vs : List V} {ds : List Dv} (r : RvA K H vs ds) : Rs K H (L2.start N vs) (enE N ds) := by
  unfold L2.start enE
  refine ⟨by rw [List.length_append, List.length_append, List.length_map, List.length_map, List.length_replicate, List.length_replicate, r.len], fun i d e => ?_⟩
  by_cases hi : i < ds.length
  · rw [List.getElem?_append_left (by rw [List.length_map]; exact hi), List.getElem?_map] at e
    rw [List.getElem?_append_left (by rw [List.length_map, r.len]; exact hi), List.getElem?_map]
    cases q : ds[i]? with
    | none => rw [q] at e; cases e
    | some d' =>
      rw [q] at e
      cases e
      obtain ⟨v, hv, rv⟩ := r.get q
      exact ⟨v, by rw [hv]; rfl, rv⟩
  · rw [List.getElem?_append_right (by rw [List.length_map]; omega), List.getElem?_replicate] at e
    split at e <;> cases e
/-- the context in which a pure def's body runs -/
structure PCx (P : Program) (w : World) (K : PySem.W.Frag) (mg : Str → Option Value) (base : Heap) (N : List Str) (sc : Scope) (k : Nat) (X : Cx) : Prop where
  prog : X.prog = P
  w_ : X.w = w
  K_ : X.K = K
  mg_ : X.mg = mg
  base_ : X.base = base
  N_ : X.N = N
  sc_ : X.env.scope = sc
  room : Room k X.A
abbrev bodyX (P : Program) (w : World) (K : PySem.W.Frag) (mg : Str → Option Value) (base : Heap) (N : List Str) (qual : Str) (sc : Scope) (f : Addr) (cdv : Value) (A : Around) (outer : List Env) (s : Shared) (H : Hp) (E : XK) : Cx := (cxOf CX0 P w K mg base N qual sc f cdv A outer s H E).nox
theorem pf_mk {P : Program} {w : World} {K : PySem.W.Frag} {mg : Str → Option Value} {base : Heap} {x qual : Str} {st : Stmt} {f : Addr} {fd : FuncData} {N ps : List Str} {k : Nat} {F : List Dv → Dv → Prop} (Fn : Fun K x qual st f fd) (S : FnScope N ps (defScope st)) (hm : mg x = some (.ref f)) (hb : L2.Binds K fd ps [])
    (len : ∀ ds d, F ds d → ds.length = ps.length)
    (body : ∀ (ds : List Dv) (d : Dv), F ds d → ∀ (cdv : Value) (A : Around) (outer : List Env) (s : Shared) (H : Hp) (E : XK), Room k (A.deeper (envOfC qual (defScope st) s.heap.objs.size f cdv)) →
      DSs (bodyX P w K mg base N qual (defScope st) f cdv A outer s H E) (defBody st) (enE N ds) (.rt d)) : Pf P w K mg base x (k + 1) F := by
  refine ⟨f, fd, ps, hm, Fn.ok S (fun vs H Q E ⟨ds, d, r, hF, _⟩ => by rw [r.len]; exact len ds d hF) (fun cdv A outer s H vs Q E hr ⟨ds, d, r, hF, q⟩ => ?_), Fn.kp, hb⟩
  exact ⟨_, body ds d hF cdv A outer s H E hr, rs_start r, fun v H' e1 r1 => q v H' e1 r1⟩
end DSW
set_option Elab.async false
set_option linter.all false
set_option maxRecDepth 100000
set_option maxHeartbeats 2000000
/-! The data that this program handles; where its text lies. -/
namespace DSW
open PySem PySem.Spec PyProof.Rows L2 Evl

/-! ### rules as data -/
def itD (l : List Int) : List PyData := l.map PyData.int
def hdD : Option Int → PyData
  | none => .none
  | some i => .int i
def rlD (r : Rl) : PyData := .tuple [hdD r.1, .tuple (itD r.2.1), .tuple (itD r.2.2)]
def rsD (rs : List Rl) : List PyData := rs.map rlD
theorem eqvAll_int : ∀ (l m : List Int), PyData.eqvAll (itD l) (itD m) = decide (l = m)
  | [], [] => rfl
  | [], y :: m => rfl
  | x :: l, [] => rfl
  | x :: l, y :: m => by
    show (x == y && PyData.eqvAll (itD l) (itD m)) = _
    rw [eqvAll_int l m, Bool.eq_iff_iff]
    simp
theorem eqv_hd (a b : Option Int) : PyData.eqv (hdD a) (hdD b) = decide (a = b) := by
  cases a with
  | none => cases b <;> rfl
  | some i =>
    cases b with
    | none => rfl
    | some j =>
      show (i == j) = _
      rw [Bool.eq_iff_iff]
      simp
theorem eqv_tup (l m : List Int) : PyData.eqv (.tuple (itD l)) (.tuple (itD m)) = decide (l = m) := by
  unfold PyData.eqv
  exact eqvAll_int l m
theorem eqv_int (i j : Int) : PyData.eqv (.int i) (.int j) = decide (i = j) := by
  show (i == j) = _
  rw [Bool.eq_iff_iff]
  simp
theorem eqv_rl (r s : Rl) : PyData.eqv (rlD r) (rlD s) = decide (r = s) := by
  obtain ⟨a, b, c⟩ := r
  obtain ⟨a', b', c'⟩ := s
  show (PyData.eqv (hdD a) (hdD a') && (PyData.eqv (.tuple (itD b)) (.tuple (itD b')) && (PyData.eqv (.tuple (itD c)) (.tuple (itD c')) && true))) = _
  rw [eqv_hd, eqv_tup, eqv_tup, Bool.eq_iff_iff]
  simp
theorem eqvAll_rs : ∀ (l m : List Rl), PyData.eqvAll (rsD l) (rsD m) = decide (l = m)
  | [], [] => rfl
  | [], y :: m => rfl
  | x :: l, [] => rfl
  | x :: l, y :: m => by
    show (PyData.eqv (rlD x) (rlD y) && PyData.eqvAll (rsD l) (rsD m)) = _
    rw [eqvAll_rs l m, eqv_rl, Bool.eq_iff_iff]
    simp
theorem any_rl (rs : List Rl) (r : Rl) : ((rsD rs).any fun z => PyData.eqv z (rlD r)) = rs.contains r := by
  unfold rsD
  rw [List.any_map, Bool.eq_iff_iff, List.any_eq_true, List.contains_iff_mem]
  constructor
  · rintro ⟨x, hx, e⟩
    have e' : PyData.eqv (rlD x) (rlD r) = true := e
    rw [eqv_rl] at e'
    rw [← of_decide_eq_true e']
    exact hx
  · intro h
    exact ⟨r, h, by show PyData.eqv (rlD r) (rlD r) = true; rw [eqv_rl]; exact decide_eq_true rfl⟩
theorem any_int (l : List Int) (i : Int) : ((itD l).any fun z => PyData.eqv z (.int i)) = l.contains i := by
  unfold itD
  rw [List.any_map, Bool.eq_iff_iff, List.any_eq_true, List.contains_iff_mem]
  constructor
  · rintro ⟨x, hx, e⟩
    have e' : PyData.eqv (.int x) (.int i) = true := e
    rw [eqv_int] at e'
    rw [← of_decide_eq_true e']
    exact hx
  · intro h
    exact ⟨i, h, by show PyData.eqv (.int i) (.int i) = true; rw [eqv_int]; exact decide_eq_true rfl⟩
theorem any_hd (l : List Int) (a : Option Int) : ((itD l).any fun z => PyData.eqv z (hdD a)) = hdIn a l := by
  cases a with
  | some i => exact any_int l i
  | none =>
    show _ = false
    rw [Bool.eq_false_iff]
    intro h
    obtain ⟨x, hx, e⟩ := List.any_eq_true.mp h
    obtain ⟨i, _, e2⟩ := List.mem_map.mp hx
    rw [← e2] at e
    cases e
theorem isN_hd (a : Option Int) : isNoneD (hdD a) = a.isNone := by cases a <;> rfl

/-! ### shaped -/
theorem lay_ints : ∀ l : List Int, PyData.canLayAll0 (itD l) = true
  | [] => rfl
  | x :: l => by
    show (true && PyData.canLayAll0 (itD l)) = true
    rw [lay_ints l]
    rfl
theorem dep_ints : ∀ l : List Int, PyData.depthAll (itD l) = 0
  | [] => rfl
  | x :: l => by
    show max 0 (PyData.depthAll (itD l)) = 0
    rw [dep_ints l]
    rfl
theorem dep_it (l : List Int) : PyData.depth (.tuple (itD l)) = 1 := by
  unfold PyData.depth
  rw [dep_ints]
theorem lay_it (l : List Int) : PyData.canLay0 (.tuple (itD l)) = true := by
  unfold PyData.canLay0
  exact lay_ints l
theorem sh_int (i : Int) : SeqAt.shaped (.int i) = true := rfl
theorem sh_hd (a : Option Int) : SeqAt.shaped (hdD a) = true := by cases a <;> rfl
theorem sh_of {d : PyData} (h : d.canLay0 = true) (h2 : d.depth ≤ 64) : SeqAt.shaped d = true := by
  unfold SeqAt.shaped
  rw [h, decide_eq_true h2]
  rfl
theorem sh_it (l : List Int) : SeqAt.shaped (.tuple (itD l)) = true := sh_of (lay_it l) (by rw [dep_it]; decide)
theorem lay_hd (a : Option Int) : (hdD a).canLay0 = true := by cases a <;> rfl
theorem dep_hd (a : Option Int) : (hdD a).depth = 0 := by cases a <;> rfl
theorem lay_rl (r : Rl) : (rlD r).canLay0 = true := by
  show (PyData.canLay0 (hdD r.1) && (PyData.canLay0 (.tuple (itD r.2.1)) && (PyData.canLay0 (.tuple (itD r.2.2)) && true))) = true
  rw [lay_hd, lay_it, lay_it]
  rfl
theorem dep_rl (r : Rl) : (rlD r).depth = 2 := by
  show max (PyData.depth (hdD r.1)) (max (PyData.depth (.tuple (itD r.2.1))) (max (PyData.depth (.tuple (itD r.2.2))) 0)) + 1 = 2
  rw [dep_hd, dep_it, dep_it]
  rfl
theorem sh_rl (r : Rl) : SeqAt.shaped (rlD r) = true := sh_of (lay_rl r) (by rw [dep_rl]; decide)
theorem lay_rs : ∀ rs : List Rl, PyData.canLayAll0 (rsD rs) = true
  | [] => rfl
  | x :: l => by
    show (PyData.canLay0 (rlD x) && PyData.canLayAll0 (rsD l)) = true
    rw [lay_rl, lay_rs l]
    rfl
theorem dep_rs : ∀ rs : List Rl, PyData.depthAll (rsD rs) ≤ 2
  | [] => by decide
  | x :: l => by
    show max (PyData.depth (rlD x)) (PyData.depthAll (rsD l)) ≤ 2
    rw [dep_rl]
    have := dep_rs l
    omega
theorem sh_rs (rs : List Rl) : SeqAt.shaped (.tuple (rsD rs)) = true := by
  refine sh_of ?_ ?_
  · unfold PyData.canLay0
    exact lay_rs rs
  · unfold PyData.depth
    have := dep_rs rs
    omega
/-! ### no lists within -/
theorem noL_ints (l : List Int) : noLA (itD l) = true := noLA_iff.mpr fun d hd => by
  obtain ⟨i, _, e⟩ := List.mem_map.mp hd
  rw [← e]
  rfl
theorem noL_it (l : List Int) : noL (.tuple (itD l)) = true := by
  unfold noL
  exact noL_ints l
theorem noL_hd (a : Option Int) : noL (hdD a) = true := by cases a <;> rfl
theorem noL_rl (r : Rl) : noL (rlD r) = true := by
  show (noL (hdD r.1) && (noL (.tuple (itD r.2.1)) && (noL (.tuple (itD r.2.2)) && true))) = true
  rw [noL_hd, noL_it, noL_it]
  rfl
theorem noL_rs (rs : List Rl) : noLA (rsD rs) = true := noLA_iff.mpr fun d hd => by
  obtain ⟨i, _, e⟩ := List.mem_map.mp hd
  rw [← e]
  exact noL_rl i

/-! ### valid -/
def Vs (n : Int) (l : List Int) : Prop := Asc l ∧ Bd n l
def Vr (n : Int) (r : Rl) : Prop := (∀ a, r.1 = some a → 0 ≤ a ∧ a < n) ∧ Vs n r.2.1 ∧ Vs n r.2.2
def Vb (n : Int) (rs : List Rl) : Prop := rs.Nodup ∧ ∀ r ∈ rs, Vr n r

/-! ### the text -/
def topS (i : Nat) : Stmt := PySem.Challenge.pw_defaultswaps_k64_whole_desks_by_a_model.main.body.getD i (.Pass ⟨0, 0, 0, 0⟩)
/-- a def of the module -/
structure Df (K : PySem.W.Frag) (mg : Str → Option Value) (x : Str) (st : Stmt) (f : Addr) (fd : FuncData) : Prop where
  fn : Fun K x x st f fd
  mg : mg x = some (.ref f)
/-- built-in names are not the module's -/
structure Gm (mg : Str → Option Value) : Prop where
  isi : mg "isinstance" = none
  int : mg "int" = none
  bool : mg "bool" = none
  str : mg "str" = none
  tup : mg "tuple" = none
  all : mg "all" = none
  len : mg "len" = none
  set : mg "set" = none
  srt : mg "sorted" = none
  rng : mg "range" = none
  zip : mg "zip" = none
  mA : ∃ t, mg "MOST_ATOMS" = some (.int 4 t)
  mR : ∃ t, mg "MOST_RULES" = some (.int 100 t)
theorem hu65 {A : Around} {k : Nat} (hr : Room k A) : A.units + 65 < cLine := by have := hr.un; omega
theorem hu64 {A : Around} {k : Nat} (hr : Room k A) : A.units + 64 < cLine := by have := hr.un; omega
end DSW
set_option Elab.async false
set_option linter.all false
set_option maxRecDepth 100000
set_option maxHeartbeats 2000000
/-! The program's small pure defs. -/
namespace DSW
open PySem PySem.Spec PyProof.Rows L2 Evl
theorem filt_true {α : Type} (l : List α) : l.filter (fun _ => true) = l := List.filter_eq_self.mpr fun _ _ => rfl
theorem dt_w {X : Cx} {e : Expr} {ρ : En} {k : Bool} (h : DW X e ρ k) : DT X e ρ k := h.pt
theorem kt_int_int : kitB "int" "int" = some true := by decide +kernel
theorem kt_int_bool : kitB "int" "bool" = some false := by decide +kernel
theorem kt_bool_int : kitB "bool" "int" = some true := by decide +kernel
theorem kt_bool_bool : kitB "bool" "bool" = some true := by decide +kernel
theorem kt_tup_tup : kitB "tuple" "tuple" = some true := by decide +kernel
section
variable {X : Cx} {a : Expr} {ρ : En} {pos : Pos}
/-- all([q(x) for x in ds]) -/
theorem de_allM {ds : List PyData} {q : PyData → Bool} {p : Pos} (hc : X.calm = true) (hg : Gl X "all") (hm : X.mg "all" = none) (ha : DE X a ρ (.d (.list ((ds.filter fun _ => true).map fun d => PyData.bool (q d))))) (hs : starEach [a] X.env = (false, eval a X.env) :: starEach [] X.env := by rfl) :
    DE X (.Call (.Name "all" p) [a] [] pos) ρ (.d (.bool (ds.all q))) := by
  have e : (ds.filter fun _ => true).map (fun d => PyData.bool (q d)) = (ds.map q).map PyData.bool := by
    rw [filt_true, List.map_map]
    rfl
  rw [e] at ha
  refine de_is (de_all hc hg hm ha hs) ?_
  rw [List.all_map]
  rfl
end
section
variable {P : Program} {w : World} {K : PySem.W.Frag} {mg : Str → Option Value} {base : Heap} {f : Addr} {fd : FuncData}
abbrev FIsInt (ds : List Dv) (d : Dv) : Prop := ∃ i : Int, ds = [.d (.int i)] ∧ d = .d (.bool true)
theorem pf_is_integer (D : Df K mg "is_integer" (topS 16) f fd) (G : Gm mg) : Pf P w K mg base "is_integer" 1 FIsInt := by
  refine pf_mk (N := ["thing"]) (ps := ["thing"]) D.fn ⟨rfl, rfl, rfl, by decide +kernel, rfl, by decide +kernel, by decide +kernel⟩ D.mg (D.fn.binds fun _ _ _ _ _ _ us hl => match us, hl with | [_], _ => rfl) (by rintro _ _ ⟨i, rfl, rfl⟩; rfl) ?_
  rintro _ _ ⟨i, rfl, rfl⟩ cdv A outer s H E hr
  exact dss_ret (de_and (k := true) (l := true) (de_isi (x := .int i) (k := true) rfl G.isi (de_var 0) rfl G.int boot_int' kt_int_int) fun _ => de_one (de_not (k := false) (de_isi (x := .int i) (k := false) rfl G.isi (de_var 0) rfl G.bool boot_bool' kt_int_bool)))
abbrev FIsAtoms (ds : List Dv) (d : Dv) : Prop := ∃ n : Int, 1 ≤ n ∧ n ≤ 4 ∧ ds = [.d (.int n)] ∧ d = .d (.bool true)
theorem pf_is_atoms (D : Df K mg "is_atoms" (topS 17) f fd) (G : Gm mg) (F1 : Pf P w K mg base "is_integer" 1 FIsInt) : Pf P w K mg base "is_atoms" 2 FIsAtoms := by
  refine pf_mk (N := ["thing"]) (ps := ["thing"]) D.fn ⟨rfl, rfl, rfl, by decide +kernel, rfl, by decide +kernel, by decide +kernel⟩ D.mg (D.fn.binds fun _ _ _ _ _ _ us hl => match us, hl with | [_], _ => rfl) (by rintro _ _ ⟨i, _, _, rfl, rfl⟩; rfl) ?_
  rintro _ _ ⟨n, h1, h2, rfl, rfl⟩ cdv A outer s H E hr
  obtain ⟨t, hA⟩ := G.mA
  have e : (decide (1 ≤ n) && decide (n ≤ 4)) = true := by rw [decide_eq_true h1, decide_eq_true h2]; rfl
  exact dss_ret (de_and (k := true) (l := true) (de_call F1 hr rfl (da_cons (de_var 0) da_nil) ⟨n, rfl, rfl⟩) fun _ => de_one (de_is (de_chain (p := fun i j => decide (i ≤ j)) (p' := fun i j => decide (i ≤ j)) op_le op_le de_int (de_var 0) (de_globI rfl hA)) (by rw [e])))
abbrev FIsAtom (ds : List Dv) (d : Dv) : Prop := ∃ n i : Int, 0 ≤ i ∧ i < n ∧ ds = [.d (.int n), .d (.int i)] ∧ d = .d (.bool true)
theorem pf_is_atom (D : Df K mg "is_atom" (topS 18) f fd) (G : Gm mg) (F1 : Pf P w K mg base "is_integer" 1 FIsInt) : Pf P w K mg base "is_atom" 2 FIsAtom := by
  refine pf_mk (N := ["atoms", "thing"]) (ps := ["atoms", "thing"]) D.fn ⟨rfl, rfl, rfl, by decide +kernel, rfl, by decide +kernel, by decide +kernel⟩ D.mg (D.fn.binds fun _ _ _ _ _ _ us hl => match us, hl with | [_, _], _ => rfl) (by rintro _ _ ⟨n, i, _, _, rfl, rfl⟩; rfl) ?_
  rintro _ _ ⟨n, i, h1, h2, rfl, rfl⟩ cdv A outer s H E hr
  have e : (decide (0 ≤ i) && decide (i < n)) = true := by rw [decide_eq_true h1, decide_eq_true h2]; rfl
  exact dss_ret (de_and (k := true) (l := true) (de_call F1 hr rfl (da_cons (de_var 1) da_nil) ⟨i, rfl, rfl⟩) fun _ => de_one (de_is (de_chain (p := fun i j => decide (i ≤ j)) (p' := fun i j => decide (i < j)) op_le op_lt de_int (de_var 1) (de_var 0)) (by rw [e])))
abbrev FIsSet (ds : List Dv) (d : Dv) : Prop := ∃ (n : Int) (l : List Int), Vs n l ∧ l.length ≤ 1000 ∧ ds = [.d (.int n), .d (.tuple (itD l))] ∧ d = .d (.bool true)
theorem asc_pairs : ∀ {l : List Int}, Asc l → ∀ x ∈ (itD l).zip (itD (l.drop 1)), ∃ i j : Int, x = (.int i, .int j) ∧ i < j
  | [], _, x, hx => by cases hx
  | [a], _, x, hx => by cases hx
  | a :: b :: l, h, x, hx => by
    obtain ⟨h1, h2⟩ := List.pairwise_cons.mp h
    rcases List.mem_cons.mp (show x ∈ (PyData.int a, PyData.int b) :: (itD (b :: l)).zip (itD ((b :: l).drop 1)) from hx) with e | hx
    · exact ⟨a, b, e, h1 b List.mem_cons_self⟩
    · exact asc_pairs h2 x hx
abbrev nSet : List Str := ["atoms", "thing", "one", "other"]
theorem cut1 (l : List PyData) : cutD l (some 1) none = l.drop 1 := by
  unfold cutD
  have e1 : HT.sIx l.length 0 (some 1) = min 1 l.length := by
    unfold HT.sIx
    simp
    try omega
  have e2 : HT.sIx l.length l.length none = l.length := rfl
  rw [e1, e2]
  by_cases h : l.length = 0
  · rw [List.eq_nil_of_length_eq_zero h]; rfl
  · rw [Nat.min_eq_left (by omega), List.take_of_length_le (by rw [List.length_drop]; exact Nat.le_refl _)]
theorem pf_is_set (D : Df K mg "is_set" (topS 19) f fd) (G : Gm mg) (F1 : Pf P w K mg base "is_atom" 2 FIsAtom) : Pf P w K mg base "is_set" 3 FIsSet := by
  refine pf_mk (N := nSet) (ps := ["atoms", "thing"]) D.fn ⟨rfl, rfl, rfl, by decide +kernel, rfl, by decide +kernel, by decide +kernel⟩ D.mg (D.fn.binds fun _ _ _ _ _ _ us hl => match us, hl with | [_, _], _ => rfl) (by rintro _ _ ⟨n, l, _, _, rfl, rfl⟩; rfl) ?_
  rintro _ _ ⟨n, l, hv, hl, rfl, rfl⟩ cdv A outer s H E hr
  have nd : nSet.Nodup := by decide +kernel
  have hz : (itD l).length ≤ 100000 := by unfold itD; rw [List.length_map]; omega
  have q1 : (itD l).all (fun _ => true) = true := by simp
  have ed : (itD l).drop 1 = itD (l.drop 1) := by unfold itD; rw [List.map_drop]
  refine dss_if (k := false) ?c (fun z => by cases z) fun _ => dss_ret ?r
  case c =>
    refine dt_w (dw_or (k := false) (l := false) (dt_not (k := true) (dt_val (de_isi (x := .tuple (itD l)) (k := true) rfl G.isi (de_var 1) rfl G.tup boot_tuple' kt_tup_tup))) fun _ => dw_or1 (dt_not (k := true) (dt_val (de_is (de_allM (ds := itD l) (q := fun _ => true) rfl rfl G.all ?_) (by rw [q1])))))
    refine de_lc (j := 2) (f := fun _ => true) (g := fun _ => .bool true) rfl nd rfl (.inl (de_var 1)) (blkOk_by (N := nSet) (sc := defScope (topS 19)) (by decide +kernel)) (fun s H C cl fp => ⟨.inl rfl, .inr rfl⟩) blkT_nil (fun d hd _ s H C cl fp => ?_) (fun _ _ _ => rfl) hz
    obtain ⟨i, hi, rfl⟩ := List.mem_map.mp hd
    exact de_call F1 hr rfl (da_cons (de_var 0) (da_cons (de_var 2) da_nil)) ⟨n, i, (hv.2 i hi).1, (hv.2 i hi).2, rfl, rfl⟩
  case r =>
    have e : (((itD l).zip (itD (l.drop 1))).filter fun _ => true).map (fun _ => PyData.bool true) = ((itD l).zip (itD (l.drop 1))).map fun _ => PyData.bool true := by rw [filt_true]
    have e2 : ((itD l).zip (itD (l.drop 1))).map (fun _ => PyData.bool true) = (((itD l).zip (itD (l.drop 1))).map fun _ => true).map PyData.bool := by rw [List.map_map]; rfl
    have e3 : (((itD l).zip (itD (l.drop 1))).map fun _ => true).all id = true := by simp
    refine de_is (de_all (bs := ((itD l).zip (itD (l.drop 1))).map fun _ => true) rfl rfl G.all ?_) (by rw [e3])
    rw [← e2, ← e]
    refine de_lcZ (i := 2) (j := 3) (f := fun _ => true) (g := fun _ => .bool true) rfl nd rfl rfl rfl G.zip (de_var 1) (de_is (de_slT (de_var 1) (do_some de_int) do_none) (by rw [cut1, ed])) (blkOk_by (N := nSet) (sc := defScope (topS 19)) (by decide +kernel)) (fun s H C cl fp => ⟨.inl rfl, .inr rfl⟩) (fun s H C cl fp => ⟨.inl rfl, .inr rfl⟩) blkT_nil (fun d hd _ s H C cl fp => ?_) (fun _ _ _ => rfl) hz
    obtain ⟨i, j, rfl, lt⟩ := asc_pairs hv.1 d hd
    exact de_is (de_lt (de_var 2) (de_var 3)) (by rw [decide_eq_true lt])
end
end DSW
set_option Elab.async false
set_option linter.all false
set_option maxRecDepth 100000
set_option maxHeartbeats 2000000
/-! More of the program's pure defs. -/
namespace DSW
open PySem PySem.Spec PyProof.Rows L2 Evl
theorem vs_len {n : Int} {l : List Int} (h : Vs n l) (h4 : n ≤ 4) : l.length ≤ 4 := by
  refine len_bd 4 l (asc_nodup h.1) fun x hx => ?_
  have := h.2 x hx
  exact ⟨this.1, by have := this.2; omega⟩
theorem all_it (l : List Int) (q : PyData → Bool) : (itD l).all q = l.all fun i => q (.int i) := by
  unfold itD
  rw [List.all_map]
  rfl
section
variable {P : Program} {w : World} {K : PySem.W.Frag} {mg : Str → Option Value} {base : Heap} {f : Addr} {fd : FuncData}
abbrev FParts (ds : List Dv) (d : Dv) : Prop := ∃ (n : Int) (r : Rl), n ≤ 4 ∧ Vr n r ∧ ds = [.d (.int n), .d (rlD r)] ∧ d = .d (.bool true)
theorem pf_are_rule_parts (D : Df K mg "are_rule_parts" (topS 20) f fd) (G : Gm mg) (F1 : Pf P w K mg base "is_atom" 2 FIsAtom) (F2 : Pf P w K mg base "is_set" 3 FIsSet) : Pf P w K mg base "are_rule_parts" 4 FParts := by
  refine pf_mk (N := ["atoms", "thing"]) (ps := ["atoms", "thing"]) D.fn ⟨rfl, rfl, rfl, by decide +kernel, rfl, by decide +kernel, by decide +kernel⟩ D.mg (D.fn.binds fun _ _ _ _ _ _ us hl => match us, hl with | [_, _], _ => rfl) (by rintro _ _ ⟨n, r, _, _, rfl, rfl⟩; rfl) ?_
  rintro _ _ ⟨n, r, h4, hv, rfl, rfl⟩ cdv A outer s H E hr
  refine dss_if (k := false) ?c (fun z => by cases z) fun _ => dss_if (k := false) ?c2 (fun z => by cases z) fun _ => dss_ret ?r
  case c =>
    exact dt_w (dw_or (k := false) (l := false) (dt_not (k := true) (dt_val (de_isi (x := rlD r) (k := true) rfl G.isi (de_var 1) rfl G.tup boot_tuple' kt_tup_tup))) fun _ => dw_or1 (dt_is (dt_ne (x := .int 3) (y := .int 3) (hu64 hr) (de_lenT (ds := [hdD r.1, .tuple (itD r.2.1), .tuple (itD r.2.2)]) rfl G.len (de_var 1)) de_int rfl rfl) rfl))
  case c2 =>
    refine dt_w (dw_and (k := !isNoneD (hdD r.1)) (l := false) (dt_notN (de_ixT (x := hdD r.1) (de_var 1) de_int rfl)) ?_) |> fun h => dt_is h (by rw [Bool.and_false])
    intro hn
    obtain ⟨a, ha⟩ : ∃ a, r.1 = some a := by
      cases q : r.1 with
      | none => rw [q] at hn; cases hn
      | some a => exact ⟨a, rfl⟩
    exact dw_and1 (dt_not (k := true) (dt_val (de_call (F1.mono (by decide)) hr rfl (da_cons (de_var 0) (da_cons (de_ixT (x := .int a) (de_var 1) de_int (by rw [ha]; rfl)) da_nil)) ⟨n, a, (hv.1 a ha).1, (hv.1 a ha).2, rfl, rfl⟩)))
  case r =>
    exact de_and (k := true) (l := true) (de_call F2 hr rfl (da_cons (de_var 0) (da_cons (de_ixT (x := .tuple (itD r.2.1)) (de_var 1) de_int rfl) da_nil)) ⟨n, r.2.1, hv.2.1, Nat.le_trans (vs_len hv.2.1 h4) (by decide), rfl, rfl⟩) fun _ =>
      de_one (de_call F2 hr rfl (da_cons (de_var 0) (da_cons (de_ixT (x := .tuple (itD r.2.2)) (de_var 1) de_int rfl) da_nil)) ⟨n, r.2.2, hv.2.2, Nat.le_trans (vs_len hv.2.2 h4) (by decide), rfl, rfl⟩)
abbrev FWithin (ds : List Dv) (d : Dv) : Prop := ∃ xs ys : List Int, xs.length ≤ 1000 ∧ ds = [.d (.tuple (itD xs)), .d (.tuple (itD ys))] ∧ d = .d (.bool (within xs ys))
abbrev nWithin : List Str := ["some", "others", "one"]
theorem pf_is_within (D : Df K mg "is_within" (topS 23) f fd) (G : Gm mg) : Pf P w K mg base "is_within" 1 FWithin := by
  refine pf_mk (N := nWithin) (ps := ["some", "others"]) D.fn ⟨rfl, rfl, rfl, by decide +kernel, rfl, by decide +kernel, by decide +kernel⟩ D.mg (D.fn.binds fun _ _ _ _ _ _ us hl => match us, hl with | [_, _], _ => rfl) (by rintro _ _ ⟨n, r, _, rfl, rfl⟩; rfl) ?_
  rintro _ _ ⟨xs, ys, hl, rfl, rfl⟩ cdv A outer s H E hr
  have nd : nWithin.Nodup := by decide +kernel
  refine dss_ret (de_is (de_allM (ds := itD xs) (q := fun d => (itD ys).any fun z => PyData.eqv z d) rfl rfl G.all ?_) ?_)
  · refine de_lc (j := 2) rfl nd rfl (.inl (de_var 0)) (blkOk_by (N := nWithin) (sc := defScope (topS 23)) (by decide +kernel)) (fun s H C cl fp => ⟨.inl rfl, .inr rfl⟩) blkT_nil (fun d hd _ s H C cl fp => ?_) (fun _ _ _ => rfl) (by unfold itD; rw [List.length_map]; omega)
    obtain ⟨i, hi, rfl⟩ := List.mem_map.mp hd
    exact de_in (hu65 hr) (de_var 2) (.inl (de_var 1)) rfl (sh_it ys)
  · rw [all_it]
    have e : (fun i => (itD ys).any fun z => PyData.eqv z (.int i)) = fun i => ys.contains i := funext fun i => any_int ys i
    rw [e]
    rfl
abbrev FRemains (ds : List Dv) (d : Dv) : Prop := ∃ (r : Rl) (c : List Int), r.2.2.length ≤ 1000 ∧ ds = [.d (rlD r), .d (.tuple (itD c))] ∧ d = .d (.bool (remB c r))
abbrev nRemains : List Str := ["rule", "chosen", "atom"]
theorem pf_remains (D : Df K mg "remains" (topS 25) f fd) (G : Gm mg) : Pf P w K mg base "remains" 1 FRemains := by
  refine pf_mk (N := nRemains) (ps := ["rule", "chosen"]) D.fn ⟨rfl, rfl, rfl, by decide +kernel, rfl, by decide +kernel, by decide +kernel⟩ D.mg (D.fn.binds fun _ _ _ _ _ _ us hl => match us, hl with | [_, _], _ => rfl) (by rintro _ _ ⟨n, r, _, rfl, rfl⟩; rfl) ?_
  rintro _ _ ⟨r, c, hl, rfl, rfl⟩ cdv A outer s H E hr
  have nd : nRemains.Nodup := by decide +kernel
  refine dss_ret (de_is (de_allM (ds := itD r.2.2) (q := fun d => !(itD c).any fun z => PyData.eqv z d) rfl rfl G.all ?_) ?_)
  · refine de_lc (j := 2) rfl nd rfl (.inl (de_ixT (de_var 0) de_int rfl)) (blkOk_by (N := nRemains) (sc := defScope (topS 25)) (by decide +kernel)) (fun s H C cl fp => ⟨.inl rfl, .inr rfl⟩) blkT_nil (fun d hd _ s H C cl fp => ?_) (fun _ _ _ => rfl) (by unfold itD; rw [List.length_map]; omega)
    obtain ⟨i, hi, rfl⟩ := List.mem_map.mp hd
    exact de_nin (hu65 hr) (de_var 2) (.inl (de_var 1)) rfl (sh_it c)
  · rw [all_it]
    have e : (fun i => !(itD c).any fun z => PyData.eqv z (.int i)) = fun i => !c.contains i := funext fun i => by rw [any_int]
    rw [e]
    rfl
abbrev FObeys (ds : List Dv) (d : Dv) : Prop := ∃ (c : List Int) (r : Rl), r.2.1.length ≤ 1000 ∧ ds = [.d (.tuple (itD c)), .d (rlD r)] ∧ d = .d (.bool (obB c r))
theorem pf_obeys (D : Df K mg "obeys" (topS 26) f fd) (G : Gm mg) (F1 : Pf P w K mg base "is_within" 1 FWithin) : Pf P w K mg base "obeys" 2 FObeys := by
  refine pf_mk (N := ["chosen", "rule"]) (ps := ["chosen", "rule"]) D.fn ⟨rfl, rfl, rfl, by decide +kernel, rfl, by decide +kernel, by decide +kernel⟩ D.mg (D.fn.binds fun _ _ _ _ _ _ us hl => match us, hl with | [_, _], _ => rfl) (by rintro _ _ ⟨n, r, _, rfl, rfl⟩; rfl) ?_
  rintro _ _ ⟨c, r, hl, rfl, rfl⟩ cdv A outer s H E hr
  exact dss_ret (de_or (k := hdIn r.1 c) (l := !within r.2.1 c) (de_is (de_in (hu65 hr) (de_ixT (x := hdD r.1) (de_var 1) de_int rfl) (.inl (de_var 0)) (sh_hd _) (sh_it c)) (by rw [any_hd])) fun _ =>
    de_one (de_not (de_call F1 hr rfl (da_cons (de_ixT (x := .tuple (itD r.2.1)) (de_var 1) de_int rfl) (da_cons (de_var 0) da_nil)) ⟨r.2.1, c, hl, rfl, rfl⟩)))
abbrev FViolates (ds : List Dv) (d : Dv) : Prop := ∃ (c : List Int) (r : Rl), r.2.1.length ≤ 1000 ∧ r.2.2.length ≤ 1000 ∧ ds = [.d (.tuple (itD c)), .d (rlD r)] ∧ d = .d (.bool (vioB c r))
theorem pf_violates (D : Df K mg "violates" (topS 27) f fd) (G : Gm mg) (F1 : Pf P w K mg base "remains" 1 FRemains) (F2 : Pf P w K mg base "obeys" 2 FObeys) : Pf P w K mg base "violates" 3 FViolates := by
  refine pf_mk (N := ["chosen", "rule"]) (ps := ["chosen", "rule"]) D.fn ⟨rfl, rfl, rfl, by decide +kernel, rfl, by decide +kernel, by decide +kernel⟩ D.mg (D.fn.binds fun _ _ _ _ _ _ us hl => match us, hl with | [_, _], _ => rfl) (by rintro _ _ ⟨n, r, _, _, rfl, rfl⟩; rfl) ?_
  rintro _ _ ⟨c, r, hl, hl2, rfl, rfl⟩ cdv A outer s H E hr
  exact dss_ret (de_and (k := remB c r) (l := !obB c r) (de_call (F1.mono (by decide)) hr rfl (da_cons (de_var 1) (da_cons (de_var 0) da_nil)) ⟨r, c, hl2, rfl, rfl⟩) fun _ =>
    de_one (de_not (de_call F2 hr rfl (da_cons (de_var 0) (da_cons (de_var 1) da_nil)) ⟨c, r, hl, rfl, rfl⟩)))
/-- rules of few numbers -/
def Sm (rs : List Rl) : Prop := rs.length ≤ 1000 ∧ ∀ r ∈ rs, r.2.1.length ≤ 1000 ∧ r.2.2.length ≤ 1000
/-- over rules as data -/
theorem filt_rs (rs : List Rl) (q : Rl → Bool) (p : PyData → Bool) (h : ∀ r ∈ rs, p (rlD r) = q r) : (rsD rs).filter p = rsD (rs.filter q) := by
  unfold rsD
  induction rs with
  | nil => rfl
  | cons r rs ih =>
    rw [List.map_cons, List.filter_cons, List.filter_cons, h r List.mem_cons_self, ih fun r' hr => h r' (List.mem_cons_of_mem _ hr)]
    cases q r <;> rfl
theorem map_self {α : Type} {f : α → α} (l : List α) (h : ∀ x, f x = x) : l.map f = l := by
  have e : f = id := funext h
  rw [e, List.map_id]
/-- back from data -/
def unI : PyData → Int
  | .int i => i
  | _ => 0
def unIs : PyData → List Int
  | .tuple ds => ds.map unI
  | _ => []
def unH : PyData → Option Int
  | .int i => some i
  | _ => none
def unR : PyData → Rl
  | .tuple [a, b, c] => (unH a, unIs b, unIs c)
  | _ => (none, [], [])
theorem unIs_it (l : List Int) : unIs (.tuple (itD l)) = l := by
  show (itD l).map unI = l
  unfold itD
  rw [List.map_map]
  exact map_self l fun _ => rfl
theorem unR_rl (r : Rl) : unR (rlD r) = r := by
  obtain ⟨a, b, c⟩ := r
  show (unH (hdD a), unIs (.tuple (itD b)), unIs (.tuple (itD c))) = _
  rw [unIs_it, unIs_it]
  cases a <;> rfl
abbrev FViolated (ds : List Dv) (d : Dv) : Prop := ∃ (rs : List Rl) (c : List Int), Sm rs ∧ ds = [.d (.tuple (rsD rs)), .d (.tuple (itD c))] ∧ d = .d (.list (rsD (rs.filter (vioB c))))
abbrev nViolated : List Str := ["rules", "chosen", "rule"]
theorem pf_violated_in (D : Df K mg "violated_in" (topS 30) f fd) (G : Gm mg) (F1 : Pf P w K mg base "violates" 3 FViolates) : Pf P w K mg base "violated_in" 4 FViolated := by
  refine pf_mk (N := nViolated) (ps := ["rules", "chosen"]) D.fn ⟨rfl, rfl, rfl, by decide +kernel, rfl, by decide +kernel, by decide +kernel⟩ D.mg (D.fn.binds fun _ _ _ _ _ _ us hl => match us, hl with | [_, _], _ => rfl) (by rintro _ _ ⟨n, r, _, rfl, rfl⟩; rfl) ?_
  rintro _ _ ⟨rs, c, hs, rfl, rfl⟩ cdv A outer s H E hr
  have nd : nViolated.Nodup := by decide +kernel
  refine dss_ret (de_is (de_lc (ds := rsD rs) (f := fun d => vioB c (unR d)) (g := fun d => d) (j := 2) rfl nd rfl (.inl (de_var 0)) (blkOk_by (N := nViolated) (sc := defScope (topS 30)) (by decide +kernel)) (fun s H C cl fp => ⟨.inl rfl, .inr rfl⟩) (blkT_one fun d hd s H C cl fp => ?_) (fun d hd _ s H C cl fp => de_var 2) (fun d hd _ => ?_) (by unfold rsD; rw [List.length_map]; have := hs.1; omega)) ?_)
  · obtain ⟨r, hr', rfl⟩ := List.mem_map.mp hd
    rw [unR_rl]
    exact dt_val (de_call F1 hr rfl (da_cons (de_var 1) (da_cons (de_var 2) da_nil)) ⟨c, r, (hs.2 r hr').1, (hs.2 r hr').2, rfl, rfl⟩)
  · obtain ⟨r, hr', rfl⟩ := List.mem_map.mp hd
    exact noL_rl r
  · rw [filt_rs rs (vioB c) _ fun r _ => by rw [unR_rl], map_self _ fun _ => rfl]
end
end DSW
set_option Elab.async false
set_option linter.all false
set_option maxRecDepth 100000
set_option maxHeartbeats 2000000
/-! sorted(xs), xs a list of tuples of ints, the first of them empty. -/
namespace DSW
open PySem PySem.Spec PyProof.Rows L2 Evl
section
open PySem.W PySem.SeqAt
variable {prog : Program} {w : World} {A : Around} {E : Value → Shared → Prop} {s : Shared}
theorem call_tuple_lt {Q : Value → Shared → Prop} {l b : Addr} {items items2 : Array Value} {e r : Nat → Bool} (hl : s.heap.IsTuple l items) (hb : s.heap.IsTuple b items2)
    (he : ∀ j (h1 : j < items.size) (h2 : j < items2.size), EqAt A.in1 s items[j] items2[j] (e j)) (hr : ∀ j (h1 : j < items.size) (h2 : j < items2.size), e j = false → RcLt A.in1 s items[j] items2[j] (r j))
    (h : Q (.bool (firstLt e r (decide (items.size < items2.size)) (List.range (min items.size items2.size)))) s) : wpAny (model prog w) A (call (.builtin "tuple.__lt__") [.ref l, .ref b]) Q E s := by
  obtain ⟨⟨cls, dd, data, sl⟩, ho, hc, n, hd⟩ := id hl
  obtain ⟨⟨cls2, dd2, data2, sl2⟩, ho2, hc2, n2, hd2⟩ := id hb
  simp only at hc hd hc2 hd2
  subst hc hd hc2 hd2
  exact call_meets F.slot_tuple_lt ⟨_, ho, rfl⟩ F.entry_tuple_lt (F.args_tuple_lt_2 _ _) (tuple_ltAt l b items items2 n n2 dd dd2 sl sl2 e r) ⟨ho, ho2, he, hr, h⟩
theorem oneLt_tup {xs ys : List PyData} {a b : Value} {as bs : List Addr} {Q : Bool → Shared → Prop} (ra : Reads s.heap a (.tuple xs) as) (rb : Reads s.heap b (.tuple ys) bs) (hal : alikeAll xs ys = true)
    (hu : A.units + min (PyData.depth (.tuple xs)) (PyData.depth (.tuple ys)) < cLine) (hq : Q (dataLt (.tuple xs) (.tuple ys)) s) : wpAny (model prog w) A (oneLt' true a b) Q E s := by
  cases ra with
  | @tuple l o vs n _ as₁ h1 h2 h3 h4 =>
    cases rb with
    | @tuple l' o' vs' n' _ bs₁ k1 k2 k3 k4 =>
      have n1 : vs.size = xs.length := by simpa using ReadsAll.length _ _ _ h4
      have n2 : vs'.size = ys.length := by simpa using ReadsAll.length _ _ _ k4
      rw [dataLt_tuple, ← firstLt_toks xs ys hal, ← n1, ← n2] at hq
      rw [oneLt'_eq]
      simp only [if_true]
      refine wpAny_bind (wpAny_cRoomFor (room_here hu) ?_)
      refine wpAny_bind (wpAny_callSpecialIfBound?_slot (T := "tuple") ⟨_, h1, h2⟩ F.slot_tuple_lt (call_tuple_lt (e := pairEq xs ys) (r := fun j => dataLt (xs.getD j .none) (ys.getD j .none)) ⟨_, h1, h2, _, h3⟩ ⟨_, k1, k2, _, k3⟩ (fun j j1 j2 => ?_) (fun j j1 j2 hj => ?_) ?_))
      · have := eqAt_alikeAll xs ys A.in1 s vs.toList vs'.toList _ _ h4 k4 hal (room_in hu) j (by simpa using j1) (by simpa using j2)
        simpa using this
      · have := rcLt_alikeAll xs ys A.in1 s vs.toList vs'.toList _ _ h4 k4 hal (room_in hu) j (by simpa using j1) (by simpa using j2) hj
        simpa using this
      · exact wpAny_truthy_bool hq
/-- what firstOfTuple? gives of a datum that is a tuple -/
theorem first_reads {M : Model} {v : Value} {xs : List PyData} {as : List Addr} {Q : Option Value → Shared → Prop} (r : Reads s.heap v (.tuple xs) as) (h : ∀ o : Option Value, (xs = [] → o = none) → Q o s) : wpAny M A (firstOfTuple' v) Q E s := by
  rw [kas_first_eq]
  refine wpAny_bind ((looks_reads r).here ?_)
  have e : (dataType (.tuple xs) != Value.type "tuple") = false := by
    show (Value.type "tuple" != Value.type "tuple") = false
    simp
  rw [e, if_neg Bool.false_ne_true]
  cases r with
  | @tuple l o vs n _ as₁ h1 h2 h3 h4 =>
    obtain ⟨cls, dd, data, sl⟩ := o
    simp only at h2 h3
    subst h2 h3
    refine wpAny_bind (PyProof.Rows.listItems_at h1 rfl ?_)
    refine wpAny_pure (h _ fun z => ?_)
    subst z
    cases h4a : vs.toList with
    | nil => rw [← Array.getElem?_toList, h4a]; rfl
    | cons u us => rw [h4a] at h4; cases h4
theorem mapM_any {M : Model} {α β : Type} {f : α → Sem β} : ∀ (l : List α) {Q : List β → Shared → Prop}, (∀ v ∈ l, ∀ (Q' : β → Shared → Prop), (∀ o, Q' o s) → wpAny M A (f v) Q' E s) → (∀ os, Q os s) → wpAny M A (l.mapM f) Q E s
  | [], _, _, h => by rw [List.mapM_nil]; exact wpAny_pure (h [])
  | x :: l, Q, hf, h => by
    rw [List.mapM_cons]
    exact wpAny_bind (hf x (.head _) _ fun o => wpAny_bind (mapM_any l (Q := fun bs s' => wpAny M A (pure (o :: bs)) Q E s') (fun v hv => hf v (.tail _ hv)) fun os => wpAny_pure (h _)))
theorem kind_tups {M : Model} {v : Value} {vs : List Value} {as : List Addr} {Q : SortKind → Shared → Prop} (h0 : Reads s.heap v (.tuple []) as) (hr : ∀ u ∈ vs, ∃ xs as, Reads s.heap u (.tuple xs) as) (h : Q oneType' s) : wpAny M A (keyKind' (v :: vs).toArray) Q E s := by
  rw [keyKind'_eq, List.mapM_toArray, map_eq_pure_bind]
  refine wpAny_bind (wpAny_bind ?_)
  rw [List.mapM_cons]
  refine wpAny_bind (first_reads h0 fun o ho => wpAny_bind (mapM_any vs (fun u hu Q' hq => ?_) fun os => wpAny_pure (wpAny_pure ?_)))
  · obtain ⟨xs, as', r⟩ := hr u hu
    exact first_reads r fun o _ => hq o
  · rw [ho rfl, if_neg (by simp), if_neg (by simp)]
    rw [oneTypeOnly'_eq, List.mapM_toArray, map_eq_pure_bind]
    refine wpAny_bind (wpAny_bind (wpAny_bind (kas_mapM (r := Value.type "tuple") _ (fun u hu Q' hq => ?_) (wpAny_pure ?_))))
    · rcases List.mem_cons.mp hu with e | hu
      · rw [e]
        exact (looks_reads h0).here hq
      · obtain ⟨xs, as', r⟩ := hr u hu
        exact (looks_reads r).here hq
    · have hall : ((List.map (fun _ => Value.type "tuple") (v :: vs)).toArray.all fun x => x == Value.type "tuple") = true := by
        simp only [List.all_toArray, List.all_map, List.all_eq_true]
        intro _ _
        exact beq_self_eq_true _
      have h1 : (List.map (fun _ => Value.type "tuple") (v :: vs)).toArray[0]? = some (Value.type "tuple") := by simp
      rw [h1]
      simp only [hall, if_true]
      exact wpAny_pure (wpAny_pure h)
/-- tuples of ints -/
def tpD (l : List Int) : PyData := .tuple (itD l)
theorem alike_tp (l m : List Int) : alike (tpD l) (tpD m) = true := by
  show alikeAll (itD l) (itD m) = true
  exact alike_ints l m
theorem allAlike_tp (ls : List (List Int)) : AllAlike (ls.map tpD) := fun d hd d' hd' => by
  obtain ⟨l, _, rfl⟩ := List.mem_map.mp hd
  obtain ⟨m, _, rfl⟩ := List.mem_map.mp hd'
  exact alike_tp l m
theorem dep_tp (l : List Int) : (tpD l).depth = 1 := dep_it l
theorem sortsAt_tp {vs : List Value} {ls : List (List Int)} (e : EachIs (fun v l => ∃ as, Reads s.heap v (tpD l) as) vs ([] :: ls)) (hu : A.units + 1 < cLine) : SortsAt prog w A s (dataKind s.heap (([] :: ls).map tpD)) vs := by
  have e' := each_map (R := fun v d => ∃ as, Reads s.heap v d as) tpD e
  refine ⟨fun v hv => ?_, oneType', ?_, fun h2 E Q hq => ?_⟩
  · obtain ⟨d, hd, as, r⟩ := e'.left v hv
    exact ⟨_, dataKind_some (allAlike_tp _) hd r⟩
  · intro E x y a b Q ha hb hq
    obtain ⟨d, as, hd, ra, rfl⟩ := dataKind_inv ha
    obtain ⟨d', as', hd', rb, rfl⟩ := dataKind_inv hb
    obtain ⟨l, _, rfl⟩ := List.mem_map.mp hd
    obtain ⟨m, _, rfl⟩ := List.mem_map.mp hd'
    rw [keyLt'_oneType]
    refine oneLt_tup (xs := itD l) (ys := itD m) ra rb (alike_ints l m) ?_ hq
    rw [dep_it, dep_it]
    exact hu
  · cases e with
    | cons h1 h2 =>
      obtain ⟨as, h1⟩ := h1
      refine kind_tups h1 (fun u hu => ?_) hq
      obtain ⟨l, _, as', r⟩ := h2.left u hu
      exact ⟨_, as', r⟩
/-- by their order -/
def leT (l m : List Int) : Bool := dataLe false tpD l m
def srtT (ls : List (List Int)) : List (List Int) := ls.mergeSort leT
theorem sorted_tp {R : Value → List Int → Prop} {vs : List Value} {ls : List (List Int)} {l : Addr} {Q : Value → Shared → Prop} (hl : s.heap.IsList l vs.toArray) (e : EachIs R vs ([] :: ls)) (er : EachIs (fun v b => ∃ as, Reads s.heap v (tpD b) as) vs ([] :: ls)) (hL : ls.length + 1 ≤ sizeLine)
    (hu : A.units + 3 < cLine) (h : ∀ out, out.length = ls.length + 1 → EachIs R out (srtT ([] :: ls)) → Q (.ref (s.heap.objs.size + 1)) { s with heap := sortedAll s.heap vs (List.toArray out) }) :
    wpAny (model prog w) A (call (.builtin "sorted") [.ref l]) Q E s := by
  have er' : EachIs (fun v b => ∃ as, Reads (sortingHeap (copyHeap s.heap vs) (s.heap.objs.size + 1) vs) v (tpD b) as) vs ([] :: ls) := er.mono fun _ _ ⟨as, r⟩ => ⟨as, PyProof.Rows.Reads.keeps (fun _ _ => sorting_copy_old) r⟩
  exact sorted_vals hl (sortsAt_tp (s := { s with heap := sortingHeap (copyHeap s.heap vs) (s.heap.objs.size + 1) vs }) er' (show A.units + 2 + 1 < cLine by omega)) (by rw [e.length]; exact hL)
    (h _ (by rw [sortVals_length false rfl]; exact e.length) (sortVals_data false e er' (allAlike_tp _)))
end
/-! ### as a rule -/
section
variable {X : Cx}
open PySem.W
def rSortedT (K : PySem.W.Frag) : List V → Hp → VK → Prop := fun vs H Q => ∃ (a : Addr) (xs : List V) (ls : List (List Int)), vs = [V.ref a] ∧ H a = some (.lst xs) ∧ DqA K H (([] :: ls).map tpD) xs ∧
  ∀ ys p, DqA K H ((srtT ([] :: ls)).map tpD) ys → H p = none → Q (.ref p) (upd H p (.lst ys))
theorem each_of {K : PySem.W.Frag} {H : Hp} : ∀ {ls : List (List Int)} {xs : List V} {us : List Value}, DqA K H (ls.map tpD) xs → Vals xs us → EachIs (fun u l => ∃ x : V, RelV x u ∧ Dq K H (tpD l) x) us ls
  | [], _, us, h, r => by
    rw [dqA_nil.mp h] at r
    cases r
    exact .nil
  | l :: ls, _, us, h, r => by
    obtain ⟨v, q, e, h1, h2⟩ := dqA_cons.mp h
    rw [e] at r
    cases r with
    | cons r1 r2 => exact .cons ⟨v, r1, h1⟩ (each_of h2 r2)
theorem of_each {K : PySem.W.Frag} {H : Hp} : ∀ {ls : List (List Int)} {us : List Value}, EachIs (fun u l => ∃ x : V, RelV x u ∧ Dq K H (tpD l) x) us ls → ∃ xs, DqA K H (ls.map tpD) xs ∧ Vals xs us
  | [], _, .nil => ⟨[], dqA_nil.mpr rfl, .nil⟩
  | l :: ls, _, .cons ⟨x, r, h⟩ t => by
    obtain ⟨xs, h1, h2⟩ := of_each t
    exact ⟨x :: xs, dqA_cons.mpr ⟨x, xs, rfl, h, h1⟩, .cons r h2⟩
theorem cr_sortedTp (hu : X.A.units + 64 < cLine) : CallR X (.builtin "sorted") (rSortedT X.K) := by
  intro pins s σ H vs us Q I r h
  obtain ⟨a, xs, ls, rfl, hs, hx, q⟩ := h
  obtain ⟨its, rv, hl, hz⟩ := I.list (SqL.of hs)
  obtain ⟨u, rfl, ru⟩ := vals1 r
  obtain rfl : u = Value.ref a := ru
  have e := each_of hx rv
  have hlen := hx.len
  rw [List.length_map, List.length_cons] at hlen
  refine sorted_tp hl.isList e (e.mono fun u l ⟨x, rx, hd⟩ => Dp.reads I _ x u (Dq.dp _ _ hd) rx) (by rw [← hlen]; exact hz) (by omega) fun out ho he => ?_
  obtain ⟨ys, h1, h2⟩ := of_each he
  obtain ⟨ep, he'⟩ := PyProof.Rows.sortedAll_at s.heap its out.toArray
  have hl2 : ys.length ≤ sizeLine := by rw [h2.length, ho, ← hlen]; exact hz
  exact ⟨.ref _, upd H (s.heap.objs.size + 1) (.lst ys), I.laid (t' := s.toks) (fun _ _ => PyProof.Rows.sortedAll_old) (Nat.le_succ _) ⟨hl2, out, ep, h2, he'⟩, rfl, q _ _ h1 (I.hok.fresh (Nat.le_succ _))⟩
theorem de_sortedT {a : Expr} {ρ : En} {ls : List (List Int)} {p pos : Pos} (hu : X.A.units + 64 < cLine) (hg : Gl X "sorted") (hm : X.mg "sorted" = none) (ha : DE X a ρ (.d (.list (([] :: ls).map tpD)))) (hs : starEach [a] X.env = (false, eval a X.env) :: starEach [] X.env := by rfl) :
    DE X (.Call (.Name "sorted" p) [a] [] pos) ρ (.d (.list ((srtT ([] :: ls)).map tpD))) :=
  de_callB (cr_sortedTp hu) hg hm boot_sorted' (da_cons ha da_nil hs) (fun vs H Q r q => by
    obtain ⟨v, rfl, rv⟩ := rvA1 r
    obtain ⟨t, xs, rfl, hq, hA⟩ := rv_lst.mp rv
    exact ⟨t, xs, ls, rfl, hq, hA, fun ys p hy hp => q _ _ (Ex.new hp) (rv_lst.mpr ⟨p, ys, rfl, upd_same, hy.keep (.of (Ex.new hp))⟩)⟩) (he := hs)
end
end DSW
set_option Elab.async false
set_option linter.all false
set_option maxRecDepth 100000
set_option maxHeartbeats 2000000
/-! sets_of, is_settled_in, settled_sets. -/
namespace DSW
open PySem PySem.Spec PyProof.Rows L2 Evl
theorem fg_nil : Fg [] [] := Fg.refl []
theorem fg_keep {o : Option Dv} {ρ ρ' : En} (h : Fg ρ ρ') : Fg (o :: ρ) (o :: ρ') := ⟨congrArg (· + 1) h.1, fun i d e => by
  cases i with
  | zero => exact e
  | succ i => exact h.2 i d e⟩
theorem fg_drop {o : Option Dv} {ρ ρ' : En} (h : Fg ρ ρ') : Fg (o :: ρ) (none :: ρ') := ⟨congrArg (· + 1) h.1, fun i d e => by
  cases i with
  | zero =>
    have e' : (none : Option Dv) = some d := Option.some.inj e
    cases e'
  | succ i => exact h.2 i d e⟩
theorem itD_app (l : List Int) (i : Int) : itD l ++ [PyData.int i] = itD (l ++ [i]) := by
  unfold itD
  rw [List.map_append]
  rfl
def subs : Nat → List (List Int)
  | 0 => [[]]
  | k + 1 => subs k ++ (subs k).map fun l => l ++ [(k : Int)]
theorem subs_head : ∀ n, ∃ ls, subs n = [] :: ls
  | 0 => ⟨[], rfl⟩
  | k + 1 => by
    obtain ⟨ls, e⟩ := subs_head k
    exact ⟨_, by show subs k ++ _ = _; rw [e]; rfl⟩
theorem subs_len : ∀ n, (subs n).length = 2 ^ n
  | 0 => rfl
  | k + 1 => by
    show (subs k ++ _).length = _
    rw [List.length_append, List.length_map, subs_len k, Nat.pow_succ]
    omega
theorem subs_el : ∀ (k : Nat) (l : List Int), l ∈ subs k → l.length ≤ k
  | 0, l, h => by
    rcases List.mem_singleton.mp h with rfl
    exact Nat.le_refl _
  | k + 1, l, h => by
    rcases List.mem_append.mp (show l ∈ subs k ++ _ from h) with h | h
    · exact Nat.le_succ_of_le (subs_el k l h)
    · obtain ⟨m, hm, rfl⟩ := List.mem_map.mp h
      rw [List.length_append]
      exact Nat.succ_le_succ (subs_el k m hm)
def setsL (n : Nat) : List (List Int) := srtT (subs n)
theorem subs_small {n : Nat} (h : n ≤ 4) : (subs n).length ≤ 16 := by
  rw [subs_len]
  exact Nat.pow_le_pow_right (by decide) h
theorem setsL_small {n : Nat} (h : n ≤ 4) : (setsL n).length ≤ 16 := by
  unfold setsL srtT
  rw [List.length_mergeSort]
  exact subs_small h
theorem noL_tp (l : List Int) : noL (tpD l) = true := noL_it l
theorem subs_step (k : Nat) : (subs k).map tpD ++ (((subs k).map tpD).filter fun _ => true).map (fun d => tpD (unIs d ++ [(k : Int)])) = (subs (k + 1)).map tpD := by
  show _ = (subs k ++ _).map tpD
  rw [filt_true, List.map_append, List.map_map, List.map_map]
  refine congrArg _ (List.map_congr_left fun l _ => ?_)
  show tpD (unIs (.tuple (itD l)) ++ [(k : Int)]) = _
  rw [unIs_it]
  rfl
section
variable {P : Program} {w : World} {K : PySem.W.Frag} {mg : Str → Option Value} {base : Heap} {f : Addr} {fd : FuncData}
abbrev FSets (ds : List Dv) (d : Dv) : Prop := ∃ n : Nat, n ≤ 4 ∧ ds = [.d (.int (n : Int))] ∧ d = .d (.list ((setsL n).map tpD))
abbrev nSets : List Str := ["atoms", "found", "atom", "old"]
abbrev eSets (n k : Nat) : En := [some (.d (.int (n : Int))), some (.d (.list ((subs k).map tpD))), none, none]
theorem pf_sets_of (D : Df K mg "sets_of" (topS 24) f fd) (G : Gm mg) : Pf P w K mg base "sets_of" 1 FSets := by
  refine pf_mk (N := nSets) (ps := ["atoms"]) D.fn ⟨rfl, rfl, rfl, by decide +kernel, rfl, by decide +kernel, by decide +kernel⟩ D.mg (D.fn.binds fun _ _ _ _ _ _ us hl => match us, hl with | [_], _ => rfl) (by rintro _ _ ⟨n, _, rfl, rfl⟩; rfl) ?_
  rintro _ _ ⟨n, hn, rfl, rfl⟩ cdv A outer s H E hr
  have nd : nSets.Nodup := by decide +kernel
  refine dss_cons (ds_set 1 (de_lst (ds := [.tuple []]) (da_cons (de_tup (ds := []) da_nil (by decide)) da_nil) (by decide)) nd) ?_
  refine dss_cons (ds_forR 2 (eSets n) PassesOwn.never rfl (pg_name (i := 2) nd rfl (.inr rfl)) rfl G.rng (de_var 0) (by omega) (Fg.refl _) (fun k hk => ?_)) ?_
  · refine dss_fg (dss_one (ds_set 1 (de_is (de_catL (ds := (subs k).map tpD) (de_var 1) (de_lc (ds := (subs k).map tpD) (j := 3) (f := fun _ => true) (g := fun d => tpD (unIs d ++ [(k : Int)])) rfl nd rfl (.inr (de_var 1)) (blkOk_by (N := nSets) (sc := defScope (topS 24)) (by decide +kernel)) (fun s H C cl fp => ⟨.inl rfl, .inr rfl⟩) blkT_nil (fun d hd _ s H C cl fp => ?_) (fun d hd _ => noL_tp _) ?_) ?_) (congrArg (fun x => Dv.d (.list x)) (subs_step k))) nd)) (fg_keep (fg_keep (fg_drop (fg_keep fg_nil))))
    · obtain ⟨l, hm, rfl⟩ := List.mem_map.mp hd
      have hl : (itD l).length + [PyData.int (k : Int)].length ≤ 100000 := by
        have := subs_el k l hm
        unfold itD
        rw [List.length_map]
        show l.length + 1 ≤ _
        omega
      exact de_is (de_catT (ds := itD l) (es' := [.int (k : Int)]) (de_var 3) (de_tup (ds := [.int (k : Int)]) (da_cons (de_var 2) da_nil) (show 1 ≤ 100000 by decide)) hl) (by rw [itD_app]; show _ = Dv.d (tpD (unIs (.tuple (itD l)) ++ [(k : Int)])); rw [unIs_it]; rfl)
    · rw [List.length_map]
      have := subs_small (n := k) (by omega)
      omega
    · rw [filt_true, List.length_map, List.length_map, List.length_map]
      have := subs_small (n := k) (by omega)
      omega
  · obtain ⟨ls, e⟩ := subs_head n
    refine dss_ret (de_is (de_sortedT (ls := ls) (hu64 hr) rfl G.srt (de_is (de_var 1) (by rw [e]))) ?_)
    rw [← e]
    rfl
end
end DSW
set_option Elab.async false
set_option linter.all false
set_option maxRecDepth 100000
set_option maxHeartbeats 2000000
/-! sorted(set(t)) of a tuple of ints. -/
namespace DSW
open PySem PySem.Spec PyProof.Rows L2 Evl
section
variable {X : Cx}
def rSetI (K : PySem.W.Frag) (w : World) : List V → Hp → VK → Prop := fun vs H Q => ∃ (a : Addr) (ns : List Int), vs = [V.ref a] ∧ SqT K H a (ns.map V.int) ∧ ns.length < 60 ∧
  ∀ (p : Addr) (n : Nat), n ≤ ns.length → H p = none → Q (.ref p) (upd H p (SetO w p (fun j => decide (j ∈ ns)) n))
theorem cr_setI (hc : X.calm = true) : CallR X (.type "set") (rSetI X.K X.w) := by
  intro pins s σ H vs us Q I r h
  obtain ⟨a, ns, rfl, hs, hl, q⟩ := h
  obtain ⟨its, rv, pt, hz⟩ := I.tuple hs
  obtain ⟨u, rfl, ru⟩ := vals1 r
  obtain rfl : u = Value.ref a := ru
  have hi : IntsAre its.toArray.toList ns := intsAre_of rv
  refine call_set_tupI ns (I.ok.hd hc) (show s.heap.IsTuple a its.toArray from pt) hi (by unfold scanBound; omega) fun h' tk c R1 hcn k => ?_
  exact ⟨.ref _, upd H s.heap.objs.size (SetO X.w s.heap.objs.size (fun j => decide (j ∈ ns)) c), I.laid (t' := tk) k (Nat.le_refl _) (setO_new R1), rfl, q _ c hcn (I.hok.fresh (Nat.le_refl _))⟩
theorem ints_of {K : PySem.W.Frag} {H : Hp} : ∀ {l : List Int} {xs : List V}, DqA K H (itD l) xs → xs = l.map V.int
  | [], _, h => dqA_nil.mp h
  | i :: l, _, h => by
    obtain ⟨v, r, e, h1, h2⟩ := dqA_cons.mp h
    rw [e, dq_int.mp h1, ints_of h2]
    rfl
theorem ints_dq {K : PySem.W.Frag} {H : Hp} : ∀ {l : List Int}, DqA K H (itD l) (l.map V.int)
  | [] => dqA_nil.mpr rfl
  | i :: l => dqA_cons.mpr ⟨_, _, rfl, dq_int.mpr rfl, ints_dq⟩
theorem de_sortedSet {a : Expr} {ρ : En} {l : List Int} {p pos p2 pos2 : Pos} (hc : X.calm = true) (hg : Gl X "sorted") (hm : X.mg "sorted" = none) (hg2 : Gl X "set") (hm2 : X.mg "set" = none) (ha : DE X a ρ (.d (.tuple (itD l)))) (hl : l.length < 60)
    (hs : starEach [a] X.env = (false, eval a X.env) :: starEach [] X.env := by rfl)
    (hs2 : starEach [.Call (.Name "set" p2) [a] [] pos2] X.env = (false, eval (.Call (.Name "set" p2) [a] [] pos2) X.env) :: starEach [] X.env := by rfl) :
    DE X (.Call (.Name "sorted" p) [.Call (.Name "set" p2) [a] [] pos2] [] pos) ρ (.d (.list (itD (srt l)))) := by
  have h1 := pe_callTy (p := p2) (pos := pos2) (cr_setI hc) hg2 hm2 boot_set' (da_cons ha da_nil hs) (he := hs)
  refine (pe_callB (cr_sortedSet hc) hg hm boot_sorted' (pa_cons h1 pa_nil hs2) (he := hs2)).imp fun σ H Q ⟨hr, q⟩ => ⟨hr, fun vs H1 e1 r => ?_⟩
  obtain ⟨v, rfl, rv⟩ := rvA1 r
  obtain ⟨t, xs, rfl, hq, hA⟩ := rv_tup.mp rv
  rw [ints_of hA] at hq
  refine ⟨t, l, rfl, hq, hl, fun p n hn hp => ?_⟩
  refine ⟨p, _, n, rfl, upd_same, by omega, fun ns p' h1 h2 h3 hp' => ?_⟩
  have e : ns = srt l := asc_ext h1 (asc_srt l) fun z => by
    rw [h2 z, mem_srt, decide_eq_true_eq]
  rw [e]
  exact q _ _ ((e1.trans (Ex.new hp)).trans (Ex.new hp')) (rv_lst.mpr ⟨p', _, rfl, upd_same, ints_dq⟩)
end
end DSW
set_option Elab.async false
set_option linter.all false
set_option maxRecDepth 100000
set_option maxHeartbeats 2000000
/-! while (x := list): .. ; least_of. -/
namespace DSW
open PySem PySem.Spec PyProof.Rows L2 Evl
section
variable {X : Cx} {ρ : En} {e : Expr} {body : List Stmt} {x : Str} {p p2 pos : Pos}
/-- while (x := e): body, e's list is empty at the n-th test, not before -/
theorem ds_while (i n : Nat) (ρs : Nat → En) (ls : Nat → List PyData) (hp : PassesOwn (model X.prog X.w) X.A X.env X.xe) (hN : X.N.Nodup) (hi : X.N[i]? = some x) (hx : Loc X.env.scope x)
    (he : ∀ k, k ≤ n → DE X e (ρs k) (.d (.list (ls k)))) (hb : ∀ k, k < n → DSs X body ((ρs k).set i (some (.d (.list (ls k))))) (.nx (ρs (k + 1)))) (h0 : Fg ρ (ρs 0)) (hne : ∀ k, k < n → ls k ≠ []) (hn : ls n = [])
    (hf : X.fn x = true ∨ X.env.scope.names.lookup x = some .local := by first | exact .inl rfl | exact .inr rfl)
    (hpl : ∀ whole, isTrue (.NamedExpr (.Name x p) e p2) X.env whole = (do let v ← whole; standAt (Expr.NamedExpr (.Name x p) e p2).pos; holding [v] (truthy v)) := by intro _; rfl) :
    DS X (.While (.NamedExpr (.Name x p) e p2) body [] pos) ρ (.nx ((ρs n).set i (some (.d (.list []))))) := by
  have hE : PE X e (fun σ H Q => ∃ k, k ≤ n ∧ tD X.K (ρs k) (.d (.list (ls k))) σ H Q) := ⟨fun pins s σ H Q I ⟨k, hk, q⟩ => (he k hk).run pins s σ H Q I q⟩
  have hB : PSs X body (fun D σ H => ∃ k, k < n ∧ tS X.K ((ρs k).set i (some (.d (.list (ls k))))) (.nx (ρs (k + 1))) D σ H) := ⟨fun pins s σ H D I ⟨k, hk, q⟩ => (hb k hk).run pins s σ H D I q⟩
  refine (ps_whileW hp (ptw_truth (pew_named hN hi hx (pew_of hE) hf) hpl) hB pss_nil).imp fun D σ H ⟨hr, q⟩ => ?_
  refine ⟨fun m σ' H' => ∃ k, k ≤ n ∧ m = n - k ∧ Ex H H' ∧ Rs X.K H' σ' (ρs k), ⟨n, 0, Nat.zero_le _, rfl, Ex.refl _, hr.fg h0⟩, ?_⟩
  rintro m σ' H' ⟨k, hk, rfl, e1, r1⟩
  refine ⟨k, hk, r1, fun v H2 e2 rv => ?_⟩
  obtain ⟨a, xs, rfl, hq, hA⟩ := rv_lst.mp rv
  have r2 := (r1.ex e2).set (i := i) (show Rv X.K H2 (.ref a) (.d (.list (ls k))) from rv)
  by_cases hlt : k < n
  · have hx : xs ≠ [] := fun z => hne k hlt ((dqA_nil_iff hA).mp z)
    refine ⟨true, .inl ⟨xs, SqL.of hq, ?_⟩, ?_⟩
    · cases xs with
      | nil => exact absurd rfl hx
      | cons _ _ => rfl
    · refine iteT ?_
      exact ⟨fun σ3 H3 => Ex H H3 ∧ Rs X.K H3 σ3 (ρs (k + 1)), fun σ3 H3 ⟨e3, r3⟩ => ⟨n - (k + 1), by omega, k + 1, hlt, rfl, e3, r3⟩, k, hlt, r2, fun σ3 H3 e3 r3 => ⟨(e1.trans e2).trans e3, r3⟩⟩
  · have hk' : k = n := by omega
    subst hk'
    have hx : xs = [] := (dqA_nil_iff hA).mpr hn
    refine ⟨false, .inl ⟨xs, SqL.of hq, ?_⟩, ?_⟩
    · rw [hx]; rfl
    · refine iteF ?_
      rw [hn] at r2
      exact q _ _ (e1.trans e2) r2
end
/-! ### the program's loop in plain words -/
def r1 (c : List Int) (d : PyData) : Bool := (unR d).1.isSome && remB c (unR d)
def its (sm : List Rl) : Nat → List Int
  | 0 => []
  | k + 1 => grow sm (its sm k)
theorem its_gr {n : Int} {sm : List Rl} (hb : HdBd n sm) : ∀ k, Gr n sm (its sm k)
  | 0 => Gr.nil n sm
  | k + 1 => (its_gr hb k).next hb
theorem its_end {sm : List Rl} (hb : HdBd 4 sm) : ∃ n, n ≤ 4 ∧ more sm (its sm n) = [] ∧ ∀ k, k < n → more sm (its sm k) ≠ [] := by
  have le4 : ∀ k, (its sm k).length ≤ 4 := fun k => len_bd 4 _ (asc_nodup (its_gr hb k).asc) (its_gr hb k).bd
  have key : ∀ m k, (∀ j, j < k → more sm (its sm j) ≠ []) → k ≤ (its sm k).length → 4 - k = m → ∃ n, n ≤ 4 ∧ more sm (its sm n) = [] ∧ ∀ j, j < n → more sm (its sm j) ≠ [] := by
    intro m
    induction m with
    | zero =>
      intro k h1 h2 h3
      have hk : k ≤ 4 := Nat.le_trans h2 (le4 k)
      by_cases h : more sm (its sm k) = []
      · exact ⟨k, hk, h, h1⟩
      · have := grow_len (its_gr hb k).asc h
        have a := le4 (k + 1)
        have b : (its sm (k + 1)).length = (grow sm (its sm k)).length := rfl
        omega
    | succ m ih =>
      intro k h1 h2 h3
      by_cases h : more sm (its sm k) = []
      · exact ⟨k, by omega, h, h1⟩
      · have := grow_len (its_gr hb k).asc h
        have b : (its sm (k + 1)).length = (grow sm (its sm k)).length := rfl
        refine ih (k + 1) (fun j hj => ?_) (by omega) (by omega)
        rcases Nat.lt_succ_iff_lt_or_eq.mp hj with q | q
        · exact h1 j q
        · rw [q]; exact h
  exact key 4 0 (fun j hj => absurd hj (Nat.not_lt_zero _)) (Nat.zero_le _) rfl
/-- rules as the program is given them -/
def Gd (rs : List Rl) : Prop := rs.length ≤ 50 ∧ ∀ r ∈ rs, Vr 4 r
theorem Gd.hd {rs : List Rl} (h : Gd rs) : HdBd 4 rs := fun r hr a e => (h.2 r hr).1 a e
theorem Gd.sm {rs : List Rl} (h : Gd rs) : Sm rs := ⟨by have := h.1; omega, fun r hr => ⟨by have := vs_len (h.2 r hr).2.1 (by decide); omega, by have := vs_len (h.2 r hr).2.2 (by decide); omega⟩⟩
theorem Gd.filt {rs : List Rl} (h : Gd rs) (p : Rl → Bool) : Gd (rs.filter p) := ⟨Nat.le_trans (List.length_filter_le _ _) h.1, fun r hr => h.2 r (List.mem_filter.mp hr).1⟩
theorem more_len (sm : List Rl) (f : List Int) : (more sm f).length ≤ sm.length := by
  unfold more
  exact Nat.le_trans (List.length_filterMap_le _ _) (List.length_filter_le _ _)
theorem more_dat (sm : List Rl) (f : List Int) (hs : ∀ r ∈ sm, r.1.isSome = true) : ((rsD sm).filter fun d => !obB f (unR d)).map (fun d => hdD (unR d).1) = itD (more sm f) := by
  rw [filt_rs sm (fun r => !obB f r) _ fun r _ => by rw [unR_rl]]
  unfold more rsD itD
  rw [List.map_map]
  have : ∀ l : List Rl, (∀ r ∈ l, r.1.isSome = true) → l.map ((fun d => hdD (unR d).1) ∘ rlD) = (l.filterMap (·.1)).map PyData.int := by
    intro l
    induction l with
    | nil => intro _; rfl
    | cons r l ih =>
      intro h
      obtain ⟨a, ha⟩ := Option.isSome_iff_exists.mp (h r List.mem_cons_self)
      rw [List.map_cons, List.filterMap_cons, ha, ih fun r' hr' => h r' (List.mem_cons_of_mem _ hr')]
      show hdD (unR (rlD r)).1 :: _ = _
      rw [unR_rl, ha]
      rfl
  exact this _ fun r hr => hs r (List.mem_filter.mp hr).1
section
variable {P : Program} {w : World} {K : PySem.W.Frag} {mg : Str → Option Value} {base : Heap} {f : Addr} {fd : FuncData}
abbrev FLeast (ds : List Dv) (d : Dv) : Prop := ∃ (rs : List Rl) (c : List Int), Gd rs ∧ ds = [.d (.tuple (rsD rs)), .d (.tuple (itD c))] ∧ d = .d (.tuple (itD (lfp (ables rs c))))
abbrev nLeast : List Str := ["rules", "chosen", "some", "found", "more", "rule"]
abbrev eLeast (rs : List Rl) (c : List Int) (k : Nat) : En := [some (.d (.tuple (rsD rs))), some (.d (.tuple (itD c))), some (.d (.list (rsD (heads rs c)))), some (.d (.tuple (itD (its (heads rs c) k)))), none, none]
theorem pf_least_of (D : Df K mg "least_of" (topS 28) f fd) (G : Gm mg) (F1 : Pf P w K mg base "remains" 1 FRemains) (F2 : Pf P w K mg base "obeys" 2 FObeys) : Pf P w K mg base "least_of" 3 FLeast := by
  refine pf_mk (N := nLeast) (ps := ["rules", "chosen"]) D.fn ⟨rfl, rfl, rfl, by decide +kernel, rfl, by decide +kernel, by decide +kernel⟩ D.mg (D.fn.binds fun _ _ _ _ _ _ us hl => match us, hl with | [_, _], _ => rfl) (by rintro _ _ ⟨n, r, _, rfl, rfl⟩; rfl) ?_
  rintro _ _ ⟨rs, c, hg, rfl, rfl⟩ cdv A outer s H E hr
  have nd : nLeast.Nodup := by decide +kernel
  have hlen : (rsD rs).length ≤ 100000 := by unfold rsD; rw [List.length_map]; have := hg.1; omega
  have gh : Gd (heads rs c) := hg.filt _
  have hsome : ∀ r ∈ heads rs c, r.1.isSome = true := fun r hr => by
    have := (List.mem_filter.mp hr).2
    rw [Bool.and_eq_true] at this
    exact this.1
  obtain ⟨n, n4, hend, hgo⟩ := its_end gh.hd
  have e1 : (((rsD rs).filter fun d => r1 c d).map fun d => d) = rsD (heads rs c) := by
    rw [filt_rs rs (fun r => r.1.isSome && remB c r) _ fun r _ => by unfold r1; rw [unR_rl], map_self _ fun _ => rfl]
    rfl
  refine dss_cons (ds_setLc (ds := rsD rs) (f := r1 c) (g := fun d => d) (j := 5) 2 rfl nd rfl rfl rfl (sw_true rfl rfl rfl (by decide +kernel)) (.inl (de_var 0)) (blkOk_by (N := nLeast) (sc := defScope (topS 28)) (by decide +kernel)) (fun s H C cl fp => ⟨.inl rfl, .inr rfl⟩) (blkT_one fun d hd s H C cl fp => ?_) (fun d hd _ s H C cl fp => de_var 5) (fun d hd _ => ?_) hlen) ?_
  · obtain ⟨r, hr', rfl⟩ := List.mem_map.mp hd
    have hr2 : r1 c (rlD r) = (!isNoneD (hdD r.1) && remB c r) := by unfold r1; rw [unR_rl, isN_hd]; cases r.1 <;> rfl
    rw [hr2]
    exact dt_w (dw_and (dt_notN (de_ixT (x := hdD r.1) (de_var 5) de_int rfl)) fun _ => dw_and1 (dt_val (de_call (F1.mono (by decide)) hr rfl (da_cons (de_var 5) (da_cons (de_var 1) da_nil)) ⟨r, c, ((hg.sm).2 r hr').2, rfl, rfl⟩)))
  · obtain ⟨r, hr', rfl⟩ := List.mem_map.mp hd
    exact noL_rl r
  rw [e1]
  refine dss_cons (ds_set 3 (de_tup (ds := []) da_nil (by decide)) nd) ?_
  refine dss_cons (ds_while 4 n (eLeast rs c) (fun k => itD (more (heads rs c) (its (heads rs c) k))) PassesOwn.never nd rfl (.inl rfl) (fun k hk => ?_) (fun k hk => ?_) (Fg.refl _) (fun k hk z => ?_) ?_) (dss_ret (de_is (de_var 3) ?_))
  · refine de_is (de_lc (ds := rsD (heads rs c)) (j := 5) (f := fun d => !obB (its (heads rs c) k) (unR d)) (g := fun d => hdD (unR d).1) rfl nd rfl (.inr (de_var 2)) (blkOk_by (N := nLeast) (sc := defScope (topS 28)) (by decide +kernel)) (fun s H C cl fp => ⟨.inl rfl, .inr rfl⟩) (blkT_one fun d hd s H C cl fp => ?_) (fun d hd _ s H C cl fp => ?_) (fun d hd _ => noL_hd _) ?_) (congrArg (fun x => Dv.d (.list x)) (more_dat _ _ hsome))
    · obtain ⟨r, hr', rfl⟩ := List.mem_map.mp hd
      rw [unR_rl]
      exact dt_not (dt_val (de_call F2 hr rfl (da_cons (de_var 3) (da_cons (de_var 5) da_nil)) ⟨its (heads rs c) k, r, ((gh.sm).2 r hr').1, rfl, rfl⟩))
    · obtain ⟨r, hr', rfl⟩ := List.mem_map.mp hd
      exact de_is (de_ixT (x := hdD r.1) (de_var 5) de_int rfl) (by show _ = Dv.d (hdD (unR (rlD r)).1); rw [unR_rl])
    · unfold rsD; rw [List.length_map]; have := gh.1; omega
  · have l1 : (its (heads rs c) k).length ≤ 4 := len_bd 4 _ (asc_nodup (its_gr gh.hd k).asc) (its_gr gh.hd k).bd
    have l2 := more_len (heads rs c) (its (heads rs c) k)
    have l3 := gh.1
    have ea : itD (its (heads rs c) k) ++ itD (more (heads rs c) (its (heads rs c) k)) = itD (its (heads rs c) k ++ more (heads rs c) (its (heads rs c) k)) := by unfold itD; rw [List.map_append]
    refine dss_fg (dss_one (ds_set 3 (de_tupL rfl G.tup (de_sortedSet (l := its (heads rs c) k ++ more (heads rs c) (its (heads rs c) k)) rfl rfl G.srt rfl G.set (de_is (de_catT (ds := itD (its (heads rs c) k)) (es' := itD (more (heads rs c) (its (heads rs c) k))) (de_var 3) (de_tupL rfl G.tup (de_var 4)) ?_) (by rw [ea])) ?_)) nd)) (fg_keep (fg_keep (fg_keep (fg_keep (fg_drop (fg_keep fg_nil))))))
    · unfold itD; rw [List.length_map, List.length_map]; omega
    · rw [List.length_append]; omega
  · exact hgo k hk (List.map_eq_nil_iff.mp z)
  · show itD (more (heads rs c) (its (heads rs c) n)) = []
    rw [hend]
    rfl
  · rw [gr_end hg.hd (its_gr gh.hd n) hend]
end
end DSW
set_option Elab.async false
set_option linter.all false
set_option maxRecDepth 100000
set_option maxHeartbeats 2000000
/-! sorted(t), t a tuple of ints. -/
namespace DSW
open PySem PySem.Spec PyProof.Rows L2 Evl
section
variable {prog : Program} {w : World} {A : Around} {E : Value → Shared → Prop} {s : Shared}
theorem collect_tup {l : Addr} {vs : List Value} {Q : List Value → Shared → Prop} (hl : s.heap.IsTuple l vs.toArray) (hz : vs.length ≤ sizeLine)
    (h : ∀ s1 : Shared, (∀ b o, s.heap.get? b = some o → s1.heap.get? b = some o) → s1.gens = s.gens → s1.os = s.os → s1.drawn = s.drawn → s.heap.objs.size ≤ s1.heap.objs.size → s1.toks = s.toks → Q vs s1) :
    wpAny (model prog w) A (collect (.ref l)) Q E s := by
  obtain ⟨o, ho, hc, n, hd⟩ := id hl
  have hlt : l < s.heap.objs.size := Heap.lt_size ho
  unfold collect
  refine wpAny_bind (wpAny_runValue (codeAny_builtin entry_proto_collect' ?_))
  show wpAny _ _ (do again (.builtin "list.__iadd__" ⟨[← newList [], .ref l], []⟩)) _ _ s
  refine wpAny_bind (wpAny_newList (wpAny_pure ⟨Code.quiet_builtin _ (by decide +kernel), codeAny_builtin entry_list_iadd' ?_⟩))
  show wpAny _ _ (Builtin.List.listExtendWith (.ref s.heap.objs.size) (.ref l) (.ref s.heap.objs.size)) _ _ { s with heap := s.heap.push (seqObj "list" #[] 0) }
  unfold Builtin.List.listExtendWith
  have ho' : (s.heap.push (seqObj "list" #[] 0)).get? l = some o := Heap.get?_push_of_some _ ho
  refine wpAny_bind (wpAny_typeOf (T := "tuple") ⟨o, ho', hc⟩ ?_)
  rw [if_pos (by simp)]
  refine wpAny_bind (listItems_at ho' hd ?_)
  refine wpAny_bind (listItems_at (xs := #[]) (n := 0) (Heap.get?_push_size _ rfl) rfl ?_)
  rw [if_neg (by simp)]
  refine wpAny_bind (listUpdate_at (xs := #[]) (n := 0) (Heap.get?_push_size _ rfl) rfl ?_ (Nat.zero_le _) (by show (#[] ++ vs.toArray).size ≤ sizeLine + 1; simp only [Array.size_append, List.size_toArray, List.length_nil]; omega))
  refine wpAny_pure ?_
  show wpAny (model prog w) A (do
      let o ← load s.heap.objs.size
      match o.data with
      | .seq xs _ => pure xs.toList
      | _ => unsupported "internal:collect") Q E { s with heap := (s.heap.push (seqObj "list" #[] 0)).update s.heap.objs.size (Obj.mapSeq (· ++ vs.toArray)) }
  refine wpAny_bind (wpAny_load (get?_update_seq (Heap.get?_push_size _ rfl) _) ?_)
  show wpAny _ _ (pure ((#[] : Array Value) ++ vs.toArray).toList) Q E _
  rw [show ((#[] : Array Value) ++ vs.toArray).toList = vs by simp]
  refine wpAny_pure (h _ (fun b o q => ?_) rfl rfl rfl ?_ rfl)
  · have hb := Heap.lt_size q
    show ((s.heap.push (seqObj "list" #[] 0)).update s.heap.objs.size (Obj.mapSeq (· ++ vs.toArray))).get? b = some o
    rw [Heap.get?_update_ne _ _ _ _ (Nat.ne_of_lt hb)]
    exact Heap.get?_push_of_some _ q
  · show _ ≤ ((s.heap.push (seqObj "list" #[] 0)).update s.heap.objs.size (Obj.mapSeq (· ++ vs.toArray))).objs.size
    rw [Heap.size_update, size_push']
    exact Nat.le_succ _
theorem sorted_tupI {l : Addr} {vs : List Value} {ns : List Int} {Q : Value → Shared → Prop} (hl : s.heap.IsTuple l vs.toArray) (hI : IntsAre vs ns) (hz : vs.length ≤ sizeLine)
    (h : ∀ (s' : Shared) (p : Addr) (out : List Value) (ns' : List Int) (c : Nat), (∀ b o, s.heap.get? b = some o → s'.heap.get? b = some o) → s'.gens = s.gens → s'.os = s.os → s'.drawn = s.drawn → s'.toks = s.toks → s.heap.objs.size ≤ p →
      s'.heap.get? p = some (seqObj "list" out.toArray c) → IntsAre out ns' → ns'.Perm ns → ns'.Pairwise (· ≤ ·) → Q (.ref p) s') : wpAny (model prog w) A (call (.builtin "sorted") [.ref l]) Q E s := by
  refine Calls.call_function_entry kind_sorted plain_sorted entry_sorted (args_sorted1 _) ?_
  unfold Builtin.«sorted»
  refine wpAny_bind (m := checkCount "sorted" 1 1 _) (wpAny_pure ?_)
  refine wpAny_bind (collect_tup hl hz fun s1 k1 g1 o1 d1 z1 t1 => ?_)
  refine wpAny_bind (wpAny_newList ?_ hz)
  have hoL : (s1.heap.push (seqObj "list" vs.toArray 0)).get? s1.heap.objs.size = some (seqObj "list" vs.toArray 0) := Heap.get?_push_size _ rfl
  refine wpAny_bind (wpAny_holding (wpAny_call_entry slot_list_sort ⟨_, hoL, rfl⟩ entry_list_sort (SrtO.list_sort_ord SrtO.swo_int hoL hz (fun h2 => SrtO.ints_sortable hI h2) fun out h1 h2 => ⟨_, rfl, ?_⟩) (args_list_sort _)))
  obtain ⟨e1, e2, e3⟩ := SrtO.ints_out hI h1 h2
  obtain ⟨c, hc⟩ := sortedHeap_at (vs := vs) (out := out.toArray) hoL
  refine wpAny_pure ⟨_, rfl, h _ s1.heap.objs.size out _ c (fun b u e => ?_) g1 o1 d1 t1 z1 hc e1 e2 e3⟩
  have q := k1 b u e
  have hlt := Heap.lt_size q
  show (sortedHeap (s1.heap.push (seqObj "list" vs.toArray 0)) s1.heap.objs.size vs out.toArray).get? b = some u
  rw [sortedHeap_old (Nat.ne_of_lt hlt) (by rw [size_push']; exact Nat.lt_succ_of_lt hlt)]
  exact Heap.get?_push_of_some _ q
end
section
variable {X : Cx}
def rSortedTI (K : PySem.W.Frag) : List V → Hp → VK → Prop := fun vs H Q => ∃ (a : Addr) (ns : List Int), vs = [V.ref a] ∧ SqT K H a (ns.map V.int) ∧
  ∀ (ns' : List Int) (p : Addr), ns'.Perm ns → ns'.Pairwise (· ≤ ·) → H p = none → Q (.ref p) (upd H p (.lst (ns'.map V.int)))
theorem cr_sortedTI : CallR X (.builtin "sorted") (rSortedTI X.K) := by
  intro pins s σ H vs us Q I r h
  obtain ⟨a, ns, rfl, hs, q⟩ := h
  obtain ⟨its, rv, pt, hz⟩ := I.tuple hs
  obtain ⟨u, rfl, ru⟩ := vals1 r
  obtain rfl : u = Value.ref a := ru
  have hi : IntsAre its ns := intsAre_of rv
  refine sorted_tupI pt hi (by rw [← rv.length]; exact hz) fun s' p out ns' c k g o d t hp he e1 e2 e3 => ?_
  have hlen : (ns'.map V.int).length ≤ sizeLine := by
    rw [List.length_map, e2.length_eq]
    rw [List.length_map] at hz
    exact hz
  have e : s' = { s with heap := s'.heap, toks := s'.toks } := by
    cases s'
    cases s
    cases o
    cases g
    cases d
    rfl
  rw [e]
  exact ⟨.ref p, upd H p (.lst (ns'.map V.int)), I.laid (t' := s'.toks) k hp ⟨hlen, out, c, vals_of_ints e1, he⟩, rfl, q _ _ e2 e3 (I.hok.fresh hp)⟩
/-- sorted(t) of different ints -/
theorem de_sortedTI {a : Expr} {ρ : En} {l : List Int} {p pos : Pos} (hg : Gl X "sorted") (hm : X.mg "sorted" = none) (ha : DE X a ρ (.d (.tuple (itD l)))) (nd : l.Nodup) (hs : starEach [a] X.env = (false, eval a X.env) :: starEach [] X.env := by rfl) :
    DE X (.Call (.Name "sorted" p) [a] [] pos) ρ (.d (.list (itD (srt l)))) :=
  de_callB cr_sortedTI hg hm boot_sorted' (da_cons ha da_nil hs) (fun vs H Q r q => by
    obtain ⟨v, rfl, rv⟩ := rvA1 r
    obtain ⟨t, xs, rfl, hq, hA⟩ := rv_tup.mp rv
    rw [ints_of hA] at hq
    refine ⟨t, l, rfl, hq, fun ns' p h1 h2 hp => ?_⟩
    have e : ns' = srt l := srt_of h2 (h1.nodup_iff.mpr nd) fun z => h1.mem_iff
    rw [e]
    exact q _ _ (Ex.new hp) (rv_lst.mpr ⟨p, _, rfl, upd_same, ints_dq⟩)) (he := hs)
end
end DSW
set_option Elab.async false
set_option linter.all false
set_option maxRecDepth 100000
set_option maxHeartbeats 2000000
/-! is_settled_in, settled_sets; the law's own settled sets. -/
namespace DSW
open PySem PySem.Spec PyProof.Rows L2 Evl
theorem eqv_nil (ds : List PyData) : PyData.eqv (.list ds) (.list []) = ds.isEmpty := by
  unfold PyData.eqv
  cases ds <;> rfl
theorem sh_lit (l : List Int) : SeqAt.shaped (.list (itD l)) = true := by
  refine sh_of ?_ ?_
  · unfold PyData.canLay0
    exact lay_ints l
  · unfold PyData.depth
    rw [dep_ints]
    decide
theorem sh_lrs (rs : List Rl) : SeqAt.shaped (.list (rsD rs)) = true := by
  refine sh_of ?_ ?_
  · unfold PyData.canLay0
    exact lay_rs rs
  · unfold PyData.depth
    have := dep_rs rs
    omega
theorem sh_nil : SeqAt.shaped (.list []) = true := rfl
theorem filt_it (l : List Int) (q : Int → Bool) (p : PyData → Bool) (h : ∀ i ∈ l, p (.int i) = q i) : (itD l).filter p = itD (l.filter q) := by
  unfold itD
  induction l with
  | nil => rfl
  | cons r rs ih =>
    rw [List.map_cons, List.filter_cons, List.filter_cons, h r List.mem_cons_self, ih fun r' hr' => h r' (List.mem_cons_of_mem _ hr')]
    cases q r <;> rfl
theorem emp_it (l : List Int) : (itD l).isEmpty = l.isEmpty := by cases l <;> rfl
theorem emp_rs (l : List Rl) : (rsD l).isEmpty = l.isEmpty := by cases l <;> rfl
theorem emp_filt {α : Type} (l : List α) (p : α → Bool) : (l.filter p).isEmpty = l.all fun x => !p x := by
  rw [Bool.eq_iff_iff, List.isEmpty_iff, List.filter_eq_nil_iff, List.all_eq_true]
  simp
theorem len_it (l : List Int) : (itD l).length = l.length := by unfold itD; rw [List.length_map]
theorem len_rs (l : List Rl) : (rsD l).length = l.length := by unfold rsD; rw [List.length_map]
theorem filt_tp (ls : List (List Int)) (q : List Int → Bool) (p : PyData → Bool) (h : ∀ l ∈ ls, p (tpD l) = q l) : (ls.map tpD).filter p = (ls.filter q).map tpD := by
  induction ls with
  | nil => rfl
  | cons r rs ih =>
    rw [List.map_cons, List.filter_cons, List.filter_cons, h r List.mem_cons_self, ih fun r' hr' => h r' (List.mem_cons_of_mem _ hr')]
    cases q r <;> rfl
/-- the settled sets -/
def settL (n : Nat) (rs : List Rl) : List (List Int) := (setsL n).filter (settB rs)
theorem settB_law {rs : List Rl} (h : Gd rs) (c : List Int) : settB rs c = lawB rs c := sett_law h.hd c
section
variable {P : Program} {w : World} {K : PySem.W.Frag} {mg : Str → Option Value} {base : Heap} {f : Addr} {fd : FuncData}
abbrev FSett (ds : List Dv) (d : Dv) : Prop := ∃ (rs : List Rl) (c : List Int), Gd rs ∧ ds = [.d (.tuple (rsD rs)), .d (.tuple (itD c))] ∧ d = .d (.bool (settB rs c))
theorem pf_is_settled_in (D : Df K mg "is_settled_in" (topS 31) f fd) (G : Gm mg) (F1 : Pf P w K mg base "least_of" 3 FLeast) (F2 : Pf P w K mg base "violated_in" 4 FViolated) : Pf P w K mg base "is_settled_in" 5 FSett := by
  refine pf_mk (N := ["rules", "chosen"]) (ps := ["rules", "chosen"]) D.fn ⟨rfl, rfl, rfl, by decide +kernel, rfl, by decide +kernel, by decide +kernel⟩ D.mg (D.fn.binds fun _ _ _ _ _ _ us hl => match us, hl with | [_, _], _ => rfl) (by rintro _ _ ⟨n, r, _, rfl, rfl⟩; rfl) ?_
  rintro _ _ ⟨rs, c, hg, rfl, rfl⟩ cdv A outer s H E hr
  refine dss_ret (de_and (k := decide (lfp (ables rs c) = c)) (l := (rs.filter (vioB c)).isEmpty) (de_is (de_eq (x := .tuple (itD (lfp (ables rs c)))) (y := .tuple (itD c)) (hu64 hr) (de_call (F1.mono (by decide)) hr rfl (da_cons (de_var 0) (da_cons (de_var 1) da_nil)) ⟨rs, c, hg, rfl, rfl⟩) (de_var 1) (sh_it _) (sh_it _)) (by rw [eqv_tup])) fun _ =>
    de_one (de_is (de_eq (x := .list (rsD (rs.filter (vioB c)))) (y := .list []) (hu64 hr) (de_call F2 hr rfl (da_cons (de_var 0) (da_cons (de_var 1) da_nil)) ⟨rs, c, hg.sm, rfl, rfl⟩) (de_lst (ds := []) da_nil (by decide)) (sh_lrs _) sh_nil) (by rw [eqv_nil, emp_rs])))
abbrev FSettS (ds : List Dv) (d : Dv) : Prop := ∃ (n : Nat) (rs : List Rl), n ≤ 4 ∧ Gd rs ∧ ds = [.d (.int (n : Int)), .d (.tuple (rsD rs))] ∧ d = .d (.list ((settL n rs).map tpD))
abbrev nSettS : List Str := ["atoms", "rules", "chosen"]
theorem pf_settled_sets (D : Df K mg "settled_sets" (topS 32) f fd) (G : Gm mg) (F1 : Pf P w K mg base "sets_of" 1 FSets) (F2 : Pf P w K mg base "is_settled_in" 5 FSett) : Pf P w K mg base "settled_sets" 6 FSettS := by
  refine pf_mk (N := nSettS) (ps := ["atoms", "rules"]) D.fn ⟨rfl, rfl, rfl, by decide +kernel, rfl, by decide +kernel, by decide +kernel⟩ D.mg (D.fn.binds fun _ _ _ _ _ _ us hl => match us, hl with | [_, _], _ => rfl) (by rintro _ _ ⟨n, r, _, _, rfl, rfl⟩; rfl) ?_
  rintro _ _ ⟨n, rs, hn, hg, rfl, rfl⟩ cdv A outer s H E hr
  have nd : nSettS.Nodup := by decide +kernel
  refine dss_ret (de_is (de_lc (ds := (setsL n).map tpD) (f := fun d => settB rs (unIs d)) (g := fun d => d) (j := 2) rfl nd rfl (.inr (de_call (F1.mono (by decide)) hr rfl (da_cons (de_var 0) da_nil) ⟨n, hn, rfl, rfl⟩)) (blkOk_by (N := nSettS) (sc := defScope (topS 32)) (by decide +kernel)) (fun s H C cl fp => ⟨.inl rfl, .inr rfl⟩) (blkT_one fun d hd s H C cl fp => ?_) (fun d hd _ s H C cl fp => de_var 2) (fun d hd _ => ?_) ?_) ?_)
  · obtain ⟨l, _, rfl⟩ := List.mem_map.mp hd
    refine dt_val (de_call F2 hr rfl (da_cons (de_var 1) (da_cons (de_var 2) da_nil)) ⟨rs, l, hg, rfl, ?_⟩)
    show _ = Dv.d (.bool (settB rs l))
    rw [show unIs (tpD l) = l from unIs_it l]
  · obtain ⟨l, _, rfl⟩ := List.mem_map.mp hd
    exact noL_tp l
  · rw [List.length_map]; have := setsL_small hn; omega
  · rw [filt_tp (setsL n) (settB rs) _ fun l _ => by rw [show unIs (tpD l) = l from unIs_it l], map_self _ fun _ => rfl]
    rfl

/-! ### the law's -/
abbrev FWithinL (ds : List Dv) (d : Dv) : Prop := ∃ xs ys : List Int, xs.length ≤ 1000 ∧ ds = [.d (.tuple (itD xs)), .d (.tuple (itD ys))] ∧ d = .d (.bool (within xs ys))
abbrev nWithinL : List Str := ["_law_some", "_law_others", "_law_one"]
theorem pf_law_is_within (D : Df K mg "_law_is_within" (topS 45) f fd) (G : Gm mg) : Pf P w K mg base "_law_is_within" 1 FWithinL := by
  refine pf_mk (N := nWithinL) (ps := ["_law_some", "_law_others"]) D.fn ⟨rfl, rfl, rfl, by decide +kernel, rfl, by decide +kernel, by decide +kernel⟩ D.mg (D.fn.binds fun _ _ _ _ _ _ us hl => match us, hl with | [_, _], _ => rfl) (by rintro _ _ ⟨n, r, _, rfl, rfl⟩; rfl) ?_
  rintro _ _ ⟨xs, ys, hl, rfl, rfl⟩ cdv A outer s H E hr
  have nd : nWithinL.Nodup := by decide +kernel
  have e1 : ((itD xs).filter fun d => !(itD ys).any fun z => PyData.eqv z d) = itD (xs.filter fun i => !ys.contains i) := filt_it xs _ _ fun i _ => by rw [any_int]
  refine dss_ret (de_is (de_eq (x := .list (itD (xs.filter fun i => !ys.contains i))) (y := .list []) (hu64 hr) (de_is (de_lc (ds := itD xs) (f := fun d => !(itD ys).any fun z => PyData.eqv z d) (g := fun d => d) (j := 2) rfl nd rfl (.inl (de_var 0)) (blkOk_by (N := nWithinL) (sc := defScope (topS 45)) (by decide +kernel)) (fun s H C cl fp => ⟨.inl rfl, .inr rfl⟩) (blkT_one fun d hd s H C cl fp => ?_) (fun d hd _ s H C cl fp => de_var 2) (fun d hd _ => ?_) (by rw [len_it]; omega)) (by rw [e1, map_self _ fun _ => rfl])) (de_lst (ds := []) da_nil (by decide)) (sh_lit _) sh_nil) ?_)
  · obtain ⟨i, hi, rfl⟩ := List.mem_map.mp hd
    exact dt_nin (hu65 hr) (de_var 2) (.inl (de_var 1)) rfl (sh_it ys)
  · obtain ⟨i, hi, rfl⟩ := List.mem_map.mp hd
    rfl
  · rw [eqv_nil, emp_it, emp_filt]
    unfold within
    simp only [Bool.not_not]
theorem pf_law_sets (D : Df K mg "_law_sets" (topS 42) f fd) (G : Gm mg) : Pf P w K mg base "_law_sets" 1 FSets := by
  refine pf_mk (N := ["_law_atoms", "_law_found", "_law_atom", "_law_old"]) (ps := ["_law_atoms"]) D.fn ⟨rfl, rfl, rfl, by decide +kernel, rfl, by decide +kernel, by decide +kernel⟩ D.mg (D.fn.binds fun _ _ _ _ _ _ us hl => match us, hl with | [_], _ => rfl) (by rintro _ _ ⟨n, _, rfl, rfl⟩; rfl) ?_
  rintro _ _ ⟨n, hn, rfl, rfl⟩ cdv A outer s H E hr
  have nd : (["_law_atoms", "_law_found", "_law_atom", "_law_old"] : List Str).Nodup := by decide +kernel
  refine dss_cons (ds_set 1 (de_lst (ds := [.tuple []]) (da_cons (de_tup (ds := []) da_nil (by decide)) da_nil) (by decide)) nd) ?_
  refine dss_cons (ds_forR 2 (eSets n) PassesOwn.never rfl (pg_name (i := 2) nd rfl (.inr rfl)) rfl G.rng (de_var 0) (by omega) (Fg.refl _) (fun k hk => ?_)) ?_
  · refine dss_fg (dss_one (ds_set 1 (de_is (de_catL (ds := (subs k).map tpD) (de_var 1) (de_lc (ds := (subs k).map tpD) (j := 3) (f := fun _ => true) (g := fun d => tpD (unIs d ++ [(k : Int)])) rfl nd rfl (.inr (de_var 1)) (blkOk_by (N := ["_law_atoms", "_law_found", "_law_atom", "_law_old"]) (sc := defScope (topS 42)) (by decide +kernel)) (fun s H C cl fp => ⟨.inl rfl, .inr rfl⟩) blkT_nil (fun d hd _ s H C cl fp => ?_) (fun d hd _ => noL_tp _) ?_) ?_) (congrArg (fun x => Dv.d (.list x)) (subs_step k))) nd)) (fg_keep (fg_keep (fg_drop (fg_keep fg_nil))))
    · obtain ⟨l, hm, rfl⟩ := List.mem_map.mp hd
      have hl : (itD l).length + [PyData.int (k : Int)].length ≤ 100000 := by
        have := subs_el k l hm
        rw [len_it]
        show l.length + 1 ≤ _
        omega
      exact de_is (de_catT (ds := itD l) (es' := [.int (k : Int)]) (de_var 3) (de_tup (ds := [.int (k : Int)]) (da_cons (de_var 2) da_nil) (show 1 ≤ 100000 by decide)) hl) (by rw [itD_app]; show _ = Dv.d (tpD (unIs (.tuple (itD l)) ++ [(k : Int)])); rw [unIs_it]; rfl)
    · rw [List.length_map]
      have := subs_small (n := k) (by omega)
      omega
    · rw [filt_true, List.length_map, List.length_map, List.length_map]
      have := subs_small (n := k) (by omega)
      omega
  · obtain ⟨ls, e⟩ := subs_head n
    refine dss_ret (de_is (de_sortedT (ls := ls) (hu64 hr) rfl G.srt (de_is (de_var 1) (by rw [e]))) ?_)
    rw [← e]
    rfl
/-- rs and those of qs that are not among them -/
def joinL (rs qs : List Rl) : List Rl := rs ++ qs.filter fun r => !rs.contains r
abbrev FJoined (ds : List Dv) (d : Dv) : Prop := ∃ rs qs : List Rl, rs.length ≤ 1000 ∧ qs.length ≤ 1000 ∧ ds = [.d (.tuple (rsD rs)), .d (.tuple (rsD qs))] ∧ d = .d (.tuple (rsD (joinL rs qs)))
abbrev nJoined : List Str := ["_law_rules_here", "_law_others", "_law_rule_here"]
theorem pf_law_joined (D : Df K mg "_law_joined" (topS 48) f fd) (G : Gm mg) : Pf P w K mg base "_law_joined" 1 FJoined := by
  refine pf_mk (N := nJoined) (ps := ["_law_rules_here", "_law_others"]) D.fn ⟨rfl, rfl, rfl, by decide +kernel, rfl, by decide +kernel, by decide +kernel⟩ D.mg (D.fn.binds fun _ _ _ _ _ _ us hl => match us, hl with | [_, _], _ => rfl) (by rintro _ _ ⟨n, r, _, _, rfl, rfl⟩; rfl) ?_
  rintro _ _ ⟨rs, qs, h1, h2, rfl, rfl⟩ cdv A outer s H E hr
  have nd : nJoined.Nodup := by decide +kernel
  have e1 : (((rsD qs).filter fun d => !(rsD rs).any fun z => PyData.eqv z d).map fun d => d) = rsD (qs.filter fun r => !rs.contains r) := by
    rw [filt_rs qs (fun r => !rs.contains r) _ fun r _ => by rw [any_rl], map_self _ fun _ => rfl]
  have e2 := List.length_filter_le (fun r => !rs.contains r) qs
  refine dss_ret (de_is (de_catT (ds := rsD rs) (es' := rsD (qs.filter fun r => !rs.contains r)) (de_var 0) (de_tupL rfl G.tup (de_is (de_lc (ds := rsD qs) (f := fun d => !(rsD rs).any fun z => PyData.eqv z d) (g := fun d => d) (j := 2) rfl nd rfl (.inl (de_var 1)) (blkOk_by (N := nJoined) (sc := defScope (topS 48)) (by decide +kernel)) (fun s H C cl fp => ⟨.inl rfl, .inr rfl⟩) (blkT_one fun d hd s H C cl fp => ?_) (fun d hd _ s H C cl fp => de_var 2) (fun d hd _ => ?_) (by rw [len_rs]; omega)) (by rw [e1]))) (by rw [len_rs, len_rs]; omega)) ?_)
  · obtain ⟨r, hr', rfl⟩ := List.mem_map.mp hd
    exact dt_nin (hu65 hr) (de_var 2) (.inl (de_var 0)) (sh_rl r) (sh_rs rs)
  · obtain ⟨r, hr', rfl⟩ := List.mem_map.mp hd
    exact noL_rl r
  · unfold joinL rsD
    rw [List.map_append]
end
end DSW
set_option Elab.async false
set_option linter.all false
set_option maxRecDepth 100000
set_option maxHeartbeats 2000000
/-! _law_is_settled, _law_settled. -/
namespace DSW
open PySem PySem.Spec PyProof.Rows L2 Evl
theorem stp_T {low : List Int} {r : Rl} (h : (!isNoneD (hdD r.1) && (!hdIn r.1 low && within r.2.1 low)) = true) : ∃ a, r.1 = some a ∧ stp low r = low ++ [a] := by
  rw [Bool.and_eq_true] at h
  obtain ⟨h1, h2⟩ := h
  cases q : r.1 with
  | none => rw [q] at h1; cases h1
  | some a =>
    refine ⟨a, rfl, ?_⟩
    rw [q] at h2
    have h2 : (!low.contains a && within r.2.1 low) = true := h2
    unfold stp
    rw [q]
    show (if (!low.contains a && within r.2.1 low) = true then _ else _) = _
    rw [if_pos h2]
theorem stp_F {low : List Int} {r : Rl} (h : (!isNoneD (hdD r.1) && (!hdIn r.1 low && within r.2.1 low)) = false) : stp low r = low := by
  unfold stp
  cases q : r.1 with
  | none => rfl
  | some a =>
    rw [q] at h
    have h2 : (!low.contains a && within r.2.1 low) = false := h
    show (if (!low.contains a && within r.2.1 low) = true then _ else _) = _
    rw [h2, if_neg Bool.false_ne_true]
theorem rsD_get {rs : List Rl} {i : Nat} {d : PyData} (h : (rsD rs)[i]? = some d) : ∃ r, rs[i]? = some r ∧ d = rlD r := by
  unfold rsD at h
  rw [List.getElem?_map] at h
  cases q : rs[i]? with
  | none => rw [q] at h; cases h
  | some r => rw [q] at h; exact ⟨r, rfl, (Option.some.inj h).symm⟩
theorem take_succ_of {α : Type} {l : List α} {i : Nat} {x : α} (h : l[i]? = some x) : l.take (i + 1) = l.take i ++ [x] := by rw [List.take_add_one, h]; rfl
theorem ds_nx {X : Cx} {st : Stmt} {ρ ρ' ρ'' : En} (h : DS X st ρ (.nx ρ')) (e : ρ' = ρ'') : DS X st ρ (.nx ρ'') := by rw [← e]; exact h
theorem dss_nx {X : Cx} {st : List Stmt} {ρ ρ' ρ'' : En} (h : DSs X st ρ (.nx ρ')) (e : ρ' = ρ'') : DSs X st ρ (.nx ρ'') := by rw [← e]; exact h
/-- the scope of the comprehension that a statement stores -/
def lcScope : Stmt → Scope
  | .Assign _ (.ListComp _ _ sc _) _ => sc
  | _ => { kind := .function, names := [], isGenerator := false, isCoroutine := false }
def stAt (i j : Nat) : Stmt := (defBody (topS i)).getD j (.Pass ⟨0, 0, 0, 0⟩)
section
variable {P : Program} {w : World} {K : PySem.W.Frag} {mg : Str → Option Value} {base : Heap} {f : Addr} {fd : FuncData}
abbrev nLS : List Str := ["_law_rules_here", "_law_chosen", "_law_able", "_law_low", "_law_lap", "_law_head", "_law_holds", "_law_fails", "_law_rule_here", "_law_atom"]
abbrev eLS (rs : List Rl) (c low : List Int) : En := [some (.d (.tuple (rsD rs))), some (.d (.tuple (itD c))), some (.d (.list (rsD (ables rs c)))), some (.d (.tuple (itD low))), none, none, none, none, none, none]
abbrev eLSi (rs : List Rl) (c low : List Int) (k : Nat) : En := [some (.d (.tuple (rsD rs))), some (.d (.tuple (itD c))), some (.d (.list (rsD (ables rs c)))), some (.d (.tuple (itD low))), some (.d (.int (k : Int))), none, none, none, none, none]
abbrev eLSb (rs : List Rl) (c low : List Int) (k : Nat) (r : Rl) : En := [some (.d (.tuple (rsD rs))), some (.d (.tuple (itD c))), some (.d (.list (rsD (ables rs c)))), some (.d (.tuple (itD low))), some (.d (.int (k : Int))), some (.d (hdD r.1)), some (.d (.tuple (itD r.2.1))), some (.d (.tuple (itD r.2.2))), none, none]
theorem pf_law_is_settled (D : Df K mg "_law_is_settled" (topS 46) f fd) (G : Gm mg) (F1 : Pf P w K mg base "_law_is_within" 1 FWithinL) : Pf P w K mg base "_law_is_settled" 2 FSett := by
  refine pf_mk (N := nLS) (ps := ["_law_rules_here", "_law_chosen"]) D.fn ⟨rfl, rfl, rfl, by decide +kernel, rfl, by decide +kernel, by decide +kernel⟩ D.mg (D.fn.binds fun _ _ _ _ _ _ us hl => match us, hl with | [_, _], _ => rfl) (by rintro _ _ ⟨n, r, _, rfl, rfl⟩; rfl) ?_
  rintro _ _ ⟨rs, c, hg, rfl, rfl⟩ cdv A outer s H E hr
  have nd : nLS.Nodup := by decide +kernel
  have hlen : (rsD rs).length ≤ 100000 := by rw [len_rs]; have := hg.1; omega
  have ga : Gd (ables rs c) := hg.filt _
  have hlena : (rsD (ables rs c)).length ≤ 100000 := by rw [len_rs]; have := ga.1; omega
  have e1 : ((rsD rs).filter fun d => remB c (unR d)).map (fun d => d) = rsD (ables rs c) := by
    rw [filt_rs rs (remB c) _ fun r _ => by rw [unR_rl], map_self _ fun _ => rfl]
    rfl
  have le4 : ∀ k, ((laps (ables rs c) k []).Nodup ∧ Bd 4 (laps (ables rs c) k [])) := fun k => laps_ok ga.hd k List.nodup_nil (fun x hx => by cases hx)
  rw [settB_law hg]
  refine dss_cons (ds_setLc (ds := rsD rs) (f := fun d => remB c (unR d)) (g := fun d => d) (j := 8) 2 rfl nd rfl rfl rfl (sw_true rfl rfl rfl (by decide +kernel)) (.inl (de_var 0)) (blkOk_by (N := nLS) (sc := defScope (topS 46)) (by decide +kernel)) (fun s H C cl fp => ⟨.inl rfl, .inr rfl⟩) (blkT_one fun d hd s H C cl fp => ?_) (fun d hd _ s H C cl fp => de_var 8) (fun d hd _ => ?_) hlen) ?_
  · obtain ⟨r, hr', rfl⟩ := List.mem_map.mp hd
    have e2 : ((itD r.2.2).filter fun d => (itD c).any fun z => PyData.eqv z d) = itD (r.2.2.filter fun i => c.contains i) := filt_it r.2.2 _ _ fun i _ => by rw [any_int]
    have hl2 := ((hg.sm).2 r hr').2
    refine dt_is (dt_eq (x := .list (itD (r.2.2.filter fun i => c.contains i))) (y := .list []) (hu64 hr) (de_is (de_lc (ds := itD r.2.2) (f := fun d => (itD c).any fun z => PyData.eqv z d) (g := fun d => d) (j := 9) rfl nd rfl (.inl (de_ixT (x := .tuple (itD r.2.2)) (de_var 8) de_int rfl)) (blkOk_by (N := nLS) (sc := relS (lcScope (stAt 46 0)) (defScope (topS 46))) (by decide +kernel)) (fun s H C cl fp => ⟨.inl rfl, .inr rfl⟩) (blkT_one fun d hd s H C cl fp => ?_) (fun d hd _ s H C cl fp => de_var 9) (fun d hd _ => ?_) (by rw [len_it]; omega)) (by rw [e2, map_self _ fun _ => rfl])) (de_lst (ds := []) da_nil (by decide)) (sh_lit _) sh_nil) ?_
    · obtain ⟨i, hi, rfl⟩ := List.mem_map.mp hd
      exact dt_in (hu65 hr) (de_var 9) (.inl (de_var 1)) rfl (sh_it c)
    · obtain ⟨i, hi, rfl⟩ := List.mem_map.mp hd
      rfl
    · rw [eqv_nil, emp_it, emp_filt, unR_rl]
      rfl
  · obtain ⟨r, hr', rfl⟩ := List.mem_map.mp hd
    exact noL_rl r
  rw [e1]
  refine dss_cons (ds_set 3 (de_tup (ds := []) da_nil (by decide)) nd) ?_
  refine dss_cons (ds_forR (n := 5) 4 (fun k => eLS rs c (laps (ables rs c) k [])) PassesOwn.never rfl (pg_name (i := 4) nd rfl (.inl rfl)) rfl G.rng de_int (by decide) (Fg.refl _) (fun k hk => ?_)) ?_
  · refine dss_fg (ρ' := eLSi rs c (laps (ables rs c) (k + 1) []) k) (dss_one (ds_nx (ds_for (ds := rsD (ables rs c)) (ρs := fun i => eLSi rs c (((ables rs c).take i).foldl stp (laps (ables rs c) k [])) k) (ρb := fun i => eLSb rs c (((ables rs c).take i).foldl stp (laps (ables rs c) k [])) k ((ables rs c).getD i (none, [], [])))
      PassesOwn.never rfl (pg_tup (n := 3) rfl (pgs_cons (pg_name (i := 5) nd rfl (.inl rfl)) (pgs_cons (pg_name (i := 6) nd rfl (.inl rfl)) (pgs_cons (pg_name (i := 7) nd rfl (.inl rfl)) pgs_nil))) rfl rfl) (.inr (de_var 2)) (Fg.refl _) (fun i d hd => ?_) (fun i d hd => ?_)) ?_)) (fg_keep (fg_keep (fg_keep (fg_keep (fg_drop (fg_keep (fg_keep (fg_keep (fg_keep (fg_keep fg_nil))))))))))
    · obtain ⟨r, hr', rfl⟩ := rsD_get hd
      have eg : (ables rs c).getD i (none, [], []) = r := by rw [List.getD_eq_getElem?_getD, hr']; rfl
      show Tgt _ _ _ _ (eLSb rs c _ k ((ables rs c).getD i (none, [], [])))
      rw [eg]
      exact tgt_tup3 5 6 7
    · obtain ⟨r, hr', rfl⟩ := rsD_get hd
      have eg : (ables rs c).getD i (none, [], []) = r := by rw [List.getD_eq_getElem?_getD, hr']; rfl
      show DSs _ _ (eLSb rs c _ k ((ables rs c).getD i (none, [], []))) (.nx (eLSi rs c (((ables rs c).take (i + 1)).foldl stp (laps (ables rs c) k [])) k))
      rw [eg, take_succ_of hr', List.foldl_append]
      have gt : HdBd 4 ((ables rs c).take i) := fun r hr' a e => ga.hd r (List.mem_of_mem_take hr') a e
      have hlow : (((ables rs c).take i).foldl stp (laps (ables rs c) k [])).length ≤ 4 := len_bd 4 _ (lap_ok gt (le4 k).1 (le4 k).2).1 (lap_ok gt (le4 k).1 (le4 k).2).2
      revert hlow
      generalize ((ables rs c).take i).foldl stp (laps (ables rs c) k []) = low
      intro hlow
      have hrl := ((ga.sm).2 r (List.mem_of_getElem? hr')).1
      show DSs _ _ _ (.nx (eLSi rs c (stp low r) k))
      refine dss_fg (ρ' := eLSb rs c (stp low r) k r) (dss_one (ds_if (k := !isNoneD (hdD r.1) && (!hdIn r.1 low && within r.2.1 low)) ?_ (fun h => ?_) (fun h => ?_))) (fg_keep (fg_keep (fg_keep (fg_keep (fg_keep (fg_drop (fg_drop (fg_drop (fg_keep (fg_keep fg_nil))))))))))
      · exact dt_w (dw_and (dt_notN (de_var 5)) fun _ => dw_and (dt_is (dt_nin (hu65 hr) (de_var 5) (.inl (de_var 3)) (sh_hd _) (sh_it low)) (by rw [any_hd])) fun _ => dw_and1 (dt_val (de_call F1 hr rfl (da_cons (de_var 6) (da_cons (de_var 3) da_nil)) ⟨r.2.1, low, hrl, rfl, rfl⟩)))
      · obtain ⟨a, ha, es⟩ := stp_T h
        rw [es]
        have ha' : hdD r.1 = .int a := by rw [ha]; rfl
        exact dss_nx (dss_one (ds_set 3 (de_is (de_catT (ds := itD low) (es' := [.int a]) (de_var 3) (de_tup (ds := [.int a]) (da_cons (de_is (de_var 5) (by rw [ha'])) da_nil) (show 1 ≤ 100000 by decide)) (by rw [len_it]; show low.length + 1 ≤ _; omega)) (by rw [itD_app])) nd)) rfl
      · rw [stp_F h]
        exact dss_nil
    · show eLSi rs c (((ables rs c).take (rsD (ables rs c)).length).foldl stp (laps (ables rs c) k [])) k = _
      rw [len_rs, List.take_length, laps_succ]
      rfl
  · have hnd := (le4 5).1
    have hll : (srt (laps (ables rs c) 5 [])) = lfp (ables rs c) := rfl
    have gs : ∀ q : Rl → Bool, ((rsD (ables rs c)).filter fun d => q (unR d)).map (fun d => d) = rsD ((ables rs c).filter q) := fun q => by
      rw [filt_rs (ables rs c) q _ fun r _ => by rw [unR_rl], map_self _ fun _ => rfl]
    refine dss_if (k := !decide (lfp (ables rs c) = c)) ?_ (fun h => ?_) fun h => ?_
    · exact dt_is (dt_ne (x := .tuple (itD (lfp (ables rs c)))) (y := .tuple (itD c)) (hu64 hr) (de_tupL rfl G.tup (de_sortedTI (l := laps (ables rs c) 5 []) rfl G.srt (de_var 3) hnd)) (de_var 1) (sh_it _) (sh_it _)) (by rw [eqv_tup])
    · have e3 : lawB rs c = false := by
        unfold lawB
        have : decide (lfp (ables rs c) = c) = false := by
          cases q : decide (lfp (ables rs c) = c) with
          | true => rw [q] at h; cases h
          | false => rfl
        rw [this, Bool.false_and]
      rw [e3]
      exact ⟨dss_ret de_bl, _, rfl⟩
    · have e3 : lawB rs c = ((ables rs c).filter fun r => r.1.isNone && within r.2.1 c).isEmpty := by
        unfold lawB
        have : decide (lfp (ables rs c) = c) = true := by
          cases q : decide (lfp (ables rs c) = c) with
          | true => rfl
          | false => rw [q] at h; cases h
        rw [this, Bool.true_and]
      rw [e3]
      refine dss_ret (de_is (de_eq (x := .list (rsD ((ables rs c).filter fun r => r.1.isNone && within r.2.1 c))) (y := .list []) (hu64 hr) (de_is (de_lc (ds := rsD (ables rs c)) (f := fun d => (unR d).1.isNone && within (unR d).2.1 c) (g := fun d => d) (j := 8) rfl nd rfl (.inr (de_var 2)) (blkOk_by (N := nLS) (sc := defScope (topS 46)) (by decide +kernel)) (fun s H C cl fp => ⟨.inl rfl, .inr rfl⟩) (blkT_one fun d hd s H C cl fp => ?_) (fun d hd _ s H C cl fp => de_var 8) (fun d hd _ => ?_) hlena) (by rw [gs fun r => r.1.isNone && within r.2.1 c])) (de_lst (ds := []) da_nil (by decide)) (sh_lrs _) sh_nil) (by rw [eqv_nil, emp_rs]))
      · obtain ⟨r, hr', rfl⟩ := List.mem_map.mp hd
        rw [unR_rl]
        exact dt_w (dw_and (dt_is (dt_isN (de_ixT (x := hdD r.1) (de_var 8) de_int rfl)) (isN_hd _)) fun _ => dw_and1 (dt_val (de_call F1 hr rfl (da_cons (de_ixT (x := .tuple (itD r.2.1)) (de_var 8) de_int rfl) (da_cons (de_var 1) da_nil)) ⟨r.2.1, c, ((ga.sm).2 r hr').1, rfl, rfl⟩)))
      · obtain ⟨r, hr', rfl⟩ := List.mem_map.mp hd
        exact noL_rl r
abbrev FSettT (ds : List Dv) (d : Dv) : Prop := ∃ (n : Nat) (rs : List Rl), n ≤ 4 ∧ Gd rs ∧ ds = [.d (.int (n : Int)), .d (.tuple (rsD rs))] ∧ d = .d (.tuple ((settL n rs).map tpD))
abbrev nLT : List Str := ["_law_atoms", "_law_rules_here", "_law_chosen"]
theorem pf_law_settled (D : Df K mg "_law_settled" (topS 47) f fd) (G : Gm mg) (F1 : Pf P w K mg base "_law_sets" 1 FSets) (F2 : Pf P w K mg base "_law_is_settled" 2 FSett) : Pf P w K mg base "_law_settled" 3 FSettT := by
  refine pf_mk (N := nLT) (ps := ["_law_atoms", "_law_rules_here"]) D.fn ⟨rfl, rfl, rfl, by decide +kernel, rfl, by decide +kernel, by decide +kernel⟩ D.mg (D.fn.binds fun _ _ _ _ _ _ us hl => match us, hl with | [_, _], _ => rfl) (by rintro _ _ ⟨n, r, _, _, rfl, rfl⟩; rfl) ?_
  rintro _ _ ⟨n, rs, hn, hg, rfl, rfl⟩ cdv A outer s H E hr
  have nd : nLT.Nodup := by decide +kernel
  refine dss_ret (de_tupL rfl G.tup (de_is (de_lc (ds := (setsL n).map tpD) (f := fun d => settB rs (unIs d)) (g := fun d => d) (j := 2) rfl nd rfl (.inr (de_call (F1.mono (by decide)) hr rfl (da_cons (de_var 0) da_nil) ⟨n, hn, rfl, rfl⟩)) (blkOk_by (N := nLT) (sc := defScope (topS 47)) (by decide +kernel)) (fun s H C cl fp => ⟨.inl rfl, .inr rfl⟩) (blkT_one fun d hd s H C cl fp => ?_) (fun d hd _ s H C cl fp => de_var 2) (fun d hd _ => ?_) ?_) ?_))
  · obtain ⟨l, _, rfl⟩ := List.mem_map.mp hd
    refine dt_val (de_call F2 hr rfl (da_cons (de_var 1) (da_cons (de_var 2) da_nil)) ⟨rs, l, hg, rfl, ?_⟩)
    show _ = Dv.d (.bool (settB rs l))
    rw [show unIs (tpD l) = l from unIs_it l]
  · obtain ⟨l, _, rfl⟩ := List.mem_map.mp hd
    exact noL_tp l
  · rw [List.length_map]; have := setsL_small hn; omega
  · rw [filt_tp (setsL n) (settB rs) _ fun l _ => by rw [show unIs (tpD l) = l from unIs_it l], map_self _ fun _ => rfl]
    rfl
end
end DSW
set_option Elab.async false
set_option linter.all false
set_option maxRecDepth 100000
set_option maxHeartbeats 2000000
/-! A def's own list of ints that grows. -/
namespace DSW
open PySem PySem.Spec PyProof.Rows L2 Evl
def rm (H : Hp) (a : Addr) : Hp := fun b => if b = a then none else H b
theorem rm_ne {H : Hp} {a b : Addr} (h : b ≠ a) : rm H a b = H b := if_neg h
theorem rm_same {H : Hp} {a : Addr} : rm H a a = none := if_pos rfl
theorem rm_some {H : Hp} {a b : Addr} {o : HO} (h : rm H a b = some o) : b ≠ a ∧ H b = some o := by
  by_cases e : b = a
  · subst e; rw [rm_same] at h; cases h
  · exact ⟨e, (rm_ne e).symm.trans h⟩
theorem rm_ex {H : Hp} {a : Addr} : Ex (rm H a) H := fun b o h => (rm_some h).2
theorem rm_mono {H H' : Hp} {a : Addr} (e : Ex H H') : Ex (rm H a) (rm H' a) := fun b o h => by
  obtain ⟨n, q⟩ := rm_some h
  rw [rm_ne n]
  exact e b o q
theorem rm_upd {H : Hp} {a : Addr} {o : HO} : rm (upd H a o) a = rm H a := by
  funext b
  by_cases e : b = a
  · subst e; rw [rm_same, rm_same]
  · rw [rm_ne e, rm_ne e, upd_ne e]
theorem rm_id {H : Hp} {a : Addr} (h : H a = none) : Ex H (rm H a) := fun b o e => by
  rw [rm_ne (ne_of_none e h)]
  exact e
def Mt (K : PySem.W.Frag) (H0 : Hp) (j : Nat) (l : List Int) (ρ : En) (σ : L2.St) (H : Hp) : Prop := ∃ a, H0 a = none ∧ Ex H0 H ∧ σ[j]? = some (some (V.ref a)) ∧ H a = some (.lst (l.map V.int)) ∧ Rs K (rm H a) σ ρ
def tM (K : PySem.W.Frag) (j : Nat) (l : List Int) (ρ : En) (l' : List Int) (ρ' : En) : TS := fun D σ H => ∃ H0, Mt K H0 j l ρ σ H ∧ ∀ σ' H', Mt K H0 j l' ρ' σ' H' → D.nx σ' H'
abbrev DM (X : Cx) (st : Stmt) (j : Nat) (l : List Int) (ρ : En) (l' : List Int) (ρ' : En) : Prop := PS X st (tM X.K j l ρ l' ρ')
abbrev DMs (X : Cx) (st : List Stmt) (j : Nat) (l : List Int) (ρ : En) (l' : List Int) (ρ' : En) : Prop := PSs X st (tM X.K j l ρ l' ρ')
section
variable {X : Cx} {ρ ρ' ρ'' : En} {e : Expr} {st : Stmt} {rest body : List Stmt} {pos pos' : Pos} {x : Str} {j : Nat} {l l' l'' : List Int}
theorem Mt.fg {K : PySem.W.Frag} {H0 : Hp} {σ : L2.St} {H : Hp} (h : Mt K H0 j l ρ σ H) (f : Fg ρ ρ') : Mt K H0 j l ρ' σ H := by
  obtain ⟨a, h1, h2, h3, h4, h5⟩ := h
  exact ⟨a, h1, h2, h3, h4, h5.fg f⟩
theorem dms_nil : DMs X [] j l ρ l ρ := pss_nil.imp fun D σ H ⟨H0, m, q⟩ => q σ H m
theorem dms_cons (h1 : DM X st j l ρ l' ρ') (h2 : DMs X rest j l' ρ' l'' ρ'') : DMs X (st :: rest) j l ρ l'' ρ'' :=
  (pss_cons h1 h2).imp fun D σ H ⟨H0, m, q⟩ => ⟨H0, m, fun σ' H' m' => ⟨H0, m', q⟩⟩
theorem dms_one (h1 : DM X st j l ρ l' ρ') : DMs X [st] j l ρ l' ρ' := pss_one h1
theorem dms_fg (h : DMs X body j l ρ l' ρ') (f : Fg ρ' ρ'') : DMs X body j l ρ l' ρ'' := h.imp fun D σ H ⟨H0, m, q⟩ => ⟨H0, m, fun σ' H' m' => q σ' H' (m'.fg f)⟩
/-- x = e, an int -/
theorem dm_set {z : Int} (i : Nat) (h : DE X e ρ (.d (.int z))) (hij : i ≠ j) (hN : X.N.Nodup) (hi : X.N[i]? = some x := by rfl) (hx : Loc X.env.scope x := by first | exact Or.inl rfl | exact Or.inr rfl) (hs : swapsWith e (some (.Name x pos')) pos.line X.env = pure false := by rfl)
    (hf : X.fn x = true ∨ X.env.scope.names.lookup x = some .local := by first | exact .inl rfl | exact .inr rfl) : DM X (.Assign [.Name x pos'] e pos) j l ρ l (ρ.set i (some (.d (.int z)))) :=
  (ps_set hN hi hx h hs hf).imp fun D σ H ⟨H0, ⟨a, h1, h2, h3, h4, h5⟩, q⟩ => ⟨h5.ex rm_ex, fun v H1 e1 r => q _ H1 ⟨a, h1, h2.trans e1, by rw [List.getElem?_set_ne hij]; exact h3, e1 _ _ h4, (h5.ex (rm_mono e1)).set (rv_int.mpr (rv_int.mp r))⟩⟩
/-- found.append(e), an int -/
theorem dm_app {z : Int} {p p2 apos : Pos} (h : DE X e ρ (.d (.int z))) (hz : l.length ≤ 1000) (hj : X.N[j]? = some x := by rfl) (hv : Vis X.env.scope x := by first | exact Or.inl rfl | exact Or.inr (Or.inl rfl) | exact Or.inr (Or.inr rfl))
    (hd : (x == ("__debug__" : Str)) = false := by decide) (hcd : (x == ("__classdict__" : Str)) = false := by decide)
    (hbase : attributeBase (.Name x p) "append" X.env (eval (.Name x p) X.env) = eval (.Name x p) X.env := by rfl)
    (hfew : ((backTo p2 (starEach (e :: []) X.env)).all (fun x => !x.1) && (backToKw p2 (keywordEach [] X.env)).all (fun x => x.1.isSome)
      && decide ((e :: []).length + ([] : List Keyword).length + (if ([] : List Keyword).isEmpty then 0 else 1) < 30)) = true := by rfl)
    (hline : (apos.endLine == p2.line) = true := by rfl) (hs : starEach (e :: []) X.env = (false, eval e X.env) :: starEach [] X.env := by rfl) (hplain : (backTo p2 (starEach [] X.env)).any (·.1) = false := by rfl)
    (hsw : swapsWith (.Call (.Attribute (.Name x p) "append" apos) [e] [] p2) none pos.line X.env = pure false := by rfl) :
    DM X (.Expr (.Call (.Attribute (.Name x p) "append" apos) [e] [] p2) pos) j l ρ (l ++ [z]) ρ :=
  (ps_expr (pe_bm PySem.F.plainAttrs_list PySem.F.slot_list_append PySem.F.type_list_append mt_append (pe_var hj hv hd hcd) (pa_cons h pa_nil hs) hbase hfew hline hs hplain) hsw).imp fun D σ H ⟨H0, ⟨a, h1, h2, h3, h4, h5⟩, q⟩ => by
    refine ⟨_, h3, .inl ⟨rfl, _, SqL.of h4⟩, h5.ex rm_ex, fun v H1 e1 r => ?_⟩
    rw [rv_int.mp r]
    refine ⟨a, _, _, rfl, rfl, e1 _ _ h4, ?_, q _ _ ⟨a, h1, Ex.mut (h2.trans e1) h1, h3, ?_, ?_⟩⟩
    · rw [List.length_map]; exact sz_lt (by omega)
    · rw [upd_same, List.map_append]
      rfl
    · rw [rm_upd]
      exact h5.ex (rm_mono e1)
/-- what a for loop walks: a list of ints that is not the growing one -/
def tI (K : PySem.W.Frag) (ρ : En) (m : List Int) : TE := fun σ H Q => ∃ a, (∃ o, H a = some o) ∧ Rs K (rm H a) σ ρ ∧ ∀ b H1, Ex H H1 → b ≠ a → H1 b = some (.lst (m.map V.int)) → Q (.ref b) H1
theorem ints_of' {K : PySem.W.Frag} {H : Hp} : ∀ {l : List Int} {xs : List V}, DqA K H (itD l) xs → xs = l.map V.int
  | [], _, h => dqA_nil.mp h
  | i :: l, _, h => by
    obtain ⟨v, r, e, h1, h2⟩ := dqA_cons.mp h
    rw [e, dq_int.mp h1, ints_of' h2]
    rfl
theorem di_var {m : List Int} {p : Pos} (i : Nat) (hd' : ρ[i]? = some (some (.d (.list (itD m)))) := by rfl) (hN : X.N[i]? = some x := by rfl) (hv : Vis X.env.scope x := by first | exact Or.inl rfl | exact Or.inr (Or.inl rfl) | exact Or.inr (Or.inr rfl))
    (hd : (x == ("__debug__" : Str)) = false := by decide) (hcd : (x == ("__classdict__" : Str)) = false := by decide) : PE X (.Name x p) (tI X.K ρ m) :=
  (pe_var hN hv hd hcd).imp fun σ H Q ⟨a, ⟨o, ho⟩, hs, q⟩ => by
    obtain ⟨v, e1, r⟩ := hs.2 i _ hd'
    obtain ⟨b, xs, rfl, hb, hA⟩ := rv_lst.mp r
    obtain ⟨nb, hb'⟩ := rm_some hb
    rw [ints_of' hA] at hb'
    exact ⟨_, e1, q b H (Ex.refl H) nb hb'⟩
theorem Mt.base {K : PySem.W.Frag} {H0 H1 : Hp} {σ : L2.St} {H : Hp} (e : Ex H0 H1) (h : Mt K H1 j l ρ σ H) : Mt K H0 j l ρ σ H := by
  obtain ⟨a, h1, h2, h3, h4, h5⟩ := h
  refine ⟨a, ?_, e.trans h2, h3, h4, h5⟩
  cases q : H0 a with
  | none => rfl
  | some o => rw [e a o q] at h1; cases h1
theorem dm_for {iter : Expr} {m : List Int} {tp : Pos} (i : Nat) (ls : Nat → List Int) (ρs : Nat → En) (hp : PassesOwn (model X.prog X.w) X.A X.env X.xe) (hc : X.calm = true) (hg : PG X (.Name x tp) (gName i)) (hij : i ≠ j) (hi : PE X iter (tI X.K ρ m))
    (h0 : Fg ρ (ρs 0)) (hb : ∀ (k : Nat) (z : Int), m[k]? = some z → DMs X body j (ls k) ((ρs k).set i (some (.d (.int z)))) (ls (k + 1)) (ρs (k + 1))) (hs : ∀ x, foldedSetIterable iter X.env x = pure x := by intro _; rfl) :
    DM X (.For (.Name x tp) iter body [] pos) j (ls 0) ρ (ls m.length) (ρs m.length) := by
  have hbody : PSs X body (fun D σ H => ∃ (k : Nat) (z : Int), m[k]? = some z ∧ tM X.K j (ls k) ((ρs k).set i (some (.d (.int z)))) (ls (k + 1)) (ρs (k + 1)) D σ H) := ⟨fun pins s σ H D I ⟨k, z, hz, q⟩ => (hb k z hz).run pins s σ H D I q⟩
  refine (ps_for hp hc (pi_list hi) hg hbody hs).imp fun D σ H ⟨H0, ⟨a, h1, h2, h3, h4, h5⟩, q⟩ => ⟨a, ⟨_, h4⟩, h5, fun b H1 e1 nb hq => ?_⟩
  have f1 : Ex H0 (rm H1 a) := (rm_id h1).trans (rm_mono (h2.trans e1))
  refine ⟨b, rfl, ⟨_, SqL.of hq⟩, ?_⟩
  refine for_list (g := gName i) (tb := fun D σ H => ∃ (k : Nat) (z : Int), m[k]? = some z ∧ tM X.K j (ls k) ((ρs k).set i (some (.d (.int z)))) (ls (k + 1)) (ρs (k + 1)) D σ H) (D := D) (xs := m.map V.int) (fun k σ' H' => Mt X.K (rm H1 a) j (ls k) (ρs k) σ' H') ⟨a, rm_same, rm_ex, h3, e1 _ _ h4, (h5.ex (rm_mono e1)).fg h0⟩ (fun k σ' H' _ p => ?_) (fun k y σ' H' hy p => ?_) fun σ' H' p => ?_
  · obtain ⟨a', p1, p2, _⟩ := p
    exact SqL.of (p2 b _ ((rm_ne nb).trans hq))
  · rw [List.getElem?_map] at hy
    cases hz : m[k]? with
    | none => rw [hz] at hy; cases hy
    | some z =>
      rw [hz] at hy
      cases hy
      obtain ⟨a', p1, p2, p3, p4, p5⟩ := p
      exact ⟨k, z, hz, rm H1 a, ⟨a', p1, p2, by rw [List.getElem?_set_ne hij]; exact p3, p4, p5.set (rv_int.mpr rfl)⟩, fun σ3 H3 m3 => m3⟩
  · rw [List.length_map] at p
    exact q σ' H' (p.base f1)
/-- for x in range(e) -/
theorem dm_forR {n : Nat} {p p2 tp : Pos} (i : Nat) (ls : Nat → List Int) (ρs : Nat → En) (hp : PassesOwn (model X.prog X.w) X.A X.env X.xe) (hc : X.calm = true) (hg : PG X (.Name x tp) (gName i)) (hij : i ≠ j) (hgr : Gl X "range") (hmr : X.mg "range" = none) (hi : DE X e ρ (.d (.int (n : Int)))) (hz : n ≤ 100000)
    (h0 : Fg ρ (ρs 0)) (hb : ∀ k : Nat, k < n → DMs X body j (ls k) ((ρs k).set i (some (.d (.int (k : Int))))) (ls (k + 1)) (ρs (k + 1))) (hst : starEach [e] X.env = [(false, eval e X.env)] := by rfl) (hs : ∀ x, foldedSetIterable (.Call (.Name "range" p) [e] [] p2) X.env x = pure x := by intro _; rfl) :
    DM X (.For (.Name x tp) (.Call (.Name "range" p) [e] [] p2) body [] pos) j (ls 0) ρ (ls n) (ρs n) := by
  have hbody : PSs X body (fun D σ H => ∃ k : Nat, k < n ∧ tM X.K j (ls k) ((ρs k).set i (some (.d (.int (k : Int))))) (ls (k + 1)) (ρs (k + 1)) D σ H) := ⟨fun pins s σ H D I ⟨k, hz, q⟩ => (hb k hz).run pins s σ H D I q⟩
  refine (ps_for hp hc (pi_range1 hgr hmr (da_cons hi da_nil hst) hst) hg hbody hs).imp fun D σ H ⟨H0, ⟨a, h1, h2, h3, h4, h5⟩, q⟩ => ⟨h5.ex rm_ex, fun vs H1 e1 r => ?_⟩
  obtain ⟨v, rfl, rv⟩ := rvA1 r
  refine ⟨(n : Int), by rw [rv_int.mp rv], by omega, by omega, ?_⟩
  have en : ((n : Int)).toNat = n := by simp
  rw [en]
  refine for_range (lo := 0) (g := gName i) (tb := fun D σ H => ∃ k : Nat, k < n ∧ tM X.K j (ls k) ((ρs k).set i (some (.d (.int (k : Int))))) (ls (k + 1)) (ρs (k + 1)) D σ H) (D := D) (fun k σ' H' => Mt X.K H0 j (ls k) (ρs k) σ' H') ⟨a, h1, h2.trans e1, h3, e1 _ _ h4, (h5.ex (rm_mono e1)).fg h0⟩ (fun k σ' H' hlt p => ?_) fun σ' H' p => q σ' H' p
  obtain ⟨a', p1, p2, p3, p4, p5⟩ := p
  refine ⟨k, hlt, H0, ⟨a', p1, p2, by rw [List.getElem?_set_ne hij]; exact p3, p4, p5.set ?_⟩, fun σ3 H3 m3 => m3⟩
  rw [Int.zero_add]
  exact rv_int.mpr rfl
/-- found = [] -/
def tF (K : PySem.W.Frag) (j : Nat) (ρ ρ' : En) : TS := fun D σ H => Rs K H σ ρ ∧ ∀ σ' H', Mt K H j [] ρ' σ' H' → D.nx σ' H'
theorem df_nil (hN : X.N.Nodup) (hρ : j < ρ.length) (hi : X.N[j]? = some x := by rfl) (hx : Loc X.env.scope x := by first | exact Or.inl rfl | exact Or.inr rfl) (hs : swapsWith (.List [] pos') (some (.Name x p)) pos.line X.env = pure false := by rfl)
    (hf : X.fn x = true ∨ X.env.scope.names.lookup x = some .local := by first | exact .inl rfl | exact .inr rfl) : PS X (.Assign [.Name x p] (.List [] pos') pos) (tF X.K j ρ (ρ.set j none)) :=
  (ps_set hN hi hx (pe_lst pa_nil) hs hf).imp fun D σ H ⟨hr, q⟩ => ⟨sz_of (by decide), fun p hp => q _ _ ⟨p, hp, Ex.new hp, List.getElem?_set_self (by rw [hr.1]; exact hρ), upd_same, by rw [rm_upd]; exact (hr.ex (rm_id hp)).drop⟩⟩
/-- found = [] .. the loop(s) .. the rest, which sees the whole list -/
theorem dss_own {o : Out} (h1 : PS X st (tF X.K j ρ ρ')) (h2 : PSs X body (fun D σ H => ∃ H0, Mt X.K H0 j [] ρ' σ H ∧ Out.at X.K D H0 o)) : DSs X (st :: body) ρ o :=
  (pss_cons h1 h2).imp fun D σ H ⟨hr, q⟩ => ⟨hr, fun σ' H' m => ⟨H, m, q⟩⟩
/-- .. a loop within -/
theorem dso_loop {o : Out} (h1 : DM X st j l ρ l' ρ') (h2 : DSs X rest (ρ'.set j (some (.d (.list (itD l'))))) o) : PSs X (st :: rest) (fun D σ H => ∃ H0, Mt X.K H0 j l ρ σ H ∧ Out.at X.K D H0 o) :=
  (pss_cons h1 h2).imp fun D σ H ⟨H0, m, q⟩ => ⟨H0, m, fun σ' H' m' => by
    obtain ⟨a, h1, h2, h3, h4, h5⟩ := m'
    refine ⟨⟨by rw [List.length_set]; exact h5.1, fun i d e => ?_⟩, Out.at_ex h2 q⟩
    by_cases hji : j = i
    · subst hji
      by_cases hl : j < ρ'.length
      · rw [List.getElem?_set_self hl] at e
        cases e
        exact ⟨_, h3, rv_lst.mpr ⟨a, _, rfl, h4, ints_dq⟩⟩
      · rw [List.getElem?_eq_none (by simpa using hl)] at e
        cases e
    · rw [List.getElem?_set_ne hji] at e
      obtain ⟨v, e1, r⟩ := (h5.ex rm_ex).2 i d e
      exact ⟨v, e1, r⟩⟩
theorem dso_set {o : Out} (h : DM X st j l ρ l ρ') (h2 : PSs X rest (fun D σ H => ∃ H0, Mt X.K H0 j l ρ' σ H ∧ Out.at X.K D H0 o)) : PSs X (st :: rest) (fun D σ H => ∃ H0, Mt X.K H0 j l ρ σ H ∧ Out.at X.K D H0 o) :=
  (pss_cons h h2).imp fun D σ H ⟨H0, m, q⟩ => ⟨H0, m, fun σ' H' m' => ⟨H0, m', q⟩⟩
/-- if c: (which returns) -/
theorem dso_if {o : Out} {k : Bool} {c : Expr} (hc : DT X c ρ k) (h1 : k = true → PSs X body (fun D σ H => ∃ H0, Mt X.K H0 j l ρ σ H ∧ Out.at X.K D H0 o)) (ho : ∃ d, o = .rt d) (h2 : k = false → PSs X rest (fun D σ H => ∃ H0, Mt X.K H0 j l ρ σ H ∧ Out.at X.K D H0 o)) :
    PSs X (.If c body [] pos :: rest) (fun D σ H => ∃ H0, Mt X.K H0 j l ρ σ H ∧ Out.at X.K D H0 o) := by
  obtain ⟨d, e⟩ := ho
  subst e
  have up : ∀ {H0 σ H H'}, Mt X.K H0 j l ρ σ H → Ex H H' → Mt X.K H0 j l ρ σ H' := fun m e1 => by
    obtain ⟨a, h1, h2, h3, h4, h5⟩ := m
    exact ⟨a, h1, h2.trans e1, h3, e1 _ _ h4, h5.ex (rm_mono e1)⟩
  have rs : ∀ {H0 σ H}, Mt X.K H0 j l ρ σ H → Rs X.K H σ ρ := fun m => by
    obtain ⟨a, h1, h2, h3, h4, h5⟩ := m
    exact h5.ex rm_ex
  cases k with
  | true =>
    exact (pss_cons (ps_if hc (h1 rfl) (u := fun _ _ _ => False) ⟨fun _ _ _ _ _ _ z => z.elim⟩) (u := fun _ _ _ => False) ⟨fun _ _ _ _ _ _ z => z.elim⟩).imp fun D σ H ⟨H0, m, q⟩ => ⟨rs m, fun H1 e1 => iteT ⟨H0, up m e1, q⟩⟩
  | false =>
    exact (pss_cons (ps_if hc (t := fun _ _ _ => False) ⟨fun _ _ _ _ _ _ z => z.elim⟩ pss_nil) (h2 rfl)).imp fun D σ H ⟨H0, m, q⟩ => ⟨rs m, fun H1 e1 => iteF ⟨H0, up m e1, q⟩⟩
end
end DSW
set_option Elab.async false
set_option linter.all false
set_option maxRecDepth 100000
set_option maxHeartbeats 2000000
/-! _law_cell, _law_draws. -/
namespace DSW
open PySem PySem.Spec PyProof.Rows L2 Evl
def stA (s : Int × List Int) (z : Int) : Int × List Int := (s.1 / z, s.2 ++ [s.1 % z])
def drawsA (left : Int) (m : List Int) : List Int := (m.foldl stA (left, [])).2
def mixk (c : Int) (k : Nat) : Int := ((c * 48271 + (k : Int) * 69621 + 11) % 2147483647 * 16807 + (k : Int)) % 998244353
def stB (c : Int) (m : List Int) (l : List Int) (k : Nat) : List Int := l ++ [mixk c k % m.getD k 1]
def drawsB (c : Int) (m : List Int) : List Int := (List.range m.length).foldl (stB c m) []
def draws (c : Int) (m : List Int) : List Int := if 10 ^ 18 ≤ c then drawsA (c - 10 ^ 18) m else drawsB c m
/-- sizes as they are asked for -/
def Sz (m : List Int) : Prop := m.length ≤ 100 ∧ ∀ z ∈ m, 0 < z ∧ z < 1073741824
theorem Sz.get {m : List Int} (h : Sz m) {k : Nat} (hk : k < m.length) : 0 < m.getD k 1 ∧ m.getD k 1 < 1073741824 := by
  rw [List.getD_eq_getElem?_getD, List.getElem?_eq_getElem hk]
  exact h.2 _ (List.getElem_mem hk)
theorem stA_len : ∀ (m : List Int) (s : Int × List Int), (m.foldl stA s).2.length = s.2.length + m.length
  | [], s => rfl
  | z :: m, s => by
    rw [List.foldl_cons, stA_len m]
    unfold stA
    simp only [List.length_append, List.length_cons, List.length_nil]
    omega
theorem drawsA_len (left : Int) (m : List Int) : (drawsA left m).length = m.length := by
  unfold drawsA
  rw [stA_len]
  exact Nat.zero_add _
theorem drawsB_take (c : Int) (m : List Int) : ∀ n : Nat, ((List.range n).foldl (stB c m) []).length = n ∧ ∀ k, k < n → ((List.range n).foldl (stB c m) []).getD k 0 = mixk c k % m.getD k 1
  | 0 => ⟨rfl, fun k h => absurd h (Nat.not_lt_zero _)⟩
  | n + 1 => by
    obtain ⟨h1, h2⟩ := drawsB_take c m n
    rw [List.range_succ, List.foldl_append]
    show (stB c m ((List.range n).foldl (stB c m) []) n).length = _ ∧ ∀ k, k < n + 1 → (stB c m ((List.range n).foldl (stB c m) []) n).getD k 0 = _
    unfold stB at h1 h2 ⊢
    refine ⟨by rw [List.length_append, h1]; rfl, fun k hk => ?_⟩
    rcases Nat.lt_succ_iff_lt_or_eq.mp hk with q | q
    · rw [List.getD_eq_getElem?_getD, List.getElem?_append_left (by rw [h1]; exact q), ← List.getD_eq_getElem?_getD]
      exact h2 k q
    · subst q
      rw [List.getD_eq_getElem?_getD, List.getElem?_append_right (by rw [h1]; exact Nat.le_refl _), h1, Nat.sub_self]
      rfl
theorem draws_len (c : Int) (m : List Int) : (draws c m).length = m.length := by
  unfold draws
  split
  · exact drawsA_len _ _
  · exact (drawsB_take c m m.length).1
theorem stA_get : ∀ (m : List Int) (s : Int × List Int) (k : Nat), k < m.length → ∃ x : Int, (m.foldl stA s).2.getD (s.2.length + k) 0 = x % m.getD k 1
  | [], s, k, h => absurd h (Nat.not_lt_zero _)
  | z :: m, s, 0, h => by
    refine ⟨s.1, ?_⟩
    rw [List.foldl_cons]
    have key : ∀ (m : List Int) (t : Int × List Int) (i : Nat), i < t.2.length → (m.foldl stA t).2.getD i 0 = t.2.getD i 0 := by
      intro m
      induction m with
      | nil => intro t i _; rfl
      | cons y m ih =>
        intro t i hi
        rw [List.foldl_cons, ih (stA t y) i (by unfold stA; rw [List.length_append]; omega)]
        unfold stA
        rw [List.getD_eq_getElem?_getD, List.getElem?_append_left hi, ← List.getD_eq_getElem?_getD]
    rw [key m (stA s z) (s.2.length + 0) (by unfold stA; rw [List.length_append]; show s.2.length + 0 < s.2.length + 1; omega)]
    unfold stA
    rw [List.getD_eq_getElem?_getD, List.getElem?_append_right (by omega), Nat.add_zero, Nat.sub_self]
    rfl
  | z :: m, s, k + 1, h => by
    rw [List.foldl_cons]
    obtain ⟨x, hx⟩ := stA_get m (stA s z) k (by simpa using h)
    refine ⟨x, ?_⟩
    have e : (stA s z).2.length + k = s.2.length + (k + 1) := by unfold stA; rw [List.length_append]; show s.2.length + 1 + k = _; omega
    rw [e] at hx
    rw [hx]
    rfl
theorem draws_get (c : Int) (m : List Int) {k : Nat} (hk : k < m.length) : ∃ x : Int, (draws c m).getD k 0 = x % m.getD k 1 := by
  unfold draws
  split
  · obtain ⟨x, hx⟩ := stA_get m (c - 10 ^ 18, []) k hk
    exact ⟨x, by rw [← hx]; show _ = (m.foldl stA (c - 10 ^ 18, [])).2.getD (0 + k) 0; rw [Nat.zero_add]; rfl⟩
  · exact ⟨_, (drawsB_take c m m.length).2 k hk⟩
theorem atI_it {m : List Int} {k : Nat} (hk : k < m.length) (d : Int) : atI (itD m) (k : Int) = some (.int (m.getD k d)) := by
  unfold atI
  have e : ixN (itD m).length (k : Int) = some k := by
    unfold ixN
    rw [len_it]
    simp
    omega
  rw [e]
  show (itD m)[k]? = _
  unfold itD
  rw [List.getElem?_map, List.getElem?_eq_getElem hk, List.getD_eq_getElem?_getD, List.getElem?_eq_getElem hk]
  rfl
section
variable {P : Program} {w : World} {K : PySem.W.Frag} {mg : Str → Option Value} {base : Heap} {f : Addr} {fd : FuncData}
/-- the k-th cell, or nought -/
def cellM (m : List Int) (k : Nat) : Int := m.getD k 0
abbrev FCell (ds : List Dv) (d : Dv) : Prop := ∃ (m : List Int) (k : Nat), ds = [.d (.list (itD m)), .d (.int (k : Int))] ∧ d = .d (.int (cellM m k))
theorem pf_law_cell (D : Df K mg "_law_cell" (topS 39) f fd) (G : Gm mg) : Pf P w K mg base "_law_cell" 1 FCell := by
  refine pf_mk (N := ["_law_script", "_law_k"]) (ps := ["_law_script", "_law_k"]) D.fn ⟨rfl, rfl, rfl, by decide +kernel, rfl, by decide +kernel, by decide +kernel⟩ D.mg (D.fn.binds fun _ _ _ _ _ _ us hl => match us, hl with | [_, _], _ => rfl) (by rintro _ _ ⟨n, r, rfl, rfl⟩; rfl) ?_
  rintro _ _ ⟨m, k, rfl, rfl⟩ cdv A outer s H E hr
  refine dss_if (k := decide ((k : Int) < ((itD m).length : Int))) (dt_lt (de_var 1) (de_lenL (ds := itD m) rfl G.len (de_var 0))) (fun h => ⟨?_, _, rfl⟩) fun h => ?_
  · have h' : k < m.length := by
      have := of_decide_eq_true h
      rw [len_it] at this
      omega
    exact dss_ret (de_ixL (de_var 0) (de_var 1) (atI_it h' 0))
  · have h' : m.length ≤ k := by
      have := of_decide_eq_false h
      rw [len_it] at this
      omega
    refine dss_ret (de_is de_int ?_)
    unfold cellM
    rw [List.getD_eq_getElem?_getD, List.getElem?_eq_none h']
    rfl
abbrev FDraws (ds : List Dv) (d : Dv) : Prop := ∃ (c : Int) (m : List Int), Sz m ∧ ds = [.d (.int c), .d (.list (itD m))] ∧ d = .d (.list (itD (draws c m)))
abbrev nDraws : List Str := ["_law_cell_here", "_law_sizes", "_law_found", "_law_left", "_law_size", "_law_k", "_law_mixed"]
abbrev eDrA (c : Int) (m : List Int) (k : Nat) : En := [some (.d (.int c)), some (.d (.list (itD m))), none, some (.d (.int ((m.take k).foldl stA (c - 10 ^ 18, [])).1)), none, none, none]
abbrev eDrB (c : Int) (m : List Int) : En := [some (.d (.int c)), some (.d (.list (itD m))), none, none, none, none, none]
theorem pf_law_draws (D : Df K mg "_law_draws" (topS 40) f fd) (G : Gm mg) : Pf P w K mg base "_law_draws" 1 FDraws := by
  refine pf_mk (N := nDraws) (ps := ["_law_cell_here", "_law_sizes"]) D.fn ⟨rfl, rfl, rfl, by decide +kernel, rfl, by decide +kernel, by decide +kernel⟩ D.mg (D.fn.binds fun _ _ _ _ _ _ us hl => match us, hl with | [_, _], _ => rfl) (by rintro _ _ ⟨n, r, _, rfl, rfl⟩; rfl) ?_
  rintro _ _ ⟨c, m, hm, rfl, rfl⟩ cdv A outer s H E hr
  have nd : nDraws.Nodup := by decide +kernel
  have ml := hm.1
  have pw : CPow 10 18 := by unfold CPow; decide
  refine dss_own (j := 2) (df_nil nd (show (2 : Nat) < 7 by decide)) (dso_if (k := decide (10 ^ 18 ≤ c)) (dt_ge (de_var 0) (de_pow de_int de_int pw)) (fun h => ?_) ⟨_, rfl⟩ fun h => ?_)
  · have hd : draws c m = drawsA (c - 10 ^ 18) m := if_pos (of_decide_eq_true h)
    rw [hd]
    refine dso_set (dm_set 3 (de_sub (de_var 0) (de_pow de_int de_int pw)) (by decide) nd) (dso_loop (dm_for (m := m) 4 (fun k => ((m.take k).foldl stA (c - 10 ^ 18, [])).2) (eDrA c m) PassesOwn.never rfl (pg_name (i := 4) nd rfl (.inl rfl)) (by decide) (di_var 1) (Fg.refl _) fun k z hz => ?_) (dss_ret (de_is (de_var 2) ?_)))
    · have hz2 := hm.2 z (List.mem_of_getElem? hz)
      have hk : k < m.length := (List.getElem?_eq_some_iff.mp hz).1
      rw [take_succ_of hz, List.foldl_append]
      refine dms_fg (dms_cons (dm_app (de_mod (de_var 3) (de_var 4) hz2.1) (by rw [stA_len]; show 0 + (m.take k).length ≤ _; rw [List.length_take]; omega)) (dms_one (dm_set 3 (de_fdiv (de_var 3) (de_var 4) hz2) (by decide) nd))) (fg_keep (fg_keep (fg_keep ?_)))
      show Fg [some (.d (.int (((m.take k).foldl stA (c - 10 ^ 18, [])).1 / z))), some (.d (.int z)), none, none] (eDrA c m (k + 1)).tail.tail.tail
      show Fg _ [some (.d (.int ((m.take (k + 1)).foldl stA (c - 10 ^ 18, [])).1)), none, none, none]
      rw [take_succ_of hz, List.foldl_append]
      exact fg_keep (fg_drop (fg_keep (fg_keep fg_nil)))
    · show Dv.d (.list (itD ((m.take m.length).foldl stA (c - 10 ^ 18, [])).2)) = _
      rw [List.take_length]
      rfl
  · have hd : draws c m = drawsB c m := if_neg (of_decide_eq_false h)
    rw [hd]
    refine dso_loop (dm_forR (n := m.length) 5 (fun k => (List.range k).foldl (stB c m) []) (fun _ => eDrB c m) PassesOwn.never rfl (pg_name (i := 5) nd rfl (.inl rfl)) (by decide) rfl G.rng (de_is (de_lenL (ds := itD m) rfl G.len (de_var 1)) (by rw [len_it])) (by omega) (Fg.refl _) fun k hk => ?_) (dss_ret (de_var 2))
    have cm : ∀ i j : Int, -(2 ^ 64) < j → j < 2 ^ 64 → CMul i j := fun i j a b => .inr ⟨a, b⟩
    rw [List.range_succ, List.foldl_append]
    refine dms_fg (dms_cons (dm_set 6 (de_mod (de_add (de_add (de_mul (de_var 0) de_int (cm _ _ (by decide) (by decide))) (de_mul (de_var 5) de_int (cm _ _ (by decide) (by decide)))) de_int) de_int (by decide)) (by decide) nd) (dms_cons (dm_set 6 (de_mod (de_add (de_mul (de_var 6) de_int (cm _ _ (by decide) (by decide))) (de_var 5)) de_int (by decide)) (by decide) nd)
      (dms_one (dm_app (z := mixk c k % m.getD k 1) (de_mod (de_var 6) (de_ixL (de_var 1) (de_var 5) (atI_it hk 1)) (hm.get hk).1) (by rw [(drawsB_take c m k).1]; omega))))) (fg_keep (fg_keep (fg_keep (fg_keep (fg_keep (fg_drop (fg_drop fg_nil)))))))
end
end DSW
set_option Elab.async false
set_option linter.all false
set_option maxRecDepth 100000
set_option maxHeartbeats 2000000
/-! _law_rule, _law_rules. -/
namespace DSW
open PySem PySem.Spec PyProof.Rows L2 Evl
def sizesR (n : Nat) : List Int := ((n : Int) + 2) :: List.replicate n 6
def nums (c : Int) (n : Nat) : List Int := drawsA ((c * 48271 + 11) % 2147483647) (sizesR n)
def pickB (l : List Int) (p q : Int) (k : Nat) : Bool := p == l.getD (k + 1) 0 || q == l.getD (k + 1) 0
def pick (l : List Int) (n : Nat) (p q : Int) : List Int := ((List.range n).filter (pickB l p q)).map Int.ofNat
def hdM (h : Int) (n : Nat) : Option Int := if h = (n : Int) then none else some (h % n)
def ruleM (c : Int) (n : Nat) : Rl := (hdM ((nums c n).getD 0 0) n, pick (nums c n) n 0 5, pick (nums c n) n 1 5)
theorem nums_len (c : Int) (n : Nat) : (nums c n).length = n + 1 := by
  unfold nums
  rw [drawsA_len]
  unfold sizesR
  rw [List.length_cons, List.length_replicate]
theorem pick_vs (l : List Int) (n : Nat) (p q : Int) : Vs n (pick l n p q) := by
  refine ⟨?_, fun x hx => ?_⟩
  · unfold pick
    refine List.pairwise_map.mpr (List.Pairwise.filter _ (List.Pairwise.imp (fun {a b} h => ?_) (List.pairwise_lt_range (n := n))))
    exact Int.ofNat_lt.mpr h
  · obtain ⟨k, hk, e⟩ := List.mem_map.mp hx
    have := List.mem_range.mp (List.mem_filter.mp hk).1
    rw [← e]
    show 0 ≤ (k : Int) ∧ (k : Int) < n
    omega
theorem ruleM_vr (c : Int) {n : Nat} (h : 1 ≤ n) : Vr n (ruleM c n) := by
  refine ⟨fun a e => ?_, pick_vs _ _ _ _, pick_vs _ _ _ _⟩
  have e' : hdM ((nums c n).getD 0 0) n = some a := e
  unfold hdM at e'
  split at e'
  · cases e'
  · cases e'
    exact ⟨Int.emod_nonneg _ (by omega), Int.emod_lt_of_pos _ (by omega)⟩
/-- numbers kept by a test of the number that stands for each -/
theorem ints_pick (l : List Int) (n : Nat) (p q : Int) : (((intsD n).filter fun d => pickB l p q (unI d).toNat).map fun d => d) = itD (pick l n p q) := by
  unfold intsD pick itD
  rw [map_self _ fun _ => rfl, List.filter_map, List.map_map]
  have e : (List.range n).filter ((fun d => pickB l p q (unI d).toNat) ∘ fun (k : Nat) => PyData.int (k : Int)) = (List.range n).filter (pickB l p q) := List.filter_congr fun k _ => by
    show pickB l p q (k : Int).toNat = _
    rw [Int.toNat_natCast]
  rw [e]
  rfl
theorem rep_flat {α : Type} (v : α) : ∀ k : Nat, (List.replicate k [v]).flatten = List.replicate k v
  | 0 => rfl
  | k + 1 => by
    rw [List.replicate_succ, List.flatten_cons, rep_flat v k, List.replicate_succ]
    rfl
theorem any_two (p q z : Int) : ([PyData.int p, PyData.int q].any fun y => PyData.eqv y (.int z)) = (p == z || q == z) := by
  show ((p == z) || ((q == z) || false)) = _
  rw [Bool.or_false]
section
variable {X : Cx} {ρ : En} {e : Expr} {x y : Str} {px py pt pos pl pt2 : Pos} {kt k2 : Nat} {j : Nat}
/-- x, y = e, [] -/
theorem df_two {z : Int} (i : Nat) (hc : X.calm = true) (h : DE X e ρ (.d (.int z))) (hij : i ≠ j) (hN : X.N.Nodup) (hρ : j < ρ.length) (hi : X.N[i]? = some x := by rfl) (hj : X.N[j]? = some y := by rfl) (hx : Loc X.env.scope x := by first | exact Or.inl rfl | exact Or.inr rfl) (hy : Loc X.env.scope y := by first | exact Or.inl rfl | exact Or.inr rfl)
    (hfx : X.fn x = true ∨ X.env.scope.names.lookup x = some .local := by first | exact .inl rfl | exact .inr rfl) (hfy : X.fn y = true ∨ X.env.scope.names.lookup y = some .local := by first | exact .inl rfl | exact .inr rfl)
    (hs : swapsWithSole [.Tuple [.Name x px, .Name y py] kt pt] (.Tuple [e, .List [] pl] k2 pt2) pos.line X.env = pure false := by rfl) (hw : swappedStores [.Tuple [.Name x px, .Name y py] kt pt] (.Tuple [e, .List [] pl] k2 pt2) X.env = pure none := by rfl)
    (h1 : (assignEach [.Tuple [.Name x px, .Name y py] kt pt] X.env).map (·.2) = [assign (.Tuple [.Name x px, .Name y py] kt pt) X.env] := by rfl)
    (hlen : (assignEach [.Name x px, .Name y py] X.env).length = 2 := by rfl) (hst2 : (assignEach [.Name x px, .Name y py] X.env).findIdx? (·.1) = none := by rfl)
    (hse : starEach [e, .List [] pl] X.env = (false, eval e X.env) :: starEach [.List [] pl] X.env := by rfl) (hse2 : starEach [.List [] pl] X.env = (false, eval (.List [] pl) X.env) :: starEach [] X.env := by rfl) :
    PS X (.Assign [.Tuple [.Name x px, .Name y py] kt pt] (.Tuple [e, .List [] pl] k2 pt2) pos) (tF X.K j ρ ((ρ.set i (some (.d (.int z)))).set j none)) := by
  refine (ps_asg (pe_tup (pa_cons h (pa_cons (pe_lst pa_nil) pa_nil hse2) hse)) (pg_tup (n := 2) hc (pgs_cons (pg_name hN hi hx hfx) (pgs_cons (pg_name hN hj hy hfy) pgs_nil)) hlen hst2) hs hw h1).imp fun D σ H ⟨hr, q⟩ => ⟨hr, fun v H1 e1 r => ⟨sz_of (by decide), fun p hp => ⟨sz_of (show 2 ≤ 100000 by decide), fun p2 hp2 => ?_⟩⟩⟩
  have n2 : p ≠ p2 := fun z => by rw [← z, upd_same] at hp2; cases hp2
  refine ⟨p2, [v, .ref p], rfl, SqT.of upd_same, rfl, v, [.ref p], rfl, .ref p, [], rfl, rfl, q _ _ ⟨p, ?_, (e1.trans (Ex.new hp)).trans (Ex.new hp2), ?_, ?_, ?_⟩⟩
  · cases q : H p with
    | none => rfl
    | some o => rw [e1 p o q] at hp; cases hp
  · rw [List.getElem?_set_self (by rw [List.length_set, hr.1]; exact hρ)]
  · rw [upd_ne n2, upd_same]
    rfl
  · refine Rs.drop (Rs.set (hr.ex ?_) (rv_int.mpr (rv_int.mp r)))
    intro b o hb
    have hb1 := e1 b o hb
    have nb : b ≠ p := ne_of_none hb1 hp
    rw [rm_ne nb, upd_ne (ne_of_none ((Ex.new hp) b o hb1) hp2), upd_ne nb]
    exact hb1
/-- [e1] + [e2] * k, a new list -/
theorem di_sizes {z1 z2 : Int} {k : Nat} {e1 e2 e3 : Expr} {p1 p2 p3 p4 : Pos} (h1 : DE X e1 ρ (.d (.int z1))) (h2 : DE X e2 ρ (.d (.int z2))) (h3 : DE X e3 ρ (.d (.int (k : Int)))) (hk : k ≤ 1000) (hs1 : starEach [e1] X.env = (false, eval e1 X.env) :: starEach [] X.env := by rfl)
    (hs2 : starEach [e2] X.env = (false, eval e2 X.env) :: starEach [] X.env := by rfl) : PE X (.BinOp (.List [e1] p1) .Add (.BinOp (.List [e2] p2) .Mult e3 p3) p4) (tI X.K ρ (z1 :: List.replicate k z2)) := by
  refine (pe_op op_cat (pe_lst (pa_cons h1 pa_nil hs1)) (pe_op op_rep (pe_lst (pa_cons h2 pa_nil hs2)) h3)).imp fun σ H Q ⟨a, ⟨o, ho⟩, hr, q⟩ => ?_
  have hr' := hr.ex rm_ex
  refine ⟨hr', fun v H1 f1 r1 => ⟨sz_of (show 1 ≤ 100000 by decide), fun t1 ht1 => ?_⟩⟩
  have f2 := f1.trans (Ex.new (o := .lst [v]) ht1)
  refine ⟨hr'.ex f2, fun v2 H2 f3 r2 => ⟨sz_of (show 1 ≤ 100000 by decide), fun t2 ht2 => ?_⟩⟩
  have f4 := (f2.trans f3).trans (Ex.new (o := .lst [v2]) ht2)
  refine ⟨hr'.ex f4, fun v3 H3 f5 r3 => ?_⟩
  refine ⟨t2, (k : Int), [v2], rfl, rv_int.mp r3, f5 _ _ upd_same, by omega, by omega, ?_, fun t3 ht3 => ?_⟩
  · show 1 * (k : Int).toNat ≤ _
    rw [Int.toNat_natCast]
    exact sz_of (by omega)
  · have f6 := (f4.trans f5).trans (Ex.new (o := .lst (List.replicate (k : Int).toNat [v2]).flatten) ht3)
    refine ⟨t1, t3, [v], _, rfl, rfl, ?_, upd_same, ?_, fun t4 ht4 => ?_⟩
    · exact (Ex.new ht3) _ _ (f5 _ _ ((Ex.new ht2) _ _ (f3 _ _ upd_same)))
    · rw [Int.toNat_natCast]
      refine sz_of ?_
      rw [rep_flat, List.length_replicate]
      show 1 + k ≤ _
      omega
    · have n4 : t4 ≠ a := fun z => by
        have := f6 a o ho
        rw [← z, ht4] at this
        cases this
      refine q t4 _ (f6.trans (Ex.new ht4)) n4 ?_
      rw [upd_same, rv_int.mp r1, Int.toNat_natCast, rv_int.mp r2]
      rw [rep_flat, List.map_cons, List.map_replicate]
      rfl
end
theorem dm_as {X : Cx} {st : Stmt} {j : Nat} {l l' l'' : List Int} {ρ ρ' : En} (h : DM X st j l ρ l' ρ') (e : l' = l'') : DM X st j l ρ l'' ρ' := by rw [← e]; exact h
section
variable {P : Program} {w : World} {K : PySem.W.Frag} {mg : Str → Option Value} {base : Heap} {f : Addr} {fd : FuncData}
abbrev FRule (ds : List Dv) (d : Dv) : Prop := ∃ (c : Int) (n : Nat), 1 ≤ n ∧ n ≤ 4 ∧ ds = [.d (.int c), .d (.int (n : Int))] ∧ d = .d (rlD (ruleM c n))
abbrev nRule : List Str := ["_law_cell_here", "_law_atoms", "_law_left", "_law_numbers", "_law_size", "_law_head", "_law_holds", "_law_atom"]
abbrev eRule (c : Int) (n : Nat) (k : Nat) : En := [some (.d (.int c)), some (.d (.int (n : Int))), some (.d (.int (((sizesR n).take k).foldl stA ((c * 48271 + 11) % 2147483647, [])).1)), none, none, none, none, none]
theorem pf_law_rule (D : Df K mg "_law_rule" (topS 43) f fd) (G : Gm mg) : Pf P w K mg base "_law_rule" 1 FRule := by
  refine pf_mk (N := nRule) (ps := ["_law_cell_here", "_law_atoms"]) D.fn ⟨rfl, rfl, rfl, by decide +kernel, rfl, by decide +kernel, by decide +kernel⟩ D.mg (D.fn.binds fun _ _ _ _ _ _ us hl => match us, hl with | [_, _], _ => rfl) (by rintro _ _ ⟨n, r, _, _, rfl, rfl⟩; rfl) ?_
  rintro _ _ ⟨c, n, h1, h4, rfl, rfl⟩ cdv A outer s H E hr
  have nd : nRule.Nodup := by decide +kernel
  have cm : ∀ i j : Int, -(2 ^ 64) < j → j < 2 ^ 64 → CMul i j := fun i j a b => .inr ⟨a, b⟩
  have sl : (sizesR n).length = n + 1 := by unfold sizesR; rw [List.length_cons, List.length_replicate]
  have sp : ∀ z ∈ sizesR n, 0 < z ∧ z < 1073741824 := fun z hz => by
    rcases List.mem_cons.mp hz with e | hz
    · rw [e]; omega
    · rw [List.eq_of_mem_replicate hz]; decide
  have hn : ((sizesR n).take (sizesR n).length).foldl stA ((c * 48271 + 11) % 2147483647, []) = (sizesR n).foldl stA ((c * 48271 + 11) % 2147483647, []) := by rw [List.take_length]
  have nl := nums_len c n
  refine dss_own (j := 3) (df_two 2 rfl (de_mod (de_add (de_mul (de_var 0) de_int (cm _ _ (by decide) (by decide))) de_int) de_int (by decide)) (by decide) nd (show (3 : Nat) < 8 by decide))
    (dso_loop (l' := nums c n) (ρ' := eRule c n (sizesR n).length) (dm_as (dm_for (m := sizesR n) 4 (fun k => (((sizesR n).take k).foldl stA ((c * 48271 + 11) % 2147483647, [])).2) (eRule c n) PassesOwn.never rfl (pg_name (i := 4) nd rfl (.inl rfl)) (by decide) (di_sizes (de_add (de_var 1) de_int) de_int (de_var 1) (by omega)) (Fg.refl _) fun k z hz => ?_) (by rw [hn]; rfl)) ?_)
  · have hz2 := sp z (List.mem_of_getElem? hz)
    have hk : k < (sizesR n).length := (List.getElem?_eq_some_iff.mp hz).1
    rw [take_succ_of hz, List.foldl_append]
    refine dms_fg (dms_cons (dm_app (de_mod (de_var 2) (de_var 4) hz2.1) (by rw [stA_len]; show 0 + ((sizesR n).take k).length ≤ _; rw [List.length_take]; omega)) (dms_one (dm_set 2 (de_fdiv (de_var 2) (de_var 4) hz2) (by decide) nd))) (fg_keep (fg_keep ?_))
    show Fg [some (.d (.int ((((sizesR n).take k).foldl stA ((c * 48271 + 11) % 2147483647, [])).1 / z))), none, some (.d (.int z)), none, none, none] [some (.d (.int (((sizesR n).take (k + 1)).foldl stA ((c * 48271 + 11) % 2147483647, [])).1)), none, none, none, none, none]
    rw [take_succ_of hz, List.foldl_append]
    exact fg_keep (fg_keep (fg_drop (fg_keep (fg_keep (fg_keep fg_nil)))))
  · have c0 : (0 : Nat) < (nums c n).length := by omega
    have hix : ∀ k : Nat, k < n → atI (itD (nums c n)) ((k : Int) + 1) = some (.int ((nums c n).getD (k + 1) 0)) := fun k hk => atI_it (k := k + 1) (by omega) 0
    refine dss_cons (ds_set 5 (de_if (k := decide ((nums c n).getD 0 0 = (n : Int))) (d := .d (hdD (hdM ((nums c n).getD 0 0) n))) (dt_is (dt_eq (x := .int ((nums c n).getD 0 0)) (y := .int (n : Int)) (hu64 hr) (de_ixL (de_var 3) de_int (atI_it c0 0)) (de_var 1) rfl rfl) (by rw [eqv_int])) (fun h => ?_) (fun h => ?_)) nd) ?_
    · unfold hdM
      rw [if_pos (of_decide_eq_true h)]
      exact de_non
    · unfold hdM
      rw [if_neg (of_decide_eq_false h)]
      exact de_mod (de_ixL (de_var 3) de_int (atI_it c0 0)) (de_var 1) (by omega)
    refine dss_cons (ds_set 6 (de_tupL rfl G.tup (de_is (de_lcR (n := n) (f := fun d => pickB (nums c n) 0 5 (unI d).toNat) (g := fun d => d) (j := 7) rfl nd rfl rfl G.rng (de_var 1) (blkOk_by (N := nRule) (sc := defScope (topS 43)) (by decide +kernel)) (fun s H C cl fp => ⟨.inl rfl, .inr rfl⟩) (blkT_one fun d hd s H C cl fp => ?_) (fun d hd _ s H C cl fp => de_var 7) (fun d hd _ => ?_) (by omega)) (congrArg (fun x => Dv.d (.list x)) (ints_pick (nums c n) n 0 5)))) nd) ?_
    · obtain ⟨k, hk, rfl⟩ := List.mem_map.mp hd
      exact dt_is (dt_in (x := .int ((nums c n).getD (k + 1) 0)) (ds := [.int 0, .int 5]) (hu65 hr) (de_ixL (de_var 3) (de_add (de_var 7) de_int) (hix k (List.mem_range.mp hk))) (.inl (de_tup (ds := [.int 0, .int 5]) (da_cons de_int (da_cons de_int da_nil)) (by decide))) rfl rfl) (any_two 0 5 _)
    · obtain ⟨k, hk, rfl⟩ := List.mem_map.mp hd
      rfl
    refine dss_ret (de_tup (ds := [hdD (ruleM c n).1, .tuple (itD (ruleM c n).2.1), .tuple (itD (ruleM c n).2.2)]) (da_cons (de_var 5) (da_cons (de_var 6) (da_cons (de_tupL rfl G.tup (de_is (de_lcR (n := n) (f := fun d => pickB (nums c n) 1 5 (unI d).toNat) (g := fun d => d) (j := 7) rfl nd rfl rfl G.rng (de_var 1) (blkOk_by (N := nRule) (sc := defScope (topS 43)) (by decide +kernel)) (fun s H C cl fp => ⟨.inl rfl, .inr rfl⟩) (blkT_one fun d hd s H C cl fp => ?_) (fun d hd _ s H C cl fp => de_var 7) (fun d hd _ => ?_) (by omega)) (congrArg (fun x => Dv.d (.list x)) (ints_pick (nums c n) n 1 5)))) da_nil))) (show 3 ≤ 100000 by decide))
    · obtain ⟨k, hk, rfl⟩ := List.mem_map.mp hd
      exact dt_is (dt_in (x := .int ((nums c n).getD (k + 1) 0)) (ds := [.int 1, .int 5]) (hu65 hr) (de_ixL (de_var 3) (de_add (de_var 7) de_int) (hix k (List.mem_range.mp hk))) (.inl (de_tup (ds := [.int 1, .int 5]) (da_cons de_int (da_cons de_int da_nil)) (by decide))) rfl rfl) (any_two 1 5 _)
    · obtain ⟨k, hk, rfl⟩ := List.mem_map.mp hd
      rfl
end
end DSW
set_option Elab.async false
set_option linter.all false
set_option maxRecDepth 100000
set_option maxHeartbeats 2000000
/-! _law_rules; with_rules. -/
namespace DSW
open PySem PySem.Spec PyProof.Rows L2 Evl
def addR (rs : List Rl) (r : Rl) : List Rl := if rs.contains r then rs else rs ++ [r]
def sizesQ (most : Nat) : List Int := ((most : Int) + 1) :: List.replicate most 1000003
def numsQ (c : Int) (most : Nat) : List Int := draws c (sizesQ most)
def rulesM (c : Int) (n most : Nat) : List Rl := (List.range ((numsQ c most).getD 0 0).toNat).foldl (fun rs k => addR rs (ruleM ((numsQ c most).getD (k + 1) 0) n)) []
theorem sizesQ_len (most : Nat) : (sizesQ most).length = most + 1 := by unfold sizesQ; rw [List.length_cons, List.length_replicate]
theorem sizesQ_sz {most : Nat} (h : most ≤ 5) : Sz (sizesQ most) := by
  refine ⟨by rw [sizesQ_len]; omega, fun z hz => ?_⟩
  rcases List.mem_cons.mp hz with e | hz
  · rw [e]; omega
  · rw [List.eq_of_mem_replicate hz]; decide
theorem numsQ_len (c : Int) (most : Nat) : (numsQ c most).length = most + 1 := by unfold numsQ; rw [draws_len, sizesQ_len]
theorem numsQ_0 (c : Int) (most : Nat) : 0 ≤ (numsQ c most).getD 0 0 ∧ (numsQ c most).getD 0 0 ≤ most := by
  obtain ⟨x, hx⟩ := draws_get c (sizesQ most) (k := 0) (by rw [sizesQ_len]; omega)
  unfold numsQ
  rw [hx]
  have e : (sizesQ most).getD 0 1 = (most : Int) + 1 := rfl
  rw [e]
  have h1 := Int.emod_nonneg x (show (most : Int) + 1 ≠ 0 by omega)
  have h2 := Int.emod_lt_of_pos x (show 0 < (most : Int) + 1 by omega)
  omega
/-- different rules, each of them valid -/
theorem addR_vb {n : Int} {rs : List Rl} {r : Rl} (h : Vb n rs) (hr : Vr n r) : Vb n (addR rs r) := by
  unfold addR
  split
  · exact h
  · rename_i hc
    have hc' : r ∉ rs := fun m => hc (List.contains_iff_mem.mpr m)
    refine ⟨List.nodup_append.mpr ⟨h.1, List.nodup_cons.mpr ⟨by simp, List.nodup_nil⟩, fun a ha b hb e => ?_⟩, fun q hq => ?_⟩
    · rw [List.mem_singleton.mp hb] at e
      exact hc' (e ▸ ha)
    · rcases List.mem_append.mp hq with q1 | q1
      · exact h.2 q q1
      · rw [List.mem_singleton.mp q1]; exact hr
theorem addR_len (rs : List Rl) (r : Rl) : (addR rs r).length ≤ rs.length + 1 := by
  unfold addR
  split
  · omega
  · rw [List.length_append]; exact Nat.le_refl _
theorem foldR_ok {n : Nat} (h1 : 1 ≤ n) (g : Nat → Int) : ∀ k : Nat, Vb n ((List.range k).foldl (fun rs k => addR rs (ruleM (g k) n)) []) ∧ ((List.range k).foldl (fun rs k => addR rs (ruleM (g k) n)) []).length ≤ k
  | 0 => ⟨⟨List.nodup_nil, fun r hr => by cases hr⟩, Nat.le_refl _⟩
  | k + 1 => by
    obtain ⟨a, b⟩ := foldR_ok h1 g k
    rw [List.range_succ, List.foldl_append]
    exact ⟨addR_vb a (ruleM_vr _ h1), Nat.le_trans (addR_len _ _) (Nat.succ_le_succ b)⟩
theorem rulesM_ok (c : Int) {n : Nat} (h1 : 1 ≤ n) (most : Nat) : Vb n (rulesM c n most) ∧ (rulesM c n most).length ≤ most := by
  obtain ⟨a, b⟩ := foldR_ok h1 (fun k => (numsQ c most).getD (k + 1) 0) ((numsQ c most).getD 0 0).toNat
  refine ⟨a, Nat.le_trans b ?_⟩
  have := (numsQ_0 c most).2
  omega
theorem rsD_app (l : List Rl) (r : Rl) : rsD l ++ [rlD r] = rsD (l ++ [r]) := by
  unfold rsD
  rw [List.map_append]
  rfl
section
variable {P : Program} {w : World} {K : PySem.W.Frag} {mg : Str → Option Value} {base : Heap} {f : Addr} {fd : FuncData}
abbrev FRules (ds : List Dv) (d : Dv) : Prop := ∃ (c : Int) (n most : Nat), 1 ≤ n ∧ n ≤ 4 ∧ most ≤ 5 ∧ ds = [.d (.int c), .d (.int (n : Int)), .d (.int (most : Int))] ∧ d = .d (.tuple (rsD (rulesM c n most)))
abbrev nRules : List Str := ["_law_cell_here", "_law_atoms", "_law_most", "_law_numbers", "_law_found", "_law_k", "_law_rule_here"]
abbrev eRules (c : Int) (n most k : Nat) : En := [some (.d (.int c)), some (.d (.int (n : Int))), some (.d (.int (most : Int))), some (.d (.list (itD (numsQ c most)))), some (.d (.tuple (rsD ((List.range k).foldl (fun rs k => addR rs (ruleM ((numsQ c most).getD (k + 1) 0) n)) [])))), none, none]
theorem pf_law_rules (D : Df K mg "_law_rules" (topS 44) f fd) (G : Gm mg) (F1 : Pf P w K mg base "_law_draws" 1 FDraws) (F2 : Pf P w K mg base "_law_rule" 1 FRule) : Pf P w K mg base "_law_rules" 2 FRules := by
  refine pf_mk (N := nRules) (ps := ["_law_cell_here", "_law_atoms", "_law_most"]) D.fn ⟨rfl, rfl, rfl, by decide +kernel, rfl, by decide +kernel, by decide +kernel⟩ D.mg (D.fn.binds fun _ _ _ _ _ _ us hl => match us, hl with | [_, _, _], _ => rfl) (by rintro _ _ ⟨n, r, _, _, _, _, rfl, rfl⟩; rfl) ?_
  rintro _ _ ⟨c, n, most, h1, h4, h5, rfl, rfl⟩ cdv A outer s H E hr
  have nd : nRules.Nodup := by decide +kernel
  have nl := numsQ_len c most
  have n0 := numsQ_0 c most
  have ea : [PyData.int ((most : Int) + 1)] ++ (List.replicate (most : Int).toNat [PyData.int 1000003]).flatten = itD (sizesQ most) := by
    rw [rep_flat, Int.toNat_natCast]
    unfold itD sizesQ
    rw [List.map_cons, List.map_replicate]
    rfl
  refine dss_cons (ds_set 3 (de_call F1 hr rfl (da_cons (de_var 0) (da_cons (de_is (de_catL (ds := [.int ((most : Int) + 1)]) (es' := (List.replicate (most : Int).toNat [PyData.int 1000003]).flatten) (de_lst (ds := [.int ((most : Int) + 1)]) (da_cons (de_add (de_var 2) de_int) da_nil) (show 1 ≤ 100000 by decide)) (de_rep (ds := [.int 1000003]) (k := (most : Int)) (de_lst (ds := [.int 1000003]) (da_cons de_int da_nil) (show 1 ≤ 100000 by decide)) (de_var 2) (by omega) (by omega) (show 1 ≤ 100 by decide)) ?_) (congrArg (fun x => Dv.d (.list x)) ea)) da_nil)) ⟨c, sizesQ most, sizesQ_sz h5, rfl, rfl⟩) nd) ?_
  · rw [rep_flat, List.length_replicate, Int.toNat_natCast]
    show 1 + most ≤ _
    omega
  refine dss_cons (ds_set 4 (de_tup (ds := []) da_nil (by decide)) nd) ?_
  refine dss_cons (ds_forR (n := ((numsQ c most).getD 0 0).toNat) 5 (fun k => eRules c n most k) PassesOwn.never rfl (pg_name (i := 5) nd rfl (.inl rfl)) rfl G.rng (de_is (de_ixL (de_var 3) de_int (atI_it (m := numsQ c most) (k := 0) (by omega) 0)) (by rw [Int.toNat_of_nonneg n0.1])) (by omega) (Fg.refl _) (fun k hk => ?_)) (dss_ret (de_var 4))
  rw [show eRules c n most (k + 1) = [some (.d (.int c)), some (.d (.int (n : Int))), some (.d (.int (most : Int))), some (.d (.list (itD (numsQ c most)))), some (.d (.tuple (rsD (addR ((List.range k).foldl (fun rs k => addR rs (ruleM ((numsQ c most).getD (k + 1) 0) n)) []) (ruleM ((numsQ c most).getD (k + 1) 0) n))))), none, none] from by unfold eRules; rw [List.range_succ, List.foldl_append]; rfl]
  have hl := (foldR_ok h1 (fun k => (numsQ c most).getD (k + 1) 0) k).2
  show DSs _ _ (List.set [some (.d (.int c)), some (.d (.int (n : Int))), some (.d (.int (most : Int))), some (.d (.list (itD (numsQ c most)))), some (.d (.tuple (rsD ((List.range k).foldl (fun rs k => addR rs (ruleM ((numsQ c most).getD (k + 1) 0) n)) [])))), none, none] 5 (some (.d (.int (k : Int))))) _
  revert hl
  generalize (List.range k).foldl (fun rs k => addR rs (ruleM ((numsQ c most).getD (k + 1) 0) n)) [] = rs
  generalize hz : (numsQ c most).getD (k + 1) 0 = z
  intro hl
  refine dss_cons (ds_set 6 (de_call F2 hr rfl (da_cons (de_ixL (x := .int z) (de_var 3) (de_add (de_var 5) de_int) (by rw [← hz]; exact atI_it (k := k + 1) (by omega) 0)) (da_cons (de_var 1) da_nil)) ⟨z, n, h1, h4, rfl, rfl⟩) nd) ?_
  refine dss_fg (ρ' := [some (.d (.int c)), some (.d (.int (n : Int))), some (.d (.int (most : Int))), some (.d (.list (itD (numsQ c most)))), some (.d (.tuple (rsD (addR rs (ruleM z n))))), some (.d (.int (k : Int))), some (.d (rlD (ruleM z n)))]) (dss_one (ds_if (k := !rs.contains (ruleM z n)) (dt_is (dt_nin (ds := rsD rs) (hu65 hr) (de_var 6) (.inl (de_var 4)) (sh_rl _) (sh_rs _)) (by rw [any_rl])) (fun h => ?_) (fun h => ?_))) (fg_keep (fg_keep (fg_keep (fg_keep (fg_keep (fg_drop (fg_drop fg_nil)))))))
  · have e : addR rs (ruleM z n) = rs ++ [ruleM z n] := by
      unfold addR
      rw [if_neg]
      intro q
      rw [q] at h
      cases h
    rw [e]
    exact dss_nx (dss_one (ds_set 4 (de_is (de_catT (ds := rsD rs) (es' := [rlD (ruleM z n)]) (de_var 4) (de_tup (ds := [rlD (ruleM z n)]) (da_cons (de_var 6) da_nil) (show 1 ≤ 100000 by decide)) (by rw [len_rs]; show rs.length + 1 ≤ _; omega)) (by rw [rsD_app])) nd)) rfl
  · have e : addR rs (ruleM z n) = rs := by
      unfold addR
      rw [if_pos]
      cases q : rs.contains (ruleM z n) with
      | true => rfl
      | false => rw [q] at h; cases h
    rw [e]
    exact dss_nil
/-! ### with_rules -/
def joinR (rs qs : List Rl) : List Rl := qs.foldl addR rs
theorem joinR_len : ∀ (qs rs : List Rl), (joinR rs qs).length ≤ rs.length + qs.length
  | [], rs => Nat.le_refl _
  | q :: qs, rs => by
    show (joinR (addR rs q) qs).length ≤ _
    have a := joinR_len qs (addR rs q)
    have b := addR_len rs q
    rw [List.length_cons]
    omega
/-- (*t, e) -/
theorem de_star {X : Cx} {a b : Expr} {ρ : En} {ds : List PyData} {d : PyData} {p pos : Pos} {k : Nat} (ha : DE X a ρ (.d (.tuple ds))) (hb : DE X b ρ (.d d)) (hz : ds.length + 1 ≤ 100000) (hs : starEach (.Starred a p :: [b]) X.env = (true, eval a X.env) :: starEach [b] X.env := by rfl)
    (hs2 : starEach [b] X.env = (false, eval b X.env) :: starEach [] X.env := by rfl) : DE X (.Tuple [.Starred a p, b] k pos) ρ (.d (.tuple (ds ++ [d]))) :=
  (pe_tup (StX.pa_star ha (da_cons hb da_nil hs2) hs)).imp fun σ H Q ⟨hr, q⟩ => ⟨hr, fun v H1 e1 r => by
    obtain ⟨t, xs, rfl, hq, hA⟩ := rv_tup.mp r
    refine ⟨t, xs, rfl, .inl hq, hr.ex e1, fun vs H2 e2 r2 => ?_⟩
    have hB : DqA X.K H2 [d] vs := RvA.data (ds := [d]) r2
    have hAB := (hA.keep (.of e2)).append hB
    exact ⟨by rw [hAB.len, List.length_append]; exact sz_of hz, fun p hp => q _ _ ((e1.trans e2).trans (Ex.new hp)) (rv_tup.mpr ⟨p, _, rfl, SqT.of upd_same, hAB.keep (.of (Ex.new hp))⟩)⟩⟩
/-- a book as data -/
def bkD (n : Int) (rs : List Rl) : PyData := .tuple [.int n, .tuple (rsD rs)]
abbrev FWith (ds : List Dv) (d : Dv) : Prop := ∃ (n : Int) (rs qs : List Rl), rs.length ≤ 1000 ∧ qs.length ≤ 1000 ∧ ds = [.d (bkD n rs), .d (.tuple (rsD qs))] ∧ d = .d (bkD n (joinR rs qs))
abbrev eWith (n : Int) (rs qs l : List Rl) : En := [some (.d (bkD n rs)), some (.d (.tuple (rsD qs))), some (.d (.tuple (rsD l))), none]
theorem pf_with_rules (D : Df K mg "with_rules" (topS 34) f fd) (G : Gm mg) : Pf P w K mg base "with_rules" 1 FWith := by
  refine pf_mk (N := ["book", "rules", "found", "rule"]) (ps := ["book", "rules"]) D.fn ⟨rfl, rfl, rfl, by decide +kernel, rfl, by decide +kernel, by decide +kernel⟩ D.mg (D.fn.binds fun _ _ _ _ _ _ us hl => match us, hl with | [_, _], _ => rfl) (by rintro _ _ ⟨n, r, _, _, _, rfl, rfl⟩; rfl) ?_
  rintro _ _ ⟨n, rs, qs, h1, h2, rfl, rfl⟩ cdv A outer s H E hr
  have nd : (["book", "rules", "found", "rule"] : List Str).Nodup := by decide +kernel
  refine dss_cons (ds_set 2 (de_ixT (x := .tuple (rsD rs)) (de_var 0) de_int rfl) nd) ?_
  refine dss_cons (ds_nx (ds_for (ds := rsD qs) (ρs := fun i => eWith n rs qs (joinR rs (qs.take i))) (ρb := fun i => (eWith n rs qs (joinR rs (qs.take i))).set 3 (some (.d (rlD (qs.getD i (none, [], [])))))) PassesOwn.never rfl (pg_name (i := 3) nd rfl (.inl rfl)) (.inl (de_var 1)) (Fg.refl _) (fun i d hd => ?_) (fun i d hd => ?_)) (show _ = eWith n rs qs (joinR rs qs) from ?_)) ?_
  · obtain ⟨r, hr', rfl⟩ := rsD_get hd
    have eg : qs.getD i (none, [], []) = r := by rw [List.getD_eq_getElem?_getD, hr']; rfl
    show Tgt _ _ _ _ ((eWith n rs qs (joinR rs (qs.take i))).set 3 (some (.d (rlD (qs.getD i (none, [], []))))))
    rw [eg]
    exact tgt_name 3
  · obtain ⟨r, hr', rfl⟩ := rsD_get hd
    have eg : qs.getD i (none, [], []) = r := by rw [List.getD_eq_getElem?_getD, hr']; rfl
    show DSs _ _ ((eWith n rs qs (joinR rs (qs.take i))).set 3 (some (.d (rlD (qs.getD i (none, [], [])))))) (.nx (eWith n rs qs (joinR rs (qs.take (i + 1)))))
    have hl := joinR_len (qs.take i) rs
    rw [List.length_take] at hl
    have ej : joinR rs (qs.take (i + 1)) = addR (joinR rs (qs.take i)) r := by
      rw [take_succ_of hr']
      unfold joinR
      rw [List.foldl_append]
      rfl
    rw [eg, ej]
    revert hl
    generalize joinR rs (qs.take i) = l
    intro hl
    refine dss_fg (ρ' := (eWith n rs qs (addR l r)).set 3 (some (.d (rlD r)))) (dss_one (ds_if (k := !l.contains r) (dt_is (dt_nin (ds := rsD l) (hu65 hr) (de_var 3) (.inl (de_var 2)) (sh_rl _) (sh_rs _)) (by rw [any_rl])) (fun h => ?_) (fun h => ?_))) (fg_keep (fg_keep (fg_keep (fg_drop fg_nil))))
    · have e : addR l r = l ++ [r] := by
        unfold addR
        rw [if_neg]
        intro q
        rw [q] at h
        cases h
      rw [e]
      exact dss_nx (dss_one (ds_set 2 (de_is (de_star (ds := rsD l) (de_var 2) (de_var 3) (by rw [len_rs]; omega)) (by rw [rsD_app])) nd)) rfl
    · have e : addR l r = l := by
        unfold addR
        rw [if_pos]
        cases q : l.contains r with
        | true => rfl
        | false => rw [q] at h; cases h
      rw [e]
      exact dss_nil
  · show eWith n rs qs (joinR rs (qs.take (rsD qs).length)) = _
    rw [len_rs, List.take_length]
  · exact dss_ret (de_tup (ds := [.int n, .tuple (rsD (joinR rs qs))]) (da_cons (de_ixT (x := .int n) (de_var 0) de_int rfl) (da_cons (de_var 2) da_nil)) (show 2 ≤ 100000 by decide))
end
end DSW
set_option Elab.async false
set_option linter.all false
set_option maxRecDepth 100000
set_option maxHeartbeats 2000000
/-! A set of a few different keys of any depth (absent keys put, one by one). -/
namespace DSW
open PySem PySem.Spec PyProof.Rows L2 Evl
section
variable {P : Program} {w : World}
def NoCls (P : Program) (w : World) (n : Nat) (s : Shared) (v : Value) : Prop := ∀ (A : Around) (E : Value → Shared → Prop) (Q : Bool → Shared → Prop), Q false s → wpAny (model P w) A (ofAClassStatement n v) Q E s
def ByVal (P : Program) (w : World) (n : Nat) (s : Shared) (v : Value) : Prop := ∀ (A : Around) (E : Value → Shared → Prop) (Q : Bool → Shared → Prop), Q true s → wpAny (model P w) A (hashByValue n v) Q E s
theorem noCls_pure {n : Nat} {s : Shared} {v : Value} (h : ofAClassStatement n v = pure false) : NoCls P w n s v := fun A E Q q => by
  rw [h]
  exact wpAny_pure q
theorem byVal_pure {n : Nat} {s : Shared} {v : Value} (h : hashByValue n v = pure true) : ByVal P w n s v := fun A E Q q => by
  rw [h]
  exact wpAny_pure q
theorem noCls_tup {n : Nat} {s : Shared} {a : Addr} {o : Obj} {vs : Array Value} {m : Nat} (ho : s.heap.get? a = some o) (hc : o.cls = .type "tuple") (hd : o.data = .seq vs m) (hq : ∀ v ∈ vs.toList, NoCls P w n s v) : NoCls P w (n + 1) s (.ref a) := fun A E Q h => by
  have hT : s.TypeIs (.ref a) "tuple" := ⟨o, ho, hc⟩
  unfold ofAClassStatement
  refine wpAny_bind (wpAny_typeOf hT ?_)
  dsimp only
  have e : (("tuple" : String) == "tuple") = true := by decide
  simp only [e, if_true, Bool.not_true, Bool.false_eq_true, if_false]
  show wpAny _ _ (seqItems? (.ref a) >>= _) _ _ s
  refine wpAny_bind (wpAny_seqItems ho hd ?_)
  dsimp only
  refine wpAny_bind ?_
  show wpAny _ _ (forIn vs _ _) _ _ s
  rw [← Array.forIn_toList]
  refine wpAny_forIn_list _ (fun rest r s' => r.1 = none ∧ s' = s ∧ ∀ v ∈ rest, NoCls P w n s v) _ ?_ ?_ _ _ ⟨rfl, rfl, hq⟩
  · rintro v rest r s' ⟨hr, rfl, hall⟩
    refine wpAny_bind (hall v List.mem_cons_self _ _ _ ?_)
    simp only [Bool.false_eq_true, if_false]
    exact wpAny_pure ⟨rfl, rfl, fun u hu => hall u (List.mem_cons_of_mem _ hu)⟩
  · rintro ⟨r1, r2⟩ s' ⟨hr, rfl, _⟩
    simp only at hr
    subst hr
    exact wpAny_pure h
theorem byVal_tup {n : Nat} {s : Shared} {a : Addr} {o : Obj} {vs : Array Value} {m : Nat} (ho : s.heap.get? a = some o) (hc : o.cls = .type "tuple") (hd : o.data = .seq vs m) (hq : ∀ v ∈ vs.toList, ByVal P w n s v) : ByVal P w (n + 1) s (.ref a) := fun A E Q h => by
  have hT : s.TypeIs (.ref a) "tuple" := ⟨o, ho, hc⟩
  unfold hashByValue
  refine wpAny_bind (wpAny_specialOf hT F.slot_tuple_hash.lookup ?_)
  show wpAny _ _ (seqItems? (.ref a) >>= _) _ _ s
  refine wpAny_bind (wpAny_seqItems ho hd ?_)
  refine wpAny_bind ?_
  show wpAny _ _ (forIn vs _ _) _ _ s
  rw [← Array.forIn_toList]
  refine wpAny_forIn_list _ (fun rest r s' => r.1 = none ∧ s' = s ∧ ∀ v ∈ rest, ByVal P w n s v) _ ?_ ?_ _ _ ⟨rfl, rfl, hq⟩
  · rintro v rest r s' ⟨hr, rfl, hall⟩
    refine wpAny_bind (hall v List.mem_cons_self _ _ _ ?_)
    simp only [Bool.not_true, Bool.false_eq_true, if_false]
    exact wpAny_pure ⟨rfl, rfl, fun u hu => hall u (List.mem_cons_of_mem _ hu)⟩
  · rintro ⟨r1, r2⟩ s' ⟨hr, rfl, _⟩
    simp only at hr
    subst hr
    exact wpAny_pure h
mutual
theorem noCls_key : ∀ (k : NestedKey) (v : Value) (n : Nat) (s : Shared), NestedIs s.heap k v → k.depth ≤ n → NoCls P w n s v
  | .none, _, n, s, x, _ => by cases x; exact noCls_pure (by cases n <;> rfl)
  | .num i, _, n, s, x, _ => by cases x <;> exact noCls_pure (by cases n <;> rfl)
  | .text y, _, n, s, x, _ => by cases x; exact noCls_pure (by cases n <;> rfl)
  | .tup ks, _, n, s, x, hn => by
    cases x with
    | tup hg hc hd hk =>
      simp only [NestedKey.depth] at hn
      cases n with
      | zero => omega
      | succ n => exact noCls_tup hg hc hd (noCls_keys ks _ n s hk (by omega))
theorem noCls_keys : ∀ (ks : List NestedKey) (vs : List Value) (n : Nat) (s : Shared), NestedAll s.heap ks vs → NestedKey.depthAll ks ≤ n → ∀ v ∈ vs, NoCls P w n s v
  | [], _, n, s, x, _, v, hv => by cases x; cases hv
  | k :: ks, _, n, s, x, hn, v, hv => by
    cases x with
    | cons x1 x2 =>
      simp only [NestedKey.depthAll] at hn
      rcases List.mem_cons.mp hv with e | hv
      · rw [e]; exact noCls_key k _ n s x1 (by omega)
      · exact noCls_keys ks _ n s x2 (by omega) v hv
end
mutual
def noT : NestedKey → Bool
  | .text _ => false
  | .tup ks => noTA ks
  | _ => true
def noTA : List NestedKey → Bool
  | [] => true
  | k :: ks => noT k && noTA ks
end
mutual
theorem byVal_key : ∀ (k : NestedKey) (v : Value) (n : Nat) (s : Shared), NestedIs s.heap k v → k.depth ≤ n → noT k = true → ByVal P w n s v
  | .none, _, n, s, x, _, _ => by cases x; exact byVal_pure (by cases n <;> rfl)
  | .num i, _, n, s, x, _, _ => by cases x <;> exact byVal_pure (by cases n <;> rfl)
  | .text y, _, n, s, x, _, z => by unfold noT at z; cases z
  | .tup ks, _, n, s, x, hn, z => by
    cases x with
    | tup hg hc hd hk =>
      simp only [NestedKey.depth] at hn
      cases n with
      | zero => omega
      | succ n => exact byVal_tup hg hc hd (byVal_keys ks _ n s hk (by omega) (by unfold noT at z; exact z))
theorem byVal_keys : ∀ (ks : List NestedKey) (vs : List Value) (n : Nat) (s : Shared), NestedAll s.heap ks vs → NestedKey.depthAll ks ≤ n → noTA ks = true → ∀ v ∈ vs, ByVal P w n s v
  | [], _, n, s, x, _, _, v, hv => by cases x; cases hv
  | k :: ks, _, n, s, x, hn, z, v, hv => by
    unfold noTA at z
    rw [Bool.and_eq_true] at z
    cases x with
    | cons x1 x2 =>
      simp only [NestedKey.depthAll] at hn
      rcases List.mem_cons.mp hv with e | hv
      · rw [e]; exact byVal_key k _ n s x1 (by omega) z.1
      · exact byVal_keys ks _ n s x2 (by omega) z.2 v hv
end
/-- the tuple at a is the key k -/
abbrev NK (P : Program) (w : World) (h : Heap) (k : NestedKey) (a : Addr) : Prop := (nestedKind P w).is h k a
variable {A : Around} {E : Value → Shared → Prop} {s : Shared}
theorem nk_keep {h h' : Heap} {k : NestedKey} {b : Addr} (x : NK P w h k b) (hk : ∀ c o, h.get? c = some o → h'.get? c = some o) : NK P w h' k b := ⟨NestedIs.at (fun a o vs n e _ => hk a o e) _ _ x.1, x.2⟩
theorem nk_same {h h' : Heap} {k : NestedKey} {a b : Addr} {o : Obj} {es : Array (Int × Value)} {ep : Nat} {t : SetTable} (hb : NK P w h k b) (ho : h.get? a = some o) (hd : o.data = .set es ep t) (hs : Heap.SameBut a h h') : NK P w h' k b :=
  ⟨NestedIs.at (fun c ob vs n e d => by
    refine (hs.2 c fun z => ?_).trans e
    rw [z, ho] at e
    cases e
    rw [hd] at d
    cases d) _ _ hb.1, hb.2⟩
/-- searching among keys shows nothing -/
theorem seen_nk {k : NestedKey} {b : Addr} {Q : Bool → Shared → Prop} (hk : NK P w s.heap k b) {ys : List Value} (hy : ∀ y ∈ ys, ∃ k' c, y = Value.ref c ∧ NK P w s.heap k' c) (h : Q false s) : wpAny (model P w) A (searchCouldBeSeen (.ref b) ys) Q E s := by
  unfold searchCouldBeSeen
  refine wpAny_bind ?_
  refine wpAny_forIn_list _ (fun rest r s' => r.1 = none ∧ s' = s ∧ ∀ y ∈ rest, ∃ k' c, y = Value.ref c ∧ NK P w s.heap k' c) _ ?_ ?_ _ _ ⟨rfl, rfl, hy⟩
  · rintro v rest r s' ⟨hr, rfl, hall⟩
    obtain ⟨k', c, rfl, hc⟩ := hall v List.mem_cons_self
    have rest' : ∀ y ∈ rest, ∃ k' c, y = Value.ref c ∧ NK P w s'.heap k' c := fun u hu' => hall u (List.mem_cons_of_mem _ hu')
    dsimp only
    by_cases hv : (b == c || (carriedByValue (.ref b) && carriedByValue (.ref c))) = true
    · refine wp_if_pos hv ?_
      exact wpAny_pure ⟨rfl, rfl, rest'⟩
    · refine wp_if_neg hv ?_
      refine wpAny_bind ((nestedKind P w).quiet hk ?_)
      simp only [Bool.not_true, Bool.false_eq_true, if_false]
      refine wpAny_bind ((nestedKind P w).quiet hc ?_)
      simp only [Bool.not_true, Bool.false_eq_true, if_false]
      refine wpAny_bind (noCls_key k _ 8 s' hk.1 hk.2 _ _ _ ?_)
      simp only [Bool.false_eq_true, if_false]
      refine wpAny_bind (noCls_key k' _ 8 s' hc.1 hc.2 _ _ _ ?_)
      simp only [Bool.false_eq_true, if_false]
      exact wpAny_pure ⟨rfl, rfl, rest'⟩
  · rintro ⟨r1, r2⟩ s' ⟨hr, rfl, _⟩
    simp only at hr
    subst hr
    exact wpAny_pure h
abbrev nh (w : World) (p : Addr × NestedKey) : Int := p.2.hash w
/-- the set of the keys L, in its own order -/
structure SN (P : Program) (w : World) (h : Heap) (a : Addr) (L : List (Addr × NestedKey)) (es : Array (Int × Value)) (ep : Nat) (t : SetTable) : Prop where
  ob : ∃ o, h.get? a = some o ∧ o.ExactSet ∧ o.data = .set es ep t
  rows : es.toList = L.map fun p => (nh w p, Value.ref p.1)
  tab : TabOk t (L.map (nh w))
  is : ∀ p ∈ L, NK P w h p.2 p.1
  plain : t.plain = true
  led : w.params.followText "set-order" = true ∨ t.led = true
  room : L.length * 5 < t.mask * 3
variable {a : Addr} {L : List (Addr × NestedKey)} {es : Array (Int × Value)} {ep : Nat} {t : SetTable}
theorem sn_len (R : SN P w s.heap a L es ep t) : es.size = L.length := by
  have h := congrArg List.length R.rows
  rw [Array.length_toList, List.length_map] at h
  exact h
theorem sn_fits (R : SN P w s.heap a L es ep t) : t.fits es.size = true := by
  have h1 := R.tab.sz
  rw [List.length_map] at h1
  have h2 := sn_len R
  have h3 := R.room
  unfold SetTable.fits SetTable.fill
  rw [R.tab.dm, Bool.and_eq_true, beq_iff_eq, decide_eq_true_eq]
  show t.place.size = es.size ∧ t.place.size + 0 ≤ t.mask
  omega
theorem sn_at (R : SN P w s.heap a L es ep t) {i : Nat} {p : Addr × NestedKey} (h : L[i]? = some p) : es[i]? = some (nh w p, Value.ref p.1) := by
  rw [← Array.getElem?_toList, R.rows, List.getElem?_map, h]
  rfl
theorem sn_gw (R : SN P w s.heap a L es ep t) : ¬ t.gaveWay = true := by
  unfold SetTable.gaveWay
  rw [mask_odd R.tab.mok]
  decide
theorem nth_dum (m : Nat) : ∀ (n : Nat) (p : SetTable.Probe), p.dummy = none → (nth m p n).dummy = none
  | 0, _, h => h
  | n + 1, p, h => nth_dum m n (adv m p) (by unfold adv; split <;> exact h)
/-- an absent key is not found: the empty slot at the end of its way -/
theorem sn_search (R : SN P w s.heap a L es ep t) {x : Addr} {k : NestedKey} (hx : NK P w s.heap k x) (hn : ∀ p ∈ L, p.2 ≠ k) (hu : A.units + 8 < cLine) {K : Nat} (hKf : K < 10 * SetTable.turns t.mask)
    (hK : way t.mask (k.hash w) K ∉ t.place.toList) (hKb : ∀ c, c < K → way t.mask (k.hash w) c ∈ t.place.toList) {Q : SetFound → Shared → Prop} (hq : Q (.free (way t.mask (k.hash w) K) false) s) :
    ∀ (f c : Nat) (stand : Option SetTable.Probe), stand.getD (t.probeStart (k.hash w)) = nth t.mask (runAt t.mask (SetTable.bits (k.hash w) % (t.mask + 1)) (SetTable.bits (k.hash w))) c → c ≤ K → K - c < f →
      wpAny (model P w) A (setSearchFrom a (.ref x) (k.hash w) true f stand) Q E s
  | 0, c, stand, _, _, hf => absurd hf (Nat.not_lt_zero _)
  | f + 1, c, stand, hst, hc, hf => by
    obtain ⟨o, ho, hex, hd⟩ := R.ob
    rw [setSearchFrom_succ]
    refine wpAny_bind (wpAny_setState_of ho hd (sn_fits R) ?_)
    dsimp only
    refine wp_if_neg (sn_gw R) ?_
    try refine wpAny_bind (wpAny_pure ?_)
    have hnd := nth_dum t.mask c (runAt t.mask (SetTable.bits (k.hash w) % (t.mask + 1)) (SetTable.bits (k.hash w))) rfl
    have sh : ∀ q, nth t.mask (nth t.mask (runAt t.mask (SetTable.bits (k.hash w) % (t.mask + 1)) (SetTable.bits (k.hash w))) c) q = nth t.mask (runAt t.mask (SetTable.bits (k.hash w) % (t.mask + 1)) (SetTable.bits (k.hash w))) (c + q) := fun q => (nth_add t.mask c _ q).symm
    have e1 : ∀ q, (nth t.mask (nth t.mask (runAt t.mask (SetTable.bits (k.hash w) % (t.mask + 1)) (SetTable.bits (k.hash w))) c) q).j = way t.mask (k.hash w) (c + q) := fun q => congrArg SetTable.Probe.j (sh q)
    rcases go_spec t R.tab.ris R.tab.dm (fun i => (es[i]?.map (·.1)).getD 0) (k.hash w) (10 * SetTable.turns t.mask) (K - c) _ hnd (by omega)
      (fun q hq => by rw [e1]; exact hKb (c + q) (by omega)) (by rw [e1, show c + (K - c) = K by omega]; exact hK) with ⟨q, i, hq', hi, hh, hno, hpr⟩ | ⟨hno, hpr⟩
    · have hpr' : t.probe (fun i => (es[i]?.map (·.1)).getD 0) (k.hash w) (stand.getD (t.probeStart (k.hash w))) = some (.candidate (way t.mask (k.hash w) (c + q)) i (nth t.mask (runAt t.mask (SetTable.bits (k.hash w) % (t.mask + 1)) (SetTable.bits (k.hash w))) (c + (q + 1)))) := by
        rw [hst, ← e1, ← sh]
        exact hpr
      rw [hpr']
      dsimp only
      rw [e1] at hi
      have hil : i < L.length := by
        have h1 : i < t.place.toList.length := (List.getElem?_eq_some_iff.mp hi).1
        have h2 := R.tab.sz
        rw [List.length_map] at h2
        rw [Array.length_toList] at h1
        omega
      obtain ⟨p, hp⟩ : ∃ p, L[i]? = some p := ⟨_, List.getElem?_eq_getElem hil⟩
      have hmem : p ∈ L := List.mem_of_getElem? hp
      have hkk := hn p hmem
      have rest : wpAny (model P w) A (searchRest a (.ref x) (k.hash w) true f es t (way t.mask (k.hash w) (c + q)) i (nth t.mask (runAt t.mask (SetTable.bits (k.hash w) % (t.mask + 1)) (SetTable.bits (k.hash w))) (c + (q + 1)))) Q E s := by
        unfold searchRest
        rw [sn_at R hp]
        dsimp only
        refine wpAny_bind (wpAny_holding ((nestedKind P w).eqBool (by exact hu) (R.is p hmem) hx ?_))
        refine wpAny_bind (wpAny_setState_of ho hd (sn_fits R) ?_)
        dsimp only
        refine wp_if_neg (by simp [hkk]) ?_
        try refine wpAny_bind (wpAny_pure ?_)
        rw [sameMem]
        dsimp only
        have hsl : t.slot (way t.mask (k.hash w) (c + q)) = .live i := slot_live R.tab.ris hi
        simp only [if_true, hsl, sn_at R hp]
        refine wpAny_bind (wpAny_isSame_ref_self (wpAny_bind (wpAny_pure ?_)))
        simp only [if_true]
        refine wp_if_neg (by simp [hkk]) ?_
        exact sn_search R hx hn hu hKf hK hKb hq f (c + (q + 1)) _ rfl (by omega) (by omega)
      by_cases hl : t.led = true
      · refine wp_if_neg (by simp [hl]) ?_
        try refine wpAny_bind (wpAny_pure ?_)
        exact rest
      · refine wp_if_pos (by simp [hl]) ?_
        refine wpAny_bind (seen_nk hx (fun y hy => ?_) ?_)
        · obtain ⟨e, he, ee⟩ := List.mem_map.mp hy
          have he1 : e ∈ es ∧ e.1 = k.hash w := by simpa using he
          have he2 : e ∈ es.toList := by simpa using he1.1
          rw [R.rows] at he2
          obtain ⟨p2, hp2, e2⟩ := List.mem_map.mp he2
          refine ⟨p2.2, p2.1, ?_, R.is p2 hp2⟩
          rw [← ee, ← e2]
        · refine wp_if_neg (by decide) ?_
          try refine wpAny_bind (wpAny_pure ?_)
          exact rest
    · have hpr' : t.probe (fun i => (es[i]?.map (·.1)).getD 0) (k.hash w) (stand.getD (t.probeStart (k.hash w))) = some (.empty (way t.mask (k.hash w) K) none) := by
        have e2 : way t.mask (k.hash w) K = (nth t.mask (nth t.mask (runAt t.mask (SetTable.bits (k.hash w) % (t.mask + 1)) (SetTable.bits (k.hash w))) c) (K - c)).j := by
          rw [e1, show c + (K - c) = K by omega]
        rw [hst, e2]
        exact hpr
      rw [hpr']
      dsimp only
      exact wpAny_pure hq
theorem sn_find (R : SN P w s.heap a L es ep t) {x : Addr} {k : NestedKey} (hx : NK P w s.heap k x) (hn : ∀ p ∈ L, p.2 ≠ k) (hu : A.units + 8 < cLine) {Q : SetFound → Shared → Prop}
    (hq : ∀ K, way t.mask (k.hash w) K ∉ t.place.toList → (∀ c, c < K → way t.mask (k.hash w) c ∈ t.place.toList) → Q (.free (way t.mask (k.hash w) K) false) s) : wpAny (model P w) A (setSearch a (.ref x) (k.hash w) true) Q E s := by
  have hroom := R.room
  obtain ⟨K, hKf, hK, hKb⟩ := R.tab.first (by rw [List.length_map]; omega) (k.hash w)
  have hbig : K < 100000 := by
    have : 10 * SetTable.turns t.mask ≤ 1420 := by
      unfold SetTable.turns
      rcases R.tab.mok with e | e | e <;> omega
    omega
  unfold setSearch
  exact sn_search R hx hn hu hKf hK hKb (hq K hK hKb) 100000 0 none rfl (Nat.zero_le _) (by omega)
theorem range_items {α : Type} (L : List α) : ∀ n, n ≤ L.length → (List.range n).filterMap (fun i => L[i]?) = L.take n
  | 0, _ => rfl
  | n + 1, h => by
    rw [List.range_succ, List.filterMap_append, range_items L n (Nat.le_of_lt h), List.take_add_one, List.getElem?_eq_getElem (show n < L.length from h), List.filterMap_cons_some (List.getElem?_eq_getElem (show n < L.length from h))]
    rfl
/-- the entries in another order -/
theorem rows_order {g : Addr × NestedKey → Int × Value} (L : List (Addr × NestedKey)) (es : Array (Int × Value)) (order : Array Nat) (hr : es.toList = L.map g) (hp : order.toList.Perm (List.range L.length)) :
    ∃ L2 : List (Addr × NestedKey), (order.filterMap (es[·]?)).toList = L2.map g ∧ L2.Perm L ∧ (L2.map fun p => (g p).1) = order.toList.map fun i => (es.map (·.1)).getD i 0 := by
  have ent : ∀ i, es[i]? = (L[i]?).map g := fun i => by rw [← Array.getElem?_toList, hr, List.getElem?_map]
  refine ⟨order.toList.filterMap fun i => L[i]?, ?_, ?_, ?_⟩
  · rw [Array.toList_filterMap, List.map_filterMap]
    exact congrArg (fun f => List.filterMap f order.toList) (funext ent)
  · have h1 := hp.filterMap fun i => L[i]?
    rw [range_items L L.length (Nat.le_refl _), List.take_length] at h1
    exact h1
  · have hb : ∀ i ∈ order.toList, i < L.length := fun i hi => List.mem_range.mp (hp.mem_iff.mp hi)
    revert hb
    generalize order.toList = l
    intro hb
    induction l with
    | nil => rfl
    | cons i l ih =>
      have hi := hb i List.mem_cons_self
      rw [List.filterMap_cons_some (List.getElem?_eq_getElem hi), List.map_cons, List.map_cons, ih fun j hj => hb j (List.mem_cons_of_mem _ hj)]
      have e : (es.map (·.1)).getD i 0 = (g L[i]).1 := by
        have e5 : (es.map (·.1))[i]? = some (g L[i]).1 := by rw [Array.getElem?_map, ent i, List.getElem?_eq_getElem hi]; rfl
        simp [Array.getD_eq_getD_getElem?, e5]
      rw [e]
theorem ins_rows {α β : Type} (g : α → β) (L : List α) (p : Nat) (x : α) : (L.take p ++ x :: L.drop p).map g = (L.map g).take p ++ g x :: (L.map g).drop p := by
  rw [List.map_append, List.map_cons, List.map_take, List.map_drop]
/-- the table of five laid anew -/
theorem sn_relay {o : Obj} (ho : s.heap.get? a = some o) (hex : o.ExactSet) (hd : o.data = .set es ep t) (hrows : es.toList = L.map fun p => (nh w p, Value.ref p.1)) (hsz : t.place.size = es.size) (hdm : t.dummies = #[]) (hfl : es.size ≤ t.mask)
    (is : ∀ p ∈ L, NK P w s.heap p.2 p.1) (pl : t.plain = true) (ld : w.params.followText "set-order" = true ∨ t.led = true) (h5 : L.length = 5) {Q : Unit → Shared → Prop}
    (hQ : ∀ h' L' es' ep' t', Heap.SameBut a s.heap h' → SN P w h' a L' es' ep' t' → L'.Perm L → Q () { s with heap := h' }) : wpAny (model P w) A (setRelay a (SetTable.grown 5)) Q E s := by
  have hsl : es.size = L.length := by
    have h := congrArg List.length hrows
    rw [Array.length_toList, List.length_map] at h
    exact h
  have hfits : t.fits es.size = true := by
    unfold SetTable.fits SetTable.fill
    rw [hdm, Bool.and_eq_true, beq_iff_eq, decide_eq_true_eq]
    show t.place.size = es.size ∧ t.place.size + 0 ≤ t.mask
    omega
  obtain ⟨t', order, e, hp, T, em, el, ep', ed⟩ := relaid_ok t (hs := es.map (·.1)) (wanted := SetTable.grown 5) (M := 31) (by rw [size_20]) (.inr (.inl rfl)) (by rw [Array.size_map, hsl, h5]; decide)
  rw [Array.size_map, hsl] at hp
  obtain ⟨L2, r1, r2, r3⟩ := rows_order L es order hrows hp
  rw [← r3] at T
  have hs2 : (order.filterMap (es[·]?)).size = es.size := by
    have h := congrArg List.length r1
    rw [Array.length_toList, List.length_map, r2.length_eq] at h
    rw [h, hsl]
  rw [setRelay_eq]
  refine wpAny_bind (wpAny_setState_of ho hd hfits ?_)
  dsimp only
  refine wp_if_neg (by rw [sizeLine_eq, size_20]; omega) ?_
  try refine wpAny_bind (wpAny_pure ?_)
  rw [e]
  dsimp only
  refine wpAny_bind ?_
  refine wp_if_neg (by rw [hs2]; simp) ?_
  try refine wpAny_bind (wpAny_pure ?_)
  refine wpAny_pure ?_
  dsimp only
  refine wpAny_storeSet_of ho hd ?_ (by rw [hs2, hsl, sizeLine_eq, h5]; omega)
  have sb : Heap.SameBut a s.heap (s.heap.update a (Obj.putSet (order.filterMap (es[·]?)) t')) := Heap.SameBut.update ..
  refine hQ _ L2 (order.filterMap (es[·]?)) (ep + 1) t' sb ?_ r2
  refine ⟨⟨_, store_at ho hd, ⟨hex.1, hex.2.1, hex.2.2⟩, rfl⟩, r1, T, fun p hpm => nk_same (is p (r2.mem_iff.mp hpm)) ho hd sb, by rw [ep']; exact pl, by rw [el]; exact ld, ?_⟩
  rw [r2.length_eq, em, h5]
  decide
/-- an absent key put -/
theorem sn_add (R : SN P w s.heap a L es ep t) {x : Addr} {k : NestedKey} (hx : NK P w s.heap k x) (hT : noT k = true) (hn : ∀ p ∈ L, p.2 ≠ k) (hu : A.units + 8 < cLine) (hm7 : t.mask = 7) (h4 : L.length ≤ 4) {Q : Bool → Shared → Prop}
    (hQ : ∀ b h' L' es' ep' t', Heap.SameBut a s.heap h' → SN P w h' a L' es' ep' t' → L'.Perm ((x, k) :: L) → (L.length < 4 → t'.mask = 7) → Q b { s with heap := h' }) :
    wpAny (model P w) A (setAddHashed a (.ref x) (k.hash w)) Q E s := by
  obtain ⟨o, ho, hex, hd⟩ := R.ob
  have hsl := sn_len R
  unfold setAddHashed
  refine wpAny_holding ?_
  rw [show (100000 : Nat) = 99999 + 1 from rfl, setAddHashedIn_succ]
  refine wpAny_bind (wpAny_setState_of ho hd (sn_fits R) ?_)
  dsimp only
  refine wp_if_neg (by simp [byScan, Value.scannable]) ?_
  try refine wpAny_bind (wpAny_pure ?_)
  refine wpAny_bind (sn_find R hx hn hu fun K hK hb => ?_)
  dsimp only
  refine wpAny_bind (wpAny_setState_of ho hd (sn_fits R) ?_)
  dsimp only
  obtain ⟨q1, q2, q3, q4, q5, q6, q7, q8, q9⟩ := R.tab.put hK hb
  have hp1 : (t.put (way t.mask (k.hash w) K)).1.plain = true := by rw [q6]; exact R.plain
  generalize hpt : t.put (way t.mask (k.hash w) K) = pt at q1 q3 q4 q5 q6 q7 q8 q9 hp1 ⊢
  obtain ⟨t1, p⟩ := pt
  dsimp only at q1 q3 q4 q5 q6 q7 q8 q9 hp1 ⊢
  subst q1
  first
    | (refine wpAny_bind ?_; refine wp_if_pos hp1 ?_; refine byVal_key k _ 8 s hx.1 hx.2 hT _ _ _ ?_)
    | refine wp_if_pos hp1 (wpAny_bind (byVal_key k _ 8 s hx.1 hx.2 hT _ _ _ ?_))
  simp only [if_true]
  have hin : (SetTable.insertAt es (SetTable.below t.place (way t.mask (k.hash w) K)) (k.hash w, Value.ref x)).toList = (L.take (SetTable.below t.place (way t.mask (k.hash w) K)) ++ (x, k) :: L.drop (SetTable.below t.place (way t.mask (k.hash w) K))).map fun p => (nh w p, Value.ref p.1) := by
    rw [SetTable.toList_insertAt, ins_rows, R.rows]
  generalize hpp : SetTable.below t.place (way t.mask (k.hash w) K) = p at q2 q3 hin ⊢
  have pm := put_perm L p (x, k)
  have hlen : (L.take p ++ (x, k) :: L.drop p).length = L.length + 1 := pm.length_eq
  have hhs : (L.take p ++ (x, k) :: L.drop p).map (nh w) = (L.map (nh w)).take p ++ k.hash w :: (L.map (nh w)).drop p := ins_rows (nh w) L p (x, k)
  rw [← hhs] at q3
  have hes : (SetTable.insertAt es p (k.hash w, Value.ref x)).size = L.length + 1 := by
    have h := congrArg List.length hin
    rw [Array.length_toList, List.length_map, hlen] at h
    exact h
  generalize SetTable.insertAt es p (k.hash w, Value.ref x) = es1 at hin hes ⊢
  generalize L.take p ++ (x, k) :: L.drop p = L1 at pm hlen q3 hin
  refine wpAny_bind (wpAny_storeSet_of ho hd ?_ (by rw [hes, sizeLine_eq]; omega))
  have sb : Heap.SameBut a s.heap (s.heap.update a (Obj.putSet es1 t1)) := Heap.SameBut.update ..
  have ho1 := store_at (es' := es1) (t' := t1) ho hd
  generalize s.heap.update a (Obj.putSet es1 t1) = h1 at sb ho1 ⊢
  have is1 : ∀ p ∈ L1, NK P w h1 p.2 p.1 := fun p hp => by
    rcases List.mem_cons.mp (pm.mem_iff.mp hp) with e | hp
    · rw [e]; exact nk_same hx ho hd sb
    · exact nk_same (R.is p hp) ho hd sb
  have ld1 : w.params.followText "set-order" = true ∨ t1.led = true := by rw [q5]; exact R.led
  have hfull : t1.tooFull = decide ((L.length + 1) * 5 ≥ 21) := by
    unfold SetTable.tooFull
    rw [q9, List.length_map, q4, hm7]
  by_cases h5 : L.length = 4
  · have hf : t1.tooFull = true := by rw [hfull, h5]; decide
    first
      | (refine wpAny_bind ?_; refine wp_if_pos (by simp [hf]) ?_)
      | (refine wp_if_pos (by simp [hf]) ?_; refine wpAny_bind ?_)
    rw [hsl, h5]
    have hsz1 : t1.place.size = es1.size := by
      have h := q3.sz
      rw [List.length_map, hlen] at h
      rw [h, hes]
    refine sn_relay (s := { s with heap := h1 }) ho1 ⟨hex.1, hex.2.1, hex.2.2⟩ rfl hin hsz1 q3.dm (by rw [hes, q4, hm7]; omega) is1 hp1 ld1 (by rw [hlen, h5]) ?_
    intro h2 L2 es2 ep2 t2 sb2 R2 pm2
    exact wpAny_pure (hQ true h2 L2 es2 ep2 t2 (sb.trans sb2) R2 (pm2.trans pm) fun z => absurd h5 (Nat.ne_of_lt z))
  · have hf : t1.tooFull = false := by rw [hfull]; exact decide_eq_false (by omega)
    first
      | refine wp_if_neg (by simp [hf]) ?_
      | (refine wpAny_bind ?_; refine wp_if_neg (by simp [hf]) ?_; refine wpAny_pure ?_)
    refine wpAny_pure (hQ true h1 L1 es1 (ep + 1) t1 sb ⟨⟨_, ho1, ⟨hex.1, hex.2.1, hex.2.2⟩, rfl⟩, hin, q3, is1, hp1, ld1, by rw [hlen, q4, hm7]; omega⟩ pm fun _ => by rw [q4, hm7])
end
end DSW
set_option Elab.async false
set_option linter.all false
set_option maxRecDepth 100000
set_option maxHeartbeats 4000000
/-! set(t), t a tuple of a few different keys; len of it. -/
namespace DSW
open PySem PySem.Spec PyProof.Rows L2 Evl
section
variable {P : Program} {w : World} {A : Around} {E : Value → Shared → Prop} {s : Shared}
/-- what the set holds behind the first i items -/
def Have (P : Program) (w : World) (ks : List (Addr × NestedKey)) (S : Addr) (i : Nat) (h : Heap) : Prop :=
  ∃ L es ep t, SN P w h S L es ep t ∧ (∀ p ∈ L, p ∈ ks.take i) ∧ L.length = i ∧ (i ≤ 4 → t.mask = 7)
theorem sn_keep {h h' : Heap} {a : Addr} {L : List (Addr × NestedKey)} {es : Array (Int × Value)} {ep : Nat} {t : SetTable} (R : SN P w h a L es ep t) (ha : ∀ o, h.get? a = some o → h'.get? a = some o) (ht : ∀ p ∈ L, NK P w h' p.2 p.1) : SN P w h' a L es ep t := by
  obtain ⟨o, ho, r⟩ := R.ob
  exact ⟨⟨o, ha o ho, r⟩, R.rows, R.tab, ht, R.plain, R.led, R.room⟩
theorem sn_fresh {h : Heap} {a : Addr} (ho : h.get? a = some { cls := .type "set", dict := none, data := .set #[] 0 (.fresh 0 0 (!w.params.followText "set-order")) }) : SN P w h a [] #[] 0 (.fresh 0 0 (!w.params.followText "set-order")) where
  ob := ⟨_, ho, ⟨rfl, rfl, rfl⟩, rfl⟩
  rows := rfl
  tab := ⟨List.Pairwise.nil, rfl, rfl, .inl rfl, fun x hx => (by cases hx), fun i h j hi => (by simp at hi)⟩
  is := fun p hp => (by cases hp)
  plain := rfl
  led := by
    show _ ∨ (!w.params.followText "set-order") = true
    cases w.params.followText "set-order"
    · exact .inr rfl
    · exact .inl rfl
  room := by
    show 0 * 5 < 7 * 3
    decide
theorem set_loop {I : Addr} {fp wr : List Addr} {G : Array GenState → Array GenState → Prop} {n : Nat} {Pv : Nat → Value → Prop} {St : Nat → Shared → Prop} {R : Result → Shared → Prop}
    (W : WalksS P w A.in1 I fp wr G n Pv St) (S : Addr) (hSf : S ∉ fp) (ks : List (Addr × NestedKey)) (hn : n = ks.length) (h5 : ks.length ≤ 5) (hval : ∀ i v, Pv i v → ∃ p, ks[i]? = some p ∧ v = .ref p.1) (nd : (ks.map (·.2)).Nodup) (hT : ∀ p ∈ ks, noT p.2 = true)
    (h0 : Heap) (hk : ∀ p ∈ ks, NK P w h0 p.2 p.1) (hS0 : h0.get? S = none) (hw0 : ∀ b ∈ wr, h0.get? b = none) (hu : A.in1.units + 8 < cLine) :
    ∀ (k i : Nat) (s : Shared), n - i = k → i ≤ n → St i s → (∀ b o, h0.get? b = some o → s.heap.get? b = some o) → Have P w ks S i s.heap →
      (∀ s', Moved (S :: wr) G s s' → Have P w ks S n s'.heap → (∀ b o, h0.get? b = some o → s'.heap.get? b = some o) → R (.ok (.ret .none)) s') →
      codeAny (model P w) A (.builtin "set.update.loop" ⟨[.ref S, .ref I], []⟩) R s := by
  have hSw : S ∉ wr := fun h => hSf (W.sub _ h)
  have hsub : ∀ b ∈ wr, b ∈ S :: wr := fun b hb => List.mem_cons_of_mem _ hb
  have keepM : ∀ {s s' : Shared}, Moved wr G s s' → (∀ b o, h0.get? b = some o → s.heap.get? b = some o) → ∀ b o, h0.get? b = some o → s'.heap.get? b = some o := fun hm hkp b o e =>
    hm.heap b o (fun hb => by rw [hw0 b hb] at e; cases e) (hkp b o e)
  intro k
  induction k with
  | zero =>
    intro i s hk' hi hst hkp ⟨L, es, ep, t, hS, g1, g2, g3⟩ hR
    have hin : i = n := by omega
    subst hin
    refine codeAny_builtin F.entry_set_update_loop ?_
    rw [Around.under_plainId F.plain_set_update_loop _]
    show wpAny _ A.in1 (pyNext (.ref I) >>= _) _ _ s
    refine wpAny_bind (W.done s _ _ hst fun s' hm => ?_)
    show wpAny _ A.in1 (ret Value.none) _ _ s'
    have hkp' := keepM hm hkp
    exact wpAny_pure (hR s' (hm.mono hsub) ⟨L, es, ep, t, sn_keep hS (fun o e => hm.heap S o hSw e) (fun p hp => nk_keep (hk p (List.mem_of_mem_take (g1 p hp))) hkp'), g1, g2, g3⟩ hkp')
  | succ k ih =>
    intro i s hk' hi hst hkp ⟨L, es, ep, t, hS, g1, g2, g3⟩ hR
    have hlt : i < n := by omega
    refine codeAny_builtin F.entry_set_update_loop ?_
    rw [Around.under_plainId F.plain_set_update_loop _]
    show wpAny _ A.in1 (pyNext (.ref I) >>= _) _ _ s
    refine wpAny_bind (W.item i s _ _ hlt hst fun v s' hP hst' hm => ?_)
    obtain ⟨p, hp, rfl⟩ := hval i v hP
    have hkp' := keepM hm hkp
    have hpm : p ∈ ks := List.mem_of_getElem? hp
    have hS' : SN P w s'.heap S L es ep t := sn_keep hS (fun o e => hm.heap S o hSw e) fun q hq => nk_keep (hk q (List.mem_of_mem_take (g1 q hq))) hkp'
    have hx : NK P w s'.heap p.2 p.1 := nk_keep (hk p hpm) hkp'
    have hnew : ∀ q ∈ L, q.2 ≠ p.2 := fun q hq e => by
      have hq' := g1 q hq
      obtain ⟨j, hj, ej⟩ := List.getElem_of_mem hq'
      have hji : j < i := by rw [List.length_take] at hj; omega
      have hjk : (ks.map (·.2))[j]? = some q.2 := by
        have : ks[j]? = some q := by
          rw [← ej, List.getElem_take, List.getElem?_eq_getElem]
        rw [List.getElem?_map, this]
        rfl
      have hik : (ks.map (·.2))[i]? = some p.2 := by rw [List.getElem?_map, hp]; rfl
      rw [e] at hjk
      obtain ⟨hj1, e1⟩ := List.getElem?_eq_some_iff.mp hjk
      obtain ⟨hi1, e2⟩ := List.getElem?_eq_some_iff.mp hik
      have := (List.nodup_iff_pairwise_ne.mp nd)
      have := List.pairwise_iff_getElem.mp this j i hj1 hi1 hji
      exact this (e1.trans e2.symm)
    show wpAny _ A.in1 (holding [Value.ref p.1] (setAdd S (.ref p.1)) >>= _) _ _ s'
    refine wpAny_bind (wpAny_holding ?_)
    unfold setAdd
    refine wpAny_holding ?_
    refine wpAny_bind ((nestedKind P w).pyHash (by exact hu) hx ?_)
    have h4 : L.length ≤ 4 := by omega
    refine sn_add (s := { s' with toks := s'.toks + (nestedKind P w).draws p.2 }) hS' hx (hT p hpm) hnew hu (g3 (by omega)) h4 fun b h' L' es' ep' t' hsb hS2 pm hm7 => ?_
    have hkp2 : ∀ b o, h0.get? b = some o → h'.get? b = some o := fun b o e => (hsb.2 b (fun z => by rw [z, hS0] at e; cases e)).trans (hkp' b o e)
    have g' : Have P w ks S (i + 1) h' := by
      refine ⟨L', es', ep', t', hS2, fun q hq => ?_, by rw [pm.length_eq, List.length_cons, g2], fun z => hm7 (by omega)⟩
      rw [List.take_add_one, hp]
      rcases List.mem_cons.mp (pm.mem_iff.mp hq) with e | hq
      · rw [e]; exact List.mem_append_right _ (List.mem_singleton.mpr rfl)
      · exact List.mem_append_left _ (g1 q hq)
    refine wpAny_pure ⟨plainId_quiet F.plain_set_update_loop _, ih (i + 1) _ (by omega) hlt (W.frame _ s' _ _ hst' (Nat.le_add_right _ _) fun b hb o e => ?_) hkp2 g' fun s'' hm'' g'' hkp'' => ?_⟩
    · rw [hsb.2 b (fun h : b = S => hSf (by rw [← h]; exact hb))]; exact e
    · refine hR s'' (Moved.trans W.gtrans ((hm.mono hsub).then_heap (Nat.le_add_right _ _) fun b o hb e => ?_) hm'') g'' hkp''
      rw [hsb.2 b (fun h : b = S => hb (by rw [h]; exact List.mem_cons_self))]; exact e
theorem call_set_keys {l : Addr} {items : Array Value} (ks : List (Addr × NestedKey)) {Q : Value → Shared → Prop} (hh : A.handled = none) (hl : s.heap.IsTuple l items) (hit : items.toList = ks.map fun p => Value.ref p.1)
    (hk : ∀ p ∈ ks, NK P w s.heap p.2 p.1) (h5 : ks.length ≤ 5) (nd : (ks.map (·.2)).Nodup) (hT : ∀ p ∈ ks, noT p.2 = true) (hu : A.units + 20 < cLine)
    (h : ∀ (h' : Heap) (tk : Nat), Have P w ks s.heap.objs.size ks.length h' → (∀ b o, s.heap.get? b = some o → h'.get? b = some o) → Q (.ref s.heap.objs.size) { s with heap := h', toks := tk }) :
    wpAny (model P w) A (call (.type "set") [.ref l]) Q E s := by
  have hisz : items.size = ks.length := by
    have q := congrArg List.length hit
    rw [Array.length_toList, List.length_map] at q
    exact q
  obtain ⟨c, tl, hmro⟩ := F.called_set.mro
  have hmade := F.called_set.made
  have hsub := F.called_set.sub
  refine wpAny_call (codeAny_of_tree ?_)
  show wpAny _ _ (callAny (.type "set") _) _ _ _
  refine wpAny_pure ⟨Code.quiet_builtin _ (by decide +kernel), codeAny_builtin F.entry_type_call ?_⟩
  rw [Around.under_plain (weight_type_call_type "set" [.ref l] []) rfl]
  have h1 := F.called_set.notType
  have h2 := F.called_set.canCreate
  have hct := F.typeCall_set_1 (.ref l)
  repeat (any_goals (first | assumption | wp_step))
  refine codeAny_mono (code_set_led1 (.ref l) (E := E) (Q₁ := fun obj s₁ => obj = .ref s.heap.objs.size ∧ s₁ = { s with heap := s.heap.push { cls := .type "set", dict := none, data := .set #[] 0 (.fresh 0 0 (!w.params.followText "set-order")) } }) ⟨rfl, rfl⟩) fun r s₁ hr => ?_
  cases r with
  | error e => exact hr
  | ok fl =>
    cases fl with
    | ret obj =>
      obtain ⟨rfl, rfl⟩ := hr
      have hS : (s.heap.push { cls := .type "set", dict := none, data := .set #[] 0 (.fresh 0 0 (!w.params.followText "set-order")) }).get? s.heap.objs.size = some { cls := .type "set", dict := none, data := .set #[] 0 (.fresh 0 0 (!w.params.followText "set-order")) } := Heap.get?_push_size _ rfl
      have hTy : Shared.TypeIs { s with heap := s.heap.push { cls := .type "set", dict := none, data := .set #[] 0 (.fresh 0 0 (!w.params.followText "set-order")) } } (.ref s.heap.objs.size) "set" := ⟨_, hS, rfl⟩
      have hli := F.called_set.init.lookup
      have hbi := F.called_set.init.bind (.ref s.heap.objs.size)
      repeat (any_goals (first | assumption | wp_step))
      refine codeAny_mono (codeAny_call_builtin (R := wants (fun r s₂ => r = .none ∧ ∃ h' tk, s₂ = { s with heap := h', toks := tk } ∧ Have P w ks s.heap.objs.size ks.length h' ∧
          (∀ b o, s.heap.get? b = some o → h'.get? b = some o)) E) F.called_set.init.plain F.entry_set_init (check_set_init_1 hTy ?_)) fun r₂ s₂ hr₂ => ?_
      · obtain ⟨ol, hol, hcl, nl, hdl⟩ := hl
        obtain ⟨ocls, odict, odata, oslots⟩ := ol
        simp only at hcl hdl
        subst hcl; subst hdl
        have hol' : (s.heap.push { cls := .type "set", dict := none, data := .set #[] 0 (.fresh 0 0 (!w.params.followText "set-order")) }).get? l = some { cls := .type "tuple", dict := odict, data := .seq items nl, slots := oslots } := Heap.get?_push_of_some _ hol
        have hsls := F.sub_tuple_set
        have hslf := F.sub_tuple_frozenset
        have hne : (Value.type "tuple" == Value.type "dict") = false := by decide
        have hl1 : (s.heap.push { cls := .type "set", dict := none, data := .set #[] 0 (.fresh 0 0 (!w.params.followText "set-order")) }).IsTuple l items := ⟨_, hol', rfl, nl, rfl⟩
        unfold Builtin.«set.__init__» noKeywords Builtin.Frozenset.updateFrom
        generalize hPI : pyIter = PI
        wp_walk
        subst hPI
        refine wpAny_pyIter_tuple hl1 ?_
        refine wpAny_bind (wpAny_runValue ?_)
        have hlS : l < s.heap.objs.size := Heap.lt_size hol
        have hh3 : A.in1.in1.in1.handled = none := by simp [hh]
        have hneI : l ≠ (s.heap.push { cls := .type "set", dict := none, data := .set #[] 0 (.fresh 0 0 (!w.params.followText "set-order")) }).objs.size := by
          rw [Heap.size_push]; exact Nat.ne_of_lt (Nat.lt_succ_of_lt hlS)
        have hSf : s.heap.objs.size ∉ [(s.heap.push { cls := .type "set", dict := none, data := .set #[] 0 (.fresh 0 0 (!w.params.followText "set-order")) }).objs.size, l] := by
          rw [Heap.size_push]; simp only [List.mem_cons, List.mem_singleton, List.not_mem_nil, or_false, not_or]
          exact ⟨Nat.ne_of_lt (Nat.lt_succ_self _), Nat.ne_of_gt hlS⟩
        have hval : ∀ (i : Nat) (v : Value), items[i]? = some v → ∃ p, ks[i]? = some p ∧ v = .ref p.1 := fun i v hv => by
          have q : items.toList[i]? = some v := by rw [Array.getElem?_toList]; exact hv
          rw [hit, List.getElem?_map] at q
          cases hq : ks[i]? with
          | none => rw [hq] at q; cases q
          | some p =>
            rw [hq] at q
            exact ⟨p, rfl, (Option.some.inj q).symm⟩
        have none_of : ∀ b, s.heap.objs.size ≤ b → s.heap.get? b = none := fun b hb => by
          cases q : s.heap.get? b with
          | none => rfl
          | some o => exact absurd (Nat.lt_of_lt_of_le (Heap.lt_size q) hb) (Nat.lt_irrefl _)
        refine set_loop ((Walks.tuple hh3 _ l hneI items).toS) s.heap.objs.size
          hSf ks hisz h5 hval nd hT s.heap hk (none_of _ (Nat.le_refl _)) (fun b hb => none_of b (by
            rw [List.mem_singleton.mp hb, Heap.size_push]
            exact Nat.le_succ _)) (by simp only [Around.in1_units]; omega) (items.size - 0) 0 _ (by omega) (Nat.zero_le _)
          ⟨⟨_, Heap.get?_push_size _ rfl, rfl, rfl⟩, (hl1.push _)⟩ (fun b o e => Heap.get?_push_of_some _ (Heap.get?_push_of_some _ e)) ?hS0 ?hR
        case hS0 =>
          have hget : ((s.heap.push { cls := .type "set", dict := none, data := .set #[] 0 (.fresh 0 0 (!w.params.followText "set-order")) }).push { cls := .type "tuple_iterator", data := .fields #[.ref l, .int 0 0] }).get? s.heap.objs.size
              = some { cls := .type "set", dict := none, data := .set #[] 0 (.fresh 0 0 (!w.params.followText "set-order")) } := Heap.get?_push_of_some _ hS
          exact ⟨[], #[], 0, _, sn_fresh hget, fun p hp => (by cases hp), rfl, fun _ => rfl⟩
        case hR =>
          intro s' hm g' hkp
          obtain ⟨h', g2, d', tk', os'⟩ := s'
          have eg : g2 = s.gens := hm.gens
          have ed : d' = s.drawn := hm.drawn
          have eo : os' = s.os := hm.os
          subst eg; subst ed; subst eo
          show wpAny _ _ _ _ _ _
          refine wpAny_pure ?_
          show wpAny _ _ (ret Value.none) _ _ _
          rw [hisz] at g'
          exact wpAny_pure ⟨rfl, h', tk', rfl, g', hkp⟩
      · cases r₂ with
        | error e => exact hr₂
        | ok fl₂ =>
          cases fl₂ with
          | ret r =>
            obtain ⟨rfl, h', tk, rfl, g', hk'⟩ := hr₂
            repeat (any_goals (first | assumption | wp_step))
            exact h _ _ g' hk'
          | _ => exact hr₂.elim
    | _ => exact hr.elim
end
end DSW
set_option Elab.async false
set_option linter.all false
set_option maxRecDepth 100000
set_option maxHeartbeats 2000000
/-! len(set(rules)); is_rulebook. -/
namespace DSW
open PySem PySem.Spec PyProof.Rows L2 Evl
def nsK (l : List Int) : List NestedKey := l.map NestedKey.num
def hK : Option Int → NestedKey
  | none => .none
  | some i => .num i
def rlK (r : Rl) : NestedKey := .tup [hK r.1, .tup (nsK r.2.1), .tup (nsK r.2.2)]
theorem nsK_inj : ∀ {l m : List Int}, nsK l = nsK m → l = m
  | [], [], _ => rfl
  | [], y :: m, h => by cases h
  | x :: l, [], h => by cases h
  | x :: l, y :: m, h => by
    have h' : NestedKey.num x :: nsK l = NestedKey.num y :: nsK m := h
    injection h' with h1 h2
    injection h1 with h1
    rw [h1, nsK_inj h2]
theorem rlK_inj {r s : Rl} (h : rlK r = rlK s) : r = s := by
  obtain ⟨a, b, c⟩ := r
  obtain ⟨a', b', c'⟩ := s
  unfold rlK at h
  injection h with h
  injection h with h1 h
  injection h with h2 h
  injection h with h3 _
  injection h2 with h2
  injection h3 with h3
  have h2' : b = b' := nsK_inj h2
  have h3' : c = c' := nsK_inj h3
  have h1' : a = a' := by
    have h1 : hK a = hK a' := h1
    cases a <;> cases a' <;> first | rfl | (injection h1 with h1; rw [h1]) | cases h1
  rw [h1', h2', h3']
theorem nsK_depth : ∀ l : List Int, NestedKey.depthAll (nsK l) = 0
  | [] => rfl
  | x :: l => by
    show max 0 (NestedKey.depthAll (nsK l)) = 0
    rw [nsK_depth l]
    rfl
theorem hK_depth (a : Option Int) : (hK a).depth = 0 := by cases a <;> rfl
theorem rlK_depth (r : Rl) : (rlK r).depth ≤ 8 := by
  show max (hK r.1).depth (max (NestedKey.depthAll (nsK r.2.1) + 1) (max (NestedKey.depthAll (nsK r.2.2) + 1) 0)) + 1 ≤ 8
  rw [hK_depth, nsK_depth, nsK_depth]
  decide
theorem nsK_noT : ∀ l : List Int, noTA (nsK l) = true
  | [] => rfl
  | x :: l => by
    show (true && noTA (nsK l)) = true
    rw [nsK_noT l]
    rfl
theorem rlK_noT (r : Rl) : noT (rlK r) = true := by
  have h1 : noT (hK r.1) = true := by cases r.1 <;> rfl
  show (noT (hK r.1) && (noTA (nsK r.2.1) && (noTA (nsK r.2.2) && true))) = true
  rw [h1, nsK_noT, nsK_noT]
  rfl
section
variable {X : Cx} {pins : List (Addr × Obj)} {σ : L2.St} {H : Hp} {s : Shared}
theorem nested_ints : ∀ (l : List Int) {xs : List V} {us : List Value}, DqA X.K H (itD l) xs → Vals xs us → NestedAll s.heap (nsK l) us
  | [], _, us, h, r => by
    rw [dqA_nil.mp h] at r
    cases r
    exact .nil
  | i :: l, _, us, h, r => by
    obtain ⟨v, q, e, h1, h2⟩ := dqA_cons.mp h
    rw [e] at r
    cases r with
    | cons r1 r2 =>
      rw [dq_int.mp h1] at r1
      obtain ⟨t, rfl⟩ := r1
      exact .cons (.int i t) (nested_ints l h2 r2)
theorem nested_tup (I : Inv X pins σ H s) {l : List Int} {v : V} {u : Value} (h : Dq X.K H (.tuple (itD l)) v) (r : RelV v u) : NestedIs s.heap (.tup (nsK l)) u := by
  obtain ⟨a, xs, rfl, hs, hA⟩ := dq_tup.mp h
  obtain ⟨its, rv, pt, hz⟩ := I.tuple hs
  obtain rfl : u = Value.ref a := r
  obtain ⟨o, ho, hc, n, hd⟩ := id pt
  exact .tup ho hc hd (by simpa using nested_ints l hA rv)
theorem nested_hd {a : Option Int} {v : V} {u : Value} (h : Dq X.K H (hdD a) v) (r : RelV v u) : NestedIs s.heap (hK a) u := by
  cases a with
  | none =>
    have e := dq_none.mp (show Dq X.K H .none v from h)
    rw [e] at r
    obtain rfl : u = Value.none := r
    exact .none
  | some i =>
    have e := dq_int.mp (show Dq X.K H (.int i) v from h)
    rw [e] at r
    obtain ⟨t, rfl⟩ := r
    exact .int i t
theorem nested_rl (I : Inv X pins σ H s) {rl : Rl} {v : V} {u : Value} (h : Dq X.K H (rlD rl) v) (r : RelV v u) : ∃ a, u = .ref a ∧ v = .ref a ∧ NestedIs s.heap (rlK rl) u := by
  obtain ⟨a, xs, rfl, hs, hA⟩ := dq_tup.mp h
  obtain ⟨its, rv, pt, hz⟩ := I.tuple hs
  obtain rfl : u = Value.ref a := r
  obtain ⟨o, ho, hc, n, hd⟩ := id pt
  obtain ⟨x, r1, rfl, ra, h1⟩ := dqA_cons.mp hA
  obtain ⟨y, r2, rfl, rb, h2⟩ := dqA_cons.mp h1
  obtain ⟨z, r3, rfl, rc, h3⟩ := dqA_cons.mp h2
  rw [dqA_nil.mp h3] at rv
  cases rv with
  | cons q1 rv =>
    cases rv with
    | cons q2 rv =>
      cases rv with
      | cons q3 rv =>
        cases rv
        exact ⟨a, rfl, rfl, .tup ho hc hd (by simpa using NestedAll.cons (nested_hd ra q1) (.cons (nested_tup I rb q2) (.cons (nested_tup I rc q3) .nil)))⟩
theorem keys_of (I : Inv X pins σ H s) : ∀ (rs : List Rl) {xs : List V} {us : List Value}, DqA X.K H (rsD rs) xs → Vals xs us → ∃ ks : List (Addr × NestedKey), us = ks.map (fun p => Value.ref p.1) ∧ ks.map (·.2) = rs.map rlK ∧ ∀ p ∈ ks, NestedIs s.heap p.2 (.ref p.1)
  | [], _, us, h, r => by
    rw [dqA_nil.mp h] at r
    cases r
    exact ⟨[], rfl, rfl, fun p hp => by cases hp⟩
  | q :: rs, _, us, h, r => by
    obtain ⟨v, w, e, h1, h2⟩ := dqA_cons.mp h
    rw [e] at r
    cases r with
    | cons r1 r2 =>
      obtain ⟨a, rfl, _, hn⟩ := nested_rl I h1 r1
      obtain ⟨ks, e1, e2, e3⟩ := keys_of I rs h2 r2
      refine ⟨(a, rlK q) :: ks, by rw [e1]; rfl, by rw [List.map_cons, List.map_cons, e2], fun p hp => ?_⟩
      rcases List.mem_cons.mp hp with z | hp
      · rw [z]; exact hn
      · exact e3 p hp
/-- a set of n members, by its object -/
def SetN (n : Nat) (a : Addr) : HO := .ext fun h => ∃ o es ep t, h.get? a = some o ∧ o.ExactSet ∧ o.data = .set es ep t ∧ t.fits es.size = true ∧ es.size = n
def rSetN (K : PySem.W.Frag) : List V → Hp → VK → Prop := fun vs H Q => ∃ (a : Addr) (rs : List Rl) (xs : List V), vs = [V.ref a] ∧ SqT K H a xs ∧ DqA K H (rsD rs) xs ∧ rs.Nodup ∧ rs.length ≤ 5 ∧ ∀ p, H p = none → Q (.ref p) (upd H p (SetN rs.length p))
theorem cr_setN (hc : X.calm = true) (hu : X.A.units + 64 < cLine) : CallR X (.type "set") (rSetN X.K) := by
  intro pins s σ H vs us Q I r h
  obtain ⟨a, rs, xs, rfl, hs, hA, nd, h5, q⟩ := h
  obtain ⟨its, rv, pt, hz⟩ := I.tuple hs
  obtain ⟨u, rfl, ru⟩ := vals1 r
  obtain rfl : u = Value.ref a := ru
  obtain ⟨ks, e1, e2, e3⟩ := keys_of I rs hA rv
  have hlen : ks.length = rs.length := by have := congrArg List.length e2; rwa [List.length_map, List.length_map] at this
  have hk2 : ∀ p ∈ ks, ∃ r, p.2 = rlK r := fun p hp => by
    have : p.2 ∈ rs.map rlK := by rw [← e2]; exact List.mem_map.mpr ⟨p, hp, rfl⟩
    obtain ⟨r, _, er⟩ := List.mem_map.mp this
    exact ⟨r, er.symm⟩
  refine call_set_keys (A := X.A) ks (I.ok.hd hc) (show s.heap.IsTuple a its.toArray from pt) (by rw [List.toList_toArray]; exact e1) (fun p hp => ⟨e3 p hp, ?_⟩) (by rw [hlen]; exact h5) ?_ (fun p hp => ?_) (by omega) fun h' tk g k => ?_
  · obtain ⟨r, er⟩ := hk2 p hp
    rw [er]
    exact rlK_depth r
  · rw [e2]
    exact List.Pairwise.map _ (fun x y hxy e => hxy (rlK_inj e)) nd
  · obtain ⟨r, er⟩ := hk2 p hp
    rw [er]
    exact rlK_noT r
  · obtain ⟨L, es, ep, t, R, g1, g2, g3⟩ := g
    obtain ⟨o, ho, hex, hd⟩ := R.ob
    refine ⟨.ref _, upd H s.heap.objs.size (SetN rs.length s.heap.objs.size), I.laid (t' := tk) k (Nat.le_refl _) ?_, rfl, q _ (I.hok.fresh (Nat.le_refl _))⟩
    refine ⟨⟨o, es, ep, t, ho, hex, hd, sn_fits (s := { s with heap := h' }) R, by rw [sn_len (s := { s with heap := h' }) R, g2, hlen]⟩, ⟨o, ho⟩, fun h1 h2 p k2 => ?_⟩
    obtain ⟨o', es', ep', t', a1, a2⟩ := p
    exact ⟨o', es', ep', t', k2 o' a1, a2⟩
def rLenN : List V → Hp → VK → Prop := fun vs H Q => ∃ (a : Addr) (n : Nat), vs = [V.ref a] ∧ H a = some (SetN n a) ∧ n ≤ 5 ∧ Q (.int (n : Int)) H
theorem cr_lenN : CallR X (.builtin "len") rLenN := by
  intro pins s σ H vs us Q I r h
  obtain ⟨a, n, rfl, ha, hn, q⟩ := h
  obtain ⟨u, rfl, ru⟩ := vals1 r
  obtain rfl : u = Value.ref a := ru
  obtain ⟨⟨o, es, ep, t, ho, hex, hd, hf, hsz⟩, _, _⟩ := I.hok a _ ha
  refine call_len_set ho hex hd hf (by rw [hsz]; omega) ⟨.int (n : Int), H, I.tok _, ⟨_, by rw [hsz]⟩, q⟩
/-- len(set(e)) of different rules -/
theorem de_lenSet {a : Expr} {ρ : En} {rs : List Rl} {p pos p2 pos2 : Pos} (hc : X.calm = true) (hu : X.A.units + 64 < cLine) (hg : Gl X "len") (hm : X.mg "len" = none) (hg2 : Gl X "set") (hm2 : X.mg "set" = none) (ha : DE X a ρ (.d (.tuple (rsD rs)))) (nd : rs.Nodup) (h5 : rs.length ≤ 5)
    (hs : starEach [a] X.env = (false, eval a X.env) :: starEach [] X.env := by rfl)
    (hs2 : starEach [.Call (.Name "set" p2) [a] [] pos2] X.env = (false, eval (.Call (.Name "set" p2) [a] [] pos2) X.env) :: starEach [] X.env := by rfl) :
    DE X (.Call (.Name "len" p) [.Call (.Name "set" p2) [a] [] pos2] [] pos) ρ (.d (.int (rs.length : Int))) := by
  have h1 := pe_callTy (p := p2) (pos := pos2) (cr_setN hc hu) hg2 hm2 boot_set' (da_cons ha da_nil hs) (he := hs)
  refine (pe_callB cr_lenN hg hm boot_len' (pa_cons h1 pa_nil hs2) (he := hs2)).imp fun σ H Q ⟨hr, q⟩ => ⟨hr, fun vs H1 e1 r => ?_⟩
  obtain ⟨v, rfl, rv⟩ := rvA1 r
  obtain ⟨t, xs, rfl, hq, hA⟩ := rv_tup.mp rv
  exact ⟨t, rs, xs, rfl, hq, hA, nd, h5, fun p hp => ⟨p, rs.length, rfl, upd_same, h5, q _ _ (e1.trans (Ex.new hp)) (rv_int.mpr rfl)⟩⟩
end
section
variable {P : Program} {w : World} {K : PySem.W.Frag} {mg : Str → Option Value} {base : Heap} {f : Addr} {fd : FuncData}
abbrev FBook (ds : List Dv) (d : Dv) : Prop := ∃ (n : Nat) (rs : List Rl), 1 ≤ n ∧ n ≤ 4 ∧ Vb n rs ∧ rs.length ≤ 5 ∧ ds = [.d (bkD n rs)] ∧ d = .d (.bool true)
abbrev nBook : List Str := ["thing", "rule"]
theorem pf_is_rulebook (D : Df K mg "is_rulebook" (topS 21) f fd) (G : Gm mg) (F1 : Pf P w K mg base "is_atoms" 2 FIsAtoms) (F2 : Pf P w K mg base "are_rule_parts" 4 FParts) : Pf P w K mg base "is_rulebook" 5 FBook := by
  refine pf_mk (N := nBook) (ps := ["thing"]) D.fn ⟨rfl, rfl, rfl, by decide +kernel, rfl, by decide +kernel, by decide +kernel⟩ D.mg (D.fn.binds fun _ _ _ _ _ _ us hl => match us, hl with | [_], _ => rfl) (by rintro _ _ ⟨n, r, _, _, _, _, rfl, rfl⟩; rfl) ?_
  rintro _ _ ⟨n, rs, h1, h4, hv, h5, rfl, rfl⟩ cdv A outer s H E hr
  have nd : nBook.Nodup := by decide +kernel
  obtain ⟨t, hR⟩ := G.mR
  have q1 : (rsD rs).all (fun _ => true) = true := by simp
  have b1 : ∀ {X : Cx} {ρ : En} {a : Expr} {p2 p3 : Pos}, DE X a ρ (.d (bkD n rs)) → DE X (.Subscript a (.Constant (.int 1) 0 p2) p3) ρ (.d (.tuple (rsD rs))) := fun h => de_ixT (x := .tuple (rsD rs)) h de_int rfl
  have b0 : ∀ {X : Cx} {ρ : En} {a : Expr} {p2 p3 : Pos}, DE X a ρ (.d (bkD n rs)) → DE X (.Subscript a (.Constant (.int 0) 0 p2) p3) ρ (.d (.int (n : Int))) := fun h => de_ixT (x := .int (n : Int)) h de_int rfl
  refine dss_if (k := false) ?c (fun z => by cases z) fun _ => dss_if (k := false) ?c2 (fun z => by cases z) fun _ => dss_ret ?r
  case c =>
    exact dt_w (dw_or (k := false) (l := false) (dt_not (k := true) (dt_val (de_isi (x := bkD n rs) (k := true) rfl G.isi (de_var 0) rfl G.tup boot_tuple' kt_tup_tup))) fun _ => dw_or (k := false) (l := false) (dt_is (dt_ne (x := .int 2) (y := .int 2) (hu64 hr) (de_lenT (ds := [.int (n : Int), .tuple (rsD rs)]) rfl G.len (de_var 0)) de_int rfl rfl) rfl) fun _ =>
      dw_or1 (dt_not (k := true) (dt_val (de_call (F1.mono (by decide)) hr rfl (da_cons (b0 (de_var 0)) da_nil) ⟨n, by omega, by omega, rfl, rfl⟩))))
  case c2 =>
    exact dt_w (dw_or (k := false) (l := false) (dt_not (k := true) (dt_val (de_isi (x := .tuple (rsD rs)) (k := true) rfl G.isi (b1 (de_var 0)) rfl G.tup boot_tuple' kt_tup_tup))) fun _ => dw_or1 (dt_is (dt_gt (i := ((rsD rs).length : Int)) (j := 100) (de_lenT (ds := rsD rs) rfl G.len (b1 (de_var 0))) (de_globI rfl hR)) (by rw [len_rs]; exact decide_eq_false (by omega))))
  case r =>
    refine de_and (k := true) (l := true) (de_is (de_allM (ds := rsD rs) (q := fun _ => true) rfl rfl G.all (de_lc (ds := rsD rs) (j := 1) (f := fun _ => true) (g := fun _ => .bool true) rfl nd rfl (.inl (b1 (de_var 0))) (blkOk_by (N := nBook) (sc := defScope (topS 21)) (by decide +kernel)) (fun s H C cl fp => ⟨.inl rfl, .inr rfl⟩) blkT_nil (fun d hd _ s H C cl fp => ?_) (fun _ _ _ => rfl) (by rw [len_rs]; omega))) (by rw [q1])) fun _ =>
      de_one (de_is (de_eq (x := .int (rs.length : Int)) (y := .int (rs.length : Int)) (hu64 hr) (de_lenSet rfl (hu64 hr) rfl G.len rfl G.set (b1 (de_var 0)) hv.1 h5) (de_is (de_lenT (ds := rsD rs) rfl G.len (b1 (de_var 0))) (by rw [len_rs])) rfl rfl) (by rw [eqv_int, decide_eq_true rfl]))
    obtain ⟨r, hr', rfl⟩ := List.mem_map.mp hd
    exact de_call F2 hr rfl (da_cons (b0 (de_var 0)) (da_cons (de_var 1) da_nil)) ⟨n, r, by omega, hv.2 r hr', rfl, rfl⟩
end
end DSW
set_option Elab.async false
set_option linter.all false
set_option maxRecDepth 100000
set_option maxHeartbeats 2000000
/-! Instances whose attributes are data: reading, storing, methods. -/
namespace DSW
open PySem PySem.Spec PyProof.Rows L2 Evl
/-- all but the object at a stays -/
def Xb (a : Addr) (H H' : Hp) : Prop := ∀ b o, H b = some o → b ≠ a → H' b = some o
theorem Xb.refl (a : Addr) (H : Hp) : Xb a H H := fun _ _ h _ => h
theorem Xb.of {a : Addr} {H H' : Hp} (e : Ex H H') : Xb a H H' := fun b o h _ => e b o h
theorem Xb.trans {a : Addr} {H H1 H2 : Hp} (x : Xb a H H1) (y : Xb a H1 H2) : Xb a H H2 := fun b o h n => y b o (x b o h n) n
theorem Xb.upd {a : Addr} {H : Hp} {o : HO} : Xb a H (upd H a o) := fun b u h n => by rw [upd_ne n]; exact h
theorem Xb.kp {a C dx : Addr} {fs : List (Str × V)} {H H' : Hp} (x : Xb a H H') (h : H a = some (.ins C dx fs)) : Kp H H' := fun b o e s => x b o e fun z => by
  rw [z, h] at e
  cases e
  cases s
/-! ### attributes as data -/
def putD (f : Str) (d : PyData) : List (Str × PyData) → List (Str × PyData)
  | [] => [(f, d)]
  | (g, x) :: r => if g = f then (g, d) :: r else (g, x) :: putD f d r
section
variable {K : PySem.W.Frag} {H : Hp} {f : Str} {d : PyData}
theorem zip_lookup : ∀ {fs : List (Str × PyData)} {vs : List V}, DqA K H (fs.map (·.2)) vs → fs.lookup f = some d → ∃ v, ((fs.map (·.1)).zip vs).lookup f = some v ∧ Dq K H d v
  | [], _, _, e => by cases e
  | (g, x) :: r, _, h, e => by
    obtain ⟨v, w, rfl, h1, h2⟩ := dqA_cons.mp h
    show ∃ u, List.lookup f ((g, v) :: (r.map (·.1)).zip w) = some u ∧ _
    unfold List.lookup at e ⊢
    cases q : (f == g) with
    | true =>
      rw [q] at e
      have e' : x = d := Option.some.inj e
      rw [← e']
      exact ⟨v, rfl, h1⟩
    | false =>
      rw [q] at e
      exact zip_lookup h2 e
theorem zip_none : ∀ {fs : List (Str × PyData)} {vs : List V}, DqA K H (fs.map (·.2)) vs → fs.lookup f = none → ((fs.map (·.1)).zip vs).lookup f = none
  | [], _, _, _ => rfl
  | (g, x) :: r, _, h, e => by
    obtain ⟨v, w, rfl, h1, h2⟩ := dqA_cons.mp h
    show List.lookup f ((g, v) :: (r.map (·.1)).zip w) = none
    unfold List.lookup at e ⊢
    cases q : (f == g) with
    | true => rw [q] at e; cases e
    | false => rw [q] at e; exact zip_none h2 e
theorem zip_put {v : V} (hv : Dq K H d v) : ∀ {fs : List (Str × PyData)} {vs : List V}, DqA K H (fs.map (·.2)) vs → ∃ vs', putF f v ((fs.map (·.1)).zip vs) = ((putD f d fs).map (·.1)).zip vs' ∧ DqA K H ((putD f d fs).map (·.2)) vs'
  | [], _, h => by
    rw [dqA_nil.mp h]
    exact ⟨[v], rfl, dqA_cons.mpr ⟨v, [], rfl, hv, dqA_nil.mpr rfl⟩⟩
  | (g, x) :: r, _, h => by
    obtain ⟨u, w, rfl, h1, h2⟩ := dqA_cons.mp h
    by_cases q : g = f
    · refine ⟨v :: w, ?_, ?_⟩
      · show putF f v ((g, u) :: (r.map (·.1)).zip w) = ((putD f d ((g, x) :: r)).map (·.1)).zip (v :: w)
        unfold putF putD
        rw [if_pos q, if_pos q]
        rfl
      · unfold putD
        rw [if_pos q]
        exact dqA_cons.mpr ⟨v, w, rfl, hv, h2⟩
    · obtain ⟨w', e1, e2⟩ := zip_put hv h2
      refine ⟨u :: w', ?_, ?_⟩
      · show putF f v ((g, u) :: (r.map (·.1)).zip w) = ((putD f d ((g, x) :: r)).map (·.1)).zip (u :: w')
        unfold putF putD
        rw [if_neg q, if_neg q, e1]
        rfl
      · unfold putD
        rw [if_neg q]
        exact dqA_cons.mpr ⟨u, w', rfl, h1, e2⟩
theorem InsAt.ins {a C : Addr} {fs : List (Str × PyData)} (h : InsAt K H a C fs) : ∃ dx gs, H a = some (.ins C dx gs) := by
  obtain ⟨dx, vs, h1, _⟩ := h
  exact ⟨dx, _, h1⟩
theorem InsAt.keep {H' : Hp} {a C : Addr} {fs : List (Str × PyData)} (k : Kpi H H') (h : InsAt K H a C fs) : InsAt K H' a C fs := by
  obtain ⟨dx, vs, h1, h2⟩ := h
  exact ⟨dx, vs, k _ _ h1 rfl, h2.keep k.kp⟩
end
/-- a slot that leans on no instance -/
def plD : Option Dv → Bool
  | some (.o _ _ _) => false
  | _ => true
def plE : En → Nat → Bool
  | [], _ => true
  | o :: r, 0 => r.all plD
  | o :: r, j + 1 => plD o && plE r j
theorem plE_at : ∀ {ρ : En} {j i : Nat} {d : Dv}, plE ρ j = true → i ≠ j → ρ[i]? = some (some d) → plD (some d) = true
  | [], _, _, _, _, _, e => by cases e
  | o :: r, 0, 0, _, _, n, _ => absurd rfl n
  | o :: r, 0, i + 1, d, h, _, e => List.all_eq_true.mp h _ (List.mem_of_getElem? (show r[i]? = some (some d) from e))
  | o :: r, j + 1, 0, d, h, _, e => by
    have e' : o = some d := Option.some.inj e
    unfold plE at h
    rw [Bool.and_eq_true, e'] at h
    exact h.1
  | o :: r, j + 1, i + 1, d, h, n, e => by
    unfold plE at h
    rw [Bool.and_eq_true] at h
    exact plE_at h.2 (fun z => n (by rw [z])) (show r[i]? = some (some d) from e)
theorem Rv.kpl {K : PySem.W.Frag} {H H' : Hp} (k : Kp H H') {v : V} {d : Dv} (p : plD (some d) = true) (h : Rv K H v d) : Rv K H' v d := by
  cases d with
  | d x => exact Dq.keep k x v h
  | v x => exact h
  | o a C fs => cases p
/-- the instance in the j-th slot has changed -/
theorem rs_xb {K : PySem.W.Frag} {H H' : Hp} {σ : L2.St} {ρ : En} {j : Nat} {a C : Addr} {fs fs' : List (Str × PyData)} (h : Rs K H σ ρ) (hj : ρ[j]? = some (some (.o a C fs))) (p : plE ρ j = true) (x : Xb a H H') (n : InsAt K H' a C fs') : Rs K H' σ (ρ.set j (some (.o a C fs'))) := by
  obtain ⟨v, e1, r⟩ := h.2 j _ hj
  obtain ⟨ev, hi⟩ := r
  obtain ⟨dx, gs, hg⟩ := hi.ins
  refine ⟨by rw [List.length_set]; exact h.1, fun i d e => ?_⟩
  by_cases q : j = i
  · subst q
    by_cases hl : j < ρ.length
    · rw [List.getElem?_set_self hl] at e
      cases e
      exact ⟨v, e1, ev, n⟩
    · rw [List.getElem?_eq_none (by simpa using hl)] at e
      cases e
  · rw [List.getElem?_set_ne q] at e
    obtain ⟨u, e2, r2⟩ := h.2 i d e
    exact ⟨u, e2, r2.kpl (x.kp hg) (plE_at p (fun z => q z.symm) e)⟩
section
variable {X : Cx} {ρ : En} {e : Expr} {a C : Addr} {fs fs' : List (Str × PyData)} {f : Str} {d : PyData} {pos pos' apos : Pos}
/-- e.f -/
theorem de_fld (h : DE X e ρ (.o a C fs)) (c : Cls X.K C) (n : NoAttr X.K C f) (l : fs.lookup f = some d) (hb : attributeBase e f X.env (eval e X.env) = eval e X.env := by rfl) : DE X (.Attribute e f pos) ρ (.d d) :=
  (pe_fld h hb).imp fun σ H Q ⟨hs, q⟩ => ⟨hs, fun v H1 e1 ⟨ev, dx, vs, h1, h2⟩ => by
    obtain ⟨u, hu, hd⟩ := zip_lookup h2 l
    exact ⟨a, C, dx, _, u, ev, h1, c, n, hu, q u H1 e1 hd⟩⟩
end
/-! ### statements that change the instance in a slot -/
inductive Ow where
  | nx (ρ : En)
  | rt (d : Dv) (fs : List (Str × PyData))
def Ow.at (K : PySem.W.Frag) (a C : Addr) (D : Ends) (H : Hp) : Ow → Prop
  | .nx ρ => ∀ σ' H', Xb a H H' → Rs K H' σ' ρ → D.nx σ' H'
  | .rt d fs => ∀ v H', Xb a H H' → Rv K H' v d → InsAt K H' a C fs → D.rt v H'
theorem Ow.at_x {K : PySem.W.Frag} {a C : Addr} {D : Ends} {H H' : Hp} (e : Xb a H H') : ∀ {o : Ow}, o.at K a C D H → o.at K a C D H'
  | .nx ρ, h => fun σ' H2 e2 r => h σ' H2 (e.trans e2) r
  | .rt d fs, h => fun v H2 e2 r n => h v H2 (e.trans e2) r n
def tW (K : PySem.W.Frag) (a C : Addr) (ρ : En) (o : Ow) : TS := fun D σ H => Rs K H σ ρ ∧ o.at K a C D H
abbrev DW1 (X : Cx) (st : Stmt) (a C : Addr) (ρ : En) (o : Ow) : Prop := PS X st (tW X.K a C ρ o)
abbrev DWs (X : Cx) (st : List Stmt) (a C : Addr) (ρ : En) (o : Ow) : Prop := PSs X st (tW X.K a C ρ o)
section
variable {X : Cx} {ρ ρ' : En} {e c : Expr} {a C : Addr} {fs fs' : List (Str × PyData)} {f : Str} {d : PyData} {dv : Dv} {st : Stmt} {rest : List Stmt} {o : Ow} {pos pos' apos : Pos} {j : Nat}
theorem dw_of (h : DS X st ρ (.nx ρ')) : DW1 X st a C ρ (.nx ρ') := h.imp fun D σ H ⟨hs, q⟩ => ⟨hs, fun σ' H' e1 r => q σ' H' (.of e1) r⟩
theorem dws_nil : DWs X [] a C ρ (.nx ρ) := pss_nil.imp fun D σ H ⟨hs, q⟩ => q σ H (.refl a H) hs
theorem dws_cons (h1 : DW1 X st a C ρ (.nx ρ')) (h2 : DWs X rest a C ρ' o) : DWs X (st :: rest) a C ρ o :=
  (pss_cons h1 h2).imp fun D σ H ⟨hs, q⟩ => ⟨hs, fun σ' H' e1 r => ⟨r, Ow.at_x e1 q⟩⟩
theorem dws_ret (j : Nat) (h : DE X e ρ dv) (hj : ρ[j]? = some (some (.o a C fs)) := by rfl) : DWs X (.Return (some e) pos :: rest) a C ρ (.rt dv fs) :=
  (pss_cons (ps_ret h) (u := fun _ _ _ => False) ⟨fun _ _ _ _ _ _ z => z.elim⟩).imp fun D σ H ⟨hs, q⟩ => ⟨hs, fun v H1 e1 r => by
    obtain ⟨u, _, r2⟩ := (hs.ex e1).2 j _ hj
    exact q v H1 (.of e1) r r2.2⟩
/-- x.f = e, x the instance in the j-th slot -/
theorem dw_fld {eo : Expr} (j : Nat) (ho : DE X eo ρ (.o a C fs)) (h : DE X e ρ (.d d)) (c : Cls X.K C) (n : NoAttr X.K C f) (hz : decide (fs.length < 1000) = true := by rfl) (p : plE ρ j = true := by rfl) (hj : ρ[j]? = some (some (.o a C fs)) := by rfl) (hs : swapsWith e (some (.Attribute eo f pos')) pos.line X.env = pure false := by rfl) :
    DW1 X (.Assign [.Attribute eo f pos'] e pos) a C ρ (.nx (ρ.set j (some (.o a C (putD f d fs))))) :=
  (ps_fld ho h hs).imp fun D σ H ⟨hr, q⟩ => ⟨hr, fun v H1 e1 rv => ⟨hr.ex e1, fun x H2 e2 ⟨ex, dx, vs, h1, h2⟩ => by
    have l1 := h2.len
    rw [List.length_map] at l1
    refine ⟨a, C, dx, _, ex, h1, c, n, ?_, ?_⟩
    · rw [List.length_zip, List.length_map, l1, Nat.min_self]; exact of_decide_eq_true hz
    · have hv : Dq X.K H2 d v := Rv.ex e2 (d := .d d) rv
      obtain ⟨vs', p1, p2⟩ := zip_put (f := f) hv h2
      have x1 : Xb a H2 (upd H2 a (.ins C dx (putF f v ((fs.map (·.1)).zip vs)))) := Xb.upd
      refine q σ _ ((Xb.of (e1.trans e2)).trans x1) (rs_xb (hr.ex (e1.trans e2)) hj p x1 ⟨dx, vs', ?_, p2.keep (x1.kp h1)⟩)
      rw [upd_same, p1]⟩⟩
end
/-! ### methods -/
inductive Om where
  | rt (d : Dv) (fs : List (Str × PyData))
  | er (c : Value)
/-- a method's promise: self's attributes, the arguments: what it returns and self's attributes then, or what it raises -/
def spO (K : PySem.W.Frag) (C : Addr) (F : List (Str × PyData) → List Dv → Om → Prop) : Sp := fun vs H Q E => ∃ a fs ds o, RvA K H vs (.o a C fs :: ds) ∧ F fs ds o ∧ match o with
  | .rt d fs' => ∀ v H', Xb a H H' → Rv K H' v d → InsAt K H' a C fs' → Q v H'
  | .er c => ∀ H', Ex H H' → E c none H'
def MfO (P : Program) (w : World) (K : PySem.W.Frag) (mg : Str → Option Value) (base : Heap) (C : Addr) (m : Str) (k : Nat) (F : List (Str × PyData) → List Dv → Om → Prop) : Prop :=
  ∃ (f : Addr) (fd : FuncData) (ps : List Str), Meth K C m f ∧ FnOk P w K mg base (L2.CX P w) k f fd ps (spO K C F) ∧ L2.Binds K fd ps []
theorem passX {X : Cx} {P : Program} {w : World} : Passes (L2.CX P w) X E0 := fun _ _ _ _ _ _ _ h => by
  obtain ⟨_, _, _, _, _, _, _, _, _, _, _, _, z⟩ := h
  exact z.elim
section
variable {X : Cx} {ρ ρ' : En} {e eo : Expr} {es : List Expr} {a C : Addr} {fs fs' : List (Str × PyData)} {m : Str} {d : Dv} {ds : List Dv} {o : Ow} {pos pos' apos : Pos} {j k : Nat} {F : List (Str × PyData) → List Dv → Om → Prop} {pl : Sem Bool}
/-- x.m(e, ..), a statement -/
theorem dw_meth (j : Nat) (h : MfO X.prog X.w X.K X.mg X.base C m k F) (hr : Room k X.A) (c : Cls X.K C) (ho : DE X eo ρ (.o a C fs)) (ha : DA X (e :: es) ρ ds) (hF : F fs ds (.rt d fs')) (hm : fs.lookup m = none) (p : plE ρ j = true := by rfl) (hj : ρ[j]? = some (some (.o a C fs)) := by rfl)
    (hst : starEach (e :: es) X.env = (false, eval e X.env) :: starEach es X.env := by rfl) (hpl : (backTo pos (starEach es X.env)).any (·.1) = false := by rfl)
    (ht : eval (.Call (.Attribute eo m apos) (e :: es) [] pos) X.env = (do
      let ov ← eval eo X.env
      standAt apos.atName
      let (f, first) ← holding [ov] (getMethod ov m pl)
      callWith pos f first (backTo pos (starEach (e :: es) X.env)) (backToKw pos (keywordEach [] X.env))) := by rfl)
    (hs : swapsWith (.Call (.Attribute eo m apos) (e :: es) [] pos) none pos'.line X.env = pure false := by rfl) :
    DW1 X (.Expr (.Call (.Attribute eo m apos) (e :: es) [] pos) pos') a C ρ (.nx (ρ.set j (some (.o a C fs')))) := by
  obtain ⟨f, fd, ps, h1, h2, h3⟩ := h
  refine (ps_expr (pe_meth (pl := pl) ho c h1 h2 hr h3 .nil (passX (X := X)) ha hst hpl ht) hs).imp fun D σ H ⟨hs, q⟩ => ⟨hs, fun x H1 e1 rx => ?_⟩
  obtain ⟨ex, dx, vs, i1, i2⟩ := id rx
  refine ⟨a, dx, _, ex, i1, zip_none i2 hm, hs.ex e1, fun us H2 e2 r2 => ?_⟩
  show spO X.K C F (x :: (us ++ [])) H2 _ _
  rw [List.append_nil, ex]
  rw [ex] at rx
  exact ⟨a, fs, ds, .rt d fs', .cons (rx.ex e2) r2, hF, fun v H' xb rv n => q σ H' ((Xb.of (e1.trans e2)).trans xb) (rs_xb (hs.ex (e1.trans e2)) hj p xb n)⟩
end
end DSW
set_option Elab.async false
set_option linter.all false
set_option maxRecDepth 100000
set_option maxHeartbeats 2000000
/-! Desk: the methods that are plain. -/
namespace DSW
open PySem PySem.Spec PyProof.Rows L2 Evl
section
variable {P : Program} {w : World} {K : PySem.W.Frag} {mg : Str → Option Value} {base : Heap}
/-- a def that ends without return -/
theorem pf_mkN {x qual : Str} {st : Stmt} {f : Addr} {fd : FuncData} {N ps : List Str} {k : Nat} {F : List Dv → Prop} (Fn : Fun K x qual st f fd) (S : FnScope N ps (defScope st)) (hm : mg x = some (.ref f)) (hb : L2.Binds K fd ps [])
    (len : ∀ ds, F ds → ds.length = ps.length)
    (body : ∀ (ds : List Dv), F ds → ∀ (cdv : Value) (A : Around) (outer : List Env) (s : Shared) (H : Hp) (E : XK), Room k (A.deeper (envOfC qual (defScope st) s.heap.objs.size f cdv)) →
      ∃ ρ', DSs (bodyX P w K mg base N qual (defScope st) f cdv A outer s H E) (defBody st) (enE N ds) (.nx ρ')) : Pf P w K mg base x (k + 1) (fun ds d => F ds ∧ d = .d .none) := by
  refine ⟨f, fd, ps, hm, Fn.ok S (fun vs H Q E ⟨ds, d, r, hF, _⟩ => by rw [r.len]; exact len ds hF.1) (fun cdv A outer s H vs Q E hr ⟨ds, d, r, hF, q⟩ => ?_), Fn.kp, hb⟩
  obtain ⟨ρ', hb'⟩ := body ds hF.1 cdv A outer s H E hr
  refine ⟨_, hb', rs_start r, fun σ' H' e1 r1 => q .non H' e1 ?_⟩
  rw [hF.2]
  exact rv_none.mpr rfl
abbrev FNeed (ds : List Dv) : Prop := ∃ (n : Nat) (rs : List Rl), 1 ≤ n ∧ n ≤ 4 ∧ Vb n rs ∧ rs.length ≤ 5 ∧ ds = [.d (bkD n rs)]
theorem pf_need_book {f : Addr} {fd : FuncData} (D : Df K mg "need_book" (topS 22) f fd) (F1 : Pf P w K mg base "is_rulebook" 5 FBook) : Pf P w K mg base "need_book" 6 (fun ds d => FNeed ds ∧ d = .d .none) := by
  refine pf_mkN (N := ["book"]) (ps := ["book"]) D.fn ⟨rfl, rfl, rfl, by decide +kernel, rfl, by decide +kernel, by decide +kernel⟩ D.mg (D.fn.binds fun _ _ _ _ _ _ us hl => match us, hl with | [_], _ => rfl) (by rintro _ ⟨n, r, _, _, _, _, rfl⟩; rfl) ?_
  rintro _ ⟨n, rs, h1, h4, hv, h5, rfl⟩ cdv A outer s H E hr
  exact ⟨_, dss_one (ds_if (k := false) (dt_not (k := true) (dt_val (de_call F1 hr rfl (da_cons (de_var 0) da_nil) ⟨n, rs, h1, h4, hv, h5, rfl, rfl⟩))) (fun z => by cases z) fun _ => dss_nil)⟩
abbrev FRoom (ds : List Dv) : Prop := ∃ n : Int, n ≤ 100 ∧ ds = [.d (.int n)]
theorem pf_need_room {f : Addr} {fd : FuncData} (D : Df K mg "need_room" (topS 35) f fd) (G : Gm mg) : Pf P w K mg base "need_room" 1 (fun ds d => FRoom ds ∧ d = .d .none) := by
  refine pf_mkN (N := ["amount"]) (ps := ["amount"]) D.fn ⟨rfl, rfl, rfl, by decide +kernel, rfl, by decide +kernel, by decide +kernel⟩ D.mg (D.fn.binds fun _ _ _ _ _ _ us hl => match us, hl with | [_], _ => rfl) (by rintro _ ⟨n, _, rfl⟩; rfl) ?_
  rintro _ ⟨n, h, rfl⟩ cdv A outer s H E hr
  obtain ⟨t, hR⟩ := G.mR
  exact ⟨_, dss_one (ds_if (k := false) (dt_is (dt_gt (de_var 0) (de_globI (i := 100) rfl hR)) (decide_eq_false (by omega))) (fun z => by cases z) fun _ => dss_nil)⟩
/-! ### a method by its body -/
abbrev mX (P : Program) (w : World) (K : PySem.W.Frag) (mg : Str → Option Value) (base : Heap) (N : List Str) (qual : Str) (sc : Scope) (f : Addr) (cdv : Value) (A : Around) (outer : List Env) (s : Shared) (H : Hp) (E : XK) : Cx := cxOf (L2.CX P w) P w K mg base N qual sc f cdv A outer s H E
def MGoal (X : Cx) (body : List Stmt) (a C : Addr) (ρ : En) (E : XK) : Om → Prop
  | .rt d fs => DWs X body a C ρ (.rt d fs) ∨ (d = .d .none ∧ ∃ ρ', DWs X body a C ρ (.nx ρ') ∧ ρ'[0]? = some (some (.o a C fs)))
  | .er c => PSs X body (fun _ σ H => Rs X.K H σ ρ ∧ ∀ H', Ex H H' → E c none H')
theorem mf_ok {x qual : Str} {st : Stmt} {f C : Addr} {fd : FuncData} {N ps : List Str} {k : Nat} {F : List (Str × PyData) → List Dv → Om → Prop} (Fn : Fun K x qual st f fd) (S : FnScope N ps (defScope st))
    (len : ∀ fs ds o, F fs ds o → ds.length + 1 = ps.length)
    (body : ∀ (fs : List (Str × PyData)) (ds : List Dv) (o : Om), F fs ds o → ∀ (a : Addr) (cdv : Value) (A : Around) (outer : List Env) (s : Shared) (H : Hp) (E : XK), Room k (A.deeper (envOfC qual (defScope st) s.heap.objs.size f cdv)) →
      MGoal (mX P w K mg base N qual (defScope st) f cdv A outer s H E) (defBody st) a C (enE N (.o a C fs :: ds)) E o) : FnOk P w K mg base (L2.CX P w) (k + 1) f fd ps (spO K C F) := by
  refine Fn.okX S (fun vs H Q E ⟨a, fs, ds, o, r, hF, _⟩ => by rw [r.len]; exact len fs ds o hF) (fun cdv A outer s H vs Q E hr ⟨a, fs, ds, o, r, hF, q⟩ => ?_)
  have b := body fs ds o hF a cdv A outer s H E hr
  cases o with
  | rt d fs' =>
    rcases b with b | ⟨rfl, ρ', b, e⟩
    · exact ⟨_, b, rs_start r, fun v H' x rv n => q v H' x rv n⟩
    · refine ⟨_, b, rs_start r, fun σ' H' x r1 => ?_⟩
      obtain ⟨v, _, r2⟩ := r1.2 0 _ e
      exact q .non H' x (rv_none.mpr rfl) r2.2
  | er c => exact ⟨_, b, rs_start r, fun H' e => q H' e⟩
theorem mf_mk {x qual : Str} {st : Stmt} {f C : Addr} {fd : FuncData} {N ps : List Str} {k : Nat} {F : List (Str × PyData) → List Dv → Om → Prop} (Fn : Fun K x qual st f fd) (S : FnScope N ps (defScope st)) (hm : Meth K C x f) (hb : L2.Binds K fd ps [])
    (len : ∀ fs ds o, F fs ds o → ds.length + 1 = ps.length)
    (body : ∀ (fs : List (Str × PyData)) (ds : List Dv) (o : Om), F fs ds o → ∀ (a : Addr) (cdv : Value) (A : Around) (outer : List Env) (s : Shared) (H : Hp) (E : XK), Room k (A.deeper (envOfC qual (defScope st) s.heap.objs.size f cdv)) →
      MGoal (mX P w K mg base N qual (defScope st) f cdv A outer s H E) (defBody st) a C (enE N (.o a C fs :: ds)) E o) : MfO P w K mg base C x (k + 1) F := ⟨f, fd, ps, hm, mf_ok Fn S len body, hb⟩
theorem MfO.mono {C : Addr} {m : Str} {j k : Nat} {F : List (Str × PyData) → List Dv → Om → Prop} (h : MfO P w K mg base C m j F) (le : j ≤ k) : MfO P w K mg base C m k F := by
  obtain ⟨f, fd, ps, h1, h2, h3⟩ := h
  exact ⟨f, fd, ps, h1, h2.mono le, h3⟩
/-- if c: raise X('..') -/
theorem er_if {X : Cx} {ρ : En} {c : Expr} {E : XK} {Ce : Addr} {x m : Str} {j : Nat} {p p2 p3 p4 p5 : Pos} {rest : List Stmt} {bmB : List Value} {B newId initId : String} (hc : X.calm = true) (tk : Takes X (fun cls d _ H => E cls d H)) (ht : DT X c ρ true) (F : ExcBaseFacts B newId initId bmB)
    (q : PySem.W.excIn X.K Ce bmB newId = true) (gC : X.mg x = some (.ref Ce)) (kC : PySem.W.keepIn X.K (.ref Ce) = true) (r : Raises X (.ref Ce)) (hg : Gl X x) (hdb : (x == ("__debug__" : Str)) = false := by decide) :
    PSs X (.If c [.Raise (some (.Call (.Name x p) [.Constant (.str m) j p2] [] p3)) none p4] [] p5 :: rest) (fun _ σ H => Rs X.K H σ ρ ∧ ∀ H', Ex H H' → E (.ref Ce) none H') :=
  (pss_cons (ps_if ht (pss_one (ps_raise hc tk (pmk_own F q gC kC r hg hdb))) (u := fun _ _ _ => False) ⟨fun _ _ _ _ _ _ z => z.elim⟩) (u := fun _ _ _ => False) ⟨fun _ _ _ _ _ _ z => z.elim⟩).imp fun D σ H ⟨hs, e⟩ => ⟨hs, fun H1 e1 => iteT (e H1 e1)⟩
/-- if c: .., c false -/
theorem dws_skip {X : Cx} {ρ : En} {c : Expr} {a C : Addr} {o : Ow} {body rest : List Stmt} {pos : Pos} (hc : DT X c ρ false) (h : DWs X rest a C ρ o) : DWs X (.If c body [] pos :: rest) a C ρ o :=
  dws_cons (dw_of (ds_if hc (fun z => by cases z) fun _ => dss_nil)) h
/-! ### Desk -/
def psD (n : Nat) (past : List (List Rl)) : PyData := .tuple (past.map fun rs => bkD n rs)
def fsD (n : Nat) (now : List Rl) (past : List (List Rl)) : List (Str × PyData) := [("current", bkD n now), ("past", psD n past)]
/-- a class raised by this program -/
structure ErrC (K : PySem.W.Frag) (mg : Str → Option Value) (x : Str) (C : Addr) : Prop where
  xF : PySem.W.excIn K C [.type "ValueError", .type "Exception", .type "BaseException", .type "object"] "ValueError.__new__" = true
  gC : mg x = some (.ref C)
  kC : PySem.W.keepIn K (.ref C) = true
  bC : PySem.W.subIn K (.ref C) (.type "BaseException") = some true
  tC : PySem.W.typeIn K (.ref C) = some (.type "type")
/-- the class Desk -/
structure DkC (K : PySem.W.Frag) (C : Addr) : Prop where
  cl : Cls K C
  nC : NoAttr K C "current"
  nP : NoAttr K C "past"
abbrev sDk (j : Nat) : Stmt := inClass (topS 37) j
/-- a book of the desk's -/
def Ok (n : Nat) (rs : List Rl) : Prop := 1 ≤ n ∧ n ≤ 4 ∧ Vb n rs ∧ rs.length ≤ 40
abbrev FInit (fs : List (Str × PyData)) (ds : List Dv) (o : Om) : Prop := ∃ (n : Nat) (rs : List Rl), 1 ≤ n ∧ n ≤ 4 ∧ Vb n rs ∧ rs.length ≤ 5 ∧ fs = [] ∧ ds = [.d (bkD n rs)] ∧ o = .rt (.d .none) (fsD n rs [])
theorem ok_desk_init {f C : Addr} {fd : FuncData} (Fn : Fun K "__init__" "Desk.__init__" (sDk 0) f fd) (T : DkC K C) (F1 : Pf P w K mg base "need_book" 6 (fun ds d => FNeed ds ∧ d = .d .none)) : FnOk P w K mg base (L2.CX P w) 7 f fd ["self", "book"] (spO K C FInit) := by
  refine mf_ok (N := ["self", "book"]) Fn ⟨rfl, rfl, rfl, by decide +kernel, rfl, by decide +kernel, by decide +kernel⟩ (by rintro _ _ _ ⟨n, rs, _, _, _, _, _, rfl, rfl⟩; rfl) ?_
  rintro _ _ _ ⟨n, rs, h1, h4, hv, h5, rfl, rfl, rfl⟩ a cdv A outer s H E hr
  refine .inr ⟨rfl, _, dws_cons (dw_of (ds_expr (de_call F1 hr rfl (da_cons (de_var 1) da_nil) ⟨⟨n, rs, h1, h4, hv, h5, rfl⟩, rfl⟩))) (dws_cons (dw_fld 0 (de_var 0) (de_var 1) T.cl T.nC) (dws_cons (dw_fld 0 (de_var 0) (de_tup (ds := []) da_nil (by decide)) T.cl T.nP) dws_nil)), rfl⟩
abbrev FChange (fs : List (Str × PyData)) (ds : List Dv) (o : Om) : Prop := ∃ (n : Nat) (now rs : List Rl) (past : List (List Rl)), past.length ≤ 1000 ∧ fs = fsD n now past ∧ ds = [.d (bkD n rs)] ∧ o = .rt (.d .none) (fsD n rs (past ++ [now]))
theorem mf_change {f C : Addr} {fd : FuncData} (Fn : Fun K "change" "Desk.change" (sDk 6) f fd) (hm : Meth K C "change" f) (T : DkC K C) : MfO P w K mg base C "change" 1 FChange := by
  refine mf_mk (N := ["self", "book"]) (ps := ["self", "book"]) Fn ⟨rfl, rfl, rfl, by decide +kernel, rfl, by decide +kernel, by decide +kernel⟩ hm (Fn.binds fun _ _ _ _ _ _ us hl => match us, hl with | [_, _], _ => rfl) (by rintro _ _ _ ⟨n, now, rs, past, _, _, rfl, rfl⟩; rfl) ?_
  rintro _ _ _ ⟨n, now, rs, past, hp, rfl, rfl, rfl⟩ a cdv A outer s H E hr
  have e : (past.map fun rs => bkD n rs) ++ [bkD n now] = ((past ++ [now]).map fun rs => bkD n rs) := by rw [List.map_append]; rfl
  refine .inr ⟨rfl, _, dws_cons (dw_fld (d := psD n (past ++ [now])) 0 (de_var 0) (de_is (de_star (ds := past.map fun rs => bkD n rs) (d := bkD n now) (de_fld (d := psD n past) (de_var 0) T.cl T.nP rfl) (de_fld (d := bkD n now) (de_var 0) T.cl T.nC rfl) (by rw [List.length_map]; omega)) (by unfold psD; rw [e])) T.cl T.nP) (dws_cons (dw_fld 0 (de_var 0) (de_var 1) T.cl T.nC) dws_nil), rfl⟩
abbrev FMatch (fs : List (Str × PyData)) (ds : List Dv) (o : Om) : Prop := ∃ (n : Nat) (now rs : List Rl) (past : List (List Rl)), 1 ≤ n ∧ n ≤ 4 ∧ Vb n rs ∧ rs.length ≤ 5 ∧ fs = fsD n now past ∧ ds = [.d (bkD n rs)] ∧ o = .rt (.d .none) (fsD n now past)
theorem mf_need_match {f C : Addr} {fd : FuncData} (Fn : Fun K "need_match" "Desk.need_match" (sDk 5) f fd) (hm : Meth K C "need_match" f) (T : DkC K C) (F1 : Pf P w K mg base "need_book" 6 (fun ds d => FNeed ds ∧ d = .d .none)) : MfO P w K mg base C "need_match" 7 FMatch := by
  refine mf_mk (N := ["self", "book"]) (ps := ["self", "book"]) Fn ⟨rfl, rfl, rfl, by decide +kernel, rfl, by decide +kernel, by decide +kernel⟩ hm (Fn.binds fun _ _ _ _ _ _ us hl => match us, hl with | [_, _], _ => rfl) (by rintro _ _ _ ⟨n, now, rs, past, _, _, _, _, _, rfl, rfl⟩; rfl) ?_
  rintro _ _ _ ⟨n, now, rs, past, h1, h4, hv, h5, rfl, rfl, rfl⟩ a cdv A outer s H E hr
  refine .inr ⟨rfl, _, dws_cons (dw_of (ds_expr (de_call F1 hr rfl (da_cons (de_var 1) da_nil) ⟨⟨n, rs, h1, h4, hv, h5, rfl⟩, rfl⟩))) (dws_skip (dt_is (dt_ne (x := .int (n : Int)) (y := .int (n : Int)) (hu64 hr) (de_ixT (x := .int (n : Int)) (de_var 1) de_int rfl) (de_ixT (x := .int (n : Int)) (de_fld (d := bkD n now) (de_var 0) T.cl T.nC rfl) de_int rfl) rfl rfl) (by rw [eqv_int, decide_eq_true rfl]; rfl)) dws_nil), rfl⟩
abbrev FAssign (fs : List (Str × PyData)) (ds : List Dv) (o : Om) : Prop := ∃ (n : Nat) (now rs : List Rl) (past : List (List Rl)), 1 ≤ n ∧ n ≤ 4 ∧ Vb n rs ∧ rs.length ≤ 5 ∧ past.length ≤ 1000 ∧ fs = fsD n now past ∧ ds = [.d (bkD n rs)] ∧ o = .rt (.d .none) (fsD n rs (past ++ [now]))
theorem mf_assign {f C : Addr} {fd : FuncData} (Fn : Fun K "assign_book" "Desk.assign_book" (sDk 7) f fd) (hm : Meth K C "assign_book" f) (T : DkC K C) (F1 : MfO P w K mg base C "need_match" 7 FMatch) (F2 : MfO P w K mg base C "change" 1 FChange) : MfO P w K mg base C "assign_book" 8 FAssign := by
  refine mf_mk (N := ["self", "book"]) (ps := ["self", "book"]) Fn ⟨rfl, rfl, rfl, by decide +kernel, rfl, by decide +kernel, by decide +kernel⟩ hm (Fn.binds fun _ _ _ _ _ _ us hl => match us, hl with | [_, _], _ => rfl) (by rintro _ _ _ ⟨n, now, rs, past, _, _, _, _, _, _, rfl, rfl⟩; rfl) ?_
  rintro _ _ _ ⟨n, now, rs, past, h1, h4, hv, h5, hp, rfl, rfl, rfl⟩ a cdv A outer s H E hr
  refine .inr ⟨rfl, _, dws_cons (dw_meth (fs' := fsD n now past) 0 F1 hr T.cl (de_var 0) (da_cons (de_var 1) da_nil) ⟨n, now, rs, past, h1, h4, hv, h5, rfl, rfl, rfl⟩ rfl) (dws_cons (dw_meth (fs' := fsD n rs (past ++ [now])) 0 (F2.mono (by decide)) hr T.cl (de_var 0) (da_cons (de_var 1) da_nil) ⟨n, now, rs, past, hp, rfl, rfl, rfl⟩ rfl) dws_nil), rfl⟩
abbrev FAdd (CR : Addr) (fs : List (Str × PyData)) (ds : List Dv) (o : Om) : Prop := ∃ (n : Nat) (now : List Rl) (r : Rl) (past : List (List Rl)), n ≤ 4 ∧ Vr n r ∧ now.length ≤ 40 ∧ past.length ≤ 1000 ∧ fs = fsD n now past ∧ ds = [.d (rlD r)] ∧ o = if now.contains r then .er (.ref CR) else .rt (.d .none) (fsD n (now ++ [r]) (past ++ [now]))
theorem mf_add {f C CR : Addr} {fd : FuncData} (Fn : Fun K "add" "Desk.add" (sDk 8) f fd) (hm : Meth K C "add" f) (T : DkC K C) (ER : ErrC K mg "RuleError" CR) (G : Gm mg) (F1 : Pf P w K mg base "are_rule_parts" 4 FParts) (F2 : Pf P w K mg base "need_room" 1 (fun ds d => FRoom ds ∧ d = .d .none)) (F3 : MfO P w K mg base C "change" 1 FChange) : MfO P w K mg base C "add" 5 (FAdd CR) := by
  refine mf_mk (N := ["self", "rule"]) (ps := ["self", "rule"]) Fn ⟨rfl, rfl, rfl, by decide +kernel, rfl, by decide +kernel, by decide +kernel⟩ hm (Fn.binds fun _ _ _ _ _ _ us hl => match us, hl with | [_, _], _ => rfl) (by rintro _ _ _ ⟨n, now, r, past, _, _, _, _, _, rfl, _⟩; rfl) ?_
  rintro _ _ _ ⟨n, now, r, past, h4, hv, hn, hp, rfl, rfl, rfl⟩ a cdv A outer s H E hr
  have cur : ∀ {ρ : En} {p : Pos}, ρ[0]? = some (some (.o a C (fsD n now past))) → DE (mX P w K mg base ["self", "rule"] "Desk.add" (defScope (sDk 8)) f cdv A outer s H E) (.Attribute (.Name "self" p) "current" p) ρ (.d (bkD n now)) := fun h => de_fld (d := bkD n now) (de_var 0 h) T.cl T.nC rfl
  have test := dt_w (dw_or (k := false) (l := now.contains r) (pos := ⟨149, 11, 149, 79⟩) (dt_not (pos := ⟨149, 11, 149, 52⟩) (k := true) (dt_val (de_call (X := mX P w K mg base ["self", "rule"] "Desk.add" (defScope (sDk 8)) f cdv A outer s H E) (ρ := enE ["self", "rule"] [.o a C (fsD n now past), .d (rlD r)]) (p := ⟨149, 15, 149, 29⟩) (pos := ⟨149, 15, 149, 52⟩) F1 hr rfl (da_cons (de_ixT (x := .int (n : Int)) (pos := ⟨149, 30, 149, 45⟩) (de_fld (d := bkD n now) (pos := ⟨149, 30, 149, 42⟩) (de_var (pos := ⟨149, 30, 149, 34⟩) 0) T.cl T.nC rfl) (de_int (i := 0) (j := 0) (pos := ⟨149, 43, 149, 44⟩)) rfl) (da_cons (de_var (pos := ⟨149, 47, 149, 51⟩) 1) da_nil)) ⟨n, r, by omega, hv, rfl, rfl⟩)))
    fun _ => dw_or1 (dt_is (dt_in (ds := rsD now) (x := rlD r) (pos := ⟨149, 56, 149, 79⟩) (hu65 hr) (de_var (pos := ⟨149, 56, 149, 60⟩) 1) (.inl (de_ixT (x := .tuple (rsD now)) (pos := ⟨149, 64, 149, 79⟩) (de_fld (d := bkD n now) (pos := ⟨149, 64, 149, 76⟩) (de_var (pos := ⟨149, 64, 149, 68⟩) 0) T.cl T.nC rfl) (de_int (i := 1) (j := 0) (pos := ⟨149, 77, 149, 78⟩)) rfl)) (sh_rl r) (sh_rs now)) (any_rl now r)))
  by_cases hc : now.contains r = true
  · rw [if_pos hc]
    rw [hc] at test
    exact er_if rfl (takes_of rfl rfl rfl rfl) test PySem.F.excBase_ValueError ER.xF ER.gC ER.kC (raises_own ER.bC ER.tC) rfl
  · rw [if_neg hc]
    have hf : now.contains r = false := by cases q : now.contains r with | true => exact absurd q hc | false => rfl
    rw [hf] at test
    refine .inr ⟨rfl, _, dws_skip test (dws_cons (dw_of (ds_expr (de_call (F2.mono (by decide)) hr rfl (da_cons (de_add (de_lenT (ds := rsD now) rfl G.len (de_ixT (x := .tuple (rsD now)) (de_fld (d := bkD n now) (de_var 0) T.cl T.nC rfl) de_int rfl)) de_int) da_nil) ⟨⟨_, ?_, rfl⟩, rfl⟩)))
      (dws_cons (dw_meth (fs' := fsD n (now ++ [r]) (past ++ [now])) 0 (F3.mono (by decide)) hr T.cl (de_var 0) (da_cons (de_tup (ds := [.int (n : Int), .tuple (rsD (now ++ [r]))]) (da_cons (de_ixT (x := .int (n : Int)) (de_fld (d := bkD n now) (de_var 0) T.cl T.nC rfl) de_int rfl) (da_cons (de_is (de_star (ds := rsD now) (de_ixT (x := .tuple (rsD now)) (de_fld (d := bkD n now) (de_var 0) T.cl T.nC rfl) de_int rfl) (de_var 1) (by rw [len_rs]; omega)) (by rw [rsD_app])) da_nil)) (show 2 ≤ 100000 by decide)) da_nil) ⟨n, now, now ++ [r], past, hp, rfl, rfl, rfl⟩ rfl) dws_nil)), rfl⟩
    rw [len_rs]
    omega
end
end DSW
set_option Elab.async false
set_option linter.all false
set_option maxRecDepth 100000
set_option maxHeartbeats 2000000
/-! *a, b = t; undo, drop, the properties. -/
namespace DSW
open PySem PySem.Spec PyProof.Rows L2 Evl
section
open PySem.W
variable {prog : Program} {w : World} {A : Around} {E : Value → Shared → Prop} {s : Shared}
theorem unpack_star {l : Addr} {vs : List Value} {u : Value} {Q : List Value → Shared → Prop} (hl : IsTup s.heap l (vs ++ [u]).toArray) (hh : A.handled = none) (hz : vs.length + 1 ≤ sizeLine)
    (h : ∀ (h' : Heap) (tk : Nat), (∀ b o, s.heap.get? b = some o → h'.get? b = some o) → Q [.ref h'.objs.size, u] { s with heap := h'.push (listOf vs.toArray 0), toks := tk }) : wpAny (model prog w) A (unpackItems (.ref l) 2 (some 0)) Q E s := by
  have hlt : l ≠ s.heap.objs.size := by obtain ⟨o, ho, _⟩ := hl; exact Nat.ne_of_lt (Heap.lt_size ho)
  have hsz : (vs ++ [u]).toArray.size = vs.length + 1 := by simp
  unfold unpackItems
  refine wpAny_bind ?_
  unfold notIterableAtAll
  refine wpAny_bind (wpAny_specialOf hl.typeIs slot_tuple_iter.lookup ?_)
  refine wpAny_pure ?_
  simp only [Bool.false_eq_true, if_false]
  refine wpAny_bind (wpAny_holding (iter_tuple hl ?_))
  refine wpAny_bind (wpAny_holding (draw_tuple hlt 0 0 _ _ ⟨_, Heap.get?_push_size _ rfl, rfl, rfl⟩ (hl.push _) (by omega) fun h₁ hit₁ hs₁ => ?_))
  have hl₁ : IsTup h₁ l (vs ++ [u]).toArray := (hl.push _).extBut hs₁.extBut hlt
  have hit₁' := hit₁
  obtain ⟨oi, hoi, _⟩ := hit₁'
  have hl₁' := hl₁
  obtain ⟨ol, hol, _⟩ := hl₁'
  rw [List.drop_zero, List.take_zero]
  refine wpAny_bind (wpAny_holding (kun_collect (s := { s with heap := h₁ }) (T := "tuple_iterator") (.inr (.inr (.inr rfl))) (Walks.tuple (A := A.in1) hh s.heap.objs.size l hlt (vs ++ [u]).toArray) (fun j u st => st.1.typeIs) (k := 0) (by omega) ⟨hit₁, hl₁⟩ (Heap.lt_size hoi) (Heap.lt_size hol) (fun h₂ tk hk => ?_) (by rw [hsz]; exact hz)))
  rw [List.drop_zero, List.toList_toArray]
  have hlen : (vs ++ [u]).length - (2 - 1 - 0) = vs.length := by rw [List.length_append, List.length_singleton]; omega
  show wpAny _ _ (if (vs ++ [u]).length < 2 - 1 - 0 then _ else _) _ _ _
  rw [if_neg (by rw [List.length_append, List.length_singleton]; omega)]
  show wpAny _ _ (newList ((vs ++ [u]).take ((vs ++ [u]).length - (2 - 1 - 0))) >>= fun d => pure ([] ++ [d] ++ (vs ++ [u]).drop ((vs ++ [u]).length - (2 - 1 - 0)))) _ _ _
  rw [hlen, List.take_left, List.drop_left]
  have keep : ∀ b o, s.heap.get? b = some o → h₂.get? b = some o := fun b o e => by
    have hb : b ≠ s.heap.objs.size := Nat.ne_of_lt (Heap.lt_size e)
    exact hk b o hb (hs₁.extBut b o hb (Heap.get?_push_of_some _ e))
  refine wpAny_bind (wpAny_newList ?_ (by omega))
  exact wpAny_pure (h h₂ tk keep)
end
section
variable {X : Cx} {ρ ρ' : En} {e : Expr} {pos : Pos}
/-- *a, b = t -/
def gStar (K : PySem.W.Frag) (i j : Nat) : TG := fun v σ H Q => ∃ a xs y, v = .ref a ∧ SqT K H a (xs ++ [y]) ∧ ∀ D, H D = none → Q ((σ.set i (some (.ref D))).set j (some y)) (upd H D (.lst xs))
theorem pg_star {x y : Str} {i j k : Nat} {p1 p2 p3 pos : Pos} (hc : X.calm = true) (hN : X.N.Nodup) (hi : X.N[i]? = some x) (hj : X.N[j]? = some y) (hx : Loc X.env.scope x) (hy : Loc X.env.scope y) (fx : X.fn x = true ∨ X.env.scope.names.lookup x = some .local) (fy : X.fn y = true ∨ X.env.scope.names.lookup y = some .local) : PG X (.Tuple [.Starred (.Name x p1) p2, .Name y p3] k pos) (gStar X.K i j) := by
  refine ⟨fun pins s σ H v u Q I r hw => ?_⟩
  obtain ⟨a, xs, z, e1, hq, hw⟩ := hw
  subst e1
  cases r
  obtain ⟨its, rv, ht, hz⟩ := I.tuple hq
  have t1 := rv.take xs.length
  have t2 := rv.drop xs.length
  rw [List.take_left] at t1
  rw [List.drop_left] at t2
  have el := rv.length
  rw [List.length_append, List.length_singleton] at el hz
  obtain ⟨us, hus⟩ : ∃ us, its.take xs.length = us := ⟨_, rfl⟩
  obtain ⟨ws, hws⟩ : ∃ ws, its.drop xs.length = ws := ⟨_, rfl⟩
  have ei : its = us ++ ws := by rw [← hus, ← hws, List.take_append_drop]
  rw [hus] at t1
  rw [hws] at t2
  cases t2 with
  | cons rz t3 =>
    cases t3
    rw [ei] at ht
    rw [assign_Tuple]
    refine wpAny_bind (wpAny_standAt ?_)
    unfold unpack
    show wpAny _ _ (holding _ (unpackItems (.ref a) 2 (some 0)) >>= _) _ _ _
    refine wpAny_bind (wpAny_holding (unpack_star (s := { s with toks := s.toks }) ht (I.ok.hd hc) (by rw [← t1.length]; exact hz) fun h' tk kp => ?_))
    have I1 := I.kept (t' := tk) kp
    have hf : H h'.objs.size = none := I1.hok.fresh (Nat.le_refl _)
    have I2 := I1.laid (t' := tk) (a := h'.objs.size) (o := .lst xs) (h' := h'.push (PySem.W.listOf us.toArray 0)) (fun b u e => Heap.get?_push_of_some _ e) (Nat.le_refl _) ⟨by omega, us, 0, t1, Heap.get?_push_size _ rfl⟩
    show wpAny _ _ (assignInOrder [assign (.Name x p1) X.env, assign (.Name y p3) X.env] _) _ _ _
    refine assignInOrder_cons (wpAny_assign_Name (store_ok I2 hN hi hx (show RelV (.ref h'.objs.size) (.ref h'.objs.size) from rfl) (fun s3 I3 => ?_) fx))
    refine assignInOrder_cons (wpAny_assign_Name (store_ok I3 hN hj hy rz (fun s4 I4 => ?_) fy))
    exact assignInOrder_nil ⟨_, _, I4, hw _ hf⟩
end
end DSW
set_option Elab.async false
set_option linter.all false
set_option maxRecDepth 100000
set_option maxHeartbeats 2000000
/-! drop, undo, the properties of a desk. -/
namespace DSW
open PySem PySem.Spec PyProof.Rows L2 Evl
theorem dqA_app {K : PySem.W.Frag} {H : Hp} {d : PyData} : ∀ {ds : List PyData} {vs : List V}, DqA K H (ds ++ [d]) vs → ∃ xs y, vs = xs ++ [y] ∧ DqA K H ds xs ∧ Dq K H d y
  | [], vs, h => by
    obtain ⟨v, r, rfl, h1, h2⟩ := dqA_cons.mp h
    rw [dqA_nil.mp h2]
    exact ⟨[], v, rfl, dqA_nil.mpr rfl, h1⟩
  | e :: ds, vs, h => by
    obtain ⟨v, r, rfl, h1, h2⟩ := dqA_cons.mp h
    obtain ⟨xs, y, rfl, h3, h4⟩ := dqA_app h2
    exact ⟨v :: xs, y, rfl, dqA_cons.mpr ⟨v, xs, rfl, h1, h3⟩, h4⟩
section
variable {X : Cx} {ρ : En} {e : Expr} {pos : Pos}
/-- *x, y = e -/
theorem ds_star {x y : Str} {ds : List PyData} {d : PyData} {k : Nat} {p1 p2 p3 p4 : Pos} (i j : Nat) (hc : X.calm = true) (he : DE X e ρ (.d (.tuple (ds ++ [d])))) (hN : X.N.Nodup) (hi : X.N[i]? = some x := by rfl) (hj : X.N[j]? = some y := by rfl)
    (hx : Loc X.env.scope x := by first | exact Or.inl rfl | exact Or.inr rfl) (hy : Loc X.env.scope y := by first | exact Or.inl rfl | exact Or.inr rfl)
    (fx : X.fn x = true ∨ X.env.scope.names.lookup x = some .local := by first | exact .inl rfl | exact .inr rfl) (fy : X.fn y = true ∨ X.env.scope.names.lookup y = some .local := by first | exact .inl rfl | exact .inr rfl)
    (hs : swapsWithSole [.Tuple [.Starred (.Name x p1) p2, .Name y p3] k p4] e pos.line X.env = pure false := by rfl) (hw : swappedStores [.Tuple [.Starred (.Name x p1) p2, .Name y p3] k p4] e X.env = pure none := by rfl)
    (h1 : (assignEach [.Tuple [.Starred (.Name x p1) p2, .Name y p3] k p4] X.env).map (·.2) = [assign (.Tuple [.Starred (.Name x p1) p2, .Name y p3] k p4) X.env] := by rfl) :
    DS X (.Assign [.Tuple [.Starred (.Name x p1) p2, .Name y p3] k p4] e pos) ρ (.nx ((ρ.set i (some (.d (.list ds)))).set j (some (.d d)))) :=
  (ps_asg he (pg_star hc hN hi hj hx hy fx fy) hs hw h1).imp fun D σ H ⟨hr, q⟩ => ⟨hr, fun v H1 e1 r => by
    obtain ⟨a, vs, rfl, hq, hA⟩ := rv_tup.mp r
    obtain ⟨xs, z, rfl, h1, h2⟩ := dqA_app hA
    refine ⟨a, xs, z, rfl, hq, fun D hD => ?_⟩
    have e2 : Ex H1 (upd H1 D (.lst xs)) := Ex.new hD
    exact q _ _ (e1.trans e2) (((hr.ex (e1.trans e2)).set (show Rv X.K _ (.ref D) (.d (.list ds)) from rv_lst.mpr ⟨D, xs, rfl, upd_same, h1.keep (.of e2)⟩)).set (show Rv X.K _ z (.d d) from Dq.keep (.of e2) _ _ h2))⟩
end
/-! ### the past -/
theorem lay_bk (n : Nat) (rs : List Rl) : (bkD n rs).canLay0 = true := by
  show (PyData.canLay0 (.int (n : Int)) && (PyData.canLay0 (.tuple (rsD rs)) && true)) = true
  have h : PyData.canLay0 (.tuple (rsD rs)) = true := by unfold PyData.canLay0; exact lay_rs rs
  rw [h]
  rfl
theorem dep_bk (n : Nat) (rs : List Rl) : (bkD n rs).depth ≤ 4 := by
  show max (PyData.depth (.int (n : Int))) (max (PyData.depth (.tuple (rsD rs))) 0) + 1 ≤ 4
  have h : PyData.depth (.tuple (rsD rs)) ≤ 3 := by
    have := dep_rs rs
    unfold PyData.depth
    omega
  have h2 : PyData.depth (.int (n : Int)) = 0 := rfl
  omega
theorem lay_ps (n : Nat) : ∀ past : List (List Rl), PyData.canLayAll0 (past.map fun rs => bkD n rs) = true
  | [] => rfl
  | x :: l => by
    show (PyData.canLay0 (bkD n x) && PyData.canLayAll0 (l.map fun rs => bkD n rs)) = true
    rw [lay_bk, lay_ps n l]
    rfl
theorem dep_ps (n : Nat) : ∀ past : List (List Rl), PyData.depthAll (past.map fun rs => bkD n rs) ≤ 4
  | [] => Nat.zero_le _
  | x :: l => by
    show max (PyData.depth (bkD n x)) (PyData.depthAll (l.map fun rs => bkD n rs)) ≤ 4
    have := dep_ps n l
    have := dep_bk n x
    omega
theorem sh_ps (n : Nat) (past : List (List Rl)) : SeqAt.shaped (psD n past) = true := by
  refine sh_of ?_ ?_
  · unfold psD PyData.canLay0
    exact lay_ps n past
  · unfold psD PyData.depth
    have := dep_ps n past
    omega
theorem eqv_ps (n : Nat) (past : List (List Rl)) : PyData.eqv (psD n past) (.tuple []) = past.isEmpty := by cases past <;> rfl
section
variable {P : Program} {w : World} {K : PySem.W.Frag} {mg : Str → Option Value} {base : Heap}
abbrev FDrop (CR : Addr) (fs : List (Str × PyData)) (ds : List Dv) (o : Om) : Prop := ∃ (n : Nat) (now : List Rl) (r : Rl) (past : List (List Rl)), n ≤ 4 ∧ Vr n r ∧ now.length ≤ 40 ∧ past.length ≤ 1000 ∧ fs = fsD n now past ∧ ds = [.d (rlD r)] ∧ o = if now.contains r then .rt (.d .none) (fsD n (now.filter fun q => !decide (q = r)) (past ++ [now])) else .er (.ref CR)
abbrev nDrop : List Str := ["self", "rule", "other"]
theorem mf_drop {f C CR : Addr} {fd : FuncData} (Fn : Fun K "drop" "Desk.drop" (sDk 9) f fd) (hm : Meth K C "drop" f) (T : DkC K C) (ER : ErrC K mg "RuleError" CR) (G : Gm mg) (F1 : Pf P w K mg base "are_rule_parts" 4 FParts) (F3 : MfO P w K mg base C "change" 1 FChange) : MfO P w K mg base C "drop" 5 (FDrop CR) := by
  refine mf_mk (N := nDrop) (ps := ["self", "rule"]) Fn ⟨rfl, rfl, rfl, by decide +kernel, rfl, by decide +kernel, by decide +kernel⟩ hm (Fn.binds fun _ _ _ _ _ _ us hl => match us, hl with | [_, _], _ => rfl) (by rintro _ _ _ ⟨n, now, r, past, _, _, _, _, _, rfl, _⟩; rfl) ?_
  rintro _ _ _ ⟨n, now, r, past, h4, hv, hn, hp, rfl, rfl, rfl⟩ a cdv A outer s H E hr
  have nd : nDrop.Nodup := by decide +kernel
  have test := dt_w (dw_or (k := false) (l := !now.contains r) (pos := ⟨155, 11, 155, 83⟩) (dt_not (pos := ⟨155, 11, 155, 52⟩) (k := true) (dt_val (de_call (X := mX P w K mg base nDrop "Desk.drop" (defScope (sDk 9)) f cdv A outer s H E) (ρ := enE nDrop [.o a C (fsD n now past), .d (rlD r)]) (p := ⟨155, 15, 155, 29⟩) (pos := ⟨155, 15, 155, 52⟩) F1 hr rfl (da_cons (de_ixT (x := .int (n : Int)) (pos := ⟨155, 30, 155, 45⟩) (de_fld (d := bkD n now) (pos := ⟨155, 30, 155, 42⟩) (de_var (pos := ⟨155, 30, 155, 34⟩) 0) T.cl T.nC rfl) (de_int (i := 0) (j := 0) (pos := ⟨155, 43, 155, 44⟩)) rfl) (da_cons (de_var (pos := ⟨155, 47, 155, 51⟩) 1) da_nil)) ⟨n, r, by omega, hv, rfl, rfl⟩)))
    fun _ => dw_or1 (dt_is (dt_nin (ds := rsD now) (x := rlD r) (pos := ⟨155, 56, 155, 83⟩) (hu65 hr) (de_var (pos := ⟨155, 56, 155, 60⟩) 1) (.inl (de_ixT (x := .tuple (rsD now)) (pos := ⟨155, 68, 155, 83⟩) (de_fld (d := bkD n now) (pos := ⟨155, 68, 155, 80⟩) (de_var (pos := ⟨155, 68, 155, 72⟩) 0) T.cl T.nC rfl) (de_int (i := 1) (j := 0) (pos := ⟨155, 81, 155, 82⟩)) rfl)) (sh_rl r) (sh_rs now)) (by rw [any_rl])))
  by_cases hc : now.contains r = true
  · rw [if_pos hc]
    rw [hc] at test
    have e1 : (((rsD now).filter fun d => !PyData.eqv d (rlD r)).map fun d => d) = rsD (now.filter fun q => !decide (q = r)) := by
      rw [filt_rs now (fun q => !decide (q = r)) _ fun q _ => by rw [eqv_rl], map_self _ fun _ => rfl]
    refine .inr ⟨rfl, _, dws_skip test (dws_cons (dw_meth (fs' := fsD n (now.filter fun q => !decide (q = r)) (past ++ [now])) 0 (F3.mono (by decide)) hr T.cl (de_var 0) (da_cons (de_tup (ds := [.int (n : Int), .tuple (rsD (now.filter fun q => !decide (q = r)))]) (da_cons (de_ixT (x := .int (n : Int)) (de_fld (d := bkD n now) (de_var 0) T.cl T.nC rfl) de_int rfl) (da_cons (de_tupL rfl G.tup (de_is (de_lc (ds := rsD now) (f := fun d => !PyData.eqv d (rlD r)) (g := fun d => d) (j := 2) rfl nd rfl (.inl (de_ixT (x := .tuple (rsD now)) (de_fld (d := bkD n now) (de_var 0) T.cl T.nC rfl) de_int rfl)) (blkOk_by (N := nDrop) (sc := defScope (sDk 9)) (by decide +kernel)) (fun s H C cl fp => ⟨.inl rfl, .inr rfl⟩) (blkT_one fun d hd s H C cl fp => ?_) (fun d hd _ s H C cl fp => de_var 2) (fun d hd _ => ?_) (by rw [len_rs]; omega)) (by rw [e1]))) da_nil)) (show 2 ≤ 100000 by decide)) da_nil) ⟨n, now, _, past, hp, rfl, rfl, rfl⟩ rfl) dws_nil), rfl⟩
    · obtain ⟨q, hq, rfl⟩ := List.mem_map.mp hd
      exact dt_ne (hu64 hr) (de_var 2) (de_var 1) (sh_rl q) (sh_rl r)
    · obtain ⟨q, hq, rfl⟩ := List.mem_map.mp hd
      exact noL_rl q
  · rw [if_neg hc]
    have hf : now.contains r = false := by cases q : now.contains r with | true => exact absurd q hc | false => rfl
    rw [hf] at test
    exact er_if rfl (takes_of rfl rfl rfl rfl) test PySem.F.excBase_ValueError ER.xF ER.gC ER.kC (raises_own ER.bC ER.tC) rfl
abbrev FUndo (CN : Addr) (fs : List (Str × PyData)) (ds : List Dv) (o : Om) : Prop := ∃ (n : Nat) (now : List Rl) (past : List (List Rl)), past.length ≤ 1000 ∧ fs = fsD n now past ∧ ds = [] ∧ ((past = [] ∧ o = .er (.ref CN)) ∨ ∃ p q, past = p ++ [q] ∧ o = .rt (.d .none) (fsD n q p))
abbrev nUndo : List Str := ["self", "earlier", "last"]
theorem mf_undo {f C CN : Addr} {fd : FuncData} (Fn : Fun K "undo" "Desk.undo" (sDk 10) f fd) (hm : Meth K C "undo" f) (T : DkC K C) (EN : ErrC K mg "NothingError" CN) (G : Gm mg) : MfO P w K mg base C "undo" 1 (FUndo CN) := by
  refine mf_mk (N := nUndo) (ps := ["self"]) Fn ⟨rfl, rfl, rfl, by decide +kernel, rfl, by decide +kernel, by decide +kernel⟩ hm (Fn.binds fun _ _ _ _ _ _ us hl => match us, hl with | [_], _ => rfl) (by rintro _ _ _ ⟨n, now, past, _, _, rfl, _⟩; rfl) ?_
  rintro _ _ _ ⟨n, now, past, hp, rfl, rfl, ho⟩ a cdv A outer s H E hr
  have nd : nUndo.Nodup := by decide +kernel
  rcases ho with ⟨rfl, rfl⟩ | ⟨p, q, rfl, rfl⟩
  · exact er_if rfl (takes_of rfl rfl rfl rfl) (dt_is (dt_eq (x := psD n []) (y := .tuple []) (hu64 hr) (de_fld (de_var 0) T.cl T.nP rfl) (de_tup (ds := []) da_nil (by decide)) (sh_ps n []) rfl) (eqv_ps n [])) PySem.F.excBase_ValueError EN.xF EN.gC EN.kC (raises_own EN.bC EN.tC) rfl
  · have e : (p ++ [q]).map (fun rs => bkD n rs) = p.map (fun rs => bkD n rs) ++ [bkD n q] := by rw [List.map_append]; rfl
    refine .inr ⟨rfl, _, dws_skip (dt_is (dt_eq (x := psD n (p ++ [q])) (y := .tuple []) (hu64 hr) (de_fld (de_var 0) T.cl T.nP rfl) (de_tup (ds := []) da_nil (by decide)) (sh_ps n _) rfl) (by rw [eqv_ps]; cases p <;> rfl)) (dws_cons (dw_of (ds_star (ds := p.map fun rs => bkD n rs) (d := bkD n q) 1 2 rfl (de_is (de_fld (d := psD n (p ++ [q])) (de_var 0) T.cl T.nP rfl) (by unfold psD; rw [e])) nd))
      (dws_cons (dw_fld (d := psD n p) 0 (de_var 0) (de_tupL (ds := p.map fun rs => bkD n rs) rfl G.tup (de_var 1)) T.cl T.nP) (dws_cons (dw_fld (d := bkD n q) 0 (de_var 0) (de_var 2) T.cl T.nC) dws_nil))), rfl⟩
/-! ### what may be read of a desk -/
/-- a promise that leaves all as it was: self's attributes, what it returns -/
def spG (K : PySem.W.Frag) (C : Addr) (F : List (Str × PyData) → PyData → Prop) : Sp := fun vs H Q _ => ∃ a fs d, RvA K H vs [.o a C fs] ∧ F fs d ∧ ∀ v H', Ex H H' → Rv K H' v (.d d) → Q v H'
theorem og_ok {x qual : Str} {st : Stmt} {f C : Addr} {fd : FuncData} {N : List Str} {k : Nat} {F : List (Str × PyData) → PyData → Prop} (Fn : Fun K x qual st f fd) (S : FnScope N ["self"] (defScope st))
    (body : ∀ (fs : List (Str × PyData)) (d : PyData), F fs d → ∀ (a : Addr) (cdv : Value) (A : Around) (outer : List Env) (s : Shared) (H : Hp) (E : XK), Room k (A.deeper (envOfC qual (defScope st) s.heap.objs.size f cdv)) →
      DSs (bodyX P w K mg base N qual (defScope st) f cdv A outer s H E) (defBody st) (enE N [.o a C fs]) (.rt (.d d))) : FnOk P w K mg base CX0 (k + 1) f fd ["self"] (spG K C F) := by
  refine Fn.ok S (fun vs H Q E ⟨a, fs, d, r, _⟩ => by rw [r.len]; rfl) (fun cdv A outer s H vs Q E hr ⟨a, fs, d, r, hF, q⟩ => ?_)
  exact ⟨_, body fs d hF a cdv A outer s H E hr, rs_start r, fun v H' e1 r1 => q v H' e1 r1⟩
abbrev FGet (q : Nat → List Rl → List (List Rl) → PyData) (fs : List (Str × PyData)) (d : PyData) : Prop := ∃ (n : Nat) (now : List Rl) (past : List (List Rl)), 1 ≤ n ∧ n ≤ 4 ∧ Gd now ∧ fs = fsD n now past ∧ d = q n now past
theorem ok_book {f C : Addr} {fd : FuncData} (Fn : Fun K "book" "Desk.book" (sDk 1) f fd) (T : DkC K C) : FnOk P w K mg base CX0 1 f fd ["self"] (spG K C (FGet fun n now _ => bkD n now)) := by
  refine og_ok (N := ["self"]) Fn ⟨rfl, rfl, rfl, by decide +kernel, rfl, by decide +kernel, by decide +kernel⟩ ?_
  rintro _ _ ⟨n, now, past, _, _, _, rfl, rfl⟩ a cdv A outer s H E hr
  exact dss_ret (de_fld (d := bkD n now) (de_var 0) T.cl T.nC rfl)
theorem ok_changes {f C : Addr} {fd : FuncData} (Fn : Fun K "changes" "Desk.changes" (sDk 3) f fd) (T : DkC K C) (G : Gm mg) : FnOk P w K mg base CX0 1 f fd ["self"] (spG K C (FGet fun _ _ past => .int (past.length : Int))) := by
  refine og_ok (N := ["self"]) Fn ⟨rfl, rfl, rfl, by decide +kernel, rfl, by decide +kernel, by decide +kernel⟩ ?_
  rintro _ _ ⟨n, now, past, _, _, _, rfl, rfl⟩ a cdv A outer s H E hr
  exact dss_ret (de_is (de_lenT (ds := past.map fun rs => bkD n rs) rfl G.len (de_fld (d := psD n past) (de_var 0) T.cl T.nP rfl)) (by rw [List.length_map]))
theorem ok_settled {f C : Addr} {fd : FuncData} (Fn : Fun K "settled" "Desk.settled" (sDk 4) f fd) (T : DkC K C) (G : Gm mg) (F1 : Pf P w K mg base "settled_sets" 6 FSettS) : FnOk P w K mg base CX0 7 f fd ["self"] (spG K C (FGet fun n now _ => .tuple ((settL n now).map tpD))) := by
  refine og_ok (N := ["self"]) Fn ⟨rfl, rfl, rfl, by decide +kernel, rfl, by decide +kernel, by decide +kernel⟩ ?_
  rintro _ _ ⟨n, now, past, h1, h4, hg, rfl, rfl⟩ a cdv A outer s H E hr
  exact dss_ret (de_tupL rfl G.tup (de_call F1 hr rfl (da_cons (de_ixT (x := .int (n : Int)) (de_fld (d := bkD n now) (de_var 0) T.cl T.nC rfl) de_int rfl) (da_cons (de_ixT (x := .tuple (rsD now)) (de_fld (d := bkD n now) (de_var 0) T.cl T.nC rfl) de_int rfl) da_nil)) ⟨n, now, h4, hg, rfl, rfl⟩))
/-- e.x, x a property of e's class -/
theorem de_prop {X : Cx} {ρ : En} {e : Expr} {a C p g : Addr} {fs : List (Str × PyData)} {fd : FuncData} {k : Nat} {F : List (Str × PyData) → PyData → Prop} {d : PyData} {x : Str} {pos : Pos} (h : DE X e ρ (.o a C fs)) (c : Cls X.K C) (hp : PropOf X.K C x p g) (Fn : FnOk X.prog X.w X.K X.mg X.base CX0 k g fd ["self"] (spG X.K C F)) (hr : Room (k + 1) X.A) (hb : L2.Binds X.K fd ["self"] []) (hF : F fs d)
    (hab : attributeBase e x X.env (eval e X.env) = eval e X.env := by rfl) : DE X (.Attribute e x pos) ρ (.d d) :=
  (pe_prop h c hp Fn hr hb .nil (pass0 (X := X.nox)) hab).imp fun σ H Q ⟨hs, q⟩ => ⟨hs, fun v H1 e1 rv => by
    obtain ⟨ev, hi⟩ := id rv
    obtain ⟨dx, gs, hg⟩ := hi.ins
    rw [ev] at rv
    exact ⟨a, dx, gs, ev, hg, a, fs, d, .cons rv .nil, hF, fun u H2 e2 r2 => q u H2 (e1.trans e2) r2⟩⟩
end
end DSW
set_option Elab.async false
set_option linter.all false
set_option maxRecDepth 100000
set_option maxHeartbeats 2000000
/-! Supposing; with. -/
namespace DSW
open PySem PySem.Spec PyProof.Rows L2 Evl
section
variable {X : Cx}
def tWith (CS : Addr) (spE spX : Sp) (j : Nat) (tc : TE) (tb : TS) : TS := fun D σ H => tc σ H fun x H1 => ∃ b dx fs, x = .ref b ∧ H1 b = some (.ins CS dx fs) ∧
  spE [.ref b] H1 (fun v H2 => tb { nx := fun σ3 H3 => spX [.ref b, .non, .non, .non] H3 (fun _ H4 => D.nx σ3 H4) E0, rt := fun _ _ => False } (σ.set j (some v)) H2) E0
/-- with ctx as y: body -/
theorem ps_with {ctx : Expr} {y : Str} {py pos : Pos} {body : List Stmt} {CS fe fx : Addr} {spE spX : Sp} {k j : Nat} {tc : TE} {tb : TS} (hc : PE X ctx tc) (he : PySem.W.findIn X.K (.ref CS) "__enter__" = some (some (.ref fe))) (hfe : PySem.W.isFn X.K (.ref fe) = true)
    (hx : PySem.W.findIn X.K (.ref CS) "__exit__" = some (some (.ref fx))) (hfx : PySem.W.isFn X.K (.ref fx) = true) (FE : FnR X.prog X.w X.K X.mg X.base (L2.CX X.prog X.w) k fe spE) (FX : FnR X.prog X.w X.K X.mg X.base (L2.CX X.prog X.w) k fx spX) (hr : Room k X.A)
    (hN : X.N.Nodup) (hj : X.N[j]? = some y) (hy : Loc X.env.scope y) (hf : X.fn y = true ∨ X.env.scope.names.lookup y = some .local) (hb : PSs X.nox body tb) : PS X (.With [⟨ctx, some (.Name y py)⟩] body pos) (tWith CS spE spX j tc tb) := by
  refine ⟨fun pins s σ H D I h => PySem.W.kw_execN (thn (hc.run pins s σ H _ I h) fun u s1 ⟨x, H1, I1, rx, b, dx, fs, ex, eb, q⟩ => ?_)⟩
  subst ex
  obtain rfl : u = .ref b := rx
  obtain ⟨mA, O, _⟩ := ins_get I1.hok eb
  obtain ⟨od, J, _⟩ := O.look
  unfold PySem.W.KwIn
  refine PySem.W.kw_core I1.kIn J he hfe hx hfx ?_
  refine thn (wpAny_call (run_fnR (vs := [.ref b]) FE hr passX I1 (.cons rfl .nil) q)) fun v s2 ⟨x2, H2, I2, r2, q2⟩ => ?_
  refine wpAny_assign_Name (store_ok I2 hN hj hy r2 (fun s3 I3 => ?_) hf)
  refine thn (hb.run pins s3 _ H2 _ (I3.wish _) q2) fun f s4 q4 => ?_
  cases f with
  | next =>
    obtain ⟨σ', H', I4, q5⟩ := q4
    refine thn (wpAny_call (run_fnR (vs := [.ref b, .non, .non, .non]) FX hr passX I4.unwish (.cons rfl (.cons rfl (.cons rfl (.cons rfl .nil)))) q5)) fun _ s5 ⟨_, H5, I5, _, q6⟩ => ⟨σ', H5, I5, q6⟩
  | brk => obtain ⟨_, _, _, z⟩ := q4; exact z.elim
  | cont => obtain ⟨_, _, _, z⟩ := q4; exact z.elim
  | ret u => obtain ⟨_, _, _, _, _, z⟩ := q4; exact z.elim
end
abbrev sSp (j : Nat) : Stmt := inClass (topS 36) j
abbrev fS (va vr vk vb : V) : List (Str × V) := [("desk", va), ("rules", vr), ("kept", vk), ("before", vb)]
abbrev fD (vc vp : V) : List (Str × V) := [("current", vc), ("past", vp)]
/-- the class Supposing -/
structure SpC (K : PySem.W.Frag) (C : Addr) : Prop where
  cl : Cls K C
  n1 : NoAttr K C "desk"
  n2 : NoAttr K C "rules"
  n3 : NoAttr K C "kept"
  n4 : NoAttr K C "before"
section
variable {P : Program} {w : World} {K : PySem.W.Frag} {mg : Str → Option Value} {base : Heap}
def spI (CD CS : Addr) : Sp := fun vs H Q _ => ∃ a b dxd dxs vr vc vp, vs = [.ref b, .ref a, vr] ∧ a ≠ b ∧ H b = some (.ins CS dxs []) ∧ H a = some (.ins CD dxd (fD vc vp)) ∧ ∀ H', (∀ c, c ≠ b → H' c = H c) → H' b = some (.ins CS dxs (fS (.ref a) vr vc vp)) → Q .non H'
theorem ok_supp_init {f CD CS : Addr} {fd : FuncData} (Fn : Fun K "__init__" "Supposing.__init__" (sSp 0) f fd) (T : DkC K CD) (S : SpC K CS) : FnOk P w K mg base (L2.CX P w) 1 f fd ["self", "desk", "rules"] (spI CD CS) := by
  refine Fn.okX (N := ["self", "desk", "rules"]) ⟨rfl, rfl, rfl, by decide +kernel, rfl, by decide +kernel, by decide +kernel⟩ (by rintro vs H Q E ⟨a, b, _, _, vr, _, _, rfl, _⟩; rfl) (fun cdv A outer s H vs Q E hr ⟨a, b, dxd, dxs, vr, vc, vp, ev, ne, hb, ha, q⟩ => ?_)
  subst ev
  refine ⟨_, pss_cons (ps_fld (pe_var (i := 0) rfl (.inl rfl)) (pe_var (i := 1) rfl (.inl rfl)) rfl) (pss_cons (ps_fld (pe_var (i := 0) rfl (.inl rfl)) (pe_var (i := 2) rfl (.inl rfl)) rfl)
    (pss_cons (ps_fld (pe_var (i := 0) rfl (.inl rfl)) (pe_fld (pe_var (i := 1) rfl (.inl rfl)) rfl) rfl) (pss_cons (ps_fld (pe_var (i := 0) rfl (.inl rfl)) (pe_fld (pe_var (i := 1) rfl (.inl rfl)) rfl) rfl) pss_nil))), ?_⟩
  refine ⟨.ref a, rfl, .ref b, rfl, b, CS, dxs, [], rfl, hb, S.cl, S.n1, of_decide_eq_true rfl, ?_⟩
  refine ⟨vr, rfl, .ref b, rfl, b, CS, dxs, _, rfl, upd_same, S.cl, S.n2, of_decide_eq_true rfl, ?_⟩
  refine ⟨.ref a, rfl, a, CD, dxd, fD vc vp, vc, rfl, by rw [upd_ne ne, upd_ne ne]; exact ha, T.cl, T.nC, rfl, .ref b, rfl, b, CS, dxs, _, rfl, upd_same, S.cl, S.n3, of_decide_eq_true rfl, ?_⟩
  refine ⟨.ref a, rfl, a, CD, dxd, fD vc vp, vp, rfl, by rw [upd_ne ne, upd_ne ne, upd_ne ne]; exact ha, T.cl, T.nP, rfl, .ref b, rfl, b, CS, dxs, _, rfl, upd_same, S.cl, S.n4, of_decide_eq_true rfl, ?_⟩
  exact q _ (fun c hc => by rw [upd_ne hc, upd_ne hc, upd_ne hc, upd_ne hc]) upd_same
def spN (K : PySem.W.Frag) (CD CS : Addr) : Sp := fun vs H Q _ => ∃ a b dxd dxs vr vk vb vc vp n rs qs, vs = [.ref b] ∧ a ≠ b ∧ H b = some (.ins CS dxs (fS (.ref a) vr vk vb)) ∧ H a = some (.ins CD dxd (fD vc vp)) ∧ Rv K H vc (.d (bkD n rs)) ∧ Rv K H vr (.d (.tuple (rsD qs))) ∧ rs.length ≤ 1000 ∧ qs.length ≤ 1000 ∧
  ∀ v H', (∀ c o, H c = some o → c ≠ b → c ≠ a → H' c = some o) → H' b = some (.ins CS dxs (fS (.ref a) vr vc vp)) → H' a = some (.ins CD dxd (fD v vp)) → Rv K H' v (.d (bkD n (joinR rs qs))) → Q (.ref a) H'
theorem ok_supp_enter {f CD CS : Addr} {fd : FuncData} (Fn : Fun K "__enter__" "Supposing.__enter__" (sSp 1) f fd) (T : DkC K CD) (S : SpC K CS) (F1 : Pf P w K mg base "with_rules" 1 FWith) : FnOk P w K mg base (L2.CX P w) 2 f fd ["self"] (spN K CD CS) := by
  obtain ⟨f1, fd1, ps1, k1, k2, k3, k4⟩ := F1
  refine Fn.okX (N := ["self"]) ⟨rfl, rfl, rfl, by decide +kernel, rfl, by decide +kernel, by decide +kernel⟩ (by rintro vs H Q E ⟨a, b, _, _, vr, _, _, _, _, _, _, _, rfl, _⟩; rfl) (fun cdv A outer s H vs Q E hr ⟨a, b, dxd, dxs, vr, vk, vb, vc, vp, n, rs, qs, ev, ne, hb, ha, rc, rr, z1, z2, q⟩ => ?_)
  subst ev
  have sf : ∀ {y : Str} {p1 p2 : Pos}, PE (cxOf (L2.CX P w) P w K mg base ["self"] "Supposing.__enter__" (defScope (sSp 1)) f cdv A outer s H E) (.Attribute (.Name "self" p1) y p2) (tFld K (tVar 0) y) := pe_fld (pe_var (i := 0) rfl (.inl rfl)) rfl
  refine ⟨_, pss_cons (ps_fld (pe_var (i := 0) rfl (.inl rfl)) (pe_fld sf rfl) rfl) (pss_cons (ps_fld (pe_var (i := 0) rfl (.inl rfl)) (pe_fld sf rfl) rfl)
    (pss_cons (ps_fld sf (pe_call k2 hr rfl k1 k3 k4 .nil (pass0 (X := cxOf (L2.CX P w) P w K mg base ["self"] "Supposing.__enter__" (defScope (sSp 1)) f cdv A outer s H E)) (pa_cons sf (pa_cons sf pa_nil)) (by decide) rfl rfl) rfl) (pss_one (ps_ret sf)))), ?_⟩
  have nb := ne
  have nb' : b ≠ a := fun z => ne z.symm
  refine ⟨.ref b, rfl, b, CS, dxs, _, .ref a, rfl, hb, S.cl, S.n1, rfl, a, CD, dxd, fD vc vp, vc, rfl, ha, T.cl, T.nC, rfl, .ref b, rfl, b, CS, dxs, _, rfl, hb, S.cl, S.n3, of_decide_eq_true rfl, ?_⟩
  refine ⟨.ref b, rfl, b, CS, dxs, _, .ref a, rfl, upd_same, S.cl, S.n1, rfl, a, CD, dxd, fD vc vp, vp, rfl, by rw [upd_ne ne]; exact ha, T.cl, T.nP, rfl, .ref b, rfl, b, CS, dxs, _, rfl, upd_same, S.cl, S.n4, of_decide_eq_true rfl, ?_⟩
  refine ⟨.ref b, rfl, b, CS, dxs, _, vc, rfl, upd_same, S.cl, S.n3, rfl, .ref b, rfl, b, CS, dxs, _, vr, rfl, upd_same, S.cl, S.n2, rfl, ?_⟩
  obtain ⟨H2, hH2⟩ : ∃ H2, upd (upd H b (.ins CS dxs (fS (.ref a) vr vc vb))) b (.ins CS dxs (fS (.ref a) vr vc vp)) = H2 := ⟨_, rfl⟩
  have e2 : ∀ c, c ≠ b → H2 c = H c := fun c hc => by rw [← hH2, upd_ne hc, upd_ne hc]
  have eb : H2 b = some (.ins CS dxs (fS (.ref a) vr vc vp)) := by rw [← hH2, upd_same]
  have kp : Kp H H2 := fun c o e si => by
    by_cases hc : c = b
    · rw [hc, hb] at e; cases e; cases si
    · rw [e2 c hc]; exact e
  rw [← hH2] at e2 eb kp
  refine ⟨[.d (bkD n rs), .d (.tuple (rsD qs))], .d (bkD n (joinR rs qs)), .cons (Rv.kpl kp rfl rc) (.cons (Rv.kpl kp rfl rr) .nil), ⟨n, rs, qs, z1, z2, rfl, rfl⟩, fun v H3 e3 r3 => ?_⟩
  refine ⟨.ref b, rfl, b, CS, dxs, _, .ref a, rfl, e3 _ _ eb, S.cl, S.n1, rfl, a, CD, dxd, fD vc vp, rfl, e3 _ _ ((e2 a ne).trans ha), T.cl, T.nC, of_decide_eq_true rfl, ?_⟩
  have ha3 : H3 a = some (.ins CD dxd (fD vc vp)) := e3 _ _ ((e2 a ne).trans ha)
  have kp3 : Kp H3 (upd H3 a (.ins CD dxd (fD v vp))) := Xb.upd.kp ha3
  refine ⟨.ref b, rfl, b, CS, dxs, _, .ref a, rfl, by rw [upd_ne nb']; exact e3 _ _ eb, S.cl, S.n1, rfl, ?_⟩
  exact q v _ (fun c o e c1 c2 => by rw [upd_ne c2]; exact e3 _ _ ((e2 c c1).trans e)) (by rw [upd_ne nb']; exact e3 _ _ eb) upd_same (Rv.kpl kp3 rfl r3)
def spZ (CD CS : Addr) : Sp := fun vs H Q _ => ∃ a b dxd dxs vr vk vb vc vp, vs = [.ref b, .non, .non, .non] ∧ a ≠ b ∧ H b = some (.ins CS dxs (fS (.ref a) vr vk vb)) ∧ H a = some (.ins CD dxd (fD vc vp)) ∧
  ∀ H', (∀ c, c ≠ a → H' c = H c) → H' a = some (.ins CD dxd (fD vk vb)) → Q .non H'
theorem ok_supp_exit {f CD CS : Addr} {fd : FuncData} (Fn : Fun K "__exit__" "Supposing.__exit__" (sSp 2) f fd) (T : DkC K CD) (S : SpC K CS) : FnOk P w K mg base (L2.CX P w) 1 f fd ["self", "kind", "value", "trace"] (spZ CD CS) := by
  refine Fn.okX (N := ["self", "kind", "value", "trace"]) ⟨rfl, rfl, rfl, by decide +kernel, rfl, by decide +kernel, by decide +kernel⟩ (by rintro vs H Q E ⟨a, b, _, _, vr, _, _, _, _, rfl, _⟩; rfl) (fun cdv A outer s H vs Q E hr ⟨a, b, dxd, dxs, vr, vk, vb, vc, vp, ev, ne, hb, ha, q⟩ => ?_)
  subst ev
  have sf : ∀ {y : Str} {p1 p2 : Pos}, PE (cxOf (L2.CX P w) P w K mg base ["self", "kind", "value", "trace"] "Supposing.__exit__" (defScope (sSp 2)) f cdv A outer s H E) (.Attribute (.Name "self" p1) y p2) (tFld K (tVar 0) y) := pe_fld (pe_var (i := 0) rfl (.inl rfl)) rfl
  refine ⟨_, pss_cons (ps_fld sf sf rfl) (pss_cons (ps_fld sf sf rfl) pss_nil), ?_⟩
  have nb' : b ≠ a := fun z => ne z.symm
  refine ⟨.ref b, rfl, b, CS, dxs, _, vk, rfl, hb, S.cl, S.n3, rfl, .ref b, rfl, b, CS, dxs, _, .ref a, rfl, hb, S.cl, S.n1, rfl, a, CD, dxd, _, rfl, ha, T.cl, T.nC, of_decide_eq_true rfl, ?_⟩
  have hb2 : ∀ o, upd H a o b = some (.ins CS dxs (fS (.ref a) vr vk vb)) := fun o => by rw [upd_ne nb']; exact hb
  refine ⟨.ref b, rfl, b, CS, dxs, _, vb, rfl, hb2 _, S.cl, S.n4, rfl, .ref b, rfl, b, CS, dxs, _, .ref a, rfl, hb2 _, S.cl, S.n1, rfl, a, CD, dxd, _, rfl, upd_same, T.cl, T.nP, of_decide_eq_true rfl, ?_⟩
  exact q _ (fun c hc => by rw [upd_ne hc, upd_ne hc]) upd_same
end
end DSW
set_option Elab.async false
set_option linter.all false
set_option maxRecDepth 100000
set_option maxHeartbeats 2000000
/-! supposing; settled_supposing. -/
namespace DSW
open PySem PySem.Spec PyProof.Rows L2 Evl
theorem joinR_gd {rs qs : List Rl} (h1 : ∀ r ∈ rs, Vr 4 r) : (∀ r ∈ qs, Vr 4 r) → ∀ r ∈ joinR rs qs, Vr 4 r := by
  induction qs generalizing rs with
  | nil => exact fun _ => h1
  | cons q qs ih =>
    intro h2
    refine ih (rs := addR rs q) (fun r hr => ?_) fun r hr => h2 r (List.mem_cons_of_mem _ hr)
    unfold addR at hr
    split at hr
    · exact h1 r hr
    · rcases List.mem_append.mp hr with h | h
      · exact h1 r h
      · rw [List.mem_singleton.mp h]; exact h2 q (List.Mem.head _)
theorem InsAt.two {K : PySem.W.Frag} {H : Hp} {a C : Addr} {n : Nat} {now : List Rl} {past : List (List Rl)} (h : InsAt K H a C (fsD n now past)) : ∃ dx vc vp, H a = some (.ins C dx (fD vc vp)) ∧ Rv K H vc (.d (bkD n now)) ∧ Rv K H vp (.d (psD n past)) := by
  obtain ⟨dx, vs, h1, h2⟩ := h
  obtain ⟨v, r, rfl, q1, q2⟩ := dqA_cons.mp h2
  obtain ⟨v2, r2, rfl, q3, q4⟩ := dqA_cons.mp q2
  rw [dqA_nil.mp q4] at h1
  exact ⟨dx, v, v2, h1, q1, q3⟩
theorem InsAt.of2 {K : PySem.W.Frag} {H : Hp} {a C dx : Addr} {n : Nat} {now : List Rl} {past : List (List Rl)} {vc vp : V} (h : H a = some (.ins C dx (fD vc vp))) (h1 : Rv K H vc (.d (bkD n now))) (h2 : Rv K H vp (.d (psD n past))) : InsAt K H a C (fsD n now past) :=
  ⟨dx, [vc, vp], h, dqA_cons.mpr ⟨vc, [vp], rfl, h1, dqA_cons.mpr ⟨vp, [], rfl, h2, dqA_nil.mpr rfl⟩⟩⟩
/-- n atoms, good rules, few -/
def Sit (n : Nat) (now qs : List Rl) : Prop := 1 ≤ n ∧ n ≤ 4 ∧ (∀ r ∈ now, Vr 4 r) ∧ (∀ r ∈ qs, Vr n r) ∧ now.length ≤ 40 ∧ qs.length ≤ 2
theorem vr_up {n : Nat} {r : Rl} (h : Vr n r) (h4 : n ≤ 4) : Vr 4 r := by
  have z : (n : Int) ≤ 4 := by omega
  exact ⟨fun a e => ⟨(h.1 a e).1, Int.lt_of_lt_of_le (h.1 a e).2 z⟩, ⟨h.2.1.1, fun i hi => ⟨(h.2.1.2 i hi).1, Int.lt_of_lt_of_le (h.2.1.2 i hi).2 z⟩⟩, ⟨h.2.2.1, fun i hi => ⟨(h.2.2.2 i hi).1, Int.lt_of_lt_of_le (h.2.2.2 i hi).2 z⟩⟩⟩
theorem Sit.gd {n : Nat} {now qs : List Rl} (h : Sit n now qs) : Gd (joinR now qs) := ⟨by have := joinR_len qs now; have := h.2.2.2.2.1; have := h.2.2.2.2.2; omega, joinR_gd h.2.2.1 fun r hr => vr_up (h.2.2.2.1 r hr) h.2.1⟩
section
variable {P : Program} {w : World} {K : PySem.W.Frag} {mg : Str → Option Value} {base : Heap}
def spSup (K : PySem.W.Frag) (CD CS : Addr) : Sp := fun vs H Q _ => ∃ a n now past qs, RvA K H vs [.o a CD (fsD n now past), .d (.tuple (rsD qs))] ∧ Sit n now qs ∧
  ∀ H' b dxs dxd vr vc vp, Ex H H' → H b = none → H' b = some (.ins CS dxs (fS (.ref a) vr vc vp)) → H' a = some (.ins CD dxd (fD vc vp)) → Rv K H' vr (.d (.tuple (rsD qs))) → Rv K H' vc (.d (bkD n now)) → Rv K H' vp (.d (psD n past)) → Q (.ref b) H'
def spStar (m : Nat) (sp : Sp) : Sp := fun vs H Q E => ∃ ws rest, vs = ws ++ rest ∧ ws.length = m ∧ rest.length ≤ sizeLine ∧ ∀ p, H p = Option.none → sp (ws ++ [V.ref p]) (upd H p (.tup rest)) Q E
abbrev nSup : List Str := ["self", "rules", "rule"]
theorem fn_supposing {f fi CD CS : Addr} {fd fdi : FuncData} (Fn : Fun K "supposing" "Desk.supposing" (sDk 12) f fd) (T : DkC K CD) (G : Gm mg) (F1 : Pf P w K mg base "are_rule_parts" 4 FParts) (F2 : Pf P w K mg base "need_room" 1 (fun ds d => FRoom ds ∧ d = .d .none)) (F3 : Pf P w K mg base "with_rules" 1 FWith)
    (M : Mk K CS fi) (hS : mg "Supposing" = some (.ref CS)) (FI : FnOk P w K mg base (L2.CX P w) 1 fi fdi ["self", "desk", "rules"] (spI CD CS)) (hb : L2.Binds K fdi ["self", "desk", "rules"] []) : FnR P w K mg base (L2.CX P w) 5 f (spStar 1 (spSup K CD CS)) := by
  obtain ⟨oc, od, kV, doc, pm, an, cdv, ct, osl, rfl, lk, hcd⟩ := Fn.ex
  refine StX.fn_star (N := nSup) (ps := ["self"]) (pv := "rules") lk hcd ⟨rfl, rfl, rfl, by decide +kernel, rfl, by decide +kernel, by decide +kernel⟩ StX.cxUp (StX.bind_star1 (B := fun l => bindArgs (PySem.W.fnOf "supposing" "Desk.supposing" (defArgs (sDk 12)) (defBody (sDk 12)) (defScope (sDk 12)) .none kV doc pm an cdv ct) ⟨l, []⟩) (p1 := "self") (pv := "rules") (fun _ => rfl) fun _ _ _ => rfl) (fun A outer s H vs Q E hr ⟨a, n, now, past, qs, rr, hs, q⟩ => ?_)
  obtain ⟨s1, s4, sn, sq, l1, l2⟩ := hs
  have nd : nSup.Nodup := by decide +kernel
  have q1 : (rsD qs).all (fun _ => true) = true := by simp
  have hlen := joinR_len qs now
  refine ⟨_, pss_cons (ds_if (k := false) (ρ := enE nSup [.o a CD (fsD n now past), .d (.tuple (rsD qs))]) (o := .nx (enE nSup [.o a CD (fsD n now past), .d (.tuple (rsD qs))])) (dt_not (k := true) (dt_val (de_is (de_allM (ds := rsD qs) (q := fun _ => true) rfl rfl G.all (de_lc (ds := rsD qs) (j := 2) (f := fun _ => true) (g := fun _ => .bool true) rfl nd rfl (.inl (de_var 1)) (blkOk_by (N := nSup) (sc := defScope (sDk 12)) (by decide +kernel)) (fun s H C cl fp => ⟨.inl rfl, .inr rfl⟩) blkT_nil (fun d hd _ s H C cl fp => ?_) (fun _ _ _ => rfl) (by rw [len_rs]; omega))) (by rw [q1])))) (fun z => by cases z) fun _ => dss_nil)
    (pss_cons (ds_expr (ρ := enE nSup [.o a CD (fsD n now past), .d (.tuple (rsD qs))]) (de_call (F2.mono (by decide)) hr rfl (da_cons (de_lenT (ds := rsD (joinR now qs)) rfl G.len (de_ixT (x := .tuple (rsD (joinR now qs))) (de_call (d := .d (bkD n (joinR now qs))) (F3.mono (by decide)) hr rfl (da_cons (de_fld (d := bkD n now) (de_var 0) T.cl T.nC rfl) (da_cons (de_var 1) da_nil)) ⟨n, now, qs, by omega, by omega, rfl, rfl⟩) de_int rfl)) da_nil) ⟨⟨_, ?_, rfl⟩, rfl⟩))
      (pss_one (ps_ret (pe_make M FI (show Room (1 + 1) _ from hr.mono (by decide)) rfl hS hb .nil (passX (X := cxOf (L2.CX P w) P w K mg base nSup "Desk.supposing" (defScope (sDk 12)) f cdv A outer s H E)) (pa_cons (pe_var (i := 0) rfl (.inr (.inl rfl))) (pa_cons (pe_var (i := 1) rfl (.inl rfl)) pa_nil)))))), ?_⟩
  · obtain ⟨r, hr', rfl⟩ := List.mem_map.mp hd
    exact de_call F1 hr rfl (da_cons (de_ixT (x := .int (n : Int)) (de_fld (d := bkD n now) (de_var 0) T.cl T.nC rfl) de_int rfl) (da_cons (de_var 2) da_nil)) ⟨n, r, by omega, sq r hr', rfl, rfl⟩
  · rw [len_rs]; omega
  refine ⟨rs_start rr, fun σ1 H1 e1 r1 => ⟨r1, fun σ2 H2 e2 r2 => ?_⟩⟩
  obtain ⟨v0, k0, ev, hi⟩ := r2.2 0 _ rfl
  obtain ⟨vr, k1, hvr⟩ := r2.2 1 _ rfl
  subst ev
  obtain ⟨dxd, vc, vp, ha, hc, hp⟩ := hi.two
  refine ⟨.ref a, k0, vr, k1, fun x dx hx hdx ne => ?_⟩
  have nax : a ≠ x := fun z => by rw [z, hx] at ha; cases ha
  have nad : a ≠ dx := fun z => by rw [z, hdx] at ha; cases ha
  refine ⟨a, x, dxd, dx, vr, vc, vp, rfl, nax, upd_same, by rw [upd_ne nax, upd_ne nad]; exact ha, fun H' k hb' => ⟨rfl, ?_⟩⟩
  have e3 : Ex H2 H' := fun c o e => by
    have c1 : c ≠ x := fun z => by rw [z, hx] at e; cases e
    have c2 : c ≠ dx := fun z => by rw [z, hdx] at e; cases e
    rw [k c c1, upd_ne c1, upd_ne c2]
    exact e
  have hx0 : H x = none := by
    cases z : H x with
    | none => rfl
    | some o => rw [(e1.trans e2) x o z] at hx; cases hx
  exact q H' x dx dxd vr vc vp ((e1.trans e2).trans e3) hx0 hb' (e3 _ _ ha) (Rv.ex e3 hvr) (Rv.ex e3 hc) (Rv.ex e3 hp)
end
end DSW
set_option Elab.async false
set_option linter.all false
set_option maxRecDepth 100000
set_option maxHeartbeats 2000000
/-! settled_supposing. -/
namespace DSW
open PySem PySem.Spec PyProof.Rows L2 Evl
theorem rs_mk {K : PySem.W.Frag} {H : Hp} {σ : L2.St} {d : Dv} {v : V} (hl : σ.length = 4) (r : Rv K H v d) : Rs K H (σ.set 2 (some v)) [none, none, some d, none] := by
  refine ⟨by rw [List.length_set, hl]; rfl, fun i x e => ?_⟩
  match i, e with
  | 2, e =>
    have e' : some (some d) = some (some x) := e
    injection e' with e'
    injection e' with e'
    exact ⟨v, by rw [List.getElem?_set_self (by omega)], by rw [← e']; exact r⟩
  | 0, e => cases e
  | 1, e => cases e
  | 3, e => cases e
  | k + 4, e => cases e
section
variable {P : Program} {w : World} {K : PySem.W.Frag} {mg : Str → Option Value} {base : Heap}
/-- self.supposing( *rules) -/
def spSS (K : PySem.W.Frag) (CD : Addr) : Sp := fun vs H Q _ => ∃ a n now past qs, RvA K H vs [.o a CD (fsD n now past), .d (.tuple (rsD qs))] ∧ Sit n now qs ∧
  (∃ t xs, vs[1]? = some (.ref t) ∧ H t = some (.tup xs) ∧ DqA K H (rsD qs) xs) ∧
  ∀ v H', Xb a H H' → Rv K H' v (.d (.tuple ((settL n (joinR now qs)).map tpD))) → InsAt K H' a CD (fsD n now past) → Q v H'
abbrev nSS : List Str := ["self", "rules", "desk", "found"]
theorem fn_settled_supposing {f fs fe fx ps gs CD CS : Addr} {fd fde fdx fds : FuncData} (Fn : Fun K "settled_supposing" "Desk.settled_supposing" (sDk 13) f fd) (T : DkC K CD) (BM : BMeth K CD "supposing" fs) (FS : FnR P w K mg base (L2.CX P w) 5 fs (spStar 1 (spSup K CD CS)))
    (he : PySem.W.findIn K (.ref CS) "__enter__" = some (some (.ref fe))) (hfe : PySem.W.isFn K (.ref fe) = true) (hx : PySem.W.findIn K (.ref CS) "__exit__" = some (some (.ref fx))) (hfx : PySem.W.isFn K (.ref fx) = true)
    (FE : FnOk P w K mg base (L2.CX P w) 2 fe fde ["self"] (spN K CD CS)) (be : L2.Binds K fde ["self"] []) (FX : FnOk P w K mg base (L2.CX P w) 1 fx fdx ["self", "kind", "value", "trace"] (spZ CD CS)) (bx : L2.Binds K fdx ["self", "kind", "value", "trace"] [])
    (PO : PropOf K CD "settled" ps gs) (FG : FnOk P w K mg base CX0 7 gs fds ["self"] (spG K CD (FGet fun n now _ => .tuple ((settL n now).map tpD)))) (bs : L2.Binds K fds ["self"] []) :
    FnR P w K mg base (L2.CX P w) 9 f (spStar 1 (spSS K CD)) := by
  obtain ⟨oc, od, kV, doc, pm, an, cdv, ct, osl, rfl, lk, hcd⟩ := Fn.ex
  refine StX.fn_star (N := nSS) (ps := ["self"]) (pv := "rules") lk hcd ⟨rfl, rfl, rfl, by decide +kernel, rfl, by decide +kernel, by decide +kernel⟩ StX.cxUp (StX.bind_star1 (B := fun l => bindArgs (PySem.W.fnOf "settled_supposing" "Desk.settled_supposing" (defArgs (sDk 13)) (defBody (sDk 13)) (defScope (sDk 13)) .none kV doc pm an cdv ct) ⟨l, []⟩) (p1 := "self") (pv := "rules") (fun _ => rfl) fun _ _ _ => rfl) (fun A outer s H vs Q E hr ⟨a, n, now, past, qs, rr, hs, ht, q⟩ => ?_)
  have nd : nSS.Nodup := by decide +kernel
  refine ⟨_, pss_cons (ps_with (X := cxOf (L2.CX P w) P w K mg base nSS "Desk.settled_supposing" (defScope (sDk 13)) f cdv A outer s H E) (k := 8) (j := 2)
      (pe_methS (pe_var (i := 0) rfl (.inl rfl)) T.cl BM FS (hr.mono (by decide)) (passX (X := cxOf (L2.CX P w) P w K mg base nSS "Desk.settled_supposing" (defScope (sDk 13)) f cdv A outer s H E)) (pe_var (i := 1) rfl (.inl rfl))) he hfe hx hfx ((FE.raw be .nil).mono (by decide)) ((FX.raw bx .nil).mono (by decide)) hr nd rfl (.inl rfl) (.inl rfl)
      (dss_one (ds_set (ρ := [none, none, some (.o a CD (fsD n (joinR now qs) past)), none]) 3 (de_prop (d := .tuple ((settL n (joinR now qs)).map tpD)) (de_var 2) T.cl PO FG hr bs ⟨n, joinR now qs, past, hs.1, hs.2.1, hs.gd, rfl, rfl⟩) nd)))
    (pss_one (ps_ret (pe_var (i := 3) rfl (.inl rfl)))), ?_⟩
  cases rr with
  | cons rv0 rr1 =>
  cases rr1 with
  | cons rv1 rr2 =>
  cases rr2
  obtain ⟨ev, hi⟩ := rv0
  subst ev
  obtain ⟨t, xs, et, htup, hxs⟩ := ht
  cases et
  obtain ⟨dx0, vc0, vp0, ha0, _, _⟩ := id hi.two
  refine ⟨.ref a, rfl, a, dx0, fD vc0 vp0, rfl, ha0, rfl, fun q1 hq1 => ?_⟩
  have e1 : Ex H (upd H q1 (.met fs a)) := Ex.new hq1
  refine ⟨.ref t, rfl, t, xs, rfl, SqT.of (e1 _ _ htup), upd_same, [.ref a], xs, rfl, rfl, ?_, fun p2 hp2 => ?_⟩
  · have := hxs.len
    rw [this, len_rs]
    have := hs.2.2.2.2.2
    rw [sizeLine_eq]; omega
  have e2 : Ex (upd H q1 (.met fs a)) (upd (upd H q1 (.met fs a)) p2 (.tup xs)) := Ex.new hp2
  refine ⟨a, n, now, past, qs, .cons ⟨rfl, hi.keep (.of (e1.trans e2))⟩ (.cons (rv_tup.mpr ⟨p2, xs, rfl, SqT.of upd_same, hxs.keep (.of (e1.trans e2))⟩) .nil), hs, fun H1 b dxs dxd vr vc vp e3 hb0 hb ha rr rc rp => ?_⟩
  have e13 := (e1.trans e2).trans e3
  have nb : ∀ c o, H c = some o → c ≠ b := fun c o e z => by
    have := (e1.trans e2) c o e
    rw [z, hb0] at this
    cases this
  have nab : a ≠ b := nb _ _ ha0
  refine ⟨b, dxs, _, rfl, hb, a, b, dxd, dxs, vr, vc, vp, vc, vp, n, now, qs, rfl, nab, hb, ha, rc, rr, by have := hs.2.2.2.2.1; omega, by have := hs.2.2.2.2.2; omega, fun v H2 k2 hb2 ha2 rv2 => ?_⟩
  have kp2 : Kp H1 H2 := fun c o e si => k2 c o e (fun z => by rw [z, hb] at e; cases e; cases si) (fun z => by rw [z, ha] at e; cases e; cases si)
  have i2 : InsAt K H2 a CD (fsD n (joinR now qs) past) := InsAt.of2 ha2 rv2 (Rv.kpl kp2 rfl rp)
  refine ⟨rs_mk rfl ⟨rfl, i2⟩, fun σ3 H3 e4 r3 => ?_⟩
  refine ⟨a, b, dxd, dxs, vr, vc, vp, v, vp, rfl, nab, e4 _ _ hb2, e4 _ _ ha2, fun H4 k4 ha4 => ?_⟩
  have kp4 : Kp H3 H4 := fun c o e si => by
    have z : c ≠ a := fun z => by rw [z, e4 _ _ ha2] at e; cases e; cases si
    rw [k4 c z]; exact e
  have kp14 : Kp H1 H4 := (kp2.trans (Kp.of e4)).trans kp4
  obtain ⟨u, k3, r4⟩ := r3.2 3 _ rfl
  refine ⟨u, k3, q u H4 (fun c o e ne => ?_) (Rv.kpl kp4 rfl r4) (InsAt.of2 ha4 (Rv.kpl kp14 rfl rc) (Rv.kpl kp14 rfl rp))⟩
  rw [k4 c ne]
  exact e4 _ _ (k2 c o (e13 c o e) (nb c o e) ne)
end
end DSW
set_option Elab.async false
set_option linter.all false
set_option maxRecDepth 100000
set_option maxHeartbeats 2000000
/-! try with clauses that each return a text. -/
namespace DSW
open PySem PySem.Spec PyProof.Rows L2
/-- the clause at which an exception of the class stops, and its text -/
inductive Hl (X : Cx) : List ExceptHandler → Value → Str → Prop
  | hit {x r : Str} {c cls : Value} {j : Nat} {p1 p2 p3 p4 : Pos} {more : List ExceptHandler} (n : Names X x c) (m : PySem.W.exmOne X.K cls c = some true) : Hl X (.ExceptHandler (some (.Name x p1)) none [.Return (some (.Constant (.str r) j p2)) p3] p4 :: more) cls r
  | miss {x r : Str} {c cls : Value} {nm : Option Str} {st : List Stmt} {p1 p2 : Pos} {more : List ExceptHandler} (n : Names X x c) (m : PySem.W.exmOne X.K cls c = some false) (h : Hl X more cls r) : Hl X (.ExceptHandler (some (.Name x p1)) nm st p2 :: more) cls r
section
variable {X : Cx}
/-- an exception of ours on the ground, before the clauses -/
structure Grd (X : Cx) (pins : List (Addr × Obj)) (σ : L2.St) (H : Hp) (a : Addr) (B : Heap) (cls : Value) (d : Option Addr) (sI s : Shared) (h : Heap) : Prop where
  iv : Inv X pins σ H sI
  nb : ∀ b o, sI.heap.get? b = some o → b ∉ frs X.stack → B.get? b = some o
  na : H a = none
  os : s.os = sI.os
  ag : AllBare s.gens
  up : sI.heap.UpToSlots h
  fl : HandSPX.FlyingZ B (X.env :: X.outer) a (Zc cls d) h
theorem Grd.at_ {pins : List (Addr × Obj)} {σ : L2.St} {H : Hp} {a : Addr} {B : Heap} {cls : Value} {d : Option Addr} {sI s : Shared} {h : Heap} (g : Grd X pins σ H a B cls d sI s h) (hf : X.env.frame = some X.env.locals) :
    Inv X pins σ H { s with heap := h } ∧ ∃ oe vs, h.get? a = some oe ∧ Zc cls d oe ∧ oe.data = .fields vs ∧ Inv (X.suite a ((a, oe) :: (X.pn ++ pins))) [] σ H { s with heap := h } := by
  have J : Inv X pins σ H { s with heap := h } := g.iv.landed g.nb g.fl.1 g.up g.os g.ag
  obtain ⟨oe, vs, he, hz, hd⟩ := g.fl.there
  have out : ∀ b, b ∈ frs (X.env :: X.outer) → a ≠ b := fun b hb z => by
    obtain ⟨_, o', e', no⟩ := g.fl.2.2.1.mem hb
    rw [← z, he] at e'
    cases e'
    exact no _ hd
  refine ⟨J, oe, vs, he, hz, hd, J.suite he hd g.na (out _ (List.mem_filterMap.mpr ⟨X.env, List.mem_cons_self, hf⟩)) fun hm => ?_⟩
  obtain ⟨e, he', q⟩ := List.mem_filterMap.mp hm
  exact out a (List.mem_filterMap.mpr ⟨e, List.mem_cons_of_mem _ he', q⟩) rfl
theorem hl_go (hf : X.env.frame = some X.env.locals) {pins : List (Addr × Obj)} {σ : L2.St} {H : Hp} {a : Addr} {B : Heap} {d : Option Addr} {sI s : Shared} {D : Ends} {hds : List ExceptHandler} {cls : Value} {r : Str} (k : Hl X hds cls r) :
    ∀ {h : Heap}, Grd X pins σ H a B cls d sI s h → D.rt (.str r) H → wpAny (model X.prog X.w) X.A (handleBy (.ref a) X.env hds) (SP X pins D) X.xe { s with heap := h } := by
  have look : ∀ {x : Str} {c cls : Value} {p : Pos} {b : Bool} {h : Heap} {Q : Bool → Shared → Prop} {E : Value → Shared → Prop}, Grd X pins σ H a B cls d sI s h → Names X x c → PySem.W.exmOne X.K cls c = some b → Q b { s with heap := h } →
      wpAny (model X.prog X.w) (X.A.mark (some (.ref a))) (eval (.Name x p) X.env) (fun v s1 => wpAny (model X.prog X.w) (X.A.mark (some (.ref a))) (excMatches (.ref a) v) Q E s1) E { s with heap := h } := by
    intro x c cls p b h Q E g n m q
    obtain ⟨J, oe, vs, he, hz, _, S⟩ := g.at_ hf
    have ty : PySem.W.Looks (model X.prog X.w) h (typeOf (.ref a)) cls := fun _ _ _ _ k' q' => wpAny_typeOf_ref (k' _ _ he) (by rw [hz.1]; exact q')
    have fits := (PySem.W.exm_one (M := model X.prog X.w) J.kIn ty m).here (A := X.A.mark (some (.ref a))) (E := E) (s := { s with heap := h }) (Q := Q) q
    obtain ⟨g1, g2, z | ⟨z, hv, nn⟩⟩ := n
    · exact ld_glob (X := X.suite a ((a, oe) :: (X.pn ++ pins))) S g1 z fits g2
    · exact ld_blt (X := X.suite a ((a, oe) :: (X.pn ++ pins))) S g1 z hv fits nn g2
  induction k with
  | miss n m _ ih =>
    intro h g w
    exact wpAny_handleBy_cons (codeAny_handlers_test (look g n m (ih g w))) (by intro q; cases q)
  | hit n m =>
    intro h g w
    refine wpAny_handleBy_cons (codeAny_handlers_test (look g n m (codeAny_handlers_suite (HandSPX.lands_againZ g.fl fun h' fl' up' => ?_)))) (by intro q; cases q)
    obtain ⟨_, oe, vs, _, _, _, S⟩ := Grd.at_ (h := h') ⟨g.iv, g.nb, g.na, g.os, g.ag, g.up.trans up', fl'⟩ hf
    refine wpAny_mono ((pss_one (ps_ret pe_str)).run [] _ _ H D S w) (fun f s6 hsp => ?_) (fun _ _ z => z.elim)
    cases f with
    | ret u => obtain ⟨v, σ6, H6, S6, r6, q6⟩ := hsp; exact ⟨v, σ6, H6, S6.unsuite g.iv.ok, r6, q6⟩
    | next => obtain ⟨σ6, H6, S6, q6⟩ := hsp; exact ⟨σ6, H6, S6.unsuite g.iv.ok, q6⟩
    | brk => obtain ⟨σ6, H6, S6, q6⟩ := hsp; exact ⟨σ6, H6, S6.unsuite g.iv.ok, q6⟩
    | cont => obtain ⟨σ6, H6, S6, q6⟩ := hsp; exact ⟨σ6, H6, S6.unsuite g.iv.ok, q6⟩
/-- the wish: some clause takes it -/
def wHl (X : Cx) (hds : List ExceptHandler) (D : Ends) : WX := fun cls _ _ H => ∃ r, Hl X hds cls r ∧ D.rt (.str r) H
theorem ps_tryW {body : List Stmt} {h₀ : ExceptHandler} {hds : List ExceptHandler} {pos : Pos} {tb : WX → TS} (hs : X.stack = X.env :: X.outer) (hf : X.env.frame = some X.env.locals)
    (hb : ∀ (W : WX) (pn : List (Addr × Obj)) (xe : Value → Shared → Prop), Takes (X.tr pn xe) W → PSs (X.tr pn xe) body (tb W)) : PS X (.Try body (h₀ :: hds) [] [] pos) (fun D σ H => tb (wHl X (h₀ :: hds) D) D σ H) := by
  refine ⟨fun pins s σ H D I hw => wpAny_Try_except ?_⟩
  have fr : X.A.frames = some (X.env :: X.outer) := by rw [I.ok.frames, hs]
  have caught : Takes (X.tr (X.pn ++ pins) fun e s1 => wpAny (model X.prog X.w) X.A (noteFrame e X.env) (fun _ s2 => wpAny (model X.prog X.w) X.A (setFlight e none) (fun _ s3 => wpAny (model X.prog X.w) X.A (handleBy e X.env (h₀ :: hds)) (SP X pins D) X.xe s3) X.xe s2) X.xe s1) (wHl X (h₀ :: hds) D) := by
    rintro u s' ⟨a, B, sI, pins', σ', H', cls, d, rfl, J, nb, up, sky, na, os, ag, r, k, w⟩
    rw [show (X.tr (X.pn ++ pins) _).stack = X.env :: X.outer from hs] at sky
    exact Sky.land Zc.steady fr hf sky fun h3 fl3 up3 => hl_go hf k (s := s') ⟨J.ofTry I.ok, nb, na, os, ag, up.trans up3, fl3⟩ w
  refine wpAny_mono ((hb _ _ _ caught).run [] s σ H D (I.toTry _) hw) (fun f s1 q => ?_) fun _ _ q => q
  cases f with
  | next => obtain ⟨σ', H', J, q⟩ := q; exact wpAny_execs_nil ⟨σ', H', J.ofTry I.ok, q⟩
  | brk => obtain ⟨σ', H', J, q⟩ := q; exact ⟨σ', H', J.ofTry I.ok, q⟩
  | cont => obtain ⟨σ', H', J, q⟩ := q; exact ⟨σ', H', J.ofTry I.ok, q⟩
  | ret u => obtain ⟨v, σ', H', J, r, q⟩ := q; exact ⟨v, σ', H', J.ofTry I.ok, r, q⟩
end
end DSW
set_option Elab.async false
set_option linter.all false
set_option maxRecDepth 100000
set_option maxHeartbeats 2000000
/-! _law_is_same, of equal data. -/
namespace DSW
open PySem PySem.Spec PyProof.Rows L2 Evl
theorem kt_tup_str : kitB "tuple" "str" = some false := by decide +kernel
theorem kt_str_tup : kitB "str" "tuple" = some false := by decide +kernel
theorem kt_str_str : kitB "str" "str" = some true := by decide +kernel
theorem kt_int_tup : kitB "int" "tuple" = some false := by decide +kernel
theorem kt_int_str : kitB "int" "str" = some false := by decide +kernel
theorem kt_non_tup : kitB "NoneType" "tuple" = some false := by decide +kernel
/-- data that the law compares: tuples within tuples, k deep -/
def Smp : Nat → PyData → Prop
  | 0, _ => False
  | k + 1, d => d = .none ∨ (∃ i, d = .int i) ∨ (∃ s, d = .str s ∧ SeqAt.shaped (.str s) = true) ∨ ∃ es, d = .tuple es ∧ es.length ≤ 100000 ∧ ∀ e ∈ es, Smp k e
theorem atI_nat {α : Type} {xs : List α} {k : Nat} {x : α} (h : xs[k]? = some x) : atI xs (k : Int) = some x := by
  have hk : k < xs.length := (List.getElem?_eq_some_iff.mp h).1
  unfold atI
  have e : ixN xs.length (k : Int) = some k := by
    unfold ixN
    simp
    omega
  rw [e]
  exact h
theorem eqv_str (s : Str) : PyData.eqv (.str s) (.str s) = true := by
  unfold PyData.eqv
  simp
section
variable {P : Program} {w : World} {K : PySem.W.Frag} {mg : Str → Option Value} {base : Heap} {f : Addr} {fd : FuncData}
abbrev FSame (k : Nat) (ds : List Dv) (d : Dv) : Prop := ∃ x, Smp k x ∧ ds = [.d x, .d x] ∧ d = .d (.bool true)
abbrev nSame : List Str := ["_law_actual", "_law_expected", "_law_k"]
theorem pf_same (D : Df K mg "_law_is_same" (topS 41) f fd) (G : Gm mg) : ∀ k : Nat, Pf P w K mg base "_law_is_same" (k + 1) (FSame (k + 1)) := by
  have step : ∀ k : Nat, (∀ j, k = j + 1 → Pf P w K mg base "_law_is_same" (j + 1) (FSame (j + 1))) → Pf P w K mg base "_law_is_same" (k + 1) (FSame (k + 1)) := by
    intro k ih
    refine pf_mk (N := nSame) (ps := ["_law_actual", "_law_expected"]) D.fn ⟨rfl, rfl, rfl, by decide +kernel, rfl, by decide +kernel, by decide +kernel⟩ D.mg (D.fn.binds fun _ _ _ _ _ _ us hl => match us, hl with | [_, _], _ => rfl) (by rintro _ _ ⟨x, _, rfl, rfl⟩; rfl) ?_
    rintro _ _ ⟨x, hx, rfl, rfl⟩ cdv A outer s H E hr
    have nd : nSame.Nodup := by decide +kernel
    rcases hx with rfl | ⟨i, rfl⟩ | ⟨t, rfl, ht⟩ | ⟨es, rfl, hz, hes⟩
    · refine dss_if (k := false) (dt_val (de_isi (x := .none) (k := false) rfl G.isi (de_var 1) rfl G.tup boot_tuple' kt_non_tup)) (fun z => by cases z) fun _ => dss_if (k := true) (dt_isN (x := .none) (de_var 1)) (fun _ => ⟨dss_ret (de_isN (x := .none) (de_var 0)), _, rfl⟩) (fun z => by cases z)
    · refine dss_if (k := false) (dt_val (de_isi (x := .int i) (k := false) rfl G.isi (de_var 1) rfl G.tup boot_tuple' kt_int_tup)) (fun z => by cases z) fun _ => dss_if (k := false) (dt_isN (x := .int i) (de_var 1)) (fun z => by cases z) fun _ =>
        dss_if (k := false) (dt_val (de_isi (x := .int i) (k := false) rfl G.isi (de_var 1) rfl G.str boot_str' kt_int_str)) (fun z => by cases z) fun _ => dss_if (k := false) (dt_w (dw_or (k := false) (l := false) (dt_not (k := true) (dt_val (de_isi (x := .int i) (k := true) rfl G.isi (de_var 0) rfl G.int boot_int' kt_int_int))) fun _ =>
          dw_or1 (dt_is (dt_ne (x := .bool false) (y := .bool false) (hu64 hr) (de_isi (x := .int i) (k := false) rfl G.isi (de_var 0) rfl G.bool boot_bool' kt_int_bool) (de_isi (x := .int i) (k := false) rfl G.isi (de_var 1) rfl G.bool boot_bool' kt_int_bool) rfl rfl) rfl))) (fun z => by cases z) fun _ =>
          dss_ret (de_is (de_eq (x := .int i) (y := .int i) (hu64 hr) (de_var 0) (de_var 1) rfl rfl) (by rw [eqv_int, decide_eq_true rfl]))
    · refine dss_if (k := false) (dt_val (de_isi (x := .str t) (k := false) rfl G.isi (de_var 1) rfl G.tup boot_tuple' kt_str_tup)) (fun z => by cases z) fun _ => dss_if (k := false) (dt_isN (x := .str t) (de_var 1)) (fun z => by cases z) fun _ =>
        dss_if (k := true) (dt_val (de_isi (x := .str t) (k := true) rfl G.isi (de_var 1) rfl G.str boot_str' kt_str_str)) (fun _ => ⟨dss_ret (de_and (k := true) (l := true) (de_isi (x := .str t) (k := true) rfl G.isi (de_var 0) rfl G.str boot_str' kt_str_str) fun _ => de_one (de_is (de_eq (x := .str t) (y := .str t) (hu64 hr) (de_var 0) (de_var 1) ht ht) (by rw [eqv_str]))), _, rfl⟩) (fun z => by cases z)
    · refine dss_if (k := true) (dt_val (de_isi (x := .tuple es) (k := true) rfl G.isi (de_var 1) rfl G.tup boot_tuple' kt_tup_tup)) (fun _ => ⟨?_, _, rfl⟩) (fun z => by cases z)
      have q1 : (intsD es.length).all (fun _ => true) = true := by simp
      refine dss_if (k := false) (dt_w (dw_or (k := false) (l := false) (dt_not (k := true) (dt_val (de_isi (x := .tuple es) (k := true) rfl G.isi (de_var 0) rfl G.tup boot_tuple' kt_tup_tup))) fun _ =>
          dw_or1 (dt_is (dt_ne (x := .int (es.length : Int)) (y := .int (es.length : Int)) (hu64 hr) (de_lenT (ds := es) rfl G.len (de_var 0)) (de_lenT (ds := es) rfl G.len (de_var 1)) rfl rfl) (by rw [eqv_int, decide_eq_true rfl]; rfl)))) (fun z => by cases z) fun _ => ?_
      refine dss_ret (de_is (de_allM (ds := intsD es.length) (q := fun _ => true) rfl rfl G.all (de_lcR (n := es.length) (f := fun _ => true) (g := fun _ => .bool true) (j := 2) rfl nd rfl rfl G.rng (de_lenT (ds := es) rfl G.len (de_var 1)) (blkOk_by (N := nSame) (sc := defScope (topS 41)) (by decide +kernel)) (fun s H C cl fp => ⟨.inl rfl, .inr rfl⟩) blkT_nil (fun d hd _ s H C cl fp => ?_) (fun _ _ _ => rfl) hz)) (by rw [q1]))
      obtain ⟨j, hj, rfl⟩ := List.mem_map.mp hd
      have hj' : j < es.length := List.mem_range.mp hj
      have ge : es[j]? = some es[j] := List.getElem?_eq_getElem hj'
      have hs := hes _ (List.getElem_mem hj')
      cases k with
      | zero => exact hs.elim
      | succ k => exact de_call (ih k rfl) hr rfl (da_cons (de_ixT (x := es[j]) (de_var 0) (de_var 2) (atI_nat ge)) (da_cons (de_ixT (x := es[j]) (de_var 1) (de_var 2) (atI_nat ge)) da_nil)) ⟨es[j], hs, rfl, rfl⟩
  intro k
  induction k with
  | zero => exact step 0 fun j h => by cases h
  | succ k ih => exact step (k + 1) fun j h => by cases h; exact ih
end
end DSW
set_option Elab.async false
set_option linter.all false
set_option maxRecDepth 100000
set_option maxHeartbeats 2000000
/-! _law_word; a method told in a lambda. -/
namespace DSW
open PySem PySem.Spec PyProof.Rows L2 Evl
/-- the classes that _law_word names, and at which of them RuleError (CR) and NothingError (CN) stop -/
structure WordF (K : PySem.W.Frag) (mg : Str → Option Value) (CR CN : Addr) (c1 c2 c3 c5 c6 c7 c8 c9 : Value) : Prop where
  m1 : mg "LimitError" = some c1
  m2 : mg "AtomsError" = some c2
  m3 : mg "BookError" = some c3
  m4 : mg "RuleError" = some (.ref CR)
  m5 : mg "SetError" = some c5
  m6 : mg "MatchError" = some c6
  m7 : mg "TextError" = some c7
  m8 : mg "AtomError" = some c8
  m9 : mg "NumberError" = some c9
  mN : mg "NothingError" = some (.ref CN)
  r1 : PySem.W.exmOne K (.ref CR) c1 = some false
  r2 : PySem.W.exmOne K (.ref CR) c2 = some false
  r3 : PySem.W.exmOne K (.ref CR) c3 = some false
  r4 : PySem.W.exmOne K (.ref CR) (.ref CR) = some true
  n1 : PySem.W.exmOne K (.ref CN) c1 = some false
  n2 : PySem.W.exmOne K (.ref CN) c2 = some false
  n3 : PySem.W.exmOne K (.ref CN) c3 = some false
  n4 : PySem.W.exmOne K (.ref CN) (.ref CR) = some false
  n5 : PySem.W.exmOne K (.ref CN) c5 = some false
  n6 : PySem.W.exmOne K (.ref CN) c6 = some false
  n7 : PySem.W.exmOne K (.ref CN) c7 = some false
  n8 : PySem.W.exmOne K (.ref CN) c8 = some false
  n9 : PySem.W.exmOne K (.ref CN) c9 = some false
  nN : PySem.W.exmOne K (.ref CN) (.ref CN) = some true
abbrev wBody : List Stmt := defBody (topS 49)
def EcW (CR CN : Addr) (Q : VK) : XK := fun cls _ H => (cls = .ref CR ∧ Q (.str "rule") H) ∨ (cls = .ref CN ∧ Q (.str "nothing") H)
/-- what _law_word makes of what it calls -/
def TTw (CR CN : Addr) : (XK → Hp → VK → Prop) → Hp → VK → Prop := fun tl H Q => tl (EcW CR CN Q) H fun _ H' => Q (.str "") H'
theorem word_gives {X : Cx} {g CR CN : Addr} {cdg : Value} {q : Str} {c1 c2 c3 c5 c6 c7 c8 c9 : Value} (W : WordF X.K X.mg CR CN c1 c2 c3 c5 c6 c7 c8 c9) : LamX.GivesTo X ["_law_call_here"] "_law_word" (defScope (topS 49)) g cdg wBody "_law_call_here" q (TTw CR CN) := by
  intro f c' s H Q tl act hc h
  refine ⟨_, pss_cons (ps_tryW (X := (cxOf C8.CX0 X.prog X.w X.K X.mg X.base ["_law_call_here"] "_law_word" (defScope (topS 49)) g cdg X.A X.stack s H C8.E0).nox)
      (tb := fun W D σ H => ∃ Ech : XK, (∀ cls d σ' H', Ech cls d H' → W cls d σ' H') ∧ σ[0]? = some (some (.ref f)) ∧ H c' = some (LamX.CodeO c' q) ∧ tl Ech H fun _ H' => D.nx σ H') rfl rfl (fun W pn xe tk => ⟨fun pins s' σ H' D I ⟨Ech, hW, h1, h2, h3⟩ => ?_⟩)) (pss_one (ps_ret pe_str)), ?_⟩
  · exact (pss_one (ps_expr (act W pn xe Ech _ _ tk hW) rfl)).run pins s' σ H' D I ⟨h1, h2, h3⟩
  · refine ⟨EcW CR CN Q, fun cls d σ' H' hE => ?_, rfl, hc, h⟩
    rcases hE with ⟨rfl, q⟩ | ⟨rfl, q⟩
    · exact ⟨"rule", .miss ⟨rfl, by decide, .inl W.m1⟩ W.r1 (.miss ⟨rfl, by decide, .inl W.m2⟩ W.r2 (.miss ⟨rfl, by decide, .inl W.m3⟩ W.r3 (.hit ⟨rfl, by decide, .inl W.m4⟩ W.r4))), q⟩
    · exact ⟨"nothing", .miss ⟨rfl, by decide, .inl W.m1⟩ W.n1 (.miss ⟨rfl, by decide, .inl W.m2⟩ W.n2 (.miss ⟨rfl, by decide, .inl W.m3⟩ W.n3 (.miss ⟨rfl, by decide, .inl W.m4⟩ W.n4 (.miss ⟨rfl, by decide, .inl W.m5⟩ W.n5 (.miss ⟨rfl, by decide, .inl W.m6⟩ W.n6
        (.miss ⟨rfl, by decide, .inl W.m7⟩ W.n7 (.miss ⟨rfl, by decide, .inl W.m8⟩ W.n8 (.miss ⟨rfl, by decide, .inl W.m9⟩ W.n9 (.hit ⟨rfl, by decide, .inl W.mN⟩ W.nN))))))))), q⟩
/-! ### a desk's method, its outcome -/
/-- the desk at a changes as o says, or it raises -/
def tO (K : PySem.W.Frag) (a C : Addr) (ρ : En) (E : XK) (o : Om) : TE := fun σ H Q => Rs K H σ ρ ∧ match o with
  | .rt d fs' => ∀ v H', Xb a H H' → Rv K H' v d → InsAt K H' a C fs' → Q v H'
  | .er c => ∀ H', Ex H H' → E c none H'
section
variable {X : Cx} {ρ : En} {e eo : Expr} {es : List Expr} {a C : Addr} {fs : List (Str × PyData)} {m : Str} {ds : List Dv} {o : Om} {pos apos : Pos} {k : Nat} {F : List (Str × PyData) → List Dv → Om → Prop} {E : XK} {pl : Sem Bool}
theorem le_meth (hx : Passes (L2.CX X.prog X.w) X E) (h : MfO X.prog X.w X.K X.mg X.base C m k F) (hr : Room k X.A) (c : Cls X.K C) (ho : DE X eo ρ (.o a C fs)) (ha : DA X (e :: es) ρ ds) (hF : F fs ds o) (hm : fs.lookup m = none)
    (hst : starEach (e :: es) X.env = (false, eval e X.env) :: starEach es X.env := by rfl) (hpl : (backTo pos (starEach es X.env)).any (·.1) = false := by rfl)
    (ht : eval (.Call (.Attribute eo m apos) (e :: es) [] pos) X.env = (do
      let ov ← eval eo X.env
      standAt apos.atName
      let (f, first) ← holding [ov] (getMethod ov m pl)
      callWith pos f first (backTo pos (starEach (e :: es) X.env)) (backToKw pos (keywordEach [] X.env))) := by rfl) :
    PE X (.Call (.Attribute eo m apos) (e :: es) [] pos) (tO X.K a C ρ E o) := by
  obtain ⟨f, fd, ps, h1, h2, h3⟩ := h
  refine (pe_meth (pl := pl) ho c h1 h2 hr h3 .nil hx ha hst hpl ht).imp fun σ H Q ⟨hs, q⟩ => ⟨hs, fun x H1 e1 rx => ?_⟩
  obtain ⟨ex, dx, vs, i1, i2⟩ := id rx
  refine ⟨a, dx, _, ex, i1, zip_none i2 hm, hs.ex e1, fun us H2 e2 r2 => ?_⟩
  show spO X.K C F (x :: (us ++ [])) H2 _ _
  rw [List.append_nil, ex]
  rw [ex] at rx
  exact ⟨a, fs, ds, o, .cons (rx.ex e2) r2, hF, by
    cases o with
    | rt d fs' => exact fun v H' x => q v H' ((Xb.of (e1.trans e2)).trans x)
    | er c => exact fun H' x => q H' ((e1.trans e2).trans x)⟩
theorem le_meth0 (hx : Passes (L2.CX X.prog X.w) X E) (h : MfO X.prog X.w X.K X.mg X.base C m k F) (hr : Room k X.A) (c : Cls X.K C) (ho : DE X eo ρ (.o a C fs)) (hF : F fs [] o) (hm : fs.lookup m = none)
    (ht : eval (.Call (.Attribute eo m apos) [] [] pos) X.env = (do
      let ov ← eval eo X.env
      standAt apos.atName
      let (f, first) ← holding [ov] (getMethod ov m pl)
      callWith pos f first (backTo pos (starEach [] X.env)) (backToKw pos (keywordEach [] X.env))) := by rfl) :
    PE X (.Call (.Attribute eo m apos) [] [] pos) (tO X.K a C ρ E o) := by
  obtain ⟨f, fd, ps, h1, h2, h3⟩ := h
  refine (pe_meth0 (pl := pl) ho c h1 h2 hr h3 .nil hx ht).imp fun σ H Q ⟨hs, q⟩ => ⟨hs, fun x H1 e1 rx => ?_⟩
  obtain ⟨ex, dx, vs, i1, i2⟩ := id rx
  refine ⟨a, dx, _, ex, i1, zip_none i2 hm, ?_⟩
  show spO X.K C F (x :: ([] ++ [])) H1 _ _
  rw [ex]
  rw [ex] at rx
  exact ⟨a, fs, [], o, .cons rx .nil, hF, by
    cases o with
    | rt d fs' => exact fun v H' x => q v H' ((Xb.of (e1)).trans x)
    | er c => exact fun H' x => q H' ((e1).trans x)⟩
/-- settled_supposing(r, s) -/
theorem le_ss {f : Addr} {e2 : Expr} {n : Nat} {now : List Rl} {past : List (List Rl)} {r1 r2 : Rl} (hx : Passes (L2.CX X.prog X.w) X E) (hm : Meth X.K C "settled_supposing" f) (FS : FnR X.prog X.w X.K X.mg X.base (L2.CX X.prog X.w) k f (spStar 1 (spSS X.K C))) (hr : Room k X.A) (c : Cls X.K C) (ho : DE X eo ρ (.o a C (fsD n now past)))
    (ha : DA X [e, e2] ρ [.d (rlD r1), .d (rlD r2)]) (hS : Sit n now [r1, r2])
    (hst : starEach [e, e2] X.env = (false, eval e X.env) :: starEach [e2] X.env := by rfl) (hpl : (backTo pos (starEach [e2] X.env)).any (·.1) = false := by rfl)
    (ht : eval (.Call (.Attribute eo "settled_supposing" apos) [e, e2] [] pos) X.env = (do
      let ov ← eval eo X.env
      standAt apos.atName
      let (f, first) ← holding [ov] (getMethod ov "settled_supposing" pl)
      callWith pos f first (backTo pos (starEach [e, e2] X.env)) (backToKw pos (keywordEach [] X.env))) := by rfl) :
    PE X (.Call (.Attribute eo "settled_supposing" apos) [e, e2] [] pos) (tO X.K a C ρ E (.rt (.d (.tuple ((settL n (joinR now [r1, r2])).map tpD))) (fsD n now past))) := by
  refine (pe_methR (pl := pl) ho c hm FS hr hx ha hst hpl ht).imp fun σ H Q ⟨hs, q⟩ => ⟨hs, fun x H1 e1 rx => ?_⟩
  obtain ⟨ex, dx, vs, i1, i2⟩ := id rx
  refine ⟨a, dx, _, ex, i1, zip_none i2 rfl, hs.ex e1, fun us H2 e2 r2 => ?_⟩
  refine ⟨[x], us, rfl, rfl, by rw [r2.len]; rw [sizeLine_eq]; exact of_decide_eq_true rfl, fun p hp => ?_⟩
  have e3 : Ex H2 (upd H2 p (.tup us)) := Ex.new hp
  have hA : DqA X.K (upd H2 p (.tup us)) (rsD [r1, _]) us := (r2.ex e3).data (ds := rsD [r1, _])
  rw [ex] at rx ⊢
  exact ⟨a, n, now, past, _, .cons ((rx.ex e2).ex e3) (.cons (rv_tup.mpr ⟨p, us, rfl, SqT.of upd_same, hA⟩) .nil), hS, ⟨p, us, rfl, upd_same, hA⟩, fun v H' xb => q v H' ((Xb.of ((e1.trans e2).trans e3)).trans xb)⟩
end
end DSW
set_option Elab.async false
set_option linter.all false
set_option maxRecDepth 100000
set_option maxHeartbeats 400000
/-! A method of the desk told by _law_word's lambda. -/
namespace DSW
open PySem PySem.Spec PyProof.Rows L2 Evl
def isTE : HO → Bool
  | .tbl _ => true
  | .ext _ => true
  | _ => false
theorem tabs_keep {T : List (Addr × Str)} {H H' : Hp} (k : ∀ b o, H b = some o → isTE o = true → H' b = some o) (h : LamX.Tabs T H) : LamX.Tabs T H' := fun p hp => by
  obtain ⟨ps, h1, h2, h3⟩ := h p hp
  refine ⟨ps, k _ _ h1 rfl, h2, fun pos cv hc => ?_⟩
  obtain ⟨c, e1, e2⟩ := h3 pos cv hc
  exact ⟨c, e1, k _ _ e2 rfl⟩
/-- all but the object at a and the tables stays -/
def XT (a : Addr) (H H' : Hp) : Prop := ∀ b o, H b = some o → b ≠ a → (∀ ps, o ≠ .tbl ps) → H' b = some o
theorem XT.of {a : Addr} {H H' : Hp} (e : LamX.ExtN H H') : XT a H H' := fun b o h _ n => e b o h n
theorem XT.ofX {a : Addr} {H H' : Hp} (e : Xb a H H') : XT a H H' := fun b o h n _ => e b o h n
theorem XT.trans {a : Addr} {H H1 H2 : Hp} (x : XT a H H1) (y : XT a H1 H2) : XT a H H2 := fun b o h n t => y b o (x b o h n t) n t
theorem XT.kpT {a C dx : Addr} {gs : List (Str × V)} {H H' : Hp} (x : XT a H H') (h : H a = some (.ins C dx gs)) : KpT H H' := fun b o e t => x b o e (fun z => by rw [z, h] at e; cases e; cases t) fun ps z => by rw [z] at t; cases t
theorem kpi_n {H H' : Hp} (e : LamX.ExtN H H') : Kpi H H' := fun b o h s => e b o h fun ps z => by rw [z] at s; cases s
/-- the word for what is raised -/
def erW (CR CN : Addr) (c : Value) (w : Str) : Prop := (c = .ref CR ∧ w = "rule") ∨ (c = .ref CN ∧ w = "nothing")
def tWay (K : PySem.W.Frag) (T : List (Addr × Str)) (a CD : Addr) (ρ : En) (CR CN : Addr) (o : Om) : TE := fun σ H Q => LamX.Tabs T H ∧ Rs K H σ ρ ∧ ∃ D, σ[6]? = some (some (.ref D)) ∧ H D = some (.lst []) ∧ D ≠ a ∧ (∃ dx gs, H a = some (.ins CD dx gs)) ∧ match o with
  | .rt d fs' => ∀ v H', XT a H H' → LamX.Tabs T H' → Rv K H' v d → InsAt K H' a CD fs' → Q (.str "") (upd H' D (.lst [v]))
  | .er c => ∃ w, erW CR CN c w ∧ ∀ H', LamX.ExtN H H' → LamX.Tabs T H' → Q (.str w) H'
/-- the lambda's body -/
def tLb (K : PySem.W.Frag) (a CD : Addr) (ρ : En) (o : Om) (E : XK) : TE := fun σ H Q => Rs K H σ ρ ∧ ∃ D, σ[6]? = some (some (.ref D)) ∧ H D = some (.lst []) ∧ D ≠ a ∧ match o with
  | .rt d fs' => ∀ v H', Xb a H H' → Rv K H' v d → InsAt K H' a CD fs' → Q .non (upd H' D (.lst [v]))
  | .er c => ∀ H', Ex H H' → E c none H'
theorem lb_pe {X : Cx} {E : XK} {e : Expr} {a CD : Addr} {ρ : En} {o : Om} {q1 q2 q3 : Pos} (h : PE X e (tO X.K a CD ρ E o)) (hj : X.N[6]? = some ("_law_told" : Str)) (hv : Vis X.env.scope "_law_told")
    (hbase : attributeBase (.Name "_law_told" q1) "append" X.env (eval (.Name "_law_told" q1) X.env) = eval (.Name "_law_told" q1) X.env := by rfl)
    (hfew : ((backTo q3 (starEach (e :: []) X.env)).all (fun x => !x.1) && (backToKw q3 (keywordEach [] X.env)).all (fun x => x.1.isSome)
      && decide ((e :: []).length + ([] : List Keyword).length + (if ([] : List Keyword).isEmpty then 0 else 1) < 30)) = true)
    (hline : (q2.endLine == q3.line) = true) (hs : starEach (e :: []) X.env = (false, eval e X.env) :: starEach [] X.env) (hplain : (backTo q3 (starEach [] X.env)).any (·.1) = false := by rfl) :
    PE X (.Call (.Attribute (.Name "_law_told" q1) "append" q2) [e] [] q3) (tLb X.K a CD ρ o E) :=
  (pe_bm PySem.F.plainAttrs_list PySem.F.slot_list_append PySem.F.type_list_append mt_append (pe_var hj hv) (pa_cons h pa_nil hs) hbase hfew hline hs hplain).imp fun σ H Q ⟨hs, D, h6, hD, ne, q⟩ => by
    refine ⟨.ref D, h6, .inl ⟨rfl, _, SqL.of hD⟩, hs, ?_⟩
    cases o with
    | rt d fs' => exact fun v H' x r i => ⟨D, [], v, rfl, rfl, x _ _ hD ne, by rw [sizeLine_eq]; exact of_decide_eq_true rfl, q v H' x r i⟩
    | er c => exact q
abbrev nCall : List Str := ["_law_desk", "_law_way", "_law_atoms", "_law_rule_here", "_law_rules_here", "_law_word_here", "_law_told"]
abbrev cX (P : Program) (w : World) (K : PySem.W.Frag) (mg : Str → Option Value) (base : Heap) (f c : Addr) (A : Around) (outer : List Env) (s : Shared) (H : Hp) (E : XK) : Cx := (cxOf CX0 P w K mg base nCall "_law_call" (defScope (topS 50)) f (.ref c) A outer s H E).nox
abbrev qCall : Str := (("_law_call" : Str) ++ ".<locals>.") ++ "<lambda>"
section
variable {P : Program} {w : World} {K : PySem.W.Frag} {mg : Str → Option Value} {base : Heap} {f c Pt : Addr} {A : Around} {outer : List Env} {s : Shared} {H : Hp} {E : XK}
abbrev noArgs : Arguments := { posonlyargs := [], args := [], vararg := none, kwonlyargs := [], kw_defaults := [], kwarg := none, defaults := [] }
theorem way_pe {g CR CN a CD : Addr} {fdw : FuncData} {c1 c2 c3 c5 c6 c7 c8 c9 : Value} {e : Expr} {scope : Scope} {ρ : En} {o : Om} {p q1 q2 q3 lpos pos : Pos} (W : WordF K mg CR CN c1 c2 c3 c5 c6 c7 c8 c9) (Fw : Fun K "_law_word" "_law_word" (topS 49) g fdw) (hmw : mg "_law_word" = some (.ref g)) (TB : LamX.TabB base mg c Pt)
    (hr : Room 11 (cX P w K mg base f c A outer s H E).A) (L : LamX.LamS (defScope (topS 50)) scope) (hv : Vis scope "_law_told")
    (hb : ∀ (A' : Around) (outer' : List Env) (s' : Shared) (H' : Hp) (E' : XK) (f' c' : Addr), Room 9 (A'.deeper (LamX.lamEnv (cX P w K mg base f c A outer s H E) scope s'.heap.objs.size f' c')) → PE (LamX.lamCx (cX P w K mg base f c A outer s H E) A' outer' s' H' E' scope f' c') e (tO K a CD ρ E' o))
    (hl : (q2.endLine == q3.line) = true) (hs1 : ∀ env : Env, starEach [e] env = (false, eval e env) :: starEach [] env)
    (hf : ∀ env : Env, ((backTo q3 (starEach (e :: []) env)).all (fun x => !x.1) && (backToKw q3 (keywordEach [] env)).all (fun x => x.1.isSome) && decide ((e :: []).length + ([] : List Keyword).length + (if ([] : List Keyword).isEmpty then 0 else 1) < 30)) = true) :
    PE (cX P w K mg base f c A outer s H E) (.Call (.Name "_law_word" p) [.Lambda noArgs (.Call (.Attribute (.Name "_law_told" q1) "append" q2) [e] [] q3) scope lpos] [] pos) (tWay K [(Pt, qCall)] a CD ρ CR CN o) := by
  obtain ⟨oc, od, kV, doc, pm, an, cdv, ct, osl, e1, lk, hcd⟩ := Fw.ex
  have hbd := Fw.binds (ps := ["_law_call_here"]) fun _ _ _ _ _ _ us hl => match us, hl with | [_], _ => rfl
  rw [e1] at lk hbd
  have hq : (cX P w K mg base f c A outer s H E).env.qual = ("_law_call" : Str) ++ ".<locals>." := rfl
  have key : PE (cX P w K mg base f c A outer s H E) (.Call (.Name "_law_word" p) [.Lambda noArgs (.Call (.Attribute (.Name "_law_told" q1) "append" q2) [e] [] q3) scope lpos] [] pos) (LamX.tLam [(Pt, qCall)] (TTw CR CN) (tLb K a CD ρ o)) := by
    refine LamX.pe_lamcall (X := cX P w K mg base f c A outer s H E) (T := [(Pt, qCall)]) (TT := TTw CR CN) (k := 9) (x := "_law_word") (g := g) (c := c) (P := Pt) (t := tLb K a CD ρ o) (Ng := ["_law_call_here"]) (a := "_law_call_here") ?h1 hmw Fw.kp lk hcd hbd ?h2 ?h3 ?h4 ?h5 TB ?h6 ?h7 ?h8 hr L ?h9 ?h10 ?h11
    case h1 => exact rfl
    case h2 => exact ⟨rfl, rfl, rfl, by decide +kernel, rfl, by decide +kernel, by decide +kernel⟩
    case h3 => exact rfl
    case h4 => exact .inl rfl
    case h5 => exact word_gives (X := cX P w K mg base f c A outer s H E) W
    case h6 => exact rfl
    case h7 => rw [hq]; exact List.Mem.head _
    case h8 => intro p hp _; rw [hq, List.mem_singleton.mp hp]
    case h9 => exact rfl
    case h10 => exact fun _ _ _ _ _ => rfl
    case h11 => exact fun A' outer' s' H' E' f' c' hr' => lb_pe (hb A' outer' s' H' E' f' c' hr') rfl hv (hbase := by rfl) (hf _) hl (hs1 _)
  refine key.imp fun σ H Q ⟨hT, hs, D, h6, hD, ne, ⟨dx, gs, ha⟩, q⟩ => ⟨hT, fun H1 eN T1 => ?_⟩
  refine ⟨hs.keep (kpi_n eN), D, h6, eN _ _ hD (fun ps z => by cases z), ne, ?_⟩
  have ha1 : H1 a = some (.ins CD dx gs) := eN _ _ ha (fun ps z => by cases z)
  cases o with
  | rt d fs' => exact fun v H' x r i => q v H' ((XT.of eN).trans (.ofX x)) (tabs_keep (fun b o e t => x b o e fun z => by rw [z, ha1] at e; cases e; cases t) T1) r i
  | er cc =>
    obtain ⟨w', hw, q⟩ := q
    intro H' x
    have z := q H' (eN.trans (.of x)) (T1.ext x)
    rcases hw with ⟨r1, r2⟩ | ⟨r1, r2⟩
    · exact .inl ⟨r1, by rw [← r2]; exact z⟩
    · exact .inr ⟨r1, by rw [← r2]; exact z⟩
end
end DSW
set_option Elab.async false
set_option linter.all false
set_option maxRecDepth 100000
set_option maxHeartbeats 400000
/-! _law_call. -/
namespace DSW
open PySem PySem.Spec PyProof.Rows L2 Evl
theorem ins_keepT {K : PySem.W.Frag} {H H' : Hp} {a C : Addr} {fs : List (Str × PyData)} (k : KpT H H') (e : H' a = H a) (n : noLA (fs.map (·.2)) = true) (h : InsAt K H a C fs) : InsAt K H' a C fs := by
  obtain ⟨dx, vs, h1, h2⟩ := h
  exact ⟨dx, vs, by rw [e]; exact h1, DqA.keepT k _ _ n h2⟩
theorem rs_call {K : PySem.W.Frag} {H H2 : Hp} {σ : L2.St} {a CD : Addr} {fs fs' : List (Str × PyData)} {d1 d2 d3 d4 : PyData} {d6 dw d6' : Dv} {vw v6 : V} (h : Rs K H σ [some (.o a CD fs), some (.d d1), some (.d d2), some (.d d3), some (.d d4), none, some d6])
    (n1 : noL d1 = true) (n2 : noL d2 = true) (n3 : noL d3 = true) (n4 : noL d4 = true) (k : KpT H H2) (i : InsAt K H2 a CD fs') (hw : Rv K H2 vw dw) (h6 : σ[6]? = some (some v6)) (r6 : Rv K H2 v6 d6') :
    Rs K H2 (σ.set 5 (some vw)) [some (.o a CD fs'), some (.d d1), some (.d d2), some (.d d3), some (.d d4), some dw, some d6'] := by
  have hl : σ.length = 7 := h.1
  have old : ∀ (j : Nat) (d : PyData), j ≠ 5 → [some (Dv.o a CD fs), some (.d d1), some (.d d2), some (.d d3), some (.d d4), none, some d6][j]? = some (some (.d d)) → noL d = true → ∃ v, (σ.set 5 (some vw))[j]? = some (some v) ∧ Rv K H2 v (.d d) := fun j d ne e nd => by
    obtain ⟨v, e1, r⟩ := h.2 j _ e
    exact ⟨v, by rw [List.getElem?_set_ne (Ne.symm ne)]; exact e1, Dq.keepT k d v nd r⟩
  refine ⟨by rw [List.length_set, hl]; rfl, fun j d e => ?_⟩
  match j, e with
  | 0, e =>
    cases e
    obtain ⟨v, e1, r⟩ := h.2 0 _ rfl
    exact ⟨v, by rw [List.getElem?_set_ne (by decide)]; exact e1, r.1, i⟩
  | 1, e => cases e; exact old 1 _ (by decide) rfl n1
  | 2, e => cases e; exact old 2 _ (by decide) rfl n2
  | 3, e => cases e; exact old 3 _ (by decide) rfl n3
  | 4, e => cases e; exact old 4 _ (by decide) rfl n4
  | 5, e => cases e; exact ⟨vw, by rw [List.getElem?_set_self (by omega)], hw⟩
  | 6, e => cases e; exact ⟨v6, by rw [List.getElem?_set_ne (by decide)]; exact h6, r6⟩
  | m + 7, e => cases e
def sMid (K : PySem.W.Frag) (T : List (Addr × Str)) (a CD : Addr) (ρ : En) (CR CN : Addr) (o : Om) : TS := fun D σ H => tWay K T a CD ρ CR CN o σ H fun v H' => D.nx (σ.set 5 (some v)) H'
theorem tWay_ex {K : PySem.W.Frag} {T : List (Addr × Str)} {a CD : Addr} {ρ : En} {CR CN : Addr} {o : Om} {σ : L2.St} {H H1 : Hp} {Q : VK} (e1 : Ex H H1) (h : tWay K T a CD ρ CR CN o σ H Q) : tWay K T a CD ρ CR CN o σ H1 Q := by
  obtain ⟨hT, hs, D, h6, hD, ne, ⟨dx, gs, ha⟩, q⟩ := h
  refine ⟨hT.ext e1, hs.ex e1, D, h6, e1 _ _ hD, ne, ⟨dx, gs, e1 _ _ ha⟩, ?_⟩
  cases o with
  | rt d fs' => exact fun v H' x => q v H' ((XT.of (.of e1)).trans x)
  | er c =>
    obtain ⟨w, hw, q⟩ := q
    exact ⟨w, hw, fun H' x => q H' ((LamX.ExtN.of e1).trans x)⟩
section
variable {X : Cx} {T : List (Addr × Str)} {a CD : Addr} {ρ : En} {CR CN : Addr} {o : Om} {c : Expr} {body els : List Stmt} {pos : Pos}
theorem wif_t (hc : DT X c ρ true) (h : PSs X body (sMid X.K T a CD ρ CR CN o)) : PS X (.If c body els pos) (sMid X.K T a CD ρ CR CN o) :=
  (ps_if hc h (u := fun _ _ _ => False) ⟨fun _ _ _ _ _ _ z => z.elim⟩).imp fun D σ H q => ⟨q.2.1, fun H1 e1 => iteT (tWay_ex e1 q)⟩
theorem wif_f (hc : DT X c ρ false) (h : PSs X els (sMid X.K T a CD ρ CR CN o)) : PS X (.If c body els pos) (sMid X.K T a CD ρ CR CN o) :=
  (ps_if hc (t := fun _ _ _ => False) ⟨fun _ _ _ _ _ _ z => z.elim⟩ h).imp fun D σ H q => ⟨q.2.1, fun H1 e1 => iteF (tWay_ex e1 q)⟩
end
def r0 : Rl := (some 0, [], [])
/-- what a way does to the desk -/
def CallO (CR CN : Addr) (n : Nat) (now : List Rl) (past : List (List Rl)) (r : Rl) (rs : List Rl) (way : Int) (o : Om) : Prop :=
  (way = 0 ∧ FAdd CR (fsD n now past) [.d (rlD r)] o) ∨ (way = 1 ∧ FDrop CR (fsD n now past) [.d (rlD r)] o) ∨ (way = 2 ∧ FAssign (fsD n now past) [.d (bkD n rs)] o) ∨ (way = 3 ∧ FUndo CN (fsD n now past) [] o) ∨
  (way = 4 ∧ Sit n now [r, r0] ∧ o = .rt (.d (.tuple ((settL n (joinR now [r, r0])).map tpD))) (fsD n now past))
section
variable {P : Program} {w : World} {K : PySem.W.Frag} {mg : Str → Option Value} {base : Heap}
/-- the desk's methods -/
structure Dm (P : Program) (w : World) (K : PySem.W.Frag) (mg : Str → Option Value) (base : Heap) (CD CR CN : Addr) : Prop where
  cl : Cls K CD
  add : MfO P w K mg base CD "add" 5 (FAdd CR)
  drop : MfO P w K mg base CD "drop" 5 (FDrop CR)
  asg : MfO P w K mg base CD "assign_book" 8 FAssign
  undo : MfO P w K mg base CD "undo" 1 (FUndo CN)
  ss : ∃ f, Meth K CD "settled_supposing" f ∧ FnR P w K mg base (L2.CX P w) 9 f (spStar 1 (spSS K CD))
def spCall (K : PySem.W.Frag) (T : List (Addr × Str)) (CD CR CN : Addr) : Sp := fun vs H Q _ => ∃ a n now past way r rs o, RvA K H vs [.o a CD (fsD n now past), .d (.int way), .d (.int (n : Int)), .d (rlD r), .d (.tuple (rsD rs))] ∧ LamX.Tabs T H ∧ CallO CR CN n now past r rs way o ∧
  match o with
  | .rt d fs' => ∃ x, d = .d x ∧ noL x = true ∧ SeqAt.shaped (.list [x]) = true ∧ noLA (fs'.map (·.2)) = true ∧ ∀ v H', XT a H H' → LamX.Tabs T H' → Rv K H' v (.d (.tuple [.str "", x])) → InsAt K H' a CD fs' → Q v H'
  | .er c => ∃ w, erW CR CN c w ∧ ∀ v H', XT a H H' → LamX.Tabs T H' → Rv K H' v (.d (.tuple [.str w, .none])) → InsAt K H' a CD (fsD n now past) → Q v H'
theorem call_mid {f c Pt g CR CN a CD : Addr} {fdw : FuncData} {A : Around} {outer : List Env} {s : Shared} {H : Hp} {E : XK} {c1 c2 c3 c5 c6 c7 c8 c9 : Value} {n : Nat} {now : List Rl} {past : List (List Rl)} {r : Rl} {rs : List Rl} {way : Int} {o : Om}
    (W : WordF K mg CR CN c1 c2 c3 c5 c6 c7 c8 c9) (Fw : Fun K "_law_word" "_law_word" (topS 49) g fdw) (hmw : mg "_law_word" = some (.ref g)) (TB : LamX.TabB base mg c Pt) (M : Dm P w K mg base CD CR CN) (hr : Room 11 (cX P w K mg base f c A outer s H E).A) (ho : CallO CR CN n now past r rs way o) :
    ∀ st rest, defBody (topS 50) = [(defBody (topS 50)).getD 0 (.Pass ⟨0, 0, 0, 0⟩), st] ++ rest → PS (cX P w K mg base f c A outer s H E) st (sMid K [(Pt, qCall)] a CD [some (.o a CD (fsD n now past)), some (.d (.int way)), some (.d (.int (n : Int))), some (.d (rlD r)), some (.d (.tuple (rsD rs))), none, some (.d (.list []))] CR CN o) := by
  intro st rest hst
  cases hst
  have nd : nCall.Nodup := by decide +kernel
  have hu := hu64 hr
  have eqw : ∀ {k : Int} {b : Bool} {p1 p2 p3 : Pos}, (decide (way = k)) = b → DT (cX P w K mg base f c A outer s H E) (.Compare (.Name "_law_way" p1) [.Eq] [.Constant (.int k) 0 p2] p3) [some (.o a CD (fsD n now past)), some (.d (.int way)), some (.d (.int (n : Int))), some (.d (rlD r)), some (.d (.tuple (rsD rs))), none, some (.d (.list []))] b := fun {k b p1 p2 p3} h =>
    dt_is (dt_eq (x := .int way) (y := .int k) hu (de_var 1) de_int rfl rfl) (by rw [eqv_int, h])
  have px : ∀ {sc : Scope} {A' : Around} {outer' : List Env} {s' : Shared} {H' : Hp} {E' : XK} {f' c' : Addr}, Passes (L2.CX P w) (LamX.lamCx (cX P w K mg base f c A outer s H E) A' outer' s' H' E' sc f' c') E' := fun {sc A' outer' s' H' E' f' c'} => passes_call (X := LamX.lamCx (cX P w K mg base f c A outer s H E) A' outer' s' H' E' sc f' c') (takes_of rfl rfl rfl rfl) fun _ _ _ _ z => z
  rcases ho with ⟨rfl, hF⟩ | ⟨rfl, hF⟩ | ⟨rfl, hF⟩ | ⟨rfl, hF⟩ | ⟨rfl, hS, rfl⟩
  · exact wif_t (eqw rfl) (pss_one (ps_set nd rfl (.inl rfl) (way_pe (f := f) (c := c) W Fw hmw TB hr (LamX.lamS_by (by decide +kernel)) (.inr (.inr rfl)) (fun A' outer' s' H' E' f' c' hr' => le_meth px M.add (hr'.mono (by decide)) M.cl (de_var 0) (da_cons (de_var 3) da_nil) hF rfl) rfl (fun _ => rfl) (fun _ => rfl)) rfl))
  · exact wif_f (eqw rfl) (pss_one (wif_t (eqw rfl) (pss_one (ps_set nd rfl (.inl rfl) (way_pe (f := f) (c := c) W Fw hmw TB hr (LamX.lamS_by (by decide +kernel)) (.inr (.inr rfl)) (fun A' outer' s' H' E' f' c' hr' => le_meth px M.drop (hr'.mono (by decide)) M.cl (de_var 0) (da_cons (de_var 3) da_nil) hF rfl) rfl (fun _ => rfl) (fun _ => rfl)) rfl))))
  · exact wif_f (eqw rfl) (pss_one (wif_f (eqw rfl) (pss_one (wif_t (eqw rfl) (pss_one (ps_set nd rfl (.inl rfl) (way_pe (f := f) (c := c) W Fw hmw TB hr (LamX.lamS_by (by decide +kernel)) (.inr (.inr rfl)) (fun A' outer' s' H' E' f' c' hr' => le_meth px M.asg (hr'.mono (by decide)) M.cl (de_var 0) (da_cons (de_tup (ds := [.int (n : Int), .tuple (rsD rs)]) (da_cons (de_var 2) (da_cons (de_var 4) da_nil)) (show 2 ≤ 100000 by decide)) da_nil) hF rfl) rfl (fun _ => rfl) (fun _ => rfl)) rfl))))))
  · exact wif_f (eqw rfl) (pss_one (wif_f (eqw rfl) (pss_one (wif_f (eqw rfl) (pss_one (wif_t (eqw rfl) (pss_one (ps_set nd rfl (.inl rfl) (way_pe (f := f) (c := c) W Fw hmw TB hr (LamX.lamS_by (by decide +kernel)) (.inr (.inr rfl)) (fun A' outer' s' H' E' f' c' hr' => le_meth0 px M.undo (hr'.mono (by decide)) M.cl (de_var 0) hF rfl) rfl (fun _ => rfl) (fun _ => rfl)) rfl))))))))
  · obtain ⟨fs, m1, m2⟩ := M.ss
    exact wif_f (eqw rfl) (pss_one (wif_f (eqw rfl) (pss_one (wif_f (eqw rfl) (pss_one (wif_f (eqw rfl) (pss_one (ps_set nd rfl (.inl rfl) (way_pe (f := f) (c := c) W Fw hmw TB hr (LamX.lamS_by (by decide +kernel)) (.inr (.inr rfl)) (fun A' outer' s' H' E' f' c' hr' => le_ss px m1 m2 (hr'.mono (by decide)) M.cl (de_var 0) (da_cons (de_var 3) (da_cons (de_tup (ds := [.int 0, .tuple [], .tuple []]) (da_cons de_int (da_cons (de_tup (ds := []) da_nil (by decide)) (da_cons (de_tup (ds := []) da_nil (by decide)) da_nil))) (show 3 ≤ 100000 by decide)) da_nil)) hS) rfl (fun _ => rfl) (fun _ => rfl)) rfl))))))))
end
end DSW
set_option Elab.async false
set_option linter.all false
set_option maxRecDepth 100000
set_option maxHeartbeats 400000
/-! _law_call, whole. -/
namespace DSW
open PySem PySem.Spec PyProof.Rows L2 Evl
theorem KpT.trans {H H1 H2 : Hp} (a : KpT H H1) (b : KpT H1 H2) : KpT H H2 := fun x o e t => b x o (a x o e t) t
section
variable {P : Program} {w : World} {K : PySem.W.Frag} {mg : Str → Option Value} {base : Heap}
abbrev eCall (a CD : Addr) (fs : List (Str × PyData)) (way : Int) (n : Nat) (r : Rl) (rs : List Rl) (wd : Option Dv) (l : List PyData) : En := [some (.o a CD fs), some (.d (.int way)), some (.d (.int (n : Int))), some (.d (rlD r)), some (.d (.tuple (rsD rs))), wd, some (.d (.list l))]
theorem call_ret {f c a CD : Addr} {A : Around} {outer : List Env} {s : Shared} {H : Hp} {E : XK} {fs : List (Str × PyData)} {way : Int} {n : Nat} {r : Rl} {rs : List Rl} {wd : Str} {l : List PyData} {x : PyData} (hr : Room 11 (cX P w K mg base f c A outer s H E).A) (hl : (l = [] ∧ x = .none) ∨ l = [x]) (hs : SeqAt.shaped (.list l) = true) :
    DSs (cX P w K mg base f c A outer s H E) [(defBody (topS 50)).getD 2 (.Pass ⟨0, 0, 0, 0⟩)] (eCall a CD fs way n r rs (some (.d (.str wd))) l) (.rt (.d (.tuple [.str wd, x]))) := by
  refine dss_ret (de_tup (ds := [.str wd, x]) (da_cons (de_var 5) (da_cons ?_ da_nil)) (show 2 ≤ 100000 by decide))
  rcases hl with ⟨rfl, rfl⟩ | rfl
  · exact de_if (k := false) (dt_is (dt_ne (x := .list []) (y := .list []) (hu64 hr) (de_var 6) (de_lst (ds := []) da_nil (by decide)) hs sh_nil) (by rw [eqv_nil]; rfl)) (fun z => by cases z) fun _ => de_non
  · exact de_if (k := true) (dt_is (dt_ne (x := .list [x]) (y := .list []) (hu64 hr) (de_var 6) (de_lst (ds := []) da_nil (by decide)) hs sh_nil) (by rw [eqv_nil]; rfl)) (fun _ => de_ixL (ds := [x]) (i := 0) (de_var 6) de_int rfl) (fun z => by cases z)
theorem ok_law_call {f c Pt g CR CN CD : Addr} {fd fdw : FuncData} {c1 c2 c3 c5 c6 c7 c8 c9 : Value} (Fn : Fun K "_law_call" "_law_call" (topS 50) f fd) (hcode : fd.code = .ref c) (W : WordF K mg CR CN c1 c2 c3 c5 c6 c7 c8 c9) (Fw : Fun K "_law_word" "_law_word" (topS 49) g fdw) (hmw : mg "_law_word" = some (.ref g)) (TB : LamX.TabB base mg c Pt)
    (M : Dm P w K mg base CD CR CN) : FnOk P w K mg base CX0 12 f fd ["_law_desk", "_law_way", "_law_atoms", "_law_rule_here", "_law_rules_here"] (spCall K [(Pt, qCall)] CD CR CN) := by
  obtain ⟨oc, od, kV, doc, pm, an, cdv, ct, osl, rfl, lk, hcd⟩ := Fn.ex
  obtain rfl : cdv = .ref c := hcode
  refine fn_of (N := nCall) lk hcd ⟨rfl, rfl, rfl, by decide +kernel, rfl, by decide +kernel, by decide +kernel⟩ (fun vs H Q E ⟨a, n, now, past, way, r, rs, o, rr, _⟩ => by rw [rr.len]; rfl) (fun A outer s H vs Q E hr ⟨a, n, now, past, way, r, rs, o, rr, hT, ho, q⟩ => ?_)
  have nd : nCall.Nodup := by decide +kernel
  have hr' : Room 11 (cX P w K mg base f c A outer s H E).A := hr
  have rs0 := rs_start (N := nCall) rr
  have hl : (L2.start nCall vs).length = 7 := rs0.1
  have mid := call_mid (f := f) (A := A) (outer := outer) (s := s) (H := H) (E := E) (a := a) (CD := CD) W Fw hmw TB M hr' ho _ _ rfl
  have hi : InsAt K H a CD (fsD n now past) := by
    obtain ⟨v, _, r⟩ := rs0.2 0 _ rfl
    exact r.2
  obtain ⟨dx, gs, ha⟩ := hi.ins
  have ret : ∀ (fs : List (Str × PyData)) (wd : Str) (l : List PyData) (x : PyData), (l = [] ∧ x = .none) ∨ l = [x] → SeqAt.shaped (.list l) = true → _ := fun fs wd l x h1 h2 => call_ret (P := P) (w := w) (K := K) (mg := mg) (base := base) (f := f) (c := c) (a := a) (CD := CD) (A := A) (outer := outer) (s := s) (H := H) (E := E) (fs := fs) (way := way) (n := n) (r := r) (rs := rs) (wd := wd) (l := l) (x := x) hr' h1 h2
  have e0 : ∀ D, H D = none → Ex H (upd H D (.lst [])) := fun D h => Ex.new h
  have xt3 : ∀ (D : Addr) (H1 H2 H3 : Hp), H D = none → XT a (upd H D (.lst [])) H1 → (∀ b, b ≠ D → H2 b = H1 b) → Ex H2 H3 → XT a H H3 := fun D H1 H2 H3 hD x k e b o hb ne nt => by
    have nD : b ≠ D := fun z => by rw [z, hD] at hb; cases hb
    exact e b o (by rw [k b nD]; exact x b o (e0 D hD b o hb) ne nt)
  have neD : ∀ D, H D = none → D ≠ a := fun D hD z => by rw [z, ha] at hD; cases hD
  have start6 : ∀ D, H D = none → Rs K (upd H D (.lst [])) ((L2.start nCall vs).set 6 (some (.ref D))) [some (.o a CD (fsD n now past)), some (.d (.int way)), some (.d (.int (n : Int))), some (.d (rlD r)), some (.d (.tuple (rsD rs))), none, some (.d (.list []))] := fun D hD =>
    (rs0.ex (e0 D hD)).set (i := 6) (show Rv K (upd H D (.lst [])) (.ref D) (.d (.list [])) from rv_lst.mpr ⟨D, [], rfl, upd_same, dqA_nil.mpr rfl⟩)
  have at6 : ∀ D : Addr, ((L2.start nCall vs).set 6 (some (V.ref D)))[6]? = some (some (.ref D)) := fun D => List.getElem?_set_self (by omega)
  cases o with
  | rt d fs' =>
    obtain ⟨x, rfl, nx, sx, nf, q⟩ := q
    refine ⟨_, PSs.nox (pss_cons (ps_set (X := cX P w K mg base f c A outer s H E) (i := 6) nd rfl (.inr rfl) (pe_lst pa_nil) rfl) (pss_cons mid (ret fs' "" [x] x (.inr rfl) sx))), ?_⟩
    refine ⟨Nat.zero_le _, fun D hD => ⟨hT.ext (e0 D hD), start6 D hD, D, at6 D, upd_same, neD D hD, ⟨dx, gs, e0 D hD _ _ ha⟩, fun v H1 xt T1 rv ins => ?_⟩⟩
    have hD1 : H1 D = some (.lst []) := xt D _ upd_same (neD D hD) (fun ps z => by cases z)
    have k1 : KpT H1 (upd H1 D (.lst [v])) := kpT_upd hD1 rfl
    have ins2 : InsAt K (upd H1 D (.lst [v])) a CD fs' := ins_keepT k1 (upd_ne (neD D hD).symm) nf ins
    refine ⟨rs_call (start6 D hD) rfl rfl (noL_rl r) (by unfold noL; exact noL_rs rs) ((xt.kpT (e0 D hD _ _ ha)).trans k1) ins2 (show Rv K _ (.str "") (.d (.str "")) from rv_str.mpr rfl) (at6 D) (rv_lst.mpr ⟨D, [v], rfl, upd_same, dqA_cons.mpr ⟨v, [], rfl, Dq.keepT k1 x v nx rv, dqA_nil.mpr rfl⟩⟩), fun u H3 e3 r3 => q u H3 (xt3 D H1 _ H3 hD xt (fun b hb => upd_ne hb) e3) ?_ r3 (ins2.keep (.of e3))⟩
    exact (tabs_keep (fun b o e t => by
      have nb : b ≠ D := fun z => by rw [z, hD1] at e; cases e; cases t
      rw [upd_ne nb]; exact e) T1).ext e3
  | er cc =>
    obtain ⟨wd, hw, q⟩ := q
    refine ⟨_, PSs.nox (pss_cons (ps_set (X := cX P w K mg base f c A outer s H E) (i := 6) nd rfl (.inr rfl) (pe_lst pa_nil) rfl) (pss_cons mid (ret (fsD n now past) wd [] .none (.inl ⟨rfl, rfl⟩) rfl))), ?_⟩
    refine ⟨Nat.zero_le _, fun D hD => ⟨hT.ext (e0 D hD), start6 D hD, D, at6 D, upd_same, neD D hD, ⟨dx, gs, e0 D hD _ _ ha⟩, wd, hw, fun H1 eN T1 => ?_⟩⟩
    have hD1 : H1 D = some (.lst []) := eN D _ upd_same (fun ps z => by cases z)
    have ins2 : InsAt K H1 a CD (fsD n now past) := (hi.keep (.of (e0 D hD))).keep (kpi_n eN)
    refine ⟨rs_call (start6 D hD) rfl rfl (noL_rl r) (by unfold noL; exact noL_rs rs) ((XT.of eN).kpT (e0 D hD _ _ ha)) ins2 (show Rv K _ (.str wd) (.d (.str wd)) from rv_str.mpr rfl) (at6 D) (rv_lst.mpr ⟨D, [], rfl, hD1, dqA_nil.mpr rfl⟩), fun u H3 e3 r3 => q u H3 (xt3 D H1 H1 H3 hD (.of eN) (fun b hb => rfl) e3) (T1.ext e3) r3 (ins2.keep (.of e3))⟩
end
end DSW
set_option Elab.async false
set_option linter.all false
set_option maxRecDepth 100000
set_option maxHeartbeats 1000000
/-! _law_due: the model. -/
namespace DSW
open PySem PySem.Spec PyProof.Rows L2 Evl
def plD' (past : List (List Rl)) : List PyData := past.map fun rs => .tuple (rsD rs)
theorem lay_pl : ∀ past : List (List Rl), PyData.canLayAll0 (plD' past) = true
  | [] => rfl
  | x :: l => by
    have h : PyData.canLay0 (.tuple (rsD x)) = true := by unfold PyData.canLay0; exact lay_rs x
    show (PyData.canLay0 (.tuple (rsD x)) && PyData.canLayAll0 (plD' l)) = true
    rw [h, lay_pl l]
    rfl
theorem dep_pl : ∀ past : List (List Rl), PyData.depthAll (plD' past) ≤ 3
  | [] => Nat.zero_le _
  | x :: l => by
    show max (PyData.depth (.tuple (rsD x))) (PyData.depthAll (plD' l)) ≤ 3
    have := dep_pl l
    have := dep_rs x
    have h : PyData.depth (.tuple (rsD x)) = PyData.depthAll (rsD x) + 1 := by unfold PyData.depth; rfl
    omega
theorem sh_pl (past : List (List Rl)) : SeqAt.shaped (.list (plD' past)) = true := by
  refine sh_of ?_ ?_
  · unfold PyData.canLay0
    exact lay_pl past
  · unfold PyData.depth
    have := dep_pl past
    omega
theorem pl_app (p : List (List Rl)) (q : List Rl) : plD' (p ++ [q]) = plD' p ++ [.tuple (rsD q)] := by unfold plD'; rw [List.map_append]; rfl
theorem pl_len (p : List (List Rl)) : (plD' p).length = p.length := by unfold plD'; rw [List.length_map]
theorem pl_emp (p : List (List Rl)) : (plD' p).isEmpty = p.isEmpty := by cases p <;> rfl
theorem atI_last {α : Type} (l : List α) (x : α) : atI (l ++ [x]) (-1) = some x := by
  unfold atI
  have e : ixN (l ++ [x]).length (-1) = some l.length := by
    unfold ixN
    rw [List.length_append, List.length_singleton]
    rw [if_neg (by omega)]
    split
    · congr 1
      omega
    · omega
  rw [e]
  show (l ++ [x])[l.length]? = some x
  rw [List.getElem?_append_right (Nat.le_refl _)]
  simp
def joinT (now : List Rl) (r : Rl) : List Rl := joinL (joinL now [r]) [r0]
/-- the model's answer -/
def DueO (n : Nat) (now : List Rl) (past : List (List Rl)) (r : Rl) (rs : List Rl) (way : Int) (wd : Str) (x : PyData) (now' : List Rl) (past' : List (List Rl)) : Prop :=
  (way = 0 ∧ now.contains r = true ∧ wd = "rule" ∧ x = .none ∧ now' = now ∧ past' = past) ∨ (way = 0 ∧ now.contains r = false ∧ wd = "" ∧ x = .none ∧ now' = now ++ [r] ∧ past' = past ++ [now]) ∨
  (way = 1 ∧ now.contains r = false ∧ wd = "rule" ∧ x = .none ∧ now' = now ∧ past' = past) ∨ (way = 1 ∧ now.contains r = true ∧ wd = "" ∧ x = .none ∧ now' = (now.filter fun q => !decide (q = r)) ∧ past' = past ++ [now]) ∨
  (way = 2 ∧ wd = "" ∧ x = .none ∧ now' = rs ∧ past' = past ++ [now]) ∨
  (way = 3 ∧ past = [] ∧ wd = "nothing" ∧ x = .none ∧ now' = now ∧ past' = past) ∨ (way = 3 ∧ past = past' ++ [now'] ∧ wd = "" ∧ x = .none) ∨
  (way = 4 ∧ wd = "" ∧ x = .tuple ((settL n (joinT now r)).map tpD) ∧ now' = now ∧ past' = past)
section
variable {P : Program} {w : World} {K : PySem.W.Frag} {mg : Str → Option Value} {base : Heap} {f : Addr} {fd : FuncData}
abbrev FDue (ds : List Dv) (d : Dv) : Prop := ∃ n now past r rs way wd x now' past', n ≤ 4 ∧ Gd (joinT now r) ∧ now.length ≤ 40 ∧ past.length ≤ 1000 ∧ DueO n now past r rs way wd x now' past' ∧
  ds = [.d (.int way), .d (.list (plD' past)), .d (.tuple (rsD now)), .d (rlD r), .d (.tuple (rsD rs)), .d (.int (n : Int))] ∧ d = .d (.tuple [.str wd, x, .tuple (rsD now'), .list (plD' past')])
abbrev nDue : List Str := ["_law_way", "_law_past", "_law_now", "_law_rule_here", "_law_rules_here", "_law_atoms", "_law_other"]
theorem pf_law_due (D : Df K mg "_law_due" (topS 51) f fd) (G : Gm mg) (F1 : Pf P w K mg base "_law_settled" 3 FSettT) (F2 : Pf P w K mg base "_law_joined" 1 FJoined) : Pf P w K mg base "_law_due" 4 FDue := by
  refine pf_mk (N := nDue) (ps := ["_law_way", "_law_past", "_law_now", "_law_rule_here", "_law_rules_here", "_law_atoms"]) D.fn ⟨rfl, rfl, rfl, by decide +kernel, rfl, by decide +kernel, by decide +kernel⟩ D.mg (D.fn.binds fun _ _ _ _ _ _ us hl => match us, hl with | [_, _, _, _, _, _], _ => rfl) (by rintro _ _ ⟨n, now, past, r, rs, way, wd, x, now', past', _, _, _, _, _, rfl, rfl⟩; rfl) ?_
  rintro _ _ ⟨n, now, past, r, rs, way, wd, x, now', past', h4, hg, hn, hp, hO, rfl, rfl⟩ cdv A outer s H E hr
  have nd : nDue.Nodup := by decide +kernel
  have hu := hu64 hr
  have eqw : ∀ {k : Int} {b : Bool} {p1 p2 p3 : Pos}, (decide (way = k)) = b → DT (bodyX P w K mg base nDue "_law_due" (defScope (topS 51)) f cdv A outer s H E) (.Compare (.Name "_law_way" p1) [.Eq] [.Constant (.int k) 0 p2] p3) (enE nDue [.d (.int way), .d (.list (plD' past)), .d (.tuple (rsD now)), .d (rlD r), .d (.tuple (rsD rs)), .d (.int (n : Int))]) b := fun {k b p1 p2 p3} h =>
    dt_is (dt_eq (x := .int way) (y := .int k) hu (de_var 0) de_int rfl rfl) (by rw [eqv_int, h])
  have app : ∀ {p1 p2 p3 p4 : Pos}, DE (bodyX P w K mg base nDue "_law_due" (defScope (topS 51)) f cdv A outer s H E) (.BinOp (.Name "_law_past" p1) .Add (.List [.Name "_law_now" p2] p3) p4) (enE nDue [.d (.int way), .d (.list (plD' past)), .d (.tuple (rsD now)), .d (rlD r), .d (.tuple (rsD rs)), .d (.int (n : Int))]) (.d (.list (plD' (past ++ [now])))) := fun {p1 p2 p3 p4} =>
    de_is (de_catL (ds := plD' past) (es' := [.tuple (rsD now)]) (de_var 1) (de_lst (ds := [.tuple (rsD now)]) (da_cons (de_var 2) da_nil) (show 1 ≤ 100000 by decide)) (by rw [pl_len]; show past.length + 1 ≤ _; omega)) (by rw [pl_app])
  have inw : ∀ {b : Bool} {p1 p2 p3 : Pos}, now.contains r = b → DT (bodyX P w K mg base nDue "_law_due" (defScope (topS 51)) f cdv A outer s H E) (.Compare (.Name "_law_rule_here" p1) [.In] [.Name "_law_now" p2] p3) (enE nDue [.d (.int way), .d (.list (plD' past)), .d (.tuple (rsD now)), .d (rlD r), .d (.tuple (rsD rs)), .d (.int (n : Int))]) b := fun {b p1 p2 p3} h =>
    dt_is (dt_in (ds := rsD now) (x := rlD r) (hu65 hr) (de_var 3) (.inl (de_var 2)) (sh_rl r) (sh_rs now)) (by rw [any_rl, h])
  have niw : ∀ {b : Bool} {p1 p2 p3 : Pos}, now.contains r = b → DT (bodyX P w K mg base nDue "_law_due" (defScope (topS 51)) f cdv A outer s H E) (.Compare (.Name "_law_rule_here" p1) [.NotIn] [.Name "_law_now" p2] p3) (enE nDue [.d (.int way), .d (.list (plD' past)), .d (.tuple (rsD now)), .d (rlD r), .d (.tuple (rsD rs)), .d (.int (n : Int))]) (!b) := fun {b p1 p2 p3} h =>
    dt_is (dt_nin (ds := rsD now) (x := rlD r) (hu65 hr) (de_var 3) (.inl (de_var 2)) (sh_rl r) (sh_rs now)) (by rw [any_rl, h])
  rcases hO with ⟨rfl, hc, rfl, rfl, rfl, rfl⟩ | ⟨rfl, hc, rfl, rfl, rfl, rfl⟩ | ⟨rfl, hc, rfl, rfl, rfl, rfl⟩ | ⟨rfl, hc, rfl, rfl, rfl, rfl⟩ | ⟨rfl, rfl, rfl, rfl, rfl⟩ | ⟨rfl, hc, rfl, rfl, rfl, rfl⟩ | ⟨rfl, rfl, rfl, rfl⟩ | ⟨rfl, rfl, rfl, rfl, rfl⟩
  · exact dss_if (k := true) (eqw rfl) (fun _ => ⟨dss_if (k := true) (inw hc) (fun _ => ⟨dss_ret (de_tup (ds := [.str "rule", .none, .tuple (rsD now'), .list (plD' past')]) (da_cons de_str (da_cons de_non (da_cons (de_var 2) (da_cons (de_var 1) da_nil)))) (show 4 ≤ 100000 by decide)), _, rfl⟩) (fun z => by cases z), _, rfl⟩) (fun z => by cases z)
  · exact dss_if (k := true) (eqw rfl) (fun _ => ⟨dss_if (k := false) (inw hc) (fun z => by cases z) fun _ => dss_ret (de_tup (ds := [.str "", .none, .tuple (rsD (now ++ [r])), .list (plD' (past ++ [now]))]) (da_cons de_str (da_cons de_non (da_cons (de_is (de_catT (ds := rsD now) (es' := [rlD r]) (de_var 2) (de_tup (ds := [rlD r]) (da_cons (de_var 3) da_nil) (show 1 ≤ 100000 by decide)) (by rw [len_rs]; show now.length + 1 ≤ _; omega)) (by rw [rsD_app])) (da_cons app da_nil)))) (show 4 ≤ 100000 by decide)), _, rfl⟩) (fun z => by cases z)
  · exact dss_if (k := false) (eqw rfl) (fun z => by cases z) fun _ => dss_if (k := true) (eqw rfl) (fun _ => ⟨dss_if (k := true) (niw hc) (fun _ => ⟨dss_ret (de_tup (ds := [.str "rule", .none, .tuple (rsD now'), .list (plD' past')]) (da_cons de_str (da_cons de_non (da_cons (de_var 2) (da_cons (de_var 1) da_nil)))) (show 4 ≤ 100000 by decide)), _, rfl⟩) (fun z => by cases z), _, rfl⟩) (fun z => by cases z)
  · have e1 : (((rsD now).filter fun d => !PyData.eqv d (rlD r)).map fun d => d) = rsD (now.filter fun q => !decide (q = r)) := by
      rw [filt_rs now (fun q => !decide (q = r)) _ fun q _ => by rw [eqv_rl], map_self _ fun _ => rfl]
    refine dss_if (k := false) (eqw rfl) (fun z => by cases z) fun _ => dss_if (k := true) (eqw rfl) (fun _ => ⟨dss_if (k := false) (niw hc) (fun z => by cases z) fun _ => dss_ret (de_tup (ds := [.str "", .none, .tuple (rsD (now.filter fun q => !decide (q = r))), .list (plD' (past ++ [now]))]) (da_cons de_str (da_cons de_non (da_cons (de_tupL rfl G.tup (de_is (de_lc (ds := rsD now) (f := fun d => !PyData.eqv d (rlD r)) (g := fun d => d) (j := 6) rfl nd rfl (.inl (de_var 2)) (blkOk_by (N := nDue) (sc := defScope (topS 51)) (by decide +kernel)) (fun s H C cl fp => ⟨.inl rfl, .inr rfl⟩) (blkT_one fun d hd s H C cl fp => ?_) (fun d hd _ s H C cl fp => de_var 6) (fun d hd _ => ?_) (by rw [len_rs]; omega)) (by rw [e1]))) (da_cons app da_nil)))) (show 4 ≤ 100000 by decide)), _, rfl⟩) (fun z => by cases z)
    · obtain ⟨q, hq, rfl⟩ := List.mem_map.mp hd
      exact dt_ne hu (de_var 6) (de_var 3) (sh_rl q) (sh_rl r)
    · obtain ⟨q, hq, rfl⟩ := List.mem_map.mp hd
      exact noL_rl q
  · exact dss_if (k := false) (eqw rfl) (fun z => by cases z) fun _ => dss_if (k := false) (eqw rfl) (fun z => by cases z) fun _ => dss_if (k := true) (eqw rfl) (fun _ => ⟨dss_ret (de_tup (ds := [.str "", .none, .tuple (rsD now'), .list (plD' (past ++ [now]))]) (da_cons de_str (da_cons de_non (da_cons (de_var 4) (da_cons app da_nil)))) (show 4 ≤ 100000 by decide)), _, rfl⟩) (fun z => by cases z)
  · exact dss_if (k := false) (eqw rfl) (fun z => by cases z) fun _ => dss_if (k := false) (eqw rfl) (fun z => by cases z) fun _ => dss_if (k := false) (eqw rfl) (fun z => by cases z) fun _ => dss_if (k := true) (eqw rfl) (fun _ => ⟨dss_if (k := true) (dt_is (dt_eq (x := .list (plD' past')) (y := .list []) hu (de_var 1) (de_lst (ds := []) da_nil (by decide)) (sh_pl _) sh_nil) (by rw [eqv_nil, pl_emp, hc]; rfl)) (fun _ => ⟨dss_ret (de_tup (ds := [.str "nothing", .none, .tuple (rsD now'), .list (plD' past')]) (da_cons de_str (da_cons de_non (da_cons (de_var 2) (da_cons (de_var 1) da_nil)))) (show 4 ≤ 100000 by decide)), _, rfl⟩) (fun z => by cases z), _, rfl⟩) (fun z => by cases z)
  · have ec : cutD (plD' past' ++ [PyData.tuple (rsD now')]) none (some (-1)) = plD' past' := by
      unfold cutD
      rw [List.length_append, List.length_singleton]
      show List.take (HT.sIx _ _ (some (-1)) - 0) (List.drop 0 _) = _
      have e : HT.sIx ((plD' past').length + 1) ((plD' past').length + 1) (some (-1)) = (plD' past').length := by
        unfold HT.sIx
        simp
        try omega
      rw [e, List.drop_zero, Nat.sub_zero, List.take_left]
    refine dss_if (k := false) (eqw rfl) (fun z => by cases z) fun _ => dss_if (k := false) (eqw rfl) (fun z => by cases z) fun _ => dss_if (k := false) (eqw rfl) (fun z => by cases z) fun _ => dss_if (k := true) (eqw rfl) (fun _ => ⟨dss_if (k := false) (dt_is (dt_eq (x := .list (plD' (past' ++ [now']))) (y := .list []) hu (de_var 1) (de_lst (ds := []) da_nil (by decide)) (sh_pl _) sh_nil) (by rw [eqv_nil, pl_emp]; cases past' <;> rfl)) (fun z => by cases z) fun _ => dss_ret (de_tup (ds := [.str "", .none, .tuple (rsD now'), .list (plD' past')]) (da_cons de_str (da_cons de_non (da_cons (de_ixL (ds := plD' past' ++ [.tuple (rsD now')]) (i := -1) (de_is (de_var 1) (by rw [pl_app])) (de_neg de_int) (atI_last _ _)) (da_cons (de_is (de_slL (ds := plD' past' ++ [.tuple (rsD now')]) (l := none) (h := some (-1)) (de_is (de_var 1) (by rw [pl_app])) do_none (do_some (de_neg de_int))) (by rw [ec])) da_nil)))) (show 4 ≤ 100000 by decide)), _, rfl⟩) (fun z => by cases z)
  · have hl2 : (joinL now' [r]).length ≤ now'.length + 1 := by
      unfold joinL
      have := List.length_filter_le (fun r => !now'.contains r) [r]
      rw [List.length_append]
      rw [List.length_singleton] at this
      omega
    exact dss_if (k := false) (eqw rfl) (fun z => by cases z) fun _ => dss_if (k := false) (eqw rfl) (fun z => by cases z) fun _ => dss_if (k := false) (eqw rfl) (fun z => by cases z) fun _ => dss_if (k := false) (eqw rfl) (fun z => by cases z) fun _ =>
      dss_ret (de_tup (ds := [.str "", .tuple ((settL n (joinT now' r)).map tpD), .tuple (rsD now'), .list (plD' past')]) (da_cons de_str (da_cons (de_call F1 hr rfl (da_cons (de_var 5) (da_cons (de_call (d := .d (.tuple (rsD (joinT now' r)))) (F2.mono (by decide)) hr rfl (da_cons (de_call (d := .d (.tuple (rsD (joinL now' [r])))) (F2.mono (by decide)) hr rfl (da_cons (de_var 2) (da_cons (de_tup (ds := rsD [r]) (da_cons (de_var 3) da_nil) (show 1 ≤ 100000 by decide)) da_nil)) ⟨now', [r], by omega, (show 1 ≤ 1000 by decide), rfl, rfl⟩) (da_cons (de_tup (ds := rsD [r0]) (da_cons (de_tup (ds := [.int 0, .tuple [], .tuple []]) (da_cons de_int (da_cons (de_tup (ds := []) da_nil (by decide)) (da_cons (de_tup (ds := []) da_nil (by decide)) da_nil))) (show 3 ≤ 100000 by decide)) da_nil) (show 1 ≤ 100000 by decide)) da_nil)) ⟨joinL now' [r], [r0], by omega, by decide, rfl, rfl⟩) da_nil)) ⟨n, joinT now' r, h4, hg, rfl, rfl⟩) (da_cons (de_var 2) (da_cons (de_var 1) da_nil)))) (show 4 ≤ 100000 by decide))
end
end DSW
set_option Elab.async false
set_option linter.all false
set_option maxRecDepth 100000
set_option maxHeartbeats 1000000
/-! _law_cell of the script as it is given. -/
namespace DSW
open PySem PySem.Spec PyProof.Rows L2 Evl
section
variable {P : Program} {w : World} {K : PySem.W.Frag} {mg : Str → Option Value} {base : Heap} {f : Addr} {fd : FuncData}
def spCell (K : PySem.W.Frag) : Sp := fun vs H Q _ => ∃ (a : Addr) (m : List Int) (k : Nat), vs = [.ref a, .int (k : Int)] ∧ SqL K H a (m.map V.int) ∧ Q (.int (cellM m k)) H
theorem ok_law_cell (D : Df K mg "_law_cell" (topS 39) f fd) (G : Gm mg) : FnOk P w K mg base CX0 1 f fd ["_law_script", "_law_k"] (spCell K) := by
  refine D.fn.ok (N := ["_law_script", "_law_k"]) ⟨rfl, rfl, rfl, by decide +kernel, rfl, by decide +kernel, by decide +kernel⟩ (by rintro vs H Q E ⟨a, m, k, rfl, _⟩; rfl) (fun cdv A outer s H vs Q E hr ⟨a, m, k, ev, hs, q⟩ => ?_)
  subst ev
  refine ⟨_, pss_cons (ps_if (pt_cmpR op_lt (pe_var (i := 1) rfl (.inl rfl)) (pe_callB call_len_seq rfl G.len boot_len' (pa_cons (pe_var (i := 0) rfl (.inl rfl)) pa_nil)) (nomark _)) (pss_one (ps_ret (pe_ix ix_list (pe_var (i := 0) rfl (.inl rfl)) (pe_var (i := 1) rfl (.inl rfl)) (fun _ _ => rfl)))) pss_nil) (pss_one (ps_ret pe_int)), ?_⟩
  by_cases h : (k : Int) < (m.length : Int)
  · have h' : k < m.length := by omega
    have ge : (m.map V.int)[k]? = some (.int (cellM m k)) := by
      rw [List.getElem?_map]
      unfold cellM
      rw [List.getD_eq_getElem?_getD, List.getElem?_eq_getElem h']
      rfl
    refine ⟨.int (k : Int), rfl, .ref a, rfl, a, m.map V.int, rfl, .inl hs, k, ((m.map V.int).length : Int), rfl, rfl, true, congrArg V.bl (decide_eq_true (by rw [List.length_map]; exact h)), iteT ?_⟩
    exact ⟨.ref a, rfl, .int (k : Int), rfl, a, m.map V.int, k, _, rfl, rfl, hs, atI_nat ge, q⟩
  · have h' : m.length ≤ k := by omega
    have e0 : cellM m k = 0 := by
      unfold cellM
      rw [List.getD_eq_getElem?_getD, List.getElem?_eq_none h']
      rfl
    refine ⟨.int (k : Int), rfl, .ref a, rfl, a, m.map V.int, rfl, .inl hs, k, ((m.map V.int).length : Int), rfl, rfl, false, congrArg V.bl (decide_eq_false (by rw [List.length_map]; exact h)), iteF ?_⟩
    rw [e0] at q
    exact q
end
end DSW
set_option Elab.async false
set_option linter.all false
set_option maxRecDepth 100000
set_option maxHeartbeats 1000000
/-! The model's step and the desk's. -/
namespace DSW
open PySem PySem.Spec PyProof.Rows L2 Evl
theorem joinL_one (l : List Rl) (q : Rl) : joinL l [q] = addR l q := by
  unfold joinL addR
  cases h : l.contains q with
  | true => simp [h]; exact List.contains_iff_mem.mp h
  | false => simp [h]; intro z; have := List.contains_iff_mem.mpr z; rw [h] at this; cases this
theorem joinT_R (now : List Rl) (r : Rl) : joinT now r = joinR now [r, r0] := by
  unfold joinT
  rw [joinL_one, joinL_one]
  rfl
theorem vr_r0 {n : Nat} (h : 1 ≤ n) : Vr n r0 := by
  refine ⟨fun a e => ?_, ⟨?_, fun i hi => ?_⟩, ⟨?_, fun i hi => ?_⟩⟩
  · cases e
    omega
  · first | trivial | exact List.Pairwise.nil | (unfold Asc; simp [r0])
  · cases hi
  · first | trivial | exact List.Pairwise.nil | (unfold Asc; simp [r0])
  · cases hi
/-- the state at a lap -/
structure Good (n : Nat) (now : List Rl) (past : List (List Rl)) (lap : Nat) : Prop where
  n1 : 1 ≤ n
  n4 : n ≤ 4
  vb : Vb n now
  len : now.length ≤ 5 + lap
  plen : past.length ≤ lap
  pvb : ∀ b ∈ past, Vb n b ∧ b.length ≤ 5 + lap
theorem Good.up {n : Nat} {now : List Rl} {past : List (List Rl)} {lap : Nat} (g : Good n now past lap) : Good n now past (lap + 1) := ⟨g.n1, g.n4, g.vb, by have := g.len; omega, by have := g.plen; omega, fun b hb => ⟨(g.pvb b hb).1, by have := (g.pvb b hb).2; omega⟩⟩
theorem Good.push {n : Nat} {now now' : List Rl} {past : List (List Rl)} {lap : Nat} (g : Good n now past lap) (h : Vb n now') (l : now'.length ≤ 6 + lap) : Good n now' (past ++ [now]) (lap + 1) := by
  refine ⟨g.n1, g.n4, h, by omega, by rw [List.length_append, List.length_singleton]; have := g.plen; omega, fun b hb => ?_⟩
  rcases List.mem_append.mp hb with h | h
  · exact ⟨(g.pvb b h).1, by have := (g.pvb b h).2; omega⟩
  · rw [List.mem_singleton.mp h]
    exact ⟨g.vb, by have := g.len; omega⟩
theorem Good.gd {n : Nat} {now : List Rl} {past : List (List Rl)} {lap : Nat} (g : Good n now past lap) (h : lap ≤ 24) : Gd now := ⟨by have := g.len; omega, fun r hr => vr_up (g.vb.2 r hr) g.n4⟩
theorem vb_add {n : Nat} {now : List Rl} {r : Rl} (h : Vb n now) (hr : Vr n r) (hc : now.contains r = false) : Vb n (now ++ [r]) := by
  refine ⟨List.nodup_append.mpr ⟨h.1, by simp, fun a ha b hb e => ?_⟩, fun q hq => ?_⟩
  · rw [e, List.mem_singleton.mp hb] at ha
    have := List.contains_iff_mem.mpr ha
    rw [hc] at this
    cases this
  · rcases List.mem_append.mp hq with z | z
    · exact h.2 q z
    · rw [List.mem_singleton.mp z]; exact hr
theorem vb_filt {n : Nat} {now : List Rl} (h : Vb n now) (p : Rl → Bool) : Vb n (now.filter p) := ⟨h.1.filter _, fun q hq => h.2 q (List.mem_filter.mp hq).1⟩
/-- what the law compares in an answer -/
structure Ans (x : PyData) : Prop where
  nl : noL x = true
  sh : SeqAt.shaped (.list [x]) = true
  sm : Smp 3 x
theorem ans_none : Ans .none := ⟨rfl, rfl, .inl rfl⟩
theorem smp_up : ∀ {k : Nat} {d : PyData}, Smp k d → Smp (k + 1) d
  | k + 1, d, h => by
    rcases h with h | h | h | ⟨es, h1, h2, h3⟩
    · exact .inl h
    · exact .inr (.inl h)
    · exact .inr (.inr (.inl h))
    · exact .inr (.inr (.inr ⟨es, h1, h2, fun e he => smp_up (h3 e he)⟩))
theorem smp_int {k : Nat} (i : Int) : Smp (k + 1) (.int i) := .inr (.inl ⟨i, rfl⟩)
theorem smp_tup {k : Nat} {es : List PyData} (h : es.length ≤ 100000) (h2 : ∀ e ∈ es, Smp k e) : Smp (k + 1) (.tuple es) := .inr (.inr (.inr ⟨es, rfl, h, h2⟩))
theorem smp_it {l : List Int} (h : l.length ≤ 1000) : Smp 2 (tpD l) := smp_tup (by rw [len_it]; omega) fun e he => by
  obtain ⟨i, _, rfl⟩ := List.mem_map.mp he
  exact smp_int i
theorem settL_small {n : Nat} (h : n ≤ 4) (rs : List Rl) : (settL n rs).length ≤ 100 ∧ ∀ l ∈ settL n rs, l.length ≤ 100 := by
  have h1 := setsL_small h
  refine ⟨Nat.le_trans (List.length_filter_le _ _) (by omega), fun l hl => ?_⟩
  have h2 := (List.mem_filter.mp hl).1
  unfold setsL srtT at h2
  have := subs_el n l ((List.mergeSort_perm _ _).mem_iff.mp h2)
  omega
theorem smp_sett {n : Nat} (h : n ≤ 4) (rs : List Rl) : Smp 3 (.tuple ((settL n rs).map tpD)) := by
  obtain ⟨h1, h2⟩ := settL_small h rs
  refine smp_tup (by rw [List.length_map]; omega) fun e he => ?_
  obtain ⟨l, hl, rfl⟩ := List.mem_map.mp he
  exact smp_it (by have := h2 l hl; omega)
theorem lay_tps : ∀ ls : List (List Int), PyData.canLayAll0 (ls.map tpD) = true
  | [] => rfl
  | x :: l => by
    show (PyData.canLay0 (tpD x) && PyData.canLayAll0 (l.map tpD)) = true
    rw [show PyData.canLay0 (tpD x) = true from lay_it x, lay_tps l]
    rfl
theorem dep_tps : ∀ ls : List (List Int), PyData.depthAll (ls.map tpD) ≤ 1
  | [] => Nat.zero_le _
  | x :: l => by
    show max (PyData.depth (tpD x)) (PyData.depthAll (l.map tpD)) ≤ 1
    have := dep_tps l
    have : PyData.depth (tpD x) = 1 := dep_it x
    omega
theorem ans_sett {n : Nat} (h : n ≤ 4) (rs : List Rl) : Ans (.tuple ((settL n rs).map tpD)) := by
  refine ⟨?_, ?_, smp_sett h rs⟩
  · unfold noL
    refine noLA_iff.mpr fun d hd => ?_
    obtain ⟨l, _, rfl⟩ := List.mem_map.mp hd
    exact noL_tp l
  · refine sh_of ?_ ?_
    · show (PyData.canLay0 (.tuple ((settL n rs).map tpD)) && true) = true
      have : PyData.canLay0 (.tuple ((settL n rs).map tpD)) = true := by unfold PyData.canLay0; exact lay_tps _
      rw [this]
      rfl
    · show max (PyData.depth (.tuple ((settL n rs).map tpD))) 0 + 1 ≤ 64
      have : PyData.depth (.tuple ((settL n rs).map tpD)) = PyData.depthAll ((settL n rs).map tpD) + 1 := by unfold PyData.depth; rfl
      have := dep_tps (settL n rs)
      omega
theorem smp_rl {r : Rl} (h : Vr 4 r) : Smp 3 (rlD r) := by
  have h1 := vs_len h.2.1 (by decide)
  have h2 := vs_len h.2.2 (by decide)
  refine smp_tup (show 3 ≤ 100000 by decide) fun e he => ?_
  rcases List.mem_cons.mp he with rfl | he
  · cases q : r.1 with
    | none => exact .inl rfl
    | some i => exact smp_int i
  rcases List.mem_cons.mp he with rfl | he
  · exact smp_it (by omega)
  rcases List.mem_cons.mp he with rfl | he
  · exact smp_it (by omega)
  · cases he
theorem smp_bk {n : Nat} {rs : List Rl} (h : Gd rs) : Smp 5 (bkD n rs) := by
  refine smp_tup (show 2 ≤ 100000 by decide) fun e he => ?_
  rcases List.mem_cons.mp he with rfl | he
  · exact smp_int _
  rcases List.mem_cons.mp he with rfl | he
  · refine smp_tup (by rw [len_rs]; have := h.1; omega) fun e he => ?_
    obtain ⟨r, hr, rfl⟩ := List.mem_map.mp he
    exact smp_rl (h.2 r hr)
  · cases he
/-- the model's step is the desk's -/
theorem due_call {n : Nat} {now : List Rl} {past : List (List Rl)} {lap : Nat} (CR CN : Addr) (g : Good n now past lap) (hl : lap ≤ 23) {r : Rl} (hr : Vr n r) {rs : List Rl} (hrs : Vb n rs) (h5 : rs.length ≤ 5) {way : Int} (hw : way = 0 ∨ way = 1 ∨ way = 2 ∨ way = 3 ∨ way = 4) :
    ∃ wd x now' past' o, DueO n now past r rs way wd x now' past' ∧ CallO CR CN n now past r rs way o ∧ Good n now' past' (lap + 1) ∧ Ans x ∧ SeqAt.shaped (.str wd) = true ∧
      ((o = .rt (.d x) (fsD n now' past') ∧ wd = "") ∨ ∃ c, o = .er c ∧ erW CR CN c wd ∧ x = .none ∧ now' = now ∧ past' = past) := by
  have l40 : now.length ≤ 40 := by have := g.len; omega
  have p1000 : past.length ≤ 1000 := by have := g.plen; omega
  have s1 : SeqAt.shaped (.str "") = true := by decide +kernel
  have s2 : SeqAt.shaped (.str "rule") = true := by decide +kernel
  have s3 : SeqAt.shaped (.str "nothing") = true := by decide +kernel
  rcases hw with rfl | rfl | rfl | rfl | rfl
  · cases hc : now.contains r with
    | true => exact ⟨"rule", .none, now, past, .er (.ref CR), .inl ⟨rfl, hc, rfl, rfl, rfl, rfl⟩, .inl ⟨rfl, n, now, r, past, g.n4, hr, l40, p1000, rfl, rfl, by rw [if_pos hc]⟩, g.up, ans_none, s2, .inr ⟨_, rfl, .inl ⟨rfl, rfl⟩, rfl, rfl, rfl⟩⟩
    | false => exact ⟨"", .none, now ++ [r], past ++ [now], .rt (.d .none) (fsD n (now ++ [r]) (past ++ [now])), .inr (.inl ⟨rfl, hc, rfl, rfl, rfl, rfl⟩), .inl ⟨rfl, n, now, r, past, g.n4, hr, l40, p1000, rfl, rfl, by rw [if_neg (by rw [hc]; decide)]⟩, g.push (vb_add g.vb hr hc) (by rw [List.length_append, List.length_singleton]; have := g.len; omega), ans_none, s1, .inl ⟨rfl, rfl⟩⟩
  · cases hc : now.contains r with
    | true => exact ⟨"", .none, now.filter fun q => !decide (q = r), past ++ [now], .rt (.d .none) (fsD n (now.filter fun q => !decide (q = r)) (past ++ [now])), .inr (.inr (.inr (.inl ⟨rfl, hc, rfl, rfl, rfl, rfl⟩))), .inr (.inl ⟨rfl, n, now, r, past, g.n4, hr, l40, p1000, rfl, rfl, by rw [if_pos hc]⟩), g.push (vb_filt g.vb _) (by have := List.length_filter_le (fun q => !decide (q = r)) now; have := g.len; omega), ans_none, s1, .inl ⟨rfl, rfl⟩⟩
    | false => exact ⟨"rule", .none, now, past, .er (.ref CR), .inr (.inr (.inl ⟨rfl, hc, rfl, rfl, rfl, rfl⟩)), .inr (.inl ⟨rfl, n, now, r, past, g.n4, hr, l40, p1000, rfl, rfl, by rw [if_neg (by rw [hc]; decide)]⟩), g.up, ans_none, s2, .inr ⟨_, rfl, .inl ⟨rfl, rfl⟩, rfl, rfl, rfl⟩⟩
  · exact ⟨"", .none, rs, past ++ [now], .rt (.d .none) (fsD n rs (past ++ [now])), .inr (.inr (.inr (.inr (.inl ⟨rfl, rfl, rfl, rfl, rfl⟩)))), .inr (.inr (.inl ⟨rfl, n, now, rs, past, g.n1, g.n4, hrs, h5, p1000, rfl, rfl, rfl⟩)), g.push hrs (by omega), ans_none, s1, .inl ⟨rfl, rfl⟩⟩
  · rcases List.eq_nil_or_concat past with rfl | ⟨p, q, e⟩
    · exact ⟨"nothing", .none, now, [], .er (.ref CN), .inr (.inr (.inr (.inr (.inr (.inl ⟨rfl, rfl, rfl, rfl, rfl, rfl⟩))))), .inr (.inr (.inr (.inl ⟨rfl, n, now, [], p1000, rfl, rfl, .inl ⟨rfl, rfl⟩⟩))), g.up, ans_none, s3, .inr ⟨_, rfl, .inr ⟨rfl, rfl⟩, rfl, rfl, rfl⟩⟩
    · have e : past = p ++ [q] := by rw [e, List.concat_eq_append]
      subst e
      have hq := g.pvb q (List.mem_append_right _ (List.Mem.head _))
      refine ⟨"", .none, q, p, .rt (.d .none) (fsD n q p), .inr (.inr (.inr (.inr (.inr (.inr (.inl ⟨rfl, rfl, rfl, rfl⟩)))))), .inr (.inr (.inr (.inl ⟨rfl, n, now, _, p1000, rfl, rfl, .inr ⟨p, q, rfl, rfl⟩⟩))), ⟨g.n1, g.n4, hq.1, by have := hq.2; omega, by have := g.plen; rw [List.length_append, List.length_singleton] at this; omega, fun b hb => ⟨(g.pvb b (List.mem_append_left _ hb)).1, by have := (g.pvb b (List.mem_append_left _ hb)).2; omega⟩⟩, ans_none, s1, .inl ⟨rfl, rfl⟩⟩
  · exact ⟨"", .tuple ((settL n (joinT now r)).map tpD), now, past, _, .inr (.inr (.inr (.inr (.inr (.inr (.inr ⟨rfl, rfl, rfl, rfl, rfl⟩)))))), .inr (.inr (.inr (.inr ⟨rfl, ⟨g.n1, g.n4, fun q hq => vr_up (g.vb.2 q hq) g.n4, fun q hq => by
      rcases List.mem_cons.mp hq with rfl | hq
      · exact hr
      · rw [List.mem_singleton.mp hq]; exact vr_r0 g.n1, l40, (show 2 ≤ 2 by decide)⟩, rfl⟩))), g.up, ans_sett g.n4 _, s1, .inl ⟨by rw [joinT_R], rfl⟩⟩
end DSW
set_option Elab.async false
set_option linter.all false
set_option maxRecDepth 100000
set_option maxHeartbeats 1000000
/-! The law's own steps: what holds before and behind a statement. -/
namespace DSW
open PySem PySem.Spec PyProof.Rows L2 Evl
abbrev SP1 := L2.St → Hp → Prop
def tH (P Q : SP1) : TS := fun D σ H => P σ H ∧ ∀ σ' H', Q σ' H' → D.nx σ' H'
abbrev HS (X : Cx) (st : Stmt) (P Q : SP1) : Prop := PS X st (tH P Q)
abbrev HSs (X : Cx) (sts : List Stmt) (P Q : SP1) : Prop := PSs X sts (tH P Q)
theorem sqL_ex {K : PySem.W.Frag} {H H' : Hp} {a : Addr} {xs : List V} (e : ∀ b o, H b = some o → (∀ ps, o ≠ .tbl ps) → (∀ C dx fs, o ≠ .ins C dx fs) → H' b = some o) (h : SqL K H a xs) : SqL K H' a xs := by
  rcases h with (h | ⟨o, h⟩) | h
  · exact .inl (.inl (e _ _ h (fun _ z => by cases z) fun _ _ _ z => by cases z))
  · exact .inl (.inr ⟨o, e _ _ h (fun _ z => by cases z) fun _ _ _ z => by cases z⟩)
  · exact .inr h
/-- slots, the script, the tables -/
def JJ (K : PySem.W.Frag) (T : List (Addr × Str)) (aS : Addr) (ns : List Int) (ρ : En) : SP1 := fun σ H => Rs K H σ ρ ∧ SqL K H aS (ns.map V.int) ∧ LamX.Tabs T H
section
variable {X : Cx} {T : List (Addr × Str)} {aS : Addr} {ns : List Int} {P Q R : SP1} {st : Stmt} {rest body : List Stmt} {ρ ρ' : En} {pos : Pos} {x : Str}
theorem hss_nil : HSs X [] P P := pss_nil.imp fun D σ H ⟨h, q⟩ => q σ H h
theorem hss_cons (h1 : HS X st P Q) (h2 : HSs X rest Q R) : HSs X (st :: rest) P R := (pss_cons h1 h2).imp fun D σ H ⟨h, q⟩ => ⟨h, fun σ' H' h' => ⟨h', q⟩⟩
theorem hs_ex {ι : Sort _} {P : ι → SP1} (h : ∀ i, HS X st (P i) Q) : HS X st (fun σ H => ∃ i, P i σ H) Q := ⟨fun pins s σ H D I ⟨⟨i, hp⟩, q⟩ => (h i).run pins s σ H D I ⟨hp, q⟩⟩
theorem hss_ex {ι : Sort _} {P : ι → SP1} (h : ∀ i, HSs X rest (P i) Q) : HSs X rest (fun σ H => ∃ i, P i σ H) Q := ⟨fun pins s σ H D I ⟨⟨i, hp⟩, q⟩ => (h i).run pins s σ H D I ⟨hp, q⟩⟩
theorem hss_imp (h : HSs X rest P Q) (h1 : ∀ σ H, R σ H → P σ H) : HSs X rest R Q := h.imp fun D σ H ⟨r, q⟩ => ⟨h1 σ H r, q⟩
theorem hss_post (h : HSs X rest P Q) (h1 : ∀ σ H, Q σ H → R σ H) : HSs X rest P R := h.imp fun D σ H ⟨r, q⟩ => ⟨r, fun σ' H' z => q σ' H' (h1 σ' H' z)⟩
theorem JJ.ex {K : PySem.W.Frag} {σ σ' : L2.St} {H H' : Hp} (h : JJ K T aS ns ρ σ H) (e : Ex H H') (r : Rs K H' σ' ρ') : JJ K T aS ns ρ' σ' H' := ⟨r, sqL_ex (fun b o z _ _ => e b o z) h.2.1, h.2.2.ext e⟩
theorem hs_of (h : DS X st ρ (.nx ρ')) : HS X st (JJ X.K T aS ns ρ) (JJ X.K T aS ns ρ') := h.imp fun D σ H ⟨hj, q⟩ => ⟨hj.1, fun σ' H' e r => q σ' H' (hj.ex e r)⟩
/-- for x in range(n): body -/
theorem hs_forR {n : Nat} {p p2 p3 tp : Pos} {jj : Nat} (j : Nat) (P : Nat → SP1) (hp : PassesOwn (model X.prog X.w) X.A X.env X.xe) (hc : X.calm = true) (hg : PG X (.Name x tp) (gName j)) (hgr : Gl X "range") (hmr : X.mg "range" = none) (hn : n ≤ 100)
    (hb : ∀ i : Nat, i < n → HSs X body (fun σ H => ∃ σ0, σ = σ0.set j (some (.int (i : Int))) ∧ P i σ0 H) (P (i + 1))) (hst : starEach [.Constant (.int (n : Int)) jj p3] X.env = [(false, eval (.Constant (.int (n : Int)) jj p3) X.env)] := by rfl) (hs : ∀ x, foldedSetIterable (.Call (.Name "range" p) [.Constant (.int (n : Int)) jj p3] [] p2) X.env x = pure x := by intro _; rfl) :
    HS X (.For (.Name x tp) (.Call (.Name "range" p) [.Constant (.int (n : Int)) jj p3] [] p2) body [] pos) (P 0) (P n) := by
  have hbody : PSs X body (fun D σ H => ∃ i : Nat, i < n ∧ tH (fun σ H => ∃ σ0, σ = σ0.set j (some (.int (i : Int))) ∧ P i σ0 H) (P (i + 1)) D σ H) := ⟨fun pins s σ H D I ⟨i, hd, q⟩ => (hb i hd).run pins s σ H D I q⟩
  refine (ps_for hp hc (pi_range1 hgr hmr (pa_cons pe_int pa_nil hst) hst) hg hbody hs).imp fun D σ H ⟨h0, q⟩ => ?_
  refine ⟨(n : Int), rfl, by omega, by omega, ?_⟩
  have en : ((n : Int)).toNat = n := by simp
  rw [en]
  refine for_range (lo := 0) (g := gName j) (tb := fun D σ H => ∃ i : Nat, i < n ∧ tH (fun σ H => ∃ σ0, σ = σ0.set j (some (.int (i : Int))) ∧ P i σ0 H) (P (i + 1)) D σ H) (D := D) P h0 (fun i σ' H' hlt p => ?_) fun σ' H' p => q σ' H' p
  refine ⟨i, hlt, ⟨σ', ?_, p⟩, fun σ2 H2 e2 => e2⟩
  rw [Int.zero_add]
/-- x1, x2, x3, x4 = e -/
theorem ds_asg4 {e : Expr} {a b c d : PyData} {x1 x2 x3 x4 : Str} {p1 p2 p3 p4 p5 : Pos} {kk : Nat} (i j k l : Nat) (hc : X.calm = true) (he : DE X e ρ (.d (.tuple [a, b, c, d]))) (h1 : PG X (.Name x1 p1) (gName i)) (h2 : PG X (.Name x2 p2) (gName j)) (h3 : PG X (.Name x3 p3) (gName k)) (h4 : PG X (.Name x4 p4) (gName l))
    (hs : swapsWithSole [.Tuple [.Name x1 p1, .Name x2 p2, .Name x3 p3, .Name x4 p4] kk p5] e pos.line X.env = pure false) (hw : swappedStores [.Tuple [.Name x1 p1, .Name x2 p2, .Name x3 p3, .Name x4 p4] kk p5] e X.env = pure none) :
    DS X (.Assign [.Tuple [.Name x1 p1, .Name x2 p2, .Name x3 p3, .Name x4 p4] kk p5] e pos) ρ (.nx ((((ρ.set i (some (.d a))).set j (some (.d b))).set k (some (.d c))).set l (some (.d d)))) :=
  (ps_asg he (pg_tup hc (pgs_cons h1 (pgs_cons h2 (pgs_cons h3 (pgs_cons h4 pgs_nil)))) (n := 4)) hs hw).imp fun D σ H ⟨hr, q⟩ => ⟨hr, fun v H1 e1 r => tgt_tup4 i j k l σ H1 v D.nx (hr.ex e1) r fun σ' H' e2 r2 => q σ' H' (e1.trans e2) r2⟩
end
theorem rs_kp {K : PySem.W.Frag} {H H' : Hp} {σ : L2.St} {ρ : En} {j : Nat} {a C : Addr} {fs fs' : List (Str × PyData)} (h : Rs K H σ ρ) (hj : ρ[j]? = some (some (.o a C fs))) (p : plE ρ j = true) (x : Kp H H') (n : InsAt K H' a C fs') : Rs K H' σ (ρ.set j (some (.o a C fs'))) := by
  obtain ⟨v, e1, r⟩ := h.2 j _ hj
  have hl : j < ρ.length := (List.getElem?_eq_some_iff.mp hj).1
  refine ⟨by rw [List.length_set]; exact h.1, fun i d e => ?_⟩
  by_cases q : j = i
  · subst q
    rw [List.getElem?_set_self hl] at e
    cases e
    exact ⟨v, e1, r.1, n⟩
  · rw [List.getElem?_set_ne q] at e
    obtain ⟨u, e2, r2⟩ := h.2 i d e
    exact ⟨u, e2, r2.kpl x (plE_at p (fun z => q z.symm) e)⟩
section
variable {X : Cx} {T : List (Addr × Str)} {aS : Addr} {ns : List Int} {ρ : En}
/-- _law_call(desk, way, atoms, rule, rules) -/
def tCW (K : PySem.W.Frag) (T : List (Addr × Str)) (aS : Addr) (ns : List Int) (ρ ρ' : En) (d : PyData) : TE := fun σ H Q => JJ K T aS ns ρ σ H ∧ ∀ v H', JJ K T aS ns ρ' σ H' → Rv K H' v (.d d) → Q v H'
theorem call_pe {fc CD CR CN a : Addr} {fdc : FuncData} {n : Nat} {now now' : List Rl} {past past' : List (List Rl)} {way : Int} {r : Rl} {rs : List Rl} {o : Om} {x : PyData} {wd : Str} {x1 x2 x3 x4 x5 : Expr} {p pos : Pos} {ps : List Str}
    (Fc : FnOk X.prog X.w X.K X.mg X.base CX0 12 fc fdc ps (spCall X.K T CD CR CN)) (hm : X.mg "_law_call" = some (.ref fc)) (hk : PySem.W.keepIn X.K (.ref fc) = true) (hb : L2.Binds X.K fdc ps []) (hr : Room 12 X.A) (hg : Gl X "_law_call") (hd : DA X [x1, x2, x3, x4, x5] ρ [.o a CD (fsD n now past), .d (.int way), .d (.int (n : Int)), .d (rlD r), .d (.tuple (rsD rs))])
    (j : Nat) (hj : ρ[j]? = some (some (.o a CD (fsD n now past)))) (pl : plE ρ j = true) (hO : CallO CR CN n now past r rs way o) (hx : Ans x) (nf : noLA ((fsD n now' past').map (·.2)) = true)
    (ho : (o = .rt (.d x) (fsD n now' past') ∧ wd = "") ∨ ∃ c, o = .er c ∧ erW CR CN c wd ∧ x = .none ∧ now' = now ∧ past' = past)
    (he : starEach [x1, x2, x3, x4, x5] X.env = (false, eval x1 X.env) :: starEach [x2, x3, x4, x5] X.env := by rfl) (hpl : (backTo pos (starEach [x2, x3, x4, x5] X.env)).any (·.1) = false := by rfl) :
    PE X (.Call (.Name "_law_call" p) [x1, x2, x3, x4, x5] [] pos) (tCW X.K T aS ns ρ (ρ.set j (some (.o a CD (fsD n now' past')))) (.tuple [.str wd, x])) := by
  refine (pe_call Fc hr hg hm hk hb .nil (pass0 (X := X)) hd (by decide) he hpl).imp fun σ H Q ⟨hJ, q⟩ => ⟨hJ.1, fun vs H1 e1 rv => ?_⟩
  have J1 := hJ.ex e1 (hJ.1.ex e1)
  show spCall X.K T CD CR CN (vs ++ []) H1 Q E0
  rw [List.append_nil]
  obtain ⟨v0, _, r0⟩ := J1.1.2 j _ hj
  obtain ⟨dx, gs, ha⟩ := r0.2.ins
  have fin : ∀ v H', XT a H1 H' → LamX.Tabs T H' → Rv X.K H' v (.d (.tuple [.str wd, x])) → InsAt X.K H' a CD (fsD n now' past') → Q v H' := fun v H' xt T' rv ins => by
    have kp : Kp H1 H' := fun b o e s => xt b o e (fun z => by rw [z, ha] at e; cases e; cases s) fun ps z => by rw [z] at s; cases s
    exact q v H' ⟨rs_kp J1.1 hj pl kp ins, sqL_ex (fun b o e n1 n2 => xt b o e (fun z => by rw [z, ha] at e; cases e; exact n2 _ _ _ rfl) n1) J1.2.1, T'⟩ rv
  rcases ho with ⟨rfl, rfl⟩ | ⟨c, rfl, hw, rfl, rfl, rfl⟩
  · exact ⟨a, n, now, past, way, r, rs, _, rv, J1.2.2, hO, x, rfl, hx.nl, hx.sh, nf, fin⟩
  · exact ⟨a, n, now', past', way, r, rs, _, rv, J1.2.2, hO, wd, hw, fin⟩
/-- if not _law_is_same(_law_call(..), (word, answer)): .. -/
theorem hs_same {ρ' : En} {k : Nat} {d : PyData} {ec e2 : Expr} {body : List Stmt} {p p5 p6 pos : Pos} (F1 : Pf X.prog X.w X.K X.mg X.base "_law_is_same" k (FSame k)) (hr : Room k X.A) (hg : Gl X "_law_is_same") (hc : PE X ec (tCW X.K T aS ns ρ ρ' d)) (h2 : DE X e2 ρ' (.d d)) (hs : Smp k d)
    (st1 : starEach [ec, e2] X.env = (false, eval ec X.env) :: starEach [e2] X.env) (st2 : starEach [e2] X.env = (false, eval e2 X.env) :: starEach [] X.env) (hpl : (backTo p5 (starEach [e2] X.env)).any (·.1) = false)
    (ht : ∀ whole, isTrue (.Call (.Name "_law_is_same" p) [ec, e2] [] p5) X.env whole = (do let v ← whole; standAt (Expr.pos (.Call (.Name "_law_is_same" p) [ec, e2] [] p5)); holding [v] (truthy v))) :
    HS X (.If (.UnaryOp .Not (.Call (.Name "_law_is_same" p) [ec, e2] [] p5) p6) body [] pos) (JJ X.K T aS ns ρ) (JJ X.K T aS ns ρ') := by
  obtain ⟨f, fd, ps, k1, k2, k3, k4⟩ := F1
  refine (ps_if (pt_not (pt_val (pe_call k2 hr hg k1 k3 k4 .nil (pass0 (X := X)) (pa_cons hc (pa_cons h2 pa_nil st2) st1) (by decide) st1 hpl) ht)) (t := fun _ _ _ => False) ⟨fun _ _ _ _ _ _ z => z.elim⟩ pss_nil).imp fun D σ H ⟨hJ, q⟩ => ?_
  refine ⟨hJ, fun v H1 J1 r1 => ⟨J1.1, fun u H2 e2 r2 => ?_⟩⟩
  refine ⟨[.d d, .d d], .d (.bool true), .cons (Rv.ex e2 r1) (.cons r2 .nil), ⟨d, hs, rfl, rfl⟩, fun b H3 e3 r3 => ?_⟩
  refine ⟨true, rv_bool.mp r3, iteF ?_⟩
  exact q σ H3 (J1.ex (e2.trans e3) (J1.1.ex (e2.trans e3)))
/-- .. of data that stays -/
theorem ds_same {k : Nat} {d : PyData} {ec e2 : Expr} {body : List Stmt} {p p5 p6 pos : Pos} (F1 : Pf X.prog X.w X.K X.mg X.base "_law_is_same" k (FSame k)) (hr : Room k X.A) (hg : Gl X "_law_is_same") (h1 : DE X ec ρ (.d d)) (h2 : DE X e2 ρ (.d d)) (hs : Smp k d)
    (st1 : starEach [ec, e2] X.env = (false, eval ec X.env) :: starEach [e2] X.env) (st2 : starEach [e2] X.env = (false, eval e2 X.env) :: starEach [] X.env) (hpl : (backTo p5 (starEach [e2] X.env)).any (·.1) = false)
    (ht : ∀ whole, isTrue (.Call (.Name "_law_is_same" p) [ec, e2] [] p5) X.env whole = (do let v ← whole; standAt (Expr.pos (.Call (.Name "_law_is_same" p) [ec, e2] [] p5)); holding [v] (truthy v))) :
    DS X (.If (.UnaryOp .Not (.Call (.Name "_law_is_same" p) [ec, e2] [] p5) p6) body [] pos) ρ (.nx ρ) :=
  ds_if (k := false) (dt_not (k := true) (dt_val (de_call F1 hr hg (da_cons h1 (da_cons h2 da_nil st2) st1) ⟨d, hs, rfl, rfl⟩ (by decide) st1 hpl) ht)) (fun z => by cases z) fun _ => dss_nil
end
end DSW
set_option Elab.async false
set_option linter.all false
set_option maxRecDepth 100000
set_option maxHeartbeats 1000000
/-! The law: a lap. -/
namespace DSW
open PySem PySem.Spec PyProof.Rows L2 Evl
abbrev nLaw : List Str := ["_law_script", "_law_k", "_law_cell_here", "_law_atoms", "_law_now", "_law_past", "_law_desk", "_law_lap", "_law_numbers", "_law_way", "_law_rule_here", "_law_rules_here", "_law_word_here", "_law_answer", "_law_told"]
def forB : Stmt → List Stmt
  | .For _ _ b _ _ => b
  | _ => []
abbrev outB : List Stmt := forB ((defBody (topS 52)).getD 0 (.Pass ⟨0, 0, 0, 0⟩))
abbrev lapB : List Stmt := forB (outB.getD 4 (.Pass ⟨0, 0, 0, 0⟩))
section
variable {P : Program} {w : World} {K : PySem.W.Frag} {mg : Str → Option Value} {base : Heap}
/-- all that the law calls -/
structure Pr (P : Program) (w : World) (K : PySem.W.Frag) (mg : Str → Option Value) (base : Heap) (T : List (Addr × Str)) (CD CR CN : Addr) : Prop where
  cell : ∃ f fd, mg "_law_cell" = some (.ref f) ∧ FnOk P w K mg base CX0 1 f fd ["_law_script", "_law_k"] (spCell K) ∧ PySem.W.keepIn K (.ref f) = true ∧ L2.Binds K fd ["_law_script", "_law_k"] []
  draws : Pf P w K mg base "_law_draws" 1 FDraws
  rule : Pf P w K mg base "_law_rule" 1 FRule
  rules : Pf P w K mg base "_law_rules" 2 FRules
  same : Pf P w K mg base "_law_is_same" 7 (FSame 7)
  sett : Pf P w K mg base "_law_settled" 3 FSettT
  due : Pf P w K mg base "_law_due" 4 FDue
  call : ∃ f fd ps, mg "_law_call" = some (.ref f) ∧ FnOk P w K mg base CX0 12 f fd ps (spCall K T CD CR CN) ∧ PySem.W.keepIn K (.ref f) = true ∧ L2.Binds K fd ps []
  desk : ∃ f fd, Mk K CD f ∧ mg "Desk" = some (.ref CD) ∧ FnOk P w K mg base (L2.CX P w) 7 f fd ["self", "book"] (spO K CD FInit) ∧ L2.Binds K fd ["self", "book"] []
  cl : Cls K CD
  book : ∃ p g fd, PropOf K CD "book" p g ∧ FnOk P w K mg base CX0 1 g fd ["self"] (spG K CD (FGet fun n now _ => bkD n now)) ∧ L2.Binds K fd ["self"] []
  changes : ∃ p g fd, PropOf K CD "changes" p g ∧ FnOk P w K mg base CX0 1 g fd ["self"] (spG K CD (FGet fun _ _ past => .int (past.length : Int))) ∧ L2.Binds K fd ["self"] []
  settled : ∃ p g fd, PropOf K CD "settled" p g ∧ FnOk P w K mg base CX0 7 g fd ["self"] (spG K CD (FGet fun n now _ => .tuple ((settL n now).map tpD))) ∧ L2.Binds K fd ["self"] []
abbrev lX (P : Program) (w : World) (K : PySem.W.Frag) (mg : Str → Option Value) (base : Heap) (f : Addr) (cdv : Value) (A : Around) (outer : List Env) (s : Shared) (H : Hp) (E : XK) : Cx := bodyX P w K mg base nLaw "law" (defScope (topS 52)) f cdv A outer s H E
abbrev eLap (aS a CD : Addr) (c : Int) (n : Nat) (now now2 : List Rl) (past past2 : List (List Rl)) (lapv n8 w9 r10 r11 w12 x13 : Option Dv) : En := [some (.v (.ref aS)), none, some (.d (.int c)), some (.d (.int (n : Int))), some (.d (.tuple (rsD now))), some (.d (.list (plD' past))), some (.o a CD (fsD n now2 past2)), lapv, n8, w9, r10, r11, w12, x13, none]
theorem nl_fs (n : Nat) (now : List Rl) (past : List (List Rl)) : noLA ((fsD n now past).map (·.2)) = true := by
  have h1 : ∀ rs : List Rl, noL (bkD n rs) = true := fun rs => by
    show (noL (.int (n : Int)) && (noL (.tuple (rsD rs)) && true)) = true
    have : noL (.tuple (rsD rs)) = true := by unfold noL; exact noL_rs rs
    rw [this]
    rfl
  show (noL (bkD n now) && (noL (psD n past) && true)) = true
  have h2 : noL (psD n past) = true := by
    unfold psD noL
    exact noLA_iff.mpr fun d hd => by
      obtain ⟨rs, _, rfl⟩ := List.mem_map.mp hd
      exact h1 rs
  rw [h1, h2]
  rfl
theorem lap_tail {f : Addr} {cdv : Value} {A : Around} {outer : List Env} {s : Shared} {H : Hp} {E : XK} {T : List (Addr × Str)} {CD CR CN a aS : Addr} {ns : List Int} {c : Int} {n : Nat} {now : List Rl} {past : List (List Rl)} {lap : Nat} (F : Pr P w K mg base T CD CR CN) (G : Gm mg) (hr : Room 12 (lX P w K mg base f cdv A outer s H E).A)
    (g : Good n now past lap) (hl : lap ≤ 23) {way : Int} (hw : way = 0 ∨ way = 1 ∨ way = 2 ∨ way = 3 ∨ way = 4) {r : Rl} (hv : Vr n r) {rs : List Rl} (hrs : Vb n rs) (h5 : rs.length ≤ 5) (n8 : PyData) (lapd : PyData) :
    HSs (lX P w K mg base f cdv A outer s H E) (lapB.drop 4) (JJ K T aS ns (eLap aS a CD c n now now past past (some (.d lapd)) (some (.d n8)) (some (.d (.int way))) (some (.d (rlD r))) (some (.d (.tuple (rsD rs)))) none none)) (fun σ H => ∃ now past, Good n now past (lap + 1) ∧ JJ K T aS ns (eLap aS a CD c n now now past past none none none none none none none) σ H) := by
  obtain ⟨wd, x, now', past', o, hD, hO, g', hx, hwd, ho⟩ := due_call CR CN g hl hv hrs h5 hw
  have nd : nLaw.Nodup := by decide +kernel
  have gdT : Gd (joinT now r) := by
    rw [joinT_R]
    exact Sit.gd (n := n) ⟨g.n1, g.n4, fun q hq => vr_up (g.vb.2 q hq) g.n4, fun q hq => by
      rcases List.mem_cons.mp hq with rfl | hq
      · exact hv
      · rw [List.mem_singleton.mp hq]; exact vr_r0 g.n1, by have := g.len; omega, (show 2 ≤ 2 by decide)⟩
  obtain ⟨fc, fdc, psc, c1, c2, c3, c4⟩ := F.call
  obtain ⟨pb, gb, fdb, b1, b2, b3⟩ := F.book
  obtain ⟨pc, gc, fdh, h1, h2, h3⟩ := F.changes
  obtain ⟨pt, gt, fdt, t1, t2, t3⟩ := F.settled
  have gd' : Gd now' := g'.gd (by omega)
  have hu := hu64 hr
  refine hss_cons (hs_of (ds_asg4 12 13 4 5 rfl (de_call F.due (hr.mono (by decide)) rfl (da_cons (de_var 9) (da_cons (de_var 5) (da_cons (de_var 4) (da_cons (de_var 10) (da_cons (de_var 11) (da_cons (de_var 3) da_nil)))))) ⟨n, now, past, r, rs, way, wd, x, now', past', g.n4, gdT, by have := g.len; omega, by have := g.plen; omega, hD, rfl, rfl⟩) (pg_name (i := 12) nd rfl (.inl rfl)) (pg_name (i := 13) nd rfl (.inl rfl)) (pg_name (i := 4) nd rfl (.inl rfl)) (pg_name (i := 5) nd rfl (.inl rfl)) rfl rfl))
    (hss_cons (hs_same (X := lX P w K mg base f cdv A outer s H E) (ρ := eLap aS a CD c n now' now past' past (some (.d lapd)) (some (.d n8)) (some (.d (.int way))) (some (.d (rlD r))) (some (.d (.tuple (rsD rs)))) (some (.d (.str wd))) (some (.d x))) (ρ' := eLap aS a CD c n now' now' past' past' (some (.d lapd)) (some (.d n8)) (some (.d (.int way))) (some (.d (rlD r))) (some (.d (.tuple (rsD rs)))) (some (.d (.str wd))) (some (.d x))) (d := .tuple [.str wd, x]) F.same (hr.mono (by decide)) rfl
      (call_pe (X := lX P w K mg base f cdv A outer s H E) (n := n) (now := now) (past := past) (now' := now') (past' := past') (way := way) (r := r) (rs := rs) (x := x) (wd := wd) c2 c1 c3 c4 hr rfl (da_cons (de_var 6) (da_cons (de_var 9) (da_cons (de_var 3) (da_cons (de_var 10) (da_cons (de_var 11) da_nil))))) 6 rfl rfl hO hx (nl_fs n now' past') ho)
      (de_tup (ds := [.str wd, x]) (da_cons (de_var 12) (da_cons (de_var 13) da_nil)) (show 2 ≤ 100000 by decide)) ?smp rfl rfl rfl (fun _ => rfl))
    (hss_cons (hs_of (ds_set 14 (de_tup (ds := [bkD n now', .int (past'.length : Int), .tuple ((settL n now').map tpD)]) (da_cons (de_prop (d := bkD n now') (de_var 6) F.cl b1 b2 (hr.mono (by decide)) b3 ⟨n, now', past', g.n1, g.n4, gd', rfl, rfl⟩) (da_cons (de_prop (d := .int (past'.length : Int)) (de_var 6) F.cl h1 h2 (hr.mono (by decide)) h3 ⟨n, now', past', g.n1, g.n4, gd', rfl, rfl⟩) (da_cons (de_prop (d := .tuple ((settL n now').map tpD)) (de_var 6) F.cl t1 t2 (hr.mono (by decide)) t3 ⟨n, now', past', g.n1, g.n4, gd', rfl, rfl⟩) da_nil))) (show 3 ≤ 100000 by decide)) nd))
    (hss_cons (hs_of (ds_same (d := .tuple [bkD n now', .int (past'.length : Int), .tuple ((settL n now').map tpD)]) F.same (hr.mono (by decide)) rfl (de_var 14) (de_tup (ds := [bkD n now', .int (past'.length : Int), .tuple ((settL n now').map tpD)]) (da_cons (de_tup (ds := [.int (n : Int), .tuple (rsD now')]) (da_cons (de_var 3) (da_cons (de_var 4) da_nil)) (show 2 ≤ 100000 by decide)) (da_cons (de_is (de_lenL (ds := plD' past') rfl G.len (de_var 5)) (by rw [pl_len])) (da_cons (de_call F.sett (hr.mono (by decide)) rfl (da_cons (de_var 3) (da_cons (de_var 4) da_nil)) ⟨n, now', g.n4, gd', rfl, rfl⟩) da_nil))) (show 3 ≤ 100000 by decide)) ?smp2 rfl rfl rfl (fun _ => rfl)))
    (hss_post hss_nil fun σ H h => ⟨now', past', g', h.1.fg (fg_keep (fg_keep (fg_keep (fg_keep (fg_keep (fg_keep (fg_keep (fg_drop (fg_drop (fg_drop (fg_drop (fg_drop (fg_drop (fg_drop (fg_drop fg_nil))))))))))))))), h.2⟩))))
  case smp =>
    refine smp_tup (show 2 ≤ 100000 by decide) fun e he => ?_
    rcases List.mem_cons.mp he with rfl | he
    · exact .inr (.inr (.inl ⟨wd, rfl, hwd⟩))
    · rw [List.mem_singleton.mp he]; exact smp_up (smp_up (smp_up hx.sm))
  case smp2 =>
    refine smp_tup (show 3 ≤ 100000 by decide) fun e he => ?_
    rcases List.mem_cons.mp he with rfl | he
    · exact smp_up (smp_bk gd')
    rcases List.mem_cons.mp he with rfl | he
    · exact smp_int _
    · rw [List.mem_singleton.mp he]; exact smp_up (smp_up (smp_up (smp_sett g.n4 now')))
end
end DSW
set_option Elab.async false
set_option linter.all false
set_option maxRecDepth 100000
set_option maxHeartbeats 1000000
/-! The law, whole. -/
namespace DSW
open PySem PySem.Spec PyProof.Rows L2 Evl
theorem get7 {c : Int} {m : List Int} {k : Nat} {q : Int} (hk : k < m.length) (hq : m.getD k 1 = q) (hp : 0 < q) : ∃ j : Nat, (draws c m).getD k 0 = (j : Int) ∧ (j : Int) < q := by
  obtain ⟨x, hx⟩ := draws_get c m hk
  rw [hq] at hx
  have h1 := Int.emod_nonneg x (show q ≠ 0 by omega)
  have h2 := Int.emod_lt_of_pos x hp
  exact ⟨(x % q).toNat, by rw [hx]; omega, by omega⟩
abbrev m4 : List Int := [7, 1000003, 100, 3]
theorem m4_sz : Sz m4 := ⟨by decide, by decide⟩
abbrev wl : List Int := [0, 1, 0, 2, 3, 4, 3]
theorem wl_ok {j : Nat} (h : j < 7) : wl.getD j 0 = 0 ∨ wl.getD j 0 = 1 ∨ wl.getD j 0 = 2 ∨ wl.getD j 0 = 3 ∨ wl.getD j 0 = 4 := by
  have : ∀ j, j < 7 → (wl.getD j 0 = 0 ∨ wl.getD j 0 = 1 ∨ wl.getD j 0 = 2 ∨ wl.getD j 0 = 3 ∨ wl.getD j 0 = 4) := by decide
  exact this j h
section
variable {P : Program} {w : World} {K : PySem.W.Frag} {mg : Str → Option Value} {base : Heap}
theorem lap_all {f : Addr} {cdv : Value} {A : Around} {outer : List Env} {s : Shared} {H : Hp} {E : XK} {T : List (Addr × Str)} {CD CR CN a aS : Addr} {ns : List Int} {c : Int} {n : Nat} {now : List Rl} {past : List (List Rl)} {lap : Nat} (F : Pr P w K mg base T CD CR CN) (G : Gm mg) (hr : Room 12 (lX P w K mg base f cdv A outer s H E).A)
    (g : Good n now past lap) (hl : lap ≤ 23) :
    HSs (lX P w K mg base f cdv A outer s H E) lapB (JJ K T aS ns (eLap aS a CD c n now now past past (some (.d (.int (lap : Int)))) none none none none none none)) (fun σ H => ∃ now past, Good n now past (lap + 1) ∧ JJ K T aS ns (eLap aS a CD c n now now past past none none none none none none none) σ H) := by
  have nd : nLaw.Nodup := by decide +kernel
  have cm : CMul 29 (lap : Int) := .inl ⟨by decide, by decide⟩
  obtain ⟨j0, z0, l0⟩ := get7 (c := c / 5 + 29 * (lap : Int)) (m := m4) (k := 0) (by decide) (q := 7) rfl (by decide)
  obtain ⟨j2, z2, l2⟩ := get7 (c := c / 5 + 29 * (lap : Int)) (m := m4) (k := 2) (by decide) (q := 100) rfl (by decide)
  obtain ⟨j3, z3, l3⟩ := get7 (c := c / 5 + 29 * (lap : Int)) (m := m4) (k := 3) (by decide) (q := 3) rfl (by decide)
  obtain ⟨nm, hnm⟩ : ∃ nm, draws (c / 5 + 29 * (lap : Int)) m4 = nm := ⟨_, rfl⟩
  have nl : nm.length = 4 := by rw [← hnm, draws_len]; rfl
  rw [hnm] at z0 z2 z3
  obtain ⟨z1, hz1⟩ : ∃ z1, nm.getD 1 0 = z1 := ⟨_, rfl⟩
  have num : ∀ {X : Cx} {ρ : En} {e : Expr} {p1 p2 : Pos} (k : Nat) {jj : Nat}, k < 4 → DE X e ρ (.d (.list (itD nm))) → DE X (.Subscript e (.Constant (.int (k : Int)) jj p1) p2) ρ (.d (.int (nm.getD k 0))) := fun {X ρ e p1 p2} k {jj} hk h => de_ixL h de_int (atI_it (by omega) 0)
  have rv := ruleM_vr z1 g.n1
  obtain ⟨qb, ql⟩ := rulesM_ok z1 g.n1 4
  refine hss_cons (hs_of (ds_set 8 (de_is (de_call (F.draws.mono (by decide)) hr rfl (da_cons (de_add (de_fdiv (de_var 2) de_int ⟨by decide, by decide⟩) (de_mul de_int (de_var 7) cm)) (da_cons (de_lst (ds := itD m4) (da_cons de_int (da_cons de_int (da_cons de_int (da_cons de_int da_nil)))) (show 4 ≤ 100000 by decide)) da_nil)) ⟨_, m4, m4_sz, rfl, rfl⟩) (by rw [hnm])) nd)) ?_
  refine hss_cons (hs_of (ds_set 9 (de_ixT (ds := itD wl) (i := (j0 : Int)) (x := .int (wl.getD j0 0)) (de_tup (ds := itD wl) (da_cons de_int (da_cons de_int (da_cons de_int (da_cons de_int (da_cons de_int (da_cons de_int (da_cons de_int da_nil))))))) (show 7 ≤ 100000 by decide)) (de_is (num 0 (by decide) (de_var 8)) (by rw [z0])) (atI_it (m := wl) (show j0 < 7 by omega) 0)) nd)) ?_
  refine hss_cons (hs_of (ds_par (d1 := .d (rlD (ruleM z1 n))) (d2 := .d (.tuple (rsD (rulesM z1 n 4)))) 10 11 rfl nd rfl rfl (by decide) rfl rfl (de_call (F.rule.mono (by decide)) hr rfl (da_cons (de_is (num 1 (by decide) (de_var 8)) (by rw [hz1])) (da_cons (de_var 3) da_nil)) ⟨z1, n, g.n1, g.n4, rfl, rfl⟩) (de_call (F.rules.mono (by decide)) hr rfl (da_cons (de_is (num 1 (by decide) (de_var 8)) (by rw [hz1])) (da_cons (de_var 3) (da_cons de_int da_nil))) ⟨z1, n, 4, g.n1, g.n4, by decide, rfl, rfl⟩) rfl)) ?_
  have tail := fun (r : Rl) (hv : Vr n r) => lap_tail (f := f) (cdv := cdv) (A := A) (outer := outer) (s := s) (H := H) (E := E) (a := a) (aS := aS) (ns := ns) (c := c) F G hr g hl (wl_ok (show j0 < 7 by omega)) hv qb (by omega) (.list (itD nm)) (.int (lap : Int))
  have test : ∀ {b1 b2 : Bool}, decide (0 < (j3 : Int)) = b1 → now.isEmpty = b2 → ∀ {p1 p2 p3 p4 p5 p6 p7 p8 p9 p10 : Pos} {ρ : En}, ρ[8]? = some (some (.d (.list (itD nm)))) → ρ[4]? = some (some (.d (.tuple (rsD now)))) → True := fun _ _ => fun {p1 p2 p3 p4 p5 p6 p7 p8 p9 p10 ρ} _ _ => trivial
  by_cases hk : (decide (0 < (j3 : Int)) && !now.isEmpty) = true
  · have h1 : decide (0 < (j3 : Int)) = true := by rw [Bool.and_eq_true] at hk; exact hk.1
    have h2 : now.isEmpty = false := by rw [Bool.and_eq_true] at hk; cases q : now.isEmpty with | true => rw [q] at hk; cases hk.2 | false => rfl
    have pos : 0 < now.length := by cases now with | nil => cases h2 | cons _ _ => exact Nat.succ_pos _
    have lt : j2 % now.length < now.length := Nat.mod_lt _ pos
    have ge : (rsD now)[j2 % now.length]? = some (rlD now[j2 % now.length]) := by unfold rsD; rw [List.getElem?_map, List.getElem?_eq_getElem lt]; rfl
    refine hss_cons (hs_of (ds_if (k := true) (dt_is (dt_w (dw_and (k := true) (l := true) (dt_is (dt_gt (i := (j3 : Int)) (j := 0) (de_is (num 3 (by decide) (de_var 8)) (by rw [z3])) de_int) h1) fun _ => dw_and1 (dt_is (dt_ne (x := .tuple (rsD now)) (y := .tuple []) (hu64 hr) (de_var 4) (de_tup (ds := []) da_nil (by decide)) (sh_rs now) rfl) (by rw [show PyData.eqv (.tuple (rsD now)) (.tuple []) = now.isEmpty from by cases now <;> rfl, h2]; rfl)))) rfl) (fun _ => dss_one (ds_set 10 (de_ixT (ds := rsD now) (i := ((j2 % now.length : Nat) : Int)) (x := rlD now[j2 % now.length]) (de_var 4) (de_is (de_mod (i := (j2 : Int)) (j := (now.length : Int)) (de_is (num 2 (by decide) (de_var 8)) (by rw [z2])) (de_is (de_lenT (X := lX P w K mg base f cdv A outer s H E) (ds := rsD now) rfl G.len (de_var 4)) (by rw [len_rs])) (by omega)) (by rw [Int.natCast_emod])) (atI_nat ge)) nd)) fun z => by cases z)) (tail _ (g.vb.2 _ (List.getElem_mem lt)))
  · have hk' : (decide (0 < (j3 : Int)) && !now.isEmpty) = false := by cases q : (decide (0 < (j3 : Int)) && !now.isEmpty) with | true => exact absurd q hk | false => rfl
    refine hss_cons (hs_of (ds_if (k := false) (dt_is (dt_w (dw_and (k := decide (0 < (j3 : Int))) (l := !now.isEmpty) (dt_gt (i := (j3 : Int)) (j := 0) (de_is (num 3 (by decide) (de_var 8)) (by rw [z3])) de_int) fun _ => dw_and1 (dt_is (dt_ne (x := .tuple (rsD now)) (y := .tuple []) (hu64 hr) (de_var 4) (de_tup (ds := []) da_nil (by decide)) (sh_rs now) rfl) (by rw [show PyData.eqv (.tuple (rsD now)) (.tuple []) = now.isEmpty from by cases now <;> rfl])))) hk') (fun z => by cases z) fun _ => dss_nil)) (tail _ rv)
abbrev e15 (aS : Addr) (k c n now past : Option Dv) : En := [some (.v (.ref aS)), k, c, n, now, past, none, none, none, none, none, none, none, none, none]
/-- Desk((atoms, now)) -/
theorem hs_desk {f : Addr} {cdv : Value} {A : Around} {outer : List Env} {s : Shared} {H : Hp} {E : XK} {T : List (Addr × Str)} {CD CR CN aS : Addr} {ns : List Int} {c : Int} {n : Nat} {now : List Rl} {kv : Option Dv} {e : Expr} {p p2 p3 p4 : Pos} (F : Pr P w K mg base T CD CR CN) (hr : Room 12 (lX P w K mg base f cdv A outer s H E).A) (h1 : 1 ≤ n) (h4 : n ≤ 4) (hv : Vb n now) (h5 : now.length ≤ 5)
    (ha : DA (lX P w K mg base f cdv A outer s H E) [e] (e15 aS kv (some (.d (.int c))) (some (.d (.int (n : Int)))) (some (.d (.tuple (rsD now)))) (some (.d (.list (plD' []))))) [.d (bkD n now)])
    (he : starEach [e] (lX P w K mg base f cdv A outer s H E).env = (false, eval e (lX P w K mg base f cdv A outer s H E).env) :: starEach [] (lX P w K mg base f cdv A outer s H E).env) (hsw : swapsWith (.Call (.Name "Desk" p) [e] [] p2) (some (.Name "_law_desk" p3)) p4.line (lX P w K mg base f cdv A outer s H E).env = pure false) :
    HS (lX P w K mg base f cdv A outer s H E) (.Assign [.Name "_law_desk" p3] (.Call (.Name "Desk" p) [e] [] p2) p4) (JJ K T aS ns (e15 aS kv (some (.d (.int c))) (some (.d (.int (n : Int)))) (some (.d (.tuple (rsD now)))) (some (.d (.list (plD' [])))))) (fun σ H => ∃ a, JJ K T aS ns (eLap aS a CD c n now now [] [] none none none none none none none) σ H) := by
  have nd : nLaw.Nodup := by decide +kernel
  obtain ⟨fi, fdi, m1, m2, m3, m4⟩ := F.desk
  refine (ps_set (X := lX P w K mg base f cdv A outer s H E) (i := 6) nd rfl (.inl rfl) (pe_make (x := "Desk") m1 m3 (show Room (7 + 1) _ from hr.mono (by decide)) rfl m2 m4 .nil (passX (X := lX P w K mg base f cdv A outer s H E)) ha (by decide) he rfl) hsw).imp fun D σ H ⟨hJ, q⟩ => ⟨hJ.1, fun vs H1 e1 rv x dx hx hdx ne => ?_⟩
  show spO K CD FInit (.ref x :: (vs ++ [])) (upd (upd H1 dx (.own x)) x (.ins CD dx [])) (fun v H2 => v = .non ∧ D.nx (σ.set 6 (some (.ref x))) H2) E0
  rw [List.append_nil]
  have e2 : Ex H1 (upd (upd H1 dx (.own x)) x (.ins CD dx [])) := (Ex.new hdx).trans (Ex.new (by rw [upd_ne (Ne.symm ne)]; exact hx))
  refine ⟨x, [], [.d (bkD n now)], .rt (.d .none) (fsD n now []), .cons ⟨rfl, dx, [], upd_same, dqA_nil.mpr rfl⟩ (rv.ex e2), ⟨n, now, h1, h4, hv, h5, rfl, rfl, rfl⟩, fun v H' xb r ins => ⟨rv_none.mp r, q _ H' ⟨x, ?_⟩⟩⟩
  have e3 : Ex H1 H' := fun b o h => xb b o (e2 b o h) fun z => by rw [z, hx] at h; cases h
  have J := hJ.ex (e1.trans e3) (hJ.1.ex (e1.trans e3))
  exact ⟨Rs.fg (J.1.set (i := 6) (show Rv K H' (.ref x) (.o x CD (fsD n now [])) from ⟨rfl, ins⟩)) (fg_keep (fg_drop (fg_keep (fg_keep (fg_keep (fg_keep (fg_keep (fg_keep (fg_keep (fg_keep (fg_keep (fg_keep (fg_keep (fg_keep (fg_keep fg_nil))))))))))))))), J.2⟩
/-- _law_cell(script, k) -/
theorem hs_cell {f : Addr} {cdv : Value} {A : Around} {outer : List Env} {s : Shared} {H : Hp} {E : XK} {T : List (Addr × Str)} {CD CR CN aS : Addr} {ns : List Int} {k : Nat} {p q1 q2 p2 p3 p4 : Pos} (F : Pr P w K mg base T CD CR CN) (hr : Room 12 (lX P w K mg base f cdv A outer s H E).A)
    (he : starEach [.Name "_law_script" q1, .Name "_law_k" q2] (lX P w K mg base f cdv A outer s H E).env = (false, eval (.Name "_law_script" q1) (lX P w K mg base f cdv A outer s H E).env) :: starEach [.Name "_law_k" q2] (lX P w K mg base f cdv A outer s H E).env)
    (hsw : swapsWith (.Call (.Name "_law_cell" p) [.Name "_law_script" q1, .Name "_law_k" q2] [] p2) (some (.Name "_law_cell_here" p3)) p4.line (lX P w K mg base f cdv A outer s H E).env = pure false) :
    HS (lX P w K mg base f cdv A outer s H E) (.Assign [.Name "_law_cell_here" p3] (.Call (.Name "_law_cell" p) [.Name "_law_script" q1, .Name "_law_k" q2] [] p2) p4) (JJ K T aS ns (e15 aS (some (.d (.int (k : Int)))) none none none none)) (JJ K T aS ns (e15 aS (some (.d (.int (k : Int)))) (some (.d (.int (cellM ns k)))) none none none)) := by
  have nd : nLaw.Nodup := by decide +kernel
  obtain ⟨fc, fdc, c1, c2, c3, c4⟩ := F.cell
  refine (ps_set (X := lX P w K mg base f cdv A outer s H E) (i := 2) nd rfl (.inl rfl) (pe_call (x := "_law_cell") c2 (hr.mono (by decide)) rfl c1 c3 c4 .nil (pass0 (X := lX P w K mg base f cdv A outer s H E)) (pa_cons (pe_var (i := 0) rfl (.inl rfl)) (pa_cons (pe_var (i := 1) rfl (.inl rfl)) pa_nil)) (by decide) he rfl) hsw).imp fun D σ H ⟨hJ, q⟩ => ?_
  obtain ⟨v0, k0, r0⟩ := hJ.1.2 0 _ rfl
  obtain ⟨v1, k1, r1⟩ := hJ.1.2 1 _ rfl
  have r0' : v0 = .ref aS := r0
  rw [r0'] at k0
  rw [rv_int.mp r1] at k1
  exact ⟨.ref aS, k0, .int (k : Int), k1, aS, ns, k, rfl, hJ.2.1, q _ H ⟨hJ.1.set (i := 2) (rv_int.mpr rfl), hJ.2⟩⟩
def spLaw (K : PySem.W.Frag) (T : List (Addr × Str)) : Sp := fun vs H Q _ => ∃ (a : Addr) (ns : List Int), vs = [.ref a] ∧ LamX.Tabs T H ∧ SqL K H a (ns.map V.int) ∧ ∀ H', Q (.bl true) H'
theorem ok_law {f CD CR CN : Addr} {fd : FuncData} {T : List (Addr × Str)} (Fn : Fun K "law" "law" (topS 52) f fd) (G : Gm mg) (F : Pr P w K mg base T CD CR CN) : FnOk P w K mg base CX0 13 f fd ["_law_script"] (spLaw K T) := by
  refine Fn.ok (N := nLaw) ⟨rfl, rfl, rfl, by decide +kernel, rfl, by decide +kernel, by decide +kernel⟩ (by rintro vs H Q E ⟨a, ns, rfl, _⟩; rfl) (fun cdv A outer s H vs Q E hr ⟨aS, ns, ev, hT, hS, q⟩ => ?_)
  subst ev
  have nd : nLaw.Nodup := by decide +kernel
  have hr' : Room 12 (lX P w K mg base f cdv A outer s H E).A := hr
  have loop := hs_forR (X := lX P w K mg base f cdv A outer s H E) (n := 2) 1 (fun _ => JJ K T aS ns (e15 aS none none none none none)) PassesOwn.never rfl (pg_name (i := 1) nd rfl (.inl rfl)) rfl G.rng (by decide) (body := outB) (fun k hk => ?body) (p := ⟨302, 18, 302, 23⟩) (p2 := ⟨302, 18, 302, 26⟩) (p3 := ⟨302, 24, 302, 25⟩) (tp := ⟨302, 8, 302, 14⟩) (jj := 0) (x := "_law_k") (pos := ⟨302, 4, 318, 28⟩)
  case body =>
    have c1 : ∃ n : Nat, 1 + cellM ns k % 4 = (n : Int) ∧ 1 ≤ n ∧ n ≤ 4 := by
      have h1 := Int.emod_nonneg (cellM ns k) (show (4 : Int) ≠ 0 by decide)
      have h2 := Int.emod_lt_of_pos (cellM ns k) (show (0 : Int) < 4 by decide)
      exact ⟨(1 + cellM ns k % 4).toNat, by omega, by omega, by omega⟩
    obtain ⟨n, en, n1, n4⟩ := c1
    obtain ⟨vb, vl⟩ := rulesM_ok (cellM ns k / 4) n1 5
    refine hss_imp (P := JJ K T aS ns (e15 aS (some (.d (.int (k : Int)))) none none none none)) ?_ fun σ H ⟨σ0, e, h⟩ => by rw [e]; exact ⟨h.1.set (i := 1) (rv_int.mpr rfl), h.2⟩
    refine hss_cons (hs_cell F hr' rfl rfl) (hss_cons (hs_of (ds_set 3 (de_is (de_add (de_int (i := 1)) (de_mod (de_var 2) (de_int (i := 4)) (by decide))) (by rw [en])) nd)) (hss_cons (hs_of (ds_par (d1 := .d (.tuple (rsD (rulesM (cellM ns k / 4) n 5)))) (d2 := .d (.list (plD' []))) 4 5 rfl nd rfl rfl (by decide) rfl rfl (de_call (F.rules.mono (by decide)) hr' rfl (da_cons (de_fdiv (de_var 2) de_int ⟨by decide, by decide⟩) (da_cons (de_var 3) (da_cons de_int da_nil))) ⟨_, n, 5, n1, n4, by decide, rfl, rfl⟩) (de_lst (ds := []) da_nil (by decide)) rfl))
      (hss_cons (hs_desk F hr' n1 n4 vb vl (da_cons (de_tup (ds := [.int (n : Int), .tuple (rsD (rulesM (cellM ns k / 4) n 5))]) (da_cons (de_var 3) (da_cons (de_var 4) da_nil)) (show 2 ≤ 100000 by decide)) da_nil) rfl rfl) (hss_ex fun a => ?_))))
    have laps := hs_forR (X := lX P w K mg base f cdv A outer s H E) (n := 24) 7 (fun lap => fun σ H => ∃ now past, Good n now past lap ∧ JJ K T aS ns (eLap aS a CD (cellM ns k) n now now past past none none none none none none none) σ H) PassesOwn.never rfl (pg_name (i := 7) nd rfl (.inl rfl)) rfl G.rng (by decide) (body := lapB) (fun lap hl => ?lap) (p := ⟨307, 24, 307, 29⟩) (p2 := ⟨307, 24, 307, 33⟩) (p3 := ⟨307, 30, 307, 32⟩) (tp := ⟨307, 12, 307, 20⟩) (jj := 0) (x := "_law_lap") (pos := ⟨307, 8, 318, 28⟩)
    case lap =>
      refine hss_imp (P := fun σ H => ∃ now past, ∃ _ : Good n now past lap, JJ K T aS ns (eLap aS a CD (cellM ns k) n now now past past (some (.d (.int (lap : Int)))) none none none none none none) σ H) (hss_ex fun now => hss_ex fun past => hss_ex fun g => lap_all F G hr' g (by omega)) fun σ H ⟨σ0, e, now, past, g, h⟩ => ⟨now, past, g, ?_⟩
      rw [e]
      exact ⟨h.1.set (i := 7) (rv_int.mpr rfl), h.2⟩
    have start : ∀ σ H', JJ K T aS ns (eLap aS a CD (cellM ns k) n (rulesM (cellM ns k / 4) n 5) (rulesM (cellM ns k / 4) n 5) [] [] none none none none none none none) σ H' → ∃ now past, Good n now past 0 ∧ JJ K T aS ns (eLap aS a CD (cellM ns k) n now now past past none none none none none none none) σ H' := fun σ H' h => ⟨_, [], ⟨n1, n4, vb, vl, Nat.le_refl _, fun b hb => by cases hb⟩, h⟩
    refine hss_imp (hss_cons laps (hss_post hss_nil fun σ H' h => ?_)) start
    obtain ⟨now, past, g, h⟩ := h
    exact ⟨h.1.fg (fg_keep (fg_drop (fg_drop (fg_drop (fg_drop (fg_drop (fg_drop (fg_keep (fg_keep (fg_keep (fg_keep (fg_keep (fg_keep (fg_keep (fg_keep fg_nil))))))))))))))), h.2⟩
  refine ⟨_, pss_cons loop (pss_one (ps_ret pe_bl)), ⟨Rs.fg (rs_start (N := nLaw) (ds := [.v (.ref aS)]) (.cons rfl .nil)) (Fg.refl _), hS, hT⟩, fun σ' H' _ => q H'⟩
end
end DSW
set_option Elab.async false
set_option linter.all false
set_option maxRecDepth 100000
set_option maxHeartbeats 2000000
/-! What the top has written, and the law's promise. -/
namespace DSW
open PySem PySem.Spec PyProof.Rows L2 Evl
theorem exm_mk {K : PySem.W.Frag} {S C : Addr} {b : Bool} (h1 : PySem.W.subIn K (.ref C) (.type "BaseException") = some true) (h2 : PySem.W.isClsIn K C = true) (h3 : PySem.W.typeIn K (.ref C) = some (.type "type")) (h4 : PySem.W.subIn K (.ref S) (.ref C) = some b) : PySem.W.exmOne K (.ref S) (.ref C) = some b := by
  have a1 : (PySem.W.subIn K (.ref C) (.type "BaseException") == some true) = true := by rw [h1]; rfl
  have a3 : (PySem.W.clsIn K C).isSome = true := h2
  have a2 : ((PySem.W.clsIn K C).isSome && PySem.W.typeIn K (.ref C) == some (.type "type")) = true := by rw [a3, h3]; rfl
  unfold PySem.W.exmOne PySem.W.kitCls
  rw [if_pos a1]
  show (if _ then PySem.W.subIn K (.ref S) (.ref C) else none) = some b
  rw [if_pos a2]
  exact h4
section
variable {K : PySem.W.Frag} {h : Heap} {mg : Str → Option Value} {x qual : Str} {st : Stmt} {f C : Addr} {oc : Value} {od an : Option Addr} {osl : Array (Option Value)} {kV doc pm cdv ct : Value}
theorem df_mk (X : K.In h) (G : h.Ns mainGlobals mg) (a : PySem.W.nsIn K mainGlobals x = some (some (.ref f))) (l : K.lookup f = some ⟨oc, od, .func (PySem.W.fnOf x x (defArgs st) (defBody st) (defScope st) .none kV doc pm an cdv ct), osl⟩) (c : PySem.W.codeIn K cdv x = true) (k : PySem.W.keepIn K (.ref f) = true) : ∃ f fd, Df K mg x st f fd :=
  ⟨f, _, fun_mk l c k, PySem.W.mg_of X G a⟩
theorem df_mkc {cc : Addr} (X : K.In h) (G : h.Ns mainGlobals mg) (a : PySem.W.nsIn K mainGlobals x = some (some (.ref f))) (l : K.lookup f = some ⟨oc, od, .func (PySem.W.fnOf x x (defArgs st) (defBody st) (defScope st) .none kV doc pm an (.ref cc) ct), osl⟩) (c : PySem.W.codeIn K (.ref cc) x = true) (k : PySem.W.keepIn K (.ref f) = true) : ∃ f fd, Df K mg x st f fd ∧ fd.code = .ref cc :=
  ⟨f, _, ⟨fun_mk l c k, PySem.W.mg_of X G a⟩, rfl⟩
theorem df_mkl {fa : Addr} (X : K.In h) (G : h.Ns mainGlobals mg) (hfa : mg x = some (.ref fa)) (a : PySem.W.nsIn K mainGlobals x = some (some (.ref f))) (l : K.lookup f = some ⟨oc, od, .func (PySem.W.fnOf x x (defArgs st) (defBody st) (defScope st) .none kV doc pm an cdv ct), osl⟩) (c : PySem.W.codeIn K cdv x = true) (k : PySem.W.keepIn K (.ref f) = true) : ∃ fd, Df K mg x st fa fd := by
  have e := hfa.symm.trans (PySem.W.mg_of X G a)
  cases e
  exact ⟨_, fun_mk l c k, hfa⟩
theorem mt_mk (a : PySem.W.findIn K (.ref C) x = some (some (.ref f))) (i : PySem.W.isFn K (.ref f) = true) (l : K.lookup f = some ⟨oc, od, .func (PySem.W.fnOf x qual (defArgs st) (defBody st) (defScope st) .none kV doc pm an cdv ct), osl⟩) (c : PySem.W.codeIn K cdv qual = true) (k : PySem.W.keepIn K (.ref f) = true) : ∃ f fd, Fun K x qual st f fd ∧ Meth K C x f :=
  ⟨f, _, fun_mk l c k, a, i, k⟩
theorem bm_mk (a : PySem.W.findIn K (.ref C) "supposing" = some (some (.ref f))) (i : PySem.W.isFn K (.ref f) = true) (l : K.lookup f = some ⟨oc, od, .func (PySem.W.fnOf "supposing" qual (defArgs st) (defBody st) (defScope st) .none kV doc pm an cdv ct), osl⟩) (c : PySem.W.codeIn K cdv qual = true) (k : PySem.W.keepIn K (.ref f) = true)
    (g : PySem.W.specialIn K (.ref f) "__get__" = some (some (.builtin "function.__get__"))) (t : PySem.W.takesIn K (.ref f) = some false) (fi : PySem.W.fnIn K f = true) : ∃ f fd, Fun K "supposing" qual st f fd ∧ BMeth K C "supposing" f :=
  ⟨f, _, fun_mk l c k, ⟨a, i, k⟩, g, t, by decide +kernel, fi⟩
theorem pr_mk {p : Addr} {rest : List Value} (k1 : PySem.W.findIn K (.ref C) x = some (some (.ref p))) (k2 : PySem.W.specialIn K (.ref p) "__get__" = some (some (.builtin "property.__get__"))) (k3 : PySem.W.takesIn K (.ref p) = some true) (k4 : PySem.W.recIn K p "property" = some (.ref f :: rest))
    (l : K.lookup f = some ⟨oc, od, .func (PySem.W.fnOf x qual (defArgs st) (defBody st) (defScope st) .none kV doc pm an cdv ct), osl⟩) (c : PySem.W.codeIn K cdv qual = true) (k : PySem.W.keepIn K (.ref f) = true) : ∃ p g fd, PropOf K C x p g ∧ Fun K x qual st g fd :=
  ⟨p, f, _, ⟨k1, k2, k3, rest, k4⟩, fun_mk l c k⟩
end
theorem all_mk {l : PySem.W.OpenLaw} {w : World} {K : PySem.W.Frag} {h : Heap} {mg : Str → Option Value} {fa CD CS c Pt A0 A1 A2 A3 A4 A5 A6 A7 A8 A9 : Addr} (X : K.In h) (G : h.Ns mainGlobals mg)
    (aD : PySem.W.nsIn K mainGlobals "Desk" = some (some (.ref CD)))
    (aS : PySem.W.nsIn K mainGlobals "Supposing" = some (some (.ref CS)))
    (e0 : PySem.W.nsIn K mainGlobals "LimitError" = some (some (.ref A0)))
    (e1 : PySem.W.nsIn K mainGlobals "AtomsError" = some (some (.ref A1)))
    (e2 : PySem.W.nsIn K mainGlobals "BookError" = some (some (.ref A2)))
    (e3 : PySem.W.nsIn K mainGlobals "RuleError" = some (some (.ref A3)))
    (e4 : PySem.W.nsIn K mainGlobals "SetError" = some (some (.ref A4)))
    (e5 : PySem.W.nsIn K mainGlobals "MatchError" = some (some (.ref A5)))
    (e6 : PySem.W.nsIn K mainGlobals "TextError" = some (some (.ref A6)))
    (e7 : PySem.W.nsIn K mainGlobals "AtomError" = some (some (.ref A7)))
    (e8 : PySem.W.nsIn K mainGlobals "NumberError" = some (some (.ref A8)))
    (e9 : PySem.W.nsIn K mainGlobals "NothingError" = some (some (.ref A9)))
    (ic0 : PySem.W.isClsIn K A0 = true)
    (bE0 : PySem.W.subIn K (.ref A0) (.type "BaseException") = some true)
    (ty0 : PySem.W.typeIn K (.ref A0) = some (.type "type"))
    (ic1 : PySem.W.isClsIn K A1 = true)
    (bE1 : PySem.W.subIn K (.ref A1) (.type "BaseException") = some true)
    (ty1 : PySem.W.typeIn K (.ref A1) = some (.type "type"))
    (ic2 : PySem.W.isClsIn K A2 = true)
    (bE2 : PySem.W.subIn K (.ref A2) (.type "BaseException") = some true)
    (ty2 : PySem.W.typeIn K (.ref A2) = some (.type "type"))
    (ic3 : PySem.W.isClsIn K A3 = true)
    (bE3 : PySem.W.subIn K (.ref A3) (.type "BaseException") = some true)
    (ty3 : PySem.W.typeIn K (.ref A3) = some (.type "type"))
    (ic4 : PySem.W.isClsIn K A4 = true)
    (bE4 : PySem.W.subIn K (.ref A4) (.type "BaseException") = some true)
    (ty4 : PySem.W.typeIn K (.ref A4) = some (.type "type"))
    (ic5 : PySem.W.isClsIn K A5 = true)
    (bE5 : PySem.W.subIn K (.ref A5) (.type "BaseException") = some true)
    (ty5 : PySem.W.typeIn K (.ref A5) = some (.type "type"))
    (ic6 : PySem.W.isClsIn K A6 = true)
    (bE6 : PySem.W.subIn K (.ref A6) (.type "BaseException") = some true)
    (ty6 : PySem.W.typeIn K (.ref A6) = some (.type "type"))
    (ic7 : PySem.W.isClsIn K A7 = true)
    (bE7 : PySem.W.subIn K (.ref A7) (.type "BaseException") = some true)
    (ty7 : PySem.W.typeIn K (.ref A7) = some (.type "type"))
    (ic8 : PySem.W.isClsIn K A8 = true)
    (bE8 : PySem.W.subIn K (.ref A8) (.type "BaseException") = some true)
    (ty8 : PySem.W.typeIn K (.ref A8) = some (.type "type"))
    (ic9 : PySem.W.isClsIn K A9 = true)
    (bE9 : PySem.W.subIn K (.ref A9) (.type "BaseException") = some true)
    (ty9 : PySem.W.typeIn K (.ref A9) = some (.type "type"))
    (xE3 : PySem.W.excIn K A3 [.type "ValueError", .type "Exception", .type "BaseException", .type "object"] "ValueError.__new__" = true)
    (kE3 : PySem.W.keepIn K (.ref A3) = true)
    (s3_0 : PySem.W.subIn K (.ref A3) (.ref A0) = some false)
    (s3_1 : PySem.W.subIn K (.ref A3) (.ref A1) = some false)
    (s3_2 : PySem.W.subIn K (.ref A3) (.ref A2) = some false)
    (s3_3 : PySem.W.subIn K (.ref A3) (.ref A3) = some true)
    (xE9 : PySem.W.excIn K A9 [.type "ValueError", .type "Exception", .type "BaseException", .type "object"] "ValueError.__new__" = true)
    (kE9 : PySem.W.keepIn K (.ref A9) = true)
    (s9_0 : PySem.W.subIn K (.ref A9) (.ref A0) = some false)
    (s9_1 : PySem.W.subIn K (.ref A9) (.ref A1) = some false)
    (s9_2 : PySem.W.subIn K (.ref A9) (.ref A2) = some false)
    (s9_3 : PySem.W.subIn K (.ref A9) (.ref A3) = some false)
    (s9_4 : PySem.W.subIn K (.ref A9) (.ref A4) = some false)
    (s9_5 : PySem.W.subIn K (.ref A9) (.ref A5) = some false)
    (s9_6 : PySem.W.subIn K (.ref A9) (.ref A6) = some false)
    (s9_7 : PySem.W.subIn K (.ref A9) (.ref A7) = some false)
    (s9_8 : PySem.W.subIn K (.ref A9) (.ref A8) = some false)
    (s9_9 : PySem.W.subIn K (.ref A9) (.ref A9) = some true)
    (pgD : PySem.W.plainGet K CD Str.empty = true)
    (hdD : PySem.W.hasDictIn K CD = true)
    (poD : PySem.W.plainOver K CD = true)
    (saD : PySem.W.findIn K (.ref CD) "__setattr__" = some (some (.builtin "object.__setattr__")))
    (mkD : PySem.W.makesIn K CD = true)
    (kcD : PySem.W.keepIn K (.ref CD) = true)
    (pgS : PySem.W.plainGet K CS Str.empty = true)
    (hdS : PySem.W.hasDictIn K CS = true)
    (poS : PySem.W.plainOver K CS = true)
    (saS : PySem.W.findIn K (.ref CS) "__setattr__" = some (some (.builtin "object.__setattr__")))
    (mkS : PySem.W.makesIn K CS = true)
    (kcS : PySem.W.keepIn K (.ref CS) = true)
    (nD_current : PySem.W.findIn K (.ref CD) "current" = some none)
    (nD_past : PySem.W.findIn K (.ref CD) "past" = some none)
    (nS_desk : PySem.W.findIn K (.ref CS) "desk" = some none)
    (nS_rules : PySem.W.findIn K (.ref CS) "rules" = some none)
    (nS_kept : PySem.W.findIn K (.ref CS) "kept" = some none)
    (nS_before : PySem.W.findIn K (.ref CS) "before" = some none)
    (b_isinstance : PySem.W.nsIn K mainGlobals "isinstance" = some none)
    (b_int : PySem.W.nsIn K mainGlobals "int" = some none)
    (b_bool : PySem.W.nsIn K mainGlobals "bool" = some none)
    (b_str : PySem.W.nsIn K mainGlobals "str" = some none)
    (b_tuple : PySem.W.nsIn K mainGlobals "tuple" = some none)
    (b_all : PySem.W.nsIn K mainGlobals "all" = some none)
    (b_len : PySem.W.nsIn K mainGlobals "len" = some none)
    (b_set : PySem.W.nsIn K mainGlobals "set" = some none)
    (b_sorted : PySem.W.nsIn K mainGlobals "sorted" = some none)
    (b_range : PySem.W.nsIn K mainGlobals "range" = some none)
    (b_zip : PySem.W.nsIn K mainGlobals "zip" = some none)
    (mA : ∃ t, PySem.W.nsIn K mainGlobals "MOST_ATOMS" = some (some (.int 4 t)))
    (mR : ∃ t, PySem.W.nsIn K mainGlobals "MOST_RULES" = some (some (.int 100 t)))
    (tP : h.get? Pt = some { cls := .none, data := .fields #[] })
    (pn : K.lookup Pt = none)
    (d_is_integer : ∃ f fd, Df K mg "is_integer" (topS 16) f fd)
    (d_is_atoms : ∃ f fd, Df K mg "is_atoms" (topS 17) f fd)
    (d_is_atom : ∃ f fd, Df K mg "is_atom" (topS 18) f fd)
    (d_is_set : ∃ f fd, Df K mg "is_set" (topS 19) f fd)
    (d_are_rule_parts : ∃ f fd, Df K mg "are_rule_parts" (topS 20) f fd)
    (d_is_rulebook : ∃ f fd, Df K mg "is_rulebook" (topS 21) f fd)
    (d_need_book : ∃ f fd, Df K mg "need_book" (topS 22) f fd)
    (d_is_within : ∃ f fd, Df K mg "is_within" (topS 23) f fd)
    (d_sets_of : ∃ f fd, Df K mg "sets_of" (topS 24) f fd)
    (d_remains : ∃ f fd, Df K mg "remains" (topS 25) f fd)
    (d_obeys : ∃ f fd, Df K mg "obeys" (topS 26) f fd)
    (d_violates : ∃ f fd, Df K mg "violates" (topS 27) f fd)
    (d_least_of : ∃ f fd, Df K mg "least_of" (topS 28) f fd)
    (d_violated_in : ∃ f fd, Df K mg "violated_in" (topS 30) f fd)
    (d_is_settled_in : ∃ f fd, Df K mg "is_settled_in" (topS 31) f fd)
    (d_settled_sets : ∃ f fd, Df K mg "settled_sets" (topS 32) f fd)
    (d_with_rules : ∃ f fd, Df K mg "with_rules" (topS 34) f fd)
    (d_need_room : ∃ f fd, Df K mg "need_room" (topS 35) f fd)
    (d__law_cell : ∃ f fd, Df K mg "_law_cell" (topS 39) f fd)
    (d__law_draws : ∃ f fd, Df K mg "_law_draws" (topS 40) f fd)
    (d__law_is_same : ∃ f fd, Df K mg "_law_is_same" (topS 41) f fd)
    (d__law_sets : ∃ f fd, Df K mg "_law_sets" (topS 42) f fd)
    (d__law_rule : ∃ f fd, Df K mg "_law_rule" (topS 43) f fd)
    (d__law_rules : ∃ f fd, Df K mg "_law_rules" (topS 44) f fd)
    (d__law_is_within : ∃ f fd, Df K mg "_law_is_within" (topS 45) f fd)
    (d__law_is_settled : ∃ f fd, Df K mg "_law_is_settled" (topS 46) f fd)
    (d__law_settled : ∃ f fd, Df K mg "_law_settled" (topS 47) f fd)
    (d__law_joined : ∃ f fd, Df K mg "_law_joined" (topS 48) f fd)
    (d__law_word : ∃ f fd, Df K mg "_law_word" (topS 49) f fd)
    (d__law_due : ∃ f fd, Df K mg "_law_due" (topS 51) f fd)
    (d_law_call : ∃ f fd, Df K mg "_law_call" (topS 50) f fd ∧ fd.code = .ref c)
    (ch : PySem.W.codeHdIn K c Pt = true)
    (d_law : ∃ fd, Df K mg "law" (topS 52) fa fd)
    (m_need_match : ∃ f fd, Fun K "need_match" "Desk.need_match" (sDk 5) f fd ∧ Meth K CD "need_match" f)
    (m_change : ∃ f fd, Fun K "change" "Desk.change" (sDk 6) f fd ∧ Meth K CD "change" f)
    (m_assign_book : ∃ f fd, Fun K "assign_book" "Desk.assign_book" (sDk 7) f fd ∧ Meth K CD "assign_book" f)
    (m_add : ∃ f fd, Fun K "add" "Desk.add" (sDk 8) f fd ∧ Meth K CD "add" f)
    (m_drop : ∃ f fd, Fun K "drop" "Desk.drop" (sDk 9) f fd ∧ Meth K CD "drop" f)
    (m_undo : ∃ f fd, Fun K "undo" "Desk.undo" (sDk 10) f fd ∧ Meth K CD "undo" f)
    (m_settled_supposing : ∃ f fd, Fun K "settled_supposing" "Desk.settled_supposing" (sDk 13) f fd ∧ Meth K CD "settled_supposing" f)
    (m_init : ∃ f fd, Fun K "__init__" "Desk.__init__" (sDk 0) f fd ∧ Meth K CD "__init__" f)
    (m_sup : ∃ f fd, Fun K "supposing" "Desk.supposing" (sDk 12) f fd ∧ BMeth K CD "supposing" f)
    (s__init__ : ∃ f fd, Fun K "__init__" "Supposing.__init__" (sSp 0) f fd ∧ Meth K CS "__init__" f)
    (s__enter__ : ∃ f fd, Fun K "__enter__" "Supposing.__enter__" (sSp 1) f fd ∧ Meth K CS "__enter__" f)
    (s__exit__ : ∃ f fd, Fun K "__exit__" "Supposing.__exit__" (sSp 2) f fd ∧ Meth K CS "__exit__" f)
    (p_book : ∃ p g fd, PropOf K CD "book" p g ∧ Fun K "book" "Desk.book" (sDk 1) g fd)
    (p_changes : ∃ p g fd, PropOf K CD "changes" p g ∧ Fun K "changes" "Desk.changes" (sDk 3) g fd)
    (p_settled : ∃ p g fd, PropOf K CD "settled" p g ∧ Fun K "settled" "Desk.settled" (sDk 4) g fd) : LamX.LawAtS l w K CX0 13 63 "_law_script" mg fa h := by
  have Gm0 : Gm mg := ⟨PySem.W.mg_none_of X G b_isinstance, PySem.W.mg_none_of X G b_int, PySem.W.mg_none_of X G b_bool, PySem.W.mg_none_of X G b_str, PySem.W.mg_none_of X G b_tuple, PySem.W.mg_none_of X G b_all, PySem.W.mg_none_of X G b_len, PySem.W.mg_none_of X G b_set, PySem.W.mg_none_of X G b_sorted, PySem.W.mg_none_of X G b_range, PySem.W.mg_none_of X G b_zip, let ⟨t, z⟩ := mA; ⟨t, PySem.W.mg_of X G z⟩, let ⟨t, z⟩ := mR; ⟨t, PySem.W.mg_of X G z⟩⟩
  obtain ⟨f_is_integer, fd_is_integer, D_is_integer⟩ := d_is_integer
  obtain ⟨f_is_atoms, fd_is_atoms, D_is_atoms⟩ := d_is_atoms
  obtain ⟨f_is_atom, fd_is_atom, D_is_atom⟩ := d_is_atom
  obtain ⟨f_is_set, fd_is_set, D_is_set⟩ := d_is_set
  obtain ⟨f_are_rule_parts, fd_are_rule_parts, D_are_rule_parts⟩ := d_are_rule_parts
  obtain ⟨f_is_rulebook, fd_is_rulebook, D_is_rulebook⟩ := d_is_rulebook
  obtain ⟨f_need_book, fd_need_book, D_need_book⟩ := d_need_book
  obtain ⟨f_is_within, fd_is_within, D_is_within⟩ := d_is_within
  obtain ⟨f_sets_of, fd_sets_of, D_sets_of⟩ := d_sets_of
  obtain ⟨f_remains, fd_remains, D_remains⟩ := d_remains
  obtain ⟨f_obeys, fd_obeys, D_obeys⟩ := d_obeys
  obtain ⟨f_violates, fd_violates, D_violates⟩ := d_violates
  obtain ⟨f_least_of, fd_least_of, D_least_of⟩ := d_least_of
  obtain ⟨f_violated_in, fd_violated_in, D_violated_in⟩ := d_violated_in
  obtain ⟨f_is_settled_in, fd_is_settled_in, D_is_settled_in⟩ := d_is_settled_in
  obtain ⟨f_settled_sets, fd_settled_sets, D_settled_sets⟩ := d_settled_sets
  obtain ⟨f_with_rules, fd_with_rules, D_with_rules⟩ := d_with_rules
  obtain ⟨f_need_room, fd_need_room, D_need_room⟩ := d_need_room
  obtain ⟨f__law_cell, fd__law_cell, D__law_cell⟩ := d__law_cell
  obtain ⟨f__law_draws, fd__law_draws, D__law_draws⟩ := d__law_draws
  obtain ⟨f__law_is_same, fd__law_is_same, D__law_is_same⟩ := d__law_is_same
  obtain ⟨f__law_sets, fd__law_sets, D__law_sets⟩ := d__law_sets
  obtain ⟨f__law_rule, fd__law_rule, D__law_rule⟩ := d__law_rule
  obtain ⟨f__law_rules, fd__law_rules, D__law_rules⟩ := d__law_rules
  obtain ⟨f__law_is_within, fd__law_is_within, D__law_is_within⟩ := d__law_is_within
  obtain ⟨f__law_is_settled, fd__law_is_settled, D__law_is_settled⟩ := d__law_is_settled
  obtain ⟨f__law_settled, fd__law_settled, D__law_settled⟩ := d__law_settled
  obtain ⟨f__law_joined, fd__law_joined, D__law_joined⟩ := d__law_joined
  obtain ⟨f__law_word, fd__law_word, D__law_word⟩ := d__law_word
  obtain ⟨f__law_due, fd__law_due, D__law_due⟩ := d__law_due
  obtain ⟨fC, fdC, D_call, hcode⟩ := d_law_call
  obtain ⟨fdL, D_law⟩ := d_law
  obtain ⟨g_need_match, gd_need_match, N_need_match, M_need_match⟩ := m_need_match
  obtain ⟨g_change, gd_change, N_change, M_change⟩ := m_change
  obtain ⟨g_assign_book, gd_assign_book, N_assign_book, M_assign_book⟩ := m_assign_book
  obtain ⟨g_add, gd_add, N_add, M_add⟩ := m_add
  obtain ⟨g_drop, gd_drop, N_drop, M_drop⟩ := m_drop
  obtain ⟨g_undo, gd_undo, N_undo, M_undo⟩ := m_undo
  obtain ⟨g_settled_supposing, gd_settled_supposing, N_settled_supposing, M_settled_supposing⟩ := m_settled_supposing
  obtain ⟨g_init, gd_init, N_init, M_init⟩ := m_init
  obtain ⟨g_sup, gd_sup, N_sup, M_sup⟩ := m_sup
  obtain ⟨h_init, hd_init, O_init, Q_init⟩ := s__init__
  obtain ⟨h_enter, hd_enter, O_enter, Q_enter⟩ := s__enter__
  obtain ⟨h_exit, hd_exit, O_exit, Q_exit⟩ := s__exit__
  obtain ⟨p1_book, pg_book, pd_book, V_book, U_book⟩ := p_book
  obtain ⟨p1_changes, pg_changes, pd_changes, V_changes, U_changes⟩ := p_changes
  obtain ⟨p1_settled, pg_settled, pd_settled, V_settled, U_settled⟩ := p_settled
  have TD : DkC K CD := ⟨⟨pgD, hdD, poD, saD⟩, nD_current, nD_past⟩
  have TS : SpC K CS := ⟨⟨pgS, hdS, poS, saS⟩, nS_desk, nS_rules, nS_kept, nS_before⟩
  have ER : ErrC K mg "RuleError" A3 := ⟨xE3, PySem.W.mg_of X G e3, kE3, bE3, ty3⟩
  have EN : ErrC K mg "NothingError" A9 := ⟨xE9, PySem.W.mg_of X G e9, kE9, bE9, ty9⟩
  have W : WordF K mg A3 A9 (.ref A0) (.ref A1) (.ref A2) (.ref A4) (.ref A5) (.ref A6) (.ref A7) (.ref A8) := ⟨PySem.W.mg_of X G e0, PySem.W.mg_of X G e1, PySem.W.mg_of X G e2, PySem.W.mg_of X G e3, PySem.W.mg_of X G e4, PySem.W.mg_of X G e5, PySem.W.mg_of X G e6, PySem.W.mg_of X G e7, PySem.W.mg_of X G e8, PySem.W.mg_of X G e9, exm_mk bE0 ic0 ty0 s3_0, exm_mk bE1 ic1 ty1 s3_1, exm_mk bE2 ic2 ty2 s3_2, exm_mk bE3 ic3 ty3 s3_3, exm_mk bE0 ic0 ty0 s9_0, exm_mk bE1 ic1 ty1 s9_1, exm_mk bE2 ic2 ty2 s9_2, exm_mk bE3 ic3 ty3 s9_3, exm_mk bE4 ic4 ty4 s9_4, exm_mk bE5 ic5 ty5 s9_5, exm_mk bE6 ic6 ty6 s9_6, exm_mk bE7 ic7 ty7 s9_7, exm_mk bE8 ic8 ty8 s9_8, exm_mk bE9 ic9 ty9 s9_9⟩
  have key : ∀ base : Heap, K.In base → base.Ns mainGlobals mg → LamX.TabB base mg c Pt → FnOk l.prog w K mg base CX0 13 fa fdL ["_law_script"] (spLaw K [(Pt, qCall)]) := by
    intro base _ _ TB
    have F1 := pf_is_integer (P := l.prog) (w := w) (base := base) D_is_integer Gm0
    have F2 := pf_is_atoms D_is_atoms Gm0 F1
    have F3 := pf_is_atom D_is_atom Gm0 F1
    have F4 := pf_is_set D_is_set Gm0 F3
    have F5 := pf_are_rule_parts D_are_rule_parts Gm0 F3 F4
    have F6 := pf_is_rulebook D_is_rulebook Gm0 F2 F5
    have F7 := pf_need_book D_need_book F6
    have F8 := pf_is_within (P := l.prog) (w := w) (base := base) D_is_within Gm0
    have F9 := pf_sets_of (P := l.prog) (w := w) (base := base) D_sets_of Gm0
    have F10 := pf_remains (P := l.prog) (w := w) (base := base) D_remains Gm0
    have F11 := pf_obeys D_obeys Gm0 F8
    have F12 := pf_violates D_violates Gm0 F10 F11
    have F13 := pf_least_of D_least_of Gm0 F10 F11
    have F14 := pf_violated_in D_violated_in Gm0 F12
    have F15 := pf_is_settled_in D_is_settled_in Gm0 F13 F14
    have F16 := pf_settled_sets D_settled_sets Gm0 F9 F15
    have F17 := pf_with_rules (P := l.prog) (w := w) (base := base) D_with_rules Gm0
    have F18 := pf_need_room (P := l.prog) (w := w) (base := base) D_need_room Gm0
    have F20 := pf_law_draws (P := l.prog) (w := w) (base := base) D__law_draws Gm0
    have F21 := pf_same (P := l.prog) (w := w) (base := base) D__law_is_same Gm0 6
    have F22 := pf_law_sets (P := l.prog) (w := w) (base := base) D__law_sets Gm0
    have F23 := pf_law_rule (P := l.prog) (w := w) (base := base) D__law_rule Gm0
    have F24 := pf_law_rules D__law_rules Gm0 F20 F23
    have F25 := pf_law_is_within (P := l.prog) (w := w) (base := base) D__law_is_within Gm0
    have F26 := pf_law_is_settled D__law_is_settled Gm0 F25
    have F27 := pf_law_settled D__law_settled Gm0 F22 F26
    have F28 := pf_law_joined (P := l.prog) (w := w) (base := base) D__law_joined Gm0
    have F29 := pf_law_due D__law_due Gm0 F27 F28
    have C1 := ok_desk_init N_init TD F7
    have C2 := mf_change (P := l.prog) (w := w) (mg := mg) (base := base) N_change M_change TD
    have C3 := mf_need_match N_need_match M_need_match TD F7
    have C4 := mf_assign N_assign_book M_assign_book TD C3 C2
    have C5 := mf_add N_add M_add TD ER Gm0 F5 F18 C2
    have C6 := mf_drop N_drop M_drop TD ER Gm0 F5 C2
    have C7 := mf_undo (P := l.prog) (w := w) (base := base) N_undo M_undo TD EN Gm0
    have I1 := ok_supp_init (P := l.prog) (w := w) (mg := mg) (base := base) O_init TD TS
    have I2 := ok_supp_enter O_enter TD TS F17
    have I3 := ok_supp_exit (P := l.prog) (w := w) (mg := mg) (base := base) O_exit TD TS
    have b0 := (N_init.binds (ps := ["self", "book"]) fun _ _ _ _ _ _ us hl => match us, hl with | [_, _], _ => rfl)
    have b1 := (O_init.binds (ps := ["self", "desk", "rules"]) fun _ _ _ _ _ _ us hl => match us, hl with | [_, _, _], _ => rfl)
    have b2 := (O_enter.binds (ps := ["self"]) fun _ _ _ _ _ _ us hl => match us, hl with | [_], _ => rfl)
    have b3 := (O_exit.binds (ps := ["self", "kind", "value", "trace"]) fun _ _ _ _ _ _ us hl => match us, hl with | [_, _, _, _], _ => rfl)
    have b4 := (U_book.binds (ps := ["self"]) fun _ _ _ _ _ _ us hl => match us, hl with | [_], _ => rfl)
    have b5 := (U_changes.binds (ps := ["self"]) fun _ _ _ _ _ _ us hl => match us, hl with | [_], _ => rfl)
    have b6 := (U_settled.binds (ps := ["self"]) fun _ _ _ _ _ _ us hl => match us, hl with | [_], _ => rfl)
    have b7 := (D__law_cell.fn.binds (ps := ["_law_script", "_law_k"]) fun _ _ _ _ _ _ us hl => match us, hl with | [_, _], _ => rfl)
    have b8 := (D_call.fn.binds (ps := ["_law_desk", "_law_way", "_law_atoms", "_law_rule_here", "_law_rules_here"]) fun _ _ _ _ _ _ us hl => match us, hl with | [_, _, _, _, _], _ => rfl)
    have S1 := fn_supposing N_sup TD Gm0 F5 F18 F17 (⟨mkS, Q_init.at_, Q_init.fn, kcS⟩ : Mk K CS h_init) (PySem.W.mg_of X G aS) I1 b1
    have V3 := ok_settled U_settled TD Gm0 F16
    have S2 := fn_settled_supposing N_settled_supposing TD M_sup S1 Q_enter.at_ Q_enter.fn Q_exit.at_ Q_exit.fn I2 b2 I3 b3 V_settled V3 b6
    have dm : Dm l.prog w K mg base CD A3 A9 := ⟨TD.cl, C5, C6, C4, C7, g_settled_supposing, M_settled_supposing, S2⟩
    have L1 := ok_law_call (P := l.prog) (w := w) D_call.fn hcode W D__law_word.fn D__law_word.mg TB dm
    have L2 := ok_law_cell (P := l.prog) (w := w) (base := base) D__law_cell Gm0
    exact ok_law D_law.fn Gm0 ⟨⟨_, _, D__law_cell.mg, L2, D__law_cell.fn.kp, b7⟩, F20, F23, F24, F21, F27, F29, ⟨_, _, _, D_call.mg, L1, D_call.fn.kp, b8⟩, ⟨_, _, ⟨mkD, M_init.at_, M_init.fn, kcD⟩, PySem.W.mg_of X G aD, C1, b0⟩, TD.cl, ⟨_, _, _, V_book, ok_book U_book TD, b4⟩, ⟨_, _, _, V_changes, ok_changes U_changes TD Gm0, b5⟩, ⟨_, _, _, V_settled, V3, b6⟩⟩
  refine ⟨fdL, [(c, Pt)], spLaw K [(Pt, qCall)], fun p hp => by rw [List.mem_singleton.mp hp]; exact tP, fun p hp => by rw [List.mem_singleton.mp hp]; exact pn, fun p hp => by rw [List.mem_singleton.mp hp]; exact PySem.W.codeHd_of_K X ch, ?_, ?_, ?_⟩
  · obtain ⟨oc, od, kV, doc, pm, an, cdv, ct, osl, e1, _, _⟩ := D_law.fn.ex
    intro s u
    rw [e1]
    exact .of_eq rfl
  · intro H a ns _ _ hT hS
    exact ⟨a, ns, rfl, fun p hp => by rw [List.mem_singleton.mp hp]; exact LamX.TabS.nil (hT _ (List.Mem.head _)), hS, fun _ => rfl⟩
  · intro base hK hN hT
    exact key base hK hN (hT _ (List.Mem.head _))
end DSW
set_option maxRecDepth 100000
set_option maxHeartbeats 0
open PySem PySem.W PyProof.Rows
theorem PySem.Challenge.cw_defaultswaps_k64_whole_desks_by_a_model_holds : PySem.Challenge.rw_defaultswaps_k64_whole_desks_by_a_model.Holds := by
  w_on; o_law; k_head; (case hw => w_witness2)
  k_fill
  refine LamX.walk_ofTs (l := PySem.Challenge.rw_defaultswaps_k64_whole_desks_by_a_model) (n := 63) (k := 13) (x := "_law_script") (CX := fun w => L2.CX0) rfl (by decide) rfl ⟨rfl, by decide, by decide⟩ (fun w h Y => PySem.W.km_in_of Y) ?F ?hx
  case hx => intro _ _ _ _ _ z; exact z
  case F =>
    intro w mg fa h Y KX G hmg
    refine' DSW.all_mk KX G ?aD ?aS ?e0 ?e1 ?e2 ?e3 ?e4 ?e5 ?e6 ?e7 ?e8 ?e9 ?ic0 ?bE0 ?ty0 ?ic1 ?bE1 ?ty1 ?ic2 ?bE2 ?ty2 ?ic3 ?bE3 ?ty3 ?ic4 ?bE4 ?ty4 ?ic5 ?bE5 ?ty5 ?ic6 ?bE6 ?ty6 ?ic7 ?bE7 ?ty7 ?ic8 ?bE8 ?ty8 ?ic9 ?bE9 ?ty9 ?xE3 ?kE3 ?s3_0 ?s3_1 ?s3_2 ?s3_3 ?xE9 ?kE9 ?s9_0 ?s9_1 ?s9_2 ?s9_3 ?s9_4 ?s9_5 ?s9_6 ?s9_7 ?s9_8 ?s9_9 ?pgD ?hdD ?poD ?saD ?mkD ?kcD ?pgS ?hdS ?poS ?saS ?mkS ?kcS ?nD_current ?nD_past ?nS_desk ?nS_rules ?nS_kept ?nS_before ?b_isinstance ?b_int ?b_bool ?b_str ?b_tuple ?b_all ?b_len ?b_set ?b_sorted ?b_range ?b_zip ?mA ?mR ?tP ?pn ?d_is_integer ?d_is_atoms ?d_is_atom ?d_is_set ?d_are_rule_parts ?d_is_rulebook ?d_need_book ?d_is_within ?d_sets_of ?d_remains ?d_obeys ?d_violates ?d_least_of ?d_violated_in ?d_is_settled_in ?d_settled_sets ?d_with_rules ?d_need_room ?d__law_cell ?d__law_draws ?d__law_is_same ?d__law_sets ?d__law_rule ?d__law_rules ?d__law_is_within ?d__law_is_settled ?d__law_settled ?d__law_joined ?d__law_word ?d__law_due ?d_law_call ?ch ?d_law ?m_need_match ?m_change ?m_assign_book ?m_add ?m_drop ?m_undo ?m_settled_supposing ?m_init ?m_sup ?s__init__ ?s__enter__ ?s__exit__ ?p_book ?p_changes ?p_settled
    (case aD => k_is)
    (case aS => k_is)
    (case e0 => k_is)
    (case e1 => k_is)
    (case e2 => k_is)
    (case e3 => k_is)
    (case e4 => k_is)
    (case e5 => k_is)
    (case e6 => k_is)
    (case e7 => k_is)
    (case e8 => k_is)
    (case e9 => k_is)
    (case ic0 => k_is)
    (case bE0 => k_is)
    (case ty0 => k_is)
    (case ic1 => k_is)
    (case bE1 => k_is)
    (case ty1 => k_is)
    (case ic2 => k_is)
    (case bE2 => k_is)
    (case ty2 => k_is)
    (case ic3 => k_is)
    (case bE3 => k_is)
    (case ty3 => k_is)
    (case ic4 => k_is)
    (case bE4 => k_is)
    (case ty4 => k_is)
    (case ic5 => k_is)
    (case bE5 => k_is)
    (case ty5 => k_is)
    (case ic6 => k_is)
    (case bE6 => k_is)
    (case ty6 => k_is)
    (case ic7 => k_is)
    (case bE7 => k_is)
    (case ty7 => k_is)
    (case ic8 => k_is)
    (case bE8 => k_is)
    (case ty8 => k_is)
    (case ic9 => k_is)
    (case bE9 => k_is)
    (case ty9 => k_is)
    (case xE3 => k_exc)
    (case kE3 => k_is)
    (case s3_0 => first | k_is | rfl)
    (case s3_1 => first | k_is | rfl)
    (case s3_2 => first | k_is | rfl)
    (case s3_3 => first | k_is | rfl)
    (case xE9 => k_exc)
    (case kE9 => k_is)
    (case s9_0 => first | k_is | rfl)
    (case s9_1 => first | k_is | rfl)
    (case s9_2 => first | k_is | rfl)
    (case s9_3 => first | k_is | rfl)
    (case s9_4 => first | k_is | rfl)
    (case s9_5 => first | k_is | rfl)
    (case s9_6 => first | k_is | rfl)
    (case s9_7 => first | k_is | rfl)
    (case s9_8 => first | k_is | rfl)
    (case s9_9 => first | k_is | rfl)
    (case pgD => k_is)
    (case hdD => k_is)
    (case poD => k_is)
    (case saD => k_is)
    (case mkD => k_is)
    (case kcD => k_is)
    (case pgS => k_is)
    (case hdS => k_is)
    (case poS => k_is)
    (case saS => k_is)
    (case mkS => k_is)
    (case kcS => k_is)
    (case nD_current => k_is)
    (case nD_past => k_is)
    (case nS_desk => k_is)
    (case nS_rules => k_is)
    (case nS_kept => k_is)
    (case nS_before => k_is)
    (case b_isinstance => k_is)
    (case b_int => k_is)
    (case b_bool => k_is)
    (case b_str => k_is)
    (case b_tuple => k_is)
    (case b_all => k_is)
    (case b_len => k_is)
    (case b_set => k_is)
    (case b_sorted => k_is)
    (case b_range => k_is)
    (case b_zip => k_is)
    (case mA => exact ⟨_, by k_is⟩)
    (case mR => exact ⟨_, by k_is⟩)
    (case tP => exact PySem.W.km_tabs_of Y _ (List.Mem.head _))
    (case pn => kernel_rfl)
    (case d_is_integer => refine' DSW.df_mk KX G ?ka ?kl ?kc ?kk; (case ka => k_is); (case kl => k_is); (case kc => k_is); (case kk => k_is))
    (case d_is_atoms => refine' DSW.df_mk KX G ?ka ?kl ?kc ?kk; (case ka => k_is); (case kl => k_is); (case kc => k_is); (case kk => k_is))
    (case d_is_atom => refine' DSW.df_mk KX G ?ka ?kl ?kc ?kk; (case ka => k_is); (case kl => k_is); (case kc => k_is); (case kk => k_is))
    (case d_is_set => refine' DSW.df_mk KX G ?ka ?kl ?kc ?kk; (case ka => k_is); (case kl => k_is); (case kc => k_is); (case kk => k_is))
    (case d_are_rule_parts => refine' DSW.df_mk KX G ?ka ?kl ?kc ?kk; (case ka => k_is); (case kl => k_is); (case kc => k_is); (case kk => k_is))
    (case d_is_rulebook => refine' DSW.df_mk KX G ?ka ?kl ?kc ?kk; (case ka => k_is); (case kl => k_is); (case kc => k_is); (case kk => k_is))
    (case d_need_book => refine' DSW.df_mk KX G ?ka ?kl ?kc ?kk; (case ka => k_is); (case kl => k_is); (case kc => k_is); (case kk => k_is))
    (case d_is_within => refine' DSW.df_mk KX G ?ka ?kl ?kc ?kk; (case ka => k_is); (case kl => k_is); (case kc => k_is); (case kk => k_is))
    (case d_sets_of => refine' DSW.df_mk KX G ?ka ?kl ?kc ?kk; (case ka => k_is); (case kl => k_is); (case kc => k_is); (case kk => k_is))
    (case d_remains => refine' DSW.df_mk KX G ?ka ?kl ?kc ?kk; (case ka => k_is); (case kl => k_is); (case kc => k_is); (case kk => k_is))
    (case d_obeys => refine' DSW.df_mk KX G ?ka ?kl ?kc ?kk; (case ka => k_is); (case kl => k_is); (case kc => k_is); (case kk => k_is))
    (case d_violates => refine' DSW.df_mk KX G ?ka ?kl ?kc ?kk; (case ka => k_is); (case kl => k_is); (case kc => k_is); (case kk => k_is))
    (case d_least_of => refine' DSW.df_mk KX G ?ka ?kl ?kc ?kk; (case ka => k_is); (case kl => k_is); (case kc => k_is); (case kk => k_is))
    (case d_violated_in => refine' DSW.df_mk KX G ?ka ?kl ?kc ?kk; (case ka => k_is); (case kl => k_is); (case kc => k_is); (case kk => k_is))
    (case d_is_settled_in => refine' DSW.df_mk KX G ?ka ?kl ?kc ?kk; (case ka => k_is); (case kl => k_is); (case kc => k_is); (case kk => k_is))
    (case d_settled_sets => refine' DSW.df_mk KX G ?ka ?kl ?kc ?kk; (case ka => k_is); (case kl => k_is); (case kc => k_is); (case kk => k_is))
    (case d_with_rules => refine' DSW.df_mk KX G ?ka ?kl ?kc ?kk; (case ka => k_is); (case kl => k_is); (case kc => k_is); (case kk => k_is))
    (case d_need_room => refine' DSW.df_mk KX G ?ka ?kl ?kc ?kk; (case ka => k_is); (case kl => k_is); (case kc => k_is); (case kk => k_is))
    (case d__law_cell => refine' DSW.df_mk KX G ?ka ?kl ?kc ?kk; (case ka => k_is); (case kl => k_is); (case kc => k_is); (case kk => k_is))
    (case d__law_draws => refine' DSW.df_mk KX G ?ka ?kl ?kc ?kk; (case ka => k_is); (case kl => k_is); (case kc => k_is); (case kk => k_is))
    (case d__law_is_same => refine' DSW.df_mk KX G ?ka ?kl ?kc ?kk; (case ka => k_is); (case kl => k_is); (case kc => k_is); (case kk => k_is))
    (case d__law_sets => refine' DSW.df_mk KX G ?ka ?kl ?kc ?kk; (case ka => k_is); (case kl => k_is); (case kc => k_is); (case kk => k_is))
    (case d__law_rule => refine' DSW.df_mk KX G ?ka ?kl ?kc ?kk; (case ka => k_is); (case kl => k_is); (case kc => k_is); (case kk => k_is))
    (case d__law_rules => refine' DSW.df_mk KX G ?ka ?kl ?kc ?kk; (case ka => k_is); (case kl => k_is); (case kc => k_is); (case kk => k_is))
    (case d__law_is_within => refine' DSW.df_mk KX G ?ka ?kl ?kc ?kk; (case ka => k_is); (case kl => k_is); (case kc => k_is); (case kk => k_is))
    (case d__law_is_settled => refine' DSW.df_mk KX G ?ka ?kl ?kc ?kk; (case ka => k_is); (case kl => k_is); (case kc => k_is); (case kk => k_is))
    (case d__law_settled => refine' DSW.df_mk KX G ?ka ?kl ?kc ?kk; (case ka => k_is); (case kl => k_is); (case kc => k_is); (case kk => k_is))
    (case d__law_joined => refine' DSW.df_mk KX G ?ka ?kl ?kc ?kk; (case ka => k_is); (case kl => k_is); (case kc => k_is); (case kk => k_is))
    (case d__law_word => refine' DSW.df_mk KX G ?ka ?kl ?kc ?kk; (case ka => k_is); (case kl => k_is); (case kc => k_is); (case kk => k_is))
    (case d__law_due => refine' DSW.df_mk KX G ?ka ?kl ?kc ?kk; (case ka => k_is); (case kl => k_is); (case kc => k_is); (case kk => k_is))
    (case d_law_call => refine' DSW.df_mkc KX G ?ka ?kl ?kc ?kk; (case ka => k_is); (case kl => k_is); (case kc => k_is); (case kk => k_is))
    (case ch => kernel_rfl)
    (case d_law => refine' DSW.df_mkl KX G hmg ?ka ?kl ?kc ?kk; (case ka => k_is); (case kl => k_is); (case kc => k_is); (case kk => k_is))
    (case m_need_match => refine' DSW.mt_mk ?ka ?ki ?kl ?kc ?kk; (case ka => k_is); (case ki => k_is); (case kl => k_is); (case kc => k_is); (case kk => k_is))
    (case m_change => refine' DSW.mt_mk ?ka ?ki ?kl ?kc ?kk; (case ka => k_is); (case ki => k_is); (case kl => k_is); (case kc => k_is); (case kk => k_is))
    (case m_assign_book => refine' DSW.mt_mk ?ka ?ki ?kl ?kc ?kk; (case ka => k_is); (case ki => k_is); (case kl => k_is); (case kc => k_is); (case kk => k_is))
    (case m_add => refine' DSW.mt_mk ?ka ?ki ?kl ?kc ?kk; (case ka => k_is); (case ki => k_is); (case kl => k_is); (case kc => k_is); (case kk => k_is))
    (case m_drop => refine' DSW.mt_mk ?ka ?ki ?kl ?kc ?kk; (case ka => k_is); (case ki => k_is); (case kl => k_is); (case kc => k_is); (case kk => k_is))
    (case m_undo => refine' DSW.mt_mk ?ka ?ki ?kl ?kc ?kk; (case ka => k_is); (case ki => k_is); (case kl => k_is); (case kc => k_is); (case kk => k_is))
    (case m_settled_supposing => refine' DSW.mt_mk ?ka ?ki ?kl ?kc ?kk; (case ka => k_is); (case ki => k_is); (case kl => k_is); (case kc => k_is); (case kk => k_is))
    (case m_init => refine' DSW.mt_mk ?ka ?ki ?kl ?kc ?kk; (case ka => k_is); (case ki => k_is); (case kl => k_is); (case kc => k_is); (case kk => k_is))
    (case m_sup => refine' DSW.bm_mk ?ka ?ki ?kl ?kc ?kk ?kg ?kt ?kf; (case ka => k_is); (case ki => k_is); (case kl => k_is); (case kc => k_is); (case kk => k_is); (case kg => k_is); (case kt => k_is); (case kf => k_is))
    (case s__init__ => refine' DSW.mt_mk ?ka ?ki ?kl ?kc ?kk; (case ka => k_is); (case ki => k_is); (case kl => k_is); (case kc => k_is); (case kk => k_is))
    (case s__enter__ => refine' DSW.mt_mk ?ka ?ki ?kl ?kc ?kk; (case ka => k_is); (case ki => k_is); (case kl => k_is); (case kc => k_is); (case kk => k_is))
    (case s__exit__ => refine' DSW.mt_mk ?ka ?ki ?kl ?kc ?kk; (case ka => k_is); (case ki => k_is); (case kl => k_is); (case kc => k_is); (case kk => k_is))
    (case p_book => refine' DSW.pr_mk ?k1 ?k2 ?k3 ?k4 ?kl ?kc ?kk; (case k1 => k_is); (case k2 => k_is); (case k3 => k_is); (case k4 => k_is); (case kl => k_is); (case kc => k_is); (case kk => k_is))
    (case p_changes => refine' DSW.pr_mk ?k1 ?k2 ?k3 ?k4 ?kl ?kc ?kk; (case k1 => k_is); (case k2 => k_is); (case k3 => k_is); (case k4 => k_is); (case kl => k_is); (case kc => k_is); (case kk => k_is))
    (case p_settled => refine' DSW.pr_mk ?k1 ?k2 ?k3 ?k4 ?kl ?kc ?kk; (case k1 => k_is); (case k2 => k_is); (case k3 => k_is); (case k4 => k_is); (case kl => k_is); (case kc => k_is); (case kk => k_is))
