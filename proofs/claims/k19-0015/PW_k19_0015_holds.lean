import PyProof.Rows.All
import Wide.All
import OpenK.AllK
import Wide.FinOn
import Lean
import PySem.Challenge.RW_k19_0015
set_option Elab.async false
set_option maxRecDepth 100000
set_option maxHeartbeats 8000000
set_option linter.unusedVariables false
section
namespace Mine

/-- the word that points to object j -/
def ptr (st : List Int) (j : Nat) : Int := 2 * st.getD j 0 + 1

/-- a sound word: no pointer, or the pointer to some object -/
def OkW (st : List Int) (w : Int) : Prop := Int.fmod w 2 ≠ 1 ∨ ∃ j, j < st.length ∧ w = ptr st j

inductive Reach (st : List Int) (rows : List (List Int)) (roots : List Int) : Nat → Prop
  | root {j : Nat} : j < st.length → ptr st j ∈ roots → Reach st rows roots j
  | step {i j : Nat} : Reach st rows roots i → j < st.length → ptr st j ∈ rows.getD i [] → Reach st rows roots j

structure Sound (sizes st : List Int) (rows : List (List Int)) (mem roots : List Int) : Prop where
  lenZ : sizes.length = st.length
  lenR : rows.length = st.length
  inj : ∀ i j, i < st.length → j < st.length → st.getD i 0 = st.getD j 0 → i = j
  nonneg : ∀ i, i < st.length → 0 ≤ st.getD i 0
  size : ∀ i, i < st.length → 0 ≤ sizes.getD i 0
  inb : ∀ i, i < st.length → (st.getD i 0).toNat + 1 + (sizes.getD i 0).toNat ≤ mem.length
  head : ∀ i, i < st.length → mem[(st.getD i 0).toNat]? = some (sizes.getD i 0)
  fields : ∀ i, i < st.length → (mem.drop ((st.getD i 0).toNat + 1)).take (sizes.getD i 0).toNat = rows.getD i []
  okR : ∀ w ∈ roots, OkW st w
  okF : ∀ i, ∀ w ∈ rows.getD i [], OkW st w

theorem ptr_mod (st : List Int) (j : Nat) : Int.fmod (ptr st j) 2 = 1 := by
  unfold ptr; rw [Int.fmod_eq_emod_of_nonneg _ (by decide)]; omega
theorem ptr_div (st : List Int) (j : Nat) : Int.fdiv (ptr st j) 2 = st.getD j 0 := by
  unfold ptr; rw [Int.fdiv_eq_ediv_of_nonneg _ (by decide)]; omega
theorem ptr_inj {st : List Int} {i j : Nat} (h : ptr st i = ptr st j) : st.getD i 0 = st.getD j 0 := by
  unfold ptr at h; omega

section
variable {sizes st : List Int} {rows : List (List Int)} {mem roots : List Int}

theorem Reach.lt {j : Nat} (h : Reach st rows roots j) : j < st.length := by cases h <;> assumption

/-- what has been met: pairwise different addresses of reachable objects -/
def MetInv (st : List Int) (rows : List (List Int)) (roots : List Int) (met : List Int) : Prop :=
  ∃ ms : List Nat, met = ms.map (fun j => st.getD j 0) ∧ ms.Nodup ∧ ∀ j ∈ ms, Reach st rows roots j

theorem MetInv.nil : MetInv st rows roots [] := ⟨[], rfl, .nil, fun _ h => nomatch h⟩

theorem nodup_len {n : Nat} : ∀ (ms : List Nat), ms.Nodup → (∀ j ∈ ms, j < n) → ms.length ≤ n := by
  induction n with
  | zero =>
    intro ms _ h
    cases ms with
    | nil => simp
    | cons a r => exact absurd (h a (.head _)) (Nat.not_lt_zero _)
  | succ n ih =>
    intro ms hn h
    by_cases hm : n ∈ ms
    · have h1 := ih (ms.erase n) (hn.erase n) (fun j hj => by
        have h2 := List.mem_of_mem_erase hj
        have h3 := h j h2
        have h4 : j ≠ n := fun e => by subst e; exact absurd hj (List.Nodup.not_mem_erase hn)
        omega)
      rw [List.length_erase_of_mem hm] at h1
      omega
    · have := ih ms hn (fun j hj => by
        have h3 := h j hj
        have h4 : j ≠ n := fun e => by subst e; exact absurd hj hm
        omega)
      omega

theorem MetInv.length (h : MetInv st rows roots met) : met.length ≤ st.length := by
  obtain ⟨ms, rfl, hn, hr⟩ := h
  rw [List.length_map]
  exact nodup_len ms hn fun j hj => (hr j hj).lt

/-- one word looked at -/
theorem MetInv.word {met : List Int} {w : Int} (h : MetInv st rows roots met) (hw : OkW st w) (hp : ∀ j, j < st.length → w = ptr st j → Reach st rows roots j)
    (hm : Int.fmod w 2 = 1) (hn : Int.fdiv w 2 ∉ met) : MetInv st rows roots (met ++ [Int.fdiv w 2]) := by
  obtain ⟨ms, rfl, hnd, hr⟩ := h
  rcases hw with hw | ⟨j, hj, rfl⟩
  · exact absurd hm hw
  · rw [ptr_div] at hn ⊢
    refine ⟨ms ++ [j], by simp, ?_, ?_⟩
    · rw [List.nodup_append]
      refine ⟨hnd, by simp, ?_⟩
      intro a ha b hb e
      rw [List.mem_singleton] at hb
      subst hb; subst e
      exact hn (List.mem_map.mpr ⟨a, ha, rfl⟩)
    · intro k hk
      rcases List.mem_append.mp hk with hk | hk
      · exact hr k hk
      · rw [List.mem_singleton] at hk; subst hk; exact hp k hj rfl

/-- all pointers of ws are met -/
def Cov (ws met : List Int) : Prop := ∀ w ∈ ws, Int.fmod w 2 = 1 → Int.fdiv w 2 ∈ met
theorem Cov.nil {met : List Int} : Cov [] met := fun _ h => nomatch h
theorem Cov.mono {ws met : List Int} (h : Cov ws met) (x : List Int) : Cov ws (met ++ x) := fun w hw hm => List.mem_append_left _ (h w hw hm)
theorem Cov.add {ws met : List Int} {w : Int} (h : Cov ws met) (hw : Int.fmod w 2 = 1 → Int.fdiv w 2 ∈ met) : Cov (ws ++ [w]) met := by
  intro v hv hm
  rcases List.mem_append.mp hv with hv | hv
  · exact h v hv hm
  · rw [List.mem_singleton] at hv; subst hv; exact hw hm

/-- the fields of an object, as the program cuts them -/
def cut (mem : List Int) (a : Int) : List Int := (mem.drop (a.toNat + 1)).take (mem.getD a.toNat 0).toNat

theorem Sound.cut (S : Sound sizes st rows mem roots) {j : Nat} (hj : j < st.length) : cut mem (st.getD j 0) = rows.getD j [] := by
  unfold Mine.cut
  have h := S.head j hj
  rw [List.getD_eq_getElem?_getD, h, Option.getD_some]
  exact S.fields j hj
theorem Sound.getD (S : Sound sizes st rows mem roots) {j : Nat} (hj : j < st.length) : mem.getD (st.getD j 0).toNat 0 = sizes.getD j 0 := by
  rw [List.getD_eq_getElem?_getD, S.head j hj, Option.getD_some]

/-- an item of met is the start of a reachable object -/
theorem MetInv.at {met : List Int} {a : Int} (h : MetInv st rows roots met) (ha : a ∈ met) : ∃ j, j < st.length ∧ Reach st rows roots j ∧ a = st.getD j 0 := by
  obtain ⟨ms, rfl, _, hr⟩ := h
  obtain ⟨j, hj, rfl⟩ := List.mem_map.mp ha
  exact ⟨j, (hr j hj).lt, hr j hj, rfl⟩

theorem met_closed (S : Sound sizes st rows mem roots) {met : List Int} (_h : MetInv st rows roots met) (h0 : Cov roots met) (h1 : ∀ a ∈ met, Cov (Mine.cut mem a) met) :
    ∀ j, Reach st rows roots j → st.getD j 0 ∈ met := by
  intro j hj
  induction hj with
  | @root j hj hp =>
    have := h0 _ hp (ptr_mod st j)
    rwa [ptr_div] at this
  | @step i j hi hj hp ih =>
    have hc := h1 _ ih
    rw [S.cut hi.lt] at hc
    have := hc _ hp (ptr_mod st j)
    rwa [ptr_div] at this

/-- sums over two lists without repetition and with the same members -/
theorem sum_perm {f : Nat → Int} : ∀ {l₁ l₂ : List Nat}, l₁.Perm l₂ → (l₁.map f).sum = (l₂.map f).sum := by
  intro l₁ l₂ h
  induction h with
  | nil => rfl
  | cons x _ ih => simp [ih]
  | swap x y l => simp; omega
  | trans _ _ ih₁ ih₂ => exact ih₁.trans ih₂

theorem perm_of_same {l₁ l₂ : List Nat} (h₁ : l₁.Nodup) (h₂ : l₂.Nodup) (h : ∀ j, j ∈ l₁ ↔ j ∈ l₂) : l₁.Perm l₂ := by
  rw [List.perm_iff_count]
  intro a
  rw [h₁.count, h₂.count]
  by_cases ha : a ∈ l₁
  · rw [if_pos ha, if_pos ((h a).mp ha)]
  · rw [if_neg ha, if_neg (fun x => ha ((h a).mpr x))]

/-- the law's own tally -/
structure LiveInv (sizes st : List Int) (rows : List (List Int)) (roots live held : List Int) (want : Int) : Prop where
  ex : ∃ ls : List Nat, live = ls.map (fun (j : Nat) => (j : Int)) ∧ ls.Nodup ∧ (∀ j ∈ ls, Reach st rows roots j) ∧ held = roots ++ ls.flatMap (fun j => rows.getD j []) ∧ want = (ls.map (fun j => 1 + sizes.getD j 0)).sum

theorem LiveInv.start : LiveInv sizes st rows roots [] roots 0 := ⟨[], rfl, .nil, (fun _ h => nomatch h), by simp, rfl⟩

theorem LiveInv.add {live held : List Int} {want : Int} {j : Nat} (h : LiveInv sizes st rows roots live held want) (hj : j < st.length) (hn : (j : Int) ∉ live) (hp : ptr st j ∈ held) :
    LiveInv sizes st rows roots (live ++ [(j : Int)]) (held ++ rows.getD j []) (want + 1 + sizes.getD j 0) := by
  obtain ⟨ls, rfl, hnd, hr, rfl, rfl⟩ := h.ex
  refine ⟨ls ++ [j], by simp, ?_, ?_, by simp, ?_⟩
  · rw [List.nodup_append]
    refine ⟨hnd, by simp, ?_⟩
    intro a ha b hb e
    rw [List.mem_singleton] at hb
    subst hb; subst e
    exact hn (List.mem_map.mpr ⟨a, ha, rfl⟩)
  · intro k hk
    rcases List.mem_append.mp hk with hk | hk
    · exact hr k hk
    · rw [List.mem_singleton] at hk; subst hk
      rcases List.mem_append.mp hp with hp | hp
      · exact .root hj hp
      · obtain ⟨i, hi, hq⟩ := List.mem_flatMap.mp hp
        exact .step (hr i hi) hj hq
  · simp; omega

theorem LiveInv.length {live held : List Int} {want : Int} (h : LiveInv sizes st rows roots live held want) : live.length ≤ st.length := by
  obtain ⟨ls, rfl, hnd, hr, _⟩ := h.ex
  rw [List.length_map]
  exact nodup_len ls hnd fun j hj => (hr j hj).lt

/-- nothing more to add -/
def Closed (st live held : List Int) : Prop := ∀ j : Nat, j < st.length → ptr st j ∈ held → (j : Int) ∈ live

theorem LiveInv.full {live held : List Int} {want : Int} (h : LiveInv sizes st rows roots live held want) (hl : st.length ≤ live.length) : Closed st live held := by
  obtain ⟨ls, rfl, hnd, hr, _⟩ := h.ex
  rw [List.length_map] at hl
  intro j hj _
  refine List.mem_map.mpr ⟨j, ?_, rfl⟩
  apply Decidable.byContradiction
  intro hjn
  have := nodup_len (n := st.length) (j :: ls) (List.nodup_cons.mpr ⟨hjn, hnd⟩) (by
    intro k hk
    rcases List.mem_cons.mp hk with rfl | hk
    · exact hj
    · exact (hr k hk).lt)
  rw [List.length_cons] at this
  omega

theorem LiveInv.closed {live held : List Int} {want : Int} (h : LiveInv sizes st rows roots live held want) (hc : Closed st live held) : ∀ j, Reach st rows roots j → (j : Int) ∈ live := by
  obtain ⟨ls, rfl, hnd, hr, rfl, _⟩ := h.ex
  intro j hj
  induction hj with
  | @root j hj hp => exact hc j hj (List.mem_append_left _ hp)
  | @step i j hi hj hp ih =>
    refine hc j hj (List.mem_append_right _ (List.mem_flatMap.mpr ⟨i, ?_, hp⟩))
    obtain ⟨k, hk, e⟩ := List.mem_map.mp ih
    have : k = i := Int.ofNat.inj e
    exact this ▸ hk

/-- the two tallies agree -/
theorem tallies (S : Sound sizes st rows mem roots) {met live held : List Int} {want : Int} (hM : MetInv st rows roots met) (h0 : Cov roots met) (h1 : ∀ a ∈ met, Cov (Mine.cut mem a) met)
    (hL : LiveInv sizes st rows roots live held want) (hc : Closed st live held) : (met.map (fun a => mem.getD a.toNat 0 + 1)).sum = want := by
  have hcl := met_closed S hM h0 h1
  have hcl2 := hL.closed hc
  obtain ⟨ms, rfl, hnd, hr⟩ := hM
  obtain ⟨ls, rfl, hnd2, hr2, _, rfl⟩ := hL.ex
  have hp : ms.Perm ls := perm_of_same hnd hnd2 fun j => by
    constructor
    · intro hj
      obtain ⟨k, hk, e⟩ := List.mem_map.mp (hcl2 j (hr j hj))
      have : k = j := Int.ofNat.inj e
      exact this ▸ hk
    · intro hj
      obtain ⟨k, hk, e⟩ := List.mem_map.mp (hcl j (hr2 j hj))
      have : k = j := S.inj k j (hr k hk).lt (hr2 j hj).lt e
      exact this ▸ hk
  rw [← sum_perm hp, List.map_map]
  congr 1
  refine List.map_congr_left fun j hj => ?_
  show mem.getD (st.getD j 0).toNat 0 + 1 = _
  rw [S.getD (hr j hj).lt]
  omega
end

end Mine
end
section
namespace Mine
section
variable {sizes gaps st : List Int} {rows : List (List Int)} {mem roots : List Int}

/-- one pass of the law's own loop: nothing added so far, or something added -/
def Prog (st : List Int) (k : Nat) (live₀ held₀ live held : List Int) : Prop :=
  (live = live₀ ∧ held = held₀ ∧ ∀ i : Nat, i < k → i < st.length → ptr st i ∈ held → (i : Int) ∈ live) ∨ (live₀.length < live.length ∧ ¬ Closed st live₀ held₀)
theorem Prog.start {live held : List Int} : Prog st 0 live held live held := .inl ⟨rfl, rfl, fun _ h => absurd h (Nat.not_lt_zero _)⟩
theorem Prog.skip {k : Nat} {live₀ held₀ live held : List Int} (h : Prog st k live₀ held₀ live held) (hs : ptr st k ∈ held → (k : Int) ∈ live) : Prog st (k + 1) live₀ held₀ live held := by
  rcases h with ⟨e1, e2, h⟩ | h
  · refine .inl ⟨e1, e2, fun i hi hc hp => ?_⟩
    by_cases hk : i = k
    · subst hk; exact hs hp
    · exact h i (by omega) hc hp
  · exact .inr h
theorem Prog.add {k : Nat} {live₀ held₀ live held row : List Int} (h : Prog st k live₀ held₀ live held) (hk : k < st.length) (hn : (k : Int) ∉ live) (hp : ptr st k ∈ held) :
    Prog st (k + 1) live₀ held₀ (live ++ [(k : Int)]) (held ++ row) := by
  rcases h with ⟨rfl, rfl, h⟩ | ⟨h1, h2⟩
  · exact .inr ⟨by simp, fun hc => hn (hc k hk hp)⟩
  · exact .inr ⟨by rw [List.length_append]; omega, h2⟩
/-- t passes done -/
def Turn (st : List Int) (t : Nat) (live held : List Int) : Prop := t ≤ live.length ∨ Closed st live held
theorem Turn.start {live held : List Int} : Turn st 0 live held := .inl (Nat.zero_le _)
theorem Turn.next {t : Nat} {live₀ held₀ live held : List Int} (h : Turn st t live₀ held₀) (hp : Prog st st.length live₀ held₀ live held) : Turn st (t + 1) live held := by
  rcases hp with ⟨rfl, rfl, hp⟩ | ⟨h1, h2⟩
  · exact .inr fun j hj hq => hp j hj hj hq
  · rcases h with h | h
    · exact .inl (by omega)
    · exact absurd h h2
theorem Turn.closed {live held : List Int} {want : Int} (h : Turn st st.length live held) (hL : LiveInv sizes st rows roots live held want) : Closed st live held := by
  rcases h with h | h
  · exact hL.full h
  · exact h

/-- the first free place behind k objects -/
def atOf (sizes gaps : List Int) : Nat → Int
  | 0 => 0
  | k + 1 => atOf sizes gaps k + gaps.getD k 0 + 1 + sizes.getD k 0
def startsOf (sizes gaps : List Int) (k : Nat) : List Int := (List.range k).map fun j => atOf sizes gaps j + gaps.getD j 0
theorem startsOf_length (k : Nat) : (startsOf sizes gaps k).length = k := by simp [startsOf]
theorem startsOf_succ (k : Nat) : startsOf sizes gaps (k + 1) = startsOf sizes gaps k ++ [atOf sizes gaps k + gaps.getD k 0] := by simp [startsOf, List.range_succ]
theorem startsOf_getD {i k : Nat} (h : i < k) : (startsOf sizes gaps k).getD i 0 = atOf sizes gaps i + gaps.getD i 0 := by
  simp [startsOf, List.getD_eq_getElem?_getD, h]

theorem getD_nonneg {l : List Int} (h : ∀ x ∈ l, (0 : Int) ≤ x) (i : Nat) : 0 ≤ l.getD i 0 := by
  rw [List.getD_eq_getElem?_getD]
  by_cases hi : i < l.length
  · rw [List.getElem?_eq_getElem hi, Option.getD_some]; exact h _ (List.getElem_mem hi)
  · rw [List.getElem?_eq_none (Nat.not_lt.mp hi)]; exact Int.le_refl 0
theorem getD_le {l : List Int} {b : Int} (h : ∀ x ∈ l, x ≤ b) (hb : 0 ≤ b) (i : Nat) : l.getD i 0 ≤ b := by
  rw [List.getD_eq_getElem?_getD]
  by_cases hi : i < l.length
  · rw [List.getElem?_eq_getElem hi, Option.getD_some]; exact h _ (List.getElem_mem hi)
  · rw [List.getElem?_eq_none (Nat.not_lt.mp hi)]; exact hb

theorem atOf_le (hz : ∀ x ∈ sizes, (0 : Int) ≤ x) (hg : ∀ x ∈ gaps, (0 : Int) ≤ x) {i j : Nat} (h : i < j) : atOf sizes gaps i + gaps.getD i 0 + 1 + sizes.getD i 0 ≤ atOf sizes gaps j := by
  induction j with
  | zero => exact absurd h (Nat.not_lt_zero _)
  | succ j ih =>
    show _ ≤ atOf sizes gaps j + gaps.getD j 0 + 1 + sizes.getD j 0
    have h1 := getD_nonneg hz j
    have h2 := getD_nonneg hg j
    by_cases hij : i = j
    · subst hij; omega
    · have := ih (by omega); omega
theorem atOf_nonneg (hz : ∀ x ∈ sizes, (0 : Int) ≤ x) (hg : ∀ x ∈ gaps, (0 : Int) ≤ x) (j : Nat) : 0 ≤ atOf sizes gaps j := by
  induction j with
  | zero => exact Int.le_refl _
  | succ j ih =>
    show 0 ≤ atOf sizes gaps j + gaps.getD j 0 + 1 + sizes.getD j 0
    have h1 := getD_nonneg hz j
    have h2 := getD_nonneg hg j
    omega
theorem atOf_small (hz : ∀ x ∈ sizes, x ≤ 3) (hg : ∀ x ∈ gaps, x ≤ 2) (j : Nat) : atOf sizes gaps j ≤ 6 * (j : Int) := by
  induction j with
  | zero => exact Int.le_refl _
  | succ j ih =>
    show atOf sizes gaps j + gaps.getD j 0 + 1 + sizes.getD j 0 ≤ _
    have h1 := getD_le hz (by decide) j
    have h2 := getD_le hg (by decide) j
    omega

/-- memory and rows behind k turns of the building loop -/
structure MemInv (sizes gaps st : List Int) (k : Nat) (rows : List (List Int)) (mem : List Int) : Prop where
  lenR : rows.length = k
  lenM : (mem.length : Int) = atOf sizes gaps k
  head : ∀ i, i < k → mem[(atOf sizes gaps i + gaps.getD i 0).toNat]? = some (sizes.getD i 0)
  fields : ∀ i, i < k → (mem.drop ((atOf sizes gaps i + gaps.getD i 0).toNat + 1)).take (sizes.getD i 0).toNat = rows.getD i []
  ok : ∀ i, ∀ w ∈ rows.getD i [], OkW st w

theorem MemInv.start : MemInv sizes gaps st 0 [] [] := ⟨rfl, rfl, fun _ h => absurd h (Nat.not_lt_zero _), fun _ h => absurd h (Nat.not_lt_zero _), fun i w h => by simp at h⟩

theorem MemInv.next (hz : ∀ x ∈ sizes, (0 : Int) ≤ x) (hg : ∀ x ∈ gaps, (0 : Int) ≤ x) {k : Nat} (h : MemInv sizes gaps st k rows mem) {gap row : List Int}
    (h1 : (gap.length : Int) = gaps.getD k 0) (h2 : (row.length : Int) = sizes.getD k 0) (h3 : ∀ w ∈ row, OkW st w) :
    MemInv sizes gaps st (k + 1) (rows ++ [row]) (((mem ++ gap) ++ [sizes.getD k 0]) ++ row) := by
  have hlen := h.lenM
  have hk0 := atOf_nonneg hz hg k
  have bnd : ∀ i, i < k → (atOf sizes gaps i + gaps.getD i 0).toNat + 1 + (sizes.getD i 0).toNat ≤ mem.length := fun i hi => by
    have := atOf_le hz hg hi
    have a1 := getD_nonneg hz i
    have a2 := getD_nonneg hg i
    have a3 := atOf_nonneg hz hg i
    omega
  refine ⟨by simp [h.lenR], ?_, fun i hi => ?_, fun i hi => ?_, fun i w hw => ?_⟩
  · show _ = atOf sizes gaps k + gaps.getD k 0 + 1 + sizes.getD k 0
    simp only [List.length_append, List.length_cons, List.length_nil]
    omega
  · by_cases hik : i = k
    · subst hik
      have e : (atOf sizes gaps i + gaps.getD i 0).toNat = (mem ++ gap).length := by rw [List.length_append]; omega
      rw [e, List.getElem?_append_left (by simp), List.getElem?_append_right (Nat.le_refl _)]
      simp
    · have hi' : i < k := by omega
      have := bnd i hi'
      rw [List.append_assoc, List.append_assoc, List.getElem?_append_left (by omega)]
      exact h.head i hi'
  · by_cases hik : i = k
    · subst hik
      have e : (atOf sizes gaps i + gaps.getD i 0).toNat + 1 = ((mem ++ gap) ++ [sizes.getD i 0]).length := by
        simp only [List.length_append, List.length_cons, List.length_nil]; omega
      have e2 : (sizes.getD i 0).toNat = row.length := by omega
      rw [e, List.drop_append_of_le_length (Nat.le_refl _), List.drop_length, List.nil_append, e2, List.take_length]
      rw [List.getD_eq_getElem?_getD, List.getElem?_append_right (by rw [h.lenR]; exact Nat.le_refl _), h.lenR]
      simp
    · have hi' : i < k := by omega
      have := bnd i hi'
      rw [List.append_assoc, List.append_assoc, List.drop_append_of_le_length (by omega), List.take_append_of_le_length (by rw [List.length_drop]; omega), h.fields i hi']
      rw [List.getD_eq_getElem?_getD, List.getD_eq_getElem?_getD, List.getElem?_append_left (by rw [h.lenR]; exact hi')]
  · rw [List.getD_eq_getElem?_getD] at hw
    rcases Nat.lt_trichotomy i rows.length with hi | hi | hi
    · rw [List.getElem?_append_left hi, ← List.getD_eq_getElem?_getD] at hw
      exact h.ok i w hw
    · rw [List.getElem?_append_right (by omega), hi] at hw
      simp at hw
      exact h3 w hw
    · rw [List.getElem?_eq_none (by simp; omega)] at hw
      simp at hw

theorem MemInv.sound (hz : ∀ x ∈ sizes, (0 : Int) ≤ x) (hg : ∀ x ∈ gaps, (0 : Int) ≤ x) {k : Nat} (hk : sizes.length = k) (h : MemInv sizes gaps (startsOf sizes gaps k) k rows mem) (tail : List Int)
    (hr : ∀ w ∈ roots, OkW (startsOf sizes gaps k) w) : Sound sizes (startsOf sizes gaps k) rows (mem ++ tail) roots := by
  have hlen := h.lenM
  have hl : (startsOf sizes gaps k).length = k := startsOf_length k
  have bnd : ∀ i, i < k → (atOf sizes gaps i + gaps.getD i 0).toNat + 1 + (sizes.getD i 0).toNat ≤ mem.length := fun i hi => by
    have := atOf_le hz hg hi
    have a1 := getD_nonneg hz i
    have a2 := getD_nonneg hg i
    have a3 := atOf_nonneg hz hg i
    omega
  refine ⟨hk.trans hl.symm, h.lenR.trans hl.symm, ?_, ?_, fun i _ => getD_nonneg hz i, ?_, ?_, ?_, hr, h.ok⟩
  · intro i j hi hj e
    rw [hl] at hi hj
    rw [startsOf_getD hi, startsOf_getD hj] at e
    have a1 := getD_nonneg hz i
    have a2 := getD_nonneg hg i
    have b1 := getD_nonneg hz j
    have b2 := getD_nonneg hg j
    rcases Nat.lt_trichotomy i j with h' | h' | h'
    · have := atOf_le hz hg h'; omega
    · exact h'
    · have := atOf_le hz hg h'; omega
  · intro i hi
    rw [hl] at hi
    rw [startsOf_getD hi]
    have a2 := getD_nonneg hg i
    have a3 := atOf_nonneg hz hg i
    omega
  · intro i hi
    rw [hl] at hi
    rw [startsOf_getD hi, List.length_append]
    have := bnd i hi
    omega
  · intro i hi
    rw [hl] at hi
    rw [startsOf_getD hi]
    have := bnd i hi
    rw [List.getElem?_append_left (by omega)]
    exact h.head i hi
  · intro i hi
    rw [hl] at hi
    rw [startsOf_getD hi]
    have := bnd i hi
    rw [List.drop_append_of_le_length (by omega), List.take_append_of_le_length (by rw [List.length_drop]; omega)]
    exact h.fields i hi

/-- what _law_word gives back -/
def wordOf (v : Int) (st : List Int) : Int := if Int.fmod v 2 = 0 ∨ st.length = 0 then Int.fdiv (v.natAbs : Int) 2 * 2 else 2 * st.getD (Int.fmod (Int.fdiv v 2) st.length).toNat 0 + 1
theorem wordOf_ok (v : Int) (st : List Int) : OkW st (wordOf v st) := by
  unfold wordOf
  split
  · refine .inl ?_
    rw [Int.fmod_eq_emod_of_nonneg _ (by decide)]
    omega
  · rename_i h
    have hl : 0 < st.length := by
      rcases Nat.eq_zero_or_pos st.length with e | e
      · exact absurd (.inr e) h
      · exact e
    have h1 : 0 ≤ Int.fmod (Int.fdiv v 2) st.length := Int.fmod_nonneg_of_pos _ (by omega)
    have h2 : Int.fmod (Int.fdiv v 2) st.length < st.length := Int.fmod_lt_of_pos _ (by omega)
    exact .inr ⟨(Int.fmod (Int.fdiv v 2) st.length).toNat, by omega, rfl⟩

/-- what _law_gap gives back -/
def gapOf (g : Int) : List Int := if g = 0 then [] else -g :: List.replicate (g - 1).toNat 0
theorem gapOf_length {g : Int} (h : 0 ≤ g) : ((gapOf g).length : Int) = g := by
  unfold gapOf
  split
  · simp; omega
  · simp; omega
end
end Mine
end
section
namespace Mine
section
variable {sizes st : List Int} {rows : List (List Int)} {M R met0 pre met ns : List Int} {n : Int}
/-- what a list of words may hold, and whither it may point -/
def Src (st : List Int) (rows : List (List Int)) (R ns : List Int) : Prop := ∀ v ∈ ns, OkW st v ∧ ∀ j, j < st.length → v = ptr st j → Reach st rows R j
theorem Sound.srcR (S : Sound sizes st rows M R) : Src st rows R R := fun v hv => ⟨S.okR v hv, fun _ hj e => .root hj (e ▸ hv)⟩
/-- what a loop over words keeps of met -/
structure MetW (st : List Int) (rows : List (List Int)) (R met0 pre met : List Int) : Prop where
  inv : MetInv st rows R met
  cov : Cov pre met
  ext : ∃ x, met = met0 ++ x
theorem MetW.start (h : MetInv st rows R met) : MetW st rows R met [] met := ⟨h, Cov.nil, [], (List.append_nil _).symm⟩
theorem MetW.skip1 (h : MetW st rows R met0 pre met) (hn : ¬ n.fmod 2 = 1) : MetW st rows R met0 (pre ++ [n]) met := ⟨h.inv, h.cov.add fun e => absurd e hn, h.ext⟩
theorem MetW.skip2 (h : MetW st rows R met0 pre met) (ha : (met.any fun x => x == n.fdiv 2) = true) : MetW st rows R met0 (pre ++ [n]) met := by
  refine ⟨h.inv, h.cov.add fun _ => ?_, h.ext⟩
  obtain ⟨y, hy, e⟩ := List.any_eq_true.mp ha
  exact (eq_of_beq e) ▸ hy
theorem MetW.add (h : MetW st rows R met0 pre met) (hs : Src st rows R ns) (hm : n ∈ ns) (hn : n.fmod 2 = 1) (ha : (met.any fun x => x == n.fdiv 2) = false) : MetW st rows R met0 (pre ++ [n]) (met ++ [n.fdiv 2]) := by
  have hnot : n.fdiv 2 ∉ met := fun hin => by
    have : (met.any fun x => x == n.fdiv 2) = true := List.any_eq_true.mpr ⟨_, hin, beq_self_eq_true (n.fdiv 2)⟩
    rw [ha] at this; cases this
  refine ⟨h.inv.word (hs n hm).1 (hs n hm).2 hn hnot, (h.cov.mono _).add fun _ => List.mem_append_right _ (List.mem_singleton.mpr rfl), ?_⟩
  obtain ⟨x, rfl⟩ := h.ext
  exact ⟨x ++ [n.fdiv 2], by rw [List.append_assoc]⟩
theorem MetW.len (h : MetW st rows R met0 pre met) (hst : st.length ≤ 4) : met.length ≤ 4 := Nat.le_trans h.inv.length hst

/-- what the while keeps -/
structure WhileI (st : List Int) (rows : List (List Int)) (M R met : List Int) (place : Int) : Prop where
  inv : MetInv st rows R met
  cov : Cov R met
  done : ∀ i : Nat, i < place.toNat → Cov (Mine.cut M (met.getD i 0)) met
theorem WhileI.start {pre : List Int} (h : MetW st rows R [] pre met) (e : pre = R) : WhileI st rows M R met 0 := ⟨h.inv, e ▸ h.cov, fun _ hi => absurd hi (Nat.not_lt_zero _)⟩
theorem getD_mem {l : List Int} {i : Nat} (h : i < l.length) : l.getD i 0 ∈ l := by
  rw [List.getD_eq_getElem?_getD, List.getElem?_eq_getElem h, Option.getD_some]; exact List.getElem_mem h
theorem WhileI.next {place : Int} (h : WhileI st rows M R met0 place) (h0 : 0 ≤ place) (h1 : place < met0.length) (hw : MetW st rows R met0 (Mine.cut M (met0.getD place.toNat 0)) met) : WhileI st rows M R met (place + 1) := by
  obtain ⟨x, rfl⟩ := hw.ext
  refine ⟨hw.inv, h.cov.mono _, fun i hi => ?_⟩
  have hl : i < met0.length := by omega
  have e : (met0 ++ x).getD i 0 = met0.getD i 0 := by
    rw [List.getD_eq_getElem?_getD, List.getD_eq_getElem?_getD, List.getElem?_append_left hl]
  rw [e]
  by_cases hp : i = place.toNat
  · subst hp; exact hw.cov
  · exact (h.done i (by omega)).mono _
theorem WhileI.end {place : Int} (h : WhileI st rows M R met place) (h1 : ¬ place < met.length) : ∀ a ∈ met, Cov (Mine.cut M a) met := by
  intro a ha
  obtain ⟨i, hi, e⟩ := List.getElem_of_mem ha
  have := h.done i (by omega)
  rw [List.getD_eq_getElem?_getD, List.getElem?_eq_getElem hi, Option.getD_some, e] at this
  exact this
/-- an address that was met lies in the memory -/
theorem MetInv.bounds (S : Sound sizes st rows M R) (h : MetInv st rows R met) {a : Int} (ha : a ∈ met) : 0 ≤ a ∧ a < M.length ∧ 0 ≤ M.getD a.toNat 0 ∧ a + 1 + M.getD a.toNat 0 ≤ M.length := by
  obtain ⟨j, hj, _, rfl⟩ := h.at ha
  have h1 := S.nonneg j hj
  have h2 := S.size j hj
  have h3 := S.inb j hj
  rw [S.getD hj]
  omega
theorem MetInv.src (S : Sound sizes st rows M R) (h : MetInv st rows R met) {a : Int} (ha : a ∈ met) : Src st rows R (Mine.cut M a) := by
  obtain ⟨j, hj, hr, rfl⟩ := h.at ha
  rw [S.cut hj]
  exact fun v hv => ⟨S.okF j v hv, fun _ hj' e => .step hr hj' (e ▸ hv)⟩
end
end Mine
namespace Mine
section
variable {sizes st : List Int} {rows : List (List Int)} {M R met0 pre met ns : List Int} {n place : Int}
/-- the object at hand lies in the memory -/
structure Here (M : List Int) (a : Int) : Prop where
  h0 : 0 ≤ a
  h1 : a < M.length
  h2 : 0 ≤ M.getD a.toNat 0
  h3 : a + 1 + M.getD a.toNat 0 ≤ M.length
theorem WhileI.here (S : Sound sizes st rows M R) (h : WhileI st rows M R met place) (h0 : 0 ≤ place) (h1 : place < met.length) : Here M (met.getD place.toNat 0) := by
  obtain ⟨a, b, c, d⟩ := h.inv.bounds S (getD_mem (l := met) (i := place.toNat) (by omega))
  exact ⟨a, b, c, d⟩
theorem WhileI.src (S : Sound sizes st rows M R) (h : WhileI st rows M R met place) (h0 : 0 ≤ place) (h1 : place < met.length) : Src st rows R (Mine.cut M (met.getD place.toNat 0)) :=
  h.inv.src S (getD_mem (l := met) (i := place.toNat) (by omega))
end
end Mine
namespace Mine
section
variable {sizes st : List Int} {rows : List (List Int)} {M R met0 pre met ns : List Int} {n place a : Int}
theorem slice_cut (h : Here M a) : List.take (min (a + 1 + M.getD a.toNat 0).toNat M.length - (a + 1).toNat) (List.drop (a + 1).toNat M) = Mine.cut M a := by
  have h0 := h.h0
  have h2 := h.h2
  have h3 := h.h3
  have e1 : (a + 1).toNat = a.toNat + 1 := by omega
  have e2 : min (a + 1 + M.getD a.toNat 0).toNat M.length - (a + 1).toNat = (M.getD a.toNat 0).toNat := by omega
  rw [e2, e1]
  rfl
theorem WhileI.srcS (S : Sound sizes st rows M R) (h : WhileI st rows M R met place) (h0 : 0 ≤ place) (h1 : place < met.length) :
    Src st rows R (List.take (min (met.getD place.toNat 0 + 1 + M.getD (met.getD place.toNat 0).toNat 0).toNat M.length - (met.getD place.toNat 0 + 1).toNat) (List.drop (met.getD place.toNat 0 + 1).toNat M)) := by
  rw [slice_cut (h.here S h0 h1)]
  exact h.src S h0 h1
theorem WhileI.turn (S : Sound sizes st rows M R) (h : WhileI st rows M R met0 place) (h0 : 0 ≤ place) (h1 : place < met0.length)
    (hw : MetW st rows R met0 (List.take (min (met0.getD place.toNat 0 + 1 + M.getD (met0.getD place.toNat 0).toNat 0).toNat M.length - (met0.getD place.toNat 0 + 1).toNat) (List.drop (met0.getD place.toNat 0 + 1).toNat M)) met) (h4 : met.length ≤ 4) :
    WhileI st rows M R met (place + 1) ∧ met.length ≤ 4 ∧ 0 ≤ place + 1 ∧ place + 1 ≤ (met.length : Int) := by
  rw [slice_cut (h.here S h0 h1)] at hw
  obtain ⟨x, hx⟩ := hw.ext
  have hlen : met.length = met0.length + x.length := by rw [hx, List.length_append]
  exact ⟨h.next h0 h1 hw, h4, by omega, by omega⟩
end
end Mine
namespace Mine
section
variable {sizes st : List Int} {rows : List (List Int)} {M R met : List Int} {a : Int}
theorem MetInv.here (S : Sound sizes st rows M R) (h : MetInv st rows R met) (ha : a ∈ met) : Here M a := by
  obtain ⟨a, b, c, d⟩ := h.bounds S ha
  exact ⟨a, b, c, d⟩
/-- what the sum's loop keeps -/
def SumI (M pre : List Int) (total : Int) : Prop := total = (pre.map fun a => M.getD a.toNat 0 + 1).sum
theorem SumI.start : SumI M [] 0 := rfl
theorem SumI.next {pre : List Int} {total : Int} (h : SumI M pre total) : SumI M (pre ++ [a]) (total + M.getD a.toNat 0 + 1) := by
  unfold SumI at h ⊢
  rw [List.map_append, List.sum_append, ← h]
  simp
  omega
end
end Mine
end
section
namespace Mine
theorem flat_len {f : Nat → List Int} (hf : ∀ j, (f j).length ≤ 3) : ∀ ls : List Nat, (ls.flatMap f).length ≤ 3 * ls.length
  | [] => by simp
  | j :: r => by
    have h1 := hf j
    have h2 := flat_len hf r
    rw [List.flatMap_cons, List.length_append, List.length_cons]
    omega
section
variable {sizes st : List Int} {rows : List (List Int)} {R live held : List Int} {W : Int}
theorem LiveInv.heldLen (h : LiveInv sizes st rows R live held W) (h3 : ∀ j, (rows.getD j []).length ≤ 3) (h4 : st.length ≤ 4) (hR : R.length = 4) : held.length ≤ 16 := by
  have hl := h.length
  obtain ⟨ls, rfl, hnd, hr, rfl, _⟩ := h.ex
  have := flat_len h3 ls
  rw [List.length_map] at hl
  rw [List.length_append]
  omega
/-- one look of the law's inner loop: nothing, or one more object -/
def Look (sizes st : List Int) (rows : List (List Int)) (k : Nat) (live held : List Int) (W : Int) (live' held' : List Int) (W' : Int) : Prop :=
  ((ptr st k ∈ held → (k : Int) ∈ live) ∧ live' = live ∧ held' = held ∧ W' = W) ∨ ((k : Int) ∉ live ∧ ptr st k ∈ held ∧ live' = live ++ [(k : Int)] ∧ held' = held ++ rows.getD k [] ∧ W' = W + 1 + sizes.getD k 0)
theorem Look.keeps {k : Nat} {live' held' : List Int} {W' : Int} (h : Look sizes st rows k live held W live' held' W') (hk : k < st.length) (hL : LiveInv sizes st rows R live held W) {live₀ held₀ : List Int} (hP : Prog st k live₀ held₀ live held) :
    LiveInv sizes st rows R live' held' W' ∧ Prog st (k + 1) live₀ held₀ live' held' := by
  rcases h with ⟨h1, rfl, rfl, rfl⟩ | ⟨h1, h2, rfl, rfl, rfl⟩
  · exact ⟨hL, hP.skip h1⟩
  · exact ⟨hL.add hk h1 h2, hP.add hk h1 h2⟩
theorem any_mem {l : List Int} {x : Int} (h : (l.any fun y => y == x) = true) : x ∈ l := by
  obtain ⟨y, hy, e⟩ := List.any_eq_true.mp h
  exact (eq_of_beq e) ▸ hy
theorem any_not_mem {l : List Int} {x : Int} (h : (l.any fun y => y == x) = false) : x ∉ l := fun hin => by
  have : (l.any fun y => y == x) = true := List.any_eq_true.mpr ⟨_, hin, beq_self_eq_true x⟩
  rw [h] at this; cases this
end
end Mine
end
section
open PySem PyProof.Rows PySem.Spec
namespace Mine
section
variable {prog : Program} {w : World} {A : Around} {E : Value → Shared → Prop} {s : Shared} {env : Env} {h₀ : Heap} {x : Str} {body : List Stmt} {Q : Flow → Shared → Prop}

/-- a statement that goes on, and what it leaves -/
def Leaves (P : Shared → Prop) (f : Flow) (s' : Shared) : Prop := f = .next ∧ P s'
theorem Leaves.of {P : Shared → Prop} {s' : Shared} (h : P s') : Leaves P .next s' := ⟨rfl, h⟩
/-- one statement by what it leaves, then the rest -/
theorem stepBy {st : Stmt} {rest : List Stmt} (P : Shared → Prop) (h1 : wpAny (model prog w) A (exec st env) (Leaves P) E s)
    (h2 : ∀ s', P s' → wpAny (model prog w) A (execs rest env) Q E s') : wpAny (model prog w) A (execs (st :: rest) env) Q E s :=
  wpAny_execs_cons (wpAny_mono h1 (fun f s' h => by obtain ⟨rfl, p⟩ := h; exact h2 s' p) fun _ _ e => e)

/-- the end of a turn: any ledger that the word tells, apart from the loop's own objects -/
def TurnEnd (h₀ : Heap) (L : Addr) (J : (Str → Option Value) → List (Addr × Obj) → Prop) (own : List (Addr × Obj)) (s₁ s₂ : Shared) : Prop :=
  ∃ h' tk m' news' nx, s₂ = { s₁ with heap := h', toks := tk } ∧ Fr h₀ L h' m' ∧ News h₀ L h' news' ∧ (∀ p ∈ nx, p ∈ news') ∧ (∀ p ∈ own, p ∈ news') ∧ (∀ p ∈ own, ∀ b ∈ nx.map (·.1), p.1 ≠ b) ∧ J m' nx
def TurnPost (h₀ : Heap) (L : Addr) (J : (Str → Option Value) → List (Addr × Obj) → Prop) (own : List (Addr × Obj)) (s₁ : Shared) (Q : Flow → Shared → Prop) (f : Flow) (s₂ : Shared) : Prop :=
  match f with
  | .ret v => Q (.ret v) s₂
  | .brk => Q .next s₂
  | _ => TurnEnd h₀ L J own s₁ s₂
theorem TurnEnd.intro {L : Addr} {J : (Str → Option Value) → List (Addr × Obj) → Prop} {m' : Str → Option Value} {own news' : List (Addr × Obj)} {s₁ : Shared} {h' : Heap} {tk : Nat} (nx : List (Addr × Obj)) (F : Fr h₀ L h' m') (N : News h₀ L h' news')
    (hn : ∀ p ∈ nx, p ∈ news') (ho : ∀ p ∈ own, p ∈ news') (ha : ∀ p ∈ own, ∀ b ∈ nx.map (·.1), p.1 ≠ b) (hj : J m' nx) : TurnEnd h₀ L J own s₁ { s₁ with heap := h', toks := tk } := ⟨h', tk, m', news', nx, rfl, F, N, hn, ho, ha, hj⟩

theorem range_any {r : Addr} {a₀ b₀ : Int} {t₀ u₀ v₀ : Tok} {n : Nat} {m₀ : Str → Option Value} {news : List (Addr × Obj)} (J : Nat → (Str → Option Value) → List (Addr × Obj) → Prop)
    (hh : A.handled = none) (hr : IsRange s.heap r a₀ b₀ 1 t₀ u₀ v₀) (hsmall : Builtin.Range.small a₀ b₀ 1 = true) (hn : Builtin.Range.rangeSize a₀ b₀ 1 = (n : Int)) (F : Fr h₀ env.locals s.heap m₀) (N : News h₀ env.locals s.heap news) (hj : J 0 m₀ news)
    (turn : ∀ (i : Nat) (k : Int) (t : Tok) m₁ news₁ h tk own, i < n → k = a₀ + (i : Int) → J i m₁ news₁ → (∀ p ∈ own, ∀ b ∈ news₁.map (·.1), p.1 ≠ b) → Fr h₀ env.locals h (fun y => if y = x then some (.int k t) else m₁ y) → News h₀ env.locals h (news₁ ++ own) →
      wpAny (model prog w) A (execs body env) (TurnPost h₀ env.locals (J (i + 1)) own { s with heap := h, toks := tk } Q) E { s with heap := h, toks := tk })
    (done : ∀ m₁ news₁ h tk, J n m₁ news₁ → Fr h₀ env.locals h m₁ → News h₀ env.locals h news₁ → Q .next { s with heap := h, toks := tk }) :
    wpAny (model prog w) A (pyIter (.ref r)) (fun it s₂ => LoopAtV prog w A h₀ env x body Q E it s₂) E s := by
  refine wpAny_pyIter_range hr hsmall ?_
  have W : Walks prog w A s.heap.objs.size [s.heap.objs.size] [s.heap.objs.size] n (fun i v => ∃ t, v = .int (a₀ + i * 1) t)
      (fun i h => IsRangeIter h s.heap.objs.size (a₀ + (i : Nat) * 1) ((n : Int) - (i : Nat)) 1) := Walks.range hh _ a₀ 1 n
  refine ⟨_, _, _, n, _, _, m₀, news, J, rfl, W, ?_, ?_, ?_, ?_, F.push _, (fun p hp => ⟨Heap.get?_push_of_some _ (N p hp).1, (N p hp).2⟩), hj, ?_, ?_⟩
  · intro hm
    exact absurd F.ns.lt ((List.mem_singleton.mp hm) ▸ Nat.lt_irrefl _)
  · intro b hb
    rw [List.mem_singleton.mp hb]
    exact next_is_new F
  · intro p hp hI
    exact absurd (Heap.lt_size (N p hp).1) ((List.mem_singleton.mp hI) ▸ Nat.lt_irrefl _)
  · show IsRangeIter _ _ _ _ _
    rw [hn]
    simpa using Heap.get?_push_size _ rfl
  · rintro i v m₁ news₁ s₁ own ⟨hh', tk', rfl⟩ hin ⟨t, rfl⟩ hJ hoff hown hget hall hst F₁ N₁
    have e1 : a₀ + (i : Int) * 1 = a₀ + (i : Int) := by omega
    rw [e1] at F₁
    have hsep : ∀ p ∈ own, ∀ b ∈ news₁.map (·.1), p.1 ≠ b := by
      intro p hp b hb e
      obtain ⟨q, hq, rfl⟩ := List.mem_map.mp hb
      exact hoff q hq (e ▸ hown p hp)
    have N₂ : News h₀ env.locals hh' (news₁ ++ own) := fun p hp => N₁ p ((List.mem_append.mp hp).elim (fun h => List.mem_append.mpr (.inr h)) fun h => List.mem_append.mpr (.inl h))
    refine wpAny_mono (turn i _ t m₁ news₁ hh' tk' own hin rfl hJ hsep F₁ N₂) (fun f s₂ p => ?_) fun _ _ e => e
    have fin : TurnEnd h₀ env.locals (J (i + 1)) own { s with heap := hh', toks := tk' } s₂ → LoopStepU h₀ env.locals [s.heap.objs.size] own (J (i + 1)) { s with heap := hh', toks := tk' } .next s₂ := by
      rintro ⟨h', tk, m', news', nx, e, F', N', hn, ho, ha, hm⟩
      refine ⟨rfl, h', tk, m', nx, e, F', fun p hp => N' p ((List.mem_append.mp hp).elim (ho p) (hn p)), fun p hp hq => ?_, hm⟩
      have hI : hh'.get? s.heap.objs.size = some _ := hst
      exact ha _ (hall _ (List.mem_singleton.mpr rfl) (next_is_new F) _ hI) p.1 (List.mem_map.mpr ⟨p, hp, rfl⟩) (List.mem_singleton.mp hq).symm
    cases f with
    | ret v => exact .ret p
    | brk => exact .brk p
    | next => exact .next (fin p)
    | cont => exact .cont (fin p)
  · rintro h' tk m' news' F' N' _ hJ
    exact done m' news' h' tk hJ F' N'
end
end Mine
end
section
open PySem PyProof.Rows PySem.Spec
namespace Mine
section
variable {prog : Program} {w : World} {A : Around} {E : Value → Shared → Prop} {s : Shared} {env : Env} {h₀ : Heap} {x : Str} {c : Addr} {body : List Stmt} {Q : Flow → Shared → Prop}

/-- a for whose target is a cell of the frame (an inner scope reads it) -/
def LoopAtC (prog : Program) (w : World) (A : Around) (h₀ : Heap) (env : Env) (c : Addr) (body : List Stmt) (Q : Flow → Shared → Prop) (E : Value → Shared → Prop) (it : Value) (s₂ : Shared) : Prop :=
  ∃ (I : Addr) (fp wr : List Addr) (n : Nat) (P : Nat → Value → Prop) (St : Nat → Heap → Prop) (m : Str → Option Value) (news : List (Addr × Obj)) (oc : Obj) (v₀ : Option Value) (J : Nat → (Str → Option Value) → List (Addr × Obj) → Prop),
    it = .ref I ∧ Walks prog w A I fp wr n P St ∧ env.locals ∉ fp ∧ c ∉ fp ∧ (∀ b ∈ wr, h₀.get? b = none) ∧ (∀ p ∈ news, p.1 ∉ wr) ∧ St 0 s₂.heap ∧ Fr h₀ env.locals s₂.heap m ∧ News h₀ env.locals s₂.heap ((c, oc) :: news) ∧ oc.data = .cell v₀ ∧ (∀ p ∈ news, p.1 ≠ c) ∧ J 0 m news ∧
    (∀ i v m₁ news₁ s₁ own oc₁, (∃ h tk, s₁ = { s₂ with heap := h, toks := tk }) → i < n → P i v → J i m₁ news₁ → (∀ p ∈ news₁, p.1 ∉ wr) → (∀ p ∈ news₁, p.1 ≠ c) → oc₁.data = .cell (some v) → (∀ p ∈ own, p.1 ∈ fp) → (∀ b ∈ fp, h₀.get? b = none → ∀ o, s₁.heap.get? b = some o → (b, o) ∈ own) → St (i + 1) s₁.heap →
      Fr h₀ env.locals s₁.heap m₁ → News h₀ env.locals s₁.heap (((c, oc₁) :: news₁) ++ own) →
      wpAny (model prog w) A (execs body env) (fun f s₃ => match f with
        | .ret v => Q (.ret v) s₃
        | .brk => Q .next s₃
        | _ => ∃ h' tk m₂ news₂ oc₂ v₂, s₃ = { s₁ with heap := h', toks := tk } ∧ Fr h₀ env.locals h' m₂ ∧ News h₀ env.locals h' (((c, oc₂) :: news₂) ++ own) ∧ oc₂.data = .cell v₂ ∧ (∀ p ∈ news₂, p.1 ∉ wr) ∧ (∀ p ∈ news₂, p.1 ≠ c) ∧ J (i + 1) m₂ news₂) E s₁) ∧
    ∀ h' tk m' news' oc' v', Fr h₀ env.locals h' m' → News h₀ env.locals h' ((c, oc') :: news') → oc'.data = .cell v' → (∀ p ∈ news', p.1 ≠ c) → J n m' news' → Q .next { s₂ with heap := h', toks := tk }

theorem For_cell {px pos : Pos} {iter : Expr} (hk : env.scope.kind = .function) (hx : env.kindOf x = some .cell) (hc : env.cells.lookup x = some c)
    (h : wpAny (model prog w) A (eval iter env) (fun xv s₁ => wpAny (model prog w) A (pyIter xv) (fun it s₂ => LoopAtC prog w A h₀ env c body Q E it s₂) E s₁) E s)
    (hs : ∀ x, foldedSetIterable iter env x = pure x := by intro _; rfl)
    (hE : PassesOwn (model prog w) A env E := by passes_own) :
    wpAny (model prog w) A (exec (.For (.Name x px) iter body [] pos) env) Q E s := by
  refine wpAny_For (wpAny_mono h (fun xv s₁ h₁ => wpAny_mono h₁ (fun it s₂ h₂ => ?_) fun _ _ e => e) fun _ _ e => e) hs
  obtain ⟨I, fp, wr, n, P, St, m, news, oc, v₀, J, rfl, W, hLf, hcf, hwr, hnw, hst, F, N, hoc, hnc, h0, step, hQ⟩ := h₂
  have hLw : env.locals ∉ wr := fun h => hLf (W.sub _ h)
  have hcw : c ∉ wr := fun h => hcf (W.sub _ h)
  have old : ∀ b o, h₀.get? b = some o → b ∉ wr := fun b o e hb => by rw [hwr b hb] at e; cases e
  have hcL : c ≠ env.locals := (N _ (.head _)).2.1
  have hc0 : h₀.get? c = none := (N _ (.head _)).2.2
  refine codeAny_forLoop
    (fun k s' => ∃ h' tk m' news' oc' v' i, s' = { s₂ with heap := h', toks := tk } ∧ St i h' ∧ Fr h₀ env.locals h' m' ∧ News h₀ env.locals h' ((c, oc') :: news') ∧ oc'.data = .cell v' ∧ (∀ p ∈ news', p.1 ∉ wr) ∧ (∀ p ∈ news', p.1 ≠ c) ∧ J i m' news' ∧ i ≤ n ∧ k = n + 1 - i) ?_ (n + 1)
    ⟨s₂.heap, s₂.toks, m, news, oc, v₀, 0, rfl, hst, F, N, hoc, hnw, hnc, h0, Nat.zero_le _, rfl⟩
  rintro k s' ⟨h', tk, m', news', oc', v', i, rfl, hst', F', N', hoc', hnw', hnc', hJ, hi, rfl⟩
  have next : ∀ h₁ : Heap, (∀ b o, b ∉ wr → h'.get? b = some o → h₁.get? b = some o) → Fr h₀ env.locals h₁ m' ∧ News h₀ env.locals h₁ ((c, oc') :: news') := fun h₁ hk₁ =>
    ⟨⟨F'.ns.at' fun o e => hk₁ _ o hLw e, fun b o e => hk₁ b o (old b o e) (F'.keep b o e), F'.above⟩, fun p hp => ⟨hk₁ _ _ (by
      rcases List.mem_cons.mp hp with rfl | hp
      · exact hcw
      · exact hnw' p hp) (N' p hp).1, (N' p hp).2⟩⟩
  by_cases hlt : i < n
  · refine W.item i _ _ _ hlt hst' fun v h₁ tk₁ hP hst₁ hk₁ => ?_
    obtain ⟨F₁, N₁⟩ := next h₁ hk₁
    refine wpAny_assign_Name (wpAny_storeName_cell hk hx hc ⟨oc', (N₁ _ (.head _)).1, hoc'⟩ fun h₂ hv hs₂ => ?_)
    obtain ⟨o₂, ho₂, hd₂⟩ := hv
    have F₂ : Fr h₀ env.locals h₂ m' := ⟨F₁.ns.sameBut hs₂ (Ne.symm hcL), fun b ob e => (hs₂.2 b (fun q => by rw [q, hc0] at e; cases e)).trans (F₁.keep b ob e), F₁.above⟩
    have N₂ : News h₀ env.locals h₂ ((c, o₂) :: news') := fun p hp => by
      rcases List.mem_cons.mp hp with rfl | hp
      · exact ⟨ho₂, hcL, hc0⟩
      · exact ⟨(hs₂.2 _ (hnc' p hp)).trans (N₁ p (.tail _ hp)).1, (N₁ p (.tail _ hp)).2⟩
    have Nown : News h₀ env.locals h₂ (ownOf h₀ fp h₂) := news_ownOf hLf
    have hst₂ : St (i + 1) h₂ := W.frame _ _ _ hst₁ fun b hb o e => (hs₂.2 b fun q => hcf (q ▸ hb)).trans e
    have N₃ : News h₀ env.locals h₂ (((c, o₂) :: news') ++ ownOf h₀ fp h₂) := fun p hp => (List.mem_append.mp hp).elim (N₂ p) (Nown p)
    refine wpAny_mono (wpAny_passesOwn hE (step i v m' news' _ (ownOf h₀ fp h₂) o₂ ⟨_, _, rfl⟩ hlt hP hJ hnw' hnc' hd₂ ownOf_sub (fun b hb hn o e => mem_ownOf hb hn e) hst₂ F₂ N₃)) (fun f s₃ h₃ => ?_) fun _ _ e => e
    have fin : (∃ h'' tk'' m₂ news₂ oc₂ v₂, s₃ = { ({ s₂ with heap := h₂, toks := tk₁ } : Shared) with heap := h'', toks := tk'' } ∧ Fr h₀ env.locals h'' m₂ ∧ News h₀ env.locals h'' (((c, oc₂) :: news₂) ++ ownOf h₀ fp h₂) ∧ oc₂.data = .cell v₂ ∧ (∀ p ∈ news₂, p.1 ∉ wr) ∧ (∀ p ∈ news₂, p.1 ≠ c) ∧ J (i + 1) m₂ news₂) →
        ∃ k, k < n + 1 - i ∧ ∃ h' tk m' news' oc' v' i, s₃ = { s₂ with heap := h', toks := tk } ∧ St i h' ∧ Fr h₀ env.locals h' m' ∧ News h₀ env.locals h' ((c, oc') :: news') ∧ oc'.data = .cell v' ∧ (∀ p ∈ news', p.1 ∉ wr) ∧ (∀ p ∈ news', p.1 ≠ c) ∧ J i m' news' ∧ i ≤ n ∧ k = n + 1 - i := by
      rintro ⟨h₃', tk₃, m₂, news₂, oc₂, v₂, rfl, F₃, N₄, hoc₂, ha₃, hc₃, hJ₃⟩
      refine ⟨n + 1 - (i + 1), by omega, h₃', tk₃, m₂, news₂, oc₂, v₂, i + 1, rfl, ?_, F₃, fun p hp => N₄ p (List.mem_append_left _ hp), hoc₂, ha₃, hc₃, hJ₃, hlt, rfl⟩
      refine W.frame _ _ _ hst₁ fun b hb o e => ?_
      have e₂ : h₂.get? b = some o := (hs₂.2 b fun q => hcf (q ▸ hb)).trans e
      cases hn : h₀.get? b with
      | some o₀ =>
        have : o₀ = o := by have := F₂.keep b o₀ hn; rw [e₂] at this; exact (Option.some.inj this).symm
        exact this ▸ F₃.keep b o₀ hn
      | none => exact (N₄ _ (List.mem_append_right _ (mem_ownOf hb hn e₂))).1
    cases f with
    | ret v => exact h₃
    | brk => exact h₃
    | cont => exact fin h₃
    | next => exact fin h₃
  · have hin : i = n := by omega
    subst hin
    refine W.done _ _ _ hst' fun h₁ tk₁ hk₁ => wpAny_execs_nil ?_
    obtain ⟨F₁, N₁⟩ := next h₁ hk₁
    exact hQ h₁ tk₁ m' news' oc' v' F₁ N₁ hoc' hnc' hJ

/-- the end of a turn of such a loop -/
def TurnEndC (h₀ : Heap) (L c : Addr) (J : (Str → Option Value) → List (Addr × Obj) → Prop) (own : List (Addr × Obj)) (s₁ s₂ : Shared) : Prop :=
  ∃ h' tk m' news' nx oc v, s₂ = { s₁ with heap := h', toks := tk } ∧ Fr h₀ L h' m' ∧ News h₀ L h' news' ∧ (c, oc) ∈ news' ∧ oc.data = .cell v ∧ (∀ p ∈ nx, p ∈ news') ∧ (∀ p ∈ own, p ∈ news') ∧ (∀ p ∈ own, ∀ b ∈ nx.map (·.1), p.1 ≠ b) ∧ (∀ b ∈ nx.map (·.1), b ≠ c) ∧ J m' nx
def TurnPostC (h₀ : Heap) (L c : Addr) (J : (Str → Option Value) → List (Addr × Obj) → Prop) (own : List (Addr × Obj)) (s₁ : Shared) (Q : Flow → Shared → Prop) (f : Flow) (s₂ : Shared) : Prop :=
  match f with
  | .ret v => Q (.ret v) s₂
  | .brk => Q .next s₂
  | _ => TurnEndC h₀ L c J own s₁ s₂
theorem TurnEndC.intro {L : Addr} {J : (Str → Option Value) → List (Addr × Obj) → Prop} {m' : Str → Option Value} {own news' : List (Addr × Obj)} {s₁ : Shared} {h' : Heap} {tk : Nat} {oc : Obj} {v : Option Value} (nx : List (Addr × Obj)) (F : Fr h₀ L h' m') (N : News h₀ L h' news')
    (hc : (c, oc) ∈ news') (hd : oc.data = .cell v) (hn : ∀ p ∈ nx, p ∈ news') (ho : ∀ p ∈ own, p ∈ news') (ha : ∀ p ∈ own, ∀ b ∈ nx.map (·.1), p.1 ≠ b) (hb : ∀ b ∈ nx.map (·.1), b ≠ c) (hj : J m' nx) : TurnEndC h₀ L c J own s₁ { s₁ with heap := h', toks := tk } :=
  ⟨h', tk, m', news', nx, oc, v, rfl, F, N, hc, hd, hn, ho, ha, hb, hj⟩

theorem range_cell {r : Addr} {a₀ b₀ : Int} {t₀ u₀ v₀ : Tok} {n : Nat} {m₀ : Str → Option Value} {news : List (Addr × Obj)} {oc : Obj} {vc : Option Value} (J : Nat → (Str → Option Value) → List (Addr × Obj) → Prop)
    (hh : A.handled = none) (hr : IsRange s.heap r a₀ b₀ 1 t₀ u₀ v₀) (hsmall : Builtin.Range.small a₀ b₀ 1 = true) (hn : Builtin.Range.rangeSize a₀ b₀ 1 = (n : Int)) (F : Fr h₀ env.locals s.heap m₀) (N : News h₀ env.locals s.heap ((c, oc) :: news)) (hoc : oc.data = .cell vc) (hnc : ∀ p ∈ news, p.1 ≠ c) (hj : J 0 m₀ news)
    (turn : ∀ (i : Nat) (k : Int) (t : Tok) m₁ news₁ h tk own oc₁, i < n → k = a₀ + (i : Int) → J i m₁ news₁ → (∀ p ∈ own, ∀ b ∈ c :: news₁.map (·.1), p.1 ≠ b) → (∀ p ∈ news₁, p.1 ≠ c) → oc₁.data = .cell (some (.int k t)) → Fr h₀ env.locals h m₁ → News h₀ env.locals h (((c, oc₁) :: news₁) ++ own) →
      wpAny (model prog w) A (execs body env) (TurnPostC h₀ env.locals c (J (i + 1)) own { s with heap := h, toks := tk } Q) E { s with heap := h, toks := tk })
    (done : ∀ m₁ news₁ h tk oc₁ v₁, J n m₁ news₁ → Fr h₀ env.locals h m₁ → News h₀ env.locals h ((c, oc₁) :: news₁) → oc₁.data = .cell v₁ → (∀ p ∈ news₁, p.1 ≠ c) → Q .next { s with heap := h, toks := tk }) :
    wpAny (model prog w) A (pyIter (.ref r)) (fun it s₂ => LoopAtC prog w A h₀ env c body Q E it s₂) E s := by
  refine wpAny_pyIter_range hr hsmall ?_
  have W : Walks prog w A s.heap.objs.size [s.heap.objs.size] [s.heap.objs.size] n (fun i v => ∃ t, v = .int (a₀ + i * 1) t)
      (fun i h => IsRangeIter h s.heap.objs.size (a₀ + (i : Nat) * 1) ((n : Int) - (i : Nat)) 1) := Walks.range hh _ a₀ 1 n
  have below : ∀ p ∈ (c, oc) :: news, p.1 ∉ [s.heap.objs.size] := fun p hp hI => absurd (Heap.lt_size (N p hp).1) ((List.mem_singleton.mp hI) ▸ Nat.lt_irrefl _)
  refine ⟨_, _, _, n, _, _, m₀, news, oc, vc, J, rfl, W, ?_, below _ (.head _), ?_, fun p hp => below p (.tail _ hp), ?_, F.push _, (fun p hp => ⟨Heap.get?_push_of_some _ (N p hp).1, (N p hp).2⟩), hoc, hnc, hj, ?_, ?_⟩
  · intro hm
    exact absurd F.ns.lt ((List.mem_singleton.mp hm) ▸ Nat.lt_irrefl _)
  · intro b hb
    rw [List.mem_singleton.mp hb]
    exact next_is_new F
  · show IsRangeIter _ _ _ _ _
    rw [hn]
    simpa using Heap.get?_push_size _ rfl
  · rintro i v m₁ news₁ s₁ own oc₁ ⟨hh', tk', rfl⟩ hin ⟨t, rfl⟩ hJ hoff hnc₁ hd₁ hown hall hst F₁ N₁
    have e1 : a₀ + (i : Int) * 1 = a₀ + (i : Int) := by omega
    rw [e1] at hd₁
    have hsep : ∀ p ∈ own, ∀ b ∈ c :: news₁.map (·.1), p.1 ≠ b := by
      intro p hp b hb e
      rcases List.mem_cons.mp hb with rfl | hb
      · exact below _ (.head _) (e ▸ hown p hp)
      · obtain ⟨q, hq, rfl⟩ := List.mem_map.mp hb
        exact hoff q hq (e ▸ hown p hp)
    refine wpAny_mono (turn i _ t m₁ news₁ hh' tk' own oc₁ hin rfl hJ hsep hnc₁ hd₁ F₁ N₁) (fun f s₂ p => ?_) fun _ _ e => e
    have fin : TurnEndC h₀ env.locals c (J (i + 1)) own { s with heap := hh', toks := tk' } s₂ → ∃ h' tk m₂ news₂ oc₂ v₂, s₂ = { ({ s with heap := hh', toks := tk' } : Shared) with heap := h', toks := tk } ∧ Fr h₀ env.locals h' m₂ ∧ News h₀ env.locals h' (((c, oc₂) :: news₂) ++ own) ∧ oc₂.data = .cell v₂ ∧ (∀ p ∈ news₂, p.1 ∉ [s.heap.objs.size]) ∧ (∀ p ∈ news₂, p.1 ≠ c) ∧ J (i + 1) m₂ news₂ := by
      rintro ⟨h', tk, m', news', nx, oc', v', e, F', N', hc', hd', hn, ho, ha, hb, hm⟩
      refine ⟨h', tk, m', nx, oc', v', e, F', fun p hp => ?_, hd', fun p hp hq => ?_, fun p hp => hb _ (List.mem_map.mpr ⟨p, hp, rfl⟩), hm⟩
      · rcases List.mem_append.mp hp with hp | hp
        · rcases List.mem_cons.mp hp with rfl | hp
          · exact N' _ hc'
          · exact N' p (hn p hp)
        · exact N' p (ho p hp)
      · have hI : hh'.get? s.heap.objs.size = some _ := hst
        exact ha _ (hall _ (List.mem_singleton.mpr rfl) (next_is_new F) _ hI) p.1 (List.mem_map.mpr ⟨p, hp, rfl⟩) (List.mem_singleton.mp hq).symm
    cases f with
    | ret v => exact p
    | brk => exact p
    | next => exact fin p
    | cont => exact fin p
  · rintro h' tk m' news' oc' v' F' N' hd' hc' hJ
    exact done m' news' h' tk oc' v' hJ F' N' hd' hc'
end
end Mine
end
section
open PySem PyProof.Rows PySem.Spec
namespace Mine
section
variable {prog : Program} {w : World} {A : Around} {E : Value → Shared → Prop} {s : Shared} {env : Env} {Q : Flow → Shared → Prop}
theorem steps2 {a b : Stmt} {rest : List Stmt} (P : Shared → Prop) (h1 : wpAny (model prog w) A (exec a env) (Leaves fun s1 => wpAny (model prog w) A (exec b env) (Leaves P) E s1) E s)
    (h2 : ∀ s', P s' → wpAny (model prog w) A (execs rest env) Q E s') : wpAny (model prog w) A (execs (a :: b :: rest) env) Q E s :=
  stepBy _ h1 fun _ h => stepBy P h h2
theorem steps3 {a b c : Stmt} {rest : List Stmt} (P : Shared → Prop) (h1 : wpAny (model prog w) A (exec a env) (Leaves fun s1 => wpAny (model prog w) A (exec b env) (Leaves fun s2 => wpAny (model prog w) A (exec c env) (Leaves P) E s2) E s1) E s)
    (h2 : ∀ s', P s' → wpAny (model prog w) A (execs rest env) Q E s') : wpAny (model prog w) A (execs (a :: b :: c :: rest) env) Q E s :=
  stepBy _ h1 fun _ h => steps2 P h h2
end
end Mine
end
section
open PySem PyProof.Rows PySem.Spec
namespace Mine
section
variable {prog : Program} {w : World} {A : Around} {h₀ : Heap} {L : Addr} {m : Str → Option Value} {env : Env} {elt : Expr} {x : Str} {scope : Scope} {cl : List (Str × Addr)} {s : Shared} {S : List (Addr × Obj) → Prop} {Fin : List Value → List (Addr × Obj) → Prop} {news : List (Addr × Obj)}

/-- a comprehension over a range whose elements are ints with a property that hangs on the turn -/
theorem comp_range {n : Nat} {a : Int} (G : Int → Int → Prop)
    (turn : ∀ k t I oI C oC D m₂ ys h tk (E' : Value → Shared → Prop), a ≤ k → k < a + (n : Int) → LCg.NsObj oC m₂ → m₂ x = some (.int k t) → Fr h₀ L h m → News h₀ L h ((I, oI) :: (C, oC) :: (D, LCg.lst ys) :: news) → LCg.Off3 I C D news → ((@Ne Nat I C) ∧ (@Ne Nat I D) ∧ (@Ne Nat C D)) →
      wpAny (model prog w) A (eval elt (compEnvC scope cl C env)) (LCg.CompEnd h₀ L m { s with heap := h, toks := tk } I oI C oC D (LCg.lst ys) S (fun y news' => news' = news ∧ ∃ (r : Int) (t' : Tok), y = .int r t' ∧ G k r)) E' { s with heap := h, toks := tk })
    (fin : ∀ ys rs, IntsAre ys rs → rs.length = n → (∀ (i : Nat) (r : Int), rs[i]? = some r → G (a + (i : Int)) r) → Fin ys news) : LCg.CompRest prog w A h₀ L m env elt x scope cl s S (fun i v => ∃ t, v = .int (a + (i : Int)) t) Fin n 0 [] news := by
  have key : ∀ (j i : Nat) (ys : List Value) (rs : List Int), i + j = n → rs.length = i → IntsAre ys rs → (∀ (i : Nat) (r : Int), rs[i]? = some r → G (a + (i : Int)) r) → LCg.CompRest prog w A h₀ L m env elt x scope cl s S (fun i v => ∃ t, v = .int (a + (i : Int)) t) Fin j i ys news := by
    intro j
    induction j with
    | zero =>
      intro i ys rs hi hl hy hG
      exact LCg.CompRest.zero (fin ys rs hy (by omega) hG)
    | succ j ih =>
      intro i ys rs hi hl hy hG
      refine LCg.CompRest.succ ?_
      intro v I oI C oC D m₂ h tk E' hv hC hx F N off ne
      obtain ⟨t, hv'⟩ := hv
      rw [hv'] at hx
      refine wpAny_mono (turn _ t I oI C oC D m₂ ys h tk E' (by omega) (by omega) hC hx F N off ne) (fun y s₂ hq => ?_) fun _ _ e => e
      obtain ⟨h', tk', nw, e, F', N', off', hS, hn, r, t', hy', hr⟩ := hq
      rw [hn] at N' off' hS
      refine ⟨h', tk', news, e, F', N', off', hS, ?_⟩
      rw [hy']
      refine ih (i + 1) _ (rs ++ [r]) (by omega) (by simp [hl]) (IntsAre.append hy (.cons r t' .nil)) ?_
      intro i' r' hi'
      rcases Nat.lt_trichotomy i' rs.length with h1 | h1 | h1
      · rw [List.getElem?_append_left h1] at hi'
        exact hG i' r' hi'
      · rw [List.getElem?_append_right (by omega), h1, Nat.sub_self] at hi'
        simp at hi'
        subst hi'
        rw [h1, hl]
        exact hr
      · rw [List.getElem?_eq_none (by simp; omega)] at hi'
        cases hi'
  exact key n 0 [] [] (by omega) rfl .nil (fun i r h => by simp at h)
end
end Mine
end
open PySem PySem.W PyProof.Rows
namespace Mine
open_top hd for PySem.Challenge.rw_k19_0015
def bodyOf : Stmt → List Stmt
  | .FunctionDef _ _ b _ _ _ _ _ _ _ => b
  | _ => []
def scopeOf : Stmt → Scope
  | .FunctionDef _ _ _ _ _ _ s _ _ _ => s
  | _ => { kind := .function, names := [], isGenerator := false, isCoroutine := false, more := [] }
def defAt : Nat → List Stmt → Stmt
  | 0, st :: _ => st
  | n + 1, _ :: r => defAt n r
  | _, [] => .Pass ⟨0, 0, 0, 0⟩
def lawBody : List Stmt := bodyOf (defAt 10 PySem.Challenge.pw_k19_0015.main.body)
def lawScope : Scope := scopeOf (defAt 10 PySem.Challenge.pw_k19_0015.main.body)
abbrev lawEnv (L fa : Addr) (cd : Value) : Env := envOfC (Str.ofString "law") lawScope L fa cd
def reachBody : List Stmt := bodyOf (defAt 4 PySem.Challenge.pw_k19_0015.main.body)
def reachScope : Scope := scopeOf (defAt 4 PySem.Challenge.pw_k19_0015.main.body)
def wordsBody : List Stmt := bodyOf (defAt 5 PySem.Challenge.pw_k19_0015.main.body)
def wordsScope : Scope := scopeOf (defAt 5 PySem.Challenge.pw_k19_0015.main.body)
/-- where the law stands, and the two frames above it -/
abbrev A0 (L fa : Addr) (cd : Value) : Around := callerA.deeper (lawEnv L fa cd)
abbrev wordsEnv (L : Addr) : Env := envOf (Str.ofString "live_words") wordsScope L 49 (.ref 48)
abbrev A1 (L fa : Addr) (cd : Value) (L1 : Addr) : Around := (A0 L fa cd).deeper (wordsEnv L1)
abbrev reachEnv (L : Addr) : Env := envOf (Str.ofString "reachable") reachScope L 42 (.ref 41)
abbrev A2 (L fa : Addr) (cd : Value) (L1 L2 : Addr) : Around := (A1 L fa cd L1).deeper (reachEnv L2)
def forBody : Stmt → List Stmt
  | .For _ _ b _ _ => b
  | _ => []
def turnBody : List Stmt := forBody (defAt 14 lawBody)
def innerBody : List Stmt := forBody (defAt 0 turnBody)
def startBody : List Stmt := forBody (defAt 5 lawBody)
def buildBody : List Stmt := forBody (defAt 8 lawBody)
/-- the ledger bears a list of lists of ints -/
inductive RowsAre (news : List (Addr × Obj)) : List Value → List (List Int) → Prop
  | nil : RowsAre news [] []
  | cons {a : Addr} {vs : List Value} {n : Nat} {row : List Int} {refs : List Value} {rows : List (List Int)} : (a, listOf vs.toArray n) ∈ news → IntsAre vs row → RowsAre news refs rows → RowsAre news (.ref a :: refs) (row :: rows)
theorem RowsAre.mono {news news' : List (Addr × Obj)} {refs : List Value} {rows : List (List Int)} (h : RowsAre news refs rows) (hs : ∀ p ∈ news, p ∈ news') : RowsAre news' refs rows := by
  induction h with
  | nil => exact .nil
  | cons hm hi _ ih => exact .cons (hs _ hm) hi ih
theorem RowsAre.length {news : List (Addr × Obj)} {refs : List Value} {rows : List (List Int)} (h : RowsAre news refs rows) : refs.length = rows.length := by
  induction h with
  | nil => rfl
  | cons _ _ _ ih => simp [ih]
theorem RowsAre.snoc {news : List (Addr × Obj)} {refs : List Value} {rows : List (List Int)} {a : Addr} {vs : List Value} {n : Nat} {row : List Int} (h : RowsAre news refs rows) (hm : (a, listOf vs.toArray n) ∈ news) (hi : IntsAre vs row) :
    RowsAre news (refs ++ [.ref a]) (rows ++ [row]) := by
  induction h with
  | nil => exact .cons hm hi .nil
  | cons hm' hi' _ ih => exact .cons hm' hi' ih
theorem RowsAre.get {news : List (Addr × Obj)} {refs : List Value} {rows : List (List Int)} (h : RowsAre news refs rows) : ∀ i, i < rows.length → ∃ (a : Addr) (vs : List Value) (n : Nat), refs[i]? = some (.ref a) ∧ (a, listOf vs.toArray n) ∈ news ∧ IntsAre vs (rows.getD i []) := by
  induction h with
  | nil => intro i hi; exact absurd hi (Nat.not_lt_zero _)
  | @cons a vs n row refs rows hm hi' _ ih =>
    intro i hi
    cases i with
    | zero => exact ⟨a, vs, n, rfl, hm, hi'⟩
    | succ i => simpa using ih i (by simpa using hi)
section
variable {prog : Program} {w : World} {A : Around} {E : Value → Shared → Prop} {s : Shared} {h₀ : Heap} {L : Addr}
theorem rows_item {value slice : PySem.Expr} {aR : Addr} {refs : List Value} {nR : Nat} {rows : List (List Int)} {news rowObjs : List (Addr × Obj)} {k : Int} {u : Tok} {Q : Value → Shared → Prop}
    (hA : RowsAre rowObjs refs rows) (N : News h₀ L s.heap news) (hR : (aR, listOf refs.toArray nR) ∈ news) (hsub : ∀ p ∈ rowObjs, p ∈ news) (h0 : 0 ≤ k) (h1 : k < rows.length) (h2 : rows.length ≤ 100)
    (h : ∀ (a : Addr) (ws : List Value), s.heap.IsList a ws.toArray → IntsAre ws (rows.getD k.toNat []) → Q (.ref a) s)
    (hs : subscripted slice false (.ref aR) (.int k u) = operate [.ref aR, .int k u] (getItem (.ref aR) (.int k u)) := by with_unfolding_all rfl) :
    wpAny (model prog w) A (subscriptTail value slice (.ref aR) (.int k u)) Q E s := by
  obtain ⟨a, vs, n, e, hm, hi⟩ := hA.get k.toNat (by omega)
  have hl : s.heap.IsList aR refs.toArray := ⟨_, (N _ hR).1, rfl, nR, rfl⟩
  have hl2 : s.heap.IsList a vs.toArray := ⟨_, (N _ (hsub _ hm)).1, rfl, n, rfl⟩
  exact tail_any hl.typeIs slot_list_getitem.lookup (wpAny_getItem_list hl h0 (by omega) (by simpa using e) (h a vs hl2 hi)) hs
end
def ReachPost (g : Heap) (L2 : Addr) (s : Shared) (led : List (Addr × Obj)) (st : List Int) (rows : List (List Int)) (M R : List Int) (f : Flow) (s' : Shared) : Prop :=
  ∃ a vs n met h' tk m', f = .ret (.ref a) ∧ s' = { s with heap := h', toks := tk } ∧ Fr g L2 h' m' ∧ News g L2 h' ((a, listOf (List.toArray vs) n) :: led) ∧ IntsAre vs met ∧ (∀ p ∈ led, @LT.lt Nat _ p.1 a) ∧ MetInv st rows R met ∧ Cov R met ∧ (∀ a ∈ met, Cov (Mine.cut M a) met)
theorem ReachPost.of {g : Heap} {L2 : Addr} {s : Shared} {led : List (Addr × Obj)} {st : List Int} {rows : List (List Int)} {M R met : List Int} {l : Addr} {vs : List Value} {n : Nat} {h' : Heap} {tk : Nat} {m' : Str → Option Value} {place : Int}
    (F : Fr g L2 h' m') (N : News g L2 h' ((l, listOf vs.toArray n) :: led)) (hv : IntsAre vs met) (hl : ∀ p ∈ led, @LT.lt Nat _ p.1 l) (hW : WhileI st rows M R met place) (he : ¬ place < met.length) :
    ReachPost g L2 s led st rows M R (.ret (.ref l)) { s with heap := h', toks := tk } := ⟨l, vs, n, met, h', tk, m', rfl, rfl, F, N, hv, hl, hW.inv, hW.cov, hW.end he⟩
theorem reach_tail (w : World) (mg mb : Str → Option Value) (mean : ExcName → Option Value) (Ll fa : Addr) (cd : Value) (L1 L2 : Addr) (base g : Heap) (s : Shared)
    (KX : (hd.heap_39 w.params).In g) (T : Top hd.view_39 (looseW hd.view_39 []) mean mg mb g) (B : Below (A1 Ll fa cd L1) base [wordsEnv L1, lawEnv Ll fa cd] g)
    (am ar b1 b2 l : Addr) (q1 q2 : Obj) (mvs rvs vs : List Value) (nm nr nn : Nat) (M R sizes st met : List Int) (rows : List (List Int)) (u : Str → Option Value)
    (F : Fr g L2 s.heap (fun y => if y = Str.ofString "met" then some (.ref l) else if y = Str.ofString "mem" then some (.ref am) else u y))
    (N : News g L2 s.heap [(l, listOf vs.toArray nn), (b2, q2), (b1, q1), (am, listOf mvs.toArray nm), (ar, listOf rvs.toArray nr)])
    (hne : @Ne Nat am ar) (hl : @LT.lt Nat _ b2 l ∧ @LT.lt Nat _ b1 l ∧ @LT.lt Nat _ am l ∧ @LT.lt Nat _ ar l)
    (hm : IntsAre mvs M) (hr : IntsAre rvs R) (hv : IntsAre vs met) (S : Sound sizes st rows M R) (hM : M.length ≤ 40) (hR : R.length = 4) (hst : st.length ≤ 4)
    (hW : MetW st rows R [] R met) (h4 : met.length ≤ 4) :
    wpAny (model PySem.Challenge.rw_k19_0015.row.prog w) (A2 Ll fa cd L1 L2) (execs (reachBody.drop 2) (reachEnv L2))
      (ReachPost g L2 s [(b2, q2), (b1, q1), (am, listOf mvs.toArray nm), (ar, listOf rvs.toArray nr)] st rows M R) (fun _ _ => False) s := by
  revert KX
  k_with_none
  w_top off
  k_fill
  intro KX
  k_with "exec While Compare cons nil" => k_while (fun _ met place => WhileI st rows M R met place ∧ met.length ≤ 4 ∧ 0 ≤ place ∧ place ≤ met.length) (fun _ met place => 5 - place.toNat) "met" "place"
  k_with "subscriptTail Name Name ref int" => (
    (fail_if_success (rename Here _ _ => hX))
    have hH := WhileI.here S (by assumption) (by assumption) (by assumption)
    have hH0 := hH.h0
    have hH1 := hH.h1
    have hH2 := hH.h2
    have hH3 := hH.h3)
  k_with "pyIter ref" => (
    have hs2 := WhileI.srcS S (by assumption) (by assumption) (by assumption)
    k_state_given ["met!"] (fun met0 pre met => MetW st rows R met0 pre met ∧ met.length ≤ 4) "met")
  k_with "state" => first
    | exact ⟨MetW.start MetInv.nil, by decide⟩
    | exact ⟨MetW.start (by assumption), by assumption⟩
    | exact ⟨MetW.start (WhileI.inv (by assumption)), by assumption⟩
    | exact ⟨WhileI.start (by assumption) rfl, by assumption, by decide, by omega⟩
    | exact WhileI.turn S (by assumption) (by assumption) (by assumption) (by assumption) (by assumption)
    | exact ⟨MetW.skip1 (by assumption) (by assumption), by assumption⟩
    | exact ⟨MetW.skip2 (by assumption) (by assumption), by assumption⟩
    | exact (fun h => ⟨h, h.len hst⟩) (MetW.add (by assumption) (by assumption) (by assumption) (by assumption) (by assumption))
  with_unfolding_all refine wpAny_execs_cons ?_
  k_steps
  exact ReachPost.of (by assumption) (by assumption) (by assumption) (List.forall_mem_cons.mpr ⟨hl.1, List.forall_mem_cons.mpr ⟨hl.2.1, List.forall_mem_cons.mpr ⟨hl.2.2.1, List.forall_mem_cons.mpr ⟨hl.2.2.2, List.forall_mem_nil _⟩⟩⟩⟩) (by assumption) (by assumption)
def MetPost (g : Heap) (L2 : Addr) (s : Shared) (l : Addr) (led : List (Addr × Obj)) (am : Addr) (st : List Int) (rows : List (List Int)) (R : List Int) (s' : Shared) : Prop :=
  ∃ (h' : Heap) (tk : Nat) (u : Str → Option Value) (vs : List Value) (n : Nat) (met : List Int), s' = { s with heap := h', toks := tk } ∧ Fr g L2 h' (fun y => if y = Str.ofString "met" then some (.ref l) else if y = Str.ofString "mem" then some (.ref am) else u y) ∧ News g L2 h' ((l, listOf (List.toArray vs) n) :: led) ∧ IntsAre vs met ∧ MetW st rows R [] R met ∧ met.length ≤ 4
def MetStart (g : Heap) (L2 : Addr) (s : Shared) (led : List (Addr × Obj)) (am ar : Addr) (u : Str → Option Value) (s' : Shared) : Prop :=
  ∃ (h' : Heap) (tk : Nat) (l : Addr), s' = { s with heap := h', toks := tk } ∧ Fr g L2 h' (fun y => if y = Str.ofString "met" then some (.ref l) else if y = Str.ofString "roots" then some (.ref ar) else if y = Str.ofString "mem" then some (.ref am) else u y) ∧
    News g L2 h' ((l, listOf (List.toArray []) 0) :: led) ∧ ∀ p ∈ led, @LT.lt Nat _ p.1 l
theorem fr_say {h₀ h : Heap} {L : Addr} {m : Str → Option Value} {x : Str} {v : Value} (F : Fr h₀ L h m) (e : m x = some v) : Fr h₀ L h (fun y => if y = x then some v else m y) := by
  have em : (fun y => if y = x then some v else m y) = m := by
    funext y
    by_cases hy : y = x
    · rw [if_pos hy, hy, e]
    · rw [if_neg hy]
  rw [em]; exact F
theorem reach_body (w : World) (mg mb : Str → Option Value) (mean : ExcName → Option Value) (Ll fa : Addr) (cd : Value) (L1 L2 : Addr) (base g : Heap) (s : Shared)
    (KX : (hd.heap_39 w.params).In g) (T : Top hd.view_39 (looseW hd.view_39 []) mean mg mb g) (B : Below (A1 Ll fa cd L1) base [wordsEnv L1, lawEnv Ll fa cd] g)
    (am ar b1 b2 : Addr) (q1 q2 : Obj) (mvs rvs : List Value) (nm nr : Nat) (M R sizes st : List Int) (rows : List (List Int)) (u : Str → Option Value)
    (F : Fr g L2 s.heap (fun y => if y = Str.ofString "roots" then some (.ref ar) else if y = Str.ofString "mem" then some (.ref am) else u y))
    (N : News g L2 s.heap [(b2, q2), (b1, q1), (am, listOf mvs.toArray nm), (ar, listOf rvs.toArray nr)])
    (hne : @Ne Nat am ar)
    (hm : IntsAre mvs M) (hr : IntsAre rvs R) (S : Sound sizes st rows M R) (hM : M.length ≤ 40) (hR : R.length = 4) (hst : st.length ≤ 4) :
    wpAny (model PySem.Challenge.rw_k19_0015.row.prog w) (A2 Ll fa cd L1 L2) (execs reachBody (reachEnv L2))
      (ReachPost g L2 s [(b2, q2), (b1, q1), (am, listOf mvs.toArray nm), (ar, listOf rvs.toArray nr)] st rows M R) (fun _ _ => False) s := by
  revert KX
  k_with_none
  w_top off
  k_fill
  intro KX
  have hsR := S.srcR
  k_with "pyIter ref" => k_state_given ["met!"] (fun met0 pre met => MetW st rows R met0 pre met ∧ met.length ≤ 4) "met"
  k_with "state" => first
    | exact ⟨MetW.start MetInv.nil, by decide⟩
    | exact ⟨MetW.skip1 (by assumption) (by assumption), by assumption⟩
    | exact ⟨MetW.skip2 (by assumption) (by assumption), by assumption⟩
    | exact (fun h => ⟨h, h.len hst⟩) (MetW.add (by assumption) (by assumption) (by assumption) (by assumption) (by assumption))
  with_unfolding_all refine stepBy (MetStart g L2 s [(b2, q2), (b1, q1), (am, listOf mvs.toArray nm), (ar, listOf rvs.toArray nr)] am ar u) ?_ ?_
  · k_steps
    exact Leaves.of ⟨_, _, _, rfl, by assumption, by assumption, List.forall_mem_cons.mpr ⟨by omega, List.forall_mem_cons.mpr ⟨by omega, List.forall_mem_cons.mpr ⟨by omega, List.forall_mem_cons.mpr ⟨by omega, List.forall_mem_nil _⟩⟩⟩⟩⟩
  rintro s' ⟨h1, tk1, l, rfl, F1, N1, hl1⟩
  clear F N
  have hl : @LT.lt Nat _ b2 l ∧ @LT.lt Nat _ b1 l ∧ @LT.lt Nat _ am l ∧ @LT.lt Nat _ ar l := ⟨hl1 _ (.head _), hl1 _ (.tail _ (.head _)), hl1 _ (.tail _ (.tail _ (.head _))), hl1 _ (.tail _ (.tail _ (.tail _ (.head _))))⟩
  with_unfolding_all refine stepBy (fun s' => MetPost g L2 s l [(b2, q2), (b1, q1), (am, listOf mvs.toArray nm), (ar, listOf rvs.toArray nr)] am st rows R s') ?_ ?_
  · k_steps
    exact Leaves.of ⟨_, _, _, _, _, _, rfl, fr_say (fr_say (by assumption) (by with_unfolding_all rfl)) (by with_unfolding_all rfl), by assumption, by assumption, by assumption, by assumption⟩
  · rintro s' ⟨h2, tk2, u', vs, n, met, rfl, F2, N2, hv, hW, h4⟩
    have := reach_tail w mg mb mean Ll fa cd L1 L2 base g { s with heap := h2, toks := tk2 } KX T B am ar b1 b2 l q1 q2 mvs rvs vs nm nr n M R sizes st met rows u' F2 N2 hne hl hm hr hv S hM hR hst hW h4
    exact this
theorem reach_call {w : World} {mg mb : Str → Option Value} {mean : ExcName → Option Value} {Ll fa : Addr} {cd : Value} {L1 : Addr} {base h₀ : Heap} {s : Shared} {m : Str → Option Value}
    {am ar b1 b2 : Addr} {q1 q2 : Obj} {mvs rvs : List Value} {nm nr : Nat} {M R sizes st : List Int} {rows : List (List Int)} {Q E : Value → Shared → Prop}
    (KX : (hd.heap_39 w.params).In h₀) (T : Top hd.view_39 (looseW hd.view_39 []) mean mg mb h₀) (B : Below (A0 Ll fa cd) base [lawEnv Ll fa cd] h₀)
    (F : Fr h₀ L1 s.heap m)
    (N : News h₀ L1 s.heap [(b2, q2), (b1, q1), (am, listOf mvs.toArray nm), (ar, listOf rvs.toArray nr)])
    (hne : @Ne Nat am ar) (hm : IntsAre mvs M) (hr : IntsAre rvs R) (S : Sound sizes st rows M R) (hM : M.length ≤ 40) (hR : R.length = 4) (hst : st.length ≤ 4)
    (h : ∀ (a : Addr) (vs : List Value) (n : Nat) (met : List Int) (h' : Heap) (tk : Nat), Fr h₀ L1 h' m → News h₀ L1 h' [(a, listOf vs.toArray n), (b2, q2), (b1, q1), (am, listOf mvs.toArray nm), (ar, listOf rvs.toArray nr)] → IntsAre vs met →
      (@LT.lt Nat _ b2 a ∧ @LT.lt Nat _ b1 a ∧ @LT.lt Nat _ am a ∧ @LT.lt Nat _ ar a) → MetInv st rows R met → Cov R met → (∀ a ∈ met, Cov (Mine.cut M a) met) → Q (.ref a) { s with heap := h', toks := tk }) :
    wpAny (model PySem.Challenge.rw_k19_0015.row.prog w) (A1 Ll fa cd L1) (call (.ref 42) [.ref am, .ref ar]) Q E s := by
  revert KX
  k_with_none
  w_top off
  k_fill
  intro KX
  refine wpAny_call ?_
  k_enter
  rename_i g' L' h1 FG' F' N' B' X' T'
  with_unfolding_all refine wpAny_mono (reach_body w mg mb mean Ll fa cd L1 L' base g' _ X' T' B' am ar b1 b2 q1 q2 mvs rvs nm nr M R sizes st rows _ (fr_say (fr_say F' (x := Str.ofString "mem") (v := .ref am) (by with_unfolding_all rfl)) (x := Str.ofString "roots") (v := .ref ar) (by with_unfolding_all rfl)) N' hne hm hr S hM hR hst) (fun f s' hp => ?_) (fun _ _ e => e.elim)
  obtain ⟨a, vs, n, met, h2, tk, m', rfl, rfl, F2, N2, hv, hlt, hI, hC, hE⟩ := hp
  exact ⟨_, _, _, F2, N2, fun F3 N3 => h a vs n met h2 tk F3 N3 hv ⟨hlt _ (.head _), hlt _ (.tail _ (.head _)), hlt _ (.tail _ (.tail _ (.head _))), hlt _ (.tail _ (.tail _ (.tail _ (.head _))))⟩ hI hC hE⟩
local macro_rules | `(tactic| walk_at "call ref") => `(tactic| (k_here; (with_reducible show wpAny _ _ (call (Value.ref 42) _) _ _ _); (with_unfolding_all refine' reach_call (by assumption) (by assumption) (by assumption) (by assumption) (by assumption) (by assumption) (by assumption) (by assumption) (by assumption) (by assumption) (by assumption) (by assumption) ?_); k_whole; intro a9 vs9 n9 met9 h9 tk9 F9 N9 hv9 hl9 hI9 hC9 hE9; have hlen9 := MetInv.length hI9; have hlen8 := IntsAre.length hv9))
def WordsPost (g : Heap) (L1 : Addr) (s : Shared) (led : List (Addr × Obj)) (st : List Int) (rows : List (List Int)) (M R : List Int) (f : Flow) (s' : Shared) : Prop :=
  ∃ (t : Tok) (met : List Int) (h' : Heap) (tk : Nat) (m' : Str → Option Value), f = .ret (.int (met.map fun a => M.getD a.toNat 0 + 1).sum t) ∧ s' = { s with heap := h', toks := tk } ∧ Fr g L1 h' m' ∧ News g L1 h' led ∧ MetInv st rows R met ∧ Cov R met ∧ (∀ a ∈ met, Cov (Mine.cut M a) met)
theorem WordsPost.of {g : Heap} {L1 : Addr} {s : Shared} {led : List (Addr × Obj)} {st : List Int} {rows : List (List Int)} {M R met : List Int} {p : Addr × Obj} {h' : Heap} {tk : Nat} {m' : Str → Option Value} {total : Int} {t : Tok}
    (F : Fr g L1 h' m') (N : News g L1 h' (p :: led)) (hS : SumI M met total) (hI : MetInv st rows R met) (hC : Cov R met) (hE : ∀ a ∈ met, Cov (Mine.cut M a) met) :
    WordsPost g L1 s led st rows M R (.ret (.int total t)) { s with heap := h', toks := tk } := by
  unfold SumI at hS
  subst hS
  exact ⟨t, met, h', tk, m', rfl, rfl, F, fun q hq => N q (.tail _ hq), hI, hC, hE⟩
theorem words_body (w : World) (mg mb : Str → Option Value) (mean : ExcName → Option Value) (Ll fa : Addr) (cd : Value) (L1 : Addr) (base g : Heap) (s : Shared)
    (KX : (hd.heap_39 w.params).In g) (T : Top hd.view_39 (looseW hd.view_39 []) mean mg mb g) (B : Below (A0 Ll fa cd) base [lawEnv Ll fa cd] g)
    (am ar b1 b2 : Addr) (q1 q2 : Obj) (mvs rvs : List Value) (nm nr : Nat) (M R sizes st : List Int) (rows : List (List Int)) (u : Str → Option Value)
    (F : Fr g L1 s.heap (fun y => if y = Str.ofString "roots" then some (.ref ar) else if y = Str.ofString "mem" then some (.ref am) else u y))
    (N : News g L1 s.heap [(b2, q2), (b1, q1), (am, listOf mvs.toArray nm), (ar, listOf rvs.toArray nr)])
    (hne : @Ne Nat am ar)
    (hm : IntsAre mvs M) (hr : IntsAre rvs R) (S : Sound sizes st rows M R) (hM : M.length ≤ 40) (hR : R.length = 4) (hst : st.length ≤ 4) :
    wpAny (model PySem.Challenge.rw_k19_0015.row.prog w) (A1 Ll fa cd L1) (execs wordsBody (wordsEnv L1))
      (WordsPost g L1 s [(b2, q2), (b1, q1), (am, listOf mvs.toArray nm), (ar, listOf rvs.toArray nr)] st rows M R) (fun _ _ => False) s := by
  revert KX
  k_with_none
  w_top off
  k_fill
  intro KX
  k_with "subscriptTail Name Name ref int" => (
    (fail_if_success (rename Here _ _ => hX))
    have hH := MetInv.here S (by assumption) (by assumption)
    have hH0 := hH.h0
    have hH1 := hH.h1)
  k_with "pyIter ref" => k_state (fun pre total => SumI M pre total) "total"
  k_with "state" => first
    | exact SumI.start
    | exact SumI.next (by assumption)
  with_unfolding_all refine wpAny_execs_cons ?_
  k_steps
  exact WordsPost.of (by assumption) (by assumption) (by assumption) (by assumption) (by assumption) (by assumption)
theorem words_call {w : World} {mg mb : Str → Option Value} {mean : ExcName → Option Value} {Ll fa : Addr} {cd : Value} {base h₀ : Heap} {s : Shared} {m : Str → Option Value}
    {am ar b1 b2 : Addr} {q1 q2 : Obj} {mvs rvs : List Value} {nm nr : Nat} {M R sizes st : List Int} {rows : List (List Int)} {Q E : Value → Shared → Prop}
    (KX : (hd.heap_39 w.params).In h₀) (T : Top hd.view_39 (looseW hd.view_39 []) mean mg mb h₀) (B : Below callerA base [] h₀)
    (F : Fr h₀ Ll s.heap m)
    (N : News h₀ Ll s.heap [(b2, q2), (b1, q1), (am, listOf mvs.toArray nm), (ar, listOf rvs.toArray nr)])
    (hne : @Ne Nat am ar) (hm : IntsAre mvs M) (hr : IntsAre rvs R) (S : Sound sizes st rows M R) (hM : M.length ≤ 40) (hR : R.length = 4) (hst : st.length ≤ 4)
    (h : ∀ (t : Tok) (met : List Int) (h' : Heap) (tk : Nat), Fr h₀ Ll h' m → News h₀ Ll h' [(b2, q2), (b1, q1), (am, listOf mvs.toArray nm), (ar, listOf rvs.toArray nr)] →
      MetInv st rows R met → Cov R met → (∀ a ∈ met, Cov (Mine.cut M a) met) → Q (.int (met.map fun a => M.getD a.toNat 0 + 1).sum t) { s with heap := h', toks := tk }) :
    wpAny (model PySem.Challenge.rw_k19_0015.row.prog w) (A0 Ll fa cd) (call (.ref 49) [.ref am, .ref ar]) Q E s := by
  revert KX
  k_with_none
  w_top off
  k_fill
  intro KX
  refine wpAny_call ?_
  k_enter
  rename_i g' L' h1 FG' F' N' B' X' T'
  with_unfolding_all refine wpAny_mono (words_body w mg mb mean Ll fa cd L' base g' _ X' T' B' am ar b1 b2 q1 q2 mvs rvs nm nr M R sizes st rows _ (fr_say (fr_say F' (x := Str.ofString "mem") (v := .ref am) (by with_unfolding_all rfl)) (x := Str.ofString "roots") (v := .ref ar) (by with_unfolding_all rfl)) N' hne hm hr S hM hR hst) (fun f s' hp => ?_) (fun _ _ e => e.elim)
  obtain ⟨t, met, h2, tk, m', rfl, rfl, F2, N2, hI, hC, hE⟩ := hp
  exact ⟨_, _, _, F2, N2, fun F3 N3 => h t met h2 tk F3 N3 hI hC hE⟩
def Done (s₁ : Shared) (L : Addr) (f : Flow) (s' : Shared) : Prop := f = .ret (.bool true) ∧ ∃ (h' : Heap) (tk : Nat) (m' : Str → Option Value), s' = { s₁ with heap := h', toks := tk } ∧ Fr s₁.heap L h' m'
theorem Done.of {s₁ : Shared} {L : Addr} {h' : Heap} {tk : Nat} {m' : Str → Option Value} (F : Fr s₁.heap L h' m') : Done s₁ L (.ret (.bool true)) { s₁ with heap := h', toks := tk } := ⟨rfl, h', tk, m', rfl, F⟩
local macro_rules | `(tactic| walk_at "call ref") => `(tactic| (k_here; (with_reducible show wpAny _ _ (call (Value.ref 49) _) _ _ _); (with_unfolding_all refine' words_call (by assumption) (by assumption) (by assumption) (by assumption) (by assumption) (by assumption) (by assumption) (by assumption) (by assumption) (by assumption) (by assumption) (by assumption) ?_); k_whole; intro t9 met9 h9 tk9 F9 N9 hI9 hC9 hE9))
theorem seg15 (w : World) (s₁ : Shared) (mg mb : Str → Option Value) (mean : ExcName → Option Value) (fa : Addr) (cd : Value)
    (KX : (hd.heap_39 w.params).In s₁.heap) (T : Top hd.view_39 (looseW hd.view_39 []) mean mg mb s₁.heap) (K0 : Below callerA s₁.heap [] s₁.heap)
    (h : Heap) (tk : Nat) (u : Str → Option Value) (am ar : Addr) (mvs rvs : List Value) (nm nr : Nat) (M R : List Int) (W : Int) (tw : Tok) (sizes st : List Int) (rows : List (List Int)) (live held : List Int)
    (F : Fr s₁.heap s₁.heap.objs.size h (fun y => if y = Str.ofString "mem" then some (.ref am) else if y = Str.ofString "roots" then some (.ref ar) else if y = Str.ofString "want" then some (.int W tw) else u y))
    (N : News s₁.heap s₁.heap.objs.size h [(am, listOf mvs.toArray nm), (ar, listOf rvs.toArray nr)])
    (hne : @Ne Nat am ar)
    (hm : IntsAre mvs M) (hr : IntsAre rvs R) (S : Sound sizes st rows M R) (hM : M.length ≤ 40) (hR : R.length = 4) (hst : st.length ≤ 4)
    (hL : LiveInv sizes st rows R live held W) (hc : Closed st live held) :
    wpAny (model PySem.Challenge.rw_k19_0015.row.prog w) (A0 s₁.heap.objs.size fa cd) (execs (lawBody.drop 15) (lawEnv s₁.heap.objs.size fa cd)) (Done s₁ s₁.heap.objs.size) (fun _ _ => False) { s₁ with heap := h, toks := tk } := by
  revert KX
  k_with_none
  w_top off
  k_fill
  intro KX
  with_unfolding_all refine wpAny_execs_cons ?_
  k_steps
  · exact absurd (tallies S (by assumption) (by assumption) (by assumption) hL hc) (by assumption)
  · exact Done.of (by assumption)
local macro_rules | `(tactic| walk_at "subscriptTail Name Name ref int") => `(tactic| (k_here; (with_reducible show wpAny _ _ (subscriptTail _ _ (Value.ref _) (Value.int _ _)) _ _ _); k_dflt (refine' rows_item ?kA ?kN ?kR ?kS ?k0 ?k1 ?k2 ?_ ?k3; (case kA => assumption); (case kN => k_asm); (case kR => k_mem); (case kS => kst_allIn); (case k0 => omega); (case k1 => omega); (case k2 => omega); (case k3 => with_unfolding_all rfl); k_whole); intro a9 ws9 hl9 hi9; (try simp only [Int.toNat_natCast] at hi9)))
structure InnerPost (h₀ : Heap) (L : Addr) (s : Shared) (m : Str → Option Value) (c2 : Addr) (oc : Obj) (aL aH : Addr) (fix : List (Addr × Obj)) (sizes st : List Int) (rows : List (List Int)) (k : Nat) (live held : List Int) (W : Int) (f : Flow) (s' : Shared) : Prop where
  next : f = .next
  ex : ∃ (h' : Heap) (tk : Nat) (m' : Str → Option Value) (aH' : Addr) (lvs hvs : List Value) (nL nH : Nat) (live' held' : List Int) (W' : Int) (tW : Tok), s' = { s with heap := h', toks := tk } ∧ Fr h₀ L h' m' ∧
    News h₀ L h' ((c2, oc) :: (aL, listOf (List.toArray lvs) nL) :: (aH', listOf (List.toArray hvs) nH) :: fix) ∧ IntsAre lvs live' ∧ IntsAre hvs held' ∧ m' (Str.ofString "held") = some (.ref aH') ∧ m' (Str.ofString "want") = some (.int W' tW) ∧
    (∀ y, y ≠ Str.ofString "want" → y ≠ Str.ofString "held" → m' y = m y) ∧ (aH' = aH ∨ (@LT.lt Nat _ c2 aH' ∧ @LT.lt Nat _ aL aH' ∧ ∀ p ∈ fix, @LT.lt Nat _ p.1 aH')) ∧ Look sizes st rows k live held W live' held' W'
section
variable {h₀ : Heap} {L : Addr} {s : Shared} {m : Str → Option Value} {c2 : Addr} {oc : Obj} {aL aH : Addr} {fix : List (Addr × Obj)} {sizes st : List Int} {rows : List (List Int)} {k : Nat} {live held : List Int} {W : Int} {tW : Tok} {lvs hvs : List Value} {nL nH : Nat} {h' : Heap} {tk : Nat}
theorem InnerPost.skip (F : Fr h₀ L h' m) (N : News h₀ L h' ((c2, oc) :: (aL, listOf lvs.toArray nL) :: (aH, listOf hvs.toArray nH) :: fix)) (hv : IntsAre lvs live) (hh : IntsAre hvs held) (e1 : m (Str.ofString "held") = some (.ref aH)) (e2 : m (Str.ofString "want") = some (.int W tW))
    (hl : ptr st k ∈ held → (k : Int) ∈ live) : InnerPost h₀ L s m c2 oc aL aH fix sizes st rows k live held W .next { s with heap := h', toks := tk } :=
  ⟨rfl, h', tk, m, aH, lvs, hvs, nL, nH, live, held, W, tW, rfl, F, N, hv, hh, e1, e2, fun _ _ _ => rfl, .inl rfl, .inl ⟨hl, rfl, rfl, rfl⟩⟩
theorem InnerPost.add {D : Addr} {us : List Value} {nU : Nat} {t : Tok} (F : Fr h₀ L h' (fun y => if y = Str.ofString "want" then some (.int (W + 1 + sizes.getD k 0) tW) else if y = Str.ofString "held" then some (.ref D) else m y))
    (N : News h₀ L h' ((D, listOf us.toArray nU) :: (c2, oc) :: (aL, listOf (lvs.toArray.push (.int (k : Int) t)) (nL + 1)) :: (aH, listOf hvs.toArray nH) :: fix)) (hv : IntsAre lvs live) (hu : IntsAre us (held ++ rows.getD k []))
    (hlt : AllLt D ((c2, oc) :: (aL, listOf (lvs.toArray.push (.int (k : Int) t)) (nL + 1)) :: (aH, listOf hvs.toArray nH) :: fix))
    (hn : (k : Int) ∉ live) (hp : ptr st k ∈ held) : InnerPost h₀ L s m c2 oc aL aH fix sizes st rows k live held W .next { s with heap := h', toks := tk } := by
  have hlt' := kst_ltOf hlt
  refine ⟨rfl, h', tk, _, D, lvs ++ [.int (k : Int) t], us, nL + 1, nU, live ++ [(k : Int)], held ++ rows.getD k [], W + 1 + sizes.getD k 0, tW, rfl, F, fun p hp => ?_, IntsAre.append hv (.cons _ _ .nil), hu, ?_, ?_, ?_, .inr ⟨hlt' _ (.head _), hlt' _ (.tail _ (.head _)), fun p hp => hlt' p (.tail _ (.tail _ (.tail _ hp)))⟩, .inr ⟨hn, hp, rfl, rfl, rfl⟩⟩
  · rw [List.push_toArray] at N
    rcases List.mem_cons.mp hp with rfl | hp
    · exact N _ (.tail _ (.head _))
    · rcases List.mem_cons.mp hp with rfl | hp
      · exact N _ (.tail _ (.tail _ (.head _)))
      · rcases List.mem_cons.mp hp with rfl | hp
        · exact N _ (.head _)
        · exact N _ (.tail _ (.tail _ (.tail _ (.tail _ hp))))
  · rw [if_neg (by decide), if_pos rfl]
  · rw [if_pos rfl]
  · intro y h1 h2
    rw [if_neg h1, if_neg h2]
end
theorem inner_turn (w : World) (s₁ : Shared) (mg mb : Str → Option Value) (mean : ExcName → Option Value) (fa : Addr) (cd : Value)
    (KX : (hd.heap_39 w.params).In s₁.heap) (T : Top hd.view_39 (looseW hd.view_39 []) mean mg mb s₁.heap) (K0 : Below callerA s₁.heap [] s₁.heap)
    (h : Heap) (tk : Nat) (u : Str → Option Value) (oc o1 : Obj) (aL aH aS aZ aRw : Addr) (lvs hvs svs zvs refs : List Value) (nL nH nS nZ nRw : Nat) (live held st sizes : List Int) (rows : List (List Int)) (rest : List (Addr × Obj)) (W : Int) (tW : Tok) (k : Nat) (t : Tok)
    (F : Fr s₁.heap s₁.heap.objs.size h (fun y => if y = Str.ofString "live" then some (.ref aL) else if y = Str.ofString "held" then some (.ref aH) else if y = Str.ofString "want" then some (.int W tW) else if y = Str.ofString "sizes" then some (.ref aZ) else if y = Str.ofString "rows" then some (.ref aRw) else u y))
    (N : News s₁.heap s₁.heap.objs.size h ((s₁.heap.objs.size + 1 + 1, oc) :: (aL, listOf lvs.toArray nL) :: (aH, listOf hvs.toArray nH) :: (s₁.heap.objs.size + 1 + 1 + 1, o1) :: (aS, listOf svs.toArray nS) :: (aZ, listOf zvs.toArray nZ) :: (aRw, listOf refs.toArray nRw) :: rest))
    (d2 : oc.data = .cell (some (.int (k : Int) t))) (d1 : o1.data = .cell (some (.ref aS)))
    (n1 : @Ne Nat (s₁.heap.objs.size + 1 + 1) aL) (n2 : @Ne Nat aH aL) (n3 : @Ne Nat (s₁.heap.objs.size + 1 + 1 + 1) aL) (n4 : @Ne Nat aS aL) (n5 : @Ne Nat aZ aL) (n6 : @Ne Nat aRw aL) (n7 : OwnOff rest [aL])
    (hv : IntsAre lvs live) (hh : IntsAre hvs held) (hs : IntsAre svs st) (hz : IntsAre zvs sizes) (hA : RowsAre rest refs rows)
    (hk : (k : Int) < st.length) (e1 : sizes.length = st.length) (e2 : rows.length = st.length) (e3 : st.length ≤ 4) (e4 : live.length ≤ 4) (e5 : held.length ≤ 16) (e6 : (rows.getD k []).length ≤ 3) (e7 : 0 ≤ st.getD k 0) (e8 : st.getD k 0 ≤ 30) :
    wpAny (model PySem.Challenge.rw_k19_0015.row.prog w) (A0 s₁.heap.objs.size fa cd) (execs innerBody (lawEnv s₁.heap.objs.size fa cd))
      (InnerPost s₁.heap s₁.heap.objs.size s₁ (fun y => if y = Str.ofString "live" then some (.ref aL) else if y = Str.ofString "held" then some (.ref aH) else if y = Str.ofString "want" then some (.int W tW) else if y = Str.ofString "sizes" then some (.ref aZ) else if y = Str.ofString "rows" then some (.ref aRw) else u y)
        (s₁.heap.objs.size + 1 + 1) oc aL aH ((s₁.heap.objs.size + 1 + 1 + 1, o1) :: (aS, listOf svs.toArray nS) :: (aZ, listOf zvs.toArray nZ) :: (aRw, listOf refs.toArray nRw) :: rest) sizes st rows k live held W) (fun _ _ => False) { s₁ with heap := h, toks := tk } := by
  revert KX
  k_with_none
  w_top off
  k_fill
  intro KX
  have hMk := kstMark
  have hk0 : (0 : Int) ≤ (k : Int) := Int.natCast_nonneg k
  with_unfolding_all refine wpAny_execs_cons ?_
  k_steps
  · exact InnerPost.skip (by assumption) (by assumption) hv hh (by with_unfolding_all rfl) (by with_unfolding_all rfl) (fun _ => any_mem (by assumption))
  · exact InnerPost.add (by assumption) (by assumption) hv (by assumption) (by assumption) (any_not_mem (by assumption)) (any_mem (by assumption))
  · exact InnerPost.skip (by assumption) (by assumption) hv hh (by with_unfolding_all rfl) (by with_unfolding_all rfl) (fun hin => absurd hin (any_not_mem (by assumption)))
theorem say_eq {m : Str → Option Value} {x : Str} {v : Value} (e : m x = some v) : (fun y => if y = x then some v else m y) = m := by
  funext y
  by_cases hy : y = x
  · rw [if_pos hy, hy, e]
  · rw [if_neg hy]
theorem say5 {m : Str → Option Value} {x1 x2 x3 x4 x5 : Str} {v1 v2 v3 v4 v5 : Value} (e1 : m x1 = some v1) (e2 : m x2 = some v2) (e3 : m x3 = some v3) (e4 : m x4 = some v4) (e5 : m x5 = some v5) :
    (fun y => if y = x1 then some v1 else if y = x2 then some v2 else if y = x3 then some v3 else if y = x4 then some v4 else if y = x5 then some v5 else m y) = m := by
  funext y
  by_cases h1 : y = x1
  · rw [if_pos h1, h1, e1]
  rw [if_neg h1]
  by_cases h2 : y = x2
  · rw [if_pos h2, h2, e2]
  rw [if_neg h2]
  by_cases h3 : y = x3
  · rw [if_pos h3, h3, e3]
  rw [if_neg h3]
  by_cases h4 : y = x4
  · rw [if_pos h4, h4, e4]
  rw [if_neg h4]
  by_cases h5 : y = x5
  · rw [if_pos h5, h5, e5]
  rw [if_neg h5]
/-- the frame between two looks -/
structure LiveSt (m m₀ : Str → Option Value) (aH : Addr) (W : Int) (tW : Tok) : Prop where
  held : m (Str.ofString "held") = some (.ref aH)
  want : m (Str.ofString "want") = some (.int W tW)
  other : ∀ y, y ≠ Str.ofString "want" → y ≠ Str.ofString "held" → y ≠ Str.ofString "turn" → m y = m₀ y
/-- what the inner loop keeps -/
def InJ (sizes st : List Int) (rows : List (List Int)) (R : List Int) (m₀ : Str → Option Value) (c2 aL : Addr) (fix : List (Addr × Obj)) (live₀ held₀ : List Int) (k : Nat) (m : Str → Option Value) (news : List (Addr × Obj)) : Prop :=
  ∃ (aH : Addr) (lvs hvs : List Value) (nL nH : Nat) (live held : List Int) (W : Int) (tW : Tok), news = (aL, listOf (List.toArray lvs) nL) :: (aH, listOf (List.toArray hvs) nH) :: fix ∧ @Ne Nat aH aL ∧ @Ne Nat aH c2 ∧ (∀ p ∈ fix, @Ne Nat p.1 aH) ∧
    IntsAre lvs live ∧ IntsAre hvs held ∧ LiveSt m m₀ aH W tW ∧ LiveInv sizes st rows R live held W ∧ Prog st k live₀ held₀ live held
/-- what the inner loop leaves -/
def InDone (s : Shared) (L : Addr) (sizes st : List Int) (rows : List (List Int)) (R : List Int) (m₀ : Str → Option Value) (c2 aL : Addr) (fix : List (Addr × Obj)) (live₀ held₀ : List Int) (s' : Shared) : Prop :=
  ∃ (h' : Heap) (tk : Nat) (m' : Str → Option Value) (news' : List (Addr × Obj)) (oc : Obj) (v : Option Value), s' = { s with heap := h', toks := tk } ∧ Fr s.heap L h' m' ∧ News s.heap L h' ((c2, oc) :: news') ∧ oc.data = .cell v ∧ (∀ p ∈ news', p.1 ≠ c2) ∧ InJ sizes st rows R m₀ c2 aL fix live₀ held₀ st.length m' news'
theorem inner_loop (w : World) (s₁ : Shared) (mg mb : Str → Option Value) (mean : ExcName → Option Value) (fa : Addr) (cd : Value)
    (KX : (hd.heap_39 w.params).In s₁.heap) (T : Top hd.view_39 (looseW hd.view_39 []) mean mg mb s₁.heap) (K0 : Below callerA s₁.heap [] s₁.heap)
    (h : Heap) (tk : Nat) (m m₀ : Str → Option Value) (oc o1 : Obj) (aL aH aS aZ aRw : Addr) (lvs hvs svs zvs refs : List Value) (nL nH nS nZ nRw : Nat) (live held st sizes R : List Int) (rows : List (List Int)) (rest : List (Addr × Obj)) (W : Int) (tW tc : Tok) (v2 : Option Value)
    (F : Fr s₁.heap s₁.heap.objs.size h m)
    (N : News s₁.heap s₁.heap.objs.size h ((s₁.heap.objs.size + 1 + 1, oc) :: (aL, listOf lvs.toArray nL) :: (aH, listOf hvs.toArray nH) :: (s₁.heap.objs.size + 1 + 1 + 1, o1) :: (aS, listOf svs.toArray nS) :: (aZ, listOf zvs.toArray nZ) :: (aRw, listOf refs.toArray nRw) :: rest))
    (d2 : oc.data = .cell v2) (d1 : o1.data = .cell (some (.ref aS)))
    (f1 : m₀ (Str.ofString "live") = some (.ref aL)) (f2 : m₀ (Str.ofString "sizes") = some (.ref aZ)) (f3 : m₀ (Str.ofString "rows") = some (.ref aRw)) (f4 : m₀ (Str.ofString "count") = some (.int (st.length : Int) tc))
    (hm : LiveSt m m₀ aH W tW)
    (n1 : @Ne Nat (s₁.heap.objs.size + 1 + 1) aL) (n2 : @Ne Nat aH aL) (n2' : @Ne Nat aH (s₁.heap.objs.size + 1 + 1)) (n3 : ∀ p ∈ (s₁.heap.objs.size + 1 + 1 + 1, o1) :: (aS, listOf svs.toArray nS) :: (aZ, listOf zvs.toArray nZ) :: (aRw, listOf refs.toArray nRw) :: rest, @Ne Nat p.1 aL ∧ @Ne Nat p.1 aH ∧ @Ne Nat p.1 (s₁.heap.objs.size + 1 + 1))
    (hv : IntsAre lvs live) (hh : IntsAre hvs held) (hs : IntsAre svs st) (hz : IntsAre zvs sizes) (hA : RowsAre rest refs rows)
    (e1 : sizes.length = st.length) (e2 : rows.length = st.length) (e3 : st.length ≤ 4) (hR : R.length = 4) (e6 : ∀ k, (rows.getD k []).length ≤ 3) (e7 : ∀ k, 0 ≤ st.getD k 0 ∧ st.getD k 0 ≤ 30)
    (hL : LiveInv sizes st rows R live held W) :
    wpAny (model PySem.Challenge.rw_k19_0015.row.prog w) (A0 s₁.heap.objs.size fa cd) (exec (defAt 0 turnBody) (lawEnv s₁.heap.objs.size fa cd))
      (Leaves (InDone s₁ s₁.heap.objs.size sizes st rows R m₀ (s₁.heap.objs.size + 1 + 1) aL ((s₁.heap.objs.size + 1 + 1 + 1, o1) :: (aS, listOf svs.toArray nS) :: (aZ, listOf zvs.toArray nZ) :: (aRw, listOf refs.toArray nRw) :: rest) live held)) (fun _ _ => False) { s₁ with heap := h, toks := tk } := by
  revert KX
  k_with_none
  w_top off
  k_fill
  intro KX
  have f5 : m (Str.ofString "count") = some (.int (st.length : Int) tc) := (hm.other _ (by decide) (by decide) (by decide)).trans f4
  rw [← say_eq f5] at F
  have hMk := kstMark
  with_unfolding_all refine For_cell (x := Str.ofString "j") (c := s₁.heap.objs.size + 1 + 1) (h₀ := s₁.heap) rfl rfl rfl ?_
  iterate 12 (first | (with_reducible show wpAny _ _ (pyIter (Value.ref _)) _ _ _) | walk1)
  rename IsRange _ _ _ _ _ _ _ _ => rg
  rename Fr _ _ _ _ => F9
  rename News _ _ _ _ => N9
  rw [say_eq f5] at F9
  refine range_cell (n := st.length) (InJ sizes st rows R m₀ (s₁.heap.objs.size + 1 + 1) aL ((s₁.heap.objs.size + 1 + 1 + 1, o1) :: (aS, listOf svs.toArray nS) :: (aZ, listOf zvs.toArray nZ) :: (aRw, listOf refs.toArray nRw) :: rest) live held)
    rfl rg (small_one (by omega) (by omega) (by omega) (by omega)) (by rw [rangeSize_nat]; omega) F9 N9 d2 ?_ ⟨aH, lvs, hvs, nL, nH, live, held, W, tW, rfl, n2, n2', fun p hp => (n3 p hp).2.1, hv, hh, hm, hL, Prog.start⟩ ?_ ?_
  · intro p hp
    rcases List.mem_cons.mp hp with rfl | hp
    · exact Ne.symm n1
    · rcases List.mem_cons.mp hp with rfl | hp
      · exact n2'
      · exact (n3 p hp).2.2
  · rintro i k t m₁ news₁ h' tk' own oc₁ hi rfl ⟨aH1, lvs1, hvs1, nL1, nH1, live1, held1, W1, tW1, rfl, g1, g2, g3, hv1, hh1, hm1, hL1, hP1⟩ hsep hnc₁ hd₁ F₁ N₁
    have q1 : m₁ (Str.ofString "live") = some (.ref aL) := (hm1.other _ (by decide) (by decide) (by decide)).trans f1
    have q2 : m₁ (Str.ofString "sizes") = some (.ref aZ) := (hm1.other _ (by decide) (by decide) (by decide)).trans f2
    have q3 : m₁ (Str.ofString "rows") = some (.ref aRw) := (hm1.other _ (by decide) (by decide) (by decide)).trans f3
    have ec := say5 q1 hm1.held hm1.want q2 q3
    rw [Int.zero_add] at hd₁
    have X := inner_turn w s₁ mg mb mean fa cd KX T K0 h' tk' m₁ oc₁ o1 aL aH1 aS aZ aRw lvs1 hvs1 svs zvs refs nL1 nH1 nS nZ nRw live1 held1 st sizes rows (rest ++ own) W1 tW1 i t (by rw [ec]; exact F₁) N₁ hd₁ d1 n1 g1
      (n3 _ (.head _)).1 (n3 _ (.tail _ (.head _))).1 (n3 _ (.tail _ (.tail _ (.head _)))).1 (n3 _ (.tail _ (.tail _ (.tail _ (.head _))))).1 (fun p hp b hb => by
        rw [List.mem_singleton.mp hb]
        rcases List.mem_append.mp hp with hp | hp
        · exact (n3 p (.tail _ (.tail _ (.tail _ (.tail _ hp))))).1
        · exact hsep p hp _ (.tail _ (.head _)))
      hv1 hh1 hs hz (hA.mono fun p hp => List.mem_append_left _ hp) (by omega) e1 e2 e3 (Nat.le_trans hL1.length e3) (hL1.heldLen e6 e3 hR) (e6 i) (e7 i).1 (e7 i).2
    rw [ec] at X
    refine wpAny_mono X (fun f s' hp => ?_) (fun _ _ e => e.elim)
    obtain ⟨rfl, h2, tk2, m2, aH2, lvs2, hvs2, nL2, nH2, live2, held2, W2, tW2, rfl, F2, N2, hv2, hh2, r1, r2, r3, r4, hlook⟩ := hp
    obtain ⟨hL2, hP2⟩ := hlook.keeps hi hL1 hP1
    have k1 : @Ne Nat aH2 aL := by
      rcases r4 with rfl | r4
      · exact g1
      · exact Nat.ne_of_gt r4.2.1
    have k2 : @Ne Nat aH2 (s₁.heap.objs.size + 1 + 1) := by
      rcases r4 with rfl | r4
      · exact g2
      · exact Nat.ne_of_gt r4.1
    have k3 : ∀ p ∈ (s₁.heap.objs.size + 1 + 1 + 1, o1) :: (aS, listOf svs.toArray nS) :: (aZ, listOf zvs.toArray nZ) :: (aRw, listOf refs.toArray nRw) :: rest, @Ne Nat p.1 aH2 := by
      intro p hp
      rcases r4 with rfl | r4
      · exact g3 p hp
      · exact Nat.ne_of_lt (r4.2.2 p (List.mem_append_left own hp))
    have k4 : ∀ p ∈ own, @Ne Nat p.1 aH2 := by
      intro p hp
      rcases r4 with rfl | r4
      · exact hsep p hp _ (.tail _ (.tail _ (.head _)))
      · exact Nat.ne_of_lt (r4.2.2 p (List.mem_append_right ((s₁.heap.objs.size + 1 + 1 + 1, o1) :: (aS, listOf svs.toArray nS) :: (aZ, listOf zvs.toArray nZ) :: (aRw, listOf refs.toArray nRw) :: rest) hp))
    refine TurnEndC.intro ((aL, listOf lvs2.toArray nL2) :: (aH2, listOf hvs2.toArray nH2) :: (s₁.heap.objs.size + 1 + 1 + 1, o1) :: (aS, listOf svs.toArray nS) :: (aZ, listOf zvs.toArray nZ) :: (aRw, listOf refs.toArray nRw) :: rest) F2 N2 (.head _) hd₁
      (fun p hp => .tail _ (List.mem_append_left own hp)) (fun p hp => .tail _ (List.mem_append_right ((aL, listOf lvs2.toArray nL2) :: (aH2, listOf hvs2.toArray nH2) :: (s₁.heap.objs.size + 1 + 1 + 1, o1) :: (aS, listOf svs.toArray nS) :: (aZ, listOf zvs.toArray nZ) :: (aRw, listOf refs.toArray nRw) :: rest) hp)) ?_ ?_
      ⟨aH2, lvs2, hvs2, nL2, nH2, live2, held2, W2, tW2, rfl, k1, k2, k3, hv2, hh2, ⟨r1, r2, fun y h1 h2 h3 => (r3 y h1 h2).trans (hm1.other y h1 h2 h3)⟩, hL2, hP2⟩
    · intro p hp b hb
      rw [List.map_cons, List.map_cons] at hb
      rcases List.mem_cons.mp hb with rfl | hb
      · exact hsep p hp _ (.tail _ (.head _))
      · rcases List.mem_cons.mp hb with rfl | hb
        · exact k4 p hp
        · exact hsep p hp _ (.tail _ (.tail _ (.tail _ hb)))
    · intro b hb
      rw [List.map_cons, List.map_cons] at hb
      rcases List.mem_cons.mp hb with rfl | hb
      · exact Ne.symm n1
      · rcases List.mem_cons.mp hb with rfl | hb
        · exact k2
        · obtain ⟨p, hp, rfl⟩ := List.mem_map.mp hb
          exact (n3 p hp).2.2
  · rintro m₁ news₁ h' tk' oc₁ v₁ hJ F₁ N₁ hd₁ hnc₁
    exact Leaves.of ⟨h', tk', m₁, news₁, oc₁, v₁, rfl, F₁, N₁, hd₁, hnc₁, hJ⟩
/-- what the outer loop keeps -/
def OutJ (sizes st : List Int) (rows : List (List Int)) (R : List Int) (m₀ : Str → Option Value) (c2 aL : Addr) (fix : List (Addr × Obj)) (t : Nat) (m : Str → Option Value) (news : List (Addr × Obj)) : Prop :=
  ∃ (oc : Obj) (v : Option Value) (aH : Addr) (lvs hvs : List Value) (nL nH : Nat) (live held : List Int) (W : Int) (tW : Tok), news = (c2, oc) :: (aL, listOf (List.toArray lvs) nL) :: (aH, listOf (List.toArray hvs) nH) :: fix ∧ oc.data = .cell v ∧ @Ne Nat aH aL ∧ @Ne Nat aH c2 ∧ (∀ p ∈ fix, @Ne Nat p.1 aH) ∧
    IntsAre lvs live ∧ IntsAre hvs held ∧ LiveSt m m₀ aH W tW ∧ LiveInv sizes st rows R live held W ∧ Turn st t live held
/-- what both loops leave -/
def LiveDone (s : Shared) (L : Addr) (sizes st : List Int) (rows : List (List Int)) (R : List Int) (m₀ : Str → Option Value) (fix : List (Addr × Obj)) (s' : Shared) : Prop :=
  ∃ (h' : Heap) (tk : Nat) (m' : Str → Option Value) (live held : List Int) (aH : Addr) (W : Int) (tW : Tok), s' = { s with heap := h', toks := tk } ∧ Fr s.heap L h' m' ∧ News s.heap L h' fix ∧ LiveSt m' m₀ aH W tW ∧ LiveInv sizes st rows R live held W ∧ Closed st live held
theorem turn_loop (w : World) (s₁ : Shared) (mg mb : Str → Option Value) (mean : ExcName → Option Value) (fa : Addr) (cd : Value)
    (KX : (hd.heap_39 w.params).In s₁.heap) (T : Top hd.view_39 (looseW hd.view_39 []) mean mg mb s₁.heap) (K0 : Below callerA s₁.heap [] s₁.heap)
    (h : Heap) (tk : Nat) (m : Str → Option Value) (oc o1 : Obj) (aL aH aS aZ aRw : Addr) (lvs hvs svs zvs refs : List Value) (nL nH nS nZ nRw : Nat) (live held st sizes R : List Int) (rows : List (List Int)) (rest : List (Addr × Obj)) (W : Int) (tW tc : Tok) (v2 : Option Value)
    (F : Fr s₁.heap s₁.heap.objs.size h m)
    (N : News s₁.heap s₁.heap.objs.size h ((s₁.heap.objs.size + 1 + 1, oc) :: (aL, listOf lvs.toArray nL) :: (aH, listOf hvs.toArray nH) :: (s₁.heap.objs.size + 1 + 1 + 1, o1) :: (aS, listOf svs.toArray nS) :: (aZ, listOf zvs.toArray nZ) :: (aRw, listOf refs.toArray nRw) :: rest))
    (d2 : oc.data = .cell v2) (d1 : o1.data = .cell (some (.ref aS)))
    (f1 : m (Str.ofString "live") = some (.ref aL)) (f2 : m (Str.ofString "sizes") = some (.ref aZ)) (f3 : m (Str.ofString "rows") = some (.ref aRw)) (f4 : m (Str.ofString "count") = some (.int (st.length : Int) tc))
    (hm : LiveSt m m aH W tW)
    (n1 : @Ne Nat (s₁.heap.objs.size + 1 + 1) aL) (n2 : @Ne Nat aH aL) (n2' : @Ne Nat aH (s₁.heap.objs.size + 1 + 1)) (n3 : ∀ p ∈ (s₁.heap.objs.size + 1 + 1 + 1, o1) :: (aS, listOf svs.toArray nS) :: (aZ, listOf zvs.toArray nZ) :: (aRw, listOf refs.toArray nRw) :: rest, @Ne Nat p.1 aL ∧ @Ne Nat p.1 aH ∧ @Ne Nat p.1 (s₁.heap.objs.size + 1 + 1))
    (hv : IntsAre lvs live) (hh : IntsAre hvs held) (hs : IntsAre svs st) (hz : IntsAre zvs sizes) (hA : RowsAre rest refs rows)
    (e1 : sizes.length = st.length) (e2 : rows.length = st.length) (e3 : st.length ≤ 4) (hR : R.length = 4) (e6 : ∀ k, (rows.getD k []).length ≤ 3) (e7 : ∀ k, 0 ≤ st.getD k 0 ∧ st.getD k 0 ≤ 30)
    (hL : LiveInv sizes st rows R live held W) :
    wpAny (model PySem.Challenge.rw_k19_0015.row.prog w) (A0 s₁.heap.objs.size fa cd) (exec (defAt 14 lawBody) (lawEnv s₁.heap.objs.size fa cd))
      (Leaves (LiveDone s₁ s₁.heap.objs.size sizes st rows R m ((s₁.heap.objs.size + 1 + 1 + 1, o1) :: (aS, listOf svs.toArray nS) :: (aZ, listOf zvs.toArray nZ) :: (aRw, listOf refs.toArray nRw) :: rest))) (fun _ _ => False) { s₁ with heap := h, toks := tk } := by
  revert KX
  k_with_none
  w_top off
  k_fill
  intro KX
  rw [← say_eq f4] at F
  have hMk := kstMark
  have hid : PLift (st.length ≤ 4) := ⟨e3⟩
  clear e3
  with_unfolding_all refine For_invVF (x := Str.ofString "turn") F rfl rfl ?_
  iterate 12 (first | (with_reducible show wpAny _ _ (pyIter (Value.ref _)) _ _ _) | walk1)
  have e3 := hid.down
  rename IsRange _ _ _ _ _ _ _ _ => rg
  rename Fr _ _ _ _ => F9
  rename News _ _ _ _ => N9
  rw [say_eq f4] at F9
  refine range_any (n := st.length) (OutJ sizes st rows R m (s₁.heap.objs.size + 1 + 1) aL ((s₁.heap.objs.size + 1 + 1 + 1, o1) :: (aS, listOf svs.toArray nS) :: (aZ, listOf zvs.toArray nZ) :: (aRw, listOf refs.toArray nRw) :: rest))
    rfl rg (small_one (by omega) (by omega) (by omega) (by omega)) (by rw [rangeSize_nat]; omega) F9 N9 ⟨oc, v2, aH, lvs, hvs, nL, nH, live, held, W, tW, rfl, d2, n2, n2', fun p hp => (n3 p hp).2.1, hv, hh, hm, hL, Turn.start⟩ ?_ ?_
  · rintro i k t m₁ news₁ h' tk' own hi rfl ⟨oc1, v1, aH1, lvs1, hvs1, nL1, nH1, live1, held1, W1, tW1, rfl, d21, g1, g2, g3, hv1, hh1, hm1, hL1, hT1⟩ hsep F₁ N₁
    have hm1' : LiveSt (fun y => if y = Str.ofString "turn" then some (.int (0 + (i : Int)) t) else m₁ y) m aH1 W1 tW1 :=
      ⟨by rw [if_neg (by decide)]; exact hm1.held, by rw [if_neg (by decide)]; exact hm1.want, fun y y1 y2 y3 => by rw [if_neg y3]; exact hm1.other y y1 y2 y3⟩
    have n3' : ∀ p ∈ (s₁.heap.objs.size + 1 + 1 + 1, o1) :: (aS, listOf svs.toArray nS) :: (aZ, listOf zvs.toArray nZ) :: (aRw, listOf refs.toArray nRw) :: (rest ++ own), @Ne Nat p.1 aL ∧ @Ne Nat p.1 aH1 ∧ @Ne Nat p.1 (s₁.heap.objs.size + 1 + 1) := by
      intro p hp
      have hp' : p ∈ ((s₁.heap.objs.size + 1 + 1 + 1, o1) :: (aS, listOf svs.toArray nS) :: (aZ, listOf zvs.toArray nZ) :: (aRw, listOf refs.toArray nRw) :: rest) ++ own := hp
      rcases List.mem_append.mp hp' with hp | hp
      · exact ⟨(n3 p hp).1, g3 p hp, (n3 p hp).2.2⟩
      · exact ⟨hsep p hp _ (.tail _ (.head _)), hsep p hp _ (.tail _ (.tail _ (.head _))), hsep p hp _ (.head _)⟩
    have X := inner_loop w s₁ mg mb mean fa cd KX T K0 h' tk' _ m oc1 o1 aL aH1 aS aZ aRw lvs1 hvs1 svs zvs refs nL1 nH1 nS nZ nRw live1 held1 st sizes R rows (rest ++ own) W1 tW1 tc v1 F₁ N₁ d21 d1 f1 f2 f3 f4 hm1' n1 g1 g2 n3' hv1 hh1 hs hz (hA.mono fun p hp => List.mem_append_left _ hp) e1 e2 e3 hR e6 e7 hL1
    with_unfolding_all refine wpAny_execs_cons (wpAny_mono X (fun f s' hp => ?_) (fun _ _ e => e.elim))
    obtain ⟨rfl, h2, tk2, m2, news2, oc2, v3, rfl, F2, N2, d22, hnc, aH2, lvs2, hvs2, nL2, nH2, live2, held2, W2, tW2, rfl, k1, k2, k3, hv2, hh2, hm2, hL2, hP2⟩ := hp
    refine wpAny_execs_nil ?_
    have hown : ∀ p ∈ own, @Ne Nat p.1 aH2 := fun p hp => k3 p (List.mem_append_right ((s₁.heap.objs.size + 1 + 1 + 1, o1) :: (aS, listOf svs.toArray nS) :: (aZ, listOf zvs.toArray nZ) :: (aRw, listOf refs.toArray nRw) :: rest) hp)
    refine TurnEnd.intro ((s₁.heap.objs.size + 1 + 1, oc2) :: (aL, listOf lvs2.toArray nL2) :: (aH2, listOf hvs2.toArray nH2) :: (s₁.heap.objs.size + 1 + 1 + 1, o1) :: (aS, listOf svs.toArray nS) :: (aZ, listOf zvs.toArray nZ) :: (aRw, listOf refs.toArray nRw) :: rest) F2 N2
      (fun p hp => (List.mem_append_left own hp)) (fun p hp => (List.mem_append_right ((s₁.heap.objs.size + 1 + 1, oc2) :: (aL, listOf lvs2.toArray nL2) :: (aH2, listOf hvs2.toArray nH2) :: (s₁.heap.objs.size + 1 + 1 + 1, o1) :: (aS, listOf svs.toArray nS) :: (aZ, listOf zvs.toArray nZ) :: (aRw, listOf refs.toArray nRw) :: rest) hp)) ?_
      ⟨oc2, v3, aH2, lvs2, hvs2, nL2, nH2, live2, held2, W2, tW2, rfl, d22, k1, k2, fun p hp => k3 p (List.mem_append_left own hp), hv2, hh2, hm2, hL2, hT1.next hP2⟩
    intro p hp b hb
    rw [List.map_cons, List.map_cons, List.map_cons] at hb
    rcases List.mem_cons.mp hb with rfl | hb
    · exact hsep p hp _ (.head _)
    · rcases List.mem_cons.mp hb with rfl | hb
      · exact hsep p hp _ (.tail _ (.head _))
      · rcases List.mem_cons.mp hb with rfl | hb
        · exact hown p hp
        · exact hsep p hp _ (.tail _ (.tail _ (.tail _ hb)))
  · rintro m₁ news₁ h' tk' ⟨oc1, v1, aH1, lvs1, hvs1, nL1, nH1, live1, held1, W1, tW1, rfl, d21, g1, g2, g3, hv1, hh1, hm1, hL1, hT1⟩ F₁ N₁
    exact Leaves.of ⟨h', tk', m₁, live1, held1, aH1, W1, tW1, rfl, F₁, fun p hp => N₁ p (.tail _ (.tail _ (.tail _ hp))), hm1, hL1, hT1.closed hL1⟩
theorem say3 {m : Str → Option Value} {x1 x2 x3 : Str} {v1 v2 v3 : Value} (e1 : m x1 = some v1) (e2 : m x2 = some v2) (e3 : m x3 = some v3) :
    (fun y => if y = x1 then some v1 else if y = x2 then some v2 else if y = x3 then some v3 else m y) = m := by
  funext y
  by_cases h1 : y = x1
  · rw [if_pos h1, h1, e1]
  rw [if_neg h1]
  by_cases h2 : y = x2
  · rw [if_pos h2, h2, e2]
  rw [if_neg h2]
  by_cases h3 : y = x3
  · rw [if_pos h3, h3, e3]
  rw [if_neg h3]
/-- where the law's own loops begin -/
def At14 (s : Shared) (L : Addr) (m₀ : Str → Option Value) (rvs : List Value) (led : List (Addr × Obj)) (s' : Shared) : Prop :=
  ∃ (h' : Heap) (tk : Nat) (m' : Str → Option Value) (aL aH : Addr) (nL nH : Nat) (tW : Tok), s' = { s with heap := h', toks := tk } ∧ Fr s.heap L h' m' ∧ News s.heap L h' ((aL, listOf (List.toArray []) nL) :: (aH, listOf (List.toArray rvs) nH) :: led) ∧
    m' (Str.ofString "live") = some (.ref aL) ∧ m' (Str.ofString "held") = some (.ref aH) ∧ m' (Str.ofString "want") = some (.int 0 tW) ∧ (∀ y, y ≠ Str.ofString "want" → y ≠ Str.ofString "held" → y ≠ Str.ofString "live" → m' y = m₀ y) ∧ AllLt aH led ∧ AllLt aL ((aH, listOf (List.toArray rvs) nH) :: led)
theorem seg11 (w : World) (s₁ : Shared) (mg mb : Str → Option Value) (mean : ExcName → Option Value) (fa : Addr) (cd : Value)
    (KX : (hd.heap_39 w.params).In s₁.heap) (T : Top hd.view_39 (looseW hd.view_39 []) mean mg mb s₁.heap) (K0 : Below callerA s₁.heap [] s₁.heap)
    (h : Heap) (tk : Nat) (u : Str → Option Value) (o1 o2 : Obj) (v2 : Option Value) (am ar aS aZ aRw : Addr) (mvs rvs svs zvs refs : List Value) (nm nr nS nZ nRw : Nat) (M R sizes st : List Int) (rows : List (List Int)) (rest : List (Addr × Obj)) (tc : Tok)
    (F : Fr s₁.heap s₁.heap.objs.size h (fun y => if y = Str.ofString "roots" then some (.ref ar) else if y = Str.ofString "mem" then some (.ref am) else if y = Str.ofString "count" then some (.int (st.length : Int) tc) else if y = Str.ofString "sizes" then some (.ref aZ) else if y = Str.ofString "rows" then some (.ref aRw) else u y))
    (N : News s₁.heap s₁.heap.objs.size h ((s₁.heap.objs.size + 1 + 1, o2) :: (s₁.heap.objs.size + 1 + 1 + 1, o1) :: (aS, listOf svs.toArray nS) :: (aZ, listOf zvs.toArray nZ) :: (aRw, listOf refs.toArray nRw) :: (am, listOf mvs.toArray nm) :: (ar, listOf rvs.toArray nr) :: rest))
    (d2 : o2.data = .cell v2) (d1 : o1.data = .cell (some (.ref aS))) (hne : @Ne Nat am ar)
    (n3 : ∀ p ∈ (s₁.heap.objs.size + 1 + 1 + 1, o1) :: (aS, listOf svs.toArray nS) :: (aZ, listOf zvs.toArray nZ) :: (aRw, listOf refs.toArray nRw) :: (am, listOf mvs.toArray nm) :: (ar, listOf rvs.toArray nr) :: rest, @Ne Nat p.1 (s₁.heap.objs.size + 1 + 1))
    (hm : IntsAre mvs M) (hr : IntsAre rvs R) (hs : IntsAre svs st) (hz : IntsAre zvs sizes) (hA : RowsAre rest refs rows)
    (S : Sound sizes st rows M R) (hM : M.length ≤ 40) (hR : R.length = 4) (hst : st.length ≤ 4) (e6 : ∀ k, (rows.getD k []).length ≤ 3) (e7 : ∀ k, 0 ≤ st.getD k 0 ∧ st.getD k 0 ≤ 30) :
    wpAny (model PySem.Challenge.rw_k19_0015.row.prog w) (A0 s₁.heap.objs.size fa cd) (execs (lawBody.drop 11) (lawEnv s₁.heap.objs.size fa cd)) (Done s₁ s₁.heap.objs.size) (fun _ _ => False) { s₁ with heap := h, toks := tk } := by
  revert KX
  k_with_none
  w_top off
  k_fill
  intro KX
  have hMk := kstMark
  with_unfolding_all refine steps3 (At14 s₁ s₁.heap.objs.size (fun y => if y = Str.ofString "roots" then some (.ref ar) else if y = Str.ofString "mem" then some (.ref am) else if y = Str.ofString "count" then some (.int (st.length : Int) tc) else if y = Str.ofString "sizes" then some (.ref aZ) else if y = Str.ofString "rows" then some (.ref aRw) else u y) rvs
    ((s₁.heap.objs.size + 1 + 1, o2) :: (s₁.heap.objs.size + 1 + 1 + 1, o1) :: (aS, listOf svs.toArray nS) :: (aZ, listOf zvs.toArray nZ) :: (aRw, listOf refs.toArray nRw) :: (am, listOf mvs.toArray nm) :: (ar, listOf rvs.toArray nr) :: rest)) ?_ ?_
  · k_steps
    refine Leaves.of ?_
    k_steps
    refine Leaves.of ?_
    k_steps
    refine Leaves.of ⟨_, _, _, _, _, _, _, _, rfl, by assumption, by assumption, by with_unfolding_all rfl, by with_unfolding_all rfl, by with_unfolding_all rfl, fun y h1 h2 h3 => by rw [if_neg h1, if_neg h3, if_neg h2], by assumption, by assumption⟩
  · rintro s' ⟨h1, tk1, m1, aL, aH, nL, nH, tW, rfl, F1, N1, f1, f2, f3, fo, l1, l2⟩
    have l1' := kst_ltOf l1
    have l2' := kst_ltOf l2
    have N2 : News s₁.heap s₁.heap.objs.size h1 ((s₁.heap.objs.size + 1 + 1, o2) :: (aL, listOf ([] : List Value).toArray nL) :: (aH, listOf rvs.toArray nH) :: (s₁.heap.objs.size + 1 + 1 + 1, o1) :: (aS, listOf svs.toArray nS) :: (aZ, listOf zvs.toArray nZ) :: (aRw, listOf refs.toArray nRw) :: (am, listOf mvs.toArray nm) :: (ar, listOf rvs.toArray nr) :: rest) := by
      intro p hp
      rcases List.mem_cons.mp hp with rfl | hp
      · exact N1 _ (.tail _ (.tail _ (.head _)))
      · rcases List.mem_cons.mp hp with rfl | hp
        · exact N1 _ (.head _)
        · rcases List.mem_cons.mp hp with rfl | hp
          · exact N1 _ (.tail _ (.head _))
          · exact N1 _ (.tail _ (.tail _ (.tail _ hp)))
    have g1 : m1 (Str.ofString "sizes") = some (.ref aZ) := (fo _ (by decide) (by decide) (by decide)).trans (by with_unfolding_all rfl)
    have g2 : m1 (Str.ofString "rows") = some (.ref aRw) := (fo _ (by decide) (by decide) (by decide)).trans (by with_unfolding_all rfl)
    have g3 : m1 (Str.ofString "count") = some (.int (st.length : Int) tc) := (fo _ (by decide) (by decide) (by decide)).trans (by with_unfolding_all rfl)
    have g4 : m1 (Str.ofString "mem") = some (.ref am) := (fo _ (by decide) (by decide) (by decide)).trans (by with_unfolding_all rfl)
    have g5 : m1 (Str.ofString "roots") = some (.ref ar) := (fo _ (by decide) (by decide) (by decide)).trans (by with_unfolding_all rfl)
    have X := turn_loop w s₁ mg mb mean fa cd KX T K0 h1 tk1 m1 o2 o1 aL aH aS aZ aRw [] rvs svs zvs refs nL nH nS nZ nRw [] R st sizes R rows ((am, listOf mvs.toArray nm) :: (ar, listOf rvs.toArray nr) :: rest) 0 tW tc v2 F1 N2 d2 d1 f1 g1 g2 g3 ⟨f2, f3, fun _ _ _ _ => rfl⟩
      (Nat.ne_of_lt (l2' _ (.tail _ (.head _)))) (Nat.ne_of_lt (l2' _ (.head _))) (Nat.ne_of_gt (l1' _ (.head _))) (fun p hp => ⟨Nat.ne_of_lt (l2' p (.tail _ (.tail _ hp))), Nat.ne_of_lt (l1' p (.tail _ hp)), n3 p hp⟩)
      .nil hr hs hz (hA.mono fun p hp => .tail _ (.tail _ hp)) S.lenZ S.lenR hst hR e6 e7 LiveInv.start
    with_unfolding_all refine stepBy _ X ?_
    rintro s' ⟨h2, tk2, m2, live, held, aH2, W, tW2, rfl, F2, N3, hm2, hL, hc⟩
    have k1 : m2 (Str.ofString "mem") = some (.ref am) := (hm2.other _ (by decide) (by decide) (by decide)).trans g4
    have k2 : m2 (Str.ofString "roots") = some (.ref ar) := (hm2.other _ (by decide) (by decide) (by decide)).trans g5
    rw [← say3 k1 k2 hm2.want] at F2
    exact seg15 w s₁ mg mb mean fa cd KX T K0 h2 tk2 m2 am ar mvs rvs nm nr M R W tW2 sizes st rows live held F2 (fun p hp => N3 p (.tail _ (.tail _ (.tail _ (.tail _ (by
      rcases List.mem_cons.mp hp with rfl | hp
      · exact .head _
      · rw [List.mem_singleton.mp hp]; exact .tail _ (.head _))))))) hne hm hr S hM hR hst hL hc
theorem wordOf_a {v : Int} {st : List Int} (h : v.fmod 2 = 0) : (if v < 0 then -v else v).fdiv 2 * 2 = wordOf v st := by
  have e : (if v < 0 then -v else v) = (v.natAbs : Int) := by split <;> omega
  rw [e]
  unfold wordOf
  rw [if_pos (Or.inl h)]
theorem wordOf_b {v : Int} {st : List Int} (h : st.length = 0) : (if v < 0 then -v else v).fdiv 2 * 2 = wordOf v st := by
  have e : (if v < 0 then -v else v) = (v.natAbs : Int) := by split <;> omega
  rw [e]
  unfold wordOf
  rw [if_pos (Or.inr h)]
theorem wordOf_c {v : Int} {st : List Int} (h1 : ¬ v.fmod 2 = 0) (h2 : ¬ st.length = 0) : 2 * st.getD ((v.fdiv 2).fmod (st.length : Int)).toNat 0 + 1 = wordOf v st := by
  unfold wordOf
  rw [if_neg (fun h => h.elim h1 h2)]
structure WordMark (i n : Int) : Prop where
  lo : 0 ≤ i
  hi : i < n
theorem wordMark {v : Int} {st : List Int} (h : ¬ (st.length : Int) = 0) : WordMark ((v.fdiv 2).fmod (st.length : Int)) (st.length : Int) :=
  ⟨Int.fmod_nonneg_of_pos _ (by omega), Int.fmod_lt_of_pos _ (by omega)⟩
theorem word_call0 {w : World} {mg mb : Str → Option Value} {mean : ExcName → Option Value} {Ll fa : Addr} {cd : Value} {base h₀ : Heap} {s : Shared} {m : Str → Option Value} {news : List (Addr × Obj)}
    {aS : Addr} {svs : List Value} {nS : Nat} {st : List Int} {v : Int} {tv : Tok} {Q E : Value → Shared → Prop}
    (KX : (hd.heap_39 w.params).In h₀) (T : Top hd.view_39 (looseW hd.view_39 []) mean mg mb h₀) (B : Below callerA base [] h₀)
    (F : Fr h₀ Ll s.heap m) (N : News h₀ Ll s.heap ((aS, listOf svs.toArray nS) :: news)) (hs : IntsAre svs st) (hst : st.length ≤ 4)
    (h : ∀ (t : Tok) (h' : Heap) (tk : Nat), Fr h₀ Ll h' m → News h₀ Ll h' ((aS, listOf svs.toArray nS) :: news) → Q (.int (wordOf v st) t) { s with heap := h', toks := tk }) :
    wpAny (model PySem.Challenge.rw_k19_0015.row.prog w) (A0 Ll fa cd) (call (.ref 63) [.int v tv, .ref aS]) Q E s := by
  revert KX
  k_with_none
  w_top off
  k_fill
  intro KX
  have hMk := kstMark
  k_with "subscriptTail Name BinOp ref int" => (
    (fail_if_success (rename WordMark _ _ => hX))
    have hW : WordMark ((v.fdiv 2).fmod (st.length : Int)) (st.length : Int) := wordMark (by omega)
    have hW0 := hW.lo
    have hW1 := hW.hi)
  refine wpAny_call ?_
  k_enter
  k_steps
  · exact cb_retI (Q := Q) (s := s) h (wordOf_a (by assumption)) (by assumption) (by assumption)
  · exact cb_retI (Q := Q) (s := s) h (wordOf_b (by omega)) (by assumption) (by assumption)
  · exact cb_retI (Q := Q) (s := s) h (wordOf_c (by assumption) (by omega)) (by assumption) (by assumption)
theorem word_call {w : World} {mg mb : Str → Option Value} {mean : ExcName → Option Value} {Ll fa : Addr} {cd : Value} {base h₀ : Heap} {s : Shared} {m : Str → Option Value} {news : List (Addr × Obj)}
    {aS : Addr} {svs : List Value} {nS : Nat} {st : List Int} {v : Int} {tv : Tok} {Q E : Value → Shared → Prop}
    (KX : (hd.heap_39 w.params).In h₀) (T : Top hd.view_39 (looseW hd.view_39 []) mean mg mb h₀) (B : Below callerA base [] h₀)
    (F : Fr h₀ Ll s.heap m) (N : News h₀ Ll s.heap news) (hS : (aS, listOf svs.toArray nS) ∈ news) (hs : IntsAre svs st) (hst : st.length ≤ 4)
    (h : ∀ (t : Tok) (h' : Heap) (tk : Nat), Fr h₀ Ll h' m → News h₀ Ll h' news → Q (.int (wordOf v st) t) { s with heap := h', toks := tk }) :
    wpAny (model PySem.Challenge.rw_k19_0015.row.prog w) (A0 Ll fa cd) (call (.ref 63) [.int v tv, .ref aS]) Q E s :=
  word_call0 KX T B F (fun p hp => (List.mem_cons.mp hp).elim (fun e => e ▸ N _ hS) (N p)) hs hst fun t h' tk F' N' => h t h' tk F' fun p hp => N' p (.tail _ hp)
local macro_rules | `(tactic| walk_at "call ref") => `(tactic| (k_here; (with_reducible show wpAny _ _ (call (Value.ref 63) _) _ _ _); (with_unfolding_all refine' word_call (by assumption) (by assumption) (by assumption) (by assumption) (by assumption) (by k_mem) (by assumption) (by assumption) ?_); k_whole; intro t9 h9 tk9 F9 N9))
/-- the roots are laid -/
def At11 (s : Shared) (L : Addr) (m₀ : Str → Option Value) (st : List Int) (led : List (Addr × Obj)) (s' : Shared) : Prop :=
  ∃ (h' : Heap) (tk : Nat) (ar : Addr) (rvs : List Value) (nr : Nat) (R : List Int), s' = { s with heap := h', toks := tk } ∧ Fr s.heap L h' (fun y => if y = Str.ofString "roots" then some (.ref ar) else m₀ y) ∧ News s.heap L h' ((ar, listOf (List.toArray rvs) nr) :: led) ∧ LCg.Off1 ar led ∧ IntsAre rvs R ∧ R.length = 4 ∧ ∀ v ∈ R, OkW st v
theorem seg10 (w : World) (s₁ : Shared) (mg mb : Str → Option Value) (mean : ExcName → Option Value) (fa : Addr) (cd : Value)
    (KX : (hd.heap_39 w.params).In s₁.heap) (T : Top hd.view_39 (looseW hd.view_39 []) mean mg mb s₁.heap) (K0 : Below callerA s₁.heap [] s₁.heap)
    (l : Addr) (vs : List Value) (ns : List Int) (hl : s₁.heap.IsList l vs.toArray) (hi : IntsAre vs ns) (hlen : ns.length ≤ 63)
    (h : Heap) (tk : Nat) (u : Str → Option Value) (o1 o2 o3 : Obj) (v2 : Option Value) (am aS aZ aRw : Addr) (mvs svs zvs refs : List Value) (nm nS nZ nRw : Nat) (M sizes st : List Int) (rows : List (List Int)) (rest : List (Addr × Obj)) (tc : Tok)
    (F : Fr s₁.heap s₁.heap.objs.size h (fun y => if y = Str.ofString "mem" then some (.ref am) else if y = Str.ofString "count" then some (.int (st.length : Int) tc) else if y = Str.ofString "sizes" then some (.ref aZ) else if y = Str.ofString "rows" then some (.ref aRw) else u y))
    (N : News s₁.heap s₁.heap.objs.size h ((s₁.heap.objs.size + 1, o3) :: (s₁.heap.objs.size + 1 + 1, o2) :: (s₁.heap.objs.size + 1 + 1 + 1, o1) :: (aS, listOf svs.toArray nS) :: (aZ, listOf zvs.toArray nZ) :: (aRw, listOf refs.toArray nRw) :: (am, listOf mvs.toArray nm) :: rest))
    (d2 : o2.data = .cell v2) (d1 : o1.data = .cell (some (.ref aS))) (d3 : o3.data = .cell (some (.ref l)))
    (n3 : ∀ p ∈ (s₁.heap.objs.size + 1 + 1 + 1, o1) :: (aS, listOf svs.toArray nS) :: (aZ, listOf zvs.toArray nZ) :: (aRw, listOf refs.toArray nRw) :: (am, listOf mvs.toArray nm) :: rest, @Ne Nat p.1 (s₁.heap.objs.size + 1 + 1))
    (hm : IntsAre mvs M) (hs : IntsAre svs st) (hz : IntsAre zvs sizes) (hA : RowsAre rest refs rows)
    (S : ∀ R, (∀ v ∈ R, OkW st v) → Sound sizes st rows M R) (hM : M.length ≤ 40) (hst : st.length ≤ 4) (e6 : ∀ k, (rows.getD k []).length ≤ 3) (e7 : ∀ k, 0 ≤ st.getD k 0 ∧ st.getD k 0 ≤ 30) :
    wpAny (model PySem.Challenge.rw_k19_0015.row.prog w) (A0 s₁.heap.objs.size fa cd) (execs (lawBody.drop 10) (lawEnv s₁.heap.objs.size fa cd)) (Done s₁ s₁.heap.objs.size) (fun _ _ => False) { s₁ with heap := h, toks := tk } := by
  revert KX
  k_with_none
  w_top off
  k_fill
  intro KX
  have hMk := kstMark
  with_unfolding_all refine stepBy (At11 s₁ s₁.heap.objs.size (fun y => if y = Str.ofString "mem" then some (.ref am) else if y = Str.ofString "count" then some (.int (st.length : Int) tc) else if y = Str.ofString "sizes" then some (.ref aZ) else if y = Str.ofString "rows" then some (.ref aRw) else u y) st
    ((s₁.heap.objs.size + 1, o3) :: (s₁.heap.objs.size + 1 + 1, o2) :: (s₁.heap.objs.size + 1 + 1 + 1, o1) :: (aS, listOf svs.toArray nS) :: (aZ, listOf zvs.toArray nZ) :: (aRw, listOf refs.toArray nRw) :: (am, listOf mvs.toArray nm) :: rest)) ?_ ?_
  · with_unfolding_all refine LCg.Assign_ListComp_U (F₀ := F) (by rfl) (by with_unfolding_all rfl) (by with_unfolding_all rfl) (by decide) (by rfl) (by decide) (by rfl) (by rfl) (by rfl) ?_
    iterate 12 (first | (with_reducible show LCg.CompSrc _ _ _ _ _ _ _ _ _ _ _ _ _ _) | walk1)
    rename IsRange _ _ _ _ _ _ _ _ => rg
    rename Fr _ _ _ _ => F9
    rename News _ _ _ _ => N9
    refine LCg.CompSrc.range (n := 4) (by rfl) F9 N9 rg (by decide) (by rfl) (by rw [sizeLine_eq]; omega) ?_
    clear rg F9 N9
    intro g'
    refine comp_range (fun _ r => OkW st r) ?_ ?_
    · intro k t I oI C oC D m₂ ys h2 tk2 E' hlo hhi hC hx F' N' off ne
      k_steps
      exact LCg.CompEnd.intro (by assumption) (by assumption) _ (fun _ h => h) off trivial ⟨rfl, _, _, rfl, wordOf_ok _ _⟩
    · intro ys rs hys hrl hG D h3 tk3 F3 N3 off3
      exact Leaves.of ⟨h3, tk3, D, ys, _, rs, rfl, F3, N3, off3, hys, hrl, fun v hv => by
        obtain ⟨i, hi, e⟩ := List.getElem_of_mem hv
        exact hG i v (by rw [List.getElem?_eq_getElem hi, e])⟩
  · rintro s' ⟨h1, tk1, ar, rvs, nr, R, rfl, F1, N1, off, hr, hR, hok⟩
    have N2 : News s₁.heap s₁.heap.objs.size h1 ((s₁.heap.objs.size + 1 + 1, o2) :: (s₁.heap.objs.size + 1 + 1 + 1, o1) :: (aS, listOf svs.toArray nS) :: (aZ, listOf zvs.toArray nZ) :: (aRw, listOf refs.toArray nRw) :: (am, listOf mvs.toArray nm) :: (ar, listOf rvs.toArray nr) :: rest) := by
      intro p hp
      rcases List.mem_cons.mp hp with rfl | hp
      · exact N1 _ (.tail _ (.tail _ (.head _)))
      rcases List.mem_cons.mp hp with rfl | hp
      · exact N1 _ (.tail _ (.tail _ (.tail _ (.head _))))
      rcases List.mem_cons.mp hp with rfl | hp
      · exact N1 _ (.tail _ (.tail _ (.tail _ (.tail _ (.head _)))))
      rcases List.mem_cons.mp hp with rfl | hp
      · exact N1 _ (.tail _ (.tail _ (.tail _ (.tail _ (.tail _ (.head _))))))
      rcases List.mem_cons.mp hp with rfl | hp
      · exact N1 _ (.tail _ (.tail _ (.tail _ (.tail _ (.tail _ (.tail _ (.head _)))))))
      rcases List.mem_cons.mp hp with rfl | hp
      · exact N1 _ (.tail _ (.tail _ (.tail _ (.tail _ (.tail _ (.tail _ (.tail _ (.head _))))))))
      rcases List.mem_cons.mp hp with rfl | hp
      · exact N1 _ (.head _)
      · exact N1 _ (.tail _ (.tail _ (.tail _ (.tail _ (.tail _ (.tail _ (.tail _ (.tail _ hp))))))))
    have n3' : ∀ p ∈ (s₁.heap.objs.size + 1 + 1 + 1, o1) :: (aS, listOf svs.toArray nS) :: (aZ, listOf zvs.toArray nZ) :: (aRw, listOf refs.toArray nRw) :: (am, listOf mvs.toArray nm) :: (ar, listOf rvs.toArray nr) :: rest, @Ne Nat p.1 (s₁.heap.objs.size + 1 + 1) := by
      intro p hp
      rcases List.mem_cons.mp hp with rfl | hp
      · exact n3 _ (.head _)
      rcases List.mem_cons.mp hp with rfl | hp
      · exact n3 _ (.tail _ (.head _))
      rcases List.mem_cons.mp hp with rfl | hp
      · exact n3 _ (.tail _ (.tail _ (.head _)))
      rcases List.mem_cons.mp hp with rfl | hp
      · exact n3 _ (.tail _ (.tail _ (.tail _ (.head _))))
      rcases List.mem_cons.mp hp with rfl | hp
      · exact n3 _ (.tail _ (.tail _ (.tail _ (.tail _ (.head _)))))
      rcases List.mem_cons.mp hp with rfl | hp
      · exact Ne.symm off.2.1
      · exact n3 _ (.tail _ (.tail _ (.tail _ (.tail _ (.tail _ hp)))))
    exact seg11 w s₁ mg mb mean fa cd KX T K0 h1 tk1 u o1 o2 v2 am ar aS aZ aRw mvs rvs svs zvs refs nm nr nS nZ nRw M R sizes st rows rest tc F1 N2 d2 d1 off.2.2.2.2.2.2.1 n3' hm hr hs hz hA (S R hok) hM hR hst e6 e7
theorem gap_end {h₀ : Heap} {Ll : Addr} {s : Shared} {m : Str → Option Value} {news : List (Addr × Obj)} {g : Int} {Q : Value → Shared → Prop}
    (h : ∀ (a : Addr) (vs : List Value) (n : Nat) (h' : Heap) (tk : Nat), Fr h₀ Ll h' m → News h₀ Ll h' ((a, listOf vs.toArray n) :: news) → AllLt a news → IntsAre vs (gapOf g) → Q (.ref a) { s with heap := h', toks := tk })
    {D : Addr} {vs : List Value} {n : Nat} {x1 x2 x3 : Addr × Obj} {h' : Heap} {tk : Nat} {P1 P2 P3 : Prop} (F : Fr h₀ Ll h' m) (N : News h₀ Ll h' ((D, listOf vs.toArray n) :: x1 :: x2 :: x3 :: news)) (hl : P1 ∧ P2 ∧ P3 ∧ AllLt D news) (hi : IntsAre vs (gapOf g)) :
    Q (.ref D) { s with heap := h', toks := tk } :=
  h D vs n h' tk F (fun p hp => N p (by
    rcases List.mem_cons.mp hp with rfl | hp
    · exact .head _
    · exact .tail _ (.tail _ (.tail _ (.tail _ hp))))) hl.2.2.2 hi
theorem gap_call {w : World} {mg mb : Str → Option Value} {mean : ExcName → Option Value} {Ll fa : Addr} {cd : Value} {base h₀ : Heap} {s : Shared} {m : Str → Option Value} {news : List (Addr × Obj)}
    {g : Int} {tg : Tok} {Q E : Value → Shared → Prop}
    (KX : (hd.heap_39 w.params).In h₀) (T : Top hd.view_39 (looseW hd.view_39 []) mean mg mb h₀) (B : Below callerA base [] h₀)
    (F : Fr h₀ Ll s.heap m) (N : News h₀ Ll s.heap news) (h0 : 0 ≤ g) (h2 : g ≤ 2)
    (h : ∀ (a : Addr) (vs : List Value) (n : Nat) (h' : Heap) (tk : Nat), Fr h₀ Ll h' m → News h₀ Ll h' ((a, listOf vs.toArray n) :: news) → AllLt a news → IntsAre vs (gapOf g) → Q (.ref a) { s with heap := h', toks := tk }) :
    wpAny (model PySem.Challenge.rw_k19_0015.row.prog w) (A0 Ll fa cd) (call (.ref 70) [.int g tg]) Q E s := by
  revert KX
  k_with_none
  w_top off
  k_fill
  intro KX
  have hMk := kstMark
  have hg : g = 0 ∨ g = 1 ∨ g = 2 := by omega
  clear h0 h2
  rcases hg with rfl | rfl | rfl
  · refine wpAny_call ?_
    k_enter
    k_steps
    exact h _ [] 0 _ _ (by assumption) (by assumption) (allLt_of (by assumption)) (by rw [show gapOf 0 = [] from rfl]; exact .nil)
  · refine wpAny_call ?_
    k_enter
    k_steps
    exact gap_end (Q := Q) (s := s) h (vs := [.int (-1) _]) (by assumption) (by assumption) (by assumption) (by rw [show gapOf 1 = [-1] from rfl]; exact .cons _ _ .nil)
  · refine wpAny_call ?_
    k_enter
    k_steps
    exact gap_end (Q := Q) (s := s) h (vs := [.int (-2) _, .int 0 _]) (by assumption) (by assumption) (by assumption) (by rw [show gapOf 2 = [-2, 0] from rfl]; exact .cons _ _ (.cons _ _ .nil))
theorem fmod3_lo (a : Int) : 0 ≤ Int.fmod a 3 := Int.fmod_nonneg_of_pos _ (by decide)
theorem fmod3_hi (a : Int) : Int.fmod a 3 ≤ 2 := by have := Int.fmod_lt_of_pos a (b := 3) (by decide); omega
theorem gapOf_len {g : Int} (h0 : 0 ≤ g) (h2 : g ≤ 2) : (gapOf g).length ≤ 2 := by have := gapOf_length h0; omega
theorem gap_call2 {w : World} {mg mb : Str → Option Value} {mean : ExcName → Option Value} {Ll fa : Addr} {cd : Value} {base h₀ : Heap} {s : Shared} {m : Str → Option Value} {news : List (Addr × Obj)}
    {g : Int} {tg : Tok} {Q E : Value → Shared → Prop}
    (KX : (hd.heap_39 w.params).In h₀) (T : Top hd.view_39 (looseW hd.view_39 []) mean mg mb h₀) (B : Below callerA base [] h₀)
    (F : Fr h₀ Ll s.heap m) (N : News h₀ Ll s.heap news) (h0 : 0 ≤ g) (h2 : g ≤ 2)
    (h : ∀ (a : Addr) (vs : List Value) (n : Nat) (h' : Heap) (tk : Nat), Fr h₀ Ll h' m → News h₀ Ll h' ((a, listOf vs.toArray n) :: news) → AllLt a news → IntsAre vs (gapOf g) → (gapOf g).length ≤ 2 → Q (.ref a) { s with heap := h', toks := tk }) :
    wpAny (model PySem.Challenge.rw_k19_0015.row.prog w) (A0 Ll fa cd) (call (.ref 70) [.int g tg]) Q E s :=
  gap_call KX T B F N h0 h2 fun a vs n h' tk F' N' l' hi => h a vs n h' tk F' N' l' hi (gapOf_len h0 h2)
local macro_rules | `(tactic| walk_at "call ref") => `(tactic| (k_here; (with_reducible show wpAny _ _ (call (Value.ref 70) _) _ _ _); (with_unfolding_all refine' gap_call2 (by assumption) (by assumption) (by assumption) (by assumption) (by assumption) (fmod3_lo _) (fmod3_hi _) ?_); k_whole; intro a9 vs9 n9 h9 tk9 F9 N9 l9 hi9 hg9; (try simp only [AllLt, and_true] at l9)))
/-- the memory is laid -/
def At10 (s : Shared) (L : Addr) (m₀ : Str → Option Value) (M : List Int) (led : List (Addr × Obj)) (s' : Shared) : Prop :=
  ∃ (h' : Heap) (tk : Nat) (am : Addr) (mvs : List Value) (nm : Nat) (g : Int), s' = { s with heap := h', toks := tk } ∧ Fr s.heap L h' (fun y => if y = Str.ofString "mem" then some (.ref am) else m₀ y) ∧ News s.heap L h' ((am, listOf (List.toArray mvs) nm) :: led) ∧ AllLt am led ∧ IntsAre mvs (M ++ gapOf g) ∧ (gapOf g).length ≤ 2
theorem At10.of {s : Shared} {L : Addr} {m₀ : Str → Option Value} {M : List Int} {led : List (Addr × Obj)} {h' : Heap} {tk : Nat} {am : Addr} {mvs : List Value} {nm : Nat} {g : Int} {x1 : Addr × Obj} {P : Prop}
    (F : Fr s.heap L h' (fun y => if y = Str.ofString "mem" then some (.ref am) else m₀ y)) (N : News s.heap L h' ((am, listOf mvs.toArray nm) :: x1 :: led)) (hl : P ∧ AllLt am led) (hi : IntsAre mvs (M ++ gapOf g)) (hg : (gapOf g).length ≤ 2) :
    At10 s L m₀ M led { s with heap := h', toks := tk } := ⟨h', tk, am, mvs, nm, g, rfl, F, fun p hp => N p (by
      rcases List.mem_cons.mp hp with rfl | hp
      · exact .head _
      · exact .tail _ (.tail _ hp)), hl.2, hi, hg⟩
theorem seg9 (w : World) (s₁ : Shared) (mg mb : Str → Option Value) (mean : ExcName → Option Value) (fa : Addr) (cd : Value)
    (KX : (hd.heap_39 w.params).In s₁.heap) (T : Top hd.view_39 (looseW hd.view_39 []) mean mg mb s₁.heap) (K0 : Below callerA s₁.heap [] s₁.heap)
    (l : Addr) (vs : List Value) (ns : List Int) (hl : s₁.heap.IsList l vs.toArray) (hi : IntsAre vs ns) (hlen : ns.length ≤ 63)
    (h : Heap) (tk : Nat) (u : Str → Option Value) (o1 o2 o3 : Obj) (v2 : Option Value) (am aS aZ aRw : Addr) (mvs svs zvs refs : List Value) (nm nS nZ nRw : Nat) (M sizes st : List Int) (rows : List (List Int)) (rest : List (Addr × Obj)) (tc : Tok)
    (F : Fr s₁.heap s₁.heap.objs.size h (fun y => if y = Str.ofString "mem" then some (.ref am) else if y = Str.ofString "count" then some (.int (st.length : Int) tc) else if y = Str.ofString "sizes" then some (.ref aZ) else if y = Str.ofString "rows" then some (.ref aRw) else u y))
    (N : News s₁.heap s₁.heap.objs.size h ((s₁.heap.objs.size + 1, o3) :: (s₁.heap.objs.size + 1 + 1, o2) :: (s₁.heap.objs.size + 1 + 1 + 1, o1) :: (aS, listOf svs.toArray nS) :: (aZ, listOf zvs.toArray nZ) :: (aRw, listOf refs.toArray nRw) :: (am, listOf mvs.toArray nm) :: rest))
    (d2 : o2.data = .cell v2) (d1 : o1.data = .cell (some (.ref aS))) (d3 : o3.data = .cell (some (.ref l)))
    (n3 : ∀ p ∈ (s₁.heap.objs.size + 1 + 1 + 1, o1) :: (aS, listOf svs.toArray nS) :: (aZ, listOf zvs.toArray nZ) :: (aRw, listOf refs.toArray nRw) :: rest, @Ne Nat p.1 (s₁.heap.objs.size + 1 + 1))
    (hm : IntsAre mvs M) (hs : IntsAre svs st) (hz : IntsAre zvs sizes) (hA : RowsAre rest refs rows)
    (S : ∀ tail R, (∀ v ∈ R, OkW st v) → Sound sizes st rows (M ++ tail) R) (hM : M.length ≤ 30) (hst : st.length ≤ 4) (e6 : ∀ k, (rows.getD k []).length ≤ 3) (e7 : ∀ k, 0 ≤ st.getD k 0 ∧ st.getD k 0 ≤ 30) :
    wpAny (model PySem.Challenge.rw_k19_0015.row.prog w) (A0 s₁.heap.objs.size fa cd) (execs (lawBody.drop 9) (lawEnv s₁.heap.objs.size fa cd)) (Done s₁ s₁.heap.objs.size) (fun _ _ => False) { s₁ with heap := h, toks := tk } := by
  revert KX
  k_with_none
  w_top off
  k_fill
  intro KX
  have hMk := kstMark
  with_unfolding_all refine stepBy (At10 s₁ s₁.heap.objs.size (fun y => if y = Str.ofString "mem" then some (.ref am) else if y = Str.ofString "count" then some (.int (st.length : Int) tc) else if y = Str.ofString "sizes" then some (.ref aZ) else if y = Str.ofString "rows" then some (.ref aRw) else u y) M
    ((s₁.heap.objs.size + 1, o3) :: (s₁.heap.objs.size + 1 + 1, o2) :: (s₁.heap.objs.size + 1 + 1 + 1, o1) :: (aS, listOf svs.toArray nS) :: (aZ, listOf zvs.toArray nZ) :: (aRw, listOf refs.toArray nRw) :: (am, listOf mvs.toArray nm) :: rest)) ?_ ?_
  · k_steps
    exact Leaves.of (At10.of (by assumption) (by assumption) (by assumption) (by assumption) (by assumption))
  · rintro s' ⟨h1, tk1, am1, mvs1, nm1, g, rfl, F1, N1, l1, hi1, hg⟩
    have l1' := kst_ltOf l1
    have e1 : (fun y => if y = Str.ofString "mem" then some (.ref am1) else (fun y => if y = Str.ofString "mem" then some (.ref am) else if y = Str.ofString "count" then some (.int (st.length : Int) tc) else if y = Str.ofString "sizes" then some (.ref aZ) else if y = Str.ofString "rows" then some (.ref aRw) else u y) y) = (fun y => if y = Str.ofString "mem" then some (.ref am1) else if y = Str.ofString "count" then some (.int (st.length : Int) tc) else if y = Str.ofString "sizes" then some (.ref aZ) else if y = Str.ofString "rows" then some (Value.ref aRw) else u y) := by
      funext y
      by_cases hy : y = Str.ofString "mem"
      · rw [if_pos hy, if_pos hy]
      · rw [if_neg hy, if_neg hy]
        show (if y = Str.ofString "mem" then _ else _) = _
        rw [if_neg hy]
    rw [e1] at F1
    have N2 : News s₁.heap s₁.heap.objs.size h1 ((s₁.heap.objs.size + 1, o3) :: (s₁.heap.objs.size + 1 + 1, o2) :: (s₁.heap.objs.size + 1 + 1 + 1, o1) :: (aS, listOf svs.toArray nS) :: (aZ, listOf zvs.toArray nZ) :: (aRw, listOf refs.toArray nRw) :: (am1, listOf mvs1.toArray nm1) :: rest) := by
      intro p hp
      rcases List.mem_cons.mp hp with rfl | hp
      · exact N1 _ (.tail _ (.head _))
      rcases List.mem_cons.mp hp with rfl | hp
      · exact N1 _ (.tail _ (.tail _ (.head _)))
      rcases List.mem_cons.mp hp with rfl | hp
      · exact N1 _ (.tail _ (.tail _ (.tail _ (.head _))))
      rcases List.mem_cons.mp hp with rfl | hp
      · exact N1 _ (.tail _ (.tail _ (.tail _ (.tail _ (.head _)))))
      rcases List.mem_cons.mp hp with rfl | hp
      · exact N1 _ (.tail _ (.tail _ (.tail _ (.tail _ (.tail _ (.head _))))))
      rcases List.mem_cons.mp hp with rfl | hp
      · exact N1 _ (.tail _ (.tail _ (.tail _ (.tail _ (.tail _ (.tail _ (.head _)))))))
      rcases List.mem_cons.mp hp with rfl | hp
      · exact N1 _ (.head _)
      · exact N1 _ (.tail _ (.tail _ (.tail _ (.tail _ (.tail _ (.tail _ (.tail _ (.tail _ hp))))))))
    have n3' : ∀ p ∈ (s₁.heap.objs.size + 1 + 1 + 1, o1) :: (aS, listOf svs.toArray nS) :: (aZ, listOf zvs.toArray nZ) :: (aRw, listOf refs.toArray nRw) :: (am1, listOf mvs1.toArray nm1) :: rest, @Ne Nat p.1 (s₁.heap.objs.size + 1 + 1) := by
      intro p hp
      rcases List.mem_cons.mp hp with rfl | hp
      · exact n3 _ (.head _)
      rcases List.mem_cons.mp hp with rfl | hp
      · exact n3 _ (.tail _ (.head _))
      rcases List.mem_cons.mp hp with rfl | hp
      · exact n3 _ (.tail _ (.tail _ (.head _)))
      rcases List.mem_cons.mp hp with rfl | hp
      · exact n3 _ (.tail _ (.tail _ (.tail _ (.head _))))
      rcases List.mem_cons.mp hp with rfl | hp
      · exact Nat.ne_of_gt (l1' _ (.tail _ (.head _)))
      · exact n3 _ (.tail _ (.tail _ (.tail _ (.tail _ hp))))
    exact seg10 w s₁ mg mb mean fa cd KX T K0 l vs ns hl hi hlen h1 tk1 u o1 o2 o3 v2 am1 aS aZ aRw mvs1 svs zvs refs nm1 nS nZ nRw (M ++ gapOf g) sizes st rows rest tc F1 N2 d2 d1 d3 n3' hi1 hs hz hA (S (gapOf g)) (by rw [List.length_append]; omega) hst e6 e7
local macro_rules | `(tactic| walk_at "call ref") => `(tactic| (k_here; (with_reducible show wpAny _ _ (call (Value.ref 70) _) _ _ _); (with_unfolding_all refine' gap_call2 (by assumption) (by assumption) (by assumption) (by assumption) (by assumption) (by assumption) (by assumption) ?_); k_whole; intro a9 vs9 n9 h9 tk9 F9 N9 l9 hi9 hg9; (try simp only [AllLt, and_true] at l9)))
/-- a row is made -/
def RowMade (s : Shared) (L : Addr) (m₀ : Str → Option Value) (st : List Int) (z : Int) (led : List (Addr × Obj)) (s' : Shared) : Prop :=
  ∃ (h' : Heap) (tk : Nat) (ar : Addr) (rvs : List Value) (nr : Nat) (R : List Int), s' = { s with heap := h', toks := tk } ∧ Fr s.heap L h' (fun y => if y = Str.ofString "row" then some (.ref ar) else m₀ y) ∧ News s.heap L h' ((ar, listOf (List.toArray rvs) nr) :: led) ∧ LCg.Off1 ar led ∧ IntsAre rvs R ∧ (R.length : Int) = z ∧ ∀ v ∈ R, OkW st v
theorem build_row (w : World) (s₁ : Shared) (mg mb : Str → Option Value) (mean : ExcName → Option Value) (fa : Addr) (cd : Value)
    (KX : (hd.heap_39 w.params).In s₁.heap) (T : Top hd.view_39 (looseW hd.view_39 []) mean mg mb s₁.heap) (K0 : Below callerA s₁.heap [] s₁.heap)
    (l : Addr) (vs : List Value) (ns : List Int) (hl : s₁.heap.IsList l vs.toArray) (hi : IntsAre vs ns) (hlen : ns.length ≤ 63)
    (h : Heap) (tk : Nat) (u : Str → Option Value) (oc o1 o3 : Obj) (am aRw aS aZ aG : Addr) (mvs svs zvs gvs refs : List Value) (nm nS nZ nG nRw : Nat) (sizes st : List Int) (rest : List (Addr × Obj)) (k : Nat) (t : Tok)
    (F : Fr s₁.heap s₁.heap.objs.size h (fun y => if y = Str.ofString "mem" then some (.ref am) else if y = Str.ofString "rows" then some (.ref aRw) else if y = Str.ofString "sizes" then some (.ref aZ) else if y = Str.ofString "gaps" then some (.ref aG) else u y))
    (N : News s₁.heap s₁.heap.objs.size h ((s₁.heap.objs.size + 1 + 1, oc) :: (aRw, listOf refs.toArray nRw) :: (am, listOf mvs.toArray nm) :: (s₁.heap.objs.size + 1, o3) :: (s₁.heap.objs.size + 1 + 1 + 1, o1) :: (aS, listOf svs.toArray nS) :: (aZ, listOf zvs.toArray nZ) :: (aG, listOf gvs.toArray nG) :: rest))
    (d2 : oc.data = .cell (some (.int (k : Int) t))) (d1 : o1.data = .cell (some (.ref aS))) (d3 : o3.data = .cell (some (.ref l)))
    (hs : IntsAre svs st) (hz : IntsAre zvs sizes)
    (hk : (k : Int) < sizes.length) (hst : st.length ≤ 4) (hz4 : sizes.length ≤ 4) (hb : PLift (0 ≤ sizes.getD k 0 ∧ sizes.getD k 0 ≤ 3)) :
    wpAny (model PySem.Challenge.rw_k19_0015.row.prog w) (A0 s₁.heap.objs.size fa cd) (exec (defAt 0 buildBody) (lawEnv s₁.heap.objs.size fa cd))
      (Leaves (RowMade s₁ s₁.heap.objs.size (fun y => if y = Str.ofString "mem" then some (.ref am) else if y = Str.ofString "rows" then some (.ref aRw) else if y = Str.ofString "sizes" then some (.ref aZ) else if y = Str.ofString "gaps" then some (.ref aG) else u y) st (sizes.getD k 0)
        ((s₁.heap.objs.size + 1 + 1, oc) :: (aRw, listOf refs.toArray nRw) :: (am, listOf mvs.toArray nm) :: (s₁.heap.objs.size + 1, o3) :: (s₁.heap.objs.size + 1 + 1 + 1, o1) :: (aS, listOf svs.toArray nS) :: (aZ, listOf zvs.toArray nZ) :: (aG, listOf gvs.toArray nG) :: rest))) (fun _ _ => False) { s₁ with heap := h, toks := tk } := by
  revert KX
  k_with_none
  w_top off
  k_fill
  intro KX
  have hMk := kstMark
  have hk0 : (0 : Int) ≤ (k : Int) := Int.natCast_nonneg k
  with_unfolding_all refine LCg.Assign_ListComp_U (F₀ := F) (by rfl) (by with_unfolding_all rfl) (by with_unfolding_all rfl) (by decide) (by rfl) (by decide) (by rfl) (by rfl) (by rfl) ?_
  iterate 16 (first | (with_reducible show LCg.CompSrc _ _ _ _ _ _ _ _ _ _ _ _ _ _) | walk1)
  rename IsRange _ _ _ _ _ _ _ _ => rg
  rename Fr _ _ _ _ => F9
  rename News _ _ _ _ => N9
  have hb0 := hb.down.1
  have hb1 := hb.down.2
  have ek : (k : Int).toNat = k := Int.toNat_natCast k
  rw [ek] at rg
  refine LCg.CompSrc.range (n := (sizes.getD k 0).toNat) (by rfl) F9 N9 rg (small_one (by omega) (by omega) (by omega) (by omega)) (by rw [rangeSize_nat]; omega) (by rw [sizeLine_eq]; omega) ?_
  clear rg F9 N9
  intro g'
  refine comp_range (fun _ r => OkW st r) ?_ ?_
  · intro i ti I oI C oC D m₂ ys h2 tk2 E' hlo hhi hC hx F' N' off ne
    clear hb0 hb1
    k_steps
    exact LCg.CompEnd.intro (by assumption) (by assumption) _ (fun _ h => h) off trivial ⟨rfl, _, _, rfl, wordOf_ok _ _⟩
  · intro ys rs hys hrl hG D h3 tk3 F3 N3 off3
    exact Leaves.of ⟨h3, tk3, D, ys, _, rs, rfl, F3, N3, off3, hys, by omega, fun v hv => by
      obtain ⟨i, hi, e⟩ := List.getElem_of_mem hv
      exact hG i v (by rw [List.getElem?_eq_getElem hi, e])⟩
/-- what one turn of the building loop leaves -/
structure BuildPost (h₀ : Heap) (L : Addr) (s : Shared) (m : Str → Option Value) (c2 : Addr) (oc : Obj) (aRw am : Addr) (oRw oM : Obj) (fix : List (Addr × Obj)) (sizes gaps st : List Int) (k : Nat) (M : List Int) (refs : List Value) (f : Flow) (s' : Shared) : Prop where
  next : f = .next
  ex : ∃ (h' : Heap) (tk : Nat) (m' : Str → Option Value) (am' aRow : Addr) (mvs rvs : List Value) (nm nr nRw : Nat) (row : List Int), s' = { s with heap := h', toks := tk } ∧ Fr h₀ L h' m' ∧
    News h₀ L h' ((c2, oc) :: (aRw, listOf (List.toArray (refs ++ [.ref aRow])) nRw) :: (am', listOf (List.toArray mvs) nm) :: (aRow, listOf (List.toArray rvs) nr) :: fix) ∧
    IntsAre mvs (((M ++ gapOf (gaps.getD k 0)) ++ [sizes.getD k 0]) ++ row) ∧ IntsAre rvs row ∧ (row.length : Int) = sizes.getD k 0 ∧ (∀ v ∈ row, OkW st v) ∧
    m' (Str.ofString "mem") = some (.ref am') ∧ (∀ y, y ≠ Str.ofString "mem" → y ≠ Str.ofString "row" → m' y = m y) ∧ LCg.Off1 aRow ((c2, oc) :: (aRw, oRw) :: (am, oM) :: fix) ∧
    (@LT.lt Nat _ c2 am' ∧ @LT.lt Nat _ aRw am' ∧ @LT.lt Nat _ aRow am' ∧ ∀ p ∈ fix, @LT.lt Nat _ p.1 am')
theorem BuildPost.of {h₀ : Heap} {L : Addr} {s : Shared} {m : Str → Option Value} {c2 : Addr} {oc : Obj} {aRw am : Addr} {oRw oM : Obj} {fix : List (Addr × Obj)} {sizes gaps st : List Int} {k : Nat} {M : List Int} {refs : List Value}
    {h' : Heap} {tk : Nat} {D aRow : Addr} {ws rvs : List Value} {nD nr nRw : Nat} {row : List Int} {x1 x2 x3 x4 : Addr × Obj} {P1 P2 P3 P4 : Prop}
    (F : Fr h₀ L h' (fun y => if y = Str.ofString "mem" then some (.ref D) else if y = Str.ofString "row" then some (.ref aRow) else m y))
    (N : News h₀ L h' ((D, listOf ws.toArray nD) :: x1 :: x2 :: x3 :: x4 :: (aRow, listOf rvs.toArray nr) :: (c2, oc) :: (aRw, listOf (refs.toArray.push (.ref aRow)) nRw) :: (am, oM) :: fix))
    (hlt : P1 ∧ P2 ∧ P3 ∧ P4 ∧ AllLt D ((aRow, listOf rvs.toArray nr) :: (c2, oc) :: (aRw, oRw) :: (am, oM) :: fix))
    (hi : IntsAre ws (((M ++ gapOf (gaps.getD k 0)) ++ [sizes.getD k 0]) ++ row)) (hr : IntsAre rvs row) (hrow : (row.length : Int) = sizes.getD k 0) (hok : ∀ v ∈ row, OkW st v) (off : LCg.Off1 aRow ((c2, oc) :: (aRw, oRw) :: (am, oM) :: fix)) :
    BuildPost h₀ L s m c2 oc aRw am oRw oM fix sizes gaps st k M refs .next { s with heap := h', toks := tk } := by
  have hlt' := kst_ltOf hlt.2.2.2.2
  refine ⟨rfl, h', tk, _, D, aRow, ws, rvs, nD, nr, nRw, row, rfl, F, fun p hp => ?_, hi, hr, hrow, hok, ?_, ?_, off, hlt' _ (.tail _ (.head _)), hlt' _ (.tail _ (.tail _ (.head _))), hlt' _ (.head _), fun p hp => hlt' p (.tail _ (.tail _ (.tail _ (.tail _ hp))))⟩
  · rw [List.push_toArray] at N
    rcases List.mem_cons.mp hp with rfl | hp
    · exact N _ (.tail _ (.tail _ (.tail _ (.tail _ (.tail _ (.tail _ (.head _)))))))
    rcases List.mem_cons.mp hp with rfl | hp
    · exact N _ (.tail _ (.tail _ (.tail _ (.tail _ (.tail _ (.tail _ (.tail _ (.head _))))))))
    rcases List.mem_cons.mp hp with rfl | hp
    · exact N _ (.head _)
    rcases List.mem_cons.mp hp with rfl | hp
    · exact N _ (.tail _ (.tail _ (.tail _ (.tail _ (.tail _ (.head _))))))
    · exact N _ (.tail _ (.tail _ (.tail _ (.tail _ (.tail _ (.tail _ (.tail _ (.tail _ (.tail _ hp)))))))))
  · rw [if_pos rfl]
  · intro y h1 h2
    rw [if_neg h1, if_neg h2]
theorem build_turn (w : World) (s₁ : Shared) (mg mb : Str → Option Value) (mean : ExcName → Option Value) (fa : Addr) (cd : Value)
    (KX : (hd.heap_39 w.params).In s₁.heap) (T : Top hd.view_39 (looseW hd.view_39 []) mean mg mb s₁.heap) (K0 : Below callerA s₁.heap [] s₁.heap)
    (l : Addr) (vs : List Value) (ns : List Int) (hl : s₁.heap.IsList l vs.toArray) (hi : IntsAre vs ns) (hlen : ns.length ≤ 63)
    (h : Heap) (tk : Nat) (u : Str → Option Value) (oc o1 o3 : Obj) (am aRw aS aZ aG : Addr) (mvs svs zvs gvs refs : List Value) (nm nS nZ nG nRw : Nat) (M sizes gaps st : List Int) (rest : List (Addr × Obj)) (k : Nat) (t : Tok)
    (F : Fr s₁.heap s₁.heap.objs.size h (fun y => if y = Str.ofString "mem" then some (.ref am) else if y = Str.ofString "rows" then some (.ref aRw) else if y = Str.ofString "sizes" then some (.ref aZ) else if y = Str.ofString "gaps" then some (.ref aG) else u y))
    (N : News s₁.heap s₁.heap.objs.size h ((s₁.heap.objs.size + 1 + 1, oc) :: (aRw, listOf refs.toArray nRw) :: (am, listOf mvs.toArray nm) :: (s₁.heap.objs.size + 1, o3) :: (s₁.heap.objs.size + 1 + 1 + 1, o1) :: (aS, listOf svs.toArray nS) :: (aZ, listOf zvs.toArray nZ) :: (aG, listOf gvs.toArray nG) :: rest))
    (d2 : oc.data = .cell (some (.int (k : Int) t))) (d1 : o1.data = .cell (some (.ref aS))) (d3 : o3.data = .cell (some (.ref l)))
    (q1 : @Ne Nat (s₁.heap.objs.size + 1 + 1) aRw) (q2 : @Ne Nat am aRw) (q3 : @Ne Nat (s₁.heap.objs.size + 1) aRw) (q4 : @Ne Nat (s₁.heap.objs.size + 1 + 1 + 1) aRw) (q5 : @Ne Nat aS aRw) (q6 : @Ne Nat aZ aRw) (q7 : @Ne Nat aG aRw) (q8 : OwnOff rest [aRw])
    (hm : IntsAre mvs M) (hs : IntsAre svs st) (hz : IntsAre zvs sizes) (hg : IntsAre gvs gaps) (hrl : refs.length ≤ 4)
    (hk : (k : Int) < sizes.length) (hk' : (k : Int) < gaps.length) (hst : st.length ≤ 4) (hz4 : sizes.length ≤ 4) (hM : M.length ≤ 30) (hb : PLift (0 ≤ sizes.getD k 0 ∧ sizes.getD k 0 ≤ 3)) (g0 : 0 ≤ gaps.getD k 0) (g2 : gaps.getD k 0 ≤ 2) :
    wpAny (model PySem.Challenge.rw_k19_0015.row.prog w) (A0 s₁.heap.objs.size fa cd) (execs buildBody (lawEnv s₁.heap.objs.size fa cd))
      (BuildPost s₁.heap s₁.heap.objs.size s₁ (fun y => if y = Str.ofString "mem" then some (.ref am) else if y = Str.ofString "rows" then some (.ref aRw) else if y = Str.ofString "sizes" then some (.ref aZ) else if y = Str.ofString "gaps" then some (.ref aG) else u y)
        (s₁.heap.objs.size + 1 + 1) oc aRw am (listOf refs.toArray nRw) (listOf mvs.toArray nm) ((s₁.heap.objs.size + 1, o3) :: (s₁.heap.objs.size + 1 + 1 + 1, o1) :: (aS, listOf svs.toArray nS) :: (aZ, listOf zvs.toArray nZ) :: (aG, listOf gvs.toArray nG) :: rest) sizes gaps st k M refs) (fun _ _ => False) { s₁ with heap := h, toks := tk } := by
  have X := build_row w s₁ mg mb mean fa cd KX T K0 l vs ns hl hi hlen h tk u oc o1 o3 am aRw aS aZ aG mvs svs zvs gvs refs nm nS nZ nG nRw sizes st rest k t F N d2 d1 d3 hs hz hk hst hz4 hb
  with_unfolding_all refine stepBy _ X ?_
  clear X F N
  rintro s' ⟨h1, tk1, aRow, rvs, nr, row, rfl, F1, N1, off, hr, hrow, hok⟩
  revert KX
  k_with_none
  w_top off
  k_fill
  intro KX
  have hMk := kstMark
  have hk0 : (0 : Int) ≤ (k : Int) := Int.natCast_nonneg k
  have hrow3 : row.length ≤ 3 := by have := hb.down.2; omega
  have p1 : @Ne Nat aRw aRow := off.2.1
  with_unfolding_all refine wpAny_execs_cons ?_
  k_steps
  exact BuildPost.of (by assumption) (by assumption) (by assumption) (by assumption) hr hrow hok off
theorem off1_mem {D : Addr} : ∀ {l : List (Addr × Obj)}, LCg.Off1 D l → ∀ p ∈ l, @Ne Nat p.1 D
  | [], _, _, h => nomatch h
  | _ :: _, x, p, h => by
    rcases List.mem_cons.mp h with rfl | h
    · exact x.1
    · exact off1_mem x.2 p h
theorem say4 {m : Str → Option Value} {x1 x2 x3 x4 : Str} {v1 v2 v3 v4 : Value} (e1 : m x1 = some v1) (e2 : m x2 = some v2) (e3 : m x3 = some v3) (e4 : m x4 = some v4) :
    (fun y => if y = x1 then some v1 else if y = x2 then some v2 else if y = x3 then some v3 else if y = x4 then some v4 else m y) = m := by
  funext y
  by_cases h1 : y = x1
  · rw [if_pos h1, h1, e1]
  rw [if_neg h1]
  by_cases h2 : y = x2
  · rw [if_pos h2, h2, e2]
  rw [if_neg h2]
  by_cases h3 : y = x3
  · rw [if_pos h3, h3, e3]
  rw [if_neg h3]
  by_cases h4 : y = x4
  · rw [if_pos h4, h4, e4]
  rw [if_neg h4]
theorem short_snoc {rows : List (List Int)} {row : List Int} (h : ∀ j, (rows.getD j []).length ≤ 3) (h3 : row.length ≤ 3) : ∀ j, ((rows ++ [row]).getD j []).length ≤ 3 := by
  intro j
  rw [List.getD_eq_getElem?_getD]
  rcases Nat.lt_trichotomy j rows.length with hj | hj | hj
  · rw [List.getElem?_append_left hj, ← List.getD_eq_getElem?_getD]; exact h j
  · rw [List.getElem?_append_right (by omega), hj, Nat.sub_self]; simpa using h3
  · rw [List.getElem?_eq_none (by simp; omega)]; simp
/-- what the building loop keeps -/
def BuildJ (sizes gaps st : List Int) (m₀ : Str → Option Value) (c2 aRw : Addr) (fix : List (Addr × Obj)) (k : Nat) (m : Str → Option Value) (news : List (Addr × Obj)) : Prop :=
  ∃ (am : Addr) (mvs refs : List Value) (nm nRw : Nat) (rowObjs : List (Addr × Obj)) (rows : List (List Int)) (M : List Int), news = (aRw, listOf (List.toArray refs) nRw) :: (am, listOf (List.toArray mvs) nm) :: (fix ++ rowObjs) ∧ @Ne Nat am aRw ∧ @Ne Nat am c2 ∧ (∀ p ∈ rowObjs, @Ne Nat p.1 aRw ∧ @Ne Nat p.1 c2) ∧
    IntsAre mvs M ∧ RowsAre rowObjs refs rows ∧ m (Str.ofString "mem") = some (.ref am) ∧ (∀ y, y ≠ Str.ofString "mem" → y ≠ Str.ofString "row" → m y = m₀ y) ∧ MemInv sizes gaps st k rows M ∧ ∀ j, (rows.getD j []).length ≤ 3
/-- what it leaves -/
def BuildDone (s : Shared) (L : Addr) (sizes gaps st : List Int) (m₀ : Str → Option Value) (c2 aRw : Addr) (fix : List (Addr × Obj)) (n : Nat) (s' : Shared) : Prop :=
  ∃ (h' : Heap) (tk : Nat) (m' : Str → Option Value) (news' : List (Addr × Obj)) (oc : Obj) (v : Option Value), s' = { s with heap := h', toks := tk } ∧ Fr s.heap L h' m' ∧ News s.heap L h' ((c2, oc) :: news') ∧ oc.data = .cell v ∧ (∀ p ∈ news', p.1 ≠ c2) ∧ BuildJ sizes gaps st m₀ c2 aRw fix n m' news'
theorem build_loop (w : World) (s₁ : Shared) (mg mb : Str → Option Value) (mean : ExcName → Option Value) (fa : Addr) (cd : Value)
    (KX : (hd.heap_39 w.params).In s₁.heap) (T : Top hd.view_39 (looseW hd.view_39 []) mean mg mb s₁.heap) (K0 : Below callerA s₁.heap [] s₁.heap)
    (l : Addr) (vs : List Value) (ns : List Int) (hl : s₁.heap.IsList l vs.toArray) (hi : IntsAre vs ns) (hlen : ns.length ≤ 63)
    (h : Heap) (tk : Nat) (m : Str → Option Value) (oc o1 o3 : Obj) (v2 : Option Value) (am aRw aS aZ aG : Addr) (svs zvs gvs : List Value) (nm nS nZ nG nRw : Nat) (sizes gaps st : List Int) (tc : Tok)
    (F : Fr s₁.heap s₁.heap.objs.size h m)
    (N : News s₁.heap s₁.heap.objs.size h [(s₁.heap.objs.size + 1 + 1, oc), (aRw, listOf ([] : List Value).toArray nRw), (am, listOf ([] : List Value).toArray nm), (s₁.heap.objs.size + 1, o3), (s₁.heap.objs.size + 1 + 1 + 1, o1), (aS, listOf svs.toArray nS), (aZ, listOf zvs.toArray nZ), (aG, listOf gvs.toArray nG)])
    (d2 : oc.data = .cell v2) (d1 : o1.data = .cell (some (.ref aS))) (d3 : o3.data = .cell (some (.ref l)))
    (f1 : m (Str.ofString "mem") = some (.ref am)) (f2 : m (Str.ofString "rows") = some (.ref aRw)) (f3 : m (Str.ofString "sizes") = some (.ref aZ)) (f4 : m (Str.ofString "gaps") = some (.ref aG)) (f5 : m (Str.ofString "count") = some (.int (sizes.length : Int) tc))
    (q1 : @Ne Nat (s₁.heap.objs.size + 1 + 1) aRw) (q2 : @Ne Nat am aRw) (q3 : @Ne Nat (s₁.heap.objs.size + 1) aRw) (q4 : @Ne Nat (s₁.heap.objs.size + 1 + 1 + 1) aRw) (q5 : @Ne Nat aS aRw) (q6 : @Ne Nat aZ aRw) (q7 : @Ne Nat aG aRw)
    (r1 : @Ne Nat am (s₁.heap.objs.size + 1 + 1)) (r2 : @Ne Nat aS (s₁.heap.objs.size + 1 + 1)) (r3 : @Ne Nat aZ (s₁.heap.objs.size + 1 + 1)) (r4 : @Ne Nat aG (s₁.heap.objs.size + 1 + 1))
    (hs : IntsAre svs st) (hz : IntsAre zvs sizes) (hg : IntsAre gvs gaps)
    (e1 : gaps.length = sizes.length) (e2 : st.length ≤ 4) (e3 : sizes.length ≤ 4) (z0 : ∀ x ∈ sizes, (0 : Int) ≤ x) (z3 : ∀ x ∈ sizes, x ≤ 3) (g0 : ∀ x ∈ gaps, (0 : Int) ≤ x) (g2 : ∀ x ∈ gaps, x ≤ 2) :
    wpAny (model PySem.Challenge.rw_k19_0015.row.prog w) (A0 s₁.heap.objs.size fa cd) (exec (defAt 8 lawBody) (lawEnv s₁.heap.objs.size fa cd))
      (Leaves (BuildDone s₁ s₁.heap.objs.size sizes gaps st m (s₁.heap.objs.size + 1 + 1) aRw [(s₁.heap.objs.size + 1, o3), (s₁.heap.objs.size + 1 + 1 + 1, o1), (aS, listOf svs.toArray nS), (aZ, listOf zvs.toArray nZ), (aG, listOf gvs.toArray nG)] sizes.length)) (fun _ _ => False) { s₁ with heap := h, toks := tk } := by
  revert KX
  k_with_none
  w_top off
  k_fill
  intro KX
  rw [← say_eq f5] at F
  have hMk := kstMark
  have hid : PLift (sizes.length ≤ 4) := ⟨e3⟩
  clear e3
  with_unfolding_all refine For_cell (x := Str.ofString "j") (c := s₁.heap.objs.size + 1 + 1) (h₀ := s₁.heap) rfl rfl rfl ?_
  iterate 12 (first | (with_reducible show wpAny _ _ (pyIter (Value.ref _)) _ _ _) | walk1)
  have e3 := hid.down
  rename IsRange _ _ _ _ _ _ _ _ => rg
  rename Fr _ _ _ _ => F9
  rename News _ _ _ _ => N9
  rw [say_eq f5] at F9
  refine range_cell (n := sizes.length) (BuildJ sizes gaps st m (s₁.heap.objs.size + 1 + 1) aRw [(s₁.heap.objs.size + 1, o3), (s₁.heap.objs.size + 1 + 1 + 1, o1), (aS, listOf svs.toArray nS), (aZ, listOf zvs.toArray nZ), (aG, listOf gvs.toArray nG)])
    rfl rg (small_one (by omega) (by omega) (by omega) (by omega)) (by rw [rangeSize_nat]; omega) F9 N9 d2 ?_ ⟨am, [], [], nm, nRw, [], [], [], rfl, q2, r1, (fun _ hp => nomatch hp), .nil, .nil, f1, (fun _ _ _ => rfl), MemInv.start, by simp⟩ ?_ ?_
  · intro p hp
    rcases List.mem_cons.mp hp with rfl | hp
    · exact Ne.symm q1
    rcases List.mem_cons.mp hp with rfl | hp
    · exact r1
    rcases List.mem_cons.mp hp with rfl | hp
    · exact Nat.ne_of_lt (Nat.lt_succ_self _)
    rcases List.mem_cons.mp hp with rfl | hp
    · exact Nat.ne_of_gt (Nat.lt_succ_self _)
    rcases List.mem_cons.mp hp with rfl | hp
    · exact r2
    rcases List.mem_cons.mp hp with rfl | hp
    · exact r3
    rw [List.mem_singleton.mp hp]
    exact r4
  · rintro i k t m₁ news₁ h' tk' own oc₁ hi' rfl ⟨am1, mvs1, refs1, nm1, nRw1, rowObjs, rows, M, rfl, a1, a2, a3, hm1, hA1, b1, b2, hMem, hsh⟩ hsep hnc₁ hd₁ F₁ N₁
    have w1 : m₁ (Str.ofString "rows") = some (.ref aRw) := (b2 _ (by decide) (by decide)).trans f2
    have w2 : m₁ (Str.ofString "sizes") = some (.ref aZ) := (b2 _ (by decide) (by decide)).trans f3
    have w3 : m₁ (Str.ofString "gaps") = some (.ref aG) := (b2 _ (by decide) (by decide)).trans f4
    have ec := say4 b1 w1 w2 w3
    rw [Int.zero_add] at hd₁
    have hML : M.length ≤ 30 := by
      have := hMem.lenM
      have := atOf_small z3 g2 i
      omega
    have X := build_turn w s₁ mg mb mean fa cd KX T K0 l vs ns hl hi hlen h' tk' m₁ oc₁ o1 o3 am1 aRw aS aZ aG mvs1 svs zvs gvs refs1 nm1 nS nZ nG nRw1 M sizes gaps st (rowObjs ++ own) i t (by rw [ec]; exact F₁) N₁ hd₁ d1 d3 q1 a1 q3 q4 q5 q6 q7
      (fun p hp b hb => by
        rw [List.mem_singleton.mp hb]
        rcases List.mem_append.mp hp with hp | hp
        · exact (a3 p hp).1
        · exact hsep p hp _ (.tail _ (.head _)))
      hm1 hs hz hg (by have := hA1.length; have := hMem.lenR; omega) (by omega) (by omega) e2 e3 hML ⟨getD_nonneg z0 i, getD_le z3 (by decide) i⟩ (getD_nonneg g0 i) (getD_le g2 (by decide) i)
    rw [ec] at X
    refine wpAny_mono X (fun f s' hp => ?_) (fun _ _ e => e.elim)
    obtain ⟨rfl, h2, tk2, m2, am2, aRow, mvs2, rvs2, nm2, nr2, nRw2, row, rfl, F2, N2, hm2, hr2, hrow, hok, c1, c3, off, l1, l2, l3, l4⟩ := hp
    have off' := off1_mem off
    have hrow3 : row.length ≤ 3 := by have := getD_le z3 (by decide) i; omega
    have hown : ∀ p ∈ own, @LT.lt Nat _ p.1 am2 ∧ @Ne Nat p.1 aRow := fun p hp => ⟨l4 p (List.mem_append_right [(s₁.heap.objs.size + 1, o3), (s₁.heap.objs.size + 1 + 1 + 1, o1), (aS, listOf svs.toArray nS), (aZ, listOf zvs.toArray nZ), (aG, listOf gvs.toArray nG)] (List.mem_append_right rowObjs hp)),
      off' p (.tail _ (.tail _ (.tail _ (List.mem_append_right [(s₁.heap.objs.size + 1, o3), (s₁.heap.objs.size + 1 + 1 + 1, o1), (aS, listOf svs.toArray nS), (aZ, listOf zvs.toArray nZ), (aG, listOf gvs.toArray nG)] (List.mem_append_right rowObjs hp)))))⟩
    have inN : ∀ p ∈ (aRw, listOf (refs1 ++ [Value.ref aRow]).toArray nRw2) :: (am2, listOf mvs2.toArray nm2) :: ([(s₁.heap.objs.size + 1, o3), (s₁.heap.objs.size + 1 + 1 + 1, o1), (aS, listOf svs.toArray nS), (aZ, listOf zvs.toArray nZ), (aG, listOf gvs.toArray nG)] ++ ((aRow, listOf rvs2.toArray nr2) :: rowObjs)),
        p ∈ (s₁.heap.objs.size + 1 + 1, oc₁) :: (aRw, listOf (refs1 ++ [Value.ref aRow]).toArray nRw2) :: (am2, listOf mvs2.toArray nm2) :: (aRow, listOf rvs2.toArray nr2) :: ([(s₁.heap.objs.size + 1, o3), (s₁.heap.objs.size + 1 + 1 + 1, o1), (aS, listOf svs.toArray nS), (aZ, listOf zvs.toArray nZ), (aG, listOf gvs.toArray nG)] ++ (rowObjs ++ own)) := by
      intro p hp
      rcases List.mem_cons.mp hp with rfl | hp
      · exact .tail _ (.head _)
      rcases List.mem_cons.mp hp with rfl | hp
      · exact .tail _ (.tail _ (.head _))
      rcases List.mem_append.mp hp with hp | hp
      · exact .tail _ (.tail _ (.tail _ (.tail _ (List.mem_append_left _ hp))))
      rcases List.mem_cons.mp hp with rfl | hp
      · exact .tail _ (.tail _ (.tail _ (.head _)))
      · exact .tail _ (.tail _ (.tail _ (.tail _ (List.mem_append_right _ (List.mem_append_left _ hp)))))
    refine TurnEndC.intro ((aRw, listOf (refs1 ++ [Value.ref aRow]).toArray nRw2) :: (am2, listOf mvs2.toArray nm2) :: ([(s₁.heap.objs.size + 1, o3), (s₁.heap.objs.size + 1 + 1 + 1, o1), (aS, listOf svs.toArray nS), (aZ, listOf zvs.toArray nZ), (aG, listOf gvs.toArray nG)] ++ ((aRow, listOf rvs2.toArray nr2) :: rowObjs))) F2 N2 (.head _) hd₁
      inN (fun p hp => .tail _ (.tail _ (.tail _ (.tail _ (List.mem_append_right [(s₁.heap.objs.size + 1, o3), (s₁.heap.objs.size + 1 + 1 + 1, o1), (aS, listOf svs.toArray nS), (aZ, listOf zvs.toArray nZ), (aG, listOf gvs.toArray nG)] (List.mem_append_right rowObjs hp)))))) ?_ ?_
      ⟨am2, mvs2, refs1 ++ [Value.ref aRow], nm2, nRw2, (aRow, listOf rvs2.toArray nr2) :: rowObjs, rows ++ [row], _, rfl, Nat.ne_of_gt l2, Nat.ne_of_gt l1, ?_, hm2, (hA1.mono fun p hp => .tail _ hp).snoc (.head _) hr2, c1, fun y y1 y2 => (c3 y y1 y2).trans (b2 y y1 y2), hMem.next z0 g0 (gapOf_length (getD_nonneg g0 i)) hrow hok, short_snoc hsh hrow3⟩
    · intro p hp b hb
      obtain ⟨q, hq, rfl⟩ := List.mem_map.mp hb
      rcases List.mem_cons.mp hq with rfl | hq
      · exact hsep p hp _ (.tail _ (.head _))
      rcases List.mem_cons.mp hq with rfl | hq
      · exact Nat.ne_of_lt (hown p hp).1
      rcases List.mem_append.mp hq with hq | hq
      · exact hsep p hp _ (.tail _ (List.mem_map.mpr ⟨q, .tail _ (.tail _ (List.mem_append_left _ hq)), rfl⟩))
      rcases List.mem_cons.mp hq with rfl | hq
      · exact (hown p hp).2
      · exact hsep p hp _ (.tail _ (List.mem_map.mpr ⟨q, .tail _ (.tail _ (List.mem_append_right _ hq)), rfl⟩))
    · intro b hb
      obtain ⟨q, hq, rfl⟩ := List.mem_map.mp hb
      rcases List.mem_cons.mp hq with rfl | hq
      · exact Ne.symm q1
      rcases List.mem_cons.mp hq with rfl | hq
      · exact Nat.ne_of_gt l1
      rcases List.mem_append.mp hq with hq | hq
      · exact hnc₁ q (.tail _ (.tail _ (List.mem_append_left _ hq)))
      rcases List.mem_cons.mp hq with rfl | hq
      · exact Ne.symm (off' _ (.head _))
      · exact hnc₁ q (.tail _ (.tail _ (List.mem_append_right _ hq)))
    · intro p hp
      rcases List.mem_cons.mp hp with rfl | hp
      · exact ⟨Ne.symm (off' _ (.tail _ (.head _))), Ne.symm (off' _ (.head _))⟩
      · exact a3 p hp
  · rintro m₁ news₁ h' tk' oc₁ v₁ hJ F₁ N₁ hd₁ hnc₁
    exact Leaves.of ⟨h', tk', m₁, news₁, oc₁, v₁, rfl, F₁, N₁, hd₁, hnc₁, hJ⟩
theorem starts_bounds {sizes gaps : List Int} {n : Nat} (z0 : ∀ x ∈ sizes, (0 : Int) ≤ x) (z3 : ∀ x ∈ sizes, x ≤ 3) (g0 : ∀ x ∈ gaps, (0 : Int) ≤ x) (g2 : ∀ x ∈ gaps, x ≤ 2) (hn : n ≤ 4) (k : Nat) :
    0 ≤ (startsOf sizes gaps n).getD k 0 ∧ (startsOf sizes gaps n).getD k 0 ≤ 30 := by
  by_cases hk : k < n
  · rw [startsOf_getD hk]
    have a1 := atOf_nonneg z0 g0 k
    have a2 := atOf_small z3 g2 k
    have a3 := getD_nonneg g0 k
    have a4 := getD_le g2 (by decide) k
    omega
  · rw [List.getD_eq_getElem?_getD, List.getElem?_eq_none (by rw [startsOf_length]; omega)]
    simp
/-- where the building loop begins -/
def At8 (s : Shared) (L : Addr) (m₀ : Str → Option Value) (led : List (Addr × Obj)) (s' : Shared) : Prop :=
  ∃ (h' : Heap) (tk : Nat) (m' : Str → Option Value) (aRw am : Addr) (nRw nm : Nat), s' = { s with heap := h', toks := tk } ∧ Fr s.heap L h' m' ∧ News s.heap L h' ((aRw, listOf (List.toArray []) nRw) :: (am, listOf (List.toArray []) nm) :: led) ∧
    m' (Str.ofString "mem") = some (.ref am) ∧ m' (Str.ofString "rows") = some (.ref aRw) ∧ (∀ y, y ≠ Str.ofString "mem" → y ≠ Str.ofString "rows" → m' y = m₀ y) ∧ AllLt am led ∧ AllLt aRw ((am, listOf (List.toArray []) nm) :: led)
theorem seg6 (w : World) (s₁ : Shared) (mg mb : Str → Option Value) (mean : ExcName → Option Value) (fa : Addr) (cd : Value)
    (KX : (hd.heap_39 w.params).In s₁.heap) (T : Top hd.view_39 (looseW hd.view_39 []) mean mg mb s₁.heap) (K0 : Below callerA s₁.heap [] s₁.heap)
    (l : Addr) (vs : List Value) (ns : List Int) (hl : s₁.heap.IsList l vs.toArray) (hi : IntsAre vs ns) (hlen : ns.length ≤ 63)
    (h : Heap) (tk : Nat) (u : Str → Option Value) (o1 o2 o3 : Obj) (v2 : Option Value) (aS aZ aG : Addr) (svs zvs gvs : List Value) (nS nZ nG : Nat) (sizes gaps : List Int) (tc : Tok)
    (F : Fr s₁.heap s₁.heap.objs.size h (fun y => if y = Str.ofString "count" then some (.int (sizes.length : Int) tc) else if y = Str.ofString "sizes" then some (.ref aZ) else if y = Str.ofString "gaps" then some (.ref aG) else u y))
    (N : News s₁.heap s₁.heap.objs.size h [(s₁.heap.objs.size + 1 + 1, o2), (s₁.heap.objs.size + 1, o3), (s₁.heap.objs.size + 1 + 1 + 1, o1), (aS, listOf svs.toArray nS), (aZ, listOf zvs.toArray nZ), (aG, listOf gvs.toArray nG)])
    (d2 : o2.data = .cell v2) (d1 : o1.data = .cell (some (.ref aS))) (d3 : o3.data = .cell (some (.ref l)))
    (r2 : @Ne Nat aS (s₁.heap.objs.size + 1 + 1)) (r3 : @Ne Nat aZ (s₁.heap.objs.size + 1 + 1)) (r4 : @Ne Nat aG (s₁.heap.objs.size + 1 + 1))
    (hs : IntsAre svs (startsOf sizes gaps sizes.length)) (hz : IntsAre zvs sizes) (hg : IntsAre gvs gaps)
    (e1 : gaps.length = sizes.length) (e3 : sizes.length ≤ 4) (z0 : ∀ x ∈ sizes, (0 : Int) ≤ x) (z3 : ∀ x ∈ sizes, x ≤ 3) (g0 : ∀ x ∈ gaps, (0 : Int) ≤ x) (g2 : ∀ x ∈ gaps, x ≤ 2) :
    wpAny (model PySem.Challenge.rw_k19_0015.row.prog w) (A0 s₁.heap.objs.size fa cd) (execs (lawBody.drop 6) (lawEnv s₁.heap.objs.size fa cd)) (Done s₁ s₁.heap.objs.size) (fun _ _ => False) { s₁ with heap := h, toks := tk } := by
  revert KX
  k_with_none
  w_top off
  k_fill
  intro KX
  have hMk := kstMark
  with_unfolding_all refine steps2 (At8 s₁ s₁.heap.objs.size (fun y => if y = Str.ofString "count" then some (.int (sizes.length : Int) tc) else if y = Str.ofString "sizes" then some (.ref aZ) else if y = Str.ofString "gaps" then some (.ref aG) else u y)
    [(s₁.heap.objs.size + 1 + 1, o2), (s₁.heap.objs.size + 1, o3), (s₁.heap.objs.size + 1 + 1 + 1, o1), (aS, listOf svs.toArray nS), (aZ, listOf zvs.toArray nZ), (aG, listOf gvs.toArray nG)]) ?_ ?_
  · k_steps
    refine Leaves.of ?_
    k_steps
    refine Leaves.of ⟨_, _, _, _, _, _, _, rfl, by assumption, by assumption, by with_unfolding_all rfl, by with_unfolding_all rfl, fun y h1 h2 => by rw [if_neg h2, if_neg h1], ?_, ?_⟩
    · simp only [AllLt, and_true]; assumption
    · simp only [AllLt, and_true]; assumption
  · rintro s' ⟨h1, tk1, m1, aRw, am, nRw, nm, rfl, F1, N1, f1, f2, fo, l1, l2⟩
    have l1' := kst_ltOf l1
    have l2' := kst_ltOf l2
    have N2 : News s₁.heap s₁.heap.objs.size h1 [(s₁.heap.objs.size + 1 + 1, o2), (aRw, listOf ([] : List Value).toArray nRw), (am, listOf ([] : List Value).toArray nm), (s₁.heap.objs.size + 1, o3), (s₁.heap.objs.size + 1 + 1 + 1, o1), (aS, listOf svs.toArray nS), (aZ, listOf zvs.toArray nZ), (aG, listOf gvs.toArray nG)] := by
      intro p hp
      rcases List.mem_cons.mp hp with rfl | hp
      · exact N1 _ (.tail _ (.tail _ (.head _)))
      rcases List.mem_cons.mp hp with rfl | hp
      · exact N1 _ (.head _)
      rcases List.mem_cons.mp hp with rfl | hp
      · exact N1 _ (.tail _ (.head _))
      · exact N1 _ (.tail _ (.tail _ (.tail _ hp)))
    have k1 : m1 (Str.ofString "sizes") = some (.ref aZ) := (fo _ (by decide) (by decide)).trans (by with_unfolding_all rfl)
    have k2 : m1 (Str.ofString "gaps") = some (.ref aG) := (fo _ (by decide) (by decide)).trans (by with_unfolding_all rfl)
    have k3 : m1 (Str.ofString "count") = some (.int (sizes.length : Int) tc) := (fo _ (by decide) (by decide)).trans (by with_unfolding_all rfl)
    have X := build_loop w s₁ mg mb mean fa cd KX T K0 l vs ns hl hi hlen h1 tk1 m1 o2 o1 o3 v2 am aRw aS aZ aG svs zvs gvs nm nS nZ nG nRw sizes gaps (startsOf sizes gaps sizes.length) tc F1 N2 d2 d1 d3 f1 f2 k1 k2 k3
      (Nat.ne_of_lt (l2' _ (.tail _ (.head _)))) (Nat.ne_of_lt (l2' _ (.head _))) (Nat.ne_of_lt (l2' _ (.tail _ (.tail _ (.head _))))) (Nat.ne_of_lt (l2' _ (.tail _ (.tail _ (.tail _ (.head _)))))) (Nat.ne_of_lt (l2' _ (.tail _ (.tail _ (.tail _ (.tail _ (.head _))))))) (Nat.ne_of_lt (l2' _ (.tail _ (.tail _ (.tail _ (.tail _ (.tail _ (.head _)))))))) (Nat.ne_of_lt (l2' _ (.tail _ (.tail _ (.tail _ (.tail _ (.tail _ (.tail _ (.head _)))))))))
      (Nat.ne_of_gt (l1' _ (.head _))) r2 r3 r4 hs hz hg e1 (by rw [startsOf_length]; exact e3) e3 z0 z3 g0 g2
    with_unfolding_all refine stepBy _ X ?_
    rintro s' ⟨h2, tk2, m2, news2, oc, v3, rfl, F2, N3, d22, hnc, am2, mvs, refs, nm2, nRw2, rowObjs, rows, M, rfl, a1, a2, a3, hm, hA, b1, b2, hMem, hsh⟩
    have hl5 : (startsOf sizes gaps sizes.length).length = sizes.length := startsOf_length _
    have c1 : m2 (Str.ofString "count") = some (.int ((startsOf sizes gaps sizes.length).length : Int) tc) := by rw [hl5]; exact (b2 _ (by decide) (by decide)).trans k3
    have c2 : m2 (Str.ofString "sizes") = some (.ref aZ) := (b2 _ (by decide) (by decide)).trans k1
    have c3 : m2 (Str.ofString "rows") = some (.ref aRw) := (b2 _ (by decide) (by decide)).trans f2
    rw [← say4 b1 c1 c2 c3] at F2
    have N4 : News s₁.heap s₁.heap.objs.size h2 ((s₁.heap.objs.size + 1, o3) :: (s₁.heap.objs.size + 1 + 1, oc) :: (s₁.heap.objs.size + 1 + 1 + 1, o1) :: (aS, listOf svs.toArray nS) :: (aZ, listOf zvs.toArray nZ) :: (aRw, listOf refs.toArray nRw2) :: (am2, listOf mvs.toArray nm2) :: rowObjs) := by
      intro p hp
      rcases List.mem_cons.mp hp with rfl | hp
      · exact N3 _ (.tail _ (.tail _ (.tail _ (.head _))))
      rcases List.mem_cons.mp hp with rfl | hp
      · exact N3 _ (.head _)
      rcases List.mem_cons.mp hp with rfl | hp
      · exact N3 _ (.tail _ (.tail _ (.tail _ (.tail _ (.head _)))))
      rcases List.mem_cons.mp hp with rfl | hp
      · exact N3 _ (.tail _ (.tail _ (.tail _ (.tail _ (.tail _ (.head _))))))
      rcases List.mem_cons.mp hp with rfl | hp
      · exact N3 _ (.tail _ (.tail _ (.tail _ (.tail _ (.tail _ (.tail _ (.head _)))))))
      rcases List.mem_cons.mp hp with rfl | hp
      · exact N3 _ (.tail _ (.head _))
      rcases List.mem_cons.mp hp with rfl | hp
      · exact N3 _ (.tail _ (.tail _ (.head _)))
      · exact N3 _ (.tail _ (.tail _ (.tail _ (.tail _ (.tail _ (.tail _ (.tail _ (.tail _ hp))))))))
    have n3 : ∀ p ∈ (s₁.heap.objs.size + 1 + 1 + 1, o1) :: (aS, listOf svs.toArray nS) :: (aZ, listOf zvs.toArray nZ) :: (aRw, listOf refs.toArray nRw2) :: rowObjs, @Ne Nat p.1 (s₁.heap.objs.size + 1 + 1) := by
      intro p hp
      rcases List.mem_cons.mp hp with rfl | hp
      · exact Nat.ne_of_gt (Nat.lt_succ_self _)
      rcases List.mem_cons.mp hp with rfl | hp
      · exact r2
      rcases List.mem_cons.mp hp with rfl | hp
      · exact r3
      rcases List.mem_cons.mp hp with rfl | hp
      · exact hnc _ (.head _)
      · exact (a3 p hp).2
    have hML : M.length ≤ 30 := by
      have := hMem.lenM
      have := atOf_small z3 g2 sizes.length
      omega
    exact seg9 w s₁ mg mb mean fa cd KX T K0 l vs ns hl hi hlen h2 tk2 m2 o1 oc o3 v3 am2 aS aZ aRw mvs svs zvs refs nm2 nS nZ nRw2 M sizes (startsOf sizes gaps sizes.length) rows rowObjs tc F2 N4 d22 d1 d3 n3 hm hs hz hA
      (fun tail R hR => hMem.sound z0 g0 rfl tail hR) hML (by rw [startsOf_length]; exact e3) hsh (starts_bounds z0 z3 g0 g2 e3)
theorem say3' {m : Str → Option Value} {x1 x2 x3 : Str} {v1 v2 v3 : Value} (e1 : m x1 = some v1) (e2 : m x2 = some v2) (e3 : m x3 = some v3) :
    (fun y => if y = x1 then some v1 else if y = x2 then some v2 else if y = x3 then some v3 else m y) = m := by
  funext y
  by_cases h1 : y = x1
  · rw [if_pos h1, h1, e1]
  rw [if_neg h1]
  by_cases h2 : y = x2
  · rw [if_pos h2, h2, e2]
  rw [if_neg h2]
  by_cases h3 : y = x3
  · rw [if_pos h3, h3, e3]
  rw [if_neg h3]
/-- what one turn of the first loop leaves -/
structure StartPost (h₀ : Heap) (L : Addr) (s : Shared) (m : Str → Option Value) (c2 : Addr) (oc : Obj) (aS : Addr) (fix : List (Addr × Obj)) (sizes gaps : List Int) (k : Nat) (st : List Int) (a : Int) (f : Flow) (s' : Shared) : Prop where
  next : f = .next
  ex : ∃ (h' : Heap) (tk : Nat) (m' : Str → Option Value) (svs : List Value) (nS : Nat) (ta : Tok), s' = { s with heap := h', toks := tk } ∧ Fr h₀ L h' m' ∧ News h₀ L h' ((c2, oc) :: (aS, listOf (List.toArray svs) nS) :: fix) ∧
    IntsAre svs (st ++ [a + gaps.getD k 0]) ∧ m' (Str.ofString "at") = some (.int (a + gaps.getD k 0 + 1 + sizes.getD k 0) ta) ∧ ∀ y, y ≠ Str.ofString "at" → m' y = m y
theorem StartPost.of {h₀ : Heap} {L : Addr} {s : Shared} {m : Str → Option Value} {c2 : Addr} {oc : Obj} {aS : Addr} {fix : List (Addr × Obj)} {sizes gaps : List Int} {k : Nat} {st : List Int} {a : Int} {h' : Heap} {tk : Nat} {svs : List Value} {nS : Nat} {ta tb : Tok}
    (F : Fr h₀ L h' (fun y => if y = Str.ofString "at" then some (.int (a + gaps.getD k 0 + 1 + sizes.getD k 0) ta) else m y)) (N : News h₀ L h' ((c2, oc) :: (aS, listOf (svs.toArray.push (.int (a + gaps.getD k 0) tb)) nS) :: fix)) (hs : IntsAre svs st) :
    StartPost h₀ L s m c2 oc aS fix sizes gaps k st a .next { s with heap := h', toks := tk } := by
  rw [List.push_toArray] at N
  refine ⟨rfl, h', tk, _, svs ++ [.int (a + gaps.getD k 0) tb], nS, ta, rfl, F, N, IntsAre.append hs (.cons _ _ .nil), ?_, ?_⟩
  · rw [if_pos rfl]
  · intro y hy
    rw [if_neg hy]
theorem start_turn (w : World) (s₁ : Shared) (mg mb : Str → Option Value) (mean : ExcName → Option Value) (fa : Addr) (cd : Value)
    (KX : (hd.heap_39 w.params).In s₁.heap) (T : Top hd.view_39 (looseW hd.view_39 []) mean mg mb s₁.heap) (K0 : Below callerA s₁.heap [] s₁.heap)
    (h : Heap) (tk : Nat) (u : Str → Option Value) (oc o1 o3 : Obj) (aS aZ aG : Addr) (svs zvs gvs : List Value) (nS nZ nG : Nat) (sizes gaps st : List Int) (rest : List (Addr × Obj)) (k : Nat) (t : Tok) (a : Int) (ta : Tok)
    (F : Fr s₁.heap s₁.heap.objs.size h (fun y => if y = Str.ofString "at" then some (.int a ta) else if y = Str.ofString "sizes" then some (.ref aZ) else if y = Str.ofString "gaps" then some (.ref aG) else u y))
    (N : News s₁.heap s₁.heap.objs.size h ((s₁.heap.objs.size + 1 + 1, oc) :: (aS, listOf svs.toArray nS) :: (s₁.heap.objs.size + 1, o3) :: (s₁.heap.objs.size + 1 + 1 + 1, o1) :: (aZ, listOf zvs.toArray nZ) :: (aG, listOf gvs.toArray nG) :: rest))
    (d2 : oc.data = .cell (some (.int (k : Int) t))) (d1 : o1.data = .cell (some (.ref aS)))
    (q1 : @Ne Nat (s₁.heap.objs.size + 1 + 1) aS) (q3 : @Ne Nat (s₁.heap.objs.size + 1) aS) (q4 : @Ne Nat (s₁.heap.objs.size + 1 + 1 + 1) aS) (q6 : @Ne Nat aZ aS) (q7 : @Ne Nat aG aS) (q8 : OwnOff rest [aS])
    (hs : IntsAre svs st) (hz : IntsAre zvs sizes) (hg : IntsAre gvs gaps) (hst : st.length ≤ 4) (hk : (k : Int) < sizes.length) (hk' : (k : Int) < gaps.length) (hz4 : sizes.length ≤ 4) :
    wpAny (model PySem.Challenge.rw_k19_0015.row.prog w) (A0 s₁.heap.objs.size fa cd) (execs startBody (lawEnv s₁.heap.objs.size fa cd))
      (StartPost s₁.heap s₁.heap.objs.size s₁ (fun y => if y = Str.ofString "at" then some (.int a ta) else if y = Str.ofString "sizes" then some (.ref aZ) else if y = Str.ofString "gaps" then some (.ref aG) else u y)
        (s₁.heap.objs.size + 1 + 1) oc aS ((s₁.heap.objs.size + 1, o3) :: (s₁.heap.objs.size + 1 + 1 + 1, o1) :: (aZ, listOf zvs.toArray nZ) :: (aG, listOf gvs.toArray nG) :: rest) sizes gaps k st a) (fun _ _ => False) { s₁ with heap := h, toks := tk } := by
  revert KX
  k_with_none
  w_top off
  k_fill
  intro KX
  have hMk := kstMark
  have hk0 : (0 : Int) ≤ (k : Int) := Int.natCast_nonneg k
  with_unfolding_all refine wpAny_execs_cons ?_
  k_steps
  exact StartPost.of (by assumption) (by assumption) hs
/-- what the first loop keeps -/
def StartJ (sizes gaps : List Int) (m₀ : Str → Option Value) (aS : Addr) (fix : List (Addr × Obj)) (k : Nat) (m : Str → Option Value) (news : List (Addr × Obj)) : Prop :=
  ∃ (svs : List Value) (nS : Nat) (ta : Tok), news = (aS, listOf (List.toArray svs) nS) :: fix ∧ IntsAre svs (startsOf sizes gaps k) ∧ m (Str.ofString "at") = some (.int (atOf sizes gaps k) ta) ∧ ∀ y, y ≠ Str.ofString "at" → m y = m₀ y
def StartDone (s : Shared) (L : Addr) (sizes gaps : List Int) (m₀ : Str → Option Value) (c2 aS : Addr) (fix : List (Addr × Obj)) (n : Nat) (s' : Shared) : Prop :=
  ∃ (h' : Heap) (tk : Nat) (m' : Str → Option Value) (news' : List (Addr × Obj)) (oc : Obj) (v : Option Value), s' = { s with heap := h', toks := tk } ∧ Fr s.heap L h' m' ∧ News s.heap L h' ((c2, oc) :: news') ∧ oc.data = .cell v ∧ (∀ p ∈ news', p.1 ≠ c2) ∧ StartJ sizes gaps m₀ aS fix n m' news'
theorem start_loop (w : World) (s₁ : Shared) (mg mb : Str → Option Value) (mean : ExcName → Option Value) (fa : Addr) (cd : Value)
    (KX : (hd.heap_39 w.params).In s₁.heap) (T : Top hd.view_39 (looseW hd.view_39 []) mean mg mb s₁.heap) (K0 : Below callerA s₁.heap [] s₁.heap)
    (h : Heap) (tk : Nat) (m : Str → Option Value) (oc o1 o3 : Obj) (v2 : Option Value) (aS aZ aG : Addr) (zvs gvs : List Value) (nS nZ nG : Nat) (sizes gaps : List Int) (tc ta : Tok)
    (F : Fr s₁.heap s₁.heap.objs.size h m)
    (N : News s₁.heap s₁.heap.objs.size h [(s₁.heap.objs.size + 1 + 1, oc), (aS, listOf ([] : List Value).toArray nS), (s₁.heap.objs.size + 1, o3), (s₁.heap.objs.size + 1 + 1 + 1, o1), (aZ, listOf zvs.toArray nZ), (aG, listOf gvs.toArray nG)])
    (d2 : oc.data = .cell v2) (d1 : o1.data = .cell (some (.ref aS)))
    (f1 : m (Str.ofString "at") = some (.int 0 ta)) (f3 : m (Str.ofString "sizes") = some (.ref aZ)) (f4 : m (Str.ofString "gaps") = some (.ref aG)) (f5 : m (Str.ofString "count") = some (.int (sizes.length : Int) tc))
    (q1 : @Ne Nat (s₁.heap.objs.size + 1 + 1) aS) (q3 : @Ne Nat (s₁.heap.objs.size + 1) aS) (q4 : @Ne Nat (s₁.heap.objs.size + 1 + 1 + 1) aS) (q6 : @Ne Nat aZ aS) (q7 : @Ne Nat aG aS)
    (r3 : @Ne Nat aZ (s₁.heap.objs.size + 1 + 1)) (r4 : @Ne Nat aG (s₁.heap.objs.size + 1 + 1))
    (hz : IntsAre zvs sizes) (hg : IntsAre gvs gaps) (e1 : gaps.length = sizes.length) (e3 : sizes.length ≤ 4) :
    wpAny (model PySem.Challenge.rw_k19_0015.row.prog w) (A0 s₁.heap.objs.size fa cd) (exec (defAt 5 lawBody) (lawEnv s₁.heap.objs.size fa cd))
      (Leaves (StartDone s₁ s₁.heap.objs.size sizes gaps m (s₁.heap.objs.size + 1 + 1) aS [(s₁.heap.objs.size + 1, o3), (s₁.heap.objs.size + 1 + 1 + 1, o1), (aZ, listOf zvs.toArray nZ), (aG, listOf gvs.toArray nG)] sizes.length)) (fun _ _ => False) { s₁ with heap := h, toks := tk } := by
  revert KX
  k_with_none
  w_top off
  k_fill
  intro KX
  rw [← say_eq f5] at F
  have hMk := kstMark
  have hid : PLift (sizes.length ≤ 4) := ⟨e3⟩
  clear e3
  with_unfolding_all refine For_cell (x := Str.ofString "j") (c := s₁.heap.objs.size + 1 + 1) (h₀ := s₁.heap) rfl rfl rfl ?_
  iterate 12 (first | (with_reducible show wpAny _ _ (pyIter (Value.ref _)) _ _ _) | walk1)
  have e3 := hid.down
  rename IsRange _ _ _ _ _ _ _ _ => rg
  rename Fr _ _ _ _ => F9
  rename News _ _ _ _ => N9
  rw [say_eq f5] at F9
  refine range_cell (n := sizes.length) (StartJ sizes gaps m aS [(s₁.heap.objs.size + 1, o3), (s₁.heap.objs.size + 1 + 1 + 1, o1), (aZ, listOf zvs.toArray nZ), (aG, listOf gvs.toArray nG)])
    rfl rg (small_one (by omega) (by omega) (by omega) (by omega)) (by rw [rangeSize_nat]; omega) F9 N9 d2 ?_ ⟨[], nS, ta, rfl, .nil, f1, fun _ _ => rfl⟩ ?_ ?_
  · intro p hp
    rcases List.mem_cons.mp hp with rfl | hp
    · exact Ne.symm q1
    rcases List.mem_cons.mp hp with rfl | hp
    · exact Nat.ne_of_lt (Nat.lt_succ_self _)
    rcases List.mem_cons.mp hp with rfl | hp
    · exact Nat.ne_of_gt (Nat.lt_succ_self _)
    rcases List.mem_cons.mp hp with rfl | hp
    · exact r3
    rw [List.mem_singleton.mp hp]
    exact r4
  · rintro i k t m₁ news₁ h' tk' own oc₁ hi' rfl ⟨svs1, nS1, ta1, rfl, hs1, b1, b2⟩ hsep hnc₁ hd₁ F₁ N₁
    have w2 : m₁ (Str.ofString "sizes") = some (.ref aZ) := (b2 _ (by decide)).trans f3
    have w3 : m₁ (Str.ofString "gaps") = some (.ref aG) := (b2 _ (by decide)).trans f4
    have ec := say3' b1 w2 w3
    rw [Int.zero_add] at hd₁
    have X := start_turn w s₁ mg mb mean fa cd KX T K0 h' tk' m₁ oc₁ o1 o3 aS aZ aG svs1 zvs gvs nS1 nZ nG sizes gaps (startsOf sizes gaps i) own i t (atOf sizes gaps i) ta1 (by rw [ec]; exact F₁) N₁ hd₁ d1 q1 q3 q4 q6 q7
      (fun p hp b hb => by
        rw [List.mem_singleton.mp hb]
        exact hsep p hp _ (.tail _ (.head _)))
      hs1 hz hg (by rw [startsOf_length]; omega) (by omega) (by omega) e3
    rw [ec] at X
    refine wpAny_mono X (fun f s' hp => ?_) (fun _ _ e => e.elim)
    obtain ⟨rfl, h2, tk2, m2, svs2, nS2, ta2, rfl, F2, N2, hs2, c1, c3⟩ := hp
    refine TurnEndC.intro ((aS, listOf svs2.toArray nS2) :: [(s₁.heap.objs.size + 1, o3), (s₁.heap.objs.size + 1 + 1 + 1, o1), (aZ, listOf zvs.toArray nZ), (aG, listOf gvs.toArray nG)]) F2 N2 (.head _) hd₁
      (fun p hp => .tail _ (List.mem_append_left own hp)) (fun p hp => .tail _ (List.mem_append_right ((aS, listOf svs2.toArray nS2) :: [(s₁.heap.objs.size + 1, o3), (s₁.heap.objs.size + 1 + 1 + 1, o1), (aZ, listOf zvs.toArray nZ), (aG, listOf gvs.toArray nG)]) hp)) ?_ ?_
      ⟨svs2, nS2, ta2, rfl, by rw [startsOf_succ]; exact hs2, c1, fun y y1 => (c3 y y1).trans (b2 y y1)⟩
    · intro p hp b hb
      exact hsep p hp _ (.tail _ hb)
    · intro b hb
      obtain ⟨q, hq, rfl⟩ := List.mem_map.mp hb
      rcases List.mem_cons.mp hq with rfl | hq
      · exact Ne.symm q1
      · exact hnc₁ q (.tail _ hq)
  · rintro m₁ news₁ h' tk' oc₁ v₁ hJ F₁ N₁ hd₁ hnc₁
    exact Leaves.of ⟨h', tk', m₁, news₁, oc₁, v₁, rfl, F₁, N₁, hd₁, hnc₁, hJ⟩
section
variable {prog : Program} {w : World} {A : Around} {E : Value → Shared → Prop} {s : Shared} {env : Env} {Q : Flow → Shared → Prop}
theorem steps5 {a b c d e : Stmt} {rest : List Stmt} (P : Shared → Prop) (h1 : wpAny (model prog w) A (exec a env) (Leaves fun s1 => wpAny (model prog w) A (exec b env) (Leaves fun s2 => wpAny (model prog w) A (exec c env) (Leaves fun s3 => wpAny (model prog w) A (exec d env) (Leaves fun s4 => wpAny (model prog w) A (exec e env) (Leaves P) E s4) E s3) E s2) E s1) E s)
    (h2 : ∀ s', P s' → wpAny (model prog w) A (execs rest env) Q E s') : wpAny (model prog w) A (execs (a :: b :: c :: d :: e :: rest) env) Q E s :=
  stepBy _ h1 fun _ h => stepBy _ h fun _ h => steps3 P h h2
end
/-- where the first loop begins -/
def At5 (s : Shared) (L : Addr) (o2 o3 : Obj) (s' : Shared) : Prop :=
  ∃ (h' : Heap) (tk : Nat) (m' : Str → Option Value) (o1 : Obj) (aS aZ aG : Addr) (zvs gvs : List Value) (nS nZ nG : Nat) (sizes gaps : List Int) (tc ta : Tok), s' = { s with heap := h', toks := tk } ∧ Fr s.heap L h' m' ∧
    News s.heap L h' [(L + 1 + 1, o2), (aS, listOf ([] : List Value).toArray nS), (L + 1, o3), (L + 1 + 1 + 1, o1), (aZ, listOf zvs.toArray nZ), (aG, listOf gvs.toArray nG)] ∧ o1.data = .cell (some (.ref aS)) ∧
    m' (Str.ofString "at") = some (.int 0 ta) ∧ m' (Str.ofString "sizes") = some (.ref aZ) ∧ m' (Str.ofString "gaps") = some (.ref aG) ∧ m' (Str.ofString "count") = some (.int (sizes.length : Int) tc) ∧
    (@Ne Nat (L + 1 + 1) aS ∧ @Ne Nat (L + 1) aS ∧ @Ne Nat (L + 1 + 1 + 1) aS ∧ @Ne Nat aZ aS ∧ @Ne Nat aG aS ∧ @Ne Nat aZ (L + 1 + 1) ∧ @Ne Nat aG (L + 1 + 1)) ∧
    IntsAre zvs sizes ∧ IntsAre gvs gaps ∧ gaps.length = sizes.length ∧ sizes.length ≤ 4 ∧ (∀ x ∈ sizes, (0 : Int) ≤ x) ∧ (∀ x ∈ sizes, x ≤ 3) ∧ (∀ x ∈ gaps, (0 : Int) ≤ x) ∧ (∀ x ∈ gaps, x ≤ 2)
theorem fmod4_lo (a : Int) : 0 ≤ Int.fmod a 4 := Int.fmod_nonneg_of_pos _ (by decide)
theorem fmod4_hi (a : Int) : Int.fmod a 4 ≤ 3 := by have := Int.fmod_lt_of_pos a (b := 4) (by decide); omega
theorem At5.of {s : Shared} {L : Addr} {o1 o2 o3 : Obj} {h' : Heap} {tk : Nat} {m' : Str → Option Value} {aS aZ aG : Addr} {zvs gvs : List Value} {nS : Nat} {c : Int} {fz fg : Int → Int} {tc ta : Tok}
    (F : Fr s.heap L h' m') (N : News s.heap L h' [(aS, listOf ([] : List Value).toArray nS), (aG, LCg.lst gvs), (aZ, LCg.lst zvs), (L + 1 + 1 + 1, o1), (L + 1 + 1, o2), (L + 1, o3)]) (d : o1.data = .cell (some (.ref aS)))
    (hz : IntsAre zvs ((rangeKs 0 (c - 0).toNat).map fun k => (fz k).fmod 4)) (hg : IntsAre gvs ((rangeKs 0 (c - 0).toNat).map fun k => (fg k).fmod 3)) (h0 : 0 ≤ c) (h5 : c < 5)
    (f1 : m' (Str.ofString "at") = some (.int 0 ta)) (f2 : m' (Str.ofString "sizes") = some (.ref aZ)) (f3 : m' (Str.ofString "gaps") = some (.ref aG)) (f4 : m' (Str.ofString "count") = some (.int c tc))
    (l1 : @LT.lt Nat _ aG aS ∧ @LT.lt Nat _ aZ aS ∧ @LT.lt Nat _ (L + 1 + 1 + 1) aS ∧ @LT.lt Nat _ (L + 1 + 1) aS ∧ @LT.lt Nat _ (L + 1) aS) (oZ : @Ne Nat (L + 1 + 1 + 1) aZ ∧ @Ne Nat (L + 1 + 1) aZ ∧ @Ne Nat (L + 1) aZ) (oG : @Ne Nat aZ aG ∧ @Ne Nat (L + 1 + 1 + 1) aG ∧ @Ne Nat (L + 1 + 1) aG ∧ @Ne Nat (L + 1) aG) :
    At5 s L o2 o3 { s with heap := h', toks := tk } := by
  have hlen : ((rangeKs 0 (c - 0).toNat).map fun k => (fz k).fmod 4).length = (c - 0).toNat := by rw [List.length_map, rangeKs_length]
  have hcast : ((((rangeKs 0 (c - 0).toNat).map fun k => (fz k).fmod 4).length : Nat) : Int) = c := by rw [hlen]; omega
  refine ⟨h', tk, m', o1, aS, aZ, aG, zvs, gvs, nS, zvs.length, gvs.length, _, _, tc, ta, rfl, F, fun p hp => ?_, d, f1, f2, f3, by rw [hcast]; exact f4,
    ⟨Nat.ne_of_lt l1.2.2.2.1, Nat.ne_of_lt l1.2.2.2.2, Nat.ne_of_lt l1.2.2.1, Nat.ne_of_lt l1.2.1, Nat.ne_of_lt l1.1, Ne.symm oZ.2.1, Ne.symm oG.2.2.1⟩, hz, hg, by rw [List.length_map, List.length_map], by rw [hlen]; omega, ?_, ?_, ?_, ?_⟩
  · rcases List.mem_cons.mp hp with rfl | hp
    · exact N _ (.tail _ (.tail _ (.tail _ (.tail _ (.head _)))))
    rcases List.mem_cons.mp hp with rfl | hp
    · exact N _ (.head _)
    rcases List.mem_cons.mp hp with rfl | hp
    · exact N _ (.tail _ (.tail _ (.tail _ (.tail _ (.tail _ (.head _))))))
    rcases List.mem_cons.mp hp with rfl | hp
    · exact N _ (.tail _ (.tail _ (.tail _ (.head _))))
    rcases List.mem_cons.mp hp with rfl | hp
    · exact N _ (.tail _ (.tail _ (.head _)))
    · rw [List.mem_singleton.mp hp]
      exact N _ (.tail _ (.head _))
  · intro x hx
    obtain ⟨k, _, rfl⟩ := List.mem_map.mp hx
    exact fmod4_lo _
  · intro x hx
    obtain ⟨k, _, rfl⟩ := List.mem_map.mp hx
    exact fmod4_hi _
  · intro x hx
    obtain ⟨k, _, rfl⟩ := List.mem_map.mp hx
    exact fmod3_lo _
  · intro x hx
    obtain ⟨k, _, rfl⟩ := List.mem_map.mp hx
    exact fmod3_hi _
theorem law_body0 (w : World) (s₁ : Shared) (mg mb : Str → Option Value) (mean : ExcName → Option Value) (fa : Addr) (cd : Value) (ns : List Int) (l : Addr) (vs : List Value) (h₁ : Heap) (tk₁ : Nat) (o1 o2 o3 : Obj)
    (KX : (hd.heap_39 w.params).In s₁.heap) (T : Top hd.view_39 (looseW hd.view_39 []) mean mg mb s₁.heap) (K0 : Below callerA s₁.heap [] s₁.heap) (hl : s₁.heap.IsList l vs.toArray) (hi : IntsAre vs ns) (hlen : ns.length ≤ 63)
    (F : Fr s₁.heap s₁.heap.objs.size h₁ (fun _ => none)) (N : News s₁.heap s₁.heap.objs.size h₁ [(s₁.heap.objs.size + 1 + 1 + 1, o1), (s₁.heap.objs.size + 1 + 1, o2), (s₁.heap.objs.size + 1, o3)])
    (d1 : o1.data = .cell none) (d2 : o2.data = .cell none) (d3 : o3.data = .cell (some (.ref l))) :
    wpAny (model PySem.Challenge.rw_k19_0015.row.prog w) (A0 s₁.heap.objs.size fa cd) (execs lawBody (lawEnv s₁.heap.objs.size fa cd)) (Done s₁ s₁.heap.objs.size) (fun _ _ => False) { s₁ with heap := h₁, toks := tk₁ } := by
  revert KX
  k_with_none
  w_top off
  k_fill
  intro KX
  have hMk := kstMark
  with_unfolding_all refine steps5 (At5 s₁ s₁.heap.objs.size o2 o3) ?_ ?_
  · k_steps
    refine Leaves.of ?_
    k_steps
    refine Leaves.of ?_
    k_steps
    refine Leaves.of ?_
    k_steps
    refine Leaves.of ?_
    k_steps
    exact Leaves.of (At5.of (c := (cellAt ns 0 0).fmod 5) (fz := fun k' => cellAt ns (1 + k') 0) (fg := fun k' => (cellAt ns (1 + k') 0).fdiv 4) (by assumption) (by assumption) (by assumption) (by assumption) (by assumption) (by assumption) (by assumption) (by with_unfolding_all rfl) (by with_unfolding_all rfl) (by with_unfolding_all rfl) (by with_unfolding_all rfl) (by assumption) (by assumption) (by assumption))
  · rintro s' ⟨h1, tk1, m1, o1', aS, aZ, aG, zvs, gvs, nS, nZ, nG, sizes, gaps, tc, ta, rfl, F1, N1, d1', f1, f2, f3, f4, ⟨q1, q3, q4, q6, q7, r3, r4⟩, hz, hg, e1, e3, z0, z3, g0, g2⟩
    have X := start_loop w s₁ mg mb mean fa cd KX T K0 h1 tk1 m1 o2 o1' o3 none aS aZ aG zvs gvs nS nZ nG sizes gaps tc ta F1 N1 d2 d1' f1 f2 f3 f4 q1 q3 q4 q6 q7 r3 r4 hz hg e1 e3
    with_unfolding_all refine stepBy _ X ?_
    rintro s' ⟨h2, tk2, m2, news2, oc, v3, rfl, F2, N2, d22, hnc, svs, nS2, ta2, rfl, hs, b1, b2⟩
    have c1 : m2 (Str.ofString "count") = some (.int (sizes.length : Int) tc) := (b2 _ (by decide)).trans f4
    have c2 : m2 (Str.ofString "sizes") = some (.ref aZ) := (b2 _ (by decide)).trans f2
    have c3 : m2 (Str.ofString "gaps") = some (.ref aG) := (b2 _ (by decide)).trans f3
    rw [← say3 c1 c2 c3] at F2
    have N3 : News s₁.heap s₁.heap.objs.size h2 [(s₁.heap.objs.size + 1 + 1, oc), (s₁.heap.objs.size + 1, o3), (s₁.heap.objs.size + 1 + 1 + 1, o1'), (aS, listOf svs.toArray nS2), (aZ, listOf zvs.toArray nZ), (aG, listOf gvs.toArray nG)] := by
      intro p hp
      rcases List.mem_cons.mp hp with rfl | hp
      · exact N2 _ (.head _)
      rcases List.mem_cons.mp hp with rfl | hp
      · exact N2 _ (.tail _ (.tail _ (.head _)))
      rcases List.mem_cons.mp hp with rfl | hp
      · exact N2 _ (.tail _ (.tail _ (.tail _ (.head _))))
      rcases List.mem_cons.mp hp with rfl | hp
      · exact N2 _ (.tail _ (.head _))
      · exact N2 _ (.tail _ (.tail _ (.tail _ (.tail _ hp))))
    exact seg6 w s₁ mg mb mean fa cd KX T K0 l vs ns hl hi hlen h2 tk2 m2 o1' oc o3 v3 aS aZ aG svs zvs gvs nS2 nZ nG sizes gaps tc F2 N3 d22 d1' d3 (Ne.symm q1) r3 r4 hs hz hg e1 e3 z0 z3 g0 g2
end Mine
set_option maxRecDepth 100000 in
set_option maxHeartbeats 8000000 in
theorem PySem.Challenge.cw_k19_0015_holds : PySem.Challenge.rw_k19_0015.Holds := by
  k_with_none
  refine Mine.hd ?_
  k_go0
  with_unfolding_all refine wpAny_mono (Mine.law_body0 _ _ _ _ _ _ _ _ _ _ _ _ _ _ _ (by assumption) (by assumption) (by assumption) (by assumption) (by assumption) (by omega) (by with_unfolding_all assumption) (by with_unfolding_all assumption) (by with_unfolding_all assumption) (by with_unfolding_all assumption) (by with_unfolding_all assumption)) (fun f s' h => ?_) (fun _ _ e => e.elim)
  obtain ⟨rfl, h', tk, m', rfl, F'⟩ := h
  wrow_close
