import PyProof.Rows.All
import Wide.All
import OpenK.AllK
import Wide.FinOn
import HandS.ForMost
import HandS.Style
import HandS.Flow
import HandS.IsInst
import HandS.Star
import HandS.Strs
import HandS.SetFor
import HandS.SortInts
import HandS.SortRule
import HandS.TupLen
import HandS.Zip
import HandS.Conv
import HandS.Defaults
import HandS.Codes
import HandS.TupSets
import KE.KDictKeyed
import KE.KDictCopyH
import KE.KDictWalk
import KE.KDictList
import PyProof.ReprRoads
import HandS.Walk
import KE.GoesNew
import KE.GoesMore
import HandS.More
import HandS.Small
import PyProof.ReprLen
import PyProof.Rows.StrJoinMade
import PySem.Challenge.RW_priceblind_k06_whole_what_may_lie_anywhe
set_option Elab.async false
set_option linter.all false
set_option maxRecDepth 100000
set_option maxHeartbeats 4000000
namespace K06
abbrev Pl := Int × Int
section
variable {κ ν : Type} [DecidableEq κ]
def look (m : List (κ × ν)) (k : κ) : Option ν := (m.find? fun p => decide (p.1 = k)).map (·.2)
def put (m : List (κ × ν)) (k : κ) (v : ν) : List (κ × ν) :=
  if (m.any fun p => decide (p.1 = k)) = true then m.map (fun p => if p.1 = k then (p.1, v) else p) else m ++ [(k, v)]
def keysOf (m : List (κ × ν)) : List κ := m.map (·.1)

theorem look_nil (k : κ) : look ([] : List (κ × ν)) k = none := rfl
theorem look_cons (p : κ × ν) (m : List (κ × ν)) (k : κ) : look (p :: m) k = if p.1 = k then some p.2 else look m k := by
  unfold look
  by_cases h : p.1 = k <;> simp [List.find?_cons, h]
theorem any_key (m : List (κ × ν)) (k : κ) : (m.any fun p => decide (p.1 = k)) = true ↔ k ∈ keysOf m := by
  simp [keysOf, List.any_eq_true]
theorem look_none {m : List (κ × ν)} {k : κ} : look m k = none ↔ k ∉ keysOf m := by
  induction m with
  | nil => simp [look_nil, keysOf]
  | cons p m ih =>
    rw [look_cons]
    by_cases h : p.1 = k
    · simp [h, keysOf]
    · rw [if_neg h, ih]
      simp [keysOf, Ne.symm h]
theorem look_append (m m' : List (κ × ν)) (k : κ) : look (m ++ m') k = (look m k).or (look m' k) := by
  induction m with
  | nil => simp [look_nil]
  | cons p m ih =>
    rw [List.cons_append, look_cons, look_cons, ih]
    by_cases h : p.1 = k <;> simp [h]
theorem look_map (m : List (κ × ν)) (k j : κ) (v : ν) : look (m.map fun p => if p.1 = k then (p.1, v) else p) j = if j = k then (look m k).map (fun _ => v) else look m j := by
  induction m with
  | nil => by_cases h : j = k <;> simp [look_nil, h]
  | cons p m ih =>
    rw [List.map_cons, look_cons, look_cons, look_cons, ih]
    by_cases h : p.1 = k
    · rw [if_pos h]
      dsimp only
      by_cases h2 : j = k
      · rw [if_pos (by rw [h, h2]), if_pos h2, if_pos h]; rfl
      · have h3 : ¬ p.1 = j := fun e => h2 (e.symm.trans h)
        rw [if_neg h3, if_neg h2, if_neg h2, if_neg h3]
    · rw [if_neg h, if_neg h]
      by_cases h2 : j = k
      · subst h2
        rw [if_neg h, if_pos rfl, if_pos rfl]
      · rw [if_neg h2, if_neg h2]
theorem look_put (m : List (κ × ν)) (k j : κ) (v : ν) : look (put m k v) j = if j = k then some v else look m j := by
  unfold put
  by_cases h : (m.any fun p => decide (p.1 = k)) = true
  · rw [if_pos h, look_map]
    by_cases h2 : j = k
    · rw [if_pos h2, if_pos h2]
      have h3 := (any_key m k).mp h
      cases e : look m k with
      | none => exact absurd h3 (look_none.mp e)
      | some x => rfl
    · rw [if_neg h2, if_neg h2]
  · rw [if_neg h, look_append, look_cons]
    by_cases h2 : j = k
    · have h3 : look m j = none := look_none.mpr fun hm => h ((any_key m k).mpr (h2 ▸ hm))
      rw [h3, if_pos h2.symm, if_pos h2]; rfl
    · rw [if_neg (Ne.symm h2), if_neg h2, look_nil]
      cases look m j <;> rfl
theorem keys_map (m : List (κ × ν)) (k : κ) (v : ν) : keysOf (m.map fun p => if p.1 = k then (p.1, v) else p) = keysOf m := by
  unfold keysOf
  rw [List.map_map]
  refine List.map_congr_left fun p _ => ?_
  by_cases h : p.1 = k <;> simp [h]
theorem mem_keys_put {m : List (κ × ν)} {k j : κ} {v : ν} : j ∈ keysOf (put m k v) ↔ j = k ∨ j ∈ keysOf m := by
  unfold put
  by_cases h : (m.any fun p => decide (p.1 = k)) = true
  · rw [if_pos h, keys_map]
    have h3 := (any_key m k).mp h
    exact ⟨.inr, fun e => e.elim (fun q => q ▸ h3) id⟩
  · rw [if_neg h]
    simp [keysOf, or_comm]
theorem nodup_put {m : List (κ × ν)} (k : κ) (v : ν) (hn : (keysOf m).Nodup) : (keysOf (put m k v)).Nodup := by
  unfold put
  by_cases h : (m.any fun p => decide (p.1 = k)) = true
  · rw [if_pos h, keys_map]; exact hn
  · rw [if_neg h]
    have h3 : k ∉ keysOf m := fun hm => h ((any_key m k).mpr hm)
    unfold keysOf at *
    rw [List.map_append, List.nodup_append]
    refine ⟨hn, by simp, fun a ha b hb => ?_⟩
    simp only [List.map_cons, List.map_nil, List.mem_singleton] at hb
    subst hb
    exact fun e => h3 (e ▸ ha)
theorem length_put (m : List (κ × ν)) (k : κ) (v : ν) : (put m k v).length ≤ m.length + 1 := by
  unfold put
  split
  · rw [List.length_map]; omega
  · simp
theorem look_mem {m : List (κ × ν)} (hn : (keysOf m).Nodup) {k : κ} {v : ν} : (k, v) ∈ m ↔ look m k = some v := by
  induction m with
  | nil => simp [look_nil]
  | cons p m ih =>
    have hn' : p.1 ∉ keysOf m ∧ (keysOf m).Nodup := List.nodup_cons.mp hn
    rw [look_cons, List.mem_cons, ih hn'.2]
    by_cases h : p.1 = k
    · rw [if_pos h]
      constructor
      · rintro (e | e)
        · rw [← e]
        · exact absurd (look_none.mpr (h ▸ hn'.1)) (by rw [e]; simp)
      · intro e
        left
        rw [← h, ← Option.some.inj e]
    · rw [if_neg h]
      constructor
      · rintro (e | e)
        · rw [← e] at h; exact absurd rfl h
        · exact e
      · exact .inr
/-- land strokes, one behind another -/
def land (m : List (κ × ν)) (ss : List (κ × ν)) : List (κ × ν) := ss.foldl (fun m s => put m s.1 s.2) m
theorem land_cons (m : List (κ × ν)) (s : κ × ν) (ss : List (κ × ν)) : land m (s :: ss) = land (put m s.1 s.2) ss := rfl
theorem land_snoc (m : List (κ × ν)) (ss : List (κ × ν)) (s : κ × ν) : land m (ss ++ [s]) = put (land m ss) s.1 s.2 := by
  unfold land; rw [List.foldl_append]; rfl
theorem nodup_land {ss : List (κ × ν)} : ∀ {m : List (κ × ν)}, (keysOf m).Nodup → (keysOf (land m ss)).Nodup := by
  induction ss with
  | nil => exact id
  | cons s ss ih => exact fun h => ih (nodup_put s.1 s.2 h)
theorem mem_keys_land {ss : List (κ × ν)} {j : κ} : ∀ {m : List (κ × ν)}, j ∈ keysOf (land m ss) ↔ j ∈ keysOf m ∨ j ∈ keysOf ss := by
  induction ss with
  | nil => simp [land, keysOf]
  | cons s ss ih =>
    intro m
    rw [land_cons, ih, mem_keys_put]
    show (j = s.1 ∨ j ∈ keysOf m) ∨ j ∈ keysOf ss ↔ j ∈ keysOf m ∨ j ∈ s.1 :: keysOf ss
    rw [List.mem_cons]
    constructor
    · rintro ((h | h) | h)
      · exact .inr (.inl h)
      · exact .inl h
      · exact .inr (.inr h)
    · rintro (h | h | h)
      · exact .inl (.inr h)
      · exact .inl (.inl h)
      · exact .inr h
theorem length_land (ss : List (κ × ν)) : ∀ m : List (κ × ν), (land m ss).length ≤ m.length + ss.length := by
  induction ss with
  | nil => intro m; exact Nat.le_refl _
  | cons s ss ih =>
    intro m
    rw [land_cons]
    have h1 := ih (put m s.1 s.2)
    have h2 := length_put m s.1 s.2
    simp only [List.length_cons]
    omega
end

/-! ### what a cell holds behind strokes -/
section
variable {κ : Type} [DecidableEq κ]
def val (m : List (κ × Int)) (p : κ) : Int := (look m p).getD 0
def after (f : κ → Int) (ss : List (κ × Int)) : κ → Int := ss.foldl (fun f s => fun q => if q = s.1 then s.2 else f q) f
theorem after_cons (f : κ → Int) (s : κ × Int) (ss : List (κ × Int)) : after f (s :: ss) = after (fun q => if q = s.1 then s.2 else f q) ss := rfl
theorem val_put (m : List (κ × Int)) (k : κ) (v : Int) : val (put m k v) = fun q => if q = k then v else val m q := by
  funext q
  unfold val
  rw [look_put]
  by_cases h : q = k <;> simp [h]
theorem val_land (ss : List (κ × Int)) : ∀ m : List (κ × Int), val (land m ss) = after (val m) ss := by
  induction ss with
  | nil => intro m; rfl
  | cons s ss ih => intro m; rw [land_cons, ih, val_put, after_cons]
theorem after_or (ss : List (κ × Int)) (p : κ) : ∀ f : κ → Int, after f ss p = f p ∨ ∃ s ∈ ss, s.1 = p ∧ after f ss p = s.2 := by
  induction ss with
  | nil => intro f; exact .inl rfl
  | cons s ss ih =>
    intro f
    rw [after_cons]
    rcases ih (fun q => if q = s.1 then s.2 else f q) with h | ⟨t, ht, h1, h2⟩
    · by_cases e : p = s.1
      · right
        refine ⟨s, List.mem_cons_self, e.symm, ?_⟩
        rw [h]; exact if_pos e
      · left
        rw [h]; exact if_neg e
    · exact .inr ⟨t, List.mem_cons_of_mem _ ht, h1, h2⟩
theorem after_is {p : κ} {v : Int} : ∀ {ss : List (κ × Int)} {f : κ → Int}, (∀ s ∈ ss, s.1 = p → s.2 = v) → (f p = v ∨ ∃ s ∈ ss, s.1 = p) → after f ss p = v := by
  intro ss
  induction ss with
  | nil =>
    intro f _ h
    rcases h with h | ⟨s, hs, _⟩
    · exact h
    · cases hs
  | cons s ss ih =>
    intro f ha h
    rw [after_cons]
    refine ih (fun t ht => ha t (List.mem_cons_of_mem _ ht)) ?_
    by_cases e : p = s.1
    · left
      show (if p = s.1 then s.2 else f p) = v
      rw [if_pos e]; exact ha s List.mem_cons_self e.symm
    · rcases h with h | ⟨t, ht, he⟩
      · left
        show (if p = s.1 then s.2 else f p) = v
        rw [if_neg e]; exact h
      · rcases List.mem_cons.mp ht with q | q
        · exact absurd (q ▸ he).symm e
        · exact .inr ⟨t, q, he⟩
end

/-! ### lots -/
def lots : Nat → List (List Nat)
  | 0 => [[]]
  | n + 1 => lots n ++ (lots n).map (· ++ [n])
theorem lots_length : ∀ n, (lots n).length = 2 ^ n
  | 0 => rfl
  | n + 1 => by
    show (lots n ++ (lots n).map (· ++ [n])).length = _
    rw [List.length_append, List.length_map, lots_length n, Nat.pow_succ]; omega
theorem lots_asc : ∀ (n : Nat) (lot : List Nat), lot ∈ lots n → lot.Pairwise (· < ·) ∧ ∀ k ∈ lot, k < n
  | 0, lot, h => by
    have e : lot = [] := by simpa [lots] using h
    subst e
    exact ⟨.nil, fun k hk => nomatch hk⟩
  | n + 1, lot, h => by
    have h : lot ∈ lots n ++ (lots n).map (· ++ [n]) := h
    rcases List.mem_append.mp h with h | h
    · obtain ⟨h1, h2⟩ := lots_asc n lot h
      exact ⟨h1, fun k hk => Nat.lt_succ_of_lt (h2 k hk)⟩
    · obtain ⟨l, hl, rfl⟩ := List.mem_map.mp h
      obtain ⟨h1, h2⟩ := lots_asc n l hl
      refine ⟨List.pairwise_append.mpr ⟨h1, by simp, fun a ha b hb => ?_⟩, fun k hk => ?_⟩
      · have : b = n := by simpa using hb
        rw [this]; exact h2 a ha
      · rcases List.mem_append.mp hk with q | q
        · exact Nat.lt_succ_of_lt (h2 k q)
        · have : k = n := by simpa using q
          omega
theorem lots_filter (P : Nat → Bool) : ∀ n, (List.range n).filter P ∈ lots n
  | 0 => by simp [lots]
  | n + 1 => by
    show _ ∈ lots n ++ (lots n).map (· ++ [n])
    rw [List.range_succ, List.filter_append]
    have ih := lots_filter P n
    by_cases h : P n = true
    · refine List.mem_append.mpr (.inr (List.mem_map.mpr ⟨_, ih, ?_⟩))
      simp [h]
    · refine List.mem_append.mpr (.inl ?_)
      simpa [h] using ih
theorem lots_len {n : Nat} {lot : List Nat} (h : lot ∈ lots n) : lot.length ≤ n := by
  induction n generalizing lot with
  | zero => have e : lot = [] := by simpa [lots] using h
            subst e; exact Nat.le_refl _
  | succ n ih =>
    have h : lot ∈ lots n ++ (lots n).map (· ++ [n]) := h
    rcases List.mem_append.mp h with h | h
    · exact Nat.le_succ_of_le (ih h)
    · obtain ⟨l, hl, rfl⟩ := List.mem_map.mp h
      have := ih hl
      simp; omega

section
variable {α : Type}
/-- those of a list whose numbers a lot has: as they are taken, as they are passed -/
def sel (lot : List Nat) (ws : List α) : List α := lot.filterMap fun k => ws[k]?
def selI (lot : List Nat) : Nat → List α → List α
  | _, [] => []
  | i, w :: ws => if i ∈ lot then w :: selI lot (i + 1) ws else selI lot (i + 1) ws
theorem selI_congr {l l' : List Nat} : ∀ (ws : List α) (i : Nat), (∀ k, i ≤ k → (k ∈ l ↔ k ∈ l')) → selI l i ws = selI l' i ws
  | [], _, _ => rfl
  | w :: ws, i, h => by
    have ih := selI_congr ws (i + 1) fun k hk => h k (by omega)
    unfold selI
    rw [ih]
    by_cases e : i ∈ l
    · rw [if_pos e, if_pos ((h i (Nat.le_refl _)).mp e)]
    · rw [if_neg e, if_neg (fun z => e ((h i (Nat.le_refl _)).mpr z))]
theorem selI_nil : ∀ (ws : List α) (i : Nat), selI [] i ws = []
  | [], _ => rfl
  | w :: ws, i => by
    unfold selI
    rw [if_neg (by simp)]
    exact selI_nil ws (i + 1)
theorem sel_from : ∀ (ws : List α) (i : Nat) (lot : List Nat), lot.Pairwise (· < ·) → (∀ k ∈ lot, i ≤ k ∧ k < i + ws.length) → lot.filterMap (fun k => ws[k - i]?) = selI lot i ws
  | [], i, lot, _, h => by
    cases lot with
    | nil => rfl
    | cons k r => have := h k List.mem_cons_self; simp at this; omega
  | w :: ws, i, [], _, _ => by rw [selI_nil]; rfl
  | w :: ws, i, k :: r, hp, h => by
    obtain ⟨h1, h2⟩ := List.pairwise_cons.mp hp
    have hk := h k List.mem_cons_self
    have step : ∀ l : List Nat, (∀ j ∈ l, i + 1 ≤ j) → l.filterMap (fun j => (w :: ws)[j - i]?) = l.filterMap fun j => ws[j - (i + 1)]? := fun l hl => by
      induction l with
      | nil => rfl
      | cons j l ih =>
        have e : j - i = (j - (i + 1)) + 1 := by have := hl j List.mem_cons_self; omega
        rw [List.filterMap_cons, List.filterMap_cons, ih fun x hx => hl x (List.mem_cons_of_mem _ hx), e, List.getElem?_cons_succ]
    by_cases e : k = i
    · subst e
      have hr : ∀ j ∈ r, k + 1 ≤ j ∧ j < k + 1 + ws.length := fun j hj => by
        have := h1 j hj
        have := h j (List.mem_cons_of_mem _ hj)
        simp only [List.length_cons] at this
        omega
      have ih := sel_from ws (k + 1) r h2 hr
      rw [List.filterMap_cons, Nat.sub_self, List.getElem?_cons_zero]
      show w :: _ = _
      rw [step r fun j hj => (hr j hj).1, ih]
      have e2 : selI r (k + 1) ws = selI (k :: r) (k + 1) ws := selI_congr ws (k + 1) fun j hj => by
        rw [List.mem_cons]
        exact ⟨.inr, fun z => z.elim (fun q => by omega) id⟩
      rw [e2]
      show _ = if k ∈ k :: r then w :: selI (k :: r) (k + 1) ws else selI (k :: r) (k + 1) ws
      rw [if_pos List.mem_cons_self]
    · have hr : ∀ j ∈ k :: r, i + 1 ≤ j ∧ j < i + 1 + ws.length := fun j hj => by
        have q := h j hj
        simp only [List.length_cons] at q
        rcases List.mem_cons.mp hj with z | z
        · subst z; omega
        · have := h1 j z; omega
      have ih := sel_from ws (i + 1) (k :: r) hp hr
      rw [step (k :: r) fun j hj => (hr j hj).1, ih]
      show _ = if i ∈ k :: r then w :: selI (k :: r) (i + 1) ws else selI (k :: r) (i + 1) ws
      rw [if_neg fun z => by have := (hr i z).1; omega]
theorem sel_eq {ws : List α} {lot : List Nat} (h : lot ∈ lots ws.length) : sel lot ws = selI lot 0 ws := by
  obtain ⟨h1, h2⟩ := lots_asc _ _ h
  exact sel_from ws 0 lot h1 fun k hk => ⟨Nat.zero_le _, by rw [Nat.zero_add]; exact h2 k hk⟩
theorem mem_sel {ws : List α} {lot : List Nat} {s : α} : s ∈ sel lot ws ↔ ∃ k ∈ lot, ws[k]? = some s := by
  unfold sel; rw [List.mem_filterMap]
end
end K06
namespace K06
/-! ### what cuts leave: any choice, a cell by itself -/
section
variable {κ : Type} [DecidableEq κ]
theorem mem_selI {α : Type} {lot : List Nat} {s : α} : ∀ {ws : List α} {i : Nat}, s ∈ selI lot i ws ↔ ∃ k, i + k ∈ lot ∧ ws[k]? = some s
  | [], i => by simp [selI]
  | w :: ws, i => by
    have ih := mem_selI (lot := lot) (s := s) (ws := ws) (i := i + 1)
    have key : s ∈ selI lot i (w :: ws) ↔ (i ∈ lot ∧ s = w) ∨ s ∈ selI lot (i + 1) ws := by
      show s ∈ (if i ∈ lot then w :: selI lot (i + 1) ws else selI lot (i + 1) ws) ↔ _
      by_cases e : i ∈ lot
      · rw [if_pos e, List.mem_cons]; simp [e]
      · rw [if_neg e]; simp [e]
    rw [key, ih]
    constructor
    · rintro (⟨h1, h2⟩ | ⟨k, h1, h2⟩)
      · exact ⟨0, h1, by rw [h2]; rfl⟩
      · exact ⟨k + 1, by rw [show i + (k + 1) = i + 1 + k by omega]; exact h1, by rw [List.getElem?_cons_succ]; exact h2⟩
    · rintro ⟨k, h1, h2⟩
      cases k with
      | zero => exact .inl ⟨h1, (Option.some.inj h2).symm⟩
      | succ k => exact .inr ⟨k, by rw [show i + 1 + k = i + (k + 1) by omega]; exact h1, by rw [List.getElem?_cons_succ] at h2; exact h2⟩
/-- what may lie: as it lies, or what a stroke writes -/
def may (f : κ → Int) (ws : List (κ × Int)) (p : κ) : List Int := f p :: (ws.filter fun s => decide (s.1 = p)).map (·.2)
theorem mem_may {f : κ → Int} {ws : List (κ × Int)} {p : κ} {v : Int} : v ∈ may f ws p ↔ v = f p ∨ (p, v) ∈ ws := by
  unfold may
  rw [List.mem_cons, List.mem_map]
  constructor
  · rintro (h | ⟨s, h1, h2⟩)
    · exact .inl h
    · obtain ⟨h3, h4⟩ := List.mem_filter.mp h1
      have e : s = (p, v) := Prod.ext (of_decide_eq_true h4) h2
      exact .inr (e ▸ h3)
  · rintro (h | h)
    · exact .inl h
    · exact .inr ⟨(p, v), List.mem_filter.mpr ⟨h, decide_eq_true rfl⟩, rfl⟩
theorem after_may (f : κ → Int) (ws : List (κ × Int)) (lot : List Nat) (p : κ) : after f (selI lot 0 ws) p ∈ may f ws p := by
  rw [mem_may]
  rcases after_or (selI lot 0 ws) p f with h | ⟨s, h1, h2, h3⟩
  · exact .inl h
  · obtain ⟨k, _, hk⟩ := mem_selI.mp h1
    have e : s = (p, after f (selI lot 0 ws) p) := Prod.ext h2 h3.symm
    exact .inr (e ▸ List.mem_of_getElem? hk)
/-- any choice comes of a cut -/
theorem choice (f : κ → Int) (ws : List (κ × Int)) (ps : List κ) (g : κ → Int) (h : ∀ p ∈ ps, g p ∈ may f ws p) :
    ∃ lot ∈ lots ws.length, ∀ p ∈ ps, after f (selI lot 0 ws) p = g p := by
  -- the first stroke that writes what is chosen, where it isn't there already
  let good : Nat → Bool := fun k => match ws[k]? with
    | some s => decide (s.1 ∈ ps) && decide (s.2 = g s.1) && !decide (f s.1 = g s.1)
    | none => false
  refine ⟨(List.range ws.length).filter good, lots_filter good _, fun p hp => ?_⟩
  have gk : ∀ {k : Nat} {s : κ × Int}, ws[k]? = some s → k ∈ (List.range ws.length).filter good → s.1 ∈ ps ∧ s.2 = g s.1 ∧ ¬ f s.1 = g s.1 := fun {k s} hk hm => by
    have hg : good k = true := (List.mem_filter.mp hm).2
    have e : good k = (decide (s.1 ∈ ps) && decide (s.2 = g s.1) && !decide (f s.1 = g s.1)) := by
      show (match ws[k]? with | some s => _ | none => _) = _
      rw [hk]
    rw [e] at hg
    simp only [Bool.and_eq_true, decide_eq_true_eq, Bool.not_eq_true', decide_eq_false_iff_not] at hg
    exact ⟨hg.1.1, hg.1.2, hg.2⟩
  refine after_is (fun s hs he => ?_) ?_
  · obtain ⟨k, h1, h2⟩ := mem_selI.mp hs
    rw [Nat.zero_add] at h1
    obtain ⟨_, h4, _⟩ := gk h2 h1
    rw [h4, he]
  · by_cases hf : f p = g p
    · exact .inl hf
    · right
      rcases mem_may.mp (h p hp) with e | e
      · exact absurd e.symm hf
      · obtain ⟨k, hk⟩ := List.getElem?_of_mem e
        refine ⟨(p, g p), mem_selI.mpr ⟨k, ?_, hk⟩, rfl⟩
        rw [Nat.zero_add]
        refine List.mem_filter.mpr ⟨List.mem_range.mpr (List.getElem?_eq_some_iff.mp hk).1, ?_⟩
        show (match ws[k]? with | some s => _ | none => _) = true
        rw [hk]
        simp [hp, hf]
theorem may_reached {f : κ → Int} {ws : List (κ × Int)} {p : κ} {v : Int} (h : v ∈ may f ws p) : ∃ lot ∈ lots ws.length, after f (selI lot 0 ws) p = v := by
  obtain ⟨lot, h1, h2⟩ := choice f ws [p] (fun _ => v) fun q hq => by
    have e : q = p := by simpa using hq
    rw [e]; exact h
  exact ⟨lot, h1, h2 p (by simp)⟩
/-- what the cells at ps hold behind a cut -/
def told (f : κ → Int) (ws : List (κ × Int)) (ps : List κ) (lot : List Nat) : List Int := ps.map (after f (selI lot 0 ws))
end

/-! ### adding what is not there -/
section
variable {α : Type} [DecidableEq α]
def addK (l : List α) (x : α) : List α := if x ∈ l then l else l ++ [x]
theorem mem_addK {l : List α} {x y : α} : y ∈ addK l x ↔ y ∈ l ∨ y = x := by
  unfold addK
  by_cases h : x ∈ l
  · rw [if_pos h]
    exact ⟨.inl, fun z => z.elim id fun e => e ▸ h⟩
  · rw [if_neg h]; simp
theorem nodup_addK {l : List α} (x : α) (h : l.Nodup) : (addK l x).Nodup := by
  unfold addK
  by_cases e : x ∈ l
  · rw [if_pos e]; exact h
  · rw [if_neg e, List.nodup_append]
    refine ⟨h, by simp, fun a ha b hb => ?_⟩
    have : b = x := by simpa using hb
    rw [this]
    exact fun z => e (z ▸ ha)
theorem length_addK (l : List α) (x : α) : (addK l x).length ≤ l.length + 1 := by
  unfold addK; split <;> simp
theorem mem_addAll {xs : List α} {y : α} : ∀ {l : List α}, y ∈ xs.foldl addK l ↔ y ∈ l ∨ y ∈ xs := by
  induction xs with
  | nil => simp
  | cons x xs ih => intro l; rw [List.foldl_cons, ih, mem_addK, List.mem_cons, or_assoc]
theorem nodup_addAll {xs : List α} : ∀ {l : List α}, l.Nodup → (xs.foldl addK l).Nodup := by
  induction xs with
  | nil => exact id
  | cons x xs ih => exact fun h => ih (nodup_addK x h)
theorem length_addAll (xs : List α) : ∀ l : List α, (xs.foldl addK l).length ≤ l.length + xs.length := by
  induction xs with
  | nil => intro l; exact Nat.le_refl _
  | cons x xs ih =>
    intro l
    have h1 := ih (addK l x)
    have h2 := length_addK l x
    rw [List.foldl_cons, List.length_cons]; omega
theorem len_of_mem {l m : List α} (hl : l.Nodup) (hm : m.Nodup) (h : ∀ x, x ∈ l ↔ x ∈ m) : l.length = m.length :=
  (List.perm_ext_iff_of_nodup hl hm |>.mpr fun x => h x).length_eq
end

/-! ### the product -/
def prod : List (List Int) → List (List Int)
  | [] => [[]]
  | V :: Vs => V.flatMap fun v => (prod Vs).map (v :: ·)
def prodN : List (List Int) → Int
  | [] => 1
  | V :: Vs => (V.length : Int) * prodN Vs
theorem prod_length : ∀ Vs : List (List Int), ((prod Vs).length : Int) = prodN Vs
  | [] => rfl
  | V :: Vs => by
    have ih := prod_length Vs
    have e : ∀ W : List Int, (W.flatMap fun v => (prod Vs).map (v :: ·)).length = W.length * (prod Vs).length := fun W => by
      induction W with
      | nil => simp
      | cons w W ih => rw [List.flatMap_cons, List.length_append, ih, List.length_map, List.length_cons, Nat.add_mul, Nat.one_mul, Nat.add_comm]
    show (((V.flatMap fun v => (prod Vs).map (v :: ·)).length : Nat) : Int) = (V.length : Int) * prodN Vs
    rw [e V, ← ih]
    exact Int.natCast_mul _ _
theorem mem_prod : ∀ {Vs : List (List Int)} {v : List Int}, v ∈ prod Vs ↔ v.length = Vs.length ∧ ∀ (i : Nat) (x : Int) (V : List Int), v[i]? = some x → Vs[i]? = some V → x ∈ V
  | [], v => by
    constructor
    · intro h
      have e : v = [] := by simpa [prod] using h
      subst e
      exact ⟨rfl, fun i x V h => by simp at h⟩
    · rintro ⟨h, _⟩
      have e : v = [] := List.eq_nil_of_length_eq_zero h
      subst e; simp [prod]
  | V :: Vs, v => by
    have ih := @mem_prod Vs
    have key : v ∈ prod (V :: Vs) ↔ ∃ x ∈ V, ∃ r ∈ prod Vs, v = x :: r := by
      show v ∈ V.flatMap (fun v => (prod Vs).map (v :: ·)) ↔ _
      rw [List.mem_flatMap]
      constructor
      · rintro ⟨x, hx, hv⟩
        obtain ⟨r, hr, e⟩ := List.mem_map.mp hv
        exact ⟨x, hx, r, hr, e.symm⟩
      · rintro ⟨x, hx, r, hr, e⟩
        exact ⟨x, hx, List.mem_map.mpr ⟨r, hr, e.symm⟩⟩
    rw [key]
    constructor
    · rintro ⟨x, hx, r, hr, rfl⟩
      obtain ⟨h1, h2⟩ := ih.mp hr
      refine ⟨by simp [h1], fun i y W hy hW => ?_⟩
      cases i with
      | zero =>
        have e1 : x = y := Option.some.inj hy
        have e2 : V = W := Option.some.inj hW
        rw [← e1, ← e2]; exact hx
      | succ i => exact h2 i y W (by simpa using hy) (by simpa using hW)
    · rintro ⟨h1, h2⟩
      cases v with
      | nil => simp at h1
      | cons x r =>
        refine ⟨x, h2 0 x V rfl rfl, r, ih.mpr ⟨by simpa using h1, fun i y W hy hW => h2 (i + 1) y W (by simpa using hy) (by simpa using hW)⟩, rfl⟩
theorem nodup_prod : ∀ {Vs : List (List Int)}, (∀ V ∈ Vs, V.Nodup) → (prod Vs).Nodup
  | [], _ => by simp [prod]
  | V :: Vs, h => by
    have ih := nodup_prod fun W hW => h W (List.mem_cons_of_mem _ hW)
    have hV := h V List.mem_cons_self
    show (V.flatMap fun v => (prod Vs).map (v :: ·)).Nodup
    generalize prod Vs = R at ih
    clear h
    induction V with
    | nil => simp
    | cons x V ihV =>
      obtain ⟨h1, h2⟩ := List.nodup_cons.mp hV
      rw [List.flatMap_cons, List.nodup_append]
      refine ⟨?_, ihV h2, fun a ha b hb e => ?_⟩
      · rw [List.Nodup, List.pairwise_map]
        exact ih.imp fun hne e => hne (List.cons.inj e).2
      · subst e
        obtain ⟨r, _, e1⟩ := List.mem_map.mp ha
        obtain ⟨y, hy, h3⟩ := List.mem_flatMap.mp hb
        obtain ⟨r', _, e2⟩ := List.mem_map.mp h3
        rw [← e1] at e2
        have := (List.cons.inj e2).1
        exact h1 (this ▸ hy)
theorem prodN_snoc : ∀ (Vs : List (List Int)) (V : List Int), prodN (Vs ++ [V]) = prodN Vs * (V.length : Int)
  | [], V => by show (V.length : Int) * 1 = 1 * (V.length : Int); rw [Int.mul_one, Int.one_mul]
  | W :: Vs, V => by
    show (W.length : Int) * prodN (Vs ++ [V]) = (W.length : Int) * prodN Vs * (V.length : Int)
    rw [prodN_snoc Vs V, Int.mul_assoc]

/-- THE COUNT: unlike told rows are as many as the product tells -/
theorem count_told {κ : Type} [DecidableEq κ] {f : κ → Int} {ws : List (κ × Int)} {ps : List κ} (hps : ps.Nodup) {met : List (List Int)} (hn : met.Nodup) (hm : ∀ v, v ∈ met ↔ ∃ lot ∈ lots ws.length, told f ws ps lot = v)
    {D : κ → List Int} (hD : ∀ p ∈ ps, (D p).Nodup ∧ ∀ v, v ∈ D p ↔ v ∈ may f ws p) : (met.length : Int) = prodN (ps.map D) := by
  rw [← prod_length]
  refine congrArg _ (len_of_mem hn (nodup_prod fun V hV => ?_) fun v => ?_)
  · obtain ⟨p, hp, rfl⟩ := List.mem_map.mp hV
    exact (hD p hp).1
  · rw [hm v, mem_prod]
    constructor
    · rintro ⟨lot, _, rfl⟩
      refine ⟨by simp [told], fun i x V hx hV => ?_⟩
      rw [List.getElem?_map] at hV
      unfold told at hx
      rw [List.getElem?_map] at hx
      cases e : ps[i]? with
      | none => rw [e] at hx; cases hx
      | some p =>
        rw [e] at hx hV
        have e1 := Option.some.inj hx
        have e2 := Option.some.inj hV
        rw [← e1, ← e2]
        exact ((hD p (List.mem_of_getElem? e)).2 _).mpr (after_may f ws lot p)
    · rintro ⟨h1, h2⟩
      rw [List.length_map] at h1
      have gs : ∃ g : κ → Int, ∀ (i : Nat) (p : κ), ps[i]? = some p → v[i]? = some (g p) := by
        clear hm hn h2 hD
        induction ps generalizing v with
        | nil => exact ⟨fun _ => 0, fun i p h => by simp at h⟩
        | cons q ps ih =>
          obtain ⟨h3, h4⟩ := List.nodup_cons.mp hps
          cases v with
          | nil => simp at h1
          | cons x v =>
            obtain ⟨g, hg⟩ := ih h4 v (by simpa using h1)
            refine ⟨fun p => if p = q then x else g p, fun i p h => ?_⟩
            cases i with
            | zero =>
              have e : q = p := Option.some.inj h
              show some x = some (if p = q then x else g p)
              rw [if_pos e.symm]
            | succ i =>
              have h' : ps[i]? = some p := by simpa using h
              have ne : ¬ p = q := fun e => h3 (e ▸ List.mem_of_getElem? h')
              show (x :: v)[i + 1]? = some (if p = q then x else g p)
              rw [List.getElem?_cons_succ, if_neg ne]
              exact hg i p h'
      obtain ⟨g, hg⟩ := gs
      have hgm : ∀ p ∈ ps, g p ∈ may f ws p := fun p hp => by
        obtain ⟨i, hi⟩ := List.getElem?_of_mem hp
        exact ((hD p hp).2 _).mp (h2 i (g p) (D p) (hg i p hi) (by rw [List.getElem?_map, hi]; rfl))
      obtain ⟨lot, hl, ha⟩ := choice f ws ps g hgm
      refine ⟨lot, hl, ?_⟩
      refine List.ext_getElem? fun i => ?_
      unfold told
      rw [List.getElem?_map]
      cases e : ps[i]? with
      | none =>
        have : ps.length ≤ i := List.getElem?_eq_none_iff.mp e
        rw [List.getElem?_eq_none (by omega)]; rfl
      | some p => rw [hg i p e, ← ha p (List.mem_of_getElem? e)]; rfl

/-! ### ascending lists are told by their members -/
theorem asc_uniq {α : Type} {R : α → α → Prop} (irr : ∀ x, ¬ R x x) (asy : ∀ x y, R x y → ¬ R y x) : ∀ {l m : List α}, l.Pairwise R → m.Pairwise R → (∀ x, x ∈ l ↔ x ∈ m) → l = m
  | [], [], _, _, _ => rfl
  | [], y :: m, _, _, h => absurd ((h y).mpr List.mem_cons_self) (by simp)
  | x :: l, [], _, _, h => absurd ((h x).mp List.mem_cons_self) (by simp)
  | x :: l, y :: m, hl, hm, h => by
    obtain ⟨h1, h2⟩ := List.pairwise_cons.mp hl
    obtain ⟨h3, h4⟩ := List.pairwise_cons.mp hm
    have e : x = y := by
      rcases List.mem_cons.mp ((h x).mp List.mem_cons_self) with e | e
      · exact e
      · rcases List.mem_cons.mp ((h y).mpr List.mem_cons_self) with e' | e'
        · exact e'.symm
        · exact absurd (h3 x e) (asy _ _ (h1 y e'))
    subst e
    refine congrArg _ (asc_uniq irr asy h2 h4 fun z => ?_)
    constructor
    · intro hz
      rcases List.mem_cons.mp ((h z).mp (List.mem_cons_of_mem _ hz)) with e | e
      · exact absurd (h1 z hz) (e ▸ irr _)
      · exact e
    · intro hz
      rcases List.mem_cons.mp ((h z).mpr (List.mem_cons_of_mem _ hz)) with e | e
      · exact absurd (h3 z hz) (e ▸ irr _)
      · exact e
theorem asc_int {l m : List Int} (hl : l.Pairwise (· < ·)) (hm : m.Pairwise (· < ·)) (h : ∀ x, x ∈ l ↔ x ∈ m) : l = m :=
  asc_uniq (fun x => Int.lt_irrefl x) (fun x y a b => by omega) hl hm h
theorem asc_of_le {l : List Int} (h : l.Pairwise (· ≤ ·)) (hn : l.Nodup) : l.Pairwise (· < ·) :=
  (h.and hn).imp fun ⟨a, b⟩ => by omega
end K06
namespace K06
open PySem PySem.Spec PyProof.Rows L2

/-! ### defs whose callers stand under no guard: what repr of a list wants -/
structure FnG (P : Program) (w : World) (K : PySem.W.Frag) (mg : Str → Option Value) (base : Heap) (k : Nat) (f : Addr) (fd : FuncData) (ps : List Str) (sp : Sp) : Prop where
  len : ∀ vs H Q E, sp vs H Q E → vs.length = ps.length
  go : ∀ (A : Around) (outer : List Env) (s : Shared) (H : Hp) (args : Args) (us : List Value) (vs : List V) (Q : VK), A.guards = some [] → Room k A → Env0 P w K mg base A outer s H →
    BindsTo s fd args (ps.zip us) → Vals vs us → sp vs H Q E0 → codeAny (model P w) A (.call (.ref f) args) (CR CX0 outer P w H s Q E0) s

section
variable {P : Program} {w : World} {K : PySem.W.Frag} {mg : Str → Option Value} {base : Heap}
theorem okG {x qual : Str} {st : Stmt} {f : Addr} {fd : FuncData} {N ps : List Str} {k : Nat} {sp : Sp} (F : Fun K x qual st f fd) (S : FnScope N ps (defScope st))
    (len : ∀ vs H Q E, sp vs H Q E → vs.length = ps.length)
    (body : ∀ (cdv : Value) (A : Around) (outer : List Env) (s : Shared) (H : Hp) (vs : List V) (Q : VK), A.guards = some [] → Room k (A.deeper (envOfC qual (defScope st) s.heap.objs.size f cdv)) → sp vs H Q E0 →
      ∃ t, PSs (cxOf CX0 P w K mg base N qual (defScope st) f cdv A outer s H E0).nox (defBody st) t ∧ t ⟨fun _ H' => Q .non H', Q, fun _ _ => False, fun _ _ => False⟩ (start N vs) H) :
    FnG P w K mg base (k + 1) f fd ps sp where
  len := len
  go := fun A outer s H args us vs Q hgd hr e0 hb r hsp => by
    obtain ⟨oc, od, kV, doc, pm, an, cdv, ct, osl, rfl, lk, hcd⟩ := F.ex
    have lv : vs.length = ps.length := len _ _ _ _ hsp
    have bk : ∀ b o, base.get? b = some o → s.heap.get? b = some o := fun b o e => (e0.bs b o e).1
    have KX : K.In s.heap := e0.mod.kin.keeps bk
    have kinds : ∀ y ∈ ps.zip us, (defScope st).names.lookup y.1 = some .local ∨ ((defScope st).names.lookup y.1 = some .cell ∧ ((cellsFrom (s.heap.objs.size + 1) (defScope st).names []).lookup y.1).isSome = true) := by
      rintro ⟨n, v⟩ hy
      rcases S.par n (List.of_mem_zip hy).1 with q | q
      · exact .inl q
      · exact .inr ⟨q, PySem.W.cellsFrom_some _ _ _ (.inl q)⟩
    refine codeAny_call_function (Room.depth hr) (KX _ _ lk) rfl S.co S.gen rfl (PySem.W.codeRec_of KX hcd) (hb _ _ _ _ ?_)
    refine wpAny_newFunctionEnv_cells S.kind kinds ?_
    rintro env rfl s1 x
    refine ⟨(e0.mod.nolimit.keeps bk).keeps x.toInCall.keep, codeAny_func ?_⟩
    obtain ⟨t, ht, hq⟩ := body cdv A outer s H vs Q hgd (hr.deeper _) hsp
    have ht := ht.nox
    have I := inv_start (CX := CX0) (E := E0) (qual := qual) (f := f) (cd := cdv) S hr.hd e0 lv r x
    refine wpAny_mono (ht.run [] s1 (start N vs) H _ I hq) ?_ (fun e s' hs => hs)
    rintro fl s' hs
    cases fl with
    | ret u =>
      obtain ⟨v, σ', H', J, rv, q⟩ := hs
      exact ⟨v, H', J.os, J.bare, J.base, J.hok, rv, q⟩
    | next =>
      obtain ⟨σ', H', J, q⟩ := hs
      exact ⟨V.non, H', J.os, J.bare, J.base, J.hok, rfl, q⟩
    | brk => obtain ⟨_, _, _, q⟩ := hs; exact q.elim
    | cont => obtain ⟨_, _, _, q⟩ := hs; exact q.elim
end
section
variable {X : Cx} {k : Nat} {f : Addr} {fd : FuncData} {ps : List Str} {sp : Sp} {x : Str} {p pos : Pos} {e : Expr} {es : List Expr} {t : TA}
/-- the call of such a def -/
theorem pe_callG (F : FnG X.prog X.w X.K X.mg X.base k f fd ps sp) (hgd : X.A.guards = some []) (hr : Room k X.A) (hg : Gl X x) (hm : X.mg x = some (.ref f)) (hk : PySem.W.keepIn X.K (.ref f) = true) (hb : Binds X.K fd ps [])
    (ha : PA X (e :: es) t) (hdb : (x == ("__debug__" : Str)) = false := by decide) (he : starEach (e :: es) X.env = (false, eval e X.env) :: starEach es X.env := by rfl)
    (hpl : (backTo pos (starEach es X.env)).any (·.1) = false := by rfl) : PE X (.Call (.Name x p) (e :: es) [] pos) (tCall sp [] E0 t) := by
  constructor
  intro pins s σ H Q I h
  refine wpAny_Call_Name_kw (ld_glob I hg hm ?_ hdb)
  refine PySem.W.callWith_K (h₀ := X.base) I.ok.mod.kin hk (thn (ha.run pos pins s σ H _ I h) ?_) he hpl
  rintro us s1 ⟨vs, H1, I1, r, q⟩
  refine ⟨I1.kIn, ?_⟩
  have q : sp vs H1 Q E0 := by
    have z : sp (vs ++ []) H1 Q E0 := q
    rwa [List.append_nil] at z
  have hl : us.length = ps.length := by rw [← r.length]; exact F.len _ _ _ _ q
  have hbt := hb s1 us I1.kIn (by rw [List.append_nil]; exact hl)
  rw [List.append_nil] at hbt
  refine wpAny_call (codeAny_mono (F.go X.A X.stack s1 H1 ⟨us, []⟩ us vs Q hgd hr I1.env0 hbt r q) ?_)
  intro r' s' hq
  match r', hq with
  | .ok (.ret u), hq => exact I1.after hq
  | .ok .next, hq => exact False.elim hq
  | .ok .brk, hq => exact False.elim hq
  | .ok .cont, hq => exact False.elim hq
  | .error e, hq => exact False.elim hq
/-- repr of data in lists and tuples -/
theorem call_reprD (hgd : X.A.guards = some []) (hu : X.A.units + 64 < cLine) : CallR X (.builtin "repr") (fun xs H Q => ∃ a d, xs = [.ref a] ∧ Dp X.K H (.ref a) d ∧ d.showable = true ∧ d.hasDict = false ∧ d.depth ≤ 60 ∧ d.shown.length ≤ sizeLine ∧ Q (.str d.shown) H) := by
  rintro pins s σ H xs us Q I r ⟨a, d, rfl, hd, h1, h2, h3, h4, q⟩
  obtain ⟨u, rfl, ru⟩ := vals1 r
  obtain ⟨as, rd⟩ := Dp.reads I d (.ref a) u hd ru
  cases (show u = Value.ref a from ru)
  refine repr_of_reads' rd h1 (fun z => by rw [h2] at z; cases z) hgd (by omega) (fun _ _ e => e) (fun h' u' tk hk => ?_) h4
  exact ⟨.str d.shown, H, I.kept (t' := tk) hk, ⟨_, rfl⟩, q⟩
end
end K06
namespace K06
open PySem PySem.Spec PyProof.Rows L2
/-- the law's def is called under no guard: its promise, at the heap behind the top -/
theorem endG {P : Program} {w : World} {K : PySem.W.Frag} {mg mb : Str → Option Value} {k : Nat} {fa a : Addr} {fd : FuncData} {x : Str} {sp : Sp} {s : Shared} {vs : List Value} {ns : List Int}
    (KX : K.In s.heap) (hns : s.heap.Ns mainGlobals mg) (hb : s.heap.Ns builtinsNs mb) (hbb : ∀ x : Str, x ≠ "__name__" → mb x = bootBuiltins x) (hlim : s.heap.NoLimit) (hg : s.gens = #[])
    (ha : s.heap.get? a = some { cls := .type "list", data := .seq vs.toArray }) (hi : IntsAre vs ns) (hl : ns.length ≤ sizeLine) (hr : Room k callerA)
    (F : ∀ base : Heap, K.In base → base.Ns mainGlobals mg → FnG P w K mg base k fa fd [x] sp) (hbind : ∀ (s : Shared) (u : Value), BindsTo s fd ⟨[u], []⟩ [(x, u)])
    (hsp : ∀ H : Hp, SqL K H a (ns.map V.int) → sp [.ref a] H (fun v _ => v = .bl true) E0) :
    codeAny (model P w) callerA (.call (.ref fa) ⟨[.ref a], []⟩) (fun r s' => r = .ok (.ret (.bool true)) ∧ OldK s.heap s'.heap ∧ s'.os = s.os ∧ AllBare s'.gens) s := by
  have rv := vals_ints hi
  have hlv := hi.length
  -- what is tracked: the script at a at most, as a list that is only read
  let frozen : HO := .frz { cls := .type "list", data := .seq vs.toArray } (.lst (ns.map V.int))
  have main : ∀ H : Hp, (∀ b, H b = none ∨ (b = a ∧ H b = some frozen ∧ K.lookup a = none)) → SqL K H a (ns.map V.int) → HOk P w H s.heap →
      codeAny (model P w) callerA (.call (.ref fa) ⟨[.ref a], []⟩) (fun r s' => r = .ok (.ret (.bool true)) ∧ OldK s.heap s'.heap ∧ s'.os = s.os ∧ AllBare s'.gens) s := by
    intro H hO hS hok
    -- a dict of the top isn't the script
    have dictsFree : ∀ {b : Addr} {o : Obj} {es : Array DictEntry} {ep : Nat}, s.heap.get? b = some o → o.data = .dict es ep → H b = none := by
      intro b o es ep e d
      rcases hO b with z | ⟨z, _, _⟩
      · exact z
      · rw [z, ha] at e
        cases e
        exact nomatch d
    have nsB : ∀ {b : Addr} {m : Str → Option Value}, s.heap.Ns b m → (hidT s.heap H).Ns b m := by
      rintro b m ⟨o, es, ep, e, d, rest⟩
      exact ⟨o, es, ep, hidT_get e (dictsFree e d), d, rest⟩
    have KB : K.In (hidT s.heap H) := by
      intro b o e
      refine hidT_get (KX b o e) ?_
      rcases hO b with z | ⟨z, _, z2⟩
      · exact z
      · rw [z, z2] at e; cases e
    have M : Mod K mg (hidT s.heap H) := by
      obtain ⟨mc, h1, h2⟩ := hlim
      exact ⟨KB, nsB hns, ⟨mb, nsB hb, hbb⟩, ⟨mc, nsB h1, h2⟩⟩
    have e0 : Env0 P w K mg (hidT s.heap H) callerA [] s H :=
      ⟨rfl, M, fun b o e => of_hidT e, Nat.le_of_eq (hidT_size _ _), trivial, fun b hb => absurd (show b ∈ ([] : List Addr) from hb) (by simp), hok, .of_eq hg⟩
    refine codeAny_mono ((F _ KB (nsB hns)).go callerA [] s H ⟨[.ref a], []⟩ [.ref a] [.ref a] _ rfl hr e0 (hbind s (.ref a)) (.cons rfl .nil) (hsp H hS)) ?_
    intro r s' h
    match r, h with
    | .error _, h => exact False.elim h
    | .ok .next, h => exact False.elim h
    | .ok .brk, h => exact False.elim h
    | .ok .cont, h => exact False.elim h
    | .ok (.ret u), h =>
      obtain ⟨v, H', os, bare, un, hok', r', q⟩ := h
      cases (show v = .bl true from q)
      cases (show u = Value.bool true from r')
      refine ⟨rfl, OldK.of_keep fun b o e => ?_, os, bare⟩
      rcases hO b with z | ⟨_, z, _⟩
      · exact un.keep b o e z (fun hb => absurd (show b ∈ ([] : List Addr) from hb) (by simp)) (by simp)
      · have f1 := un.frzs b _ _ z
        have g1 := (hok b _ z).1
        have g2 := (hok' b _ f1).1
        rw [e] at g1
        cases g1
        exact g2
  cases hk : K.lookup a with
  | some o =>
    have e := KX a o hk
    rw [ha] at e
    cases e
    refine main (fun _ => none) (fun _ => .inl rfl) (.inr ⟨_, vs.toArray, _, hk, rfl, rfl, rfl, ?_, by simpa using rv⟩) fun b u z => nomatch z
    rw [List.size_toArray, hlv]; exact hl
  | none =>
    refine main (fun b => if b = a then some frozen else none) (fun b => ?_) (.inl (.inr ⟨_, if_pos rfl⟩)) fun b u z => ?_
    · by_cases hb : b = a
      · exact .inr ⟨hb, if_pos hb, hk⟩
      · exact .inl (if_neg hb)
    · by_cases hb : b = a
      · have z : (if b = a then some frozen else none) = some u := z
        rw [if_pos hb] at z
        cases z
        subst hb
        exact ⟨ha, by rw [List.length_map]; exact hl, vs, _, rv, ha⟩
      · have z : (if b = a then some frozen else none) = some u := z
        rw [if_neg hb] at z; cases z
/-- the goal that k_head leaves -/
theorem walkG {l : PySem.W.OpenLaw} {n k : Nat} {q : Program} {loose : List Str} {XP : (Str → Option Value) → Heap → Prop} {YP : World → Heap → Prop} {d : DefRec} {K : Params → PySem.W.Frag} {sp : World → Sp} {x : Str}
    (hn : l.most = some n) (hn2 : n ≤ sizeLine) (hdf : d.params.defaults = []) (hr : Room k callerA) (hY : ∀ (w : World) (h : Heap), YP w h → (K w.params).In h)
    (F : ∀ (w : World) (mg : Str → Option Value) (fa : Addr) (h : Heap), (K w.params).In h → h.Ns mainGlobals mg → mg d.name = some (.ref fa) →
      ∃ fd : FuncData, (∀ (s : Shared) (u : Value), BindsTo s fd ⟨[u], []⟩ [(x, u)]) ∧ ∀ base : Heap, (K w.params).In base → base.Ns mainGlobals mg → FnG l.prog w (K w.params) mg base k fa fd [x] (sp w))
    (hsp : ∀ (w : World) (H : Hp) (a : Addr) (ns : List Int), ns.length ≤ n → SqL (K w.params) H a (ns.map V.int) → sp w [.ref a] H (fun v _ => v = .bl true) E0) :
    PySem.W.WalkO q loose XP YP l.row.toRowW d [] (fun f vs => PySem.call f vs) := by
  refine Att.attach_call hn hdf ?_
  intro w s₀ s₁ mg mb fa o pm cd doc a vs ns G Y ho hd hcd hmg hobj hints hlen hg
  have KX := hY w _ Y
  obtain ⟨fd, hb, hF⟩ := F w mg fa _ KX G.T.g hmg
  exact endG KX G.T.g G.T.b G.T.builtins G.T.nolimit hg hobj hints (Nat.le_trans hlen hn2) hr hF hb fun H hS => hsp w H a ns hlen hS
end K06
namespace K06
open PySem PySem.Spec PyProof.Rows L2
section
variable {X : Cx}
theorem notMods {pins : List (Addr × Obj)} {σ : L2.St} {H : Hp} {s : Shared} (I : Inv X pins σ H s) {a : Addr} (h : s.heap.objs.size ≤ a) : (a == sysModules) = false :=
  beq_eq_false_iff_ne.mpr (Nat.ne_of_gt (Nat.lt_of_lt_of_le I.big h))
/-- the hashes of keys that are tuples -/
def tHash (X : Cx) (k : List Key) : Int := (tupleKind (mixKind X.prog X.w)).hash k
theorem KT.keys {H : Hp} {kvs : List (List Key × V)} {xs : List (List Key × Addr × Value)} (r : KT H kvs xs) : xs.map (·.1) = kvs.map (·.1) := by
  induction r with
  | nil => rfl
  | cons h _ ih => rw [List.map_cons, List.map_cons, ih, h.1]
theorem KT.there {H : Hp} {kvs : List (List Key × V)} {xs : List (List Key × Addr × Value)} (r : KT H kvs xs) : ∀ x ∈ xs, H x.2.1 = some (.tup (x.1.map kV)) := by
  induction r with
  | nil => intro x hx; cases hx
  | cons h _ ih =>
    intro x hx
    rcases List.mem_cons.mp hx with e | hx
    · rw [e, ← h.1]; exact h.2.1
    · exact ih x hx
theorem tup_type {pins : List (Addr × Obj)} {σ : L2.St} {H : Hp} {s : Shared} (I : Inv X pins σ H s) {b : Addr} {ys : List V} (h : H b = some (.tup ys)) : s.TypeIs (.ref b) "tuple" := by
  obtain ⟨_, _, _, o, e, c, _⟩ := I.hok b _ h
  exact ⟨o, e, c⟩
/-- dict(d), d with tuple keys -/
theorem cr_dictT (hu : X.A.units + 64 < cLine) : CallR X (.type "dict") (fun xs H Q => ∃ a kvs, xs = [.ref a] ∧ H a = some (.dT kvs) ∧ (kvs.map fun p => tHash X p.1).Nodup ∧ ∀ p, H p = none → Q (.ref p) (upd H p (.dT kvs))) := by
  rintro pins s σ H xs us Q I r ⟨a, kvs, rfl, ha, hh, q⟩
  obtain ⟨u, rfl, ru⟩ := vals1 r
  cases (show u = Value.ref a from ru)
  obtain ⟨z, hd, ys, rel, dd⟩ := dt_of I.hok ha
  have hlen : kvs.length = ys.length := Paired.length rel
  have hlt : a < s.heap.objs.size := Heap.DictOfH.lt_size dd
  refine callType_codes (Q₁ := fun obj s₁ => obj = .ref s.heap.objs.size ∧ s₁ = { s with heap := s.heap.push { cls := .type "dict", data := .dict #[] } }) PySem.F.kt_called_dict (PySem.F.kt_typeCall_dict_1 _) PySem.F.entry_dict_init
    (kt_code_dict_new _ ⟨rfl, rfl⟩) ?_
  rintro obj s₁ ⟨rfl, rfl⟩
  have k0 : ∀ b o, s.heap.get? b = some o → (s.heap.push { cls := .type "dict", data := .dict #[] }).get? b = some o := fun b o e => Heap.get?_push_of_some _ e
  have hT : Shared.TypeIs { s with heap := s.heap.push { cls := .type "dict", data := .dict #[] } } (.ref s.heap.objs.size) "dict" := ⟨_, Heap.get?_push_size _ rfl, rfl⟩
  have I0 : Inv X pins σ H { s with heap := s.heap.push { cls := .type "dict", data := .dict #[] } } := I.kept (t' := s.toks) k0
  obtain ⟨_, _, ys0, rel0, dd0⟩ := dt_of I0.hok ha
  refine ⟨hT, PySem.F.args_dict_init_2 _ _, ?_⟩
  unfold Builtin.«dict.__init__»
  refine wpAny_bind ?_
  unfold Builtin.Dict.selfAndRest
  refine wpAny_bind (wpAny_notOrdered_dict hT ?_)
  show wpAny _ _ (pure (s.heap.objs.size, [Value.ref a])) _ _ _
  refine wpAny_pure ?_
  show wpAny _ _ (Builtin.Dict.updateFrom "dict.__init__" s.heap.objs.size (.ref a) [] .none) _ _ _
  refine updateFrom_dictH (A := X.A.in1) (kvs := []) .none (show (tupleKind (mixKind X.prog X.w)).room X.A.in1.in1 from (by show X.A.units + 1 + 1 < cLine; omega)) (Nat.ne_of_gt hlt) hd (Heap.DictOfH.new s.heap) dd0 (.inr ⟨fun x hx => tup_type I0 (KT.there rel0 x hx), ?_⟩)
    (by rw [List.length_nil, Nat.zero_add, ← Paired.length rel0]; exact z) fun h' hd' ho' hs => ?_
  · rw [show (ys0.map fun x => (tupleKind (mixKind X.prog X.w)).hash x.1) = (ys0.map (·.1)).map (tHash X) by rw [List.map_map]; rfl, KT.keys rel0, List.map_map]
    exact hh
  · have hn : (ys0.map (·.1)).Nodup := Heap.DictOfH.nodup dd0
    rw [storedAllH_nil_of_nodup ys0 hn] at hd'
    have kp : ∀ b o, s.heap.get? b = some o → h'.get? b = some o := fun b o e => (hs.2 b (Nat.ne_of_lt (Heap.lt_size e))).trans (k0 b o e)
    refine ⟨rfl, ?_⟩
    have hf : H s.heap.objs.size = none := I.hok.fresh (Nat.le_refl _)
    obtain ⟨o, es, ep, g1, g2, g3, g4, _, g6⟩ := hd'
    exact ⟨.ref s.heap.objs.size, upd H s.heap.objs.size (.dT kvs), I.laid (t' := s.toks) kp (Nat.le_refl _)
      (show ObjOk X.prog X.w _ _ _ (.dT kvs) from ⟨z, notMods I (Nat.le_refl _), ys0, KT.keeps rel0 fun c zs hc => by rw [upd_ne (ne_of_none hc hf)]; exact hc, o, es, ep, g1, g2, g3, g4, g6⟩), rfl, q _ hf⟩

/-- pairs laid in a dict -/
def mergeT (kvs more : List (List Key × V)) : List (List Key × V) := more.foldl (fun acc kv => putK acc kv.1 kv.2) kvs
theorem KT.merge {H : Hp} : ∀ {more : List (List Key × V)} {rs : List (List Key × Addr × Value)} {kvs : List (List Key × V)} {xs : List (List Key × Addr × Value)}, KT H more rs → KT H kvs xs → KT H (mergeT kvs more) (storedAllH xs rs)
  | _, _, _, _, .nil, r => r
  | p :: more, x :: rs, kvs, xs, .cons h t, r => by
    have z := KT.put r p.1 h.2.1 h.2.2
    rw [h.1] at z
    show KT H (mergeT (putK kvs p.1 p.2) more) (storedAllH (storedH xs x.1 x.2.1 x.2.2) rs)
    rw [h.1]
    exact KT.merge t z
theorem length_mergeT : ∀ (more kvs : List (List Key × V)), (mergeT kvs more).length ≤ kvs.length + more.length
  | [], kvs => Nat.le_refl _
  | p :: r, kvs => by
    have h1 := length_mergeT r (putK kvs p.1 p.2)
    have h2 := length_putK kvs p.1 p.2
    show (mergeT (putK kvs p.1 p.2) r).length ≤ _
    rw [List.length_cons]; omega
/-- a pair: a tuple of a key (a tuple) and a value -/
def PrT (H : Hp) (p : Addr) (kv : List Key × V) : Prop := ∃ b, H p = some (.tup [.ref b, kv.2]) ∧ H b = some (.tup (kv.1.map kV))
theorem prs_of {pins : List (Addr × Obj)} {σ : L2.St} {H : Hp} {s : Shared} (I : Inv X pins σ H s) : ∀ {ps : List Addr} {kvs : List (List Key × V)}, Paired (PrT H) ps kvs →
    ∃ rs : List (List Key × Addr × Value), KT H kvs rs ∧ rs.length = ps.length ∧ ∀ (j : Nat) (x : List Key × Addr × Value), rs[j]? = some x → ∃ b, ps[j]? = some b ∧ s.heap.IsTuple b #[.ref x.2.1, x.2.2]
  | _, _, .nil => ⟨[], .nil, rfl, fun j x e => by simp at e⟩
  | _, _, .cons (a := p) (b := kv) h t => by
    obtain ⟨rs, r, hl, hp⟩ := prs_of I t
    obtain ⟨b, h1, h2⟩ := h
    obtain ⟨_, its, rv, o, e1, e2, n, e3⟩ := I.hok p _ h1
    obtain ⟨u, y, rfl, ru, ry⟩ := vals2 rv
    cases (show u = Value.ref b from ru)
    refine ⟨(kv.1, b, y) :: rs, .cons ⟨rfl, h2, ry⟩ r, by rw [List.length_cons, List.length_cons, hl], fun j x e => ?_⟩
    cases j with
    | zero =>
      have e' : (kv.1, b, y) = x := Option.some.inj e
      subst e'
      exact ⟨p, rfl, o, e1, e2, n, e3⟩
    | succ j =>
      obtain ⟨c, f1, f2⟩ := hp j x (by simpa using e)
      exact ⟨c, by simpa using f1, f2⟩
/-- dict(ps), ps a list of pairs whose first is a tuple -/
theorem cr_dictPT (hc : X.calm = true) (hu : X.A.units + 64 < cLine) : CallR X (.type "dict") (fun xs H Q => ∃ (a : Addr) (ps : List Addr) (kvs : List (List Key × V)), xs = [.ref a] ∧ H a = some (.lst (ps.map V.ref)) ∧ Paired (PrT H) ps kvs ∧
    ∀ p, H p = none → Q (.ref p) (upd H p (.dT (mergeT [] kvs)))) := by
  rintro pins s σ H xs us Q I r ⟨a, ps, kvs, rfl, ha, hp, q⟩
  obtain ⟨u, rfl, ru⟩ := vals1 r
  cases (show u = Value.ref a from ru)
  obtain ⟨rs, rel, hl, hpr⟩ := prs_of I hp
  obtain ⟨its, rv, ⟨o, n, ho, hcl, hdn, hdat⟩, hz⟩ := I.list (SqL.of ha)
  cases refs_at rv
  rw [List.length_map] at hz
  have hf : H s.heap.objs.size = none := I.hok.fresh (Nat.le_refl _)
  have there : ∀ x ∈ rs, (tupleKind (mixKind X.prog X.w)).is s.heap x.1 x.2.1 := fun x hx => key_of I.hok (KT.there rel x hx)
  let prs : List (Value × Value) := rs.map fun (x : List Key × Addr × Value) => (Value.ref x.2.1, x.2.2)
  have hpl : prs.length = ps.length := by rw [List.length_map]; exact hl
  have eat : ∀ j k v, prs[j]? = some (k, v) → ∃ x : List Key × Addr × Value, rs[j]? = some x ∧ k = Value.ref x.2.1 ∧ v = x.2.2 := fun j k v e => by
    rw [List.getElem?_map] at e
    cases g : rs[j]? with
    | none => rw [g] at e; cases e
    | some x => rw [g] at e; cases e; exact ⟨x, by rw [g], rfl, rfl⟩
  refine call_dict_pairsH (knd := tupleKind (mixKind X.prog X.w)) (ps := rs) (PairArg.list a (ps.map Value.ref).toArray (fun j => ps.getD j 0) prs) (I.ok.hd hc) (show X.A.units + 1 + 1 < cLine by omega)
    ⟨⟨o, n, ho, hcl, hdn, hdat⟩, by rw [List.size_toArray, List.length_map, hpl], fun j k v e => ?_⟩ ⟨by rw [hl, hpl], fun j k v e => ?_⟩ (fun h' hk x hx => ?_) (by rw [hpl]; exact hz) fun h' tk hd' hk => ?_
  · obtain ⟨x, e1, rfl, rfl⟩ := eat j k v e
    obtain ⟨b, e2, e3⟩ := hpr j x e1
    refine ⟨?_, .inl ?_⟩
    · rw [List.getElem?_toArray, List.getElem?_map, e2]
      show some (Value.ref b) = some (Value.ref (ps.getD j 0))
      rw [List.getD_eq_getElem?_getD, e2]; rfl
    · have z : ps.getD j 0 = b := by rw [List.getD_eq_getElem?_getD, e2]; rfl
      show s.heap.IsTuple (ps.getD j 0) _
      rw [z]; exact e3
  · obtain ⟨x, e1, rfl, rfl⟩ := eat j k v e
    exact ⟨x.1, x.2.1, e1, rfl⟩
  · refine tupleKind_stays.stays (fun b ob vs m e _ => hk b ob (Nat.ne_of_lt (Heap.lt_size e)) (fun z => nomatch z) e) (there x hx)
  · have kp : ∀ b o, s.heap.get? b = some o → h'.get? b = some o := fun b o e => hk b o (fun z => nomatch z) e
    obtain ⟨ob, es, ep, g1, g2, g3, g4, _, g6⟩ := hd'
    have hle : (mergeT [] kvs).length ≤ sizeLine := by
      have h1 := length_mergeT kvs []
      have h2 : kvs.length = ps.length := (Paired.length hp).symm
      rw [List.length_nil, Nat.zero_add] at h1
      omega
    exact ⟨.ref s.heap.objs.size, upd H s.heap.objs.size (.dT (mergeT [] kvs)), I.laid (t' := tk) kp (Nat.le_refl _)
      (show ObjOk X.prog X.w _ _ _ (.dT (mergeT [] kvs)) from ⟨hle, notMods I (Nat.le_refl _), storedAllH [] rs, KT.keeps (KT.merge rel .nil) fun c zs hc => by rw [upd_ne (ne_of_none hc hf)]; exact hc, ob, es, ep, g1, g2, g3, g4, g6⟩), rfl, q _ hf⟩

/-- list(d), d with tuple keys -/
theorem cr_listT (hc : X.calm = true) : CallR X (.type "list") (fun xs H Q => ∃ (a : Addr) (kvs : List (List Key × V)), xs = [.ref a] ∧ H a = some (.dT kvs) ∧
    ∀ p (bs : List Addr), H p = none → Paired (fun b kv => H b = some (.tup (kv.1.map kV))) bs kvs → Q (.ref p) (upd H p (.lst (bs.map V.ref)))) := by
  rintro pins s σ H xs us Q I r ⟨a, kvs, rfl, ha, q⟩
  obtain ⟨u, rfl, ru⟩ := vals1 r
  cases (show u = Value.ref a from ru)
  obtain ⟨z, hd, ys, rel, dd⟩ := dt_of I.hok ha
  obtain ⟨es, ep, raw, hsz, hes⟩ := Heap.DictOfH.raw dd
  have hlen : kvs.length = ys.length := Paired.length rel
  have hf : H s.heap.objs.size = none := I.hok.fresh (Nat.le_refl _)
  refine PySem.W.kdl_call (KdlSrc.rawDict hd) (I.ok.hd hc) raw (by rw [hsz, ← hlen]; exact z) fun h' tk acc c hk hD hacc => ?_
  have bp : Paired (fun (b : Addr) (kv : List Key × V) => H b = some (.tup (kv.1.map kV))) (ys.map (·.2.1)) kvs := by
    clear hes hsz raw dd hlen z q ha
    induction rel with
    | nil => exact .nil
    | cons h _ ih => exact .cons h.2.1 ih
  have eacc : acc.toList = (ys.map (·.2.1)).map Value.ref := by
    refine List.ext_getElem? fun i => ?_
    rw [List.map_map, List.getElem?_map, Array.getElem?_toList]
    by_cases hi : i < es.size
    · obtain ⟨y, e1, e2, _⟩ := hes i hi
      have hia : i < acc.size := by rw [hacc.1]; exact hi
      obtain ⟨_, e3⟩ := hacc.2 i acc[i] (Array.getElem?_eq_getElem hia)
      rw [e1, Array.getElem?_eq_getElem hia, e3, e2]; rfl
    · rw [Array.getElem?_eq_none (by rw [hacc.1]; omega), List.getElem?_eq_none (by omega)]; rfl
  have rv : Vals ((ys.map (·.2.1)).map V.ref) acc.toList := by
    rw [eacc]
    generalize ys.map (·.2.1) = l
    induction l with
    | nil => exact .nil
    | cons b l ih => exact .cons rfl ih
  exact ⟨.ref s.heap.objs.size, upd H s.heap.objs.size (.lst ((ys.map (·.2.1)).map V.ref)), I.laid (t' := tk) hk (Nat.le_refl _)
    (show ObjOk X.prog X.w _ _ _ (.lst _) from ⟨by rw [List.length_map, List.length_map, ← hlen]; exact z, acc.toList, c, rv, by simpa using hD⟩), rfl, q _ _ hf bp⟩
end
end K06
namespace K06
open PySem PySem.Spec PyProof.Rows L2
/-! ### set(xs) of a list of ints -/
/-- a set as set() lays it -/
abbrev bareSet (w : World) : Obj := { cls := .type "set", dict := none, data := .set #[] 0 (.fresh 0 0 (!w.params.followText "set-order")) }
section
variable {P : Program} {w : World} {A : Around} {E : Value → Shared → Prop} {s : Shared}
theorem set_of_list {l : Addr} {items : Array Value} (ns : List Int) {Q : Value → Shared → Prop} (hd : A.handled = none) (isL : s.heap.IsList l items) (hIA : IntsAre items.toList ns) (few : ns.length + 1 < scanBound)
    (out : ∀ (h' : Heap) (tk c : Nat), SetR w h' s.heap.objs.size (fun j => decide (j ∈ ns)) c → c ≤ ns.length → (∀ b o, s.heap.get? b = some o → h'.get? b = some o) → Q (.ref s.heap.objs.size) { s with heap := h', toks := tk }) :
    wpAny (model P w) A (call (.type "set") [.ref l]) Q E s := by
  have len : items.size = ns.length := (Array.length_toList (xs := items)).symm.trans (IntsAre.length hIA)
  obtain ⟨cc, tl, mro⟩ := PySem.F.called_set.mro
  have made := PySem.F.called_set.made
  have sb := PySem.F.called_set.sub
  have nty := PySem.F.called_set.notType
  have can := PySem.F.called_set.canCreate
  have tcall := PySem.F.typeCall_set_1 (.ref l)
  refine wpAny_call (codeAny_of_tree (show wpAny _ _ (callAny (.type "set") _) _ _ _ from ?_))
  refine wpAny_pure ⟨Code.quiet_builtin _ (by decide +kernel), codeAny_builtin PySem.F.entry_type_call ?_⟩
  rw [Around.under_plain (weight_type_call_type "set" [.ref l] []) rfl]
  repeat (any_goals (first | assumption | wp_step))
  refine codeAny_mono (code_set_led1 (.ref l) (E := E) (Q₁ := fun obj s1 => obj = .ref s.heap.objs.size ∧ s1 = { s with heap := s.heap.push (bareSet w) }) ⟨rfl, rfl⟩) ?_
  rintro (er | fl) s1 hr
  · exact hr
  cases fl with
  | next => exact hr.elim
  | brk => exact hr.elim
  | cont => exact hr.elim
  | ret obj =>
    obtain ⟨rfl, rfl⟩ := hr
    have atS : (s.heap.push (bareSet w)).get? s.heap.objs.size = some (bareSet w) := Heap.get?_push_size _ rfl
    have tyS : Shared.TypeIs { s with heap := s.heap.push (bareSet w) } (.ref s.heap.objs.size) "set" := ⟨_, atS, rfl⟩
    have lki := PySem.F.called_set.init.lookup
    have bdi := PySem.F.called_set.init.bind (.ref s.heap.objs.size)
    repeat (any_goals (first | assumption | wp_step))
    refine codeAny_mono (codeAny_call_builtin (R := wants (fun r s2 => r = .none ∧ ∃ h' tk c, s2 = { s with heap := h', toks := tk } ∧ SetR w h' s.heap.objs.size (fun j => decide (j ∈ ns)) c ∧ c ≤ ns.length ∧
      (∀ b o, s.heap.get? b = some o → h'.get? b = some o)) E) PySem.F.called_set.init.plain PySem.F.entry_set_init (check_set_init_1 tyS ?_)) ?_
    · obtain ⟨⟨oc, od, dt, sl⟩, gl, cl, nl, dl⟩ := isL
      dsimp only at cl dl
      subst cl dl
      have gl1 : (s.heap.push (bareSet w)).get? l = some { cls := .type "list", dict := od, data := .seq items nl, slots := sl } := Heap.get?_push_of_some _ gl
      have sub1 := PySem.F.sub_list_set
      have sub2 := PySem.F.sub_list_frozenset
      have noD : (Value.type "list" == Value.type "dict") = false := by decide
      have isL1 : (s.heap.push (bareSet w)).IsList l items := ⟨_, gl1, rfl, nl, rfl⟩
      unfold Builtin.«set.__init__» noKeywords Builtin.Frozenset.updateFrom
      generalize hIt : pyIter = It1
      wp_walk
      subst hIt
      refine wpAny_pyIter_list isL1 (wpAny_bind (wpAny_runValue ?_))
      have lS : l < s.heap.objs.size := Heap.lt_size gl
      have sz1 : (s.heap.push (bareSet w)).objs.size = s.heap.objs.size + 1 := Heap.size_push ..
      have neI : l ≠ (s.heap.push (bareSet w)).objs.size := by rw [sz1]; exact Nat.ne_of_lt (Nat.lt_succ_of_lt lS)
      have vals : ∀ (i : Nat) (v : Value), items[i]? = some v → ∃ k t, ns[i]? = some k ∧ v = .int k t := by
        intro i v hv
        have hi : i < ns.length := len ▸ (Array.getElem?_eq_some_iff.mp hv).1
        obtain ⟨t, e⟩ := PyProof.Rows.IntsAre.int_at hIA i v (by rw [Array.getElem?_toList]; exact hv)
        exact ⟨ns[i], t, List.getElem?_eq_getElem hi, by rw [e, List.getD_eq_getElem?_getD, List.getElem?_eq_getElem hi]; rfl⟩
      have hd3 : A.in1.in1.in1.handled = none := by simp [hd]
      refine set_update_ints ((Walks.list hd3 _ l neI items).toS) s.heap.objs.size ?_ ns len few vals (items.size - 0) 0 _ (by omega) (Nat.zero_le _)
        ⟨⟨_, Heap.get?_push_size _ rfl, rfl, rfl⟩, isL1.push _⟩ ⟨0, Nat.le_refl 0, setR_new_at (Heap.get?_push_of_some _ atS)⟩ ?_
      · rw [sz1]
        simp only [List.mem_cons, List.not_mem_nil, or_false, not_or]
        exact ⟨Nat.ne_of_lt (Nat.lt_succ_self _), Nat.ne_of_gt lS⟩
      · rintro ⟨h', g2, d', tk', os'⟩ c' mv le' R'
        obtain rfl : g2 = s.gens := mv.gens
        obtain rfl : d' = s.drawn := mv.drawn
        obtain rfl : os' = s.os := mv.os
        show wpAny _ _ _ _ _ _
        refine wpAny_pure ?_
        show wpAny _ _ (ret Value.none) _ _ _
        refine wpAny_pure ⟨rfl, h', tk', c', rfl, R', len ▸ le', fun b o e => mv.heap b o ?_ (Heap.get?_push_of_some _ (Heap.get?_push_of_some _ e))⟩
        have lb : b < s.heap.objs.size := Heap.lt_size e
        simp only [List.mem_cons, List.not_mem_nil, or_false, not_or]
        refine ⟨Nat.ne_of_lt lb, ?_⟩
        rw [sz1]; exact Nat.ne_of_lt (Nat.lt_succ_of_lt lb)
    · rintro (er | fl) s2 h2
      · exact h2
      cases fl with
      | next => exact h2.elim
      | brk => exact h2.elim
      | cont => exact h2.elim
      | ret r =>
        obtain ⟨rfl, h', tk, c, rfl, R', le', kp⟩ := h2
        repeat (any_goals (first | assumption | wp_step))
        exact out _ _ _ R' le' kp
end
section
variable {X : Cx}
theorem ints_from {us : List Value} : ∀ {ns : List Int}, Vals (ns.map V.int) us → IntsAre us ns := by
  intro ns r
  exact RZ.intsAre_vals r
/-- set(xs), a list of ints: a set that knows its order's table -/
theorem cr_setL (hc : X.calm = true) : CallR X (.type "set") (fun xs H Q => ∃ (a : Addr) (ns : List Int), xs = [.ref a] ∧ SqL X.K H a (ns.map V.int) ∧ ns.length ≤ 60 ∧
    ∀ p n, H p = none → n ≤ ns.length → Q (.ref p) (upd H p (SetO X.w p (fun j => decide (j ∈ ns)) n))) := by
  rintro pins s σ H xs us Q I r ⟨a, ns, rfl, ha, hl, q⟩
  obtain ⟨u, rfl, ru⟩ := vals1 r
  cases (show u = Value.ref a from ru)
  obtain ⟨its, rv, pl, hz⟩ := I.list ha
  refine set_of_list ns (I.ok.hd hc) pl.isList (by simpa using ints_from rv) (by unfold scanBound; omega) fun h' tk c R le kp => ?_
  exact ⟨.ref s.heap.objs.size, upd H s.heap.objs.size (SetO X.w s.heap.objs.size (fun j => decide (j ∈ ns)) c), I.laid (t' := tk) kp (Nat.le_refl _) (setO_new R), rfl, q _ _ (I.hok.fresh (Nat.le_refl _)) le⟩

/-! ### tuples that are known to the object; dict() of such -/
def TupZ (H : Hp) (a : Addr) (xs : List V) : Prop := ∃ o : Obj, o.dict = none ∧ H a = some (.frz o (.tup xs))
theorem TupZ.sq {K : PySem.W.Frag} {H : Hp} {a : Addr} {xs : List V} (h : TupZ H a xs) : SqT K H a xs := by
  obtain ⟨o, _, e⟩ := h
  exact .inl (.inr ⟨o, e⟩)
theorem cr_tupleZ : CallR X (.type "tuple") (fun xs H Q => ∃ p ys, xs = [.ref p] ∧ SqL X.K H p ys ∧ ∀ l (o : Obj), H l = none → o.dict = none → Q (.ref l) (upd H l (.frz o (.tup ys)))) := by
  rintro pins s σ H xs us Q I r ⟨p, ys, rfl, hq, q⟩
  obtain ⟨u, rfl, rx⟩ := vals1 r
  cases (show u = Value.ref p from rx)
  obtain ⟨its, r', pl, hz⟩ := I.list hq
  have e := r'.length
  refine call_tuple_list pl.isList (fun h' kp => ?_) (by rw [List.size_toArray]; omega)
  have I1 : Inv X pins σ H { s with heap := h' } := I.kept (t' := s.toks) kp
  refine ⟨.ref h'.objs.size, upd H h'.objs.size (.frz { cls := .type "tuple", data := .seq its.toArray } (.tup ys)), I1.laid (t' := s.toks) (fun b o e => Heap.get?_push_of_some _ e) (Nat.le_refl _) ?_, rfl, q _ _ (I1.hok.fresh (Nat.le_refl _)) rfl⟩
  exact ⟨Heap.get?_push_size _ rfl, hz, its, r', IsTup.new _ _⟩
theorem prs_at {pins : List (Addr × Obj)} {σ : L2.St} {H : Hp} {s : Shared} (I : Inv X pins σ H s) : ∀ {ps : List Addr} {kvs : List (Key × V)}, Paired (fun p (kv : Key × V) => H p = some (.tup [kV kv.1, kv.2])) ps kvs →
    Paired (fun p (kv : Key × V) => SqT X.K H p [kV kv.1, kv.2]) ps kvs
  | _, _, .nil => .nil
  | _, _, .cons h t => .cons (SqT.of h) (prs_at I t)
/-- dict(t), t a tuple of pairs -/
theorem cr_dictZ (hc : X.calm = true) : CallR X (.type "dict") (fun xs H Q => ∃ (a : Addr) (ps : List Addr) (kvs : List (Key × V)), xs = [.ref a] ∧ TupZ H a (ps.map V.ref) ∧ Paired (fun p (kv : Key × V) => H p = some (.tup [kV kv.1, kv.2])) ps kvs ∧
    ∀ p, H p = none → Q (.ref p) (upd H p (.dK (mergeK [] kvs)))) := by
  rintro pins s σ H xs us Q I r ⟨a, ps, kvs, rfl, ⟨o, hdn, ha⟩, hp, q⟩
  obtain ⟨u, rfl, ru⟩ := vals1 r
  cases (show u = Value.ref a from ru)
  obtain ⟨ho, hz, its, rv, o', e1, hcl, n, hdat⟩ := (show ObjOk X.prog X.w H s.heap a (.frz o (.tup (ps.map V.ref))) from I.hok a _ ha)
  rw [ho] at e1
  cases e1
  cases refs_at rv
  rw [List.length_map] at hz
  obtain ⟨prs, rel, hl, hpr⟩ := pairs_of I (prs_at I hp)
  have hkl : kvs.length = prs.length := rel.length
  -- each pair's own key object
  have hks : ∃ ws : List (Value × Value), ws.length = ps.length ∧ ∀ (j : Nat) (k v : Value), ws[j]? = some (k, v) → ∃ (q : Key × Value) (b : Addr), prs[j]? = some q ∧ ps[j]? = some b ∧ v = q.2 ∧ keyIs q.1 k = true ∧ IsTup s.heap b #[k, v] := by
    clear q hp rel hkl
    induction ps generalizing prs with
    | nil => exact ⟨[], rfl, fun j k v e => by simp at e⟩
    | cons p ps ih =>
      cases prs with
      | nil => simp at hl
      | cons x prs =>
        obtain ⟨b, u, g1, g2, g3⟩ := hpr 0 x rfl
        obtain ⟨ws, w1, w2⟩ : ∃ ws : List (Value × Value), ws.length = ps.length ∧ ∀ (j : Nat) (k v : Value), ws[j]? = some (k, v) → ∃ (q : Key × Value) (b : Addr), prs[j]? = some q ∧ ps[j]? = some b ∧ v = q.2 ∧ keyIs q.1 k = true ∧ IsTup s.heap b #[k, v] := by
          have hpr' : ∀ (j : Nat) (q : Key × Value), prs[j]? = some q → ∃ (b : Addr) (u : Value), ps[j]? = some b ∧ IsTup s.heap b #[u, q.2] ∧ keyIs q.1 u = true := fun j q e => by
            obtain ⟨b, u, f1, f2, f3⟩ := hpr (j + 1) q (by simpa using e)
            exact ⟨b, u, by simpa using f1, f2, f3⟩
          clear ih
          have hl' : prs.length = ps.length := by simpa using hl
          refine ⟨(List.range ps.length).map fun j => match h : prs[j]? with
            | some q => (Classical.choose (Classical.choose_spec (hpr' j q h)), q.2)
            | none => (Value.none, Value.none), by simp, fun j k v e => ?_⟩
          have hj : j < ps.length := by
            have := (List.getElem?_eq_some_iff.mp e).1
            simpa using this
          have hj' : j < prs.length := by omega
          rw [List.getElem?_map, List.getElem?_range hj] at e
          have e := Option.some.inj e
          have hq : prs[j]? = some prs[j] := List.getElem?_eq_getElem hj'
          revert e
          show (match h : prs[j]? with | some q => _ | none => _) = (k, v) → _
          split
          · rename_i q h
            intro e
            obtain ⟨f1, f2, f3⟩ := Classical.choose_spec (Classical.choose_spec (hpr' j q h))
            have ek := congrArg Prod.fst e
            have ev := congrArg Prod.snd e
            dsimp only at ek ev
            rw [← ek, ← ev]
            exact ⟨q, _, h, f1, rfl, f3, f2⟩
          · rename_i h
            rw [hq] at h; cases h
        refine ⟨(u, x.2) :: ws, by simp [w1], fun j k v e => ?_⟩
        cases j with
        | zero =>
          cases (Option.some.inj e)
          exact ⟨x, b, rfl, by simpa using g1, rfl, g3, g2⟩
        | succ j =>
          obtain ⟨q, c, f1, f2, f3, f4, f5⟩ := w2 j k v (by simpa using e)
          exact ⟨q, c, by simpa using f1, by simpa using f2, f3, f4, f5⟩
  obtain ⟨ws, wl, hw⟩ := hks
  refine PySem.call_dict_pairs (knd := mixKind X.prog X.w) (kvs := prs) (PairArg.tuple a (ps.map Value.ref).toArray (fun j => ps.getD j 0) ws) (I.ok.hd hc)
    ⟨⟨o, n, ho, hcl, hdn, hdat⟩, by rw [List.size_toArray, List.length_map, wl], fun j k v e => ?_⟩ ⟨by rw [wl, hl], fun j k v e => ?_⟩ (by rw [wl]; exact hz) fun h' tk hd' hk => ?_
  · obtain ⟨q, b, f1, f2, f3, f4, f5⟩ := hw j k v e
    have gd : ps.getD j 0 = b := by rw [List.getD_eq_getElem?_getD, f2]; rfl
    refine ⟨?_, .inl ?_⟩
    · rw [List.getElem?_toArray, List.getElem?_map, f2]
      show some (Value.ref b) = some (Value.ref (ps.getD j 0))
      rw [gd]
    · show s.heap.IsTuple (ps.getD j 0) _
      rw [gd]; exact f5
  · obtain ⟨q, b, f1, f2, f3, f4, f5⟩ := hw j k v e
    exact ⟨q.1, by rw [f1, f3], f4⟩
  · have kp : ∀ b o, s.heap.get? b = some o → h'.get? b = some o := fun b o e => hk b o (fun z => nomatch z) e
    have le : (mergeK [] kvs).length ≤ sizeLine := by
      have h1 := length_mergeK kvs []
      rw [List.length_nil, Nat.zero_add] at h1
      omega
    exact ⟨.ref s.heap.objs.size, upd H s.heap.objs.size (.dK (mergeK [] kvs)), I.laid (t' := tk) kp (Nat.le_refl _) (show ObjOk X.prog X.w _ _ _ (.dK _) from ⟨le, notMods I (Nat.le_refl _), merged [] prs, KV.merge rel .nil, hd'⟩), rfl, q _ (I.hok.fresh (Nat.le_refl _))⟩
end
end K06
namespace K06
open PySem PySem.Spec PyProof.Rows L2
/-! ### a dict whose keys are pairs of a place (a tuple) and an int, each with True -/
abbrev PlV := (Int × Int) × Int
def nkOf (p : PlV) : NestedKey := .tup [.tup [.num p.1.1, .num p.1.2], .num p.2]
theorem nk_inj {p q : PlV} (h : nkOf p = nkOf q) : p = q := by
  obtain ⟨⟨a, b⟩, c⟩ := p
  obtain ⟨⟨d, e⟩, f⟩ := q
  simp only [nkOf, NestedKey.tup.injEq, List.cons.injEq, NestedKey.num.injEq, and_true] at h
  obtain ⟨⟨h1, h2⟩, h3⟩ := h
  rw [h1, h2, h3]
def nxs (xs : List (PlV × Addr)) : List (NestedKey × Addr × Value) := xs.map fun x => (nkOf x.1, x.2, Value.bool true)
def NDx (P : Program) (w : World) (a : Addr) (xs : List (PlV × Addr)) (h : Heap) : Prop :=
  ((a == sysModules) = false ∧ (xs.map (·.1)).Nodup ∧ xs.length ≤ 100000) ∧ ∃ o es ep, h.get? a = some o ∧ o.ExactDict ∧ o.data = .dict es ep ∧ es.toList = (nxs xs).map (entryOfKey (nestedKind P w))
def ND (P : Program) (w : World) (a : Addr) (xs : List (PlV × Addr)) : HO := .ext (NDx P w a xs)
/-- the tuple at b is the pair p -/
def KeyN (H : Hp) (p : PlV) (b : Addr) : Prop := ∃ c, H b = some (.tup [.ref c, .int p.2]) ∧ H c = some (.tup [.int p.1.1, .int p.1.2])
def addN (xs : List (PlV × Addr)) (p : PlV) (b : Addr) : List (PlV × Addr) := if p ∈ xs.map (·.1) then xs else xs ++ [(p, b)]
theorem addN_keys (xs : List (PlV × Addr)) (p : PlV) (b : Addr) : (addN xs p b).map (·.1) = addK (xs.map (·.1)) p := by
  unfold addN addK
  split
  · rfl
  · rw [List.map_append]; rfl
theorem addN_mem {xs : List (PlV × Addr)} {p : PlV} {b : Addr} : ∀ x ∈ addN xs p b, x ∈ xs ∨ x = (p, b) := by
  unfold addN
  intro x hx
  split at hx
  · exact .inl hx
  · rcases List.mem_append.mp hx with h | h
    · exact .inl h
    · exact .inr (by simpa using h)
theorem addN_len (xs : List (PlV × Addr)) (p : PlV) (b : Addr) : (addN xs p b).length ≤ xs.length + 1 := by
  unfold addN; split <;> simp
theorem nxs_keys (xs : List (PlV × Addr)) : (nxs xs).map (·.1) = (xs.map (·.1)).map nkOf := by
  unfold nxs; rw [List.map_map, List.map_map]; rfl
theorem nxs_nodup {xs : List (PlV × Addr)} (h : (xs.map (·.1)).Nodup) : ((nxs xs).map (·.1)).Nodup := by
  rw [nxs_keys]
  exact List.pairwise_map.mpr (h.imp fun hn e => hn (nk_inj e))
theorem nxs_any (xs : List (PlV × Addr)) (p : PlV) : (atKey (nxs xs) (nkOf p)).isSome = true ↔ p ∈ xs.map (·.1) := by
  induction xs with
  | nil => simp [nxs, atKey]
  | cons x xs ih =>
    by_cases h : x.1 = p
    · have : (atKey (nxs (x :: xs)) (nkOf p)).isSome = true := by simp [nxs, atKey, h]
      rw [this]
      exact ⟨fun _ => by rw [List.map_cons, h]; exact List.mem_cons_self, fun _ => rfl⟩
    · have h2 : ¬ nkOf x.1 = nkOf p := fun e => h (nk_inj e)
      have : atKey (nxs (x :: xs)) (nkOf p) = atKey (nxs xs) (nkOf p) := by simp [nxs, atKey, h2]
      rw [this, ih]
      constructor
      · intro q; exact List.mem_cons_of_mem _ q
      · intro q
        rcases List.mem_cons.mp q with e | e
        · exact absurd e.symm h
        · exact e
theorem nxs_put (xs : List (PlV × Addr)) (p : PlV) (b : Addr) : storedH (nxs xs) (nkOf p) b (.bool true) = nxs (addN xs p b) := by
  unfold storedH addN
  by_cases h : p ∈ xs.map (·.1)
  · rw [if_pos ((nxs_any xs p).mpr h), if_pos h]
    unfold nxs
    rw [List.map_map]
    refine List.map_congr_left fun x _ => ?_
    show putAt (nkOf p) (.bool true) (nkOf x.1, x.2, .bool true) = _
    unfold putAt
    split <;> rfl
  · rw [if_neg (fun z => h ((nxs_any xs p).mp z)), if_neg h]
    unfold nxs
    rw [List.map_append]; rfl
section
variable {X : Cx} {pins : List (Addr × Obj)} {σ : L2.St} {H : Hp} {s : Shared}
theorem keyN_is (I : Inv X pins σ H s) {p : PlV} {b : Addr} (h : KeyN H p b) : (nestedKind X.prog X.w).is s.heap (nkOf p) b := by
  obtain ⟨c, h1, h2⟩ := h
  obtain ⟨_, its, rv, o, e1, e2, n, e3⟩ := I.hok b _ h1
  obtain ⟨_, its2, rv2, o2, f1, f2, n2, f3⟩ := I.hok c _ h2
  obtain ⟨u, v, rfl, ru, rx⟩ := vals2 rv
  obtain ⟨u2, v2, rfl, ru2, rx2⟩ := vals2 rv2
  cases (show u = Value.ref c from ru)
  obtain ⟨t, rfl⟩ := (show ∃ t, v = Value.int p.2 t from rx)
  obtain ⟨t2, rfl⟩ := (show ∃ t, u2 = Value.int p.1.1 t from ru2)
  obtain ⟨t3, rfl⟩ := (show ∃ t, v2 = Value.int p.1.2 t from rx2)
  refine ⟨.tup e1 e2 e3 (.cons (.tup f1 f2 f3 (.cons (.int _ _) (.cons (.int _ _) .nil))) (.cons (.int _ _) .nil)), ?_⟩
  simp [nkOf, NestedKey.depth, NestedKey.depthAll]
theorem nd_of (I : Inv X pins σ H s) {a : Addr} {xs : List (PlV × Addr)} (h : NDx X.prog X.w a xs s.heap) (hk : ∀ x ∈ xs, KeyN H x.1 x.2) : s.heap.DictOfH (nestedKind X.prog X.w) a (nxs xs) := by
  obtain ⟨⟨h1, h2, _⟩, o, es, ep, g1, g2, g3, g4⟩ := h
  refine ⟨o, es, ep, g1, g2, g3, g4, fun y hy => ?_, nxs_nodup h2⟩
  obtain ⟨x, hx, rfl⟩ := List.mem_map.mp hy
  exact keyN_is I (hk x hx)
theorem nd_ok {P : Program} {w : World} {H : Hp} {h : Heap} {a : Addr} {xs : List (PlV × Addr)} (x : NDx P w a xs h) : ObjOk P w H h a (ND P w a xs) := by
  refine ⟨x, ?_, fun h1 h2 p k => ?_⟩
  · obtain ⟨_, o, _, _, e, _⟩ := x
    exact ⟨o, e⟩
  · obtain ⟨q, o, es, ep, e, r⟩ := p
    exact ⟨q, o, es, ep, k o e, r⟩
/-- {} as such a dict -/
theorem pe_dnewN {pos : Pos} : PE X (.Dict [] [] pos) (fun _ H Q => ∀ p, H p = none → Q (.ref p) (upd H p (ND X.prog X.w p []))) := by
  constructor
  intro pins s σ H Q I h
  have hf : H s.heap.objs.size = none := I.hok.fresh (Nat.le_refl _)
  refine wpAny_Dict_empty ⟨.ref s.heap.objs.size, _, I.laid (t' := s.toks) (fun b u e => Heap.get?_push_of_some _ e) (Nat.le_refl _) (nd_ok (xs := []) ⟨⟨?_, List.nodup_nil, Nat.zero_le _⟩, _, #[], 0, Heap.get?_push_size _ rfl, ⟨rfl, rfl, rfl⟩, rfl, rfl⟩), rfl, h _ hf⟩
  exact beq_eq_false_iff_ne.mpr (Ne.symm (Nat.ne_of_lt I.big))
/-- d[(p, v)] = True -/
theorem set_nd (hu : X.A.units + 64 < cLine) : PSet X (fun o i v H Q => ∃ (a : Addr) (xs : List (PlV × Addr)) (p : PlV) (b : Addr), o = .ref a ∧ i = .ref b ∧ v = .bl true ∧ H a = some (ND X.prog X.w a xs) ∧ KeyN H p b ∧
    (∀ x ∈ xs, KeyN H x.1 x.2) ∧ xs.length < 100000 ∧ Q (upd H a (ND X.prog X.w a (addN xs p b)))) := by
  rintro pins s σ H o i v ov iv u Q I ro ri rv ⟨a, xs, p, b, rfl, rfl, rfl, ha, hb, hk, hl, q⟩
  cases (show ov = Value.ref a from ro)
  cases (show iv = Value.ref b from ri)
  cases (show u = Value.bool true from rv)
  have x : NDx X.prog X.w a xs s.heap := (I.hok a _ ha).1
  have dd := nd_of I x hk
  obtain ⟨⟨h1, h2, _⟩, _⟩ := x
  have hz : (nxs xs).length ≤ sizeLine := by
    unfold nxs; rw [List.length_map, sizeLine_eq]; omega
  refine wpAny_setItem_heap (hsz := hz) (show (nestedKind X.prog X.w).room X.A.in1 by show X.A.units + 1 + 8 < cLine; omega) (keyN_is I hb) dd fun h' dd' hs => ?_
  rw [nxs_put] at dd'
  obtain ⟨ob, es, ep, g1, g2, g3, g4, _, _⟩ := dd'
  have nd : ((addN xs p b).map (·.1)).Nodup := by rw [addN_keys]; exact nodup_addK p h2
  have ln := addN_len xs p b
  refine ⟨_, d_write (t' := s.toks + (nestedKind X.prog X.w).draws (nkOf p)) I (by rw [ha]; trivial) hs ⟨ob, g1⟩ (nd_ok ⟨⟨h1, nd, by omega⟩, ob, es, ep, g1, g2, g3, g4⟩), q⟩
end

/-! ### its keys walked -/
def ItN (P : Program) (w : World) (d : Addr) (o : Obj) (xs : List (PlV × Addr)) : It :=
  ⟨fun i H => H d = some (.frz o (ND P w d xs)) ∧ i < xs.length, fun i H x H' => H' = H ∧ ∃ p b, xs[i]? = some (p, b) ∧ x = .ref b, fun i H => H d = some (.frz o (ND P w d xs)) ∧ xs.length ≤ i⟩
theorem walk_nd {P : Program} {w : World} {d : Addr} {o : Obj} {xs : List (PlV × Addr)} : Walk (ItN P w d o xs) xs.length (fun H => H d = some (.frz o (ND P w d xs))) (fun i H x H' => H' = H ∧ ∃ p b, xs[i]? = some (p, b) ∧ x = .ref b) :=
  ⟨fun _ _ hi q => ⟨q, hi⟩, fun _ q => ⟨q, Nat.le_refl _⟩, fun _ _ _ _ _ _ y => y⟩
theorem frzN {X : Cx} {pins : List (Addr × Obj)} {σ : L2.St} {H : Hp} {s : Shared} {d : Addr} {o : Obj} {xs : List (PlV × Addr)} (I : Inv X pins σ H s) (h : H d = some (.frz o (ND X.prog X.w d xs))) :
    (d == sysModules) = false ∧ s.heap.get? d = some o ∧ o.ExactDict ∧ ∃ (es : Array DictEntry) (ep : Nat), o.data = .dict es ep ∧ es.size = xs.length ∧
      ∀ (i : Nat) (p : PlV) (b : Addr), xs[i]? = some (p, b) → ∃ en : DictEntry, es[i]? = some en ∧ en.key = .ref b := by
  obtain ⟨hd, ⟨⟨h1, _, _⟩, o', es, ep, g1, g2, g3, g4⟩, _⟩ := I.hok d _ h
  rw [hd] at g1
  cases g1
  refine ⟨h1, hd, g2, es, ep, g3, ?_, fun i p b e => ?_⟩
  · rw [size_of_entries g4]; unfold nxs; rw [List.length_map]
  · have q := entry_at g4 i
    unfold nxs at q
    rw [List.getElem?_map, e] at q
    exact ⟨_, q, rfl⟩
theorem turn_nd {P : Program} {w : World} {K : PySem.W.Frag} {tg : Expr} {d : Addr} {o : Obj} {es : Array DictEntry} {ep : Nat} {xs : List (PlV × Addr)} (it : Addr) (hod : o.data = .dict es ep) :
    Turn P w K tg (ItN P w d o xs) [it] it (fun i h => h.IsKeyIter it d i xs.length ep) where
  mem := List.mem_cons_self
  obj := by
    intro i h st b hb
    cases List.mem_singleton.mp hb
    obtain ⟨oi, e, _, dd⟩ := st
    exact ⟨oi, e, fun v z => nomatch dd.symm.trans z⟩
  keep := fun i h h' st k => st.at fun oi e => k it List.mem_cons_self oi e
  item := by
    intro X hP hw hK hc i pins s σ H E I hf st hg
    subst hP hw hK
    obtain ⟨g0, g1, g2, g3, g4, g5⟩ := hf it List.mem_cons_self
    obtain ⟨q1, q2⟩ := hg
    obtain ⟨_, hgd, _, es', ep', hdt, hsz, ent⟩ := frzN I q1
    cases hod.symm.trans hdt
    obtain ⟨en, e1, e2⟩ := ent i xs[i].1 xs[i].2 (List.getElem?_eq_getElem q2)
    refine next_key_item st hgd hdt hsz e1 fun h' st' sb => ?_
    have J : Inv X pins σ H { s with heap := h' } := I.turned (t' := s.toks) (fun b ob hb e => (sb.2 b hb).trans e) g0 g1 g3 g4 g5
    obtain ⟨oi, e, c, dd⟩ := id st'
    refine ⟨en.key, rfl, go_of (s := { s with heap := h' }) e c dd (by decide) ⟨.ref xs[i].2, H, J, e2, ⟨rfl, xs[i].1, xs[i].2, List.getElem?_eq_getElem q2, rfl⟩, st', fun b hb => (hf b hb).1⟩⟩
  done := by
    intro X hP hw hK hc i pins s σ H E I hf st hg
    subst hP hw hK
    obtain ⟨g0, g1, g2, g3, g4, g5⟩ := hf it List.mem_cons_self
    obtain ⟨q1, q2⟩ := hg
    obtain ⟨_, hgd, _, es', ep', hdt, hsz, ent⟩ := frzN I q1
    cases hod.symm.trans hdt
    exact next_key_end (I.ok.hd hc) st hgd hdt hsz q2 fun h' eb => ⟨rfl, I.turned (t' := s.toks) (fun b ob hb e => eb b ob hb e) g0 g1 g3 g4 g5⟩
  self := by
    intro A i s Q E st h
    refine wpAny_pyIter_slot st.typeIs PySem.F.slot_dict_keyiterator_iter (wpAny_call_entry PySem.F.slot_dict_keyiterator_iter st.typeIs PySem.F.entry_dict_keyiterator_iter ?_ (PySem.F.args_dict_keyiterator_iter_1 _))
    exact wpAny_pure ⟨_, rfl, "dict_keyiterator", _, st.typeIs, PySem.F.slot_dict_keyiterator_next.lookup, h⟩
def iKeysN (P : Program) (w : World) (td : TE) : TI := fun σ H R => td σ H fun x H1 => ∃ d o xs, x = .ref d ∧ H1 d = some (.frz o (ND P w d xs)) ∧ R (ItN P w d o xs) H1
theorem pi_keysN {X : Cx} {tg e : Expr} {td : TE} (he : PE X e td) : PI X tg e (iKeysN X.prog X.w td) := by
  constructor
  intro pins s σ H R I h
  refine thn (he.run pins s σ H _ I h) ?_
  rintro u s1 ⟨x, H1, I1, rx, d, o, xs, rfl, hd, q⟩
  cases (show u = Value.ref d from rx)
  obtain ⟨hs, hgd, hx, es, ep, hdt, hsz, ent⟩ := frzN I1 hd
  refine iter_keys hs hgd hx hdt (pi_one (tk := s1.toks) I1 _ (turn_nd _ hdt) ⟨_, Heap.get?_push_size _ rfl, rfl, ?_⟩ q)
  rw [hsz]; rfl

/-! ### zip of a list and a tuple -/
def ItzM (K : PySem.W.Frag) (a b : Addr) : It :=
  ⟨fun i H => ∃ (xs ys : List V), SqL K H a xs ∧ SqT K H b ys ∧ i < min xs.length ys.length,
    fun i H v H' => ∃ T x y, v = .ref T ∧ H T = none ∧ H' = upd H T (.tup [x, y]) ∧ (∀ xs, SqL K H a xs → xs[i]? = some x) ∧ ∀ ys, SqT K H b ys → ys[i]? = some y,
    fun i H => ∃ xs ys : List V, SqL K H a xs ∧ SqT K H b ys ∧ i = min xs.length ys.length⟩
theorem walk_zipM {K : PySem.W.Frag} {a b : Addr} {xs ys : List V} : Walk (ItzM K a b) (min xs.length ys.length) (fun H => SqL K H a xs ∧ SqT K H b ys) (YPair (fun i => xs[i]?) (fun i => ys[i]?)) := by
  refine ⟨fun i H hi q => ⟨xs, ys, q.1, q.2, hi⟩, fun H q => ⟨xs, ys, q.1, q.2, rfl⟩, fun i H v H' _ q y => ?_⟩
  obtain ⟨T, x, z, h1, h2, h3, h4, h5⟩ := y
  exact ⟨T, x, z, h1, h2, h3, h4 xs q.1, h5 ys q.2⟩
theorem zip_sep {z TI TO i1 i2 a b : Addr} (D : ZipApart z TI TO i1 i2 a b) : ZipSep2 z TI TO i1 i2 [i1, a] [i2, b] where
  TIz := D.TIz
  TOz := D.TOz
  TITO := D.TITO
  TIi1 := D.TIi1
  mem1 := by simp
  zf1 := by simp [Ne.symm D.i1z, Ne.symm D.l1z]
  Tf1 := by simp [D.TOi1, Ne.symm D.l1TO]
  TIi2 := D.TIi2
  mem2 := by simp
  zf2 := by simp [Ne.symm D.i2z, Ne.symm D.l2z]
  Tf2 := by simp [D.TOi2, Ne.symm D.l2TO]
  sep1_2 := by simp [D.i12, Ne.symm D.l2i1]
  sep2_1 := by simp [Ne.symm D.i12, Ne.symm D.l1i2]
theorem turn_zipM {P : Program} {w : World} {K : PySem.W.Frag} {elts : List Expr} {kk : Nat} {tpos : Pos} {a b z TI TO i1 i2 : Addr} (D : ZipApart z TI TO i1 i2 a b) :
    Turn P w K (.Tuple elts kk tpos) (ItzM K a b) [z, TI, TO, i1, i2] z (fun i h => IsZip h z TI TO .none ∧ IsTupOf2 h TI (.ref i1) (.ref i2) ∧ (∃ x y, IsTupOf2 h TO x y) ∧ h.IsListIter i1 a i ∧ h.IsTupleIter i2 b i) where
  mem := List.mem_cons_self
  obj := by
    rintro i h ⟨hz, hTI, ⟨x, y, hTO⟩, ⟨o1, e1, _, d1⟩, ⟨o2, e2, _, d2⟩⟩ c hc
    simp only [List.mem_cons, List.not_mem_nil, or_false] at hc
    rcases hc with rfl | rfl | rfl | rfl | rfl
    · exact ⟨_, hz, fun v q => nomatch q⟩
    · exact ⟨_, hTI, fun v q => nomatch q⟩
    · exact ⟨_, hTO, fun v q => nomatch q⟩
    · exact ⟨o1, e1, fun v q => nomatch d1.symm.trans q⟩
    · exact ⟨o2, e2, fun v q => nomatch d2.symm.trans q⟩
  keep := by
    rintro i h h' ⟨hz, hTI, ⟨x, y, hTO⟩, h1, h2⟩ k
    have kk : ∀ c ∈ [z, TI, TO, i1, i2], ∀ o, h.get? c = some o → h'.get? c = some o := k
    exact ⟨kk z (by simp) _ hz, kk TI (by simp) _ hTI, ⟨x, y, kk TO (by simp) _ hTO⟩, h1.at fun o q => kk i1 (by simp) o q, h2.at fun o q => kk i2 (by simp) o q⟩
  item := by
    intro X hP hw hK hc i pins s σ H E I hf st hg
    subst hP hw hK
    obtain ⟨hz, hTI, hTO, h1, h2⟩ := st
    obtain ⟨xs, ys, hqx, hqy, hi⟩ := hg
    obtain ⟨its, rv, p, _⟩ := I.list hqx
    obtain ⟨its2, rv2, p2, _⟩ := I.tuple hqy
    have l1 := rv.length
    have l2 := rv2.length
    have W := GoesN.zip2 (prog := X.prog) (w := X.w) (A := X.A) (elts := elts) (x1 := kk) (pos := tpos) (zip_sep D) (Draws.list (A := X.A.in1) (show X.A.in1.handled = none from I.ok.hd hc) i1 a D.l1i1 its.toArray) (Draws.tuple (A := X.A.in1) (show X.A.in1.handled = none from I.ok.hd hc) i2 b D.l2i2 its2.toArray)
    refine W.goes i s _ E (by simp only [List.size_toArray]; omega) ⟨hz, hTI, hTO, ⟨h1, p.isList⟩, ⟨h2, p2⟩⟩ fun v h' tk hY st' hk htk => ?_
    obtain ⟨T, u, u2, rfl, hT, hu, hu2, hTup⟩ := hY
    obtain ⟨ox, eT, cT, nT, dT⟩ := hTup
    have hx : ∃ x, xs[i]? = some x := ⟨xs[i]'(by omega), List.getElem?_eq_getElem (by omega)⟩
    have hy : ∃ y, ys[i]? = some y := ⟨ys[i]'(by omega), List.getElem?_eq_getElem (by omega)⟩
    obtain ⟨x, hx⟩ := hx
    obtain ⟨y, hy⟩ := hy
    obtain ⟨u', e1, ru⟩ := rv.get hx
    obtain ⟨u2', e2, ru2⟩ := rv2.get hy
    have q1 : u' = u := Option.some.inj (e1.symm.trans (by simpa using hu))
    have q2 : u2' = u2 := Option.some.inj (e2.symm.trans (by simpa using hu2))
    subst q1 q2
    have J : Inv X pins σ (upd H T (.tup [x, y])) { s with heap := h', toks := tk } :=
      I.turnedNew (t' := tk) (ch := [z, TO, i1, i2]) hk (fun c hcm => hf c (by simp only [List.mem_cons, List.not_mem_nil, or_false] at hcm ⊢; rcases hcm with q | q | q | q <;> simp [q])) hT
        ⟨by show 2 ≤ sizeLine; decide, [u', u2'], .cons ru (.cons ru2 .nil), ox, eT, cT, nT, dT⟩
    obtain ⟨sz, sTI, sTO, sL, sT⟩ := st'
    refine ⟨.ref T, _, J, rfl, ⟨T, x, y, rfl, I.hok.fresh hT, rfl, fun l hl => by rw [I.list_inj hl hqx]; exact hx, fun l hl => by rw [I.tuple_inj hl hqy]; exact hy⟩, ⟨sz, sTI, sTO, sL.1, sT.1⟩, fun c hcm => ?_⟩
    have hn := (hf c hcm).1
    have hlt : c ≠ T := by
      obtain ⟨_, _, tTO⟩ := hTO
      obtain ⟨o1, t1, _⟩ := h1
      obtain ⟨o2, t2, _⟩ := h2
      simp only [List.mem_cons, List.not_mem_nil, or_false] at hcm
      rcases hcm with rfl | rfl | rfl | rfl | rfl
      · exact Nat.ne_of_lt (Nat.lt_of_lt_of_le (Heap.lt_size hz) hT)
      · exact Nat.ne_of_lt (Nat.lt_of_lt_of_le (Heap.lt_size hTI) hT)
      · exact Nat.ne_of_lt (Nat.lt_of_lt_of_le (Heap.lt_size tTO) hT)
      · exact Nat.ne_of_lt (Nat.lt_of_lt_of_le (Heap.lt_size t1) hT)
      · exact Nat.ne_of_lt (Nat.lt_of_lt_of_le (Heap.lt_size t2) hT)
    rw [upd_ne hlt]; exact hn
  done := by
    intro X hP hw hK hc i pins s σ H E I hf st hg
    subst hP hw hK
    obtain ⟨hz, hTI, hTO, h1, h2⟩ := st
    obtain ⟨xs, ys, hqx, hqy, hi⟩ := hg
    obtain ⟨its, rv, p, _⟩ := I.list hqx
    obtain ⟨its2, rv2, p2, _⟩ := I.tuple hqy
    have l1 := rv.length
    have l2 := rv2.length
    have W := GoesN.zip2 (prog := X.prog) (w := X.w) (A := X.A) (elts := elts) (x1 := kk) (pos := tpos) (zip_sep D) (Draws.list (A := X.A.in1) (show X.A.in1.handled = none from I.ok.hd hc) i1 a D.l1i1 its.toArray) (Draws.tuple (A := X.A.in1) (show X.A.in1.handled = none from I.ok.hd hc) i2 b D.l2i2 its2.toArray)
    have en : i = min its.toArray.size its2.toArray.size := by simp only [List.size_toArray]; omega
    subst en
    refine W.stops s (fun s1 => Inv X pins σ H s1) E ⟨hz, hTI, hTO, ⟨h1, p.isList⟩, ⟨h2, p2⟩⟩ fun h' tk hk htk => ?_
    exact I.turnedL (t' := tk) (ch := [z, TO, i1, i2]) hk fun c hcm => hf c (by simp only [List.mem_cons, List.not_mem_nil, or_false] at hcm ⊢; rcases hcm with q | q | q | q <;> simp [q])
  self := fun A i s Q E st h => wpAny_pyIter_zip st.1 h
def iZipM (K : PySem.W.Frag) (ta : TA) : TI := fun σ H R => ta σ H fun vs H1 => ∃ a b xs ys, vs = [.ref a, .ref b] ∧ SqL K H1 a xs ∧ SqT K H1 b ys ∧ R (ItzM K a b) H1
theorem pi_zipM {X : Cx} {e e2 : Expr} {ta : TA} {p pos tpos : Pos} {elts : List Expr} {kk : Nat} (hg : Gl X "zip") (hm : X.mg "zip" = none) (ha : PA X [e, e2] ta)
    (hs : starEach [e, e2] X.env = (false, eval e X.env) :: starEach [e2] X.env := by rfl) (hpl : (backTo pos (starEach [e2] X.env)).any (·.1) = false := by rfl) :
    PI X (.Tuple elts kk tpos) (.Call (.Name "zip" p) [e, e2] [] pos) (iZipM X.K ta) := by
  constructor
  intro pins s σ H R I h
  refine Call_ (ld_blt I hg hm PyProof.Rows.boot_zip (PyProof.Rows.callWith_type1 (thn (ha.run pos pins s σ H _ I h) ?_) hs hpl))
  rintro us s1 ⟨vs, H1, I1, r1, a, b, xs, ys, rfl, hqx, hqy, q⟩
  obtain ⟨ua, ub, rfl, ra, rb⟩ := vals2 r1
  cases (show ua = Value.ref a from ra)
  cases (show ub = Value.ref b from rb)
  obtain ⟨its, rv, p1, _⟩ := I1.list hqx
  obtain ⟨its2, rv2, p2, _⟩ := I1.tuple hqy
  have hb : b < s1.heap.objs.size := by obtain ⟨_, e, _⟩ := p2; exact Heap.lt_size e
  refine zip_begins2 (begins_list a its.toArray) (begins_tuple b its2.toArray) p1.isList p2 fun h' gz gTI gTO g1 g2 gsz hk => wpAny_pyIter_zip gz ?_
  have I2 : Inv X pins σ H1 { s1 with heap := h' } := I1.kept (t' := s1.toks) hk
  refine ⟨s1.heap.objs.size + 4, [s1.heap.objs.size + 4, s1.heap.objs.size + 2, s1.heap.objs.size + 3, s1.heap.objs.size, s1.heap.objs.size + 1], _, _, H1, rfl, I2,
    turn_zipM (PySem.W.ktu_apart s1.heap.objs.size a b p1.lt hb), ⟨gz, gTI, ⟨_, _, gTO⟩, ⟨_, g1, rfl, rfl⟩, ⟨_, g2, rfl, rfl⟩⟩, fun c hc => ?_, q⟩
  have hle : s1.heap.objs.size ≤ c := by
    simp only [List.mem_cons, List.not_mem_nil, or_false] at hc
    rcases hc with q | q | q | q | q
    · rw [q]; exact Nat.le_add_right _ _
    · rw [q]; exact Nat.le_add_right _ _
    · rw [q]; exact Nat.le_add_right _ _
    · rw [q]; exact Nat.le_refl _
    · rw [q]; exact Nat.le_add_right _ _
  exact I1.fpOk hle (I1.hok.fresh hle)
end K06
namespace K06
open PySem PySem.Spec PyProof.Rows L2
section
variable {X : Cx} {CX : CXT} {k n : Nat} {f C : Addr} {fd : FuncData} {ps ks : List Str} {sp : Sp} {E : XK} {x m : Str} {p pos apos : Pos} {o : Expr} {kws : List Keyword} {ta : TE} {tk : TA} {g : List Value → List Value → List Value} {gV : List V → List V → List V}
/-- f(k = v, ..) -/
theorem pe_callN0 (F : FnOk X.prog X.w X.K X.mg X.base CX k f fd ps sp) (hr : Room k X.A) (hg : Gl X x) (hm : X.mg x = some (.ref f)) (hk : PySem.W.keepIn X.K (.ref f) = true) (hb : KBn X.K fd ps 0 ks g gV) (hx : Passes CX X E) (hkw : PK X kws tk)
    (hall : (backToKw pos (keywordEach kws X.env)).all (·.1.isSome) = true := by rfl) (hks : (backToKw pos (keywordEach kws X.env)).filterMap (·.1) = ks := by rfl) (hdb : (x == ("__debug__" : Str)) = false := by decide)
    (hpl : ((backTo pos (starEach [] X.env)).any (·.1) || (backToKw pos (keywordEach kws X.env)).any (·.1.isNone)) = false := by rfl) :
    PE X (.Call (.Name x p) [] kws pos) (tCallN 0 ks.length sp gV E tNil tk) := by
  constructor
  intro pins s σ H Q I h
  refine wpAny_Call_Name_kw (ld_glob I hg hm ?_ hdb)
  refine PySem.W.callWith_KW0 (h₀ := X.base) I.ok.mod.kin hk hall (thn (hkw.run pos pins s σ H _ I h) ?_) hpl
  rintro ws s2 ⟨zs, H2, I2, rz, l1, l2, q2⟩
  refine ⟨I2.kIn, ?_⟩
  rw [hks]
  exact run_fnN (us := []) (vs := []) F hr hb hx I2 .nil rz rfl l2 q2
/-- o.m(k = v, ..) -/
def tMethN (C : Addr) (m : Str) (j : Nat) (sp : Sp) (gV : List V → List V → List V) (E : XK) (ta : TE) (tk : TA) : TE := fun σ H Q => ta σ H fun x H1 => ∃ a dx fs, x = .ref a ∧ H1 a = some (.ins C dx fs) ∧ fs.lookup m = none ∧
  tk σ H1 fun zs H2 => zs.length = j ∧ sp (gV [.ref a] zs) H2 Q E
theorem pe_methN0 {pl : Sem Bool} (he : PE X o ta) (c : Cls X.K C) (hm : Meth X.K C m f) (F : FnOk X.prog X.w X.K X.mg X.base CX k f fd ps sp) (hr : Room k X.A) (hb : KBn X.K fd ps 1 ks g gV) (hx : Passes CX X E) (hkw : PK X kws tk)
    (hall : (backToKw pos (keywordEach kws X.env)).all (·.1.isSome) = true := by rfl) (hks : (backToKw pos (keywordEach kws X.env)).filterMap (·.1) = ks := by rfl)
    (hpl : ((backTo pos (starEach [] X.env)).any (·.1) || (backToKw pos (keywordEach kws X.env)).any (·.1.isNone)) = false := by rfl)
    (ht : eval (.Call (.Attribute o m apos) [] kws pos) X.env = (do
      let ov ← eval o X.env
      standAt apos.atName
      let (f, first) ← holding [ov] (getMethod ov m pl)
      callWith pos f first (backTo pos (starEach [] X.env)) (backToKw pos (keywordEach kws X.env))) := by rfl) :
    PE X (.Call (.Attribute o m apos) [] kws pos) (tMethN C m ks.length sp gV E ta tk) := by
  constructor
  intro pins s σ H Q I h
  refine PySem.W.methodCall_KW (pl := pl) (thn (he.run pins s σ H _ I h) ?_) ht
  rintro u s1 ⟨x, H1, I1, rx, a, dx, fs, rfl, ea, l, q⟩
  cases (show u = Value.ref a from rx)
  refine getmeth_ok I1 ea c hm l ?_
  refine PySem.W.callWith_KW0 (first := [.ref a]) (h₀ := X.base) I.ok.mod.kin hm.kp hall (thn (hkw.run pos pins s1 σ H1 _ I1 q) ?_) hpl
  rintro ws s2 ⟨zs, H2, I2, rz, l2, q2⟩
  refine ⟨I2.kIn, ?_⟩
  rw [hks]
  exact run_fnN (us := [.ref a]) (vs := [.ref a]) F hr hb hx I2 (.cons rfl .nil) rz rfl l2 q2
end
end K06
namespace K06
open PySem PySem.Spec PyProof.Rows L2
/-! ### the text by places -/
def topS (i : Nat) : Stmt := PySem.Challenge.pw_priceblind_k06_whole_what_may_lie_anywhe.main.body.getD i (.Pass ⟨0, 0, 0, 0⟩)
abbrev sIsInt : Stmt := topS 7
abbrev sWithin : Stmt := topS 8
abbrev sAreInts : Stmt := topS 9
abbrev sIsLot : Stmt := topS 10
abbrev sNeedNum : Stmt := topS 11
abbrev sNeedTrack : Stmt := topS 17
abbrev sNeedCell : Stmt := topS 18
abbrev sMostFrom : Stmt := topS 19
abbrev sAreVals : Stmt := topS 20
abbrev sLanded : Stmt := topS 21
abbrev sPairsIn : Stmt := topS 22
abbrev sDisk : Stmt := topS 23
abbrev sInit : Stmt := inClass sDisk 0
abbrev sSpend : Stmt := inClass sDisk 1
abbrev sSettle : Stmt := inClass sDisk 2
abbrev sWrite : Stmt := inClass sDisk 3
abbrev sFlush : Stmt := inClass sDisk 4
abbrev sKept : Stmt := inClass sDisk 6
abbrev sWaiting : Stmt := inClass sDisk 7
abbrev sNeedDisk : Stmt := topS 24
abbrev sChosen : Stmt := topS 25
abbrev sBehind : Stmt := topS 27
abbrev sMayLie : Stmt := topS 28
abbrev sBerth : Stmt := topS 30
abbrev sDredge : Stmt := topS 31
abbrev sPick : Stmt := topS 32
abbrev sLand : Stmt := topS 34
abbrev sLKept : Stmt := topS 35
abbrev sIs : Stmt := topS 37
abbrev sLots : Stmt := topS 38
abbrev sLaw : Stmt := topS 39
theorem scIsInt : FnScope ["value"] ["value"] (defScope sIsInt) := ⟨rfl, rfl, rfl, by decide +kernel, rfl, by decide +kernel, by decide +kernel⟩
theorem scWithin : FnScope ["value", "least", "most"] ["value", "least", "most"] (defScope sWithin) := ⟨rfl, rfl, rfl, by decide +kernel, rfl, by decide +kernel, by decide +kernel⟩
theorem scAreInts : FnScope ["value", "each"] ["value"] (defScope sAreInts) := ⟨rfl, rfl, rfl, by decide +kernel, rfl, by decide +kernel, by decide +kernel⟩
theorem scIsLot : FnScope ["value", "many", "each", "one", "other"] ["value", "many"] (defScope sIsLot) := ⟨rfl, rfl, rfl, by decide +kernel, rfl, by decide +kernel, by decide +kernel⟩
theorem scNeedNum : FnScope ["value", "part", "least", "most"] ["value", "part", "least", "most"] (defScope sNeedNum) := ⟨rfl, rfl, rfl, by decide +kernel, rfl, by decide +kernel, by decide +kernel⟩
theorem scNeedTrack : FnScope ["value"] ["value"] (defScope sNeedTrack) := ⟨rfl, rfl, rfl, by decide +kernel, rfl, by decide +kernel, by decide +kernel⟩
theorem scNeedCell : FnScope ["value"] ["value"] (defScope sNeedCell) := ⟨rfl, rfl, rfl, by decide +kernel, rfl, by decide +kernel, by decide +kernel⟩
theorem scMostFrom : FnScope ["at"] ["at"] (defScope sMostFrom) := ⟨rfl, rfl, rfl, by decide +kernel, rfl, by decide +kernel, by decide +kernel⟩
theorem scAreVals : FnScope ["value", "most", "each"] ["value", "most"] (defScope sAreVals) := ⟨rfl, rfl, rfl, by decide +kernel, rfl, by decide +kernel, by decide +kernel⟩
theorem scLanded : FnScope ["cells", "strokes", "found", "track", "at", "value"] ["cells", "strokes"] (defScope sLanded) := ⟨rfl, rfl, rfl, by decide +kernel, rfl, by decide +kernel, by decide +kernel⟩
theorem scPairsIn : FnScope ["track", "at", "value"] ["track"] (defScope sPairsIn) := ⟨rfl, rfl, rfl, by decide +kernel, rfl, by decide +kernel, by decide +kernel⟩
theorem scInit : FnScope ["self", "_"] ["self"] (defScope sInit) := ⟨rfl, rfl, rfl, by decide +kernel, rfl, by decide +kernel, by decide +kernel⟩
theorem scSpend : FnScope ["self"] ["self"] (defScope sSpend) := ⟨rfl, rfl, rfl, by decide +kernel, rfl, by decide +kernel, by decide +kernel⟩
theorem scSettle : FnScope ["self", "strokes"] ["self", "strokes"] (defScope sSettle) := ⟨rfl, rfl, rfl, by decide +kernel, rfl, by decide +kernel, by decide +kernel⟩
theorem scWrite : FnScope ["self", "track", "at", "values", "number", "value"] ["self", "track", "at", "values"] (defScope sWrite) := ⟨rfl, rfl, rfl, by decide +kernel, rfl, by decide +kernel, by decide +kernel⟩
theorem scFlush : FnScope ["self"] ["self"] (defScope sFlush) := ⟨rfl, rfl, rfl, by decide +kernel, rfl, by decide +kernel, by decide +kernel⟩
theorem scKept : FnScope ["self", "track"] ["self", "track"] (defScope sKept) := ⟨rfl, rfl, rfl, by decide +kernel, rfl, by decide +kernel, by decide +kernel⟩
theorem scWaiting : FnScope ["self"] ["self"] (defScope sWaiting) := ⟨rfl, rfl, rfl, by decide +kernel, rfl, by decide +kernel, by decide +kernel⟩
theorem scNeedDisk : FnScope ["value", "part"] ["value", "part"] (defScope sNeedDisk) := ⟨rfl, rfl, rfl, by decide +kernel, rfl, by decide +kernel, by decide +kernel⟩
theorem scChosen : FnScope ["disk", "lands", "number"] ["disk", "lands"] (defScope sChosen) := ⟨rfl, rfl, rfl, by decide +kernel, rfl, by decide +kernel, by decide +kernel⟩
theorem scBehind : FnScope ["disk", "lands", "track"] ["disk", "lands"] (defScope sBehind) := ⟨rfl, rfl, rfl, by decide +kernel, rfl, by decide +kernel, by decide +kernel⟩
theorem scMayLie : FnScope ["disk", "track", "at", "waits", "place", "value"] ["disk", "track", "at"] (defScope sMayLie) := ⟨rfl, rfl, rfl, by decide +kernel, rfl, by decide +kernel, by decide +kernel⟩
theorem scBerth : FnScope ["_law_script", "_law_cell"] ["_law_script"] (defScope sBerth) := ⟨rfl, rfl, rfl, by decide +kernel, rfl, by decide +kernel, by decide +kernel⟩
theorem scDredge : FnScope ["_law_berth_here", "_law_many", "_law_rest", "_law_at", "_law_cell", "_law_mixed"] ["_law_berth_here", "_law_many"] (defScope sDredge) := ⟨rfl, rfl, rfl, by decide +kernel, rfl, by decide +kernel, by decide +kernel⟩
theorem scPick : FnScope ["_law_berth_here", "_law_some"] ["_law_berth_here", "_law_some"] (defScope sPick) := ⟨rfl, rfl, rfl, by decide +kernel, rfl, by decide +kernel, by decide +kernel⟩
theorem scLand : FnScope ["_law_lies", "_law_waits", "_law_lands", "_law_number", "_law_place", "_law_value"] ["_law_lies", "_law_waits", "_law_lands"] (defScope sLand) := ⟨rfl, rfl, rfl, by decide +kernel, rfl, by decide +kernel, by decide +kernel⟩
theorem scLKept : FnScope ["_law_lies", "_law_track", "_law_place"] ["_law_lies", "_law_track"] (defScope sLKept) := ⟨rfl, rfl, rfl, by decide +kernel, rfl, by decide +kernel, by decide +kernel⟩
theorem scIs : FnScope ["_law_disk", "_law_lies", "_law_waits", "_law_told"] ["_law_disk", "_law_lies", "_law_waits"] (defScope sIs) := ⟨rfl, rfl, rfl, by decide +kernel, rfl, by decide +kernel, by decide +kernel⟩
theorem scLots : FnScope ["_law_many", "_law_found", "_law_number", "_law_lot_here"] ["_law_many"] (defScope sLots) := ⟨rfl, rfl, rfl, by decide +kernel, rfl, by decide +kernel, by decide +kernel⟩
abbrev nLaw : List Str := ["_law_script", "_law_berth_here", "_law_disk", "_law_lies", "_law_waits", "_law_cells", "_law_place", "_law_value", "_law_turn", "_law_places", "_law_met", "_law_alone", "_law_lot_here", "_law_left", "_law_told", "_law_kept_here", "_law_product", "_law_due", "_law_at", "_law_spot"]
theorem scLaw : FnScope nLaw ["_law_script"] (defScope sLaw) := ⟨rfl, rfl, rfl, by decide +kernel, rfl, by decide +kernel, by decide +kernel⟩

/-! ### what the top holds -/
/-- a def of the top: where it stands, how it binds, by which name -/
structure Df (K : PySem.W.Frag) (mg : Str → Option Value) (x : Str) (st : Stmt) (ps : List Str) (f : Addr) (fd : FuncData) : Prop where
  F : Fun K x x st f fd
  b : Binds K fd ps []
  g : mg x = some (.ref f)
/-- a method of the class at C -/
structure Md (K : PySem.W.Frag) (C : Addr) (x q : Str) (st : Stmt) (ps : List Str) (f : Addr) (fd : FuncData) : Prop where
  F : Fun K x q st f fd
  b : Binds K fd ps []
  m : Meth K C x f
/-- the built-in names are not hidden -/
structure Blt (mg : Str → Option Value) : Prop where
  isinstance : mg "isinstance" = none
  int : mg "int" = none
  bool : mg "bool" = none
  list : mg "list" = none
  tuple : mg "tuple" = none
  all : mg "all" = none
  min : mg "min" = none
  dict : mg "dict" = none
  sorted : mg "sorted" = none
  zip : mg "zip" = none
  enumerate : mg "enumerate" = none
  range : mg "range" = none
  set : mg "set" = none
  len : mg "len" = none
  abs : mg "abs" = none
  repr : mg "repr" = none
end K06
namespace K06
open PySem PySem.Spec PyProof.Rows L2
section
variable {P : Program} {w : World} {K : PySem.W.Frag} {mg : Str → Option Value} {base : Heap}
/-! ### is_integer -/
def spIsInt : Sp := fun vs H Q _ => ∃ i, vs = [.int i] ∧ Q (.bl true) H
theorem ok_isInt {f : Addr} {fd : FuncData} (D : Df K mg "is_integer" sIsInt ["value"] f fd) (B : Blt mg) : FnOk P w K mg base CX0 1 f fd ["value"] spIsInt := by
  refine D.F.ok scIsInt (fun vs H Q E h => ?_) (fun cdv A outer s H vs Q E hr h => ?_)
  · obtain ⟨i, rfl, _⟩ := h; rfl
  · obtain ⟨i, rfl, q⟩ := h
    refine ⟨_, pss_one (ps_ret (pe_and
      (pe_callB call_isi (by rfl) B.isinstance PyProof.Rows.boot_isinstance (pa_cons (pv 0) (pa_cons (pe_bltn (v := .ty "int") (by rfl) B.int PyProof.Rows.boot_int rfl) pa_nil)))
      (pe_one (pe_not (pe_callB call_isi (by rfl) B.isinstance PyProof.Rows.boot_isinstance (pa_cons (pv 0) (pa_cons (pe_bltn (v := .ty "bool") (by rfl) B.bool PyProof.Rows.boot_bool rfl) pa_nil))))))), ?_⟩
    refine ⟨.int i, rfl, .int i, .ty "int", _, _, true, rfl, .ty "int", .base (.int i), kit_ty (by decide +kernel), true, rfl, iteT ?_⟩
    refine ⟨.int i, rfl, .int i, .ty "bool", _, _, false, rfl, .ty "bool", .base (.int i), kit_ty (by decide +kernel), false, rfl, ?_⟩
    exact q
/-! ### is_within -/
def spWithin : Sp := fun vs H Q _ => ∃ i lo hi, vs = [.int i, .int lo, .int hi] ∧ lo ≤ i ∧ i ≤ hi ∧ Q (.bl true) H
theorem ok_within {f f1 : Addr} {fd fd1 : FuncData} (D : Df K mg "is_within" sWithin ["value", "least", "most"] f fd) (D1 : Df K mg "is_integer" sIsInt ["value"] f1 fd1) (B : Blt mg) :
    FnOk P w K mg base CX0 2 f fd ["value", "least", "most"] spWithin := by
  have G1 : FnOk P w K mg base CX0 1 f1 fd1 ["value"] spIsInt := ok_isInt D1 B
  refine D.F.ok scWithin (fun vs H Q E h => ?_) (fun cdv A outer s H vs Q E hr h => ?_)
  · obtain ⟨i, lo, hi, rfl, _⟩ := h; rfl
  · obtain ⟨i, lo, hi, rfl, h1, h2, q⟩ := h
    refine ⟨_, pss_cons (ps_if (pt_not (pt_val (pe_call G1 hr (by rfl) D1.g D1.F.kp D1.b .nil pass0 (pa_cons (pv 0) pa_nil)))) (pss_one (ps_ret pe_bl)) pss_nil)
      (pss_one (ps_ret (pe_and (pe_or (pe_cmp (pc_isN (pv 1))) (pe_one (pe_cmp (pc_ge (pv 0) (pv 1))))) (pe_one (pe_or (pe_cmp (pc_isN (pv 2))) (pe_one (pe_cmp (pc_le (pv 0) (pv 2))))))))), ?_⟩
    refine ⟨.int i, rfl, i, rfl, true, rfl, iteF ?_⟩
    refine ⟨.int lo, rfl, false, rfl, iteF ?_⟩
    refine ⟨.int i, rfl, .int lo, rfl, i, lo, rfl, rfl, decide (lo ≤ i), rfl, ?_⟩
    rw [decide_eq_true h1]
    refine iteT ⟨.int hi, rfl, false, rfl, iteF ?_⟩
    refine ⟨.int i, rfl, .int hi, rfl, i, hi, rfl, rfl, ?_⟩
    show Q (.bl (decide (i ≤ hi))) H
    rw [decide_eq_true h2]
    exact q
/-! ### need_number -/
def spNeedNum : Sp := fun vs H Q _ => ∃ i z lo hi, vs = [.int i, .str z, .int lo, .int hi] ∧ lo ≤ i ∧ i ≤ hi ∧ Q .non H
theorem ok_needNum {f f1 f2 : Addr} {fd fd1 fd2 : FuncData} (D : Df K mg "need_number" sNeedNum ["value", "part", "least", "most"] f fd) (D1 : Df K mg "is_within" sWithin ["value", "least", "most"] f1 fd1) (D2 : Df K mg "is_integer" sIsInt ["value"] f2 fd2) (B : Blt mg) :
    FnOk P w K mg base CX0 3 f fd ["value", "part", "least", "most"] spNeedNum := by
  have G1 : FnOk P w K mg base CX0 2 f1 fd1 ["value", "least", "most"] spWithin := ok_within D1 D2 B
  refine D.F.ok scNeedNum (fun vs H Q E h => ?_) (fun cdv A outer s H vs Q E hr h => ?_)
  · obtain ⟨i, z, lo, hi, rfl, _⟩ := h; rfl
  · obtain ⟨i, z, lo, hi, rfl, h1, h2, q⟩ := h
    refine ⟨_, pss_one (ps_if (pt_not (pt_val (pe_call G1 hr (by rfl) D1.g D1.F.kp D1.b .nil pass0 (pa_cons (pv 0) (pa_cons (pv 2) (pa_cons (pv 3) pa_nil)))))) (pss_one ps_never) pss_nil), ?_⟩
    refine ⟨.int i, rfl, .int lo, rfl, .int hi, rfl, i, lo, hi, rfl, h1, h2, true, rfl, iteF ?_⟩
    exact q
/-! ### need_track, need_cell, most_from -/
structure Cns (mg : Str → Option Value) : Prop where
  tracks : ∃ t, mg "TRACKS" = some (.int 3 t)
  last : ∃ t, mg "LAST_CELL" = some (.int 10000000 t)
  most : ∃ t, mg "MOST_IN_CELL" = some (.int 9223372036854775807 t)
  cells : ∃ t, mg "MOST_CELLS" = some (.int 4096 t)
def spNeedTrack : Sp := fun vs H Q _ => ∃ i, vs = [.int i] ∧ 0 ≤ i ∧ i ≤ 2 ∧ Q .non H
def spNeedCell : Sp := fun vs H Q _ => ∃ i, vs = [.int i] ∧ 0 ≤ i ∧ i ≤ 10000000 ∧ Q .non H
theorem ok_needTrack {f f1 : Addr} {fd fd1 : FuncData} (D : Df K mg "need_track" sNeedTrack ["value"] f fd) (D1 : Df K mg "need_number" sNeedNum ["value", "part", "least", "most"] f1 fd1)
    (G1 : FnOk P w K mg base CX0 3 f1 fd1 ["value", "part", "least", "most"] spNeedNum) (N : Cns mg) : FnOk P w K mg base CX0 4 f fd ["value"] spNeedTrack := by
  refine D.F.ok scNeedTrack (fun vs H Q E h => ?_) (fun cdv A outer s H vs Q E hr h => ?_)
  · obtain ⟨i, rfl, _⟩ := h; rfl
  · obtain ⟨i, rfl, h1, h2, q⟩ := h
    obtain ⟨t3, e3⟩ := N.tracks
    refine ⟨_, pss_one (ps_expr (pe_call G1 hr (by rfl) D1.g D1.F.kp D1.b .nil pass0 (pa_cons (pv 0) (pa_cons pe_str (pa_cons pe_int (pa_cons (pe_op op_sub (pe_glob (v := .int 3) (by rfl) e3 ⟨_, rfl⟩) pe_int) pa_nil)))))), ?_⟩
    exact ⟨.int i, rfl, 3, 1, rfl, rfl, i, _, 0, _, rfl, h1, h2, q⟩
theorem ok_needCell {f f1 : Addr} {fd fd1 : FuncData} (D : Df K mg "need_cell" sNeedCell ["value"] f fd) (D1 : Df K mg "need_number" sNeedNum ["value", "part", "least", "most"] f1 fd1)
    (G1 : FnOk P w K mg base CX0 3 f1 fd1 ["value", "part", "least", "most"] spNeedNum) (N : Cns mg) : FnOk P w K mg base CX0 4 f fd ["value"] spNeedCell := by
  refine D.F.ok scNeedCell (fun vs H Q E h => ?_) (fun cdv A outer s H vs Q E hr h => ?_)
  · obtain ⟨i, rfl, _⟩ := h; rfl
  · obtain ⟨i, rfl, h1, h2, q⟩ := h
    obtain ⟨t3, e3⟩ := N.last
    refine ⟨_, pss_one (ps_expr (pe_call G1 hr (by rfl) D1.g D1.F.kp D1.b .nil pass0 (pa_cons (pv 0) (pa_cons pe_str (pa_cons pe_int (pa_cons (pe_glob (v := .int 10000000) (by rfl) e3 ⟨_, rfl⟩) pa_nil)))))), ?_⟩
    exact ⟨.int i, rfl, i, _, 0, _, rfl, h1, h2, q⟩
def spMostFrom : Sp := fun vs H Q _ => ∃ i, vs = [.int i] ∧ 0 ≤ i ∧ i ≤ 10000000 ∧ ∀ m : Int, 1 ≤ m → Q (.int m) H
theorem ok_mostFrom {f : Addr} {fd : FuncData} (D : Df K mg "most_from" sMostFrom ["at"] f fd) (B : Blt mg) (N : Cns mg) : FnOk P w K mg base CX0 1 f fd ["at"] spMostFrom := by
  refine D.F.ok scMostFrom (fun vs H Q E h => ?_) (fun cdv A outer s H vs Q E hr h => ?_)
  · obtain ⟨i, rfl, _⟩ := h; rfl
  · obtain ⟨i, rfl, h1, h2, q⟩ := h
    obtain ⟨t3, e3⟩ := N.last
    obtain ⟨t4, e4⟩ := N.cells
    refine ⟨_, pss_one (ps_ret (pe_callB (call_min2 rfl) (by rfl) B.min PyProof.Rows.boot_min (pa_cons (pe_glob (v := .int 4096) (by rfl) e4 ⟨_, rfl⟩)
      (pa_cons (pe_op op_sub (pe_op op_add (pe_glob (v := .int 10000000) (by rfl) e3 ⟨_, rfl⟩) pe_int) (pv 0)) pa_nil)))), ?_⟩
    refine ⟨_, _, rfl, rfl, .int i, rfl, _, i, rfl, rfl, 4096, 10000000 + 1 - i, rfl, ?_⟩
    refine q _ ?_
    split <;> omega
end
end K06
namespace K06
open PySem PySem.Spec PyProof.Rows L2
/-! ### what stays -/
def soft (o : Option HO) : Prop := (∀ xs, o ≠ some (.tup xs)) ∧ (∀ x u, o ≠ some (.frz x u)) ∧ ∀ kvs, o ≠ some (.dK kvs)
/-- all but the addresses of S stands as before; those hold no tuple, nothing that is only read, no dict by ints -/
def Fr (S : List Addr) (H H' : Hp) : Prop := (∀ b o, H b = some o → b ∉ S → H' b = some o) ∧ ∀ x ∈ S, soft (H x)
theorem soft_lst {H : Hp} {a : Addr} {xs : List V} (h : H a = some (.lst xs)) : soft (H a) := by
  rw [h]; exact ⟨fun _ z => (nomatch z), fun _ _ z => (nomatch z), fun _ z => (nomatch z)⟩
theorem soft_dT {H : Hp} {a : Addr} {xs : List (List Key × V)} (h : H a = some (.dT xs)) : soft (H a) := by
  rw [h]; exact ⟨fun _ z => (nomatch z), fun _ _ z => (nomatch z), fun _ z => (nomatch z)⟩
theorem soft_ins {H : Hp} {a C dx : Addr} {fs : List (Str × V)} (h : H a = some (.ins C dx fs)) : soft (H a) := by
  rw [h]; exact ⟨fun _ z => (nomatch z), fun _ _ z => (nomatch z), fun _ z => (nomatch z)⟩
theorem soft_ext {H : Hp} {a : Addr} {φ : Heap → Prop} (h : H a = some (.ext φ)) : soft (H a) := by
  rw [h]; exact ⟨fun _ z => (nomatch z), fun _ _ z => (nomatch z), fun _ z => (nomatch z)⟩
theorem soft_none {H : Hp} {a : Addr} (h : H a = none) : soft (H a) := by
  rw [h]; exact ⟨fun _ z => (nomatch z), fun _ _ z => (nomatch z), fun _ z => (nomatch z)⟩
theorem Fr.refl (H : Hp) : Fr [] H H := ⟨fun _ _ h _ => h, fun x hx => by cases hx⟩
theorem Fr.of_same {H H' : Hp} (h : Same H H') : Fr [] H H' := ⟨fun b o e _ => h b o e, fun x hx => by cases hx⟩
theorem Fr.same {H H' : Hp} (h : Fr [] H H') : Same H H' := fun b o e => h.1 b o e (by simp)
theorem same_upd {H : Hp} {p : Addr} {o : HO} (h : H p = none) : Same H (upd H p o) := fun b u e => by rw [upd_ne (ne_of_none e h)]; exact e
theorem same_up {H H' : Hp} {p : Addr} {o : HO} (e : Same H H') (h : H' p = none) : Same H (upd H' p o) := e.trans (same_upd h)
/-- what H doesn't track may change -/
theorem same_up' {H H' : Hp} {p : Addr} {o : HO} (e : Same H H') (h : H p = none) : Same H (upd H' p o) := fun b u q => by
  rw [upd_ne (ne_of_none q h)]; exact e b u q
theorem Fr.new {H : Hp} {p : Addr} {o : HO} (h : H p = none) : Fr [] H (upd H p o) := .of_same (same_upd h)
theorem Fr.put {H : Hp} {p : Addr} {o : HO} (h : soft (H p)) : Fr [p] H (upd H p o) := by
  refine ⟨fun b u e hb => ?_, fun x hx => ?_⟩
  · rw [upd_ne (by simpa using hb)]; exact e
  · have e : x = p := by simpa using hx
    rw [e]; exact h
theorem Fr.step {S : List Addr} {H H1 : Hp} {p : Addr} {o : HO} (f : Fr S H H1) (h : p ∈ S ∨ H p = none) : Fr S H (upd H1 p o) := by
  refine ⟨fun b u e hb => ?_, f.2⟩
  have n : b ≠ p := by
    rintro rfl
    rcases h with z | z
    · exact hb z
    · rw [e] at z; cases z
  rw [upd_ne n]; exact f.1 b u e hb
theorem Fr.trans {S T : List Addr} {H H1 H2 : Hp} (f : Fr S H H1) (g : Fr T H1 H2) (h : ∀ x ∈ T, x ∈ S ∨ H x = none) : Fr S H H2 := by
  refine ⟨fun b u e hb => g.1 b u (f.1 b u e hb) fun hT => ?_, f.2⟩
  rcases h b hT with z | z
  · exact hb z
  · rw [e] at z; cases z
theorem Fr.transS {S : List Addr} {H H1 H2 : Hp} (f : Fr S H H1) (g : Same H1 H2) : Fr S H H2 := f.trans (.of_same g) (fun x hx => by cases hx)
theorem Fr.trans2 {S : List Addr} {H H1 H2 : Hp} (f : Fr S H H1) (g : Fr S H1 H2) : Fr S H H2 := f.trans g fun x hx => .inl hx
theorem Fr.mono {S T : List Addr} {H H1 : Hp} (f : Fr S H H1) (h : ∀ x ∈ S, x ∈ T) (hs : ∀ x ∈ T, soft (H x)) : Fr T H H1 :=
  ⟨fun b u e hb => f.1 b u e fun z => hb (h b z), hs⟩
theorem Fr.keep {S : List Addr} {H H' : Hp} (f : Fr S H H') {b : Addr} {o : HO} (h : H b = some o) (hb : b ∉ S) : H' b = some o := f.1 b o h hb
theorem Fr.tup {S : List Addr} {H H' : Hp} (f : Fr S H H') {b : Addr} {xs : List V} (h : H b = some (.tup xs)) : H' b = some (.tup xs) := f.1 b _ h fun z => (f.2 b z).1 xs h
theorem Fr.frz {S : List Addr} {H H' : Hp} (f : Fr S H H') {b : Addr} {o : Obj} {u : HO} (h : H b = some (.frz o u)) : H' b = some (.frz o u) := f.1 b _ h fun z => (f.2 b z).2.1 o u h
theorem Fr.dK {S : List Addr} {H H' : Hp} (f : Fr S H H') {b : Addr} {kvs : List (Key × V)} (h : H b = some (.dK kvs)) : H' b = some (.dK kvs) := f.1 b _ h fun z => (f.2 b z).2.2 kvs h
/-! ### data as they lie -/
section
variable {κ κ' : Type} [DecidableEq κ] [DecidableEq κ']
def emb (g : κ → κ') (m : List (κ × Int)) : List (κ' × V) := m.map fun p => (g p.1, V.int p.2)
def embT (g : κ → κ') (l : List κ) : List (κ' × V) := l.map fun k => (g k, V.bl true)
theorem emb_put {g : κ → κ'} (hg : ∀ a b, g a = g b → a = b) (m : List (κ × Int)) (k : κ) (v : Int) : putK (emb g m) (g k) (.int v) = emb g (put m k v) := by
  have e : ((emb g m).any fun kv => decide (kv.1 = g k)) = (m.any fun p => decide (p.1 = k)) := by
    unfold emb
    rw [List.any_map]
    congr 1
    funext p
    show decide (g p.1 = g k) = decide (p.1 = k)
    by_cases h : p.1 = k
    · rw [decide_eq_true h, decide_eq_true (congrArg g h)]
    · rw [decide_eq_false h, decide_eq_false fun z => h (hg _ _ z)]
  unfold putK put
  rw [e]
  by_cases h : (m.any fun p => decide (p.1 = k)) = true
  · rw [if_pos h, if_pos h]
    unfold emb
    rw [List.map_map, List.map_map]
    refine List.map_congr_left fun p _ => ?_
    show (if g p.1 = g k then (g p.1, V.int v) else (g p.1, V.int p.2)) = _
    by_cases h : p.1 = k
    · simp [h]
    · have h2 : ¬ g p.1 = g k := fun z => h (hg _ _ z)
      simp [h, h2]
  · rw [if_neg h, if_neg h]
    unfold emb
    rw [List.map_append]
    rfl
theorem emb_look {g : κ → κ'} (hg : ∀ a b, g a = g b → a = b) : ∀ (m : List (κ × Int)) (k : κ), valV (emb g m) (g k) = (look m k).map V.int
  | [], k => rfl
  | p :: m, k => by
    rw [look_cons]
    show valV ((g p.1, V.int p.2) :: emb g m) (g k) = _
    by_cases h : p.1 = k
    · rw [valV_pos (congrArg g h), if_pos h]; rfl
    · rw [valV_neg fun z => h (hg _ _ z), if_neg h]; exact emb_look hg m k
theorem emb_length (g : κ → κ') (m : List (κ × Int)) : (emb g m).length = m.length := List.length_map ..
theorem embT_length (g : κ → κ') (l : List κ) : (embT g l).length = l.length := List.length_map ..
theorem embT_put {g : κ → κ'} (hg : ∀ a b, g a = g b → a = b) (l : List κ) (k : κ) : putK (embT g l) (g k) (.bl true) = embT g (addK l k) := by
  have e : ((embT g l).any fun kv => decide (kv.1 = g k)) = true ↔ k ∈ l := by
    unfold embT
    rw [List.any_eq_true]
    constructor
    · rintro ⟨x, hx, h⟩
      obtain ⟨j, hj, rfl⟩ := List.mem_map.mp hx
      have h : g j = g k := by simpa using h
      rw [← hg _ _ h]; exact hj
    · intro h
      exact ⟨_, List.mem_map.mpr ⟨k, h, rfl⟩, by simp⟩
  unfold putK addK
  by_cases h : k ∈ l
  · rw [if_pos (e.mpr h), if_pos h]
    unfold embT
    rw [List.map_map]
    refine List.map_congr_left fun p _ => ?_
    show (if g p = g k then (g p, V.bl true) else (g p, V.bl true)) = _
    split <;> rfl
  · rw [if_neg fun z => h (e.mp z), if_neg h]
    unfold embT
    rw [List.map_append]
    rfl
end
def gP (p : Pl) : List Key := [Sum.inl p.1, Sum.inl p.2]
def gL (l : List Int) : List Key := l.map Sum.inl
theorem gI_inj : ∀ a b : Int, (Sum.inl a : Key) = Sum.inl b → a = b := fun _ _ h => Sum.inl.inj h
theorem gP_inj : ∀ a b : Pl, gP a = gP b → a = b := by
  rintro ⟨a, b⟩ ⟨c, d⟩ h
  simp only [gP] at h
  injection h with h1 h2
  injection h2 with h2 _
  rw [Sum.inl.inj h1, Sum.inl.inj h2]
theorem gL_inj : ∀ a b : List Int, gL a = gL b → a = b := fun a b h => List.map_inj_right (fun x y z => Sum.inl.inj z) |>.mp h
theorem gL_kV (l : List Int) : (gL l).map kV = l.map V.int := by unfold gL; rw [List.map_map]; rfl
/-- a place -/
def PlAt (H : Hp) (q : Addr) (p : Pl) : Prop := H q = some (.tup [.int p.1, .int p.2])
theorem KeyN.fr {S : List Addr} {H H' : Hp} (f : Fr S H H') {p : PlV} {b : Addr} (h : KeyN H p b) : KeyN H' p b := by
  obtain ⟨c, h1, h2⟩ := h
  exact ⟨c, f.tup h1, f.tup h2⟩
theorem PlAt.fr {S : List Addr} {H H' : Hp} (f : Fr S H H') {q : Addr} {p : Pl} (h : PlAt H q p) : PlAt H' q p := f.tup h
/-- strokes, as a list of tuples tells them -/
def Sk (H : Hp) (bs : List Addr) (ss : List PlV) : Prop := Paired (fun b p => KeyN H p b) bs ss
def StrokesAt (H : Hp) (s : Addr) (ss : List PlV) : Prop := ∃ bs : List Addr, H s = some (.lst (bs.map V.ref)) ∧ Sk H bs ss
theorem Sk.fr {S : List Addr} {H H' : Hp} (f : Fr S H H') {bs : List Addr} {ss : List PlV} (h : Sk H bs ss) : Sk H' bs ss := h.mono fun _ _ => KeyN.fr f
theorem StrokesAt.fr {S : List Addr} {H H' : Hp} (f : Fr S H H') {s : Addr} {ss : List PlV} (h : StrokesAt H s ss) (hs : s ∉ S) : StrokesAt H' s ss := by
  obtain ⟨bs, h1, h2⟩ := h
  exact ⟨bs, f.keep h1 hs, h2.fr f⟩
theorem Paired.at' {α β : Type} {F : α → β → Prop} : ∀ {l : List α} {m : List β}, Paired F l m → ∀ {i : Nat} {a : α} {b : β}, l[i]? = some a → m[i]? = some b → F a b
  | _, _, .nil, i, a, b, h, _ => by simp at h
  | _, _, .cons h t, 0, a, b, h1, h2 => by
    cases (show _ = a by simpa using h1); cases (show _ = b by simpa using h2); exact h
  | _, _, .cons h t, i + 1, a, b, h1, h2 => Paired.at' t (by simpa using h1) (by simpa using h2)
theorem Paired.get {α β : Type} {F : α → β → Prop} {l : List α} {m : List β} (h : Paired F l m) {i : Nat} (hi : i < m.length) : ∃ a, l[i]? = some a ∧ F a m[i] := by
  have hl : i < l.length := by rw [Paired.length h]; exact hi
  exact ⟨l[i], List.getElem?_eq_getElem hl, Paired.at' h (List.getElem?_eq_getElem hl) (List.getElem?_eq_getElem hi)⟩
theorem Paired.get' {α β : Type} {F : α → β → Prop} {l : List α} {m : List β} (h : Paired F l m) {i : Nat} {a : α} (hi : l[i]? = some a) : ∃ b, m[i]? = some b ∧ F a b := by
  obtain ⟨hl, e⟩ := List.getElem?_eq_some_iff.mp hi
  have hm : i < m.length := by rw [← Paired.length h]; exact hl
  exact ⟨m[i], List.getElem?_eq_getElem hm, Paired.at' h hi (List.getElem?_eq_getElem hm)⟩
/-! ### the cells: three dicts -/
abbrev Gd := Nat → List (Int × Int)
def CellsAt (H : Hp) (c : Addr) (g : Gd) : Prop := ∃ ds : List Addr, H c = some (.lst (ds.map V.ref)) ∧ ds.length = 3 ∧ ds.Nodup ∧ ∀ (i : Nat) (d : Addr), ds[i]? = some d → H d = some (.dK (emb Sum.inl (g i)))
theorem CellsAt.fr {S : List Addr} {H H' : Hp} (f : Fr S H H') {c : Addr} {g : Gd} (h : CellsAt H c g) (hs : c ∉ S) : CellsAt H' c g := by
  obtain ⟨ds, h1, h2, h3, h4⟩ := h
  exact ⟨ds, f.keep h1 hs, h2, h3, fun i d e => f.dK (h4 i d e)⟩
def landC1 (g : Gd) (s : PlV) : Gd := fun i => if i = s.1.1.toNat then put (g i) s.1.2 s.2 else g i
def landC (g : Gd) (ss : List PlV) : Gd := ss.foldl landC1 g
def valC (g : Gd) (p : Pl) : Int := val (g p.1.toNat) p.2
def tracked (ss : List PlV) : Prop := ∀ s ∈ ss, 0 ≤ s.1.1 ∧ s.1.1 ≤ 2
theorem look_landC {p : Pl} (hp : 0 ≤ p.1) : ∀ {ss : List PlV}, tracked ss → ∀ {g : Gd} {m : List (Pl × Int)}, look (g p.1.toNat) p.2 = look m p → look (landC g ss p.1.toNat) p.2 = look (land m ss) p
  | [], _, g, m, h => h
  | s :: ss, hs, g, m, h => by
    refine look_landC hp (fun x hx => hs x (List.mem_cons_of_mem _ hx)) (g := landC1 g s) (m := put m s.1 s.2) ?_
    have h0 := (hs s List.mem_cons_self).1
    rw [look_put]
    unfold landC1
    by_cases e : p.1.toNat = s.1.1.toNat
    · rw [if_pos e, look_put]
      have e1 : p.1 = s.1.1 := by omega
      by_cases e2 : p.2 = s.1.2
      · rw [if_pos e2, if_pos (Prod.ext e1 e2)]
      · rw [if_neg e2, if_neg fun z => e2 (by rw [z])]; exact h
    · rw [if_neg e, if_neg fun z => e (by rw [z])]; exact h
theorem length_landC : ∀ (ss : List PlV) (g : Gd) (n : Nat), (∀ i, (g i).length ≤ n) → ∀ i, (landC g ss i).length ≤ n + ss.length
  | [], g, n, h, i => h i
  | s :: ss, g, n, h, i => by
    have := length_landC ss (landC1 g s) (n + 1) (fun j => by
      unfold landC1
      have := h j
      split
      · exact Nat.le_trans (length_put _ _ _) (by omega)
      · omega) i
    rw [List.length_cons]
    show (landC (landC1 g s) ss i).length ≤ _
    omega
theorem nodup_landC : ∀ (ss : List PlV) (g : Gd), (∀ i, (keysOf (g i)).Nodup) → ∀ i, (keysOf (landC g ss i)).Nodup
  | [], g, h, i => h i
  | s :: ss, g, h, i => nodup_landC ss (landC1 g s) (fun j => by
      unfold landC1
      split
      · exact nodup_put _ _ (h j)
      · exact h j) i
theorem after_congr {κ : Type} [DecidableEq κ] {p : κ} : ∀ {ss : List (κ × Int)} {f f' : κ → Int}, f p = f' p → after f ss p = after f' ss p
  | [], _, _, h => h
  | s :: ss, f, f', h => by
    rw [after_cons, after_cons]
    refine after_congr ?_
    show (if p = s.1 then s.2 else f p) = if p = s.1 then s.2 else f' p
    rw [h]
theorem val_landC {p : Pl} (hp : 0 ≤ p.1) : ∀ {ss : List PlV}, tracked ss → ∀ {g : Gd}, valC (landC g ss) p = after (valC g) ss p
  | [], _, g => rfl
  | s :: ss, hs, g => by
    have h0 := (hs s List.mem_cons_self).1
    rw [after_cons]
    show valC (landC (landC1 g s) ss) p = _
    rw [val_landC hp (fun x hx => hs x (List.mem_cons_of_mem _ hx))]
    refine after_congr ?_
    show val (landC1 g s p.1.toNat) p.2 = if p = s.1 then s.2 else val (g p.1.toNat) p.2
    unfold landC1
    by_cases e : p.1.toNat = s.1.1.toNat
    · rw [if_pos e, val_put]
      have e1 : p.1 = s.1.1 := by omega
      show (if p.2 = s.1.2 then s.2 else val (g p.1.toNat) p.2) = _
      by_cases e2 : p.2 = s.1.2
      · rw [if_pos e2, if_pos (Prod.ext e1 e2)]
      · rw [if_neg e2, if_neg fun z => e2 (by rw [z])]
    · rw [if_neg e, if_neg fun z => e (by rw [z])]
/-! ### a disk -/
def df (c s f : Addr) : List (Str × V) := [("cells", .ref c), ("strokes", .ref s), ("fresh", .ref f), ("left", .non)]
structure DiskAt (C : Addr) (H : Hp) (d c s f : Addr) (g : Gd) (ss : List PlV) : Prop where
  ins : ∃ dx, H d = some (.ins C dx (df c s f))
  cells : CellsAt H c g
  fresh : ∃ fm, H f = some (.dT fm) ∧ fm.length ≤ ss.length
  str : StrokesAt H s ss
  cs : c ≠ s
theorem DiskAt.fr {C : Addr} {S : List Addr} {H H' : Hp} (F : Fr S H H') {d c s f : Addr} {g : Gd} {ss : List PlV} (h : DiskAt C H d c s f g ss) (hd : d ∉ S) (hc : c ∉ S) (hs : s ∉ S) (hf : f ∉ S) : DiskAt C H' d c s f g ss := by
  obtain ⟨dx, h1⟩ := h.ins
  obtain ⟨fm, h2, h3⟩ := h.fresh
  exact ⟨⟨dx, F.keep h1 hd⟩, h.cells.fr F hc, ⟨fm, F.keep h2 hf, h3⟩, h.str.fr F hs, h.cs⟩
/-! ### what is kept of a track -/
def IsKept (m : List (Int × Int)) (P : List (Int × Int)) : Prop := P.Pairwise (fun a b => a.1 < b.1) ∧ ∀ q, q ∈ P ↔ q ∈ m ∧ q.2 ≠ 0
def Pr (H : Hp) (ps : List Addr) (P : List (Int × Int)) : Prop := Paired (fun q kv => H q = some (.tup [.int kv.1, .int kv.2])) ps P
def KeptAt (H : Hp) (p : Addr) (P : List (Int × Int)) : Prop := ∃ ps : List Addr, TupZ H p (ps.map V.ref) ∧ Pr H ps P
theorem KeptAt.fr {S : List Addr} {H H' : Hp} (f : Fr S H H') {p : Addr} {P : List (Int × Int)} (h : KeptAt H p P) : KeptAt H' p P := by
  obtain ⟨ps, ⟨o, ho, h1⟩, h2⟩ := h
  exact ⟨ps, ⟨o, ho, f.frz h1⟩, h2.mono fun _ _ z => f.tup z⟩
theorem IsKept.eq {m m' P P' : List (Int × Int)} (h : IsKept m P) (h' : IsKept m' P') (e : ∀ q, q ∈ m ↔ q ∈ m') : P = P' :=
  asc_uniq (fun x => Int.lt_irrefl x.1) (fun x y (a : x.1 < y.1) (b : y.1 < x.1) => by omega) h.1 h'.1 fun q => by rw [h.2, h'.2, e]
theorem kept_val {m P : List (Int × Int)} (hn : (keysOf m).Nodup) (h : IsKept m P) (k : Int) : val (land [] P) k = val m k := by
  rw [val_land]
  refine after_is (fun s hs e => ?_) ?_
  · have := (look_mem hn).mp ((h.2 s).mp hs).1
    unfold val
    rw [← e, this]; rfl
  · cases q : look m k with
    | none => refine .inl ?_; unfold val; rw [q]; rfl
    | some v =>
      have e : val m k = v := by unfold val; rw [q]; rfl
      by_cases z : v = 0
      · left; rw [e, z]; rfl
      · right
        exact ⟨(k, v), (h.2 _).mpr ⟨(look_mem hn).mpr q, z⟩, rfl⟩
/-! ### the berth -/
def Berth (H : Hp) (b l : Addr) (n : Nat) : Prop := ∃ (ns : List Int) (at' rest : Int), H b = some (.lst [.ref l, .int at', .int rest]) ∧ H l = some (.lst (ns.map V.int)) ∧ ns.length ≤ 60 ∧ 0 ≤ at' ∧ at' ≤ n ∧ 0 ≤ rest
theorem Berth.fr {S : List Addr} {H H' : Hp} (f : Fr S H H') {b l : Addr} {n : Nat} (h : Berth H b l n) (hb : b ∉ S) (hl : l ∉ S) : Berth H' b l n := by
  obtain ⟨ns, a, r, h1, h2, h3⟩ := h
  exact ⟨ns, a, r, f.keep h1 hb, f.keep h2 hl, h3⟩
theorem Berth.soft {H : Hp} {b l : Addr} {n : Nat} (h : Berth H b l n) : soft (H b) := by
  obtain ⟨ns, a, r, h1, _⟩ := h
  exact soft_lst h1
theorem Berth.le {H : Hp} {b l : Addr} {n m : Nat} (h : Berth H b l n) (q : n ≤ m) : Berth H b l m := by
  obtain ⟨ns, a, r, h1, h2, h3, h4, h5, h6⟩ := h
  exact ⟨ns, a, r, h1, h2, h3, h4, by omega, h6⟩
/-- a list of refs alone isn't the berth -/
theorem Berth.ne {H : Hp} {b l : Addr} {n : Nat} (h : Berth H b l n) {s : Addr} {bs : List Addr} (hs : H s = some (.lst (bs.map V.ref))) : s ≠ b := by
  obtain ⟨ns, a, r, h1, h2⟩ := h
  refine ne_of hs h1 fun z => ?_
  have z := HO.lst.inj z
  rcases bs with _ | ⟨x, _ | ⟨y, bs⟩⟩ <;> simp at z
theorem Berth.nel {H : Hp} {b l : Addr} {n : Nat} (h : Berth H b l n) : l ≠ b := by
  obtain ⟨ns, a, r, h1, h2, _⟩ := h
  refine ne_of h2 h1 fun z => ?_
  have z := HO.lst.inj z
  rcases ns with _ | ⟨x, ns⟩ <;> simp at z
end K06
namespace K06
open PySem PySem.Spec PyProof.Rows L2
/-- a comprehension whose turns change S alone: what is made so far, and what is said of it -/
theorem lc_fr {J : It} {n : Nat} {G : Hp → Prop} {Y : Nat → Hp → V → Hp → Prop} (w : Walk J n G Y) {S : List Addr} {g : TG} {tt : TT} {te : TE} {vs : List Nat} {σ : L2.St} {H1 : Hp} {D : Addr} {Qd : Hp → Prop}
    (nD : H1 D = none) (hDS : D ∉ S) (hS : ∀ x ∈ S, soft (H1 x)) (hn : n ≤ sizeLine) (Acc : Nat → List V → Hp → Prop) (aS : ∀ i acc H H', Fr [D] H H' → Acc i acc H → Acc i acc H') (gS : ∀ i acc H, Fr S H1 H → Acc i acc H → G H) (h0 : ∀ H, Same H1 H → Acc 0 [] H)
    (hs : ∀ i x H H' acc, i < n → Fr S H1 H → H D = some (.lst acc) → Acc i acc H → Y i H x H' → ∀ (Q : VK) (N : Hp → Prop), (∀ y H4, Fr S H H4 → Acc (i + 1) (acc ++ [y]) H4 → Q y H4) → (∀ H3, Fr S H H3 → Acc (i + 1) acc H3 → N H3) →
      g x (wipe σ vs) H' fun σ2 H2 => wipe σ2 vs = wipe σ vs ∧ tt σ2 H2 fun b H3 => if b = true then te σ2 H3 Q else N H3)
    (hd : ∀ H acc, Fr S H1 H → H D = some (.lst acc) → acc.length ≤ n → Acc n acc H → Qd H) :
    ∃ W : Nat → Nat → Hp → Prop, (∃ m, W 0 m (upd H1 D (.lst []))) ∧ ∀ i m H, W i m H →
      (J.stop i H ∧ Qd H) ∨ (J.go i H ∧ ∃ Nx : Hp → Prop, (∀ H', Nx H' → ∃ m', m' < m ∧ W (i + 1) m' H') ∧ ∀ x H', J.yld i H x H' → g x (wipe σ vs) H' fun σ2 H2 => wipe σ2 vs = wipe σ vs ∧ tt σ2 H2 fun b H3 =>
        if b = true then te σ2 H3 fun y H4 => ∃ acc, H4 D = some (.lst acc) ∧ acc.length < sizeLine ∧ Nx (upd H4 D (.lst (acc ++ [y]))) else Nx H3) := by
  refine lc_it w (fun i H => Fr S H1 H ∧ ∃ acc, H D = some (.lst acc) ∧ acc.length ≤ i ∧ Acc i acc H) ?_ (fun i H _ p => gS i _ H p.1 p.2.choose_spec.2.2) ?_ ?_
  · exact ⟨Fr.mono (Fr.new nD) (fun x hx => by cases hx) hS, [], upd_same, Nat.le_refl _, h0 _ (same_upd nD)⟩
  · rintro i x H H' hi ⟨f, acc, e, hl, ha⟩ y
    refine hs i x H H' acc hi f e ha y _ _ ?_ ?_
    · intro z H4 f4 a4
      have e4 := f4.keep e hDS
      refine ⟨acc, e4, by omega, (f.trans2 f4).step (.inr nD), acc ++ [z], upd_same, by simp; omega, ?_⟩
      exact aS _ _ _ _ (Fr.put (soft_lst e4)) a4
    · intro H3 f3 a3
      exact ⟨f.trans2 f3, acc, f3.keep e hDS, by omega, a3⟩
  · rintro H ⟨f, acc, e, hl, ha⟩
    exact hd H acc f e hl ha
theorem yes {σ : L2.St} {H : Hp} {A N : Hp → Prop} (h : A H) : tYes σ H fun b H3 => if b = true then A H3 else N H3 := by
  show if true = true then A H else N H
  rw [if_pos rfl]; exact h
theorem cut1 (xs : List V) : cutV xs (some 1) none = xs.drop 1 := by
  have e1 : HT.sIx xs.length xs.length none = xs.length := rfl
  have e2 : HT.sIx xs.length 0 (some 1) = min 1 xs.length := by unfold HT.sIx; simp
  unfold cutV
  rw [e1, e2]
  cases xs with
  | nil => rfl
  | cons x xs =>
    have e3 : min 1 (x :: xs).length = 1 := by rw [List.length_cons]; omega
    rw [e3]
    show List.take (xs.length + 1 - 1) xs = xs
    rw [Nat.add_sub_cancel, List.take_length]
section
variable {P : Program} {w : World} {K : PySem.W.Frag} {mg : Str → Option Value} {base : Heap}
/-! ### are_integers -/
def spAreInts : Sp := fun vs H Q _ => ∃ (a : Addr) (ns : List Int), vs = [.ref a] ∧ H a = some (.lst (ns.map V.int)) ∧ ns.length ≤ 1000 ∧ ∀ H', Same H H' → Q (.bl true) H'
theorem ok_areInts {f f1 : Addr} {fd fd1 : FuncData} (D : Df K mg "are_integers" sAreInts ["value"] f fd) (D1 : Df K mg "is_integer" sIsInt ["value"] f1 fd1) (B : Blt mg) :
    FnOk P w K mg base CX0 2 f fd ["value"] spAreInts := by
  have G1 : FnOk P w K mg base CX0 1 f1 fd1 ["value"] spIsInt := ok_isInt D1 B
  refine D.F.ok scAreInts (fun vs H Q E h => ?_) (fun cdv A outer s H vs Q E hr h => ?_)
  · obtain ⟨a, ns, rfl, _⟩ := h; rfl
  · obtain ⟨a, ns, rfl, ha, hl, q⟩ := h
    refine ⟨_, pss_one (ps_ret (pe_and
      (pe_callB call_isiT (by rfl) B.isinstance PyProof.Rows.boot_isinstance (pa_cons (pv 0) (pa_cons (pe_tup (pa_cons (pe_bltn (v := .ty "list") (by rfl) B.list (by decide +kernel) rfl) (pa_cons (pe_bltn (v := .ty "tuple") (by rfl) B.tuple (by decide +kernel) rfl) pa_nil))) pa_nil)))
      (pe_one (pe_callB (cr_all rfl) (by rfl) B.all (by decide +kernel) (pa_cons
        (pe_lc (own := [("each", 1)]) (g := gName 1) (tt := tYes) rfl scAreInts.nd (pi_list (pv 0)) (blkOk_by (own := [("each", 1)]) (N := ["value", "each"]) (sc := defScope sAreInts) (by decide +kernel))
          (fun _ _ _ _ _ => pg_name (i := 1) scAreInts.nd rfl (Or.inl rfl)) (fun _ _ _ _ _ => pts_nil)
          (fun _ _ _ _ _ => pe_call G1 hr (by rfl) D1.g D1.F.kp D1.b .nil pass0 (pa_cons (pv 1) pa_nil))) pa_nil))))), ?_⟩
    refine ⟨.ref a, rfl, by show 2 ≤ sizeLine; decide, fun tp ntp => ?_⟩
    have F0 : Same H (upd H tp (.tup [.ty "list", .ty "tuple"])) := same_upd ntp
    refine ⟨.ref a, tp, _, .type "list", [.type "list", .type "tuple"], true, rfl, upd_same, .cons (.ty "list") (.cons (.ty "tuple") .nil), .base (.lst (F0 _ _ ha)), ?_, true, rfl, iteT ?_⟩
    · exact kitAny_cons (b := true) (kit_ty (by decide +kernel)) (fun z => nomatch z) fun _ => rfl
    refine ⟨.ref a, rfl, a, rfl, ⟨_, .of (F0 _ _ ha)⟩, fun D nD => ?_⟩
    refine lc_fr (S := []) (walk_list (xs := ns.map V.int)) nD (by simp) (by simp) (by rw [List.length_map]; exact Nat.le_of_lt (small1000 hl)) (fun i acc _ => acc = List.replicate i (V.bl true)) (fun _ _ _ _ _ h => h)
      (fun i acc H' f _ => .of (f.same _ _ (F0 _ _ ha))) (fun _ _ => rfl) ?_ ?_
    · rintro i x H1 H2 acc hi f _ rfl ⟨rfl, hx⟩ Qk Nk hq hn
      rw [List.getElem?_map] at hx
      obtain ⟨j, _, rfl⟩ := Option.map_eq_some_iff.mp hx
      refine ⟨rfl, yes ?_⟩
      refine ⟨.int j, rfl, j, rfl, ?_⟩
      exact hq _ _ (.refl _) (by rw [List.replicate_succ'])
    · rintro H1 acc f e _ rfl
      refine ⟨D, List.replicate (ns.map V.int).length true, rfl, .of (by rw [e, List.map_replicate]), ?_⟩
      rw [List.all_replicate]
      have F2 := F0.trans f.same
      split
      · exact q _ F2
      · exact q _ F2
/-! ### is_lot -/
def spIsLot : Sp := fun vs H Q _ => ∃ (a : Addr) (n : Int) (lot : List Nat), vs = [.ref a, .int n] ∧ H a = some (.lst (lot.map fun k : Nat => V.int k)) ∧ lot.length ≤ 1000 ∧ lot.Pairwise (· < ·) ∧ (∀ k ∈ lot, (k : Int) < n) ∧ ∀ H', Same H H' → Q (.bl true) H'
theorem ok_isLot {f f1 f2 : Addr} {fd fd1 fd2 : FuncData} (D : Df K mg "is_lot" sIsLot ["value", "many"] f fd) (D1 : Df K mg "are_integers" sAreInts ["value"] f1 fd1) (D2 : Df K mg "is_integer" sIsInt ["value"] f2 fd2) (B : Blt mg) :
    FnOk P w K mg base CX0 3 f fd ["value", "many"] spIsLot := by
  have G1 : FnOk P w K mg base CX0 2 f1 fd1 ["value"] spAreInts := ok_areInts D1 D2 B
  refine D.F.ok scIsLot (fun vs H Q E h => ?_) (fun cdv A outer s H vs Q E hr h => ?_)
  · obtain ⟨a, n, lot, rfl, _⟩ := h; rfl
  · obtain ⟨a, n, lot, rfl, ha, hl, hp, hk, q⟩ := h
    refine ⟨_, pss_cons (ps_if (PW.pt (pw_or (pt_not (pt_val (pe_call G1 hr (by rfl) D1.g D1.F.kp D1.b .nil pass0 (pa_cons (pv 0) pa_nil))))
        (pw_or1 (pt_not (pt_val (pe_callB (cr_all rfl) (by rfl) B.all (by decide +kernel) (pa_cons
          (pe_lc (own := [("each", 2)]) (g := gName 2) (tt := tYes) rfl scIsLot.nd (pi_list (pv 0)) (blkOk_by (own := [("each", 2)]) (N := ["value", "many", "each", "one", "other"]) (sc := defScope sIsLot) (by decide +kernel))
            (fun _ _ _ _ _ => pg_name (i := 2) scIsLot.nd rfl (Or.inl rfl)) (fun _ _ _ _ _ => pts_nil)
            (fun _ _ _ _ _ => pe_chain op_le op_lt pe_int (pv 2) (pv 1))) pa_nil)))))))
        (pss_one (ps_ret pe_bl)) pss_nil)
      (pss_one (ps_ret (pe_callB (cr_all rfl) (by rfl) B.all (by decide +kernel) (pa_cons
          (pe_lc (own := [("one", 3), ("other", 4)]) (g := gTup K 2 (gCons (gName 3) (gCons (gName 4) gNil))) (tt := tYes) rfl scIsLot.nd (pi_zip (by rfl) B.zip (pa_cons (pv 0) (pa_cons (pe_slice sl_list (pv 0) (po_some pe_int) po_none) pa_nil)))
            (blkOk_by (own := [("one", 3), ("other", 4)]) (N := ["value", "many", "each", "one", "other"]) (sc := defScope sIsLot) (by decide +kernel))
            (fun _ _ _ _ _ => pg_tup rfl (pgs_cons (pg_name (i := 3) scIsLot.nd rfl (Or.inl rfl)) (pgs_cons (pg_name (i := 4) scIsLot.nd rfl (Or.inl rfl)) pgs_nil))) (fun _ _ _ _ _ => pts_nil)
            (fun _ _ _ _ _ => pe_cmpR op_lt (pv 3) (pv 4) (nomark _))) pa_nil)))), ?_⟩
    refine ⟨.ref a, rfl, a, lot.map fun k : Nat => (k : Int), rfl, by rw [List.map_map]; exact ha, by rw [List.length_map]; exact hl, fun H0 S0 => ⟨true, rfl, iteF ?_⟩⟩
    have ha0 := S0 _ _ ha
    refine ⟨.ref a, rfl, a, rfl, ⟨_, .of ha0⟩, fun D nD => ?_⟩
    refine lc_fr (S := []) (walk_list (xs := lot.map fun k : Nat => V.int k)) nD (by simp) (by simp) (by rw [List.length_map]; exact Nat.le_of_lt (small1000 hl)) (fun i acc _ => acc = List.replicate i (V.bl true)) (fun _ _ _ _ _ h => h)
      (fun i acc H' f _ => .of (f.same _ _ ha0)) (fun _ _ => rfl) ?_ ?_
    · rintro i x H1 H2 acc hi f _ rfl ⟨rfl, hx⟩ Qk Nk hq hn
      rw [List.getElem?_map] at hx
      obtain ⟨j, hj, rfl⟩ := Option.map_eq_some_iff.mp hx
      have hjn := hk j (List.mem_of_getElem? hj)
      refine ⟨rfl, yes ?_⟩
      refine ⟨.int j, rfl, 0, (j : Int), rfl, rfl, decide ((0 : Int) ≤ (j : Int)), rfl, ?_⟩
      rw [decide_eq_true (Int.natCast_nonneg j)]
      refine iteT ⟨.int n, rfl, (j : Int), n, rfl, rfl, ?_⟩
      show Qk (.bl (decide ((j : Int) < n))) _
      rw [decide_eq_true hjn]
      exact hq _ _ (.refl _) (by rw [List.replicate_succ'])
    · rintro H1 acc f e _ rfl
      refine ⟨D, List.replicate (lot.map fun k : Nat => V.int k).length true, rfl, .of (by rw [e, List.map_replicate]), true, by rw [List.all_replicate]; split <;> rfl, iteF ?_⟩
      have S1 := S0.trans f.same
      have ha1 := S1 _ _ ha
      refine ⟨.ref a, rfl, .ref a, rfl, 1, rfl, a, _, rfl, .of ha1, fun l nl => ?_⟩
      have S2 := same_up (o := .lst (cutV (lot.map fun k : Nat => V.int k) (some 1) none)) S1 nl
      refine ⟨a, l, _, _, rfl, .of (S2 _ _ ha), .of upd_same, fun D2 nD2 => ?_⟩
      rw [cut1] at nD2 S2 ⊢
      refine lc_fr (S := []) (walk_zip (xs := lot.map fun k : Nat => V.int k) (ys := (lot.map fun k : Nat => V.int k).drop 1) rfl) nD2 (by simp) (by simp) (by rw [List.length_map]; have := small1000 hl; omega)
        (fun i acc _ => acc = List.replicate i (V.bl true)) (fun _ _ _ _ _ h => h) (fun i acc H' f _ => ⟨.of (f.same _ _ (S2 _ _ ha)), .of (f.same _ _ upd_same)⟩) (fun _ _ => rfl) ?_ ?_
      · rintro i x H3 H4 acc hi f3 _ rfl ⟨T, x1, x2, rfl, nT, rfl, h1, h2⟩ Qk Nk hq hn
        have h1 : (lot.map fun k : Nat => V.int k)[i]? = some x1 := h1
        have h2 : ((lot.map fun k : Nat => V.int k).drop 1)[i]? = some x2 := h2
        rw [List.getElem?_map] at h1
        obtain ⟨j1, hj1, rfl⟩ := Option.map_eq_some_iff.mp h1
        rw [List.getElem?_drop, List.getElem?_map] at h2
        obtain ⟨j2, hj2, rfl⟩ := Option.map_eq_some_iff.mp h2
        have lt : j1 < j2 := by
          obtain ⟨l1, e1⟩ := List.getElem?_eq_some_iff.mp hj1
          obtain ⟨l2, e2⟩ := List.getElem?_eq_some_iff.mp hj2
          have := List.pairwise_iff_getElem.mp hp i (1 + i) l1 l2 (by omega)
          rw [e1, e2] at this
          exact this
        refine ⟨T, _, rfl, .of upd_same, rfl, _, _, rfl, _, _, rfl, rfl, rfl, yes ?_⟩
        refine ⟨.int j1, rfl, .int j2, rfl, _, _, rfl, rfl, ?_⟩
        show Qk (.bl (decide ((j1 : Int) < (j2 : Int)))) _
        rw [decide_eq_true (by omega : (j1 : Int) < (j2 : Int))]
        exact hq _ _ (Fr.new nT) (by rw [List.replicate_succ'])
      · rintro H3 acc f3 e3 _ rfl
        refine ⟨D2, List.replicate _ true, rfl, .of (by rw [e3, List.map_replicate]), ?_⟩
        rw [List.all_replicate]
        have S4 := S2.trans f3.same
        split
        · exact q _ S4
        · exact q _ S4
end
end K06
namespace K06
open PySem PySem.Spec PyProof.Rows L2
section
variable {X : Cx}
theorem pe_either {e : Expr} {t u : TE} (h : PE X e t) (h' : PE X e u) : PE X e (fun σ H Q => t σ H Q ∨ u σ H Q) :=
  ⟨fun pins s σ H Q I q => q.elim (h.run pins s σ H Q I) (h'.run pins s σ H Q I)⟩
end
section
variable {P : Program} {w : World} {K : PySem.W.Frag} {mg : Str → Option Value} {base : Heap}
theorem take_snoc {α : Type} {l : List α} {i : Nat} {x : α} (h : l[i]? = some x) : l.take (i + 1) = l.take i ++ [x] := by
  rw [List.take_add_one, h]; rfl
theorem atI_int {α : Type} {xs : List α} {i : Int} {v : α} (h0 : 0 ≤ i) (h : xs[i.toNat]? = some v) : atI xs i = some v := by
  have := atI_nat h
  rw [Int.toNat_of_nonneg h0] at this
  exact this
/-! ### are_values: one value, in a list or in a tuple -/
def spAreVals : Sp := fun vs H Q _ => ∃ (a : Addr) (x m : Int), vs = [.ref a, .int m] ∧ (H a = some (.lst [.int x]) ∨ H a = some (.tup [.int x])) ∧ 0 ≤ x ∧ x ≤ 9223372036854775807 ∧ 1 ≤ m ∧ ∀ H', Same H H' → Q (.bl true) H'
theorem ok_areVals {f f1 f2 : Addr} {fd fd1 fd2 : FuncData} (D : Df K mg "are_values" sAreVals ["value", "most"] f fd) (D1 : Df K mg "is_within" sWithin ["value", "least", "most"] f1 fd1) (D2 : Df K mg "is_integer" sIsInt ["value"] f2 fd2) (B : Blt mg) (N : Cns mg) :
    FnOk P w K mg base CX0 3 f fd ["value", "most"] spAreVals := by
  have G1 : FnOk P w K mg base CX0 2 f1 fd1 ["value", "least", "most"] spWithin := ok_within D1 D2 B
  have G2 : FnOk P w K mg base CX0 1 f2 fd2 ["value"] spIsInt := ok_isInt D2 B
  refine D.F.ok scAreVals (fun vs H Q E h => ?_) (fun cdv A outer s H vs Q E hr h => ?_)
  · obtain ⟨a, x, m, rfl, _⟩ := h; rfl
  · obtain ⟨a, x, m, rfl, ha, hx0, hx1, hm, q⟩ := h
    obtain ⟨t5, e5⟩ := N.most
    have hr1 := hr.mono (by decide : 1 ≤ 2)
    refine ⟨_, pss_cons (ps_if (PW.pt (pw_or (pt_not (pt_val (pe_callB call_isiT (by rfl) B.isinstance PyProof.Rows.boot_isinstance (pa_cons (pv 0) (pa_cons (pe_tup (pa_cons (pe_bltn (v := .ty "list") (by rfl) B.list (by decide +kernel) rfl) (pa_cons (pe_bltn (v := .ty "tuple") (by rfl) B.tuple (by decide +kernel) rfl) pa_nil))) pa_nil)))))
        (pw_or1 (pt_cmpR op_gt (pe_callB call_len_seq (by rfl) B.len (by decide +kernel) (pa_cons (pv 0) pa_nil)) (pv 1) (nomark _)))))
        (pss_one (ps_ret pe_bl)) pss_nil)
      (pss_one (ps_ret (pe_callB (cr_all rfl) (by rfl) B.all (by decide +kernel) (pa_cons
          (pe_either
            (pe_lc (own := [("each", 2)]) (g := gName 2) (tt := tYes) rfl scAreVals.nd (pi_list (pv 0)) (blkOk_by (own := [("each", 2)]) (N := ["value", "most", "each"]) (sc := defScope sAreVals) (by decide +kernel))
              (fun _ _ _ _ _ => pg_name (i := 2) scAreVals.nd rfl (Or.inl rfl)) (fun _ _ _ _ _ => pts_nil)
              (fun _ _ _ _ _ => pe_and (pe_call G2 hr1 (by rfl) D2.g D2.F.kp D2.b .nil pass0 (pa_cons (pv 2) pa_nil)) (pe_one (pe_call G1 hr (by rfl) D1.g D1.F.kp D1.b .nil pass0 (pa_cons (pv 2) (pa_cons pe_int (pa_cons (pe_glob (v := .int 9223372036854775807) (by rfl) e5 ⟨_, rfl⟩) pa_nil)))))))
            (pe_lc (own := [("each", 2)]) (g := gName 2) (tt := tYes) rfl scAreVals.nd (pi_tup (pv 0)) (blkOk_by (own := [("each", 2)]) (N := ["value", "most", "each"]) (sc := defScope sAreVals) (by decide +kernel))
              (fun _ _ _ _ _ => pg_name (i := 2) scAreVals.nd rfl (Or.inl rfl)) (fun _ _ _ _ _ => pts_nil)
              (fun _ _ _ _ _ => pe_and (pe_call G2 hr1 (by rfl) D2.g D2.F.kp D2.b .nil pass0 (pa_cons (pv 2) pa_nil)) (pe_one (pe_call G1 hr (by rfl) D1.g D1.F.kp D1.b .nil pass0 (pa_cons (pv 2) (pa_cons pe_int (pa_cons (pe_glob (v := .int 9223372036854775807) (by rfl) e5 ⟨_, rfl⟩) pa_nil))))))))
          pa_nil)))), ?_⟩
    refine ⟨.ref a, rfl, by show 2 ≤ sizeLine; decide, fun tp ntp => ?_⟩
    have F0 : Same H (upd H tp (.tup [.ty "list", .ty "tuple"])) := same_upd ntp
    have key : ∀ (Hx : Hp), Same (upd H tp (.tup [.ty "list", .ty "tuple"])) Hx → ∀ D, Hx D = some (.lst [V.bl true]) → rAll K [.ref D] Hx fun v H1 => Q v H1 := fun Hx S D e => ⟨D, [true], rfl, .of e, q _ (F0.trans S)⟩
    have one : ∀ i : Nat, ∀ z : V, i < [V.int x].length → [V.int x][i]? = some z → i = 0 ∧ z = .int x := by
      intro i z hi hz
      have e : i = 0 := by simpa using hi
      subst e
      exact ⟨rfl, (by simpa using hz.symm)⟩
    rcases ha with ha | ha
    · refine ⟨.ref a, tp, _, .type "list", [.type "list", .type "tuple"], true, rfl, upd_same, .cons (.ty "list") (.cons (.ty "tuple") .nil), .base (.lst (F0 _ _ ha)), ?_, true, rfl, iteF ?_⟩
      · exact kitAny_cons (b := true) (kit_ty (by decide +kernel)) (fun z => nomatch z) fun _ => rfl
      refine ⟨.ref a, rfl, a, [.int x], rfl, .inl (.of (F0 _ _ ha)), .int m, rfl, 1, m, rfl, rfl, false, by show V.bl (decide (m < 1)) = _; rw [decide_eq_false (by omega)], iteF ?_⟩
      refine .inl ⟨.ref a, rfl, a, rfl, ⟨_, .of (F0 _ _ ha)⟩, fun D nD => ?_⟩
      refine lc_fr (S := []) (walk_list (xs := [V.int x])) nD (by simp) (by simp) (by show 1 ≤ sizeLine; decide) (fun i acc _ => acc = List.replicate i (V.bl true)) (fun _ _ _ _ _ h => h) (fun i acc H' f _ => .of (f.same _ _ (F0 _ _ ha))) (fun _ _ => rfl) ?_ ?_
      · rintro i z H1 H2 acc hi f _ rfl ⟨rfl, hz⟩ Qk Nk hq hn
        obtain ⟨rfl, rfl⟩ := one i z hi hz
        refine ⟨rfl, yes ?_⟩
        refine ⟨.int x, rfl, x, rfl, true, rfl, iteT ?_⟩
        exact ⟨.int x, rfl, x, 0, _, rfl, hx0, hx1, hq _ _ (.refl _) rfl⟩
      · rintro H1 acc f e _ rfl
        exact key _ f.same D e
    · refine ⟨.ref a, tp, _, .type "tuple", [.type "list", .type "tuple"], true, rfl, upd_same, .cons (.ty "list") (.cons (.ty "tuple") .nil), .base (.tup (F0 _ _ ha)), ?_, true, rfl, iteF ?_⟩
      · exact kitAny_cons (b := false) (kit_ty (by decide +kernel)) (fun _ => kitAny_cons (b := true) (kit_ty (by decide +kernel)) (fun z => nomatch z) fun _ => rfl) fun z => nomatch z
      refine ⟨.ref a, rfl, a, [.int x], rfl, .inr (.of (F0 _ _ ha)), .int m, rfl, 1, m, rfl, rfl, false, by show V.bl (decide (m < 1)) = _; rw [decide_eq_false (by omega)], iteF ?_⟩
      refine .inr ⟨.ref a, rfl, a, rfl, ⟨_, .of (F0 _ _ ha)⟩, fun D nD => ?_⟩
      refine lc_fr (S := []) (walk_tup (xs := [V.int x])) nD (by simp) (by simp) (by show 1 ≤ sizeLine; decide) (fun i acc _ => acc = List.replicate i (V.bl true)) (fun _ _ _ _ _ h => h) (fun i acc H' f _ => .of (f.same _ _ (F0 _ _ ha))) (fun _ _ => rfl) ?_ ?_
      · rintro i z H1 H2 acc hi f _ rfl ⟨rfl, hz⟩ Qk Nk hq hn
        obtain ⟨rfl, rfl⟩ := one i z hi hz
        refine ⟨rfl, yes ?_⟩
        refine ⟨.int x, rfl, x, rfl, true, rfl, iteT ?_⟩
        exact ⟨.int x, rfl, x, 0, _, rfl, hx0, hx1, hq _ _ (.refl _) rfl⟩
      · rintro H1 acc f e _ rfl
        exact key _ f.same D e
/-! ### landed -/
def spLanded : Sp := fun vs H Q _ => ∃ (c s : Addr) (g : Gd) (ss : List PlV) (n : Nat), vs = [.ref c, .ref s] ∧ CellsAt H c g ∧ StrokesAt H s ss ∧ tracked ss ∧ (∀ i, (g i).length ≤ n) ∧ n + ss.length ≤ 1000 ∧
  ∀ H' c', Same H H' → H c' = none → CellsAt H' c' (landC g ss) → Q (.ref c') H'
theorem ok_landed {f : Addr} {fd : FuncData} (D : Df K mg "landed" sLanded ["cells", "strokes"] f fd) (B : Blt mg) : FnOk P w K mg base CX0 1 f fd ["cells", "strokes"] spLanded := by
  refine D.F.ok scLanded (fun vs H Q E h => ?_) (fun cdv A outer s0 H vs Q E hr h => ?_)
  · obtain ⟨c, s, g, ss, n, rfl, _⟩ := h; rfl
  · obtain ⟨c, s, g, ss, n, rfl, ⟨ds, hc, h3, hnd, hds⟩, ⟨bs, hs, hb⟩, htr, hgl, hsz, q⟩ := h
    refine ⟨_, pss_cons (ps_setLc (i := 2) (own := [("track", 3)]) (g := gName 3) (tt := tYes) rfl scLanded.nd rfl rfl (sw_true rfl rfl rfl (by decide +kernel)) (pi_list (pv 0)) (blkOk_by (own := [("track", 3)]) (N := ["cells", "strokes", "found", "track", "at", "value"]) (sc := defScope sLanded) (by decide +kernel))
          (fun _ _ _ _ _ => pg_name (i := 3) scLanded.nd rfl (Or.inl rfl)) (fun _ _ _ _ _ => pts_nil)
          (fun _ _ _ _ _ => pe_callTy call_dictD (by rfl) B.dict (by decide +kernel) (pa_cons (pv 3) pa_nil)))
      (pss_cons (ps_for PassesOwn.never rfl (pi_list (pv 1)) (pg_tup rfl (pgs_cons (pg_tup rfl (pgs_cons (pg_name (i := 3) scLanded.nd rfl (Or.inl rfl)) (pgs_cons (pg_name (i := 4) scLanded.nd rfl (Or.inl rfl)) pgs_nil))) (pgs_cons (pg_name (i := 5) scLanded.nd rfl (Or.inl rfl)) pgs_nil)))
          (pss_one (ps_asg (pv 5) (pg_sub (pe_ix ix_list (pv 2) (pv 3) (fun _ _ => rfl)) (pv 4) (set_dict (hu_of hr))))))
        (pss_one (ps_ret (pv 2)))), ?_⟩
    refine ⟨.ref c, rfl, c, rfl, ⟨_, .of hc⟩, fun F nF => ?_⟩
    refine lc_fr (S := []) (walk_list (xs := ds.map V.ref)) nF (by simp) (by simp) (by rw [List.length_map, h3]; decide)
      (fun i acc Hx => ∃ es : List Addr, acc = es.map V.ref ∧ es.length = i ∧ es.Nodup ∧ (∀ e ∈ es, H e = none ∧ e ≠ F) ∧ ∀ (j : Nat) (e : Addr), es[j]? = some e → Hx e = some (.dK (emb Sum.inl (g j))))
      (fun i acc Hx Hy f h => ?_) (fun i acc H' f _ => .of (f.same _ _ hc)) (fun _ _ => ⟨[], rfl, rfl, .nil, by simp, by simp⟩) ?_ ?_
    · obtain ⟨es, h1, h2, h3, h4, h5⟩ := h
      exact ⟨es, h1, h2, h3, h4, fun j e z => f.keep (h5 j e z) (by simpa using (h4 e (List.mem_of_getElem? z)).2)⟩
    · rintro i x H1 H2 acc hi f eF ⟨es, rfl, hel, hen, hem, hed⟩ ⟨rfl, hx⟩ Qk Nk hq hn
      rw [List.getElem?_map] at hx
      obtain ⟨d, hd, rfl⟩ := Option.map_eq_some_iff.mp hx
      have hd1 := f.same _ _ (hds i d hd)
      refine ⟨rfl, yes ?_⟩
      refine ⟨.ref d, rfl, d, _, rfl, .inl hd1, fun p np => ?_⟩
      refine hq _ _ (Fr.new np) ⟨es ++ [p], by rw [List.map_append]; rfl, by rw [List.length_append, hel]; rfl, ?_, ?_, ?_⟩
      · rw [List.nodup_append]
        refine ⟨hen, by simp, fun a ha b hb => ?_⟩
        have eb : b = p := by simpa using hb
        obtain ⟨j, hj, ej⟩ := List.getElem_of_mem ha
        rw [eb]
        exact ne_of_none (hed j a (by rw [List.getElem?_eq_getElem hj, ej])) np
      · intro e he
        rcases List.mem_append.mp he with z | z
        · exact hem e z
        · have e2 : e = p := by simpa using z
          rw [e2]
          exact ⟨f.same.free np, fun z => by rw [z, eF] at np; cases np⟩
      · intro j e he
        rw [List.getElem?_append] at he
        split at he
        · rename_i hj
          have := hed j e he
          rw [upd_ne (ne_of_none this np)]; exact this
        · rename_i hj
          have e0 : j - es.length = 0 := by
            cases z : j - es.length with
            | zero => rfl
            | succ k => rw [z] at he; simp at he
          rw [e0] at he
          have e1 : e = p := by simpa using he.symm
          have e2 : j = i := by omega
          rw [e1, e2, upd_same]
    · rintro H1 acc f1 eF hlen ⟨es, rfl, hel, hen, hem, hed⟩
      have hS1 := f1.same
      have hs1 := hS1 _ _ hs
      rw [List.length_map, h3] at hel
      have hFb : ∀ {Hx : Hp}, Fr [] H Hx → Sk Hx bs ss := fun f => hb.fr f
      refine ⟨.ref s, rfl, s, rfl, ⟨_, .of hs1⟩, ?_⟩
      have hbl := Paired.length hb
      refine for_list (xs := bs.map V.ref) (fun i σ Hx => (∃ x3 x4 x5, σ = [some (.ref c), some (.ref s), some (.ref F), x3, x4, x5]) ∧ Same H Hx ∧ Hx F = some (.lst (es.map V.ref)) ∧
        ∀ (j : Nat) (e : Addr), es[j]? = some e → Hx e = some (.dK (emb Sum.inl (landC g (ss.take i) j)))) ?_ ?_ ?_ ?_
      · exact ⟨⟨_, _, _, rfl⟩, hS1, eF, hed⟩
      · rintro i σ Hx _ ⟨_, S, _⟩
        exact .of (S _ _ hs)
      · rintro i x σ Hx hx ⟨⟨x3, x4, x5, rfl⟩, S, eFx, hex⟩
        rw [List.getElem?_map] at hx
        obtain ⟨b, hb1, rfl⟩ := Option.map_eq_some_iff.mp hx
        obtain ⟨⟨⟨t, a⟩, v⟩, hsi, q2, hq2, hq3⟩ := Paired.get' (hFb (.of_same S)) hb1
        obtain ⟨ht0, ht2⟩ := htr _ (List.mem_of_getElem? hsi)
        have ht0 : 0 ≤ t := ht0
        have ht2 : t ≤ 2 := ht2
        have hlt : t.toNat < es.length := by omega
        have hj : es[t.toNat]? = some es[t.toNat] := List.getElem?_eq_getElem hlt
        have htn : ((t.toNat : Nat) : Int) = t := Int.toNat_of_nonneg ht0
        refine ⟨b, _, rfl, .of hq2, rfl, .ref q2, _, rfl, q2, _, rfl, .of hq3, rfl, .int t, _, rfl, .int a, _, rfl, rfl, .int v, _, rfl, rfl, ?_⟩
        have hlen2 : (landC g (ss.take i) t.toNat).length < 1001 := by
          have := length_landC (ss.take i) g n hgl t.toNat
          have h5 : (ss.take i).length ≤ ss.length := by rw [List.length_take]; omega
          omega
        refine ⟨.int v, rfl, .ref F, rfl, .int t, rfl, F, es.map V.ref, t, .ref es[t.toNat], rfl, rfl, .of eFx, ?_, .int a, rfl, es[t.toNat], _, rfl, DPut.k (k := Sum.inl a) (hex _ _ hj) ?_, ?_⟩
        · exact atI_int ht0 (by rw [List.getElem?_map, hj]; rfl)
        · rw [emb_length]
          exact Nat.lt_of_lt_of_le hlen2 (by decide)
        have hnF : F ≠ es[t.toNat] := fun z => (hem _ (List.getElem_mem hlt)).2 z.symm
        refine ⟨⟨_, _, _, rfl⟩, same_up' S (hem _ (List.getElem_mem hlt)).1, by rw [upd_ne hnF]; exact eFx, ?_⟩
        intro j e he
        rw [take_snoc hsi]
        show upd Hx es[t.toNat] _ e = some (.dK (emb Sum.inl (landC g (ss.take i ++ [((t, a), v)]) j)))
        have el : landC g (ss.take i ++ [((t, a), v)]) = landC1 (landC g (ss.take i)) ((t, a), v) := by unfold landC; rw [List.foldl_append]; rfl
        rw [el, emb_put gI_inj]
        unfold landC1
        by_cases hjt : j = t.toNat
        · subst hjt
          have e1 : e = es[t.toNat] := by rw [hj] at he; exact (Option.some.inj he).symm
          rw [e1, upd_same, if_pos rfl]
        · rw [if_neg hjt, upd_ne]
          · exact hex j e he
          · intro z
            rw [z, ← hj] at he
            have hjl : j < es.length := by
              have := List.getElem?_eq_some_iff.mp (he.trans hj)
              exact this.1
            exact hjt ((List.getElem?_inj hjl hen).mp he)
      · rintro σ Hx ⟨⟨x3, x4, x5, rfl⟩, S, eFx, hex⟩
        refine ⟨.ref F, rfl, q _ _ S nF ⟨es, eFx, hel, hen, ?_⟩⟩
        rw [List.length_map, hbl, List.take_length] at hex
        exact hex
/-! ### pairs_in -/
def spPairsIn : Sp := fun vs H Q _ => ∃ (d : Addr) (m : List (Int × Int)), vs = [.ref d] ∧ H d = some (.dK (emb Sum.inl m)) ∧ (keysOf m).Nodup ∧ m.length ≤ 1000 ∧ ∀ H' p P, Same H H' → KeptAt H' p P → IsKept m P → P.length ≤ m.length → Q (.ref p) H'
def kOf (H : Hp) : V → Int × Int
  | .ref t => match H t with
    | some (.tup [.int i, .int j]) => (i, j)
    | _ => (0, 0)
  | _ => (0, 0)
theorem kOf_at {H : Hp} {t : Addr} {i j : Int} (h : H t = some (.tup [.int i, .int j])) : kOf H (.ref t) = (i, j) := by
  show (match H t with | some (.tup [.int i, .int j]) => (i, j) | _ => (0, 0)) = (i, j)
  rw [h]
/-- pairs that were sorted -/
theorem sorted_pairs {H : Hp} {ps : List Addr} {L : List (Int × Int)} (hp : Pr H ps L) {ys : List V} (h1 : SrtO.Srtd (ltP (kOf H)) ys) (h2 : ys.Perm (ps.map V.ref)) (hn : (keysOf L).Nodup) :
    ∃ (qs : List Addr) (R : List (Int × Int)), ys = qs.map V.ref ∧ Pr H qs R ∧ R.Perm L ∧ R.Pairwise (fun a b => a.1 < b.1) := by
  have hk : (ps.map V.ref).map (kOf H) = L := by
    clear h1 h2 hn
    induction hp with
    | nil => rfl
    | cons h t ih => rw [List.map_cons, List.map_cons, ih, kOf_at h]
  have hall : ∀ y ∈ ys, ∃ t, y = V.ref t ∧ H t = some (.tup [.int (kOf H y).1, .int (kOf H y).2]) := by
    intro y hy
    obtain ⟨t, ht, rfl⟩ := List.mem_map.mp (h2.mem_iff.mp hy)
    obtain ⟨i, hi, e⟩ := List.getElem_of_mem ht
    obtain ⟨⟨a, b⟩, _, hb⟩ := Paired.get' hp (show ps[i]? = some t by rw [List.getElem?_eq_getElem hi, e])
    exact ⟨t, rfl, by rw [kOf_at hb]; exact hb⟩
  have hperm : (ys.map (kOf H)).Perm L := by rw [← hk]; exact h2.map _
  have hR : Pr H (ys.map fun y => match y with | .ref t => t | _ => 0) (ys.map (kOf H)) ∧ ys = (ys.map fun y => match y with | .ref t => t | _ => 0).map V.ref := by
    clear h1 h2 hperm
    induction ys with
    | nil => exact ⟨.nil, rfl⟩
    | cons y ys ih =>
      obtain ⟨t, rfl, ht⟩ := hall y List.mem_cons_self
      obtain ⟨i1, i2⟩ := ih fun z hz => hall z (List.mem_cons_of_mem _ hz)
      exact ⟨.cons ht i1, by rw [List.map_cons, List.map_cons, ← i2]⟩
  refine ⟨_, _, hR.2, hR.1, hperm, ?_⟩
  have hnk : ((ys.map (kOf H)).map (·.1)).Nodup := (hperm.map _).nodup_iff.mpr hn
  have h3 : (ys.map (kOf H)).Pairwise (fun a b => a.1 ≤ b.1) := by
    rw [List.pairwise_map]
    refine h1.imp fun {x y} z => ?_
    have z : SrtO.lexB (kOf H y) (kOf H x) = false := z
    have z2 : ¬ SrtO.lexB (kOf H y) (kOf H x) = true := by rw [z]; simp
    rw [SrtO.lexB_iff] at z2
    omega
  have h4 : (ys.map (kOf H)).Pairwise (fun a b => a.1 ≠ b.1) := by
    have := hnk
    unfold List.Nodup at this
    rw [List.pairwise_map] at this
    exact this
  exact (h3.and h4).imp fun ⟨a, b⟩ => by omega
theorem ok_pairsIn {f : Addr} {fd : FuncData} (D : Df K mg "pairs_in" sPairsIn ["track"] f fd) (B : Blt mg) : FnOk P w K mg base CX0 1 f fd ["track"] spPairsIn := by
  refine D.F.ok scPairsIn (fun vs H Q E h => ?_) (fun cdv A outer s0 H vs Q E hr h => ?_)
  · obtain ⟨d, m, rfl, _⟩ := h; rfl
  · obtain ⟨d, m, rfl, hd, hnd, hl, q⟩ := h
    refine ⟨_, pss_one (ps_ret (pe_callTy cr_tupleZ (by rfl) B.tuple (by decide +kernel) (pa_cons (pe_callB cr_sortedPO (by rfl) B.sorted (by decide +kernel) (pa_cons
      (pe_lock (pe_lc (own := [("at", 1), ("value", 2)]) (g := gTup K 2 (gCons (gName 1) (gCons (gName 2) gNil))) rfl scPairsIn.nd (pi_items (pv 0)) (blkOk_by (own := [("at", 1), ("value", 2)]) (N := ["track", "at", "value"]) (sc := defScope sPairsIn) (by decide +kernel))
          (fun _ _ _ _ _ => pg_tup rfl (pgs_cons (pg_name (i := 1) scPairsIn.nd rfl (Or.inl rfl)) (pgs_cons (pg_name (i := 2) scPairsIn.nd rfl (Or.inl rfl)) pgs_nil)))
          (fun _ _ _ _ _ => pts_one (pt_cmpR op_ne (pv 2) pe_int (nomark _)))
          (fun _ _ _ _ _ => pe_tup (pa_cons (pv 1) (pa_cons (pv 2) pa_nil))))) pa_nil)) pa_nil))), ?_⟩
    refine ⟨d, _, hd, trivial, fun od => ?_⟩
    refine ⟨.ref d, rfl, d, od, _, rfl, upd_same, fun F nF => ?_⟩
    have hdF : F ≠ d := fun z => by rw [z, upd_same] at nF; cases nF
    refine lc_fr (S := []) (walk_items (kvs := emb Sum.inl m)) nF (by simp) (by simp) (by rw [emb_length]; exact Nat.le_of_lt (small1000 hl)) (fun i acc Hx => ∃ ps : List Addr, acc = ps.map V.ref ∧ Pr Hx ps ((m.take i).filter fun q => !decide (q.2 = 0)))
      (fun i acc Hx Hy f h => ?_) (fun i acc H' f _ => f.same _ _ upd_same) (fun _ _ => ⟨[], rfl, .nil⟩) ?_ ?_
    · obtain ⟨ps, rfl, h2⟩ := h
      exact ⟨ps, rfl, h2.mono fun _ _ z => f.tup z⟩
    · rintro i x H1 H2 acc hi f eF ⟨ps, rfl, hps⟩ ⟨T, x1, x2, rfl, nT, rfl, h1, h2⟩ Qk Nk hq hn
      have him : i < m.length := by rw [emb_length] at hi; exact hi
      have hmi : m[i]? = some m[i] := List.getElem?_eq_getElem him
      have hei : (emb Sum.inl m : List (Key × V))[i]? = some (Sum.inl m[i].1, V.int m[i].2) := by unfold emb; rw [List.getElem?_map, hmi]; rfl
      have h1 : ((emb Sum.inl m : List (Key × V))[i]?.map fun kv => kV kv.1) = some x1 := h1
      have h2 : ((emb Sum.inl m : List (Key × V))[i]?.map Prod.snd) = some x2 := h2
      rw [hei] at h1 h2
      obtain rfl : V.int m[i].1 = x1 := Option.some.inj h1
      obtain rfl : V.int m[i].2 = x2 := Option.some.inj h2
      have F1 : Fr [] H1 (upd H1 T (.tup [.int m[i].1, .int m[i].2])) := Fr.new nT
      refine ⟨T, _, rfl, .of upd_same, rfl, _, _, rfl, _, _, rfl, rfl, rfl, ?_⟩
      refine ⟨.int m[i].2, rfl, rfl, ?_⟩
      refine ⟨_, rfl, ?_⟩
      have hflt : ∀ b : Bool, decide (V.int m[i].2 = V.int 0) = b → decide (m[i].2 = 0) = b := by
        intro b z
        by_cases h : m[i].2 = 0
        · rw [decide_eq_true (by rw [h])] at z; rw [decide_eq_true h]; exact z
        · rw [decide_eq_false (fun y => h (V.int.inj y))] at z; rw [decide_eq_false h]; exact z
      cases hb : decide (V.int m[i].2 = V.int 0) with
      | true =>
        refine hn _ F1 ⟨ps, rfl, ?_⟩
        rw [take_snoc hmi, List.filter_append]
        have e : [m[i]].filter (fun q => !decide (q.2 = 0)) = [] := by rw [List.filter_cons, hflt _ hb]; rfl
        rw [e, List.append_nil]
        exact hps.mono fun _ _ z => F1.tup z
      | false =>
        refine ⟨_, rfl, _, rfl, by show 2 ≤ sizeLine; decide, fun p np => ?_⟩
        have F2 := F1.trans2 (Fr.new (o := .tup [.int m[i].1, .int m[i].2]) np)
        refine hq _ _ F2 ⟨ps ++ [p], by rw [List.map_append]; rfl, ?_⟩
        rw [take_snoc hmi, List.filter_append]
        have e : [m[i]].filter (fun q => !decide (q.2 = 0)) = [m[i]] := by rw [List.filter_cons, hflt _ hb]; rfl
        rw [e]
        exact Paired.snoc (hps.mono fun _ _ z => F2.tup z) upd_same
    · rintro H1 acc f eF _ ⟨ps, rfl, hps⟩
      have hd1 : H1 d = some (.frz od (.dK (emb Sum.inl m))) := f.same _ _ upd_same
      refine ⟨hd1, ?_⟩
      rw [emb_length, List.take_length] at hps
      have S1 : Same H (upd H1 d (.dK (emb Sum.inl m))) := by
        intro b o e
        by_cases hb : b = d
        · rw [hb, upd_same, ← hd, ← hb]; exact e
        · rw [upd_ne hb]
          exact f.same _ _ (by rw [upd_ne hb]; exact e)
      have hps2 : Pr (upd H1 d (.dK (emb Sum.inl m))) ps (m.filter fun q => !decide (q.2 = 0)) := hps.mono fun a _ z => by
        have : a ≠ d := fun e => by rw [e, hd1] at z; cases z
        rw [upd_ne this]; exact z
      have hnk : (keysOf (m.filter fun q => !decide (q.2 = 0))).Nodup := (List.filter_sublist.map _).nodup hnd
      refine ⟨F, ps.map V.ref, kOf (upd H1 d (.dK (emb Sum.inl m))), rfl, .of (by rw [upd_ne hdF]; exact eF), ?_, ?_⟩
      · intro x hx
        obtain ⟨t, ht, rfl⟩ := List.mem_map.mp hx
        obtain ⟨i, hi, e⟩ := List.getElem_of_mem ht
        obtain ⟨⟨a, b⟩, _, hb⟩ := Paired.get' hps2 (show ps[i]? = some t by rw [List.getElem?_eq_getElem hi, e])
        exact ⟨t, rfl, by rw [kOf_at hb]; exact hb⟩
      · intro ys p h1 h2 np
        obtain ⟨qs, R, rfl, hqs, hRp, hRo⟩ := sorted_pairs hps2 h1 h2.perm hnk
        refine ⟨p, _, rfl, .of upd_same, fun l o nl ho => ?_⟩
        have S2 := same_up (o := .lst (qs.map V.ref)) S1 np
        have S3 := same_up (o := .frz o (.tup (qs.map V.ref))) S2 nl
        have T3 : Same (upd H1 d (.dK (emb Sum.inl m))) (upd (upd (upd H1 d (.dK (emb Sum.inl m))) p (.lst (qs.map V.ref))) l (.frz o (.tup (qs.map V.ref)))) := same_up (same_upd np) nl
        refine q _ l R S3 ⟨qs, ⟨o, ho, upd_same⟩, hqs.mono fun a b z => T3 _ _ z⟩ ⟨hRo, fun x => ?_⟩ ?_
        · rw [hRp.mem_iff, List.mem_filter]
          simp
        · rw [hRp.length_eq]
          exact List.length_filter_le _ _
end
end K06
namespace K06
open PySem PySem.Spec PyProof.Rows L2
theorem plen {f : Str} {v : V} : ∀ {fs : List (Str × V)} {n : Nat}, fs.length ≤ n → (putF f v fs).length ≤ n + 1
  | [], n, _ => by show 1 ≤ n + 1; omega
  | (g, x) :: r, n, h => by
    unfold putF
    rw [List.length_cons] at h
    split
    · rw [List.length_cons]; omega
    · rw [List.length_cons]
      have := plen (f := f) (v := v) (fs := r) (n := n - 1) (by omega)
      omega
/-- the class -/
structure Kls (K : PySem.W.Frag) (mg : Str → Option Value) (C : Addr) : Prop where
  cl : Cls K C
  nc : NoAttr K C "cells"
  ns : NoAttr K C "strokes"
  nf : NoAttr K C "fresh"
  nl : NoAttr K C "left"
  ic : C8.InsC K C
  g : mg "Disk" = some (.ref C)
section
variable {P : Program} {w : World} {K : PySem.W.Frag} {mg : Str → Option Value} {base : Heap} {C : Addr}
/-! ### __init__ -/
def spInit (C : Addr) : Sp := fun vs H Q _ => ∃ x dx, vs = [.ref x] ∧ H x = some (.ins C dx []) ∧ ∀ H' c s f, Fr [x] H H' → H c = none → H s = none → H f = none → DiskAt C H' x c s f (fun _ => []) [] → Q .non H'
theorem ok_init {f : Addr} {fd : FuncData} (D : Md K C "__init__" "Disk.__init__" sInit ["self"] f fd) (T : Kls K mg C) (B : Blt mg) (N : Cns mg) : FnOk P w K mg base CX0 1 f fd ["self"] (spInit C) := by
  refine D.F.ok scInit (fun vs H Q E h => ?_) (fun cdv A outer s0 H vs Q E hr h => ?_)
  · obtain ⟨x, dx, rfl, _⟩ := h; rfl
  · obtain ⟨x, dx, rfl, hx, q⟩ := h
    obtain ⟨t3, e3⟩ := N.tracks
    refine ⟨_, pss_cons (ps_fld (pv 0) (pe_lc (own := [("_", 1)]) (g := gName 1) (tt := tYes) rfl scInit.nd (pi_range1 (by rfl) B.range (pa_cons (pe_glob (v := .int 3) (by rfl) e3 ⟨_, rfl⟩) pa_nil)) (blkOk_by (own := [("_", 1)]) (N := ["self", "_"]) (sc := defScope sInit) (by decide +kernel))
          (fun _ _ _ _ _ => pg_name (i := 1) scInit.nd rfl (Or.inl rfl)) (fun _ _ _ _ _ => pts_nil) (fun _ _ _ _ _ => pe_dnewK)) rfl)
      (pss_cons (ps_fld (pv 0) (pe_lst pa_nil) rfl)
      (pss_cons (ps_fld (pv 0) pe_dnewT rfl)
      (pss_one (ps_fld (pv 0) pe_non rfl)))), ?_⟩
    refine ⟨3, rfl, by decide, by decide, fun F nF => ?_⟩
    refine lc_fr (S := []) (walk_range (lo := 0) (n := (3 : Int).toNat)) nF (by simp) (by simp) (by decide)
      (fun i acc Hx => ∃ es : List Addr, acc = es.map V.ref ∧ es.length = i ∧ es.Nodup ∧ (∀ e ∈ es, H e = none ∧ e ≠ F) ∧ ∀ e ∈ es, Hx e = some (.dK []))
      (fun i acc Hx Hy f h => ?_) (fun _ _ _ _ _ => trivial) (fun _ _ => ⟨[], rfl, rfl, .nil, by simp, by simp⟩) ?_ ?_
    · obtain ⟨es, h1, h2, h3, h4, h5⟩ := h
      exact ⟨es, h1, h2, h3, h4, fun e z => f.keep (h5 e z) (by simpa using (h4 e z).2)⟩
    · rintro i y H1 H2 acc hi f eF ⟨es, rfl, hel, hen, hem, hed⟩ ⟨rfl, hy⟩ Qk Nk hq hn
      refine ⟨rfl, yes fun p np => ?_⟩
      refine hq _ _ (Fr.new np) ⟨es ++ [p], by rw [List.map_append]; rfl, by rw [List.length_append, hel]; rfl, ?_, ?_, ?_⟩
      · rw [List.nodup_append]
        refine ⟨hen, by simp, fun a ha b hb => ?_⟩
        have eb : b = p := by simpa using hb
        rw [eb]
        exact ne_of_none (hed a ha) np
      · intro e he
        rcases List.mem_append.mp he with z | z
        · exact hem e z
        · have e2 : e = p := by simpa using z
          rw [e2]
          exact ⟨f.same.free np, fun z => by rw [z, eF] at np; cases np⟩
      · intro e he
        rcases List.mem_append.mp he with z | z
        · have := hed e z
          rw [upd_ne (ne_of_none this np)]; exact this
        · have e2 : e = p := by simpa using z
          rw [e2, upd_same]
    · rintro H1 acc f1 eF hlen ⟨es, rfl, hel, hen, hem, hed⟩
      have S1 := f1.same
      have hx1 := S1 _ _ hx
      have hFx : F ≠ x := fun z => by rw [z, hx] at nF; cases nF
      refine ⟨.ref x, rfl, x, C, dx, _, rfl, hx1, T.cl, T.nc, by decide, ?_⟩
      have A1 : Fr [x] H (upd H1 x (.ins C dx (putF "cells" (.ref F) []))) := (Fr.mono f1 (by simp) (by simpa using soft_ins hx)).step (.inl (by simp))
      refine ⟨Nat.zero_le _, fun s ns => ?_⟩
      have hsx : x ≠ s := ne_of_none upd_same ns
      have hsF : F ≠ s := ne_of_none (by rw [upd_ne hFx]; exact eF) ns
      have nsH : H s = none := by
        rw [upd_ne (Ne.symm hsx)] at ns; exact S1.free ns
      have A2 := A1.step (o := .lst []) (.inr nsH)
      refine ⟨.ref x, rfl, x, C, dx, _, rfl, by rw [upd_ne hsx, upd_same], T.cl, T.ns, (Nat.lt_of_le_of_lt (plen (Nat.le_refl _)) (by decide)), ?_⟩
      have A3 := A2.step (p := x) (o := .ins C dx (putF "strokes" (.ref s) (putF "cells" (.ref F) []))) (.inl (by simp))
      intro f nf
      have hfx : x ≠ f := ne_of_none upd_same nf
      have nf2 : upd (upd H1 x (.ins C dx (putF "cells" (.ref F) []))) s (.lst []) f = none := by rw [upd_ne (Ne.symm hfx)] at nf; exact nf
      have hfs : s ≠ f := ne_of_none upd_same nf2
      have nf3 : H1 f = none := by rw [upd_ne (Ne.symm hfs), upd_ne (Ne.symm hfx)] at nf2; exact nf2
      have hfF : F ≠ f := ne_of_none eF nf3
      have nfH : H f = none := S1.free nf3
      have A4 := A3.step (p := f) (o := .dT []) (.inr nfH)
      refine ⟨.ref x, rfl, x, C, dx, _, rfl, by rw [upd_ne hfx, upd_same], T.cl, T.nf, (Nat.lt_of_le_of_lt (plen (plen (Nat.le_refl _))) (by decide)), ?_⟩
      have A5 := A4.step (p := x) (o := .ins C dx (putF "fresh" (.ref f) (putF "strokes" (.ref s) (putF "cells" (.ref F) [])))) (.inl (by simp))
      refine ⟨.ref x, rfl, x, C, dx, _, rfl, upd_same, T.cl, T.nl, (Nat.lt_of_le_of_lt (plen (plen (plen (Nat.le_refl _)))) (by decide)), ?_⟩
      have A6 := A5.step (p := x) (o := .ins C dx (putF "left" .non (putF "fresh" (.ref f) (putF "strokes" (.ref s) (putF "cells" (.ref F) []))))) (.inl (by simp))
      refine q _ F s f A6 nF nsH nfH ⟨⟨dx, upd_same⟩, ⟨es, ?_, hel, hen, ?_⟩, ⟨[], ?_, Nat.le_refl _⟩, ⟨[], ?_, .nil⟩, hsF⟩
      · rw [upd_ne hFx, upd_ne hFx, upd_ne hfF, upd_ne hFx, upd_ne hsF, upd_ne hFx]; exact eF
      · intro i d hd
        have hm := List.mem_of_getElem? hd
        have h1 := hed d hm
        have n1 : d ≠ x := ne_of h1 hx1 (by intro z; cases z)
        have n2 : d ≠ s := by
          intro z
          rw [upd_ne (Ne.symm hsx), ← z, h1] at ns; cases ns
        have n3 : d ≠ f := ne_of_none h1 nf3
        rw [upd_ne n1, upd_ne n1, upd_ne n3, upd_ne n1, upd_ne n2, upd_ne n1]; exact h1
      · rw [upd_ne (Ne.symm hfx), upd_ne (Ne.symm hfx), upd_same]
      · rw [upd_ne (Ne.symm hsx), upd_ne (Ne.symm hsx), upd_ne hfs, upd_ne (Ne.symm hsx), upd_same]; rfl
/-! ### spend: no fuse -/
def spSpend (C : Addr) : Sp := fun vs H Q _ => ∃ d dx c s f, vs = [.ref d] ∧ H d = some (.ins C dx (df c s f)) ∧ Q .non H
theorem ok_spend {f : Addr} {fd : FuncData} (D : Md K C "spend" "Disk.spend" sSpend ["self"] f fd) (T : Kls K mg C) : FnOk P w K mg base CX0 1 f fd ["self"] (spSpend C) := by
  refine D.F.ok scSpend (fun vs H Q E h => ?_) (fun cdv A outer s0 H vs Q E hr h => ?_)
  · obtain ⟨d, dx, c, s, f, rfl, _⟩ := h; rfl
  · obtain ⟨d, dx, c, s, f, rfl, hd, q⟩ := h
    refine ⟨_, pss_one (ps_if (pt_cmpR op_notN (pe_fld (pv 0) rfl) pe_non (nomark _)) (pss_cons ps_never (pss_one ps_never)) pss_nil), ?_⟩
    exact ⟨.ref d, rfl, d, C, dx, _, .non, rfl, hd, T.cl, T.nl, rfl, rfl, false, rfl, iteF q⟩
/-! ### settle -/
def spSettle (C : Addr) : Sp := fun vs H Q _ => ∃ d c s f g ss n, vs = [.ref d, .ref s] ∧ DiskAt C H d c s f g ss ∧ tracked ss ∧ (∀ i, (g i).length ≤ n) ∧ n + ss.length ≤ 1000 ∧
  ∀ H' c' s' f', Fr [d] H H' → H c' = none → H s' = none → H f' = none → DiskAt C H' d c' s' f' (landC g ss) [] → Q .non H'
theorem ok_settle {f f1 : Addr} {fd fd1 : FuncData} (D : Md K C "settle" "Disk.settle" sSettle ["self", "strokes"] f fd) (D1 : Df K mg "landed" sLanded ["cells", "strokes"] f1 fd1) (T : Kls K mg C) (B : Blt mg) : FnOk P w K mg base CX0 2 f fd ["self", "strokes"] (spSettle C) := by
  have G1 : FnOk P w K mg base CX0 1 f1 fd1 ["cells", "strokes"] spLanded := ok_landed D1 B
  refine D.F.ok scSettle (fun vs H Q E h => ?_) (fun cdv A outer s0 H vs Q E hr h => ?_)
  · obtain ⟨d, c, s, f, g, ss, n, rfl, _⟩ := h; rfl
  · obtain ⟨d, c, s, f, g, ss, n, rfl, DA, htr, hgl, hsz, q⟩ := h
    obtain ⟨dx, hd⟩ := DA.ins
    refine ⟨_, pss_cons (ps_fld (pv 0) (pe_call G1 hr (by rfl) D1.g D1.F.kp D1.b .nil pass0 (pa_cons (pe_fld (pv 0) rfl) (pa_cons (pv 1) pa_nil))) rfl)
      (pss_cons (ps_fld (pv 0) (pe_lst pa_nil) rfl) (pss_one (ps_fld (pv 0) pe_dnewT rfl))), ?_⟩
    refine ⟨.ref d, rfl, d, C, dx, _, .ref c, rfl, hd, T.cl, T.nc, rfl, .ref s, rfl, c, s, g, ss, n, rfl, DA.cells, DA.str, htr, hgl, hsz, fun H1 F S1 nF CA => ?_⟩
    obtain ⟨es, eF, hel, hen, hed⟩ := CA
    have hd1 := S1 _ _ hd
    have hFd : F ≠ d := fun z => by rw [z, hd] at nF; cases nF
    refine ⟨.ref d, rfl, d, C, dx, _, rfl, hd1, T.cl, T.nc, (by show 4 < 1000; decide), ?_⟩
    have A1 : Fr [d] H (upd H1 d (.ins C dx (putF "cells" (.ref F) (df c s f)))) := (Fr.mono (.of_same S1) (by simp) (by simpa using soft_ins hd)).step (.inl (by simp))
    refine ⟨Nat.zero_le _, fun s' ns => ?_⟩
    have hsd : d ≠ s' := ne_of_none upd_same ns
    have ns1 : H1 s' = none := by rw [upd_ne (Ne.symm hsd)] at ns; exact ns
    have hsF : F ≠ s' := ne_of_none eF ns1
    have nsH : H s' = none := S1.free ns1
    have A2 := A1.step (o := .lst []) (.inr nsH)
    refine ⟨.ref d, rfl, d, C, dx, _, rfl, by rw [upd_ne hsd, upd_same], T.cl, T.ns, (Nat.lt_of_le_of_lt (plen (n := 4) (Nat.le_refl _)) (by decide)), ?_⟩
    have A3 := A2.step (p := d) (o := .ins C dx (putF "strokes" (.ref s') (putF "cells" (.ref F) (df c s f)))) (.inl (by simp))
    intro f' nf
    have hfd : d ≠ f' := ne_of_none upd_same nf
    have nf2 : upd (upd H1 d (.ins C dx (putF "cells" (.ref F) (df c s f)))) s' (.lst []) f' = none := by rw [upd_ne (Ne.symm hfd)] at nf; exact nf
    have hfs : s' ≠ f' := ne_of_none upd_same nf2
    have nf3 : H1 f' = none := by rw [upd_ne (Ne.symm hfs), upd_ne (Ne.symm hfd)] at nf2; exact nf2
    have hfF : F ≠ f' := ne_of_none eF nf3
    have nfH : H f' = none := S1.free nf3
    have A4 := A3.step (p := f') (o := .dT []) (.inr nfH)
    refine ⟨.ref d, rfl, d, C, dx, _, rfl, by rw [upd_ne hfd, upd_same], T.cl, T.nf, (Nat.lt_of_le_of_lt (plen (plen (n := 4) (Nat.le_refl _))) (by decide)), ?_⟩
    have A5 := A4.step (p := d) (o := .ins C dx (putF "fresh" (.ref f') (putF "strokes" (.ref s') (putF "cells" (.ref F) (df c s f))))) (.inl (by simp))
    refine q _ F s' f' A5 nF nsH nfH ⟨⟨dx, upd_same⟩, ⟨es, ?_, hel, hen, ?_⟩, ⟨[], ?_, Nat.le_refl _⟩, ⟨[], ?_, .nil⟩, hsF⟩
    · rw [upd_ne hFd, upd_ne hfF, upd_ne hFd, upd_ne hsF, upd_ne hFd]; exact eF
    · intro i e he
      have h1 := hed i e he
      have n1 : e ≠ d := ne_of h1 hd1 (by intro z; cases z)
      rw [upd_ne n1, upd_ne (ne_of_none h1 nf3), upd_ne n1, upd_ne (ne_of_none h1 ns1), upd_ne n1]; exact h1
    · rw [upd_ne (Ne.symm hfd), upd_same]
    · rw [upd_ne (Ne.symm hsd), upd_ne hfs, upd_ne (Ne.symm hsd), upd_same]; rfl
/-! ### flush -/
def spFlush (C : Addr) : Sp := fun vs H Q _ => ∃ d c s f g ss n, vs = [.ref d] ∧ DiskAt C H d c s f g ss ∧ tracked ss ∧ (∀ i, (g i).length ≤ n) ∧ n + ss.length ≤ 1000 ∧
  ∀ H' c' s' f', Fr [d] H H' → H c' = none → H s' = none → H f' = none → DiskAt C H' d c' s' f' (landC g ss) [] → Q .non H'
theorem ok_flush {f f1 f2 : Addr} {fd fd1 fd2 : FuncData} (D : Md K C "flush" "Disk.flush" sFlush ["self"] f fd) (D1 : Md K C "spend" "Disk.spend" sSpend ["self"] f1 fd1) (G1 : FnOk P w K mg base CX0 1 f1 fd1 ["self"] (spSpend C))
    (D2 : Md K C "settle" "Disk.settle" sSettle ["self", "strokes"] f2 fd2) (G2 : FnOk P w K mg base CX0 2 f2 fd2 ["self", "strokes"] (spSettle C)) (T : Kls K mg C) : FnOk P w K mg base CX0 3 f fd ["self"] (spFlush C) := by
  refine D.F.ok scFlush (fun vs H Q E h => ?_) (fun cdv A outer s0 H vs Q E hr h => ?_)
  · obtain ⟨d, c, s, f, g, ss, n, rfl, _⟩ := h; rfl
  · obtain ⟨d, c, s, f, g, ss, n, rfl, DA, htr, hgl, hsz, q⟩ := h
    obtain ⟨dx, hd⟩ := DA.ins
    refine ⟨_, pss_cons (ps_expr (pe_meth0 (pv 0) T.cl D1.m G1 (hr.mono (by decide)) D1.b .nil pass0)) (pss_one (ps_expr (pe_meth (pv 0) T.cl D2.m G2 hr D2.b .nil pass0 (pa_cons (pe_fld (pv 0) rfl) pa_nil)))), ?_⟩
    refine ⟨.ref d, rfl, d, dx, _, rfl, hd, rfl, d, dx, c, s, f, rfl, hd, ?_⟩
    refine ⟨.ref d, rfl, d, dx, _, rfl, hd, rfl, .ref d, rfl, d, C, dx, _, .ref s, rfl, hd, T.cl, T.ns, rfl, ?_⟩
    exact ⟨d, c, s, f, g, ss, n, rfl, DA, htr, hgl, hsz, fun H' c' s' f' h1 h2 h3 h4 h5 => q H' c' s' f' h1 h2 h3 h4 h5⟩
end
end K06
namespace K06
open PySem PySem.Spec PyProof.Rows L2
section
variable {P : Program} {w : World} {K : PySem.W.Frag} {mg : Str → Option Value} {base : Heap} {C : Addr}
/-! ### write: one value -/
def spWrite (C : Addr) : Sp := fun vs H Q _ => ∃ (d c s f : Addr) (g : Gd) (ss : List PlV) (t a : Int) (v : Addr) (x : Int), vs = [.ref d, .int t, .int a, .ref v] ∧ DiskAt C H d c s f g ss ∧ 0 ≤ t ∧ t ≤ 2 ∧ 0 ≤ a ∧ a ≤ 10000000 ∧
  (H v = some (.lst [.int x]) ∨ H v = some (.tup [.int x])) ∧ 0 ≤ x ∧ x ≤ 9223372036854775807 ∧ ss.length ≤ 500 ∧ ∀ H', Fr [s, f] H H' → DiskAt C H' d c s f g (ss ++ [((t, a), x)]) → Q .non H'
theorem ok_write {f f1 f2 f3 f4 f5 : Addr} {fd fd1 fd2 fd3 fd4 fd5 : FuncData} (D : Md K C "write" "Disk.write" sWrite ["self", "track", "at", "values"] f fd)
    (D1 : Df K mg "need_track" sNeedTrack ["value"] f1 fd1) (G1 : FnOk P w K mg base CX0 4 f1 fd1 ["value"] spNeedTrack) (D2 : Df K mg "need_cell" sNeedCell ["value"] f2 fd2) (G2 : FnOk P w K mg base CX0 4 f2 fd2 ["value"] spNeedCell)
    (D3 : Df K mg "are_values" sAreVals ["value", "most"] f3 fd3) (G3 : FnOk P w K mg base CX0 3 f3 fd3 ["value", "most"] spAreVals) (D4 : Df K mg "most_from" sMostFrom ["at"] f4 fd4) (G4 : FnOk P w K mg base CX0 1 f4 fd4 ["at"] spMostFrom)
    (D5 : Md K C "spend" "Disk.spend" sSpend ["self"] f5 fd5) (G5 : FnOk P w K mg base CX0 1 f5 fd5 ["self"] (spSpend C)) (T : Kls K mg C) (B : Blt mg) : FnOk P w K mg base CX0 5 f fd ["self", "track", "at", "values"] (spWrite C) := by
  refine D.F.ok scWrite (fun vs H Q E h => ?_) (fun cdv A outer s0 H vs Q E hr h => ?_)
  · obtain ⟨d, c, s, f, g, ss, t, a, v, x, rfl, _⟩ := h; rfl
  · obtain ⟨d, c, s, f, g, ss, t, a, v, x, rfl, DA, ht0, ht2, ha0, ha1, hv, hx0, hx1, hsz, q⟩ := h
    obtain ⟨dx, hd⟩ := DA.ins
    obtain ⟨fm, hf, hfl⟩ := DA.fresh
    obtain ⟨bs, hs, hb⟩ := DA.str
    have hbl := Paired.length hb
    refine ⟨_, pss_cons (ps_expr (pe_call G1 hr (by rfl) D1.g D1.F.kp D1.b .nil pass0 (pa_cons (pv 1) pa_nil)))
      (pss_cons (ps_expr (pe_call G2 hr (by rfl) D2.g D2.F.kp D2.b .nil pass0 (pa_cons (pv 2) pa_nil)))
      (pss_cons (ps_if (pt_not (pt_val (pe_call G3 (hr.mono (by decide)) (by rfl) D3.g D3.F.kp D3.b .nil pass0 (pa_cons (pv 3) (pa_cons (pe_call G4 (hr.mono (by decide)) (by rfl) D4.g D4.F.kp D4.b .nil pass0 (pa_cons (pv 2) pa_nil)) pa_nil))))) (pss_one ps_never) pss_nil)
      (pss_one (ps_for PassesOwn.never rfl (pi_enum (by rfl) B.enumerate (pa_cons (pe_callTy call_list_of (by rfl) B.list (by decide +kernel) (pa_cons (pv 3) pa_nil)) pa_nil))
          (pg_tup rfl (pgs_cons (pg_name (i := 4) scWrite.nd rfl (Or.inl rfl)) (pgs_cons (pg_name (i := 5) scWrite.nd rfl (Or.inl rfl)) pgs_nil)))
          (pss_cons (ps_expr (pe_meth0 (pv 0) T.cl D5.m G5 (hr.mono (by decide)) D5.b .nil pass0))
          (pss_cons (ps_expr (pe_bm PySem.F.plainAttrs_list PySem.F.slot_list_append PySem.F.type_list_append mt_append (pe_fld (pv 0) rfl) (pa_cons (pe_tup (pa_cons (pe_tup (pa_cons (pv 1) (pa_cons (pe_op op_add (pv 2) (pv 4)) pa_nil))) (pa_cons (pv 5) pa_nil))) pa_nil)))
          (pss_one (ps_asg (pv 5) (pg_sub (pe_fld (pv 0) rfl) (pe_tup (pa_cons (pv 1) (pa_cons (pe_op op_add (pv 2) (pv 4)) pa_nil))) (set_dict (hu_of hr))))))))))), ?_⟩
    refine ⟨.int t, rfl, t, rfl, ht0, ht2, ?_⟩
    refine ⟨.int a, rfl, a, rfl, ha0, ha1, ?_⟩
    refine ⟨.ref v, rfl, .int a, rfl, a, rfl, ha0, ha1, fun m hm => ⟨v, x, m, rfl, hv, hx0, hx1, hm, fun H0 S0 => ⟨true, rfl, iteF ?_⟩⟩⟩
    refine ⟨.ref v, rfl, v, [.int x], rfl, hv.elim (fun z => .inl (.of (S0 _ _ z))) (fun z => .inr (.of (S0 _ _ z))), fun l nl => ?_⟩
    have S1 : Same H (upd H0 l (.lst [.int x])) := same_up S0 nl
    refine ⟨l, [.int x], rfl, .of upd_same, ?_⟩
    have hls : l ≠ s := fun z => by rw [z] at nl; rw [S0 _ _ hs] at nl; cases nl
    refine for_it (walk_enum (xs := [V.int x])) (fun i σ Hx => (i = 0 → σ = start ["self", "track", "at", "values", "number", "value"] [.ref d, .int t, .int a, .ref v] ∧ Same H Hx ∧ Hx l = some (.lst [.int x])) ∧ (i = 1 → Hx l = some (.lst [.int x]) ∧ Q .non Hx)) ?_ ?_ ?_ ?_
    · exact ⟨fun _ => ⟨rfl, S1, upd_same⟩, fun z => nomatch z⟩
    · rintro i σ Hx hi p
      have hi : i ≤ 1 := hi
      rcases (by omega : i = 0 ∨ i = 1) with rfl | rfl
      · exact .of (p.1 rfl).2.2
      · exact .of (p.2 rfl).1
    · rintro i y σ Hx H' hi p ⟨T1, x1, x2, rfl, nT, rfl, h1, h2⟩
      have hi : i < 1 := hi
      obtain rfl : i = 0 := by omega
      obtain ⟨rfl, S2, el⟩ := p.1 rfl
      obtain rfl : V.int ((0 : Nat) : Int) = x1 := Option.some.inj h1
      obtain rfl : V.int x = x2 := Option.some.inj h2
      have S3 := same_up (o := .tup [.int ((0 : Nat) : Int), .int x]) S2 nT
      have el3 : upd Hx T1 (.tup [.int ((0 : Nat) : Int), .int x]) l = some (.lst [.int x]) := by rw [upd_ne (ne_of_none el nT)]; exact el
      refine ⟨T1, _, rfl, .of upd_same, rfl, _, _, rfl, _, _, rfl, rfl, ?_⟩
      refine ⟨.ref d, rfl, d, dx, _, rfl, S3 _ _ hd, rfl, d, dx, c, s, f, rfl, S3 _ _ hd, ?_⟩
      refine ⟨.ref d, rfl, d, C, dx, _, .ref s, rfl, S3 _ _ hd, T.cl, T.ns, rfl, .inl ⟨rfl, _, .of (S3 _ _ hs)⟩, ?_⟩
      refine ⟨.int t, rfl, .int a, rfl, _, rfl, a, ((0 : Nat) : Int), rfl, rfl, by show 2 ≤ sizeLine; decide, fun q1 nq1 => ?_⟩
      have S4 := same_up (o := .tup [.int t, .int (a + ((0 : Nat) : Int))]) S3 nq1
      refine ⟨.int x, rfl, by show 2 ≤ sizeLine; decide, fun q2 nq2 => ?_⟩
      have S5 := same_up (o := .tup [.ref q1, .int x]) S4 nq2
      have e1 : upd (upd (upd Hx T1 (.tup [.int ((0 : Nat) : Int), .int x])) q1 (.tup [.int t, .int (a + ((0 : Nat) : Int))])) q2 (.tup [.ref q1, .int x]) q1 = some (.tup [.int t, .int (a + ((0 : Nat) : Int))]) := by
        rw [upd_ne (ne_of_none upd_same nq2)]; exact upd_same
      have el5 : upd (upd (upd Hx T1 (.tup [.int ((0 : Nat) : Int), .int x])) q1 (.tup [.int t, .int (a + ((0 : Nat) : Int))])) q2 (.tup [.ref q1, .int x]) l = some (.lst [.int x]) := by
        have z1 := ne_of_none el3 nq1
        have z2 : upd (upd Hx T1 (.tup [.int ((0 : Nat) : Int), .int x])) q1 (.tup [.int t, .int (a + ((0 : Nat) : Int))]) l = some (.lst [.int x]) := by rw [upd_ne z1]; exact el3
        rw [upd_ne (ne_of_none z2 nq2)]; exact z2
      refine ⟨s, bs.map V.ref, .ref q2, rfl, rfl, S5 _ _ hs, by rw [List.length_map, hbl]; exact Nat.lt_of_le_of_lt hsz (by decide), ?_⟩
      -- behind the append
      generalize hH5 : upd (upd (upd Hx T1 (.tup [.int ((0 : Nat) : Int), .int x])) q1 (.tup [.int t, .int (a + ((0 : Nat) : Int))])) q2 (.tup [.ref q1, .int x]) = H5 at S5 e1 el5 ⊢
      have e2 : H5 q2 = some (.tup [.ref q1, .int x]) := by rw [← hH5]; exact upd_same
      have e6 : (a + ((0 : Nat) : Int)) = a := by simp
      rw [e6] at e1
      have hsoft : ∀ y ∈ [s, f], soft (H y) := by
        intro y hy
        rcases (by simpa using hy : y = s ∨ y = f) with z | z
        · rw [z]; exact soft_lst hs
        · rw [z]; exact soft_dT hf
      have F5 : Fr [s, f] H H5 := Fr.mono (.of_same S5) (by simp) hsoft
      have F6 : Fr [s, f] H (upd H5 s (.lst (bs.map V.ref ++ [.ref q2]))) := F5.step (.inl (by simp))
      have hds : d ≠ s := ne_of hd hs (by intro z; cases z)
      have hdf : d ≠ f := ne_of hd hf (by intro z; cases z)
      have hfs : f ≠ s := ne_of hf hs (by intro z; cases z)
      have hd6 : upd H5 s (.lst (bs.map V.ref ++ [.ref q2])) d = some (.ins C dx (df c s f)) := by rw [upd_ne hds]; exact S5 _ _ hd
      refine ⟨.int x, rfl, .ref d, rfl, d, C, dx, _, .ref f, rfl, hd6, T.cl, T.nf, rfl, ?_⟩
      refine ⟨.int t, rfl, .int a, rfl, _, rfl, a, ((0 : Nat) : Int), rfl, rfl, by show 2 ≤ sizeLine; decide, fun q3 nq3 => ?_⟩
      have F7 := F6.step (p := q3) (o := .tup [.int t, .int (a + ((0 : Nat) : Int))]) (.inr (by
        cases z : H q3 with
        | none => rfl
        | some o =>
          by_cases hq : q3 = s
          · rw [hq, upd_same] at nq3; cases nq3
          · rw [upd_ne hq, S5 _ _ z] at nq3; cases nq3))
      have hf6 : upd H5 s (.lst (bs.map V.ref ++ [.ref q2])) f = some (.dT fm) := by rw [upd_ne hfs]; exact S5 _ _ hf
      have hf7 : upd (upd H5 s (.lst (bs.map V.ref ++ [.ref q2]))) q3 (.tup [.int t, .int (a + ((0 : Nat) : Int))]) f = some (.dT fm) := by rw [upd_ne (ne_of_none hf6 nq3)]; exact hf6
      refine ⟨f, _, rfl, DPut.t (k := gP (t, a + ((0 : Nat) : Int))) hf7 upd_same (Nat.lt_of_le_of_lt (Nat.le_trans hfl hsz) (by decide)), ?_⟩
      have F8 := F7.step (p := f) (o := .dT (putK fm (gP (t, a + ((0 : Nat) : Int))) (.int x))) (.inl (by simp))
      have hq3s : s ≠ q3 := ne_of_none upd_same nq3
      have hls2 : l ≠ s := hls
      have fin : ∀ b o, b ≠ s → b ≠ f → H5 b = some o → upd (upd (upd H5 s (.lst (bs.map V.ref ++ [.ref q2]))) q3 (.tup [.int t, .int (a + ((0 : Nat) : Int))])) f (.dT (putK fm (gP (t, a + ((0 : Nat) : Int))) (.int x))) b = some o := by
        intro b o h1 h2 h3
        have h4 : upd H5 s (.lst (bs.map V.ref ++ [.ref q2])) b = some o := by rw [upd_ne h1]; exact h3
        rw [upd_ne h2, upd_ne (ne_of_none h4 nq3)]; exact h4
      refine ⟨fun z => (by omega : False).elim, fun _ => ⟨fin l _ hls (ne_of el5 (S5 _ _ hf) (by intro z; cases z)) el5, ?_⟩⟩
      have hin : ∀ {y : Addr} {o : HO}, H y = some o → y ≠ s → y ≠ f → y ∉ [s, f] := by intro y o _ h1 h2; simp [h1, h2]
      refine q _ F8 ⟨⟨dx, F8.keep hd (hin hd hds hdf)⟩, ?_, ⟨_, upd_same, ?_⟩, ⟨bs ++ [q2], ?_, ?_⟩, DA.cs⟩
      · have hcf : c ≠ f := by
          obtain ⟨ds, hc, _⟩ := DA.cells
          exact ne_of hc hf (by intro z; cases z)
        exact DA.cells.fr F8 (by simp [DA.cs, hcf])
      · rw [List.length_append]
        exact Nat.le_trans (show (putK fm (gP (t, a + ((0 : Nat) : Int))) (.int x)).length ≤ fm.length + 1 from length_put fm (gP (t, a + ((0 : Nat) : Int))) (.int x)) (by simpa using hfl)
      · rw [upd_ne (Ne.symm hfs), upd_ne hq3s, upd_same, List.map_append]; rfl
      · refine Paired.snoc (hb.fr F8) ⟨q1, fin _ _ ?_ ?_ e2, fin _ _ ?_ ?_ e1⟩
        · exact ne_of e2 (S5 _ _ hs) (by intro z; cases z)
        · exact ne_of e2 (S5 _ _ hf) (by intro z; cases z)
        · exact ne_of e1 (S5 _ _ hs) (by intro z; cases z)
        · exact ne_of e1 (S5 _ _ hf) (by intro z; cases z)
    · rintro σ Hx p
      exact (p.2 rfl).2
end
end K06
namespace K06
open PySem PySem.Spec PyProof.Rows L2
section
variable {P : Program} {w : World} {K : PySem.W.Frag} {mg : Str → Option Value} {base : Heap} {C : Addr}
/-! ### kept, waiting -/
def spKept (C : Addr) : Sp := fun vs H Q _ => ∃ (d c s f : Addr) (g : Gd) (ss : List PlV) (t : Int), vs = [.ref d, .int t] ∧ DiskAt C H d c s f g ss ∧ 0 ≤ t ∧ t ≤ 2 ∧ (keysOf (g t.toNat)).Nodup ∧ (g t.toNat).length ≤ 1000 ∧
  ∀ H' p P, Same H H' → KeptAt H' p P → IsKept (g t.toNat) P → P.length ≤ (g t.toNat).length → Q (.ref p) H'
theorem ok_kept {f f1 f2 : Addr} {fd fd1 fd2 : FuncData} (D : Md K C "kept" "Disk.kept" sKept ["self", "track"] f fd) (D1 : Df K mg "need_track" sNeedTrack ["value"] f1 fd1) (G1 : FnOk P w K mg base CX0 4 f1 fd1 ["value"] spNeedTrack)
    (D2 : Df K mg "pairs_in" sPairsIn ["track"] f2 fd2) (G2 : FnOk P w K mg base CX0 1 f2 fd2 ["track"] spPairsIn) (T : Kls K mg C) : FnOk P w K mg base CX0 5 f fd ["self", "track"] (spKept C) := by
  refine D.F.ok scKept (fun vs H Q E h => ?_) (fun cdv A outer s0 H vs Q E hr h => ?_)
  · obtain ⟨d, c, s, f, g, ss, t, rfl, _⟩ := h; rfl
  · obtain ⟨d, c, s, f, g, ss, t, rfl, DA, ht0, ht2, hnd, hl, q⟩ := h
    obtain ⟨dx, hd⟩ := DA.ins
    obtain ⟨ds, hc, h3, _, hds⟩ := DA.cells
    refine ⟨_, pss_cons (ps_expr (pe_call G1 hr (by rfl) D1.g D1.F.kp D1.b .nil pass0 (pa_cons (pv 1) pa_nil)))
      (pss_one (ps_ret (pe_call G2 (hr.mono (by decide)) (by rfl) D2.g D2.F.kp D2.b .nil pass0 (pa_cons (pe_ix ix_list (pe_fld (pv 0) rfl) (pv 1) (fun _ _ => rfl)) pa_nil)))), ?_⟩
    refine ⟨.int t, rfl, t, rfl, ht0, ht2, ?_⟩
    have hlt : t.toNat < ds.length := by omega
    have hj : ds[t.toNat]? = some ds[t.toNat] := List.getElem?_eq_getElem hlt
    refine ⟨.ref d, rfl, d, C, dx, _, .ref c, rfl, hd, T.cl, T.nc, rfl, .int t, rfl, c, ds.map V.ref, t, .ref ds[t.toNat], rfl, rfl, .of hc, atI_int ht0 (by rw [List.getElem?_map, hj]; rfl), ?_⟩
    exact ⟨ds[t.toNat], g t.toNat, rfl, hds _ _ hj, hnd, hl, fun H' p P S k i l => q H' p P S k i l⟩
def spWaiting (C : Addr) : Sp := fun vs H Q _ => ∃ (d c s f : Addr) (g : Gd) (ss : List PlV), vs = [.ref d] ∧ DiskAt C H d c s f g ss ∧ ∀ H' p bs, Same H H' → H' p = some (.tup (bs.map V.ref)) → Sk H' bs ss → Q (.ref p) H'
theorem ok_waiting {f : Addr} {fd : FuncData} (D : Md K C "waiting" "Disk.waiting" sWaiting ["self"] f fd) (T : Kls K mg C) (B : Blt mg) : FnOk P w K mg base CX0 1 f fd ["self"] (spWaiting C) := by
  refine D.F.ok scWaiting (fun vs H Q E h => ?_) (fun cdv A outer s0 H vs Q E hr h => ?_)
  · obtain ⟨d, c, s, f, g, ss, rfl, _⟩ := h; rfl
  · obtain ⟨d, c, s, f, g, ss, rfl, DA, q⟩ := h
    obtain ⟨dx, hd⟩ := DA.ins
    obtain ⟨bs, hs, hb⟩ := DA.str
    refine ⟨_, pss_one (ps_ret (pe_callTy call_tuple_of (by rfl) B.tuple (by decide +kernel) (pa_cons (pe_fld (pv 0) rfl) pa_nil))), ?_⟩
    refine ⟨.ref d, rfl, d, C, dx, _, .ref s, rfl, hd, T.cl, T.ns, rfl, s, _, rfl, .inl ⟨.of hs, fun l nl => ?_⟩⟩
    exact q _ l bs (same_upd nl) upd_same (hb.fr (Fr.new nl))
/-! ### need_disk -/
structure DfN (K : PySem.W.Frag) (mg : Str → Option Value) (f : Addr) (fd : FuncData) : Prop where
  F : FunD K "need_disk" "need_disk" (defArgs sNeedDisk) (defBody sNeedDisk) (defScope sNeedDisk) [.str "disk"] [] f fd
  b : ∃ ds, Vals [V.str "disk"] ds ∧ Binds K fd ["value", "part"] ds
  g : mg "need_disk" = some (.ref f)
def spNeedDisk (C : Addr) : Sp := fun vs H Q _ => ∃ d dx fs v, vs = [.ref d, v] ∧ H d = some (.ins C dx fs) ∧ Q .non H
theorem ok_needDisk {f : Addr} {fd : FuncData} (D : DfN K mg f fd) (T : Kls K mg C) (B : Blt mg) : FnOk P w K mg base CX0 1 f fd ["value", "part"] (spNeedDisk C) := by
  refine D.F.ok scNeedDisk (fun vs H Q E h => ?_) (fun cdv A outer s0 H vs Q E hr h => ?_)
  · obtain ⟨d, dx, fs, v, rfl, _⟩ := h; rfl
  · obtain ⟨d, dx, fs, v, rfl, hd, q⟩ := h
    refine ⟨_, pss_one (ps_if (pt_not (pt_val (pe_callB (C8.call_isC T.ic) (by rfl) B.isinstance PyProof.Rows.boot_isinstance (pa_cons (pv 0) (pa_cons (pe_glob (v := .ref C) (by rfl) T.g rfl) pa_nil))))) (pss_one ps_never) pss_nil), ?_⟩
    exact ⟨.ref d, rfl, d, dx, fs, rfl, hd, true, rfl, iteF q⟩
/-! ### chosen -/
structure LotAt (H : Hp) (a : Addr) (lot : List Nat) (n : Nat) : Prop where
  at_ : H a = some (.lst (lot.map fun k : Nat => V.int k))
  len : lot.length ≤ 500
  asc : lot.Pairwise (· < ·)
  lt : ∀ k ∈ lot, k < n
theorem LotAt.same {H H' : Hp} (S : Same H H') {a : Addr} {lot : List Nat} {n : Nat} (h : LotAt H a lot n) : LotAt H' a lot n := ⟨S _ _ h.at_, h.len, h.asc, h.lt⟩
def spChosen (C : Addr) : Sp := fun vs H Q _ => ∃ (d c s f : Addr) (g : Gd) (ss : List PlV) (la : Addr) (lot : List Nat), vs = [.ref d, .ref la] ∧ DiskAt C H d c s f g ss ∧ LotAt H la lot ss.length ∧
  ∀ H' p, Same H H' → H p = none → StrokesAt H' p (sel lot ss) → Q (.ref p) H'
theorem sel_take {α : Type} {lot : List Nat} {ss : List α} {i k : Nat} {x : α} (h : lot[i]? = some k) (hk : ss[k]? = some x) : sel (lot.take (i + 1)) ss = sel (lot.take i) ss ++ [x] := by
  rw [take_snoc h]
  unfold sel
  rw [List.filterMap_append]
  congr 1
  rw [List.filterMap_cons, hk]; rfl
theorem ok_chosen {f f1 : Addr} {fd fd1 : FuncData} (D : Df K mg "chosen" sChosen ["disk", "lands"] f fd) (D1 : Df K mg "is_lot" sIsLot ["value", "many"] f1 fd1) (G1 : FnOk P w K mg base CX0 3 f1 fd1 ["value", "many"] spIsLot) (T : Kls K mg C) (B : Blt mg) :
    FnOk P w K mg base CX0 4 f fd ["disk", "lands"] (spChosen C) := by
  refine D.F.ok scChosen (fun vs H Q E h => ?_) (fun cdv A outer s0 H vs Q E hr h => ?_)
  · obtain ⟨d, c, s, f, g, ss, la, lot, rfl, _⟩ := h; rfl
  · obtain ⟨d, c, s, f, g, ss, la, lot, rfl, DA, LA, q⟩ := h
    obtain ⟨dx, hd⟩ := DA.ins
    obtain ⟨bs, hs, hb⟩ := DA.str
    have hbl := Paired.length hb
    refine ⟨_, pss_cons (ps_if (pt_not (pt_val (pe_call G1 hr (by rfl) D1.g D1.F.kp D1.b .nil pass0 (pa_cons (pv 1) (pa_cons (pe_callB call_len_seq (by rfl) B.len (by decide +kernel) (pa_cons (pe_fld (pv 0) rfl) pa_nil)) pa_nil))))) (pss_one ps_never) pss_nil)
      (pss_one (ps_ret (pe_lc (own := [("number", 2)]) (g := gName 2) (tt := tYes) (te := tOp (rIxL K) (tFld K (tVar 0) "strokes") (tVar 2)) rfl scChosen.nd (pi_list (pv 1)) (blkOk_by (own := [("number", 2)]) (N := ["disk", "lands", "number"]) (sc := defScope sChosen) (by decide +kernel))
            (fun _ _ _ _ _ => pg_name (i := 2) scChosen.nd rfl (Or.inl rfl)) (fun _ _ _ _ _ => pts_nil)
            (fun _ _ _ _ _ => pe_ix ix_list (pe_fld (pv 0) (by rfl)) (pv 2) (fun _ _ => rfl))))), ?_⟩
    refine ⟨.ref la, rfl, .ref d, rfl, d, C, dx, _, .ref s, rfl, hd, T.cl, T.ns, rfl, s, _, rfl, .inl (.of hs), la, _, lot, rfl, LA.at_, by have := LA.len; omega, LA.asc, fun k hk => ?_, fun H0 S0 => ⟨true, rfl, iteF ?_⟩⟩
    · have := LA.lt k hk
      rw [List.length_map, hbl]; omega
    refine ⟨.ref la, rfl, la, rfl, ⟨_, .of (S0 _ _ LA.at_)⟩, fun F nF => ?_⟩
    refine lc_fr (S := []) (walk_list (xs := lot.map fun k : Nat => V.int k)) nF (by simp) (by simp) (by rw [List.length_map]; have := LA.len; exact Nat.le_of_lt (small1000 (by omega)))
      (fun i acc Hx => ∃ cs : List Addr, acc = cs.map V.ref ∧ Sk Hx cs (sel (lot.take i) ss)) (fun i acc Hx Hy f h => ?_) (fun i acc H' f _ => .of (f.same _ _ (S0 _ _ LA.at_))) (fun _ _ => ⟨[], rfl, .nil⟩) ?_ ?_
    · obtain ⟨cs, rfl, h2⟩ := h
      exact ⟨cs, rfl, h2.fr f⟩
    · rintro i x H1 H2 acc hi f eF ⟨cs, rfl, hcs⟩ ⟨rfl, hx⟩ Qk Nk hq hn
      rw [List.getElem?_map] at hx
      obtain ⟨k, hk, rfl⟩ := Option.map_eq_some_iff.mp hx
      have hkl := LA.lt k (List.mem_of_getElem? hk)
      have S2 := S0.trans f.same
      have hkb : bs[k]? = some (bs[k]'(by omega)) := List.getElem?_eq_getElem (by omega)
      refine ⟨rfl, yes ?_⟩
      refine ⟨.ref d, rfl, d, C, dx, _, .ref s, rfl, S2 _ _ hd, T.cl, T.ns, rfl, .int k, rfl, s, bs.map V.ref, (k : Int), .ref (bs[k]'(by omega)), rfl, rfl, .of (S2 _ _ hs), atI_nat (by rw [List.getElem?_map, hkb]; rfl), ?_⟩
      refine hq _ _ (.refl _) ⟨cs ++ [bs[k]'(by omega)], by rw [List.map_append]; rfl, ?_⟩
      obtain ⟨z, hz, hkz⟩ := Paired.get' (hb.fr (.of_same S2)) hkb
      rw [sel_take hk hz]
      exact Paired.snoc hcs hkz
    · rintro H1 acc f eF _ ⟨cs, rfl, hcs⟩
      rw [List.length_map, List.take_length] at hcs
      exact q _ F (S0.trans f.same) (S0.free nF) ⟨cs, eF, hcs⟩
/-! ### behind -/
def spBehind (C : Addr) : Sp := fun vs H Q _ => ∃ (d c s f : Addr) (g : Gd) (ss : List PlV) (la : Addr) (lot : List Nat) (n : Nat), vs = [.ref d, .ref la] ∧ DiskAt C H d c s f g ss ∧ LotAt H la lot ss.length ∧ tracked ss ∧ (∀ i, (g i).length ≤ n) ∧ (∀ i, (keysOf (g i)).Nodup) ∧ n ≤ 500 ∧
  ∀ H' p (ps : List Addr), Same H H' → H' p = some (.tup (ps.map V.ref)) → ps.length = 3 → (∀ (i : Nat) (a : Addr), ps[i]? = some a → ∃ P, KeptAt H' a P ∧ IsKept (landC g (sel lot ss) i) P ∧ P.length ≤ 1000) → Q (.ref p) H'
theorem ok_behind {f f1 f2 f3 f4 : Addr} {fd fd1 fd2 fd3 fd4 : FuncData} (D : Df K mg "behind" sBehind ["disk", "lands"] f fd) (D1 : Df K mg "chosen" sChosen ["disk", "lands"] f1 fd1) (G1 : FnOk P w K mg base CX0 4 f1 fd1 ["disk", "lands"] (spChosen C))
    (D2 : Df K mg "landed" sLanded ["cells", "strokes"] f2 fd2) (G2 : FnOk P w K mg base CX0 1 f2 fd2 ["cells", "strokes"] spLanded) (D3 : Df K mg "pairs_in" sPairsIn ["track"] f3 fd3) (G3 : FnOk P w K mg base CX0 1 f3 fd3 ["track"] spPairsIn)
    (D4 : DfN K mg f4 fd4) (T : Kls K mg C) (B : Blt mg) : FnOk P w K mg base CX0 5 f fd ["disk", "lands"] (spBehind C) := by
  have G4 : FnOk P w K mg base CX0 1 f4 fd4 ["value", "part"] (spNeedDisk C) := ok_needDisk D4 T B
  obtain ⟨dv4, v4, b4⟩ := D4.b
  refine D.F.ok scBehind (fun vs H Q E h => ?_) (fun cdv A outer s0 H vs Q E hr h => ?_)
  · obtain ⟨d, c, s, f, g, ss, la, lot, n, rfl, _⟩ := h; rfl
  · obtain ⟨d, c, s, f, g, ss, la, lot, n, rfl, DA, LA, htr, hgl, hgn, hn, q⟩ := h
    obtain ⟨dx, hd⟩ := DA.ins
    refine ⟨_, pss_cons (ps_expr (pe_call G4 (hr.mono (by decide)) (by rfl) D4.g D4.F.kp b4 v4 pass0 (pa_cons (pv 0) pa_nil)))
      (pss_one (ps_ret (pe_callTy call_tuple_of (by rfl) B.tuple (by decide +kernel) (pa_cons
        (pe_lc (own := [("track", 2)]) (g := gName 2) (tt := tYes) rfl scBehind.nd
            (pi_list (pe_call G2 (hr.mono (by decide)) (by rfl) D2.g D2.F.kp D2.b .nil pass0 (pa_cons (pe_fld (pv 0) rfl) (pa_cons (pe_call G1 hr (by rfl) D1.g D1.F.kp D1.b .nil pass0 (pa_cons (pv 0) (pa_cons (pv 1) pa_nil))) pa_nil))))
            (blkOk_by (own := [("track", 2)]) (N := ["disk", "lands", "track"]) (sc := defScope sBehind) (by decide +kernel))
            (fun _ _ _ _ _ => pg_name (i := 2) scBehind.nd rfl (Or.inl rfl)) (fun _ _ _ _ _ => pts_nil)
            (fun _ _ _ _ _ => pe_call G3 (hr.mono (by decide)) (by rfl) D3.g D3.F.kp D3.b .nil pass0 (pa_cons (pv 2) pa_nil))) pa_nil)))), ?_⟩
    refine ⟨.ref d, rfl, d, dx, _, _, rfl, hd, ?_⟩
    have hsl : (sel lot ss).length ≤ 500 := Nat.le_trans (List.length_filterMap_le _ _) LA.len
    have htr2 : tracked (sel lot ss) := fun x hx => by
      obtain ⟨k, _, hk⟩ := mem_sel.mp hx
      exact htr x (List.mem_of_getElem? hk)
    refine ⟨.ref d, rfl, d, C, dx, _, .ref c, rfl, hd, T.cl, T.nc, rfl, .ref d, rfl, .ref la, rfl, d, c, s, f, g, ss, la, lot, rfl, DA, LA, fun H1 p1 S1 n1 SA => ?_⟩
    refine ⟨c, p1, g, sel lot ss, n, rfl, DA.cells.fr (.of_same S1) (by simp), SA, htr2, hgl, by omega, fun H2 c2 S2 n2 CA => ?_⟩
    obtain ⟨ds, hc2, h3, _, hds⟩ := CA
    have S02 := S1.trans S2
    refine ⟨c2, rfl, ⟨_, .of hc2⟩, fun F nF => ?_⟩
    have hlen : ∀ i, (landC g (sel lot ss) i).length ≤ 1000 := fun i => by
      have := length_landC (sel lot ss) g n hgl i
      omega
    refine lc_fr (S := []) (walk_list (xs := ds.map V.ref)) nF (by simp) (by simp) (by rw [List.length_map, h3]; decide)
      (fun i acc Hx => ∃ ps : List Addr, acc = ps.map V.ref ∧ ps.length = i ∧ ∀ (j : Nat) (a : Addr), ps[j]? = some a → ∃ P, KeptAt Hx a P ∧ IsKept (landC g (sel lot ss) j) P ∧ P.length ≤ 1000)
      (fun i acc Hx Hy f h => ?_) (fun i acc H' f _ => .of (f.same _ _ hc2)) (fun _ _ => ⟨[], rfl, rfl, by simp⟩) ?_ ?_
    · obtain ⟨ps, rfl, hl, h2⟩ := h
      refine ⟨ps, rfl, hl, fun j a e => ?_⟩
      obtain ⟨P, k1, k2, k3⟩ := h2 j a e
      exact ⟨P, k1.fr f, k2, k3⟩
    · rintro i x H3 H4 acc hi f eF ⟨ps, rfl, hpl, hps⟩ ⟨rfl, hx⟩ Qk Nk hq hn'
      rw [List.getElem?_map] at hx
      obtain ⟨e, he, rfl⟩ := Option.map_eq_some_iff.mp hx
      refine ⟨rfl, yes ?_⟩
      refine ⟨.ref e, rfl, e, _, rfl, f.same _ _ (hds i e he), nodup_landC _ _ hgn i, hlen i, fun H5 p P S5 k1 k2 k3 => ?_⟩
      refine hq _ _ (.of_same S5) ⟨ps ++ [p], by rw [List.map_append]; rfl, by rw [List.length_append, hpl]; rfl, fun j a ha => ?_⟩
      rw [List.getElem?_append] at ha
      split at ha
      · obtain ⟨P', j1, j2, j3⟩ := hps j a ha
        exact ⟨P', j1.fr (.of_same S5), j2, j3⟩
      · have e0 : j - ps.length = 0 := by
          cases z : j - ps.length with
          | zero => rfl
          | succ k => rw [z] at ha; simp at ha
        rw [e0] at ha
        obtain rfl : p = a := by simpa using ha
        obtain rfl : j = i := by omega
        exact ⟨P, k1, k2, Nat.le_trans k3 (hlen j)⟩
    · rintro H3 acc f eF _ ⟨ps, rfl, hpl, hps⟩
      refine ⟨F, _, rfl, .inl ⟨.of eF, fun l nl => ?_⟩⟩
      have S4 : Same H (upd H3 l (.tup (ps.map V.ref))) := same_up (S02.trans f.same) nl
      refine q _ l ps S4 upd_same (by rw [hpl, List.length_map]; exact h3) fun i a e => ?_
      obtain ⟨P, k1, k2, k3⟩ := hps i a e
      exact ⟨P, k1.fr (Fr.new nl), k2, k3⟩
end
end K06
namespace K06
open PySem PySem.Spec PyProof.Rows L2
/-! ### data that are compared, data that are shown -/
def dPl (p : Pl) : PyData := .tuple [.int p.1, .int p.2]
def dInts (ns : List Int) : PyData := .tuple (ns.map PyData.int)
def dIntL (ns : List Int) : PyData := .list (ns.map PyData.int)
theorem all_ints {K : PySem.W.Frag} {H : Hp} : ∀ ns : List Int, DpAll K H (ns.map V.int) (ns.map PyData.int)
  | [] => .nil
  | n :: ns => .cons (.int n) (all_ints ns)
theorem PlAt.dp {K : PySem.W.Frag} {H : Hp} {q : Addr} {p : Pl} (h : PlAt H q p) : Dp K H (.ref q) (dPl p) := .tup (.of h) (.cons (.int _) (.cons (.int _) .nil))
theorem dp_tupI {K : PySem.W.Frag} {H : Hp} {q : Addr} {ns : List Int} (h : SqT K H q (ns.map V.int)) : Dp K H (.ref q) (dInts ns) := .tup h (all_ints ns)
theorem dp_lstI {K : PySem.W.Frag} {H : Hp} {q : Addr} {ns : List Int} (h : SqL K H q (ns.map V.int)) : Dp K H (.ref q) (dIntL ns) := .lst h (all_ints ns)
theorem eqv_pl (p q : Pl) : PyData.eqv (dPl p) (dPl q) = decide (p = q) := by
  have e : PyData.eqv (dPl p) (dPl q) = (p.1 == q.1 && (p.2 == q.2 && true)) := by
    simp [dPl, PyData.eqv, PyData.eqvAll]
  rw [e, Bool.and_true]
  by_cases h : p = q
  · rw [h]; simp
  · rw [decide_eq_false h]
    have : ¬ (p.1 = q.1 ∧ p.2 = q.2) := fun z => h (Prod.ext z.1 z.2)
    by_cases h1 : p.1 = q.1
    · have h2 : ¬ p.2 = q.2 := fun z => this ⟨h1, z⟩
      simp [h2]
    · simp [h1]
theorem eqvAll_ints : ∀ ns ms : List Int, PyData.eqvAll (ns.map PyData.int) (ms.map PyData.int) = decide (ns = ms)
  | [], [] => by simp [PyData.eqvAll]
  | [], m :: ms => by simp [PyData.eqvAll]
  | n :: ns, [] => by simp [PyData.eqvAll]
  | n :: ns, m :: ms => by
    rw [List.map_cons, List.map_cons]
    have ih := eqvAll_ints ns ms
    have e : PyData.eqvAll (PyData.int n :: ns.map PyData.int) (PyData.int m :: ms.map PyData.int) = (n == m && PyData.eqvAll (ns.map PyData.int) (ms.map PyData.int)) := by simp [PyData.eqvAll, PyData.eqv]
    rw [e, ih]
    by_cases h1 : n = m <;> by_cases h2 : ns = ms <;> simp [h1, h2]
theorem eqv_ints (ns ms : List Int) : PyData.eqv (dInts ns) (dInts ms) = decide (ns = ms) := by
  have e : PyData.eqv (dInts ns) (dInts ms) = PyData.eqvAll (ns.map PyData.int) (ms.map PyData.int) := by simp [dInts, PyData.eqv]
  rw [e, eqvAll_ints]
theorem eqv_intL (ns ms : List Int) : PyData.eqv (dIntL ns) (dIntL ms) = decide (ns = ms) := by
  have e : PyData.eqv (dIntL ns) (dIntL ms) = PyData.eqvAll (ns.map PyData.int) (ms.map PyData.int) := by simp [dIntL, PyData.eqv]
  rw [e, eqvAll_ints]
theorem lay_ints : ∀ ns : List Int, PyData.canLayAll0 (ns.map PyData.int) = true ∧ PyData.depthAll (ns.map PyData.int) = 0
  | [] => by simp [PyData.canLayAll0, PyData.depthAll]
  | n :: ns => by
    obtain ⟨h1, h2⟩ := lay_ints ns
    simp only [List.map_cons, PyData.canLayAll0, PyData.depthAll, PyData.canLay0, PyData.depth, h1, h2]
    simp
theorem shaped_ints (ns : List Int) : SeqAt.shaped (dInts ns) = true := by
  obtain ⟨h1, h2⟩ := lay_ints ns
  simp [SeqAt.shaped, dInts, PyData.canLay0, PyData.depth, h1, h2]
theorem shaped_intL (ns : List Int) : SeqAt.shaped (dIntL ns) = true := by
  obtain ⟨h1, h2⟩ := lay_ints ns
  simp [SeqAt.shaped, dIntL, PyData.canLay0, PyData.depth, h1, h2]
theorem shaped_pl (p : Pl) : SeqAt.shaped (dPl p) = true := shaped_ints [p.1, p.2]
section
variable {P : Program} {w : World} {K : PySem.W.Frag} {mg : Str → Option Value} {base : Heap} {C : Addr}
/-! ### may_lie -/
theorem getD_look (m : List (Int × Int)) (a : Int) : (valV (emb Sum.inl m) (Sum.inl a : Key)).getD (V.int 0) = V.int (val m a) := by
  rw [emb_look gI_inj]
  unfold val
  cases look m a <;> rfl
def spMayLie (C : Addr) : Sp := fun vs H Q _ => ∃ (d c s f : Addr) (g : Gd) (ss : List PlV) (t a : Int), vs = [.ref d, .int t, .int a] ∧ DiskAt C H d c s f g ss ∧ 0 ≤ t ∧ t ≤ 2 ∧ 0 ≤ a ∧ a ≤ 10000000 ∧ ss.length ≤ 50 ∧
  ∀ (H' : Hp) (p : Addr) (ns : List Int), Same H H' → H' p = some (.tup (ns.map V.int)) → ns.Pairwise (· < ·) → (∀ v, v ∈ ns ↔ v ∈ may (valC g) ss (t, a)) → ns.length ≤ 60 → Q (.ref p) H'
theorem ok_mayLie {f f1 f2 f4 : Addr} {fd fd1 fd2 fd4 : FuncData} (D : Df K mg "may_lie" sMayLie ["disk", "track", "at"] f fd)
    (D1 : Df K mg "need_track" sNeedTrack ["value"] f1 fd1) (G1 : FnOk P w K mg base CX0 4 f1 fd1 ["value"] spNeedTrack) (D2 : Df K mg "need_cell" sNeedCell ["value"] f2 fd2) (G2 : FnOk P w K mg base CX0 4 f2 fd2 ["value"] spNeedCell)
    (D4 : DfN K mg f4 fd4) (T : Kls K mg C) (B : Blt mg) : FnOk P w K mg base CX0 5 f fd ["disk", "track", "at"] (spMayLie C) := by
  have G4 : FnOk P w K mg base CX0 1 f4 fd4 ["value", "part"] (spNeedDisk C) := ok_needDisk D4 T B
  obtain ⟨dv4, v4, b4⟩ := D4.b
  refine D.F.ok scMayLie (fun vs H Q E h => ?_) (fun cdv A outer s0 H vs Q E hr h => ?_)
  · obtain ⟨d, c, s, f, g, ss, t, a, rfl, _⟩ := h; rfl
  · obtain ⟨d, c, s, f, g, ss, t, a, rfl, DA, ht0, ht2, ha0, ha1, hsz, q⟩ := h
    obtain ⟨dx, hd⟩ := DA.ins
    obtain ⟨ds, hc, h3, _, hds⟩ := DA.cells
    obtain ⟨bs, hs, hb⟩ := DA.str
    have hbl := Paired.length hb
    refine ⟨_, pss_cons (ps_expr (pe_call G4 (hr.mono (by decide)) (by rfl) D4.g D4.F.kp b4 v4 pass0 (pa_cons (pv 0) pa_nil)))
      (pss_cons (ps_expr (pe_call G1 hr (by rfl) D1.g D1.F.kp D1.b .nil pass0 (pa_cons (pv 1) pa_nil)))
      (pss_cons (ps_expr (pe_call G2 hr (by rfl) D2.g D2.F.kp D2.b .nil pass0 (pa_cons (pv 2) pa_nil)))
      (pss_cons (ps_setLc (i := 3) (own := [("value", 5), ("place", 4)]) (g := gTup K 2 (gCons (gName 4) (gCons (gName 5) gNil))) (tt := tTest (tOp (rEqD K) (tVar 4) (tTup (tCons (tVar 1) (tCons (tVar 2) tNil))))) rfl scMayLie.nd rfl rfl (sw_true rfl rfl rfl (by decide +kernel))
          (pi_list (pe_fld (pv 0) rfl)) (blkOk_by (own := [("value", 5), ("place", 4)]) (N := ["disk", "track", "at", "waits", "place", "value"]) (sc := defScope sMayLie) (by decide +kernel))
          (fun _ _ _ _ _ => pg_tup rfl (pgs_cons (pg_name (i := 4) scMayLie.nd rfl (Or.inl rfl)) (pgs_cons (pg_name (i := 5) scMayLie.nd rfl (Or.inl rfl)) pgs_nil)))
          (fun _ _ _ _ _ => pts_one (pt_cmpR (op_eqD hr.units) (pv 4) (pe_tup (pa_cons (pv 1) (pa_cons (pv 2) pa_nil))) (nomark _)))
          (fun _ _ _ _ _ => pv 5))
      (pss_one (ps_ret (pe_callTy call_tuple_of (by rfl) B.tuple (by decide +kernel) (pa_cons (pe_callB (cr_sortedSet rfl) (by rfl) B.sorted (by decide +kernel) (pa_cons (pe_callTy (cr_setL rfl) (by rfl) B.set (by decide +kernel) (pa_cons
          (pe_lst (pa_cons (pe_dget2 (hu_of hr) (pe_ix ix_list (pe_fld (pv 0) rfl) (pv 1) (fun _ _ => rfl)) (pv 2) pe_int ⟨rfl, rfl, rfl, rfl⟩) (StX.pa_star (pv 3) pa_nil)))
          pa_nil)) pa_nil)) pa_nil))))))), ?_⟩
    refine ⟨.ref d, rfl, d, dx, _, _, rfl, hd, .int t, rfl, t, rfl, ht0, ht2, .int a, rfl, a, rfl, ha0, ha1, ?_⟩
    refine ⟨.ref d, rfl, d, C, dx, _, .ref s, rfl, hd, T.cl, T.ns, rfl, s, rfl, ⟨_, .of hs⟩, fun F nF => ?_⟩
    refine lc_fr (S := []) (walk_list (xs := bs.map V.ref)) nF (by simp) (by simp) (by rw [List.length_map, hbl]; exact Nat.le_of_lt (small1000 (by omega)))
      (fun i acc Hx => acc = (((ss.take i).filter fun s => decide (s.1 = (t, a))).map (·.2)).map V.int) (fun i acc Hx Hy f h => h) (fun i acc H' f _ => .of (f.same _ _ hs)) (fun _ _ => rfl) ?_ ?_
    · rintro i x H1 H2 acc hi f eF rfl ⟨rfl, hx⟩ Qk Nk hq hn
      rw [List.getElem?_map] at hx
      obtain ⟨b, hb1, rfl⟩ := Option.map_eq_some_iff.mp hx
      obtain ⟨⟨p, v⟩, hsi, q2, hq2, hq3⟩ := Paired.get' (hb.fr f) hb1
      refine ⟨b, _, rfl, .of hq2, rfl, .ref q2, _, rfl, .int v, _, rfl, rfl, rfl, ?_⟩
      refine ⟨.ref q2, rfl, .int t, rfl, .int a, rfl, by show 2 ≤ sizeLine; decide, fun z nz => ?_⟩
      have F1 : Fr [] H2 (upd H2 z (.tup [.int t, .int a])) := Fr.new nz
      refine ⟨dPl p, dPl (t, a), PlAt.dp (F1.tup hq3), PlAt.dp (p := (t, a)) upd_same, shaped_pl _, shaped_pl _, _, rfl, ?_⟩
      rw [eqv_pl]
      rw [take_snoc hsi, List.filter_append, List.map_append, List.map_append] at hq hn
      by_cases hp : p = (t, a)
      · rw [decide_eq_true hp]
        refine iteT ⟨.int v, rfl, hq _ _ F1 ?_⟩
        have e : [(p, v)].filter (fun s => decide (s.1 = (t, a))) = [(p, v)] := by simp [hp]
        rw [e]; rfl
      · rw [decide_eq_false hp]
        refine iteF (hn _ F1 ?_)
        have e : [(p, v)].filter (fun s => decide (s.1 = (t, a))) = [] := by simp [hp]
        rw [e]; simp
    · rintro H1 acc f eF _ rfl
      rw [List.length_map, hbl, List.take_length] at eF
      have S1 := f.same
      have hlt : t.toNat < ds.length := by omega
      have hj : ds[t.toNat]? = some ds[t.toNat] := List.getElem?_eq_getElem hlt
      have hdt := S1 _ _ (hds _ _ hj)
      refine ⟨.ref d, rfl, d, C, dx, _, .ref c, rfl, S1 _ _ hd, T.cl, T.nc, rfl, .int t, rfl, c, ds.map V.ref, t, .ref ds[t.toNat], rfl, rfl, .of (S1 _ _ hc), atI_int ht0 (by rw [List.getElem?_map, hj]; rfl), ?_⟩
      refine ⟨_, rfl, .inl ⟨_, .inl hdt⟩, .int a, rfl, _, DGet.k (k := Sum.inl a) hdt, ?_⟩
      rw [getD_look]
      refine ⟨.ref F, rfl, F, _, rfl, .inr (.of eF), ?_⟩
      have em : V.int (val (g t.toNat) a) :: ((((ss.filter fun s => decide (s.1 = (t, a))).map (·.2)).map V.int) ++ []) = (may (valC g) ss (t, a)).map V.int := by
        rw [List.append_nil]; rfl
      have hml : (may (valC g) ss (t, a)).length ≤ 60 := by
        unfold may
        rw [List.length_cons, List.length_map]
        exact Nat.le_trans (Nat.succ_le_succ (List.length_filter_le _ _)) (by omega)
      show _ ∧ _
      rw [em]
      refine ⟨by rw [List.length_map]; exact Nat.le_of_lt (small1000 (by omega)), fun l nl => ?_⟩
      refine ⟨l, may (valC g) ss (t, a), rfl, .of upd_same, hml, fun p n np hn => ?_⟩
      refine ⟨p, _, n, rfl, upd_same, by omega, fun ns p' asc hmem hlen np' => ?_⟩
      refine ⟨p', _, rfl, .inl ⟨.of upd_same, fun l2 nl2 => ?_⟩⟩
      refine q _ l2 ns (same_up (same_up (same_up (same_up S1 nl) np) np') nl2) upd_same asc (fun v => ?_) (by omega)
      rw [hmem]; simp
end
end K06
namespace K06
open PySem PySem.Spec PyProof.Rows L2
section
variable {P : Program} {w : World} {K : PySem.W.Frag} {mg : Str → Option Value} {base : Heap} {C : Addr}
theorem cut60 (ns : List Int) : ∃ ms : List Int, cutV (ns.map V.int) none (some 60) = ms.map V.int ∧ ms.length ≤ 60 := by
  refine ⟨(ns.drop (HT.sIx (ns.map V.int).length 0 none)).take (HT.sIx (ns.map V.int).length (ns.map V.int).length (some 60) - HT.sIx (ns.map V.int).length 0 none), ?_, ?_⟩
  · unfold cutV
    rw [List.map_take, List.map_drop]
  · rw [List.length_take]
    have : HT.sIx (ns.map V.int).length (ns.map V.int).length (some 60) ≤ 60 := by unfold HT.sIx; simp; omega
    omega
/-! ### the berth -/
def spBerth (K : PySem.W.Frag) : Sp := fun vs H Q _ => ∃ (a : Addr) (ns : List Int), vs = [.ref a] ∧ SqL K H a (ns.map V.int) ∧ ∀ H' b l, Same H H' → H b = none → H l = none → Berth H' b l 0 → Q (.ref b) H'
theorem ok_berth {f : Addr} {fd : FuncData} (D : Df K mg "_law_berth" sBerth ["_law_script"] f fd) (B : Blt mg) : FnOk P w K mg base CX0 1 f fd ["_law_script"] (spBerth K) := by
  refine D.F.ok scBerth (fun vs H Q E h => ?_) (fun cdv A outer s0 H vs Q E hr h => ?_)
  · obtain ⟨a, ns, rfl, _⟩ := h; rfl
  · obtain ⟨a, ns, rfl, ha, q⟩ := h
    refine ⟨_, pss_one (ps_ret (pe_lst (pa_cons (pe_lc (own := [("_law_cell", 1)]) (g := gName 1) (tt := tYes) rfl scBerth.nd (pi_list (pe_slice sl_list (pv 0) po_none (po_some pe_int))) (blkOk_by (own := [("_law_cell", 1)]) (N := ["_law_script", "_law_cell"]) (sc := defScope sBerth) (by decide +kernel))
          (fun _ _ _ _ _ => pg_name (i := 1) scBerth.nd rfl (Or.inl rfl)) (fun _ _ _ _ _ => pts_nil) (fun _ _ _ _ _ => pe_callTy call_int1 (by rfl) B.int (by decide +kernel) (pa_cons (pv 1) pa_nil))) (pa_cons pe_int (pa_cons pe_int pa_nil))))), ?_⟩
    obtain ⟨ms, em, hm⟩ := cut60 ns
    refine ⟨.ref a, rfl, 60, rfl, a, _, rfl, ha, fun p np => ?_⟩
    rw [em]
    have S0 : Same H (upd H p (.lst (ms.map V.int))) := same_upd np
    refine ⟨p, rfl, ⟨_, .of upd_same⟩, fun F nF => ?_⟩
    refine lc_fr (S := []) (walk_list (xs := ms.map V.int)) nF (by simp) (by simp) (by rw [List.length_map]; exact Nat.le_of_lt (small1000 (by omega))) (fun i acc Hx => acc = (ms.take i).map V.int) (fun _ _ _ _ _ h => h)
      (fun i acc H' f _ => .of (f.same _ _ upd_same)) (fun _ _ => rfl) ?_ ?_
    · rintro i x H1 H2 acc hi f eF rfl ⟨rfl, hx⟩ Qk Nk hq hn
      rw [List.getElem?_map] at hx
      obtain ⟨j, hj, rfl⟩ := Option.map_eq_some_iff.mp hx
      refine ⟨rfl, yes ?_⟩
      refine ⟨.int j, rfl, .inl ⟨j, rfl, ?_⟩⟩
      exact hq _ _ (.refl _) (by rw [take_snoc hj, List.map_append]; rfl)
    · rintro H1 acc f eF _ rfl
      rw [List.length_map, List.take_length] at eF
      refine ⟨by show 3 ≤ sizeLine; decide, fun b nb => ?_⟩
      have S1 := S0.trans f.same
      refine q _ b F (same_up S1 nb) (S1.free nb) (S0.free nF) ⟨ms, 0, 0, upd_same, by rw [upd_ne (ne_of_none eF nb)]; exact eF, hm, by decide, by decide, by decide⟩
/-! ### dredge -/
def spDredge : Sp := fun vs H Q _ => ∃ (b l : Addr) (n : Nat) (m : Int), vs = [.ref b, .int m] ∧ Berth H b l n ∧ n ≤ 1000 ∧ 0 < m ∧ m < 1073741824 ∧ ∀ H' r, Fr [b] H H' → Berth H' b l (n + 1) → 0 ≤ r → r < m → Q (.int r) H'
abbrev nDredge : List Str := ["_law_berth_here", "_law_many", "_law_rest", "_law_at", "_law_cell", "_law_mixed"]
theorem mul_in {x y a b : Int} (hx0 : 0 ≤ x) (hx : x ≤ a) (hy0 : 0 ≤ y) (hy : y ≤ b) : 0 ≤ x * y ∧ x * y ≤ a * b :=
  ⟨Int.mul_nonneg hx0 hy0, Int.mul_le_mul hx hy hy0 (Int.le_trans hx0 hx)⟩
theorem dredge_tail (B : Blt mg) {f : Addr} {cdv : Value} {A : Around} {outer : List Env} {s : Shared} {H0 : Hp} {E : XK} (b l : Addr) (n : Nat) (m : Int) (hn : n ≤ 1000) (hm0 : 0 < m) (hm1 : m < 1073741824) :
    ∃ t, PSs (cxOf CX0 P w K mg base nDredge "_law_dredge" (defScope sDredge) f cdv A outer s H0 E).nox ((defBody sDredge).drop 5) t ∧
      ∀ (D : Ends) (H : Hp) (at' cell rest : Int) (ns : List Int), 0 ≤ at' → at' ≤ n → H b = some (.lst [.ref l, .int (at' + 1), .int rest]) → H l = some (.lst (ns.map V.int)) → ns.length ≤ 60 → 0 ≤ rest →
        (∀ H' r, Fr [b] H H' → Berth H' b l (n + 1) → 0 ≤ r → r < m → D.rt (.int r) H') →
        t D [some (.ref b), some (.int m), none, some (.int at'), some (.int cell), none] H := by
  refine ⟨_, pss_cons (ps_if (PW.pt (pw_and (pt_cmpR op_lt (pv 3) (pe_callB call_len_seq (by rfl) B.len (by decide +kernel) (pa_cons (pe_ix ix_list (pv 0) pe_int (fun _ _ => rfl)) pa_nil)) (nomark _))
        (pw_and1 (pt_cmpR op_ge (pe_callB call_abs (by rfl) B.abs (by decide +kernel) (pa_cons (pv 4) pa_nil)) (pe_op op_pow pe_int pe_int) (nomark _)))))
      (pss_cons (ps_set (i := 2) scDredge.nd rfl (.inl rfl) (pe_op op_add (pe_op op_mul pe_int (pe_op op_sub (pe_callB call_abs (by rfl) B.abs (by decide +kernel) (pa_cons (pv 4) pa_nil)) (pe_op op_pow pe_int pe_int))) (pe_callTy call_int1 (by rfl) B.int (by decide +kernel) (pa_cons (pe_cmpR op_lt (pv 4) pe_int (nomark _)) pa_nil))))
      (pss_cons (ps_asg (pe_op op_fdiv (pe_callTy call_int1 (by rfl) B.int (by decide +kernel) (pa_cons (pv 2) pa_nil)) (pv 1)) (pg_sub (pv 0) pe_int set_list))
      (pss_one (ps_ret (pe_op op_mod (pe_callTy call_int1 (by rfl) B.int (by decide +kernel) (pa_cons (pv 2) pa_nil)) (pv 1)))))) pss_nil)
    (pss_cons (ps_set (i := 5) scDredge.nd rfl (.inl rfl) (pe_op op_mod (pe_callTy call_int1 (by rfl) B.int (by decide +kernel) (pa_cons (pe_op op_pow (pe_op op_add (pe_op op_add (pe_op op_mod (pe_callTy call_int1 (by rfl) B.int (by decide +kernel) (pa_cons (pv 4) pa_nil)) pe_int) (pe_op op_mul pe_int (pv 3))) pe_int) pe_int) pa_nil)) pe_int))
    (pss_cons (ps_set (i := 5) scDredge.nd rfl (.inl rfl) (pe_op op_mod (pe_callTy call_int1 (by rfl) B.int (by decide +kernel) (pa_cons (pe_op op_pow (pe_op op_add (pe_op op_add (pe_op op_mul (pv 5) (pe_op op_add (pe_op op_mul pe_int (pv 3)) pe_int)) (pe_op op_mul (pe_op op_mul pe_int (pv 3)) (pv 3))) pe_int) pe_int) pa_nil)) pe_int))
    (pss_one (ps_ret (pe_op op_mod (pe_callTy call_int1 (by rfl) B.int (by decide +kernel) (pa_cons (pe_op op_fdiv (pv 5) pe_int) pa_nil)) (pv 1)))))), ?_⟩
  intro D H at' cell rest ns ha0 ha1 hb hl hns hr0 q
  have softb : ∀ x ∈ [b], soft (H x) := fun x hx => by
    have e : x = b := by simpa using hx
    rw [e]; exact soft_lst hb
  refine ⟨.int at', rfl, .ref b, rfl, b, _, 0, .ref l, rfl, rfl, .of hb, atI_nat (j := 0) rfl, l, _, rfl, .inl (.of hl), at', _, rfl, rfl, _, rfl,
    ite2 (fun hA => ⟨.int cell, rfl, cell, rfl, 10, 18, rfl, rfl, ⟨by decide, by decide, by decide⟩, _, _, rfl, rfl, _, rfl, ite2 (fun hB => ?_) (fun hB => ?_)⟩) (fun hA => ?_)⟩
  · have hab : (10 : Int) ^ 18 ≤ (if cell < 0 then -cell else cell) := of_decide_eq_true hB
    generalize hac : (if cell < 0 then -cell else cell) = ac at hab
    refine ⟨.int cell, rfl, cell, rfl, 10, 18, rfl, rfl, ⟨by decide, by decide, by decide⟩, _, _, rfl, rfl, 2, _, rfl, rfl, .inl ⟨by decide, by decide⟩, ?_⟩
    refine ⟨.int cell, rfl, cell, 0, rfl, rfl, .inr ⟨_, rfl, _, _, rfl, rfl, ?_⟩⟩
    dsimp only [gName]
    rw [hac]
    generalize hr : 2 * (ac - (10 : Int) ^ (18 : Int).toNat) + (if decide (cell < 0) = true then (1 : Int) else 0) = rr
    have hrr : 0 ≤ rr := by
      have e18 : (18 : Int).toNat = 18 := rfl
      rw [← hr, e18]
      split <;> omega
    refine ⟨.int rr, rfl, .inl ⟨rr, rfl, .int m, rfl, rr, m, rfl, rfl, ⟨hm0, hm1⟩, .ref b, rfl, b, _, 2, 2, rfl, rfl, hb, rfl, ?_⟩⟩
    refine ⟨.int rr, rfl, .inl ⟨rr, rfl, .int m, rfl, rr, m, rfl, rfl, hm0, ?_⟩⟩
    have F1 : Fr [b] H (upd H b (.lst [.ref l, .int (at' + 1), .int (rr / m)])) := Fr.put (soft_lst hb)
    have hlb : l ≠ b := by
      intro z
      rw [z, hb] at hl
      have z := HO.lst.inj (Option.some.inj hl)
      rcases ns with _ | ⟨x, ns⟩ <;> simp at z
    refine q _ _ F1 ⟨ns, at' + 1, rr / m, upd_same, by rw [upd_ne hlb]; exact hl, hns, by omega, by omega, Int.ediv_nonneg hrr (by omega)⟩ (Int.emod_nonneg _ (by omega)) (Int.emod_lt_of_pos _ hm0)
  all_goals
    refine ⟨.int cell, rfl, .inl ⟨cell, rfl, cell, 2147483543, rfl, rfl, (by show (0 : Int) < 2147483543; decide), .int at', rfl, 43145, at', rfl, rfl, .inl ⟨by decide, by decide⟩, _, _, rfl, rfl, _, 5587, rfl, rfl, _, 5, rfl, rfl, ⟨by decide, by decide, ?_⟩, .inl ⟨_, rfl, _, 2147483477, rfl, rfl, (by show (0 : Int) < 2147483477; decide), ?_⟩⟩⟩
    · have h1 := Int.emod_nonneg cell (by decide : (2147483543 : Int) ≠ 0)
      have h2 := Int.emod_lt_of_pos cell (by decide : (0 : Int) < 2147483543)
      have h3 : (0 : Int) ≤ cell % 2147483543 + 43145 * at' + 5587 ∧ cell % 2147483543 + 43145 * at' + 5587 < 2 ^ 64 := by omega
      show (cell % 2147483543 + 43145 * at' + 5587).natAbs < 2 ^ 64
      omega
    dsimp only [gName]
    generalize hmx : ((cell % 2147483543 + 43145 * at' + 5587) ^ (5 : Int).toNat : Int) % 2147483477 = mx
    have hmx0 : 0 ≤ mx := by rw [← hmx]; exact Int.emod_nonneg _ (by decide)
    have hmx1 : mx ≤ 2147483477 := by rw [← hmx]; exact Int.le_of_lt (Int.emod_lt_of_pos _ (by decide))
    obtain ⟨b1, b2⟩ := mul_in (x := mx) (y := 2 * at' + 3119) (a := 2147483477) (b := 6000) hmx0 hmx1 (by omega) (by omega)
    obtain ⟨b3, b4⟩ := mul_in (x := 61207 * at') (y := at') (a := 61207000) (b := 1000) (by omega) (by omega) (by omega) (by omega)
    refine ⟨.int mx, rfl, .int at', rfl, 2, at', rfl, rfl, .inl ⟨by decide, by decide⟩, _, 3119, rfl, rfl, mx, _, rfl, rfl, .inl ⟨by omega, by omega⟩, .int at', rfl, 61207, at', rfl, rfl, .inl ⟨by decide, by decide⟩, .int at', rfl, _, at', rfl, rfl, .inl ⟨by omega, by omega⟩,
      _, _, rfl, rfl, _, 52213, rfl, rfl, _, 3, rfl, rfl, ⟨by decide, by decide, ?_⟩, .inl ⟨_, rfl, _, 2147483587, rfl, rfl, (by show (0 : Int) < 2147483587; decide), ?_⟩⟩
    · show (mx * (2 * at' + 3119) + 61207 * at' * at' + 52213).natAbs < 2 ^ 64
      omega
    refine ⟨_, rfl, _, 32, rfl, rfl, ⟨by decide, by decide⟩, .inl ⟨_, rfl, .int m, rfl, _, m, rfl, rfl, hm0, ?_⟩⟩
    exact q _ _ ⟨fun _ _ e _ => e, softb⟩ ⟨ns, at' + 1, rest, hb, hl, hns, by omega, by omega, hr0⟩ (Int.emod_nonneg _ (by omega)) (Int.emod_lt_of_pos _ hm0)
theorem ok_dredge {f : Addr} {fd : FuncData} (D : Df K mg "_law_dredge" sDredge ["_law_berth_here", "_law_many"] f fd) (B : Blt mg) : FnOk P w K mg base CX0 1 f fd ["_law_berth_here", "_law_many"] spDredge := by
  refine D.F.ok scDredge (fun vs H Q E h => ?_) (fun cdv A outer s0 H vs Q E hr h => ?_)
  · obtain ⟨b, l, n, m, rfl, _⟩ := h; rfl
  · obtain ⟨b, l, n, m, rfl, hB, hn, hm0, hm1, q⟩ := h
    obtain ⟨t, ht, hq⟩ := dredge_tail (P := P) (w := w) (K := K) (base := base) B (f := f) (cdv := cdv) (A := A) (outer := outer) (s := s0) (H0 := H) (E := E) b l n m hn hm0 hm1
    obtain ⟨ns, at', rest, hb, hl, hns, ha0, ha1, hr0⟩ := hB
    have hlb : l ≠ b := by
      intro z
      rw [z, hb] at hl
      have z := HO.lst.inj (Option.some.inj hl)
      rcases ns with _ | ⟨x, ns⟩ <;> simp at z
    refine ⟨_, pss_cons (ps_if (pt_cmpR op_gt (pe_ix ix_list (pv 0) pe_int (fun _ _ => rfl)) pe_int (nomark _))
        (pss_cons (ps_set (i := 2) scDredge.nd rfl (.inl rfl) (pe_callTy call_int1 (by rfl) B.int (by decide +kernel) (pa_cons (pe_ix ix_list (pv 0) pe_int (fun _ _ => rfl)) pa_nil)))
        (pss_cons (ps_asg (pe_op op_fdiv (pv 2) (pv 1)) (pg_sub (pv 0) pe_int set_list))
        (pss_one (ps_ret (pe_op op_mod (pe_callTy call_int1 (by rfl) B.int (by decide +kernel) (pa_cons (pv 2) pa_nil)) (pv 1)))))) pss_nil)
      (pss_cons (ps_set (i := 3) scDredge.nd rfl (.inl rfl) (pe_ix ix_list (pv 0) pe_int (fun _ _ => rfl)))
      (pss_cons (ps_asg (pe_op op_add (pv 3) pe_int) (pg_sub (pv 0) pe_int set_list))
      (pss_cons (ps_set (i := 4) scDredge.nd rfl (.inl rfl) (pe_op op_add (pe_op op_mul pe_int (pv 3)) pe_int))
      (pss_cons (ps_if (pt_cmpR (op_neD hr.units) (pe_ix ix_list (pv 0) pe_int (fun _ _ => rfl)) (pe_lst pa_nil) (nomark _))
          (pss_one (ps_set (i := 4) scDredge.nd rfl (.inl rfl) (pe_ix ix_list (pe_ix ix_list (pv 0) pe_int (fun _ _ => rfl)) (pe_op op_mod (pe_callTy call_int1 (by rfl) B.int (by decide +kernel) (pa_cons (pv 3) pa_nil)) (pe_callB call_len_seq (by rfl) B.len (by decide +kernel) (pa_cons (pe_ix ix_list (pv 0) pe_int (fun _ _ => rfl)) pa_nil))) (fun _ _ => rfl)))) pss_nil)
        ht)))), ?_⟩
    refine ⟨.ref b, rfl, b, _, 2, .int rest, rfl, rfl, .of hb, atI_nat (j := 2) rfl, rest, 0, rfl, rfl, _, rfl, ite2 (fun hA => ?_) (fun hA => ?_)⟩
    · refine ⟨.ref b, rfl, b, _, 2, .int rest, rfl, rfl, .of hb, atI_nat (j := 2) rfl, .inl ⟨rest, rfl, ?_⟩⟩
      refine ⟨.int rest, rfl, .int m, rfl, rest, m, rfl, rfl, ⟨hm0, hm1⟩, .ref b, rfl, b, _, 2, 2, rfl, rfl, hb, rfl, ?_⟩
      refine ⟨.int rest, rfl, .inl ⟨rest, rfl, .int m, rfl, rest, m, rfl, rfl, hm0, ?_⟩⟩
      have F1 : Fr [b] H (upd H b (.lst [.ref l, .int at', .int (rest / m)])) := Fr.put (soft_lst hb)
      exact q _ _ F1 ⟨ns, at', rest / m, upd_same, by rw [upd_ne hlb]; exact hl, hns, ha0, by omega, Int.ediv_nonneg hr0 (by omega)⟩ (Int.emod_nonneg _ (by omega)) (Int.emod_lt_of_pos _ hm0)
    · refine ⟨.ref b, rfl, b, _, 1, .int at', rfl, rfl, .of hb, atI_nat (j := 1) rfl, ?_⟩
      refine ⟨.int at', rfl, at', 1, rfl, rfl, .ref b, rfl, b, _, 1, 1, rfl, rfl, hb, rfl, ?_⟩
      have e1 : upd H b (.lst [.ref l, .int (at' + 1), .int rest]) b = some (.lst [.ref l, .int (at' + 1), .int rest]) := upd_same
      have e2 : upd H b (.lst [.ref l, .int (at' + 1), .int rest]) l = some (.lst (ns.map V.int)) := by rw [upd_ne hlb]; exact hl
      have F1 : Fr [b] H (upd H b (.lst [.ref l, .int (at' + 1), .int rest])) := Fr.put (soft_lst hb)
      have e1' : (([V.ref l, .int at', .int rest] : List V).set 1 (.int (at' + 1))) = [.ref l, .int (at' + 1), .int rest] := rfl
      generalize hH1 : upd H b (.lst [.ref l, .int (at' + 1), .int rest]) = H1 at e1 e2 F1
      have hH1' : upd H b (.lst (([V.ref l, .int at', .int rest] : List V).set 1 (.int (at' + 1)))) = H1 := hH1
      refine ⟨.int at', by rfl, 61207, at', rfl, rfl, .inl ⟨by decide, by decide⟩, _, 5587, rfl, rfl, ?_⟩
      dsimp only [gName]
      rw [hH1']
      have fin : ∀ H', Fr [] H1 H' → ∀ H2 r, Fr [b] H' H2 → Berth H2 b l (n + 1) → 0 ≤ r → r < m → Q (.int r) H2 := by
        intro H' f1 H2 r f2 h1 h2 h3
        exact q H2 r ((F1.transS f1.same).trans2 f2) h1 h2 h3
      refine ⟨.ref b, rfl, b, _, 0, .ref l, rfl, rfl, .of e1, atI_nat (j := 0) rfl, Nat.zero_le _, fun z nz => ?_⟩
      have F2 : Fr [] H1 (upd H1 z (.lst [])) := Fr.new nz
      have b2 := F2.same _ _ e1
      have l2 := F2.same _ _ e2
      refine ⟨dIntL ns, dIntL [], dp_lstI (.of l2), dp_lstI (ns := []) (.of upd_same), shaped_intL _, shaped_intL _, _, rfl, ?_⟩
      rw [eqv_intL]
      by_cases hne : ns = []
      · rw [decide_eq_true hne]
        refine iteF ?_
        exact hq _ _ at' _ rest ns ha0 ha1 b2 l2 hns hr0 (fun H2 r => fin _ F2 H2 r)
      · rw [decide_eq_false hne]
        refine iteT ?_
        have hpos : 0 < ns.length := List.length_pos_iff.mpr hne
        have hml := Int.emod_lt_of_pos at' (by omega : (0 : Int) < (ns.length : Int))
        have hm0' := Int.emod_nonneg at' (by omega : (ns.length : Int) ≠ 0)
        have hlt : (at' % (ns.length : Int)).toNat < ns.length := by omega
        have hget : (ns.map V.int)[(at' % (ns.length : Int)).toNat]? = some (.int (ns[(at' % (ns.length : Int)).toNat])) := by rw [List.getElem?_map, List.getElem?_eq_getElem hlt]; rfl
        refine ⟨.ref b, rfl, b, _, 0, .ref l, rfl, rfl, .of b2, atI_nat (j := 0) rfl, .int at', rfl, .inl ⟨at', rfl, .ref b, rfl, b, _, 0, .ref l, rfl, rfl, .of b2, atI_nat (j := 0) rfl, l, _, rfl, .inl (.of l2), at', _, rfl, rfl, ?_, ?_⟩⟩
        · show (0 : Int) < ((ns.map V.int).length : Int)
          rw [List.length_map]; omega
        · refine ⟨l, ns.map V.int, at' % (ns.length : Int), _, rfl, by rw [List.length_map], .of l2, atI_int hm0' hget, ?_⟩
          exact hq _ _ at' _ rest ns ha0 ha1 b2 l2 hns hr0 (fun H2 r => fin _ F2 H2 r)
end
end K06
namespace K06
open PySem PySem.Spec PyProof.Rows L2
section
variable {P : Program} {w : World} {K : PySem.W.Frag} {mg : Str → Option Value} {base : Heap} {C : Addr}
/-! ### pick -/
def spPick : Sp := fun vs H Q _ => ∃ (b l : Addr) (n : Nat) (a : Addr) (xs : List V), vs = [.ref b, .ref a] ∧ Berth H b l n ∧ n ≤ 1000 ∧ H a = some (.lst xs) ∧ 0 < xs.length ∧ xs.length ≤ 1000 ∧ a ≠ b ∧ ∀ H' v, Fr [b] H H' → Berth H' b l (n + 1) → v ∈ xs → Q v H'
theorem ok_pick {f f1 : Addr} {fd fd1 : FuncData} (D : Df K mg "_law_pick" sPick ["_law_berth_here", "_law_some"] f fd) (D1 : Df K mg "_law_dredge" sDredge ["_law_berth_here", "_law_many"] f1 fd1) (B : Blt mg) : FnOk P w K mg base CX0 2 f fd ["_law_berth_here", "_law_some"] spPick := by
  have G1 : FnOk P w K mg base CX0 1 f1 fd1 ["_law_berth_here", "_law_many"] spDredge := ok_dredge D1 B
  refine D.F.ok scPick (fun vs H Q E h => ?_) (fun cdv A outer s0 H vs Q E hr h => ?_)
  · obtain ⟨b, l, n, a, xs, rfl, _⟩ := h; rfl
  · obtain ⟨b, l, n, a, xs, rfl, hB, hn, ha, hx0, hx1, hab, q⟩ := h
    refine ⟨_, pss_one (ps_ret (pe_ix ix_list (pv 1) (pe_call G1 hr (by rfl) D1.g D1.F.kp D1.b .nil pass0 (pa_cons (pv 0) (pa_cons (pe_callB call_len_seq (by rfl) B.len (by decide +kernel) (pa_cons (pv 1) pa_nil)) pa_nil))) (fun _ _ => rfl))), ?_⟩
    refine ⟨.ref a, rfl, .ref b, rfl, .ref a, rfl, a, xs, rfl, .inl (.of ha), b, l, n, (xs.length : Int), rfl, hB, hn, by omega, by omega, fun H1 r F1 B1 hr0 hr1 => ?_⟩
    have hlt : r.toNat < xs.length := by omega
    refine ⟨a, xs, r, xs[r.toNat], rfl, rfl, .of (F1.keep ha (by simpa using hab)), atI_int hr0 (List.getElem?_eq_getElem hlt), ?_⟩
    exact q _ _ F1 B1 (List.getElem_mem hlt)
/-! ### land -/
theorem selI_append {α : Type} (lot : List Nat) : ∀ (a b : List α) (i : Nat), selI lot i (a ++ b) = selI lot i a ++ selI lot (i + a.length) b
  | [], b, i => by simp [selI]
  | x :: a, b, i => by
    have ih := selI_append lot a b (i + 1)
    have e : i + 1 + a.length = i + (x :: a).length := by rw [List.length_cons]; omega
    show (if i ∈ lot then x :: selI lot (i + 1) (a ++ b) else selI lot (i + 1) (a ++ b)) = (if i ∈ lot then x :: selI lot (i + 1) a else selI lot (i + 1) a) ++ _
    rw [ih, e]
    split <;> simp
theorem length_selI {α : Type} (lot : List Nat) : ∀ (a : List α) (i : Nat), (selI lot i a).length ≤ a.length
  | [], i => Nat.le_refl _
  | x :: a, i => by
    have ih := length_selI lot a (i + 1)
    show (if i ∈ lot then x :: selI lot (i + 1) a else selI lot (i + 1) a).length ≤ a.length + 1
    split
    · rw [List.length_cons]; omega
    · omega
theorem inV_nat (lot : List Nat) (i : Nat) : inV (.int (i : Nat)) (lot.map fun k : Nat => V.int k) = decide (i ∈ lot) := by
  unfold inV
  rw [List.any_map]
  by_cases h : i ∈ lot
  · rw [decide_eq_true h, List.any_eq_true]
    exact ⟨i, h, by show ((i : Int) == (i : Int)) = true; simp⟩
  · rw [decide_eq_false h, List.any_eq_false]
    intro x hx z
    have z : ((x : Int) == (i : Int)) = true := z
    have z : (x : Int) = (i : Int) := by simpa using z
    exact h (by rw [show i = x by omega]; exact hx)
def spLand : Sp := fun vs H Q _ => ∃ (l : Addr) (m : List (Pl × Int)) (wa : Addr) (ss : List PlV) (la : Addr) (lot : List Nat), vs = [.ref l, .ref wa, .ref la] ∧ H l = some (.dT (emb gP m)) ∧ StrokesAt H wa ss ∧
  H la = some (.lst (lot.map fun k : Nat => V.int k)) ∧ m.length + ss.length ≤ 1000 ∧ ∀ H', Fr [l] H H' → H' l = some (.dT (emb gP (land m (selI lot 0 ss)))) → Q .non H'
theorem ok_land {f : Addr} {fd : FuncData} (D : Df K mg "_law_land" sLand ["_law_lies", "_law_waits", "_law_lands"] f fd) (B : Blt mg) : FnOk P w K mg base CX0 1 f fd ["_law_lies", "_law_waits", "_law_lands"] spLand := by
  refine D.F.ok scLand (fun vs H Q E h => ?_) (fun cdv A outer s0 H vs Q E hr h => ?_)
  · obtain ⟨l, m, wa, ss, la, lot, rfl, _⟩ := h; rfl
  · obtain ⟨l, m, wa, ss, la, lot, rfl, hl, ⟨bs, hs, hb⟩, hla, hsz, q⟩ := h
    have hbl := Paired.length hb
    refine ⟨_, pss_one (ps_for PassesOwn.never rfl (pi_enum (by rfl) B.enumerate (pa_cons (pv 1) pa_nil))
      (pg_tup rfl (pgs_cons (pg_name (i := 3) scLand.nd rfl (Or.inl rfl)) (pgs_cons (pg_tup rfl (pgs_cons (pg_name (i := 4) scLand.nd rfl (Or.inl rfl)) (pgs_cons (pg_name (i := 5) scLand.nd rfl (Or.inl rfl)) pgs_nil))) pgs_nil)))
      (pss_one (ps_if (pt_cmpR op_in_seq (pv 3) (pv 2) (by rfl)) (pss_one (ps_dput (hu_of hr) (pv 0) (pv 4) (pv 5) rfl)) pss_nil))), ?_⟩
    have hlw : wa ≠ l := ne_of hs hl (by intro z; cases z)
    have hll : la ≠ l := ne_of hla hl (by intro z; cases z)
    have F00 : Fr [l] H H := Fr.mono (Fr.refl H) (by simp) (by simpa using soft_dT hl)
    refine ⟨.ref wa, rfl, wa, bs.map V.ref, rfl, .of hs, ?_⟩
    refine for_it (walk_enum (xs := bs.map V.ref)) (fun i σ Hx => (∃ x3 x4 x5, σ = [some (.ref l), some (.ref wa), some (.ref la), x3, x4, x5]) ∧ Fr [l] H Hx ∧ Hx l = some (.dT (emb gP (land m (selI lot 0 (ss.take i)))))) ?_ ?_ ?_ ?_
    · exact ⟨⟨_, _, _, rfl⟩, F00, hl⟩
    · rintro i σ Hx hi ⟨_, F, _⟩
      exact .of (F.keep hs (by simpa using hlw))
    · rintro i y σ Hx H' hi ⟨⟨x3, x4, x5, rfl⟩, F, hx⟩ ⟨T1, x1, x2, rfl, nT, rfl, h1, h2⟩
      obtain rfl : V.int ((i : Nat) : Int) = x1 := Option.some.inj h1
      have h2 : (bs.map V.ref)[i]? = some x2 := h2
      rw [List.getElem?_map] at h2
      obtain ⟨b, hb1, rfl⟩ := Option.map_eq_some_iff.mp h2
      have F1 := F.transS (same_upd (o := .tup [.int ((i : Nat) : Int), .ref b]) nT)
      have hx1 : upd Hx T1 (.tup [.int ((i : Nat) : Int), .ref b]) l = some (.dT (emb gP (land m (selI lot 0 (ss.take i))))) := by rw [upd_ne (ne_of_none hx nT)]; exact hx
      obtain ⟨⟨p, v⟩, hsi, q2, hq2, hq3⟩ := Paired.get' (hb.fr F1) hb1
      have hlen : (emb gP (land m (selI lot 0 (ss.take i)))).length < sizeLine := by
        rw [emb_length]
        have h1 := length_land (selI lot 0 (ss.take i)) m
        have h2 := length_selI lot (ss.take i) 0
        have h3 : (ss.take i).length ≤ ss.length := by rw [List.length_take]; omega
        exact small1000 (by omega)
      have est : selI lot 0 (ss.take (i + 1)) = selI lot 0 (ss.take i) ++ (if i ∈ lot then [(p, v)] else []) := by
        have hil : i < ss.length := (List.getElem?_eq_some_iff.mp hsi).1
        rw [take_snoc hsi, selI_append]
        have e : 0 + (ss.take i).length = i := by rw [List.length_take]; omega
        rw [e]; rfl
      refine ⟨T1, _, rfl, .of upd_same, rfl, _, _, rfl, _, _, rfl, b, _, rfl, .of hq2, rfl, .ref q2, _, rfl, .int v, _, rfl, rfl, rfl, ?_⟩
      refine ⟨.int ((i : Nat) : Int), rfl, .ref la, rfl, la, _, rfl, .inl (.of (F1.keep hla (by simpa using hll))), rfl, ?_, ?_⟩
      · rw [List.all_eq_true]
        intro z hz
        obtain ⟨k, _, rfl⟩ := List.mem_map.mp hz
        rfl
      show ∃ k, V.bl (inV (.int ((i : Nat) : Int)) (lot.map fun k : Nat => V.int k)) = V.bl k ∧ _
      rw [inV_nat]
      refine ⟨_, rfl, ?_⟩
      by_cases hi : i ∈ lot
      · rw [decide_eq_true hi]
        refine iteT ⟨.int v, rfl, .ref l, rfl, .ref q2, rfl, l, _, rfl, DPut.t (k := gP p) hx1 hq3 hlen, ⟨_, _, _, rfl⟩, F1.step (.inl (by simp)), ?_⟩
        rw [upd_same, emb_put gP_inj, est, if_pos hi, land_snoc]
      · rw [decide_eq_false hi]
        refine iteF ⟨⟨_, _, _, rfl⟩, F1, ?_⟩
        rw [est, if_neg hi, List.append_nil]; exact hx1
    · rintro σ Hx ⟨_, F, hx⟩
      rw [List.length_map, hbl, List.take_length] at hx
      exact q _ F hx
/-! ### lots -/
def LotsAt (H : Hp) (las : List Addr) (ls : List (List Nat)) : Prop := Paired (fun a (lot : List Nat) => H a = some (.lst (lot.map fun k : Nat => V.int k))) las ls
def spLots : Sp := fun vs H Q _ => ∃ n : Nat, vs = [.int (n : Nat)] ∧ n ≤ 7 ∧ ∀ H' p las, Same H H' → H p = none → (∀ a ∈ las, H a = none) → H' p = some (.lst (las.map V.ref)) → LotsAt H' las (lots n) → Q (.ref p) H'
theorem ok_lots {f : Addr} {fd : FuncData} (D : Df K mg "_law_lots" sLots ["_law_many"] f fd) (B : Blt mg) : FnOk P w K mg base CX0 1 f fd ["_law_many"] spLots := by
  refine D.F.ok scLots (fun vs H Q E h => ?_) (fun cdv A outer s0 H vs Q E hr h => ?_)
  · obtain ⟨n, rfl, _⟩ := h; rfl
  · obtain ⟨n, rfl, hn, q⟩ := h
    refine ⟨_, pss_cons (ps_set (i := 1) scLots.nd rfl (.inl rfl) (pe_lst (pa_cons (pe_lst pa_nil) pa_nil)))
      (pss_cons (ps_for PassesOwn.never rfl (pi_range1 (by rfl) B.range (pa_cons (pv 0) pa_nil)) (pg_name (i := 2) scLots.nd rfl (Or.inr rfl))
        (pss_one (ps_set (i := 1) scLots.nd rfl (.inl rfl) (pe_op op_cat (pv 1)
          (pe_lc (own := [("_law_lot_here", 3)]) (g := gName 3) (tt := tYes) rfl scLots.nd (pi_list (pv 1)) (blkOk_by (own := [("_law_lot_here", 3)]) (N := ["_law_many", "_law_found", "_law_number", "_law_lot_here"]) (sc := defScope sLots) (by decide +kernel))
            (fun _ _ _ _ _ => pg_name (i := 3) scLots.nd rfl (Or.inl rfl)) (fun _ _ _ _ _ => pts_nil)
            (fun _ _ _ _ _ => pe_op op_cat (pv 3) (pe_lst (pa_cons (pv 2) pa_nil))))))))
      (pss_one (ps_ret (pv 1)))), ?_⟩
    refine ⟨Nat.zero_le _, fun e0 n0 => ⟨by show 1 ≤ sizeLine; decide, fun p0 np0 => ?_⟩⟩
    have S0 : Same H (upd (upd H e0 (.lst [])) p0 (.lst [.ref e0])) := same_up (same_upd n0) np0
    refine ⟨.int (n : Nat), rfl, (n : Int), rfl, by omega, by omega, ?_⟩
    rw [Int.toNat_natCast]
    refine for_range (lo := 0) (n := n) (fun i σ Hx => ∃ p las, (∃ x2 x3, σ = [some (.int (n : Nat)), some (.ref p), x2, x3]) ∧ Same H Hx ∧ H p = none ∧ (∀ a ∈ las, H a = none) ∧ Hx p = some (.lst (las.map V.ref)) ∧ LotsAt Hx las (lots i)) ?_ ?_ ?_
    · refine ⟨p0, [e0], ⟨_, _, rfl⟩, S0, (same_upd n0).free np0, by simpa using n0, upd_same, .cons ?_ .nil⟩
      rw [upd_ne (ne_of_none upd_same np0)]; exact upd_same
    · rintro i σ Hx hi ⟨p, las, ⟨x2, x3, rfl⟩, S, hpn, hlan, hp, hL⟩
      have hll : las.length = 2 ^ i := by rw [Paired.length hL, lots_length]
      have h2i : 2 ^ i ≤ 2 ^ 6 := Nat.pow_le_pow_right (by decide) (by omega)
      refine ⟨.ref p, rfl, .ref p, rfl, p, rfl, ⟨_, .of hp⟩, fun F nF => ?_⟩
      refine lc_fr (S := []) (walk_list (xs := las.map V.ref)) nF (by simp) (by simp) (by rw [List.length_map]; exact Nat.le_of_lt (small1000 (by omega)))
        (fun j acc Hy => ∃ cs : List Addr, acc = cs.map V.ref ∧ (∀ a ∈ cs, H a = none) ∧ LotsAt Hy cs (((lots i).take j).map (· ++ [i])) ∧ ∀ a ∈ cs, a ≠ F) (fun j acc Hy Hz f h => ?_) (fun j acc H' f _ => .of (f.same _ _ hp)) (fun _ _ => ⟨[], rfl, by simp, .nil, by simp⟩) ?_ ?_
      · obtain ⟨cs, rfl, h1, h2, h3⟩ := h
        refine ⟨cs, rfl, h1, ?_, h3⟩
        have key : ∀ {cs : List Addr} {ls : List (List Nat)}, LotsAt Hy cs ls → (∀ a ∈ cs, a ≠ F) → LotsAt Hz cs ls := by
          intro cs ls h
          induction h with
          | nil => intro _; exact .nil
          | cons a b ih => intro hF; exact .cons (f.keep a (by simpa using hF _ List.mem_cons_self)) (ih fun x hx => hF x (List.mem_cons_of_mem _ hx))
        exact key h2 h3
      · rintro j x H1 H2 acc hj f eF ⟨cs, rfl, hcn, hcs, hcF⟩ ⟨rfl, hx⟩ Qk Nk hq hn'
        rw [List.getElem?_map] at hx
        obtain ⟨a, ha, rfl⟩ := Option.map_eq_some_iff.mp hx
        obtain ⟨lot, hlj, hlot⟩ := Paired.get' hL ha
        have hlot2 := f.same _ _ hlot
        have hlen := lots_len (List.mem_of_getElem? hlj)
        refine ⟨rfl, yes ?_⟩
        refine ⟨.ref a, rfl, .int (0 + (i : Int)), rfl, by show 1 ≤ sizeLine; decide, fun z nz => ?_⟩
        have hz := same_upd (o := .lst [.int (0 + (i : Int))]) nz
        refine ⟨a, z, _, _, rfl, rfl, hz _ _ hlot2, upd_same, by rw [List.length_map]; exact Nat.le_of_lt (small1000 (by simp; omega)), fun y ny => ?_⟩
        have S2 := same_up (o := .lst ((lot.map fun k : Nat => V.int k) ++ [.int (0 + (i : Int))])) hz ny
        have nyH : H y = none := (S.trans f.same).free (hz.free ny)
        refine hq _ _ (.of_same S2) ⟨cs ++ [y], by rw [List.map_append]; rfl, ?_, ?_, ?_⟩
        · intro b hb
          rcases List.mem_append.mp hb with h | h
          · exact hcn b h
          · rw [show b = y by simpa using h]; exact nyH
        · rw [take_snoc hlj, List.map_append]
          refine Paired.snoc (hcs.mono fun _ _ h => S2 _ _ h) ?_
          rw [upd_same, List.map_append]
          simp
        · intro b hb
          rcases List.mem_append.mp hb with h | h
          · exact hcF b h
          · rw [show b = y by simpa using h]
            exact fun e => by rw [e, hz _ _ eF] at ny; cases ny
      · rintro H1 acc f eF _ ⟨cs, rfl, hcn, hcs, hcF⟩
        rw [List.length_map, hll, ← lots_length, List.take_length] at hcs
        have hcl := Paired.length hcs
        rw [List.length_map, lots_length] at hcl
        have S1 := S.trans f.same
        refine ⟨p, F, _, _, rfl, rfl, f.same _ _ hp, eF, by rw [List.length_map, List.length_map]; exact Nat.le_of_lt (small1000 (by omega)), fun p' np' => ?_⟩
        rw [← List.map_append]
        refine ⟨p', las ++ cs, ⟨_, _, rfl⟩, same_up S1 np', S1.free np', ?_, upd_same, ?_⟩
        · intro a ha
          rcases List.mem_append.mp ha with h | h
          · exact hlan a h
          · exact hcn a h
        · have key : ∀ {l1 : List Addr} {m1 : List (List Nat)} {l2 : List Addr} {m2 : List (List Nat)} {Hq : Hp}, LotsAt Hq l1 m1 → LotsAt Hq l2 m2 → LotsAt Hq (l1 ++ l2) (m1 ++ m2) := by
            intro l1 m1 l2 m2 Hq h1 h2
            induction h1 with
            | nil => exact h2
            | cons a b ih => exact .cons a ih
          exact key (hL.mono fun _ _ h => same_up f.same np' _ _ h) (hcs.mono fun _ _ h => same_upd np' _ _ h)
    · rintro σ Hx ⟨p, las, ⟨x2, x3, rfl⟩, S, hpn, hlan, hp, hL⟩
      exact ⟨.ref p, rfl, q _ p las S hpn hlan hp hL⟩
end
end K06
namespace K06
open PySem PySem.Spec PyProof.Rows L2
section
variable {P : Program} {w : World} {K : PySem.W.Frag} {mg : Str → Option Value} {base : Heap} {C : Addr}
/-! ### the law's kept -/
/-- what a track holds of what lies, but zeros -/
def ofTrack (m : List (Pl × Int)) (t : Int) : List (Int × Int) := (m.filter fun q => decide (q.1.1 = t) && !decide (q.2 = 0)).map fun q => (q.1.2, q.2)
theorem mem_ofTrack {m : List (Pl × Int)} {t : Int} {q : Int × Int} : q ∈ ofTrack m t ↔ ((t, q.1), q.2) ∈ m ∧ q.2 ≠ 0 := by
  unfold ofTrack
  rw [List.mem_map]
  constructor
  · rintro ⟨⟨⟨a, b⟩, v⟩, h, rfl⟩
    rw [List.mem_filter] at h
    obtain ⟨h1, h2⟩ := h
    simp at h2
    obtain ⟨rfl, h3⟩ := h2
    exact ⟨h1, h3⟩
  · rintro ⟨h1, h2⟩
    exact ⟨((t, q.1), q.2), List.mem_filter.mpr ⟨h1, by simp [h2]⟩, rfl⟩
theorem nodup_ofTrack {m : List (Pl × Int)} (hn : (keysOf m).Nodup) (t : Int) : (keysOf (ofTrack m t)).Nodup := by
  unfold ofTrack keysOf
  rw [List.map_map]
  have h1 : ((m.filter fun q => decide (q.1.1 = t) && !decide (q.2 = 0)).map (·.1)).Nodup := (List.filter_sublist.map _).nodup hn
  unfold List.Nodup at h1 ⊢
  rw [List.pairwise_map] at h1 ⊢
  refine h1.imp_of_mem fun {a b} ha hb h => ?_
  obtain ⟨_, ha⟩ := List.mem_filter.mp ha
  obtain ⟨_, hb⟩ := List.mem_filter.mp hb
  simp at ha hb
  intro z
  have z : a.1.2 = b.1.2 := z
  exact h (Prod.ext (ha.1.trans hb.1.symm) z)
theorem ofTrack_snoc (m : List (Pl × Int)) (t : Int) (x : Pl × Int) : ofTrack (m ++ [x]) t = ofTrack m t ++ (if x.1.1 = t ∧ x.2 ≠ 0 then [(x.1.2, x.2)] else []) := by
  unfold ofTrack
  rw [List.filter_append, List.map_append]
  congr 1
  rw [List.filter_cons]
  by_cases h1 : x.1.1 = t <;> by_cases h2 : x.2 = 0 <;> simp [h1, h2]
def spLKept : Sp := fun vs H Q _ => ∃ (l : Addr) (m : List (Pl × Int)) (t : Int), vs = [.ref l, .int t] ∧ H l = some (.dT (emb gP m)) ∧ (keysOf m).Nodup ∧ m.length ≤ 1000 ∧
  ∀ H' p P, Same H H' → KeptAt H' p P → P.Pairwise (fun a b => a.1 < b.1) → (∀ q, q ∈ P ↔ ((t, q.1), q.2) ∈ m ∧ q.2 ≠ 0) → Q (.ref p) H'
theorem ok_lkept {f : Addr} {fd : FuncData} (D : Df K mg "_law_kept" sLKept ["_law_lies", "_law_track"] f fd) (B : Blt mg) : FnOk P w K mg base CX0 1 f fd ["_law_lies", "_law_track"] spLKept := by
  refine D.F.ok scLKept (fun vs H Q E h => ?_) (fun cdv A outer s0 H vs Q E hr h => ?_)
  · obtain ⟨l, m, t, rfl, _⟩ := h; rfl
  · obtain ⟨l, m, t, rfl, hl, hnd, hsz, q⟩ := h
    refine ⟨_, pss_one (ps_ret (pe_callTy cr_tupleZ (by rfl) B.tuple (by decide +kernel) (pa_cons (pe_callB cr_sortedPO (by rfl) B.sorted (by decide +kernel) (pa_cons
      (pe_lock (pe_lc (own := [("_law_place", 2)]) (g := gName 2) (tt := tAnd (tTest (tOp rEq (tOp (rIxT K) (tVar 2) (tC (.int 0))) (tVar 1))) (tTest (tOp rNe (tDGet (tVar 0) (tVar 2)) (tC (.int 0)))))
          (te := tTup (tCons (tOp (rIxT K) (tVar 2) (tC (.int 1))) (tCons (tDGet (tVar 0) (tVar 2)) tNil))) rfl scLKept.nd (pi_keys (pv 0)) (blkOk_by (own := [("_law_place", 2)]) (N := ["_law_lies", "_law_track", "_law_place"]) (sc := defScope sLKept) (by decide +kernel))
          (fun _ _ _ _ _ => pg_name (i := 2) scLKept.nd rfl (Or.inl rfl))
          (fun _ _ _ _ _ => pts_one (PW.pt (pw_and (pt_cmpR op_eq (pe_ix ix_tup (pv 2) pe_int (fun _ _ => rfl)) (pv 1) (nomark _)) (pw_and1 (pt_cmpR op_ne (pe_dget (hu_of hr) (pv 0) (pv 2) (fun _ _ => rfl)) pe_int (nomark _))))))
          (fun _ _ _ _ _ => pe_tup (pa_cons (pe_ix ix_tup (pv 2) pe_int (fun _ _ => rfl)) (pa_cons (pe_dget (hu_of hr) (pv 0) (pv 2) (fun _ _ => rfl)) pa_nil))))) pa_nil)) pa_nil))), ?_⟩
    refine ⟨l, _, hl, trivial, fun od => ?_⟩
    refine ⟨.ref l, rfl, l, od, rfl, .inr ⟨_, upd_same, fun F nF => ?_⟩⟩
    have hlF : F ≠ l := fun z => by rw [z, upd_same] at nF; cases nF
    refine lc_fr (S := []) (walk_keysT (kvs := emb gP m)) nF (by simp) (by simp) (by rw [emb_length]; exact Nat.le_of_lt (small1000 hsz)) (fun i acc Hx => ∃ ps : List Addr, acc = ps.map V.ref ∧ Pr Hx ps (ofTrack (m.take i) t))
      (fun i acc Hx Hy f h => ?_) (fun i acc H' f _ => f.same _ _ upd_same) (fun _ _ => ⟨[], rfl, .nil⟩) ?_ ?_
    · obtain ⟨ps, rfl, h2⟩ := h
      exact ⟨ps, rfl, h2.mono fun _ _ z => f.tup z⟩
    · rintro i x H1 H2 acc hi f eF ⟨ps, rfl, hps⟩ ⟨rfl, k, v0, q0, hk, rfl, hq0⟩ Qk Nk hq hn
      have him : i < m.length := by rw [emb_length] at hi; exact hi
      obtain ⟨p, v, hmi⟩ : ∃ p v, m[i]? = some (p, v) := ⟨_, _, List.getElem?_eq_getElem him⟩
      have hei : (emb gP m)[i]? = some (gP p, V.int v) := by unfold emb; rw [List.getElem?_map, hmi]; rfl
      rw [hei] at hk
      obtain ⟨rfl, rfl⟩ := Prod.mk.inj (Option.some.inj hk)
      have hq1 : H2 q0 = some (.tup [.int p.1, .int p.2]) := hq0
      have hfl : H2 l = some (.frz od (.dT (emb gP m))) := f.same _ _ upd_same
      have hget : valV (emb gP m) (gP p) = some (.int v) := by
        rw [emb_look gP_inj, (look_mem hnd).mp (List.mem_of_getElem? hmi)]; rfl
      have dg : ∀ {Hx : Hp}, Fr [] H2 Hx → DGet Hx l (.ref q0) (some (.int v)) := fun f => .inr ⟨emb gP m, gP p, q0, .inr ⟨od, f.frz hfl⟩, rfl, f.tup hq0, hget.symm⟩
      have est : ofTrack (m.take (i + 1)) t = ofTrack (m.take i) t ++ (if p.1 = t ∧ v ≠ 0 then [(p.2, v)] else []) := by rw [take_snoc hmi, ofTrack_snoc]
      refine ⟨rfl, .ref q0, rfl, q0, _, 0, .int p.1, rfl, rfl, .of hq1, atI_nat (j := 0) rfl, .int t, rfl, rfl, _, rfl, ?_⟩
      have d1 : ∀ a b : Int, decide (V.int a = V.int b) = decide (a = b) := by
        intro a b
        by_cases h : a = b
        · rw [h]; simp
        · rw [decide_eq_false h, decide_eq_false (fun z => h (V.int.inj z))]
      rw [d1]
      by_cases h1 : p.1 = t
      · rw [decide_eq_true h1]
        refine iteT ⟨.ref l, rfl, .ref q0, rfl, l, .int v, rfl, dg (.refl _), rfl, _, rfl, ?_⟩
        rw [d1]
        by_cases h2 : v = 0
        · rw [decide_eq_true h2]
          refine iteF (hn _ (.refl _) ⟨ps, rfl, ?_⟩)
          rw [est, if_neg (fun z => z.2 h2), List.append_nil]; exact hps
        · rw [decide_eq_false h2]
          refine iteT ⟨.ref q0, rfl, q0, _, 1, .int p.2, rfl, rfl, .of hq1, atI_nat (j := 1) rfl, .ref l, rfl, .ref q0, rfl, l, .int v, rfl, dg (.refl _), by show 2 ≤ sizeLine; decide, fun y ny => ?_⟩
          have F2 : Fr [] H2 (upd H2 y (.tup [.int p.2, .int v])) := Fr.new ny
          refine hq _ _ F2 ⟨ps ++ [y], by rw [List.map_append]; rfl, ?_⟩
          rw [est, if_pos ⟨h1, h2⟩]
          exact Paired.snoc (hps.mono fun _ _ z => F2.tup z) upd_same
      · rw [decide_eq_false h1]
        refine iteF ?_
        refine iteF (hn _ (.refl _) ⟨ps, rfl, ?_⟩)
        rw [est, if_neg (fun z => h1 z.1), List.append_nil]; exact hps
    · rintro H1 acc f eF _ ⟨ps, rfl, hps⟩
      have hd1 : H1 l = some (.frz od (.dT (emb gP m))) := f.same _ _ upd_same
      refine ⟨hd1, ?_⟩
      rw [emb_length, List.take_length] at hps
      have S1 : Same H (upd H1 l (.dT (emb gP m))) := by
        intro b o e
        by_cases hb : b = l
        · rw [hb, upd_same, ← hl, ← hb]; exact e
        · rw [upd_ne hb]
          exact f.same _ _ (by rw [upd_ne hb]; exact e)
      have hps2 : Pr (upd H1 l (.dT (emb gP m))) ps (ofTrack m t) := hps.mono fun a _ z => by
        have : a ≠ l := fun e => by rw [e, hd1] at z; cases z
        rw [upd_ne this]; exact z
      refine ⟨F, ps.map V.ref, kOf (upd H1 l (.dT (emb gP m))), rfl, .of (by rw [upd_ne hlF]; exact eF), ?_, ?_⟩
      · intro x hx
        obtain ⟨y, hy, rfl⟩ := List.mem_map.mp hx
        obtain ⟨i, hi, e⟩ := List.getElem_of_mem hy
        obtain ⟨⟨a, b⟩, _, hb⟩ := Paired.get' hps2 (show ps[i]? = some y by rw [List.getElem?_eq_getElem hi, e])
        exact ⟨y, rfl, by rw [kOf_at hb]; exact hb⟩
      · intro ys p h1 h2 np
        obtain ⟨qs, R, rfl, hqs, hRp, hRo⟩ := sorted_pairs hps2 h1 h2.perm (nodup_ofTrack hnd t)
        refine ⟨p, _, rfl, .of upd_same, fun l2 o nl ho => ?_⟩
        have S3 := same_up (o := .frz o (.tup (qs.map V.ref))) (same_up (o := .lst (qs.map V.ref)) S1 np) nl
        have T3 : Same (upd H1 l (.dT (emb gP m))) (upd (upd (upd H1 l (.dT (emb gP m))) p (.lst (qs.map V.ref))) l2 (.frz o (.tup (qs.map V.ref)))) := same_up (same_upd np) nl
        refine q _ l2 R S3 ⟨qs, ⟨o, ho, upd_same⟩, hqs.mono fun a b z => T3 _ _ z⟩ hRo fun x => ?_
        rw [hRp.mem_iff, mem_ofTrack]
end
end K06
namespace K06
open PySem PySem.Spec PyProof.Rows L2
/-! ### data that repr shows -/
structure Good (k n : Nat) (d : PyData) : Prop where
  sh : d.showable = true
  nd : d.hasDict = false
  lv : d.leavesShort 20 = true
  dp : d.depth ≤ k
  wt : d.weight ≤ n
theorem Good.mono {k k' n n' : Nat} {d : PyData} (h : Good k n d) (hk : k ≤ k') (hn : n ≤ n') : Good k' n' d := ⟨h.sh, h.nd, h.lv, Nat.le_trans h.dp hk, Nat.le_trans h.wt hn⟩
theorem Good.len {k n : Nat} {d : PyData} (h : Good k n d) (hn : n ≤ 700000) : d.shown.length ≤ sizeLine := by
  have h1 := PyData.shown_le 20 (by decide) d h.lv
  have h2 := h.wt
  have h3 : (20 + 2) * d.weight ≤ 22 * 700000 := Nat.mul_le_mul (by decide) (by omega)
  have e : sizeLine = 16777216 := by decide
  omega
theorem good_int {i : Int} (h0 : 0 ≤ i) (h1 : i ≤ 9223372036854775807) : Good 0 64 (.int i) := by
  have hl : i.natAbs.log2 < 64 := by
    by_cases z : i.natAbs = 0
    · rw [z]; decide
    · rw [Nat.log2_lt z]
      have : i.natAbs ≤ 9223372036854775807 := by omega
      exact Nat.lt_of_le_of_lt this (by decide)
  refine ⟨?_, rfl, ?_, ?_, ?_⟩
  · simp only [PyData.showable]
    exact decide_eq_true (by omega)
  · have := toString_length_le h0 (k := 20) (by decide) (Int.lt_of_le_of_lt h1 (by decide))
    simp only [PyData.leavesShort, PyData.shown]
    exact decide_eq_true this
  · simp only [PyData.depth]; omega
  · simp only [PyData.weight]
    split
    · omega
    · omega
theorem good_all {k n : Nat} : ∀ {ds : List PyData}, (∀ d ∈ ds, Good k n d) → PyData.showableAll ds = true ∧ PyData.hasDictAll ds = false ∧ PyData.leavesShortAll 20 ds = true ∧ PyData.depthAll ds ≤ k ∧ PyData.weightAll ds ≤ (n + 1) * ds.length
  | [], _ => ⟨by simp only [PyData.showableAll], by simp only [PyData.hasDictAll], by simp only [PyData.leavesShortAll], by simp only [PyData.depthAll]; omega, by simp only [PyData.weightAll]; omega⟩
  | d :: ds, h => by
    obtain ⟨h1, h2, h3, h4, h5⟩ := good_all (ds := ds) fun x hx => h x (List.mem_cons_of_mem _ hx)
    have g := h d List.mem_cons_self
    refine ⟨?_, ?_, ?_, ?_, ?_⟩
    · simp only [PyData.showableAll, g.sh, h1, Bool.and_self]
    · simp only [PyData.hasDictAll, g.nd, h2, Bool.or_self]
    · simp only [PyData.leavesShortAll, g.lv, h3, Bool.and_self]
    · simp only [PyData.depthAll]
      have := g.dp
      omega
    · simp only [PyData.weightAll]
      have := g.wt
      rw [List.length_cons, Nat.mul_add]
      omega
theorem good_tup {k n : Nat} {ds : List PyData} (h : ∀ d ∈ ds, Good k n d) : Good (k + 1) ((n + 1) * ds.length) (.tuple ds) := by
  obtain ⟨h1, h2, h3, h4, h5⟩ := good_all h
  exact ⟨by simpa only [PyData.showable] using h1, by simpa only [PyData.hasDict] using h2, by simpa only [PyData.leavesShort] using h3, by simp only [PyData.depth]; omega, by simpa only [PyData.weight] using h5⟩
theorem good_lst {k n : Nat} {ds : List PyData} (h : ∀ d ∈ ds, Good k n d) : Good (k + 1) ((n + 1) * ds.length) (.list ds) := by
  obtain ⟨h1, h2, h3, h4, h5⟩ := good_all h
  exact ⟨by simpa only [PyData.showable] using h1, by simpa only [PyData.hasDict] using h2, by simpa only [PyData.leavesShort] using h3, by simp only [PyData.depth]; omega, by simpa only [PyData.weight] using h5⟩
def inLine (i : Int) : Prop := 0 ≤ i ∧ i ≤ 9223372036854775807
theorem good_ints {ns : List Int} (h : ∀ n ∈ ns, inLine n) : Good 1 (65 * ns.length) (dInts ns) := by
  have := good_tup (k := 0) (n := 64) (ds := ns.map PyData.int) fun d hd => by
    obtain ⟨i, hi, rfl⟩ := List.mem_map.mp hd
    exact good_int (h i hi).1 (h i hi).2
  rw [List.length_map] at this
  exact this
/-! ### what the disk tells, as data -/
def dKept (P : List (Int × Int)) : PyData := .tuple (P.map fun q => dPl q)
def dStroke (s : PlV) : PyData := .tuple [dPl s.1, .int s.2]
def dStrokes (ss : List PlV) : PyData := .tuple (ss.map dStroke)
theorem good_pl {p : Pl} (h1 : inLine p.1) (h2 : inLine p.2) : Good 1 130 (dPl p) := good_ints (ns := [p.1, p.2]) (by simp [h1, h2])
theorem good_kept {P : List (Int × Int)} (h : ∀ q ∈ P, inLine q.1 ∧ inLine q.2) : Good 2 (131 * P.length) (dKept P) := by
  have := good_tup (k := 1) (n := 130) (ds := P.map fun q => dPl q) fun d hd => by
    obtain ⟨i, hi, rfl⟩ := List.mem_map.mp hd
    exact good_pl (h i hi).1 (h i hi).2
  rw [List.length_map] at this
  exact this
def lineS (s : PlV) : Prop := inLine s.1.1 ∧ inLine s.1.2 ∧ inLine s.2
theorem good_strokes {ss : List PlV} (h : ∀ s ∈ ss, lineS s) : Good 3 (263 * ss.length) (dStrokes ss) := by
  have := good_tup (k := 2) (n := 262) (ds := ss.map dStroke) fun d hd => by
    obtain ⟨s, hs, rfl⟩ := List.mem_map.mp hd
    obtain ⟨h1, h2, h3⟩ := h s hs
    exact good_tup (k := 1) (n := 130) (ds := [dPl s.1, .int s.2]) fun d hd => by
      rcases (by simpa using hd : d = dPl s.1 ∨ d = .int s.2) with rfl | rfl
      · exact good_pl h1 h2
      · exact (good_int h3.1 h3.2).mono (by decide) (by decide)
  rw [List.length_map] at this
  exact this
section
variable {K : PySem.W.Frag} {H : Hp}
theorem dp_pairs : ∀ {ps : List Addr} {P : List (Int × Int)}, Pr H ps P → DpAll K H (ps.map V.ref) (P.map fun q => dPl q)
  | _, _, .nil => .nil
  | _, _, .cons h t => .cons (PlAt.dp h) (dp_pairs t)
theorem KeptAt.dp {p : Addr} {P : List (Int × Int)} (h : KeptAt H p P) : Dp K H (.ref p) (dKept P) := by
  obtain ⟨ps, h1, h2⟩ := h
  exact .tup h1.sq (dp_pairs h2)
theorem dp_sk : ∀ {bs : List Addr} {ss : List PlV}, Sk H bs ss → DpAll K H (bs.map V.ref) (ss.map dStroke)
  | _, _, .nil => .nil
  | _, _, .cons h t => by
    obtain ⟨c, h1, h2⟩ := h
    exact .cons (.tup (.of h1) (.cons (PlAt.dp h2) (.cons (.int _) .nil))) (dp_sk t)
end
/-! ### keyword calls -/
section
variable {K : PySem.W.Frag} {mg : Str → Option Value} {C : Addr}
theorem kb_kept {f : Addr} {fd : FuncData} (D : Md K C "kept" "Disk.kept" sKept ["self", "track"] f fd) : KBn K fd ["self", "track"] 1 ["track"] (fun us ws => us ++ ws) (fun vs zs => vs ++ zs) := by
  obtain ⟨oc, od, kV, doc, pm, an, cdv, ct, osl, rfl, lk, hcd⟩ := D.F.ex
  exact ⟨fun s us ws X l1 l2 => BindsTo.of_eq (match us, ws, l1, l2 with | [_], [_], _, _ => rfl), fun r1 r2 => r1.append r2⟩
theorem vals_rev {vs : List V} {us : List Value} (h : Vals vs us) : Vals vs.reverse us.reverse := by
  induction h with
  | nil => exact .nil
  | cons a b ih => rw [List.reverse_cons, List.reverse_cons]; exact ih.append (.cons a .nil)
theorem kb_mayLie {f : Addr} {fd : FuncData} (D : Df K mg "may_lie" sMayLie ["disk", "track", "at"] f fd) : KBn K fd ["disk", "track", "at"] 0 ["at", "track", "disk"] (fun _ ws => ws.reverse) (fun _ zs => zs.reverse) := by
  obtain ⟨oc, od, kV, doc, pm, an, cdv, ct, osl, rfl, lk, hcd⟩ := D.F.ex
  exact ⟨fun s us ws X l1 l2 => BindsTo.of_eq (match us, ws, l1, l2 with | [], [_, _, _], _, _ => rfl), fun _ r2 => vals_rev r2⟩
end
end K06
namespace K06
open PySem PySem.Spec PyProof.Rows L2
section
variable {P : Program} {w : World} {K : PySem.W.Frag} {mg : Str → Option Value} {base : Heap} {C : Addr}
/-- what the disk's dicts and the law's dict say is the same -/
def Agree (g : Gd) (m : List (Pl × Int)) : Prop := ∀ t a : Int, 0 ≤ t → t ≤ 2 → look (g t.toNat) a = look m (t, a)
structure SmallM (g : Gd) (m : List (Pl × Int)) : Prop where
  nm : (keysOf m).Nodup
  ng : ∀ i, (keysOf (g i)).Nodup
  ag : Agree g m
  lm : m.length ≤ 100
  lg : ∀ i, (g i).length ≤ 100
  li : ∀ q ∈ m, lineS q
theorem SmallM.mem {g : Gd} {m : List (Pl × Int)} (h : SmallM g m) {t : Int} (h0 : 0 ≤ t) (h2 : t ≤ 2) (q : Int × Int) : q ∈ g t.toNat ↔ ((t, q.1), q.2) ∈ m := by
  rw [look_mem (h.ng _), look_mem h.nm, h.ag t q.1 h0 h2]
theorem SmallM.kept {g : Gd} {m : List (Pl × Int)} (h : SmallM g m) {t : Int} (h0 : 0 ≤ t) (h2 : t ≤ 2) {P P' : List (Int × Int)} (k : IsKept (g t.toNat) P) (o : P'.Pairwise (fun a b => a.1 < b.1)) (k' : ∀ q, q ∈ P' ↔ ((t, q.1), q.2) ∈ m ∧ q.2 ≠ 0) : P' = P :=
  asc_uniq (fun x => Int.lt_irrefl x.1) (fun x y (a : x.1 < y.1) (b : y.1 < x.1) => by omega) o k.1 fun q => by rw [k', k.2, h.mem h0 h2]
theorem SmallM.line {g : Gd} {m : List (Pl × Int)} (h : SmallM g m) {t : Int} (h0 : 0 ≤ t) (h2 : t ≤ 2) {P : List (Int × Int)} (k : IsKept (g t.toNat) P) : ∀ q ∈ P, inLine q.1 ∧ inLine q.2 := fun q hq => by
  have := h.li _ ((h.mem h0 h2 q).mp ((k.2 q).mp hq).1)
  exact ⟨this.2.1, this.2.2⟩
def spIs (C : Addr) : Sp := fun vs H Q _ => ∃ (d c s f : Addr) (g : Gd) (ss : List PlV) (l : Addr) (m : List (Pl × Int)) (wa : Addr), vs = [.ref d, .ref l, .ref wa] ∧ DiskAt C H d c s f g ss ∧ H l = some (.dT (emb gP m)) ∧ SmallM g m ∧ StrokesAt H wa ss ∧ ss.length ≤ 100 ∧
  (∀ s ∈ ss, lineS s) ∧ ∀ H', Same H H' → Q (.bl true) H'
theorem dp_told {H : Hp} {T p0 p1 p2 p3 : Addr} {P0 P1 P2 : List (Int × Int)} {ss : List PlV} (hT : H T = some (.lst [.ref p0, .ref p1, .ref p2, .ref p3])) (k0 : KeptAt H p0 P0) (k1 : KeptAt H p1 P1) (k2 : KeptAt H p2 P2) (bs : List Addr) (h3 : H p3 = some (.tup (bs.map V.ref))) (hb : Sk H bs ss) :
    Dp K H (.ref T) (.list [dKept P0, dKept P1, dKept P2, dStrokes ss]) := .lst (.of hT) (.cons k0.dp (.cons k1.dp (.cons k2.dp (.cons (.tup (.of h3) (dp_sk hb)) .nil))))
theorem ok_is {f f1 f2 f3 : Addr} {fd fd1 fd2 fd3 : FuncData} (D : Df K mg "_law_is" sIs ["_law_disk", "_law_lies", "_law_waits"] f fd) (D1 : Md K C "kept" "Disk.kept" sKept ["self", "track"] f1 fd1) (G1 : FnOk P w K mg base CX0 5 f1 fd1 ["self", "track"] (spKept C))
    (D2 : Md K C "waiting" "Disk.waiting" sWaiting ["self"] f2 fd2) (G2 : FnOk P w K mg base CX0 1 f2 fd2 ["self"] (spWaiting C)) (D3 : Df K mg "_law_kept" sLKept ["_law_lies", "_law_track"] f3 fd3) (G3 : FnOk P w K mg base CX0 1 f3 fd3 ["_law_lies", "_law_track"] spLKept)
    (T : Kls K mg C) (B : Blt mg) : FnG P w K mg base 6 f fd ["_law_disk", "_law_lies", "_law_waits"] (spIs C) := by
  refine okG D.F scIs (fun vs H Q E h => ?_) (fun cdv A outer s0 H vs Q hgd hr h => ?_)
  · obtain ⟨d, c, s, f, g, ss, l, m, wa, rfl, _⟩ := h; rfl
  · obtain ⟨d, c, s, f, g, ss, l, m, wa, rfl, DA, hl, SM, ⟨bw, hw, hbw⟩, hsz, hli, q⟩ := h
    obtain ⟨dx, hd⟩ := DA.ins
    have hr1 := hr.mono (by decide : 1 ≤ 5)
    refine ⟨_, pss_cons (ps_set (i := 3) scIs.nd rfl (.inl rfl) (pe_lst
        (pa_cons (pe_meth (pv 0) T.cl D1.m G1 hr D1.b .nil pass0 (pa_cons pe_int pa_nil))
        (pa_cons (pe_meth (pv 0) T.cl D1.m G1 hr D1.b .nil pass0 (pa_cons pe_int pa_nil))
        (pa_cons (pe_methN0 (pv 0) T.cl D1.m G1 hr (kb_kept D1) pass0 (pk_cons pe_int pk_nil))
        (pa_cons (pe_meth0 (pv 0) T.cl D2.m G2 hr1 D2.b .nil pass0) pa_nil))))))
      (pss_one (ps_ret (pe_cmpR op_eq
        (pe_callB (call_reprD hgd hr.units) (by rfl) B.repr (by decide +kernel) (pa_cons (pv 3) pa_nil))
        (pe_callB (call_reprD hgd hr.units) (by rfl) B.repr (by decide +kernel) (pa_cons (pe_lst
          (pa_cons (pe_call G3 hr1 (by rfl) D3.g D3.F.kp D3.b .nil pass0 (pa_cons (pv 1) (pa_cons pe_int pa_nil)))
          (pa_cons (pe_call G3 hr1 (by rfl) D3.g D3.F.kp D3.b .nil pass0 (pa_cons (pv 1) (pa_cons pe_int pa_nil)))
          (pa_cons (pe_call G3 hr1 (by rfl) D3.g D3.F.kp D3.b .nil pass0 (pa_cons (pv 1) (pa_cons pe_int pa_nil)))
          (pa_cons (pe_callTy call_tuple_of (by rfl) B.tuple (by decide +kernel) (pa_cons (pv 2) pa_nil)) pa_nil))))) pa_nil)) (nomark _)))), ?_⟩
    have lg : ∀ i, (g i).length ≤ 1000 := fun i => Nat.le_trans (SM.lg i) (by decide)
    refine ⟨.ref d, rfl, d, dx, _, rfl, hd, rfl, d, c, s, f, g, ss, 0, rfl, DA, by decide, by decide, SM.ng _, lg _, fun H1 p0 P0 S1 k0 i0 l0 => ?_⟩
    have DA1 := DA.fr (.of_same S1) (by simp) (by simp) (by simp) (by simp)
    refine ⟨.ref d, rfl, d, dx, _, rfl, S1 _ _ hd, rfl, d, c, s, f, g, ss, 1, rfl, DA1, by decide, by decide, SM.ng _, lg _, fun H2 p1 P1 S2 k1 i1 l1 => ?_⟩
    have DA2 := DA1.fr (.of_same S2) (by simp) (by simp) (by simp) (by simp)
    have S12 := S1.trans S2
    refine ⟨.ref d, rfl, d, dx, _, rfl, S12 _ _ hd, rfl, rfl, d, c, s, f, g, ss, 2, rfl, DA2, by decide, by decide, SM.ng _, lg _, fun H3 p2 P2 S3 k2 i2 l2 => ?_⟩
    have DA3 := DA2.fr (.of_same S3) (by simp) (by simp) (by simp) (by simp)
    have S13 := S12.trans S3
    refine ⟨.ref d, rfl, d, dx, _, rfl, S13 _ _ hd, rfl, d, c, s, f, g, ss, rfl, DA3, fun H4 p3 bs S4 h3 hb => ?_⟩
    refine ⟨by show 4 ≤ sizeLine; decide, fun z nz => ?_⟩
    have S5 := same_upd (o := .lst [.ref p0, .ref p1, .ref p2, .ref p3]) nz
    have hdp := dp_told (K := K) (T := z) (P0 := P0) (P1 := P1) (P2 := P2) upd_same (k0.fr (.of_same (S2.trans (S3.trans (S4.trans S5))))) (k1.fr (.of_same (S3.trans (S4.trans S5)))) (k2.fr (.of_same (S4.trans S5))) bs (S5 _ _ h3) (hb.fr (.of_same S5))
    have hgood : Good 4 600000 (.list [dKept P0, dKept P1, dKept P2, dStrokes ss]) := by
      have hx := good_lst (k := 3) (n := 26300) (ds := [dKept P0, dKept P1, dKept P2, dStrokes ss]) fun d hd => by
        have e0 : ∀ {t : Int} {P : List (Int × Int)}, 0 ≤ t → t ≤ 2 → IsKept (g t.toNat) P → P.length ≤ (g t.toNat).length → Good 3 26300 (dKept P) := fun {t P} h0 h2 k l =>
          (good_kept (SM.line h0 h2 k)).mono (by decide) (by have := SM.lg t.toNat; omega)
        rcases (by simpa using hd : d = dKept P0 ∨ d = dKept P1 ∨ d = dKept P2 ∨ d = dStrokes ss) with rfl | rfl | rfl | rfl
        · exact e0 (t := 0) (by decide) (by decide) i0 l0
        · exact e0 (t := 1) (by decide) (by decide) i1 l1
        · exact e0 (t := 2) (by decide) (by decide) i2 l2
        · exact (good_strokes hli).mono (by decide) (by omega)
      exact hx.mono (by decide) (by show 26301 * 4 ≤ 600000; decide)
    have S15 : Same H (upd H4 z (.lst [.ref p0, .ref p1, .ref p2, .ref p3])) := (S13.trans S4).trans S5
    refine ⟨.ref z, rfl, z, _, rfl, hdp, hgood.sh, hgood.nd, Nat.le_trans hgood.dp (by decide), hgood.len (by decide), ?_⟩
    have lm : m.length ≤ 1000 := Nat.le_trans SM.lm (by decide)
    refine ⟨.ref l, rfl, l, m, 0, rfl, S15 _ _ hl, SM.nm, lm, fun H6 q0 R0 S6 j0 o0 n0 => ?_⟩
    refine ⟨.ref l, rfl, l, m, 1, rfl, S6 _ _ (S15 _ _ hl), SM.nm, lm, fun H7 q1 R1 S7 j1 o1 n1 => ?_⟩
    refine ⟨.ref l, rfl, l, m, 2, rfl, S7 _ _ (S6 _ _ (S15 _ _ hl)), SM.nm, lm, fun H8 q2 R2 S8 j2 o2 n2 => ?_⟩
    have S18 := ((S15.trans S6).trans S7).trans S8
    refine ⟨.ref wa, rfl, wa, _, rfl, .inl ⟨.of (S18 _ _ hw), fun y ny => ?_⟩⟩
    have S9 := same_upd (o := .tup (bw.map V.ref)) ny
    refine ⟨by show 4 ≤ sizeLine; decide, fun u nu => ?_⟩
    have S10 := same_upd (o := .lst [.ref q0, .ref q1, .ref q2, .ref y]) nu
    have S1F := (S18.trans S9).trans S10
    obtain rfl := SM.kept (t := 0) (by decide) (by decide) i0 o0 n0
    obtain rfl := SM.kept (t := 1) (by decide) (by decide) i1 o1 n1
    obtain rfl := SM.kept (t := 2) (by decide) (by decide) i2 o2 n2
    have hdp2 := dp_told (K := K) (T := u) (P0 := R0) (P1 := R1) (P2 := R2) (ss := ss) upd_same (j0.fr (.of_same (S7.trans (S8.trans (S9.trans S10))))) (j1.fr (.of_same (S8.trans (S9.trans S10)))) (j2.fr (.of_same (S9.trans S10))) bw (S10 _ _ upd_same) (hbw.fr (.of_same S1F))
    refine ⟨u, _, rfl, hdp2, hgood.sh, hgood.nd, Nat.le_trans hgood.dp (by decide), hgood.len (by decide), rfl, ?_⟩
    rw [decide_eq_true rfl]
    exact q _ S1F
end
end K06
namespace K06
open PySem PySem.Spec PyProof.Rows L2
/-! ### where the law's strokes go -/
def allPl : List Pl := [0, 1, 2].flatMap fun t => [0, 1, 3, 4, 9999999, 10000000, 77, 78].map fun a => (t, a)
theorem allPl_in : ∀ p ∈ allPl, 0 ≤ p.1 ∧ p.1 ≤ 2 ∧ 0 ≤ p.2 ∧ p.2 ≤ 10000000 := by decide +kernel
def plHash (p : Pl) : Int := reduceHash (Builtin.Tuple.tupleHashOf [hashInt p.1, hashInt p.2])
theorem plHash_is (X : Cx) (p : Pl) : tHash X (gP p) = plHash p := by
  unfold tHash plHash gP
  show tupleKeyHash _ _ = _
  unfold tupleKeyHash
  rfl
def hashList : List Int := [-8458139203682520985, -1950498447580522560, -4734289103435588629, 1773351652666409796, -5516446171260996798, 3638866490491490324, 7345047469659026764, 2451973440686330398, -5164621852614943976, 8389048192121911274, -1440771752368011620, -6333845781340707986, -2222928820193419789, 6932383841559067333, 3636207418636277110, 5745490791753907407, 4685526799349444076, 6794810172467074373, 8409376899596376432, 3516302870623680066, 3228862448786600135, -1664211580186096231, 2041969398981440209, -2851104629991256157]
theorem plHash_all : allPl.map plHash = hashList := by decide +kernel
theorem hash_nd : hashList.Nodup := by decide +kernel
theorem plHash_inj : ∀ p ∈ allPl, ∀ q ∈ allPl, plHash p = plHash q → p = q := by
  have h := hash_nd
  rw [← plHash_all] at h
  intro p hp q hq e
  obtain ⟨i, hi, rfl⟩ := List.getElem_of_mem hp
  obtain ⟨j, hj, rfl⟩ := List.getElem_of_mem hq
  have hi' : i < (allPl.map plHash).length := by rw [List.length_map]; exact hi
  have hj' : j < (allPl.map plHash).length := by rw [List.length_map]; exact hj
  have := (List.getElem_inj (h₀ := hi') (h₁ := hj') h).mp (by rw [List.getElem_map, List.getElem_map]; exact e)
  simp only [this]
theorem nodup_by (h : List Key → Int) (inj : ∀ p ∈ allPl, ∀ q ∈ allPl, h (gP p) = h (gP q) → p = q) {m : List (Pl × Int)} (hn : (keysOf m).Nodup) (ha : ∀ q ∈ m, q.1 ∈ allPl) : ((emb gP m).map fun p => h p.1).Nodup := by
  unfold emb
  rw [List.map_map]
  unfold keysOf at hn
  unfold List.Nodup at hn ⊢
  rw [List.pairwise_map] at hn ⊢
  exact hn.imp_of_mem fun {a b} h1 h2 h z => h (inj _ (ha a h1) _ (ha b h2) z)
theorem hashes (X : Cx) {m : List (Pl × Int)} (hn : (keysOf m).Nodup) (ha : ∀ q ∈ m, q.1 ∈ allPl) : ((emb gP m).map fun p => tHash X p.1).Nodup :=
  nodup_by (tHash X) (fun p hp q hq z => plHash_inj p hp q hq ((plHash_is X p).symm.trans (z.trans (plHash_is X q)))) hn ha
/-! ### what the law calls -/
structure HasF (P : Program) (w : World) (K : PySem.W.Frag) (mg : Str → Option Value) (base : Heap) (k : Nat) (x : Str) (st : Stmt) (ps : List Str) (sp : Sp) : Prop where
  ex : ∃ f fd, Df K mg x st ps f fd ∧ FnOk P w K mg base CX0 k f fd ps sp
structure HasM (P : Program) (w : World) (K : PySem.W.Frag) (mg : Str → Option Value) (base : Heap) (C : Addr) (k : Nat) (x q : Str) (st : Stmt) (ps : List Str) (sp : Sp) : Prop where
  ex : ∃ f fd, Md K C x q st ps f fd ∧ FnOk P w K mg base CX0 k f fd ps sp
structure Facts (P : Program) (w : World) (K : PySem.W.Frag) (mg : Str → Option Value) (base : Heap) (C : Addr) : Prop where
  B : Blt mg
  N : Cns mg
  T : Kls K mg C
  berth : HasF P w K mg base 1 "_law_berth" sBerth ["_law_script"] (spBerth K)
  dredge : HasF P w K mg base 1 "_law_dredge" sDredge ["_law_berth_here", "_law_many"] spDredge
  pick : HasF P w K mg base 2 "_law_pick" sPick ["_law_berth_here", "_law_some"] spPick
  land : HasF P w K mg base 1 "_law_land" sLand ["_law_lies", "_law_waits", "_law_lands"] spLand
  lots : HasF P w K mg base 1 "_law_lots" sLots ["_law_many"] spLots
  behind : HasF P w K mg base 5 "behind" sBehind ["disk", "lands"] (spBehind C)
  mayLie : HasF P w K mg base 5 "may_lie" sMayLie ["disk", "track", "at"] (spMayLie C)
  init : ∃ f fd, Md K C "__init__" "Disk.__init__" sInit ["self"] f fd ∧ Mk K C f ∧ FnOk P w K mg base CX0 1 f fd ["self"] (spInit C)
  write : HasM P w K mg base C 5 "write" "Disk.write" sWrite ["self", "track", "at", "values"] (spWrite C)
  flush : HasM P w K mg base C 3 "flush" "Disk.flush" sFlush ["self"] (spFlush C)
  is_ : ∃ f fd, Df K mg "_law_is" sIs ["_law_disk", "_law_lies", "_law_waits"] f fd ∧ FnG P w K mg base 6 f fd ["_law_disk", "_law_lies", "_law_waits"] (spIs C)
abbrev XL (P : Program) (w : World) (K : PySem.W.Frag) (mg : Str → Option Value) (base : Heap) (f : Addr) (cdv : Value) (A : Around) (outer : List Env) (s : Shared) (H : Hp) : Cx :=
  (cxOf CX0 P w K mg base nLaw "law" (defScope sLaw) f cdv A outer s H E0).nox
def lawSt (i : Nat) : Stmt := (defBody sLaw).getD i (.Pass ⟨0, 0, 0, 0⟩)
def PlsAt (H : Hp) (a : Addr) (ps : List Pl) : Prop := ∃ qs : List Addr, H a = some (.lst (qs.map V.ref)) ∧ Paired (PlAt H) qs ps
theorem PlsAt.fr {S : List Addr} {H H' : Hp} (F : Fr S H H') {a : Addr} {ps : List Pl} (h : PlsAt H a ps) (ha : a ∉ S) : PlsAt H' a ps := by
  obtain ⟨qs, h1, h2⟩ := h
  exact ⟨qs, F.keep h1 ha, h2.mono fun _ _ z => F.tup z⟩
/-- what stands while the law makes its strokes -/
structure WA (C : Addr) (H : Hp) (b l d c s f li wa : Addr) (n : Nat) (g : Gd) (ss : List PlV) (m : List (Pl × Int)) (ws : List PlV) : Prop where
  B : Berth H b l n
  D : DiskAt C H d c s f g ss
  L : H li = some (.dT (emb gP m))
  W : StrokesAt H wa ws
  ls : l ≠ s
  lw : l ≠ wa
  cw : c ≠ wa
  sw : s ≠ wa
  fl : f ≠ li
theorem WA.fr {C : Addr} {S : List Addr} {H H' : Hp} (F : Fr S H H') {b l d c s f li wa : Addr} {n : Nat} {g : Gd} {ss : List PlV} {m : List (Pl × Int)} {ws : List PlV} (h : WA C H b l d c s f li wa n g ss m ws)
    (hb : b ∉ S) (hl : l ∉ S) (hd : d ∉ S) (hc : c ∉ S) (hs : s ∉ S) (hf : f ∉ S) (hli : li ∉ S) (hw : wa ∉ S) : WA C H' b l d c s f li wa n g ss m ws :=
  ⟨h.B.fr F hb hl, h.D.fr F hd hc hs hf, F.keep h.L hli, h.W.fr F hw, h.ls, h.lw, h.cw, h.sw, h.fl⟩
theorem WA.same {C : Addr} {H H' : Hp} (S : Same H H') {b l d c s f li wa : Addr} {n : Nat} {g : Gd} {ss : List PlV} {m : List (Pl × Int)} {ws : List PlV} (h : WA C H b l d c s f li wa n g ss m ws) : WA C H' b l d c s f li wa n g ss m ws :=
  h.fr (.of_same S) (by simp) (by simp) (by simp) (by simp) (by simp) (by simp) (by simp) (by simp)
/-- who isn't who -/
structure Apart (b l d c s f li wa : Addr) : Prop where
  bl : b ≠ l
  bd : b ≠ d
  bc : b ≠ c
  bs : b ≠ s
  bf : b ≠ f
  bli : b ≠ li
  bw : b ≠ wa
  ld : l ≠ d
  lf : l ≠ f
  lli : l ≠ li
  dc : d ≠ c
  ds : d ≠ s
  df : d ≠ f
  dli : d ≠ li
  dw : d ≠ wa
  cf : c ≠ f
  cli : c ≠ li
  sf : s ≠ f
  sli : s ≠ li
  fw : f ≠ wa
  liw : li ≠ wa
theorem WA.apart {C : Addr} {H : Hp} {b l d c s f li wa : Addr} {n : Nat} {g : Gd} {ss : List PlV} {m : List (Pl × Int)} {ws : List PlV} (h : WA C H b l d c s f li wa n g ss m ws) : Apart b l d c s f li wa := by
  obtain ⟨ns, a, r, hb, hl, _⟩ := h.B
  obtain ⟨dx, hd⟩ := h.D.ins
  obtain ⟨ds, hc, _⟩ := h.D.cells
  obtain ⟨fm, hf, _⟩ := h.D.fresh
  obtain ⟨bs, hs, _⟩ := h.D.str
  obtain ⟨bw, hw, _⟩ := h.W
  have hL := h.L
  exact ⟨(h.B.nel).symm, ne_of hb hd (by intro z; cases z), (h.B.ne hc).symm, (h.B.ne hs).symm, ne_of hb hf (by intro z; cases z), ne_of hb hL (by intro z; cases z), (h.B.ne hw).symm,
    ne_of hl hd (by intro z; cases z), ne_of hl hf (by intro z; cases z), ne_of hl hL (by intro z; cases z),
    ne_of hd hc (by intro z; cases z), ne_of hd hs (by intro z; cases z), ne_of hd hf (by intro z; cases z), ne_of hd hL (by intro z; cases z), ne_of hd hw (by intro z; cases z),
    ne_of hc hf (by intro z; cases z), ne_of hc hL (by intro z; cases z), ne_of hs hf (by intro z; cases z), ne_of hs hL (by intro z; cases z), ne_of hf hw (by intro z; cases z), ne_of hL hw (by intro z; cases z)⟩
section
variable {C : Addr} {H H' : Hp} {b l d c s f li wa : Addr} {n n' : Nat} {g : Gd} {ss ss' : List PlV} {m m' : List (Pl × Int)} {ws ws' : List PlV}
theorem WA.drawn (h : WA C H b l d c s f li wa n g ss m ws) (F : Fr [b] H H') (hB : Berth H' b l n') : WA C H' b l d c s f li wa n' g ss m ws := by
  have A := h.apart
  exact ⟨hB, h.D.fr F (by simp [A.bd.symm]) (by simp [A.bc.symm]) (by simp [A.bs.symm]) (by simp [A.bf.symm]), F.keep h.L (by simp [A.bli.symm]), h.W.fr F (by simp [A.bw.symm]), h.ls, h.lw, h.cw, h.sw, h.fl⟩
theorem WA.written (h : WA C H b l d c s f li wa n g ss m ws) (F : Fr [s, f] H H') (hD : DiskAt C H' d c s f g ss') : WA C H' b l d c s f li wa n g ss' m ws := by
  have A := h.apart
  exact ⟨h.B.fr F (by simp [A.bs, A.bf]) (by simp [h.ls, A.lf]), hD, F.keep h.L (by simp [A.sli.symm, h.fl.symm]), h.W.fr F (by simp [h.sw.symm, A.fw.symm]), h.ls, h.lw, h.cw, h.sw, h.fl⟩
theorem WA.laid (h : WA C H b l d c s f li wa n g ss m ws) (F : Fr [li] H H') (hL : H' li = some (.dT (emb gP m'))) : WA C H' b l d c s f li wa n g ss m' ws := by
  have A := h.apart
  exact ⟨h.B.fr F (by simp [A.bli]) (by simp [A.lli]), h.D.fr F (by simp [A.dli]) (by simp [A.cli]) (by simp [A.sli]) (by simp [h.fl]), hL, h.W.fr F (by simp [A.liw.symm]), h.ls, h.lw, h.cw, h.sw, h.fl⟩
theorem WA.waits (h : WA C H b l d c s f li wa n g ss m ws) (F : Fr [wa] H H') (hW : StrokesAt H' wa ws') : WA C H' b l d c s f li wa n g ss m ws' := by
  have A := h.apart
  exact ⟨h.B.fr F (by simp [A.bw]) (by simp [h.lw]), h.D.fr F (by simp [A.dw]) (by simp [h.cw]) (by simp [h.sw]) (by simp [A.fw]), F.keep h.L (by simp [A.liw]), hW, h.ls, h.lw, h.cw, h.sw, h.fl⟩
end
section
variable {P : Program} {w : World} {K : PySem.W.Frag} {mg : Str → Option Value} {base : Heap} {C f0 : Addr} {cdv : Value} {A : Around} {outer : List Env} {s0 : Shared} {H0 : Hp}
theorem scl_nd : nLaw.Nodup := scLaw.nd
/-- the berth is made, then a disk, what lies, what waits -/
theorem law_st0 (X : Facts P w K mg base C) (hr : Room 6 (A.deeper (envOfC "law" (defScope sLaw) s0.heap.objs.size f0 cdv))) :
    ∃ t, PS (XL P w K mg base f0 cdv A outer s0 H0) (lawSt 0) t ∧ ∀ (D : Ends) (H : Hp) (a : Addr) (ns : List Int), SqL K H a (ns.map V.int) →
      (∀ H' b l, Same H H' → H b = none → H l = none → Berth H' b l 0 → D.nx [some (.ref a), some (.ref b), none, none, none, none, none, none, none, none, none, none, none, none, none, none, none, none, none, none] H') →
      t D (start nLaw [.ref a]) H := by
  obtain ⟨f1, fd1, D1, G1⟩ := X.berth.ex
  refine ⟨_, ps_set (i := 1) scl_nd rfl (.inr rfl) (pe_call G1 (hr.mono (by decide)) (by rfl) D1.g D1.F.kp D1.b .nil pass0 (pa_cons (pv 0) pa_nil)), ?_⟩
  intro D H a ns ha q
  exact ⟨.ref a, rfl, a, ns, rfl, ha, fun H' b l S nb nl hB => q H' b l S nb nl hB⟩
end
end K06
namespace K06
open PySem PySem.Spec PyProof.Rows L2
def g0 : Gd := fun _ => []
section
variable {P : Program} {w : World} {K : PySem.W.Frag} {mg : Str → Option Value} {base : Heap} {C f0 : Addr} {cdv : Value} {A : Around} {outer : List Env} {s0 : Shared} {H0 : Hp}
theorem law_st1 (X : Facts P w K mg base C) (hr : Room 6 (A.deeper (envOfC "law" (defScope sLaw) s0.heap.objs.size f0 cdv))) :
    ∃ t, PS (XL P w K mg base f0 cdv A outer s0 H0) (lawSt 1) t ∧ ∀ (D : Ends) (H : Hp) (a b l : Addr), Berth H b l 0 →
      (∀ H' d c s f li wa, WA C H' b l d c s f li wa 0 g0 [] [] [] →
        D.nx [some (.ref a), some (.ref b), some (.ref d), some (.ref li), some (.ref wa), none, none, none, none, none, none, none, none, none, none, none, none, none, none, none] H') →
      t D [some (.ref a), some (.ref b), none, none, none, none, none, none, none, none, none, none, none, none, none, none, none, none, none, none] H := by
  obtain ⟨f1, fd1, D1, M1, G1⟩ := X.init
  refine ⟨_, ps_par3 (i := 2) (j := 3) (l := 4) rfl scl_nd rfl rfl rfl (by decide) (by decide) (by decide) rfl rfl rfl
    (pa_cons (pe_make0 M1 G1 (hr.mono (by decide)) (by rfl) X.T.g D1.b .nil pass0) (pa_cons pe_dnewT (pa_cons (pe_lst pa_nil) pa_nil))) (by rfl), ?_⟩
  intro D H a b l hB q
  intro x dx nx ndx hdx
  have S1 : Same H (upd H dx (.own x)) := same_upd ndx
  have nx1 : upd H dx (.own x) x = none := by rw [upd_ne (Ne.symm hdx)]; exact nx
  have S2 : Same H (upd (upd H dx (.own x)) x (.ins C dx [])) := same_up S1 nx1
  refine ⟨x, dx, rfl, upd_same, fun H1 c s f F1 nc ns nf DA => ⟨rfl, ?_⟩⟩
  have B1 : Berth H1 b l 0 := (hB.fr (.of_same S2) (by simp) (by simp)).fr F1 (by
    have : b ≠ x := by
      obtain ⟨_, _, _, hb, _⟩ := hB
      intro z; rw [z, nx] at hb; cases hb
    simpa using this) (by
    have : l ≠ x := by
      obtain ⟨_, _, _, _, hl, _⟩ := hB
      intro z; rw [z, nx] at hl; cases hl
    simpa using this)
  intro li nli
  have S3 := same_upd (o := .dT []) nli
  refine ⟨Nat.zero_le _, fun wa nwa => ?_⟩
  have S4 := same_up (o := .lst []) S3 nwa
  have hl0 := hB
  obtain ⟨ns0, a0, r0, hb0, hl0, _⟩ := hB
  have hl1 := S2 _ _ hl0
  obtain ⟨_, _, _, hbB, hlB, _⟩ := B1
  obtain ⟨ds, hc, _⟩ := DA.cells
  obtain ⟨bs, hs, _⟩ := DA.str
  obtain ⟨fm, hf, _⟩ := DA.fresh
  have nwa1 : H1 wa = none := S3.free nwa
  refine ⟨_, _, _, rfl, q _ x c s f li wa ⟨?_, DA.fr (.of_same S4) (by simp) (by simp) (by simp) (by simp), ?_, ⟨[], upd_same, .nil⟩, ?_, ?_, ?_, ?_, ?_⟩⟩
  · exact Berth.fr (.of_same S4) ⟨_, _, _, hbB, hlB, by assumption⟩ (by simp) (by simp)
  · rw [upd_ne (ne_of_none upd_same nwa)]; exact upd_same
  · exact ne_of_none hl1 ns
  · exact ne_of_none hlB nwa1
  · exact ne_of_none hc nwa1
  · exact ne_of_none hs nwa1
  · exact ne_of_none hf nli
/-! ### the places -/
theorem place_of {r v e : Int} (h0 : 0 ≤ r) (h3 : r < 3) (hv : V.int v ∈ [V.int 0, V.int 3, V.int 9999999, V.int 77]) (he : e = 0 ∨ e = 1) : (r, v + e) ∈ allPl := by
  have hr : r = 0 ∨ r = 1 ∨ r = 2 := by omega
  have hv : v = 0 ∨ v = 3 ∨ v = 9999999 ∨ v = 77 := by simpa using hv
  rcases hr with rfl | rfl | rfl <;> rcases hv with rfl | rfl | rfl | rfl <;> rcases he with rfl | rfl <;> decide +kernel
theorem law_st2 (X : Facts P w K mg base C) (hr : Room 6 (A.deeper (envOfC "law" (defScope sLaw) s0.heap.objs.size f0 cdv))) :
    ∃ t, PS (XL P w K mg base f0 cdv A outer s0 H0) (lawSt 2) t ∧ ∀ (D : Ends) (H : Hp) (a b l d c s f li wa : Addr), WA C H b l d c s f li wa 0 g0 [] [] [] →
      (∀ H' ca ps, WA C H' b l d c s f li wa 9 g0 [] [] [] → PlsAt H' ca ps → 0 < ps.length → ps.length ≤ 4 → (∀ p ∈ ps, p ∈ allPl) → ca ≠ s → ca ≠ wa →
        D.nx [some (.ref a), some (.ref b), some (.ref d), some (.ref li), some (.ref wa), some (.ref ca), none, none, none, none, none, none, none, none, none, none, none, none, none, none] H') →
      t D [some (.ref a), some (.ref b), some (.ref d), some (.ref li), some (.ref wa), none, none, none, none, none, none, none, none, none, none, none, none, none, none, none] H := by
  obtain ⟨f1, fd1, D1, G1⟩ := X.dredge.ex
  obtain ⟨f2, fd2, D2, G2⟩ := X.pick.ex
  have hr1 := hr.mono (by decide : 1 ≤ 6)
  have hr2 := hr.mono (by decide : 2 ≤ 6)
  refine ⟨_, ps_setLc (i := 5) (own := [("_law_at", 18)]) (g := gName 18) (tt := tYes) rfl scl_nd rfl rfl (sw_true rfl rfl rfl (by decide +kernel))
    (pi_range1 (by rfl) X.B.range (pa_cons (pe_op op_add pe_int (pe_call G1 hr1 (by rfl) D1.g D1.F.kp D1.b .nil pass0 (pa_cons (pv 1) (pa_cons pe_int pa_nil)))) pa_nil))
    (blkOk_by (own := [("_law_at", 18)]) (N := nLaw) (sc := defScope sLaw) (by decide +kernel)) (fun _ _ _ _ _ => pg_name (i := 18) scl_nd rfl (Or.inl rfl)) (fun _ _ _ _ _ => pts_nil)
    (fun _ _ _ _ _ => pe_tup (pa_cons (pe_call G1 hr1 (by rfl) D1.g D1.F.kp D1.b .nil pass0 (pa_cons (pv 1) (pa_cons pe_int pa_nil)))
      (pa_cons (pe_op op_add (pe_call G2 hr2 (by rfl) D2.g D2.F.kp D2.b .nil pass0 (pa_cons (pv 1) (pa_cons (pe_lst (pa_cons pe_int (pa_cons pe_int (pa_cons pe_int (pa_cons pe_int pa_nil))))) pa_nil))) (pe_op op_mod (pv 18) pe_int)) pa_nil))), ?_⟩
  intro D H a b l d c s f li wa W q
  refine ⟨.ref b, rfl, b, l, 0, 4, rfl, W.B, by decide, by decide, by decide, fun H1 r F1 B1 hr0 hr4 => ?_⟩
  have W1 := W.drawn F1 B1
  refine ⟨_, r, rfl, rfl, _, rfl, by omega, by omega, fun F nF => ?_⟩
  have hbF : b ≠ F := by
    obtain ⟨_, _, _, hb, _⟩ := W1.B
    exact ne_of_none hb nF
  have hlF : l ≠ F := by
    obtain ⟨_, _, _, _, hl, _⟩ := W1.B
    exact ne_of_none hl nF
  have hn4 : (1 + r).toNat ≤ 4 := by omega
  refine lc_fr (S := [b]) (walk_range (lo := 0) (n := (1 + r).toNat)) nF (by simpa using hbF.symm) (by simpa using W1.B.soft) (Nat.le_trans hn4 (by decide))
    (fun i acc Hx => Berth Hx b l (1 + 2 * i) ∧ ∃ (qs : List Addr) (ps : List Pl), acc = qs.map V.ref ∧ ps.length = i ∧ Paired (PlAt Hx) qs ps ∧ ∀ p ∈ ps, p ∈ allPl)
    (fun i acc Hx Hy f h => ?_) (fun _ _ _ _ _ => trivial) (fun Hx S => ⟨B1.fr (.of_same S) (by simp) (by simp), [], [], rfl, rfl, .nil, by simp⟩) ?_ ?_
  · obtain ⟨h1, qs, ps, h2, h3, h4, h5⟩ := h
    exact ⟨h1.fr f (by simpa using hbF) (by simpa using hlF), qs, ps, h2, h3, h4.mono fun _ _ z => f.tup z, h5⟩
  · rintro i x H2 H3 acc hi f2' eF ⟨B2, qs, ps, rfl, hpl, hps, hal⟩ ⟨rfl, rfl⟩ Qk Nk hq hn
    refine ⟨rfl, yes ?_⟩
    refine ⟨.ref b, rfl, b, l, 1 + 2 * i, 3, rfl, B2, by omega, by decide, by decide, fun H4 r2 F4 B4 hr20 hr23 => ?_⟩
    refine ⟨.ref b, rfl, by show 4 ≤ sizeLine; decide, fun z nz => ?_⟩
    have S5 := same_upd (o := .lst [V.int 0, V.int 3, V.int 9999999, V.int 77]) nz
    have hzb : z ≠ b := by
      obtain ⟨_, _, _, hb, _⟩ := B4
      exact (ne_of_none hb nz).symm
    refine ⟨b, l, 1 + 2 * i + 1, z, _, rfl, B4.fr (.of_same S5) (by simp) (by simp), by omega, upd_same, by decide, by decide, hzb, fun H6 v F6 B6 hv => ?_⟩
    obtain ⟨vi, rfl⟩ : ∃ vi, v = .int vi := by
      rcases (by simpa using hv : v = .int 0 ∨ v = .int 3 ∨ v = .int 9999999 ∨ v = .int 77) with rfl | rfl | rfl | rfl <;> exact ⟨_, rfl⟩
    refine ⟨.int (0 + (i : Int)), rfl, 0 + (i : Int), 2, rfl, rfl, (by show (0 : Int) < 2; decide), vi, _, rfl, rfl, by show 2 ≤ sizeLine; decide, fun y ny => ?_⟩
    have F26 : Fr [b] H3 H6 := (F4.transS S5).trans2 F6
    have F27 := F26.transS (same_upd (o := .tup [.int r2, .int (vi + (0 + (i : Int)) % 2)]) ny)
    refine hq _ _ F27 ⟨(B6.fr (Fr.new ny) (by simp) (by simp)).le (by omega), qs ++ [y], ps ++ [(r2, vi + (0 + (i : Int)) % 2)], by rw [List.map_append]; rfl, by rw [List.length_append, hpl]; rfl, ?_, ?_⟩
    · exact Paired.snoc (hps.mono fun _ _ z => F27.tup z) upd_same
    · intro p hp
      rcases List.mem_append.mp hp with h | h
      · exact hal p h
      · rw [show p = _ by simpa using h]
        exact place_of hr20 hr23 hv (by omega)
  · rintro H2 acc F2 eF _ ⟨B2, qs, ps, rfl, hpl, hps, hal⟩
    have W2 := W1.drawn F2 (B2.le (m := 9) (by omega))
    have hFs : F ≠ s := by
      obtain ⟨bs, hs, _⟩ := W1.D.str
      exact (ne_of_none hs nF).symm
    have hFw : F ≠ wa := by
      obtain ⟨bs, hs, _⟩ := W1.W
      exact (ne_of_none hs nF).symm
    exact q _ F ps W2 ⟨qs, eF, hps⟩ (by omega) (by omega) hal hFs hFw
end
end K06
namespace K06
open PySem PySem.Spec PyProof.Rows L2
/-- strokes that the law makes -/
def okS (ps : List Pl) (ss : List PlV) : Prop := ∀ s ∈ ss, s.1 ∈ ps ∧ inLine s.2
theorem okS.snoc {ps : List Pl} {ss : List PlV} (h : okS ps ss) {p : Pl} {v : Int} (hp : p ∈ ps) (hv : inLine v) : okS ps (ss ++ [(p, v)]) := by
  intro s hs
  rcases List.mem_append.mp hs with z | z
  · exact h s z
  · rw [show s = (p, v) by simpa using z]; exact ⟨hp, hv⟩
section
variable {P : Program} {w : World} {K : PySem.W.Frag} {mg : Str → Option Value} {base : Heap} {C f0 : Addr} {cdv : Value} {A : Around} {outer : List Env} {s0 : Shared} {H0 : Hp}
theorem law_st3 (X : Facts P w K mg base C) (hr : Room 6 (A.deeper (envOfC "law" (defScope sLaw) s0.heap.objs.size f0 cdv))) :
    ∃ t, PS (XL P w K mg base f0 cdv A outer s0 H0) (lawSt 3) t ∧ ∀ (D : Ends) (H : Hp) (a b l d c s f li wa ca : Addr) (ps : List Pl), WA C H b l d c s f li wa 9 g0 [] [] [] → PlsAt H ca ps → ps.length ≤ 4 → (∀ p ∈ ps, p ∈ allPl) → ca ≠ s → ca ≠ wa →
      (∀ H' ss x6 x7, WA C H' b l d c s f li wa 17 g0 ss (land [] ss) [] → PlsAt H' ca ps → ss.length ≤ 4 → okS ps ss →
        D.nx [some (.ref a), some (.ref b), some (.ref d), some (.ref li), some (.ref wa), some (.ref ca), x6, x7, none, none, none, none, none, none, none, none, none, none, none, none] H') →
      t D [some (.ref a), some (.ref b), some (.ref d), some (.ref li), some (.ref wa), some (.ref ca), none, none, none, none, none, none, none, none, none, none, none, none, none, none] H := by
  obtain ⟨f1, fd1, D1, G1⟩ := X.dredge.ex
  obtain ⟨f2, fd2, D2, G2⟩ := X.pick.ex
  obtain ⟨f3, fd3, D3, G3⟩ := X.write.ex
  have hr1 := hr.mono (by decide : 1 ≤ 6)
  have hr2 := hr.mono (by decide : 2 ≤ 6)
  have hr5 := hr.mono (by decide : 5 ≤ 6)
  refine ⟨_, ps_for PassesOwn.never rfl (pi_list (pv 5)) (pg_name (i := 6) scl_nd rfl (Or.inr rfl))
    (pss_one (ps_if (pt_cmpR op_eq (pe_call G1 hr1 (by rfl) D1.g D1.F.kp D1.b .nil pass0 (pa_cons (pv 1) (pa_cons pe_int pa_nil))) pe_int (nomark _))
      (pss_cons (ps_set (i := 7) scl_nd rfl (.inl rfl) (pe_call G2 hr2 (by rfl) D2.g D2.F.kp D2.b .nil pass0 (pa_cons (pv 1) (pa_cons (pe_lst (pa_cons pe_int (pa_cons pe_int (pa_cons (pe_op op_sub (pe_op op_shl pe_int pe_int) pe_int) pa_nil)))) pa_nil))))
      (pss_cons (ps_expr (pe_meth (pv 2) X.T.cl D3.m G3 hr5 D3.b .nil pass0 (pa_cons (pe_ix ix_tup (pv 6) pe_int (fun _ _ => rfl)) (pa_cons (pe_ix ix_tup (pv 6) pe_int (fun _ _ => rfl)) (pa_cons (pe_lst (pa_cons (pv 7) pa_nil)) pa_nil)))))
      (pss_one (ps_dput (hu_of hr) (pv 3) (pv 6) (pv 7) rfl)))) pss_nil)), ?_⟩
  intro D H a b l d c s f li wa ca ps W PA hpl hal hcs hcw q
  obtain ⟨qs, hca, hqs⟩ := PA
  have hql := Paired.length hqs
  have hcab : ca ≠ b := W.B.ne hca
  have hcal : ca ≠ li := ne_of hca W.L (by intro z; cases z)
  have hcaf : ca ≠ f := by
    obtain ⟨fm, hf, _⟩ := W.D.fresh
    exact ne_of hca hf (by intro z; cases z)
  refine ⟨.ref ca, rfl, ca, rfl, ⟨_, .of hca⟩, ?_⟩
  refine for_it (walk_list (xs := qs.map V.ref)) (fun i σ Hx => ∃ ss x6 x7, σ = [some (.ref a), some (.ref b), some (.ref d), some (.ref li), some (.ref wa), some (.ref ca), x6, x7, none, none, none, none, none, none, none, none, none, none, none, none] ∧
    WA C Hx b l d c s f li wa (9 + 2 * i) g0 ss (land [] ss) [] ∧ Hx ca = some (.lst (qs.map V.ref)) ∧ Paired (PlAt Hx) qs ps ∧ ss.length ≤ i ∧ okS ps ss) ?_ ?_ ?_ ?_
  · exact ⟨[], _, _, rfl, W, hca, hqs, Nat.le_refl _, fun s hs => by cases hs⟩
  · rintro i σ Hx hi ⟨ss, x6, x7, _, _, h, _⟩
    exact .of h
  · rintro i x σ Hx H' hi ⟨ss, x6, x7, rfl, Wx, hcx, hqx, hsl, hok⟩ ⟨rfl, hx⟩
    rw [List.length_map] at hi
    rw [List.getElem?_map] at hx
    obtain ⟨q0, hq0, rfl⟩ := Option.map_eq_some_iff.mp hx
    obtain ⟨p, hpi, hp0⟩ := Paired.get' hqx hq0
    have hpm := List.mem_of_getElem? hpi
    obtain ⟨a1, a2, a3, a4⟩ := allPl_in p (hal p hpm)
    refine ⟨.ref b, rfl, b, l, _, 2, rfl, Wx.B, by omega, by decide, by decide, fun H1 r F1 B1 hr0 hr4 => ?_⟩
    have W1 := Wx.drawn F1 B1
    refine ⟨rfl, _, rfl, ite2 (fun _ => ?_) (fun _ => ?_)⟩
    · refine ⟨.ref b, rfl, 1, 63, rfl, rfl, ⟨by decide, by decide, by decide⟩, _, _, rfl, rfl, by show 3 ≤ sizeLine; decide, fun z nz => ?_⟩
      have S2 := same_upd (o := .lst [V.int 1, V.int 5, V.int (1 * 2 ^ (63 : Int).toNat - 1)]) nz
      have hzb : z ≠ b := by
        obtain ⟨_, _, _, hb, _⟩ := B1
        exact (ne_of_none hb nz).symm
      refine ⟨b, l, _, z, _, rfl, (W1.same S2).B, by omega, upd_same, by decide, by decide, hzb, fun H3 v F3 B3 hv => ?_⟩
      obtain ⟨vi, rfl, hvi⟩ : ∃ vi, v = .int vi ∧ inLine vi := by
        rcases (by simpa using hv : v = .int 1 ∨ v = .int 5 ∨ v = .int (2 ^ (63 : Int).toNat - 1)) with rfl | rfl | rfl
        · exact ⟨_, rfl, by decide, by decide⟩
        · exact ⟨_, rfl, by decide, by decide⟩
        · exact ⟨_, rfl, by decide +kernel, by decide +kernel⟩
      have W3 := (W1.same S2).drawn F3 B3
      have F03 : Fr [b] H' H3 := (F1.transS S2).trans2 F3
      have hp3 := PlAt.fr F03 hp0
      obtain ⟨dx, hd3⟩ := W3.D.ins
      refine ⟨.ref d, rfl, d, dx, _, rfl, hd3, rfl, .ref q0, rfl, q0, _, 0, .int p.1, rfl, rfl, .of hp3, atI_nat (j := 0) rfl, .ref q0, rfl, q0, _, 1, .int p.2, rfl, rfl, .of hp3, atI_nat (j := 1) rfl, .int vi, rfl, by show 1 ≤ sizeLine; decide, fun y ny => ?_⟩
      have S4 := same_upd (o := .lst [V.int vi]) ny
      have W4 := W3.same S4
      refine ⟨d, c, s, f, g0, ss, p.1, p.2, y, vi, rfl, W4.D, a1, a2, a3, a4, .inl upd_same, hvi.1, hvi.2, by omega, fun H5 F5 D5 => ?_⟩
      have W5 := W4.written F5 D5
      have hp5 := PlAt.fr F5 (PlAt.fr (.of_same S4) hp3)
      have hc5 : H5 ca = some (.lst (qs.map V.ref)) := F5.keep (S4 _ _ (F03.keep hcx (by simpa using hcab))) (by simp [hcs, hcaf])
      have hlen : (emb gP (land [] ss)).length < sizeLine := by
        rw [emb_length]
        have := length_land ss ([] : List (Pl × Int))
        exact small1000 (by simp at this; omega)
      refine ⟨.int vi, rfl, .ref li, rfl, .ref q0, rfl, li, _, rfl, DPut.t (k := gP p) W5.L hp5 hlen, ?_⟩
      have F6 : Fr [li] H5 (upd H5 li (.dT (putK (emb gP (land [] ss)) (gP p) (.int vi)))) := Fr.put (soft_dT W5.L)
      have W6 := W5.laid F6 (m' := land [] (ss ++ [(p, vi)])) (by rw [upd_same, emb_put gP_inj, land_snoc])
      refine ⟨ss ++ [(p, vi)], _, _, rfl, ?_, F6.keep hc5 (by simpa using hcal), ?_, by rw [List.length_append]; exact Nat.add_le_add hsl (Nat.le_refl 1), hok.snoc hpm hvi⟩
      · exact ⟨W6.B.le (by omega), W6.D, W6.L, W6.W, W6.ls, W6.lw, W6.cw, W6.sw, W6.fl⟩
      · exact hqx.mono fun _ _ z => PlAt.fr F6 (PlAt.fr F5 (PlAt.fr (.of_same S4) (PlAt.fr F03 z)))
    · exact ⟨ss, _, _, rfl, ⟨W1.B.le (by omega), W1.D, W1.L, W1.W, W1.ls, W1.lw, W1.cw, W1.sw, W1.fl⟩, F1.keep hcx (by simpa using hcab), hqx.mono fun _ _ z => PlAt.fr F1 z, by omega, hok⟩
  · rintro σ Hx ⟨ss, x6, x7, rfl, Wx, hcx, hqx, hsl, hok⟩
    rw [List.length_map, hql] at Wx hsl
    exact q Hx ss x6 x7 ⟨Wx.B.le (by omega), Wx.D, Wx.L, Wx.W, Wx.ls, Wx.lw, Wx.cw, Wx.sw, Wx.fl⟩ ⟨qs, hcx, hqx⟩ (by omega) hok
end
end K06
namespace K06
open PySem PySem.Spec PyProof.Rows L2
theorem okS.tracked {ps : List Pl} {ss : List PlV} (h : okS ps ss) (hal : ∀ p ∈ ps, p ∈ allPl) : tracked ss := fun s hs => by
  have := allPl_in _ (hal _ (h s hs).1)
  exact ⟨this.1, this.2.1⟩
theorem okS.line {ps : List Pl} {ss : List PlV} (h : okS ps ss) (hal : ∀ p ∈ ps, p ∈ allPl) : ∀ s ∈ ss, lineS s := fun s hs => by
  have := allPl_in _ (hal _ (h s hs).1)
  exact ⟨⟨this.1, by omega⟩, ⟨this.2.2.1, by omega⟩, (h s hs).2⟩
/-- all of the strokes, or what of them lies -/
theorem land_from {κ : Type} [DecidableEq κ] : ∀ (ss : List (κ × Int)) (m : List (κ × Int)) (q : κ × Int), q ∈ land m ss → q ∈ m ∨ q ∈ ss
  | [], m, q, h => .inl h
  | s :: ss, m, q, h => by
    rcases land_from ss (put m s.1 s.2) q h with z | z
    · unfold put at z
      split at z
      · obtain ⟨x, hx, e⟩ := List.mem_map.mp z
        by_cases hk : x.1 = s.1
        · rw [if_pos hk] at e
          right
          rw [← e, hk]; exact List.mem_cons_self
        · rw [if_neg hk] at e
          rw [← e]; exact .inl hx
      · rcases List.mem_append.mp z with y | y
        · exact .inl y
        · rw [show q = (s.1, s.2) by simpa using y]; exact .inr List.mem_cons_self
    · exact .inr (List.mem_cons_of_mem _ z)
theorem small_of {ps : List Pl} {ss : List PlV} (h : okS ps ss) (hal : ∀ p ∈ ps, p ∈ allPl) (hl : ss.length ≤ 4) : SmallM (landC g0 ss) (land [] ss) where
  nm := nodup_land .nil
  ng := nodup_landC ss g0 fun _ => .nil
  ag := fun t a h0 _ => look_landC (p := (t, a)) h0 (h.tracked hal) rfl
  lm := by
    have := length_land ss ([] : List (Pl × Int))
    simp at this; omega
  lg := fun i => by
    have := length_landC ss g0 0 (fun _ => Nat.le_refl _) i
    omega
  li := fun q hq => by
    rcases land_from ss [] q hq with z | z
    · cases z
    · exact h.line hal q z
section
variable {P : Program} {w : World} {K : PySem.W.Frag} {mg : Str → Option Value} {base : Heap} {C f0 : Addr} {cdv : Value} {A : Around} {outer : List Env} {s0 : Shared} {H0 : Hp}
theorem law_st4 (X : Facts P w K mg base C) (hr : Room 6 (A.deeper (envOfC "law" (defScope sLaw) s0.heap.objs.size f0 cdv))) :
    ∃ t, PS (XL P w K mg base f0 cdv A outer s0 H0) (lawSt 4) t ∧ ∀ (D : Ends) (H : Hp) (a b l d c s f li wa ca : Addr) (ps : List Pl) (ss : List PlV) (x6 x7 : Option V), WA C H b l d c s f li wa 17 g0 ss (land [] ss) [] → PlsAt H ca ps → ss.length ≤ 4 → okS ps ss → (∀ p ∈ ps, p ∈ allPl) → ca ≠ wa →
      (∀ H' c' s' f', WA C H' b l d c' s' f' li wa 17 (landC g0 ss) [] (land [] ss) [] → PlsAt H' ca ps → ca ≠ s' →
        D.nx [some (.ref a), some (.ref b), some (.ref d), some (.ref li), some (.ref wa), some (.ref ca), x6, x7, none, none, none, none, none, none, none, none, none, none, none, none] H') →
      t D [some (.ref a), some (.ref b), some (.ref d), some (.ref li), some (.ref wa), some (.ref ca), x6, x7, none, none, none, none, none, none, none, none, none, none, none, none] H := by
  obtain ⟨f1, fd1, D1, G1⟩ := X.flush.ex
  refine ⟨_, ps_expr (pe_meth0 (pv 2) X.T.cl D1.m G1 (hr.mono (by decide)) D1.b .nil pass0), ?_⟩
  intro D H a b l d c s f li wa ca ps ss x6 x7 W PA hl hok hal hcw q
  obtain ⟨dx, hd⟩ := W.D.ins
  have Ap := W.apart
  refine ⟨.ref d, rfl, d, dx, _, rfl, hd, rfl, d, c, s, f, g0, ss, 0, rfl, W.D, hok.tracked hal, fun _ => Nat.le_refl _, by omega, fun H' c' s' f' F nc ns nf DA => ?_⟩
  obtain ⟨qs, hca, hqs⟩ := PA
  obtain ⟨ns0, a0, r0, hb0, hl0, _⟩ := W.B
  obtain ⟨bw, hw, _⟩ := W.W
  have hcad : ca ≠ d := ne_of hca hd (by intro z; cases z)
  refine q H' c' s' f' ⟨W.B.fr F (by simp [Ap.bd]) (by simp [Ap.ld]), DA, F.keep W.L (by simp [Ap.dli.symm]), W.W.fr F (by simp [Ap.dw.symm]), ne_of_none hl0 ns, W.lw, (ne_of_none hw nc).symm, (ne_of_none hw ns).symm, (ne_of_none W.L nf).symm⟩
    ⟨qs, F.keep hca (by simp [hcad]), hqs.mono fun _ _ z => PlAt.fr F z⟩ (ne_of_none hca ns)
theorem law_st5 (X : Facts P w K mg base C) (hr : Room 6 (A.deeper (envOfC "law" (defScope sLaw) s0.heap.objs.size f0 cdv))) :
    ∃ t, PS (XL P w K mg base f0 cdv A outer s0 H0) (lawSt 5) t ∧ ∀ (D : Ends) (H : Hp) (a b l d c s f li wa ca : Addr) (ps : List Pl) (g : Gd) (m : List (Pl × Int)) (x6 x7 : Option V), WA C H b l d c s f li wa 17 g [] m [] → PlsAt H ca ps → 0 < ps.length → ps.length ≤ 4 → (∀ p ∈ ps, p ∈ allPl) → ca ≠ s → ca ≠ wa →
      (∀ H' ws x6 x7 x8, WA C H' b l d c s f li wa 100 g ws m ws → PlsAt H' ca ps → ws.length ≤ 7 → okS ps ws →
        D.nx [some (.ref a), some (.ref b), some (.ref d), some (.ref li), some (.ref wa), some (.ref ca), x6, x7, x8, none, none, none, none, none, none, none, none, none, none, none] H') →
      t D [some (.ref a), some (.ref b), some (.ref d), some (.ref li), some (.ref wa), some (.ref ca), x6, x7, none, none, none, none, none, none, none, none, none, none, none, none] H := by
  obtain ⟨f1, fd1, D1, G1⟩ := X.dredge.ex
  obtain ⟨f2, fd2, D2, G2⟩ := X.pick.ex
  obtain ⟨f3, fd3, D3, G3⟩ := X.write.ex
  have hr1 := hr.mono (by decide : 1 ≤ 6)
  have hr2 := hr.mono (by decide : 2 ≤ 6)
  have hr5 := hr.mono (by decide : 5 ≤ 6)
  refine ⟨_, ps_for PassesOwn.never rfl (pi_range1 (by rfl) X.B.range (pa_cons (pe_call G2 hr2 (by rfl) D2.g D2.F.kp D2.b .nil pass0 (pa_cons (pv 1) (pa_cons (pe_lst (pa_cons pe_int (pa_cons pe_int (pa_cons pe_int (pa_cons pe_int (pa_cons pe_int (pa_cons pe_int pa_nil))))))) pa_nil))) pa_nil)) (pg_name (i := 8) scl_nd rfl (Or.inl rfl))
    (pss_cons (ps_asg (pe_tup (pa_cons (pe_call G2 hr2 (by rfl) D2.g D2.F.kp D2.b .nil pass0 (pa_cons (pv 1) (pa_cons (pv 5) pa_nil)))
        (pa_cons (pe_call G2 hr2 (by rfl) D2.g D2.F.kp D2.b .nil pass0 (pa_cons (pv 1) (pa_cons (pe_lst (pa_cons pe_int (pa_cons pe_int (pa_cons pe_int (pa_cons pe_int (pa_cons (pe_call G1 hr1 (by rfl) D1.g D1.F.kp D1.b .nil pass0 (pa_cons (pv 1) (pa_cons pe_int pa_nil))) pa_nil)))))) pa_nil))) pa_nil)))
        (pg_tup rfl (pgs_cons (pg_name (i := 6) scl_nd rfl (Or.inr rfl)) (pgs_cons (pg_name (i := 7) scl_nd rfl (Or.inl rfl)) pgs_nil))))
    (pss_cons (ps_expr (pe_meth (pv 2) X.T.cl D3.m G3 hr5 D3.b .nil pass0 (pa_cons (pe_ix ix_tup (pv 6) pe_int (fun _ _ => rfl)) (pa_cons (pe_ix ix_tup (pv 6) pe_int (fun _ _ => rfl)) (pa_cons (pe_tup (pa_cons (pv 7) pa_nil)) pa_nil)))))
    (pss_one (ps_expr (pe_bm PySem.F.plainAttrs_list PySem.F.slot_list_append PySem.F.type_list_append mt_append (pv 4) (pa_cons (pe_tup (pa_cons (pv 6) (pa_cons (pv 7) pa_nil))) pa_nil)))))), ?_⟩
  intro D H a b l d c s f li wa ca ps g m x6 x7 W PA hp0 hp4 hal hcs hcw q
  obtain ⟨qs, hca, hqs⟩ := PA
  have hql := Paired.length hqs
  have hcab : ca ≠ b := W.B.ne hca
  have hcal : ca ≠ li := ne_of hca W.L (by intro z; cases z)
  have hcaf : ca ≠ f := by
    obtain ⟨fm, hf, _⟩ := W.D.fresh
    exact ne_of hca hf (by intro z; cases z)
  have nb : ∀ {Hx : Hp} {n : Nat} {z : Addr}, Berth Hx b l n → Hx z = none → z ≠ b := fun B nz => by
    obtain ⟨_, _, _, hb, _⟩ := B
    exact (ne_of_none hb nz).symm
  refine ⟨.ref b, rfl, by show 6 ≤ sizeLine; decide, fun z nz => ?_⟩
  have S1 := same_upd (o := .lst [V.int 4, V.int 6, V.int 2, V.int 7, V.int 0, V.int 5]) nz
  refine ⟨b, l, 17, z, _, rfl, (W.same S1).B, by decide, upd_same, by decide, by decide, nb W.B nz, fun H2 v F2 B2 hv => ?_⟩
  obtain ⟨k, rfl, hk⟩ : ∃ k : Nat, v = .int (k : Nat) ∧ k ≤ 7 := by
    rcases (by simpa using hv : v = .int 4 ∨ v = .int 6 ∨ v = .int 2 ∨ v = .int 7 ∨ v = .int 0 ∨ v = .int 5) with rfl | rfl | rfl | rfl | rfl | rfl
    · exact ⟨4, rfl, by decide⟩
    · exact ⟨6, rfl, by decide⟩
    · exact ⟨2, rfl, by decide⟩
    · exact ⟨7, rfl, by decide⟩
    · exact ⟨0, rfl, by decide⟩
    · exact ⟨5, rfl, by decide⟩
  have W2 := (W.same S1).drawn F2 B2
  have FA : Fr [b] H H2 := (Fr.mono (.of_same S1) (by simp) (by simpa using W.B.soft)).trans2 F2
  refine ⟨(k : Int), rfl, by omega, by omega, ?_⟩
  rw [Int.toNat_natCast]
  refine for_it (walk_range (lo := 0) (n := k)) (fun i σ Hx => ∃ ws x6 x7 x8, σ = [some (.ref a), some (.ref b), some (.ref d), some (.ref li), some (.ref wa), some (.ref ca), x6, x7, x8, none, none, none, none, none, none, none, none, none, none, none] ∧
    WA C Hx b l d c s f li wa (18 + 3 * i) g ws m ws ∧ Hx ca = some (.lst (qs.map V.ref)) ∧ Paired (PlAt Hx) qs ps ∧ ws.length = i ∧ okS ps ws) ?_ (fun _ _ _ _ _ => trivial) ?_ ?_
  · exact ⟨[], _, _, _, rfl, W2, FA.keep hca (by simpa using hcab), hqs.mono fun _ _ z => PlAt.fr FA z, rfl, fun s hs => by cases hs⟩
  · rintro i x σ Hx H' hi ⟨ws, x6, x7, x8, rfl, Wx, hcx, hqx, hwl, hok⟩ ⟨rfl, rfl⟩
    refine ⟨.ref b, rfl, .ref ca, rfl, b, l, _, ca, _, rfl, Wx.B, by omega, hcx, by rw [List.length_map]; omega, by rw [List.length_map]; omega, hcab, fun H3 v F3 B3 hv => ?_⟩
    obtain ⟨q0, hq0, rfl⟩ := List.mem_map.mp hv
    obtain ⟨j, hj, ej⟩ := List.getElem_of_mem hq0
    obtain ⟨p, hpi, hpq⟩ := Paired.get' hqx (show qs[j]? = some q0 by rw [List.getElem?_eq_getElem hj, ej])
    have hpm := List.mem_of_getElem? hpi
    obtain ⟨a1, a2, a3, a4⟩ := allPl_in p (hal p hpm)
    have W3 := Wx.drawn F3 B3
    refine ⟨.ref b, rfl, .ref b, rfl, b, l, _, 3, rfl, W3.B, by omega, by decide, by decide, fun H4 r F4 B4 hr0 hr3 => ?_⟩
    have W4 := W3.drawn F4 B4
    refine ⟨by show 5 ≤ sizeLine; decide, fun y ny => ?_⟩
    have S5 := same_upd (o := .lst [V.int 0, V.int 1, V.int 5, V.int 6, V.int r]) ny
    have W5 := W4.same S5
    refine ⟨b, l, _, y, _, rfl, W5.B, by omega, upd_same, (by show 0 < 5; decide), (by show 5 ≤ 1000; decide), nb W4.B ny, fun H6 v F6 B6 hv6 => ?_⟩
    obtain ⟨vi, rfl, hvi⟩ : ∃ vi, v = .int vi ∧ inLine vi := by
      rcases (by simpa using hv6 : v = .int 0 ∨ v = .int 1 ∨ v = .int 5 ∨ v = .int 6 ∨ v = .int r) with rfl | rfl | rfl | rfl | rfl
      · exact ⟨_, rfl, by decide, by decide⟩
      · exact ⟨_, rfl, by decide, by decide⟩
      · exact ⟨_, rfl, by decide, by decide⟩
      · exact ⟨_, rfl, by decide, by decide⟩
      · exact ⟨_, rfl, by omega, by omega⟩
    have W6 := W5.drawn F6 B6
    have FB : Fr [b] H' H6 := ((F3.trans2 F4).transS S5).trans2 F6
    have hc6 := FB.keep hcx (by simpa using hcab)
    have hp6 := PlAt.fr FB hpq
    refine ⟨by show 2 ≤ sizeLine; decide, fun T nT => ?_⟩
    have S7 := same_upd (o := .tup [.ref q0, .int vi]) nT
    have W7 := W6.same S7
    refine ⟨T, _, rfl, .of upd_same, rfl, _, _, rfl, _, _, rfl, rfl, ?_⟩
    have hp7 := PlAt.fr (.of_same S7) hp6
    obtain ⟨dx, hd7⟩ := W7.D.ins
    refine ⟨.ref d, rfl, d, dx, _, rfl, hd7, rfl, .ref q0, rfl, q0, _, 0, .int p.1, rfl, rfl, .of hp7, atI_nat (j := 0) rfl, .ref q0, rfl, q0, _, 1, .int p.2, rfl, rfl, .of hp7, atI_nat (j := 1) rfl, .int vi, rfl, by show 1 ≤ sizeLine; decide, fun u nu => ?_⟩
    have S8 := same_upd (o := .tup [V.int vi]) nu
    have W8 := W7.same S8
    refine ⟨d, c, s, f, g, ws, p.1, p.2, u, vi, rfl, W8.D, a1, a2, a3, a4, .inr upd_same, hvi.1, hvi.2, by omega, fun H9 F9 D9 => ?_⟩
    have W9 := W8.written F9 D9
    have FC : Fr [] H6 (upd (upd H6 T (.tup [.ref q0, .int vi])) u (.tup [V.int vi])) := .of_same (S7.trans S8)
    have hc9 : H9 ca = some (.lst (qs.map V.ref)) := F9.keep (FC.keep hc6 (by simp)) (by simp [hcs, hcaf])
    have hp9 := PlAt.fr F9 (PlAt.fr FC hp6)
    obtain ⟨bw, hw9, hbw⟩ := W9.W
    have hbwl := Paired.length hbw
    refine ⟨.ref wa, rfl, .inl ⟨rfl, _, .of hw9⟩, .ref q0, rfl, .int vi, rfl, by show 2 ≤ sizeLine; decide, fun e ne => ?_⟩
    have S10 := same_upd (o := .tup [.ref q0, .int vi]) ne
    have W10 := W9.same S10
    have hw10 := S10 _ _ hw9
    refine ⟨wa, bw.map V.ref, .ref e, rfl, rfl, hw10, by rw [List.length_map, hbwl]; exact small1000 (by omega), ?_⟩
    have F11 : Fr [wa] (upd H9 e (.tup [.ref q0, .int vi])) (upd (upd H9 e (.tup [.ref q0, .int vi])) wa (.lst (bw.map V.ref ++ [.ref e]))) := Fr.put (soft_lst hw10)
    have hW : StrokesAt (upd (upd H9 e (.tup [.ref q0, .int vi])) wa (.lst (bw.map V.ref ++ [.ref e]))) wa (ws ++ [(p, vi)]) := by
      refine ⟨bw ++ [e], by rw [upd_same, List.map_append]; rfl, Paired.snoc ((hbw.fr (.of_same S10)).fr F11) ⟨q0, F11.tup upd_same, F11.tup (PlAt.fr (.of_same S10) hp9)⟩⟩
    have W11 := W10.waits F11 hW
    refine ⟨ws ++ [(p, vi)], _, _, _, rfl, ⟨W11.B.le (by omega), W11.D, W11.L, W11.W, W11.ls, W11.lw, W11.cw, W11.sw, W11.fl⟩, F11.keep (S10 _ _ hc9) (by simpa using hcw), ?_, by rw [List.length_append, hwl]; rfl, hok.snoc hpm hvi⟩
    exact hqx.mono fun _ _ z => PlAt.fr F11 (PlAt.fr (.of_same S10) (PlAt.fr F9 (PlAt.fr FC (PlAt.fr FB z))))
  · rintro σ Hx ⟨ws, x6, x7, x8, rfl, Wx, hcx, hqx, hwl, hok⟩
    exact q Hx ws x6 x7 x8 ⟨Wx.B.le (by omega), Wx.D, Wx.L, Wx.W, Wx.ls, Wx.lw, Wx.cw, Wx.sw, Wx.fl⟩ ⟨qs, hcx, hqx⟩ (by omega) hok
end
end K06
namespace K06
open PySem PySem.Spec PyProof.Rows L2
theorem mergeT_keys {κ : Type} [DecidableEq κ] {g : κ → List Key} (hg : ∀ a b, g a = g b → a = b) : ∀ (ks l : List κ), mergeT (embT g l) (ks.map fun k => (g k, V.bl true)) = embT g (ks.foldl addK l)
  | [], l => rfl
  | k :: ks, l => by
    have ih := mergeT_keys hg ks (addK l k)
    rw [List.map_cons]
    show mergeT (putK (embT g l) (g k) (.bl true)) _ = _
    rw [embT_put hg, ih]; rfl
theorem perm_pairs {H : Hp} {ps : List Addr} {L : List (Int × Int)} (hp : Pr H ps L) {ys : List V} (h2 : ys.Perm (ps.map V.ref)) :
    ∃ (qs : List Addr) (R : List (Int × Int)), ys = qs.map V.ref ∧ Pr H qs R ∧ R.Perm L := by
  have hk : (ps.map V.ref).map (kOf H) = L := by
    clear h2
    induction hp with
    | nil => rfl
    | cons h t ih => rw [List.map_cons, List.map_cons, ih, kOf_at h]
  have hall : ∀ y ∈ ys, ∃ t, y = V.ref t ∧ H t = some (.tup [.int (kOf H y).1, .int (kOf H y).2]) := by
    intro y hy
    obtain ⟨t, ht, rfl⟩ := List.mem_map.mp (h2.mem_iff.mp hy)
    obtain ⟨i, hi, e⟩ := List.getElem_of_mem ht
    obtain ⟨⟨a, b⟩, _, hb⟩ := Paired.get' hp (show ps[i]? = some t by rw [List.getElem?_eq_getElem hi, e])
    exact ⟨t, rfl, by rw [kOf_at hb]; exact hb⟩
  have hperm : (ys.map (kOf H)).Perm L := by rw [← hk]; exact h2.map _
  have hR : Pr H (ys.map fun y => match y with | .ref t => t | _ => 0) (ys.map (kOf H)) ∧ ys = (ys.map fun y => match y with | .ref t => t | _ => 0).map V.ref := by
    clear h2 hperm
    induction ys with
    | nil => exact ⟨.nil, rfl⟩
    | cons y ys ih =>
      obtain ⟨t, rfl, ht⟩ := hall y List.mem_cons_self
      obtain ⟨i1, i2⟩ := ih fun z hz => hall z (List.mem_cons_of_mem _ hz)
      exact ⟨.cons ht i1, by rw [List.map_cons, List.map_cons, ← i2]⟩
  exact ⟨_, _, hR.2, hR.1, hperm⟩
/-- what stands while the law tells what may lie -/
structure WB (C : Addr) (H : Hp) (d c s f li wa pa : Addr) (g : Gd) (ws : List PlV) (m : List (Pl × Int)) (ps : List Pl) : Prop where
  D : DiskAt C H d c s f g ws
  L : H li = some (.dT (emb gP m))
  W : StrokesAt H wa ws
  Q : PlsAt H pa ps
  fl : f ≠ li
theorem WB.fr {C : Addr} {S : List Addr} {H H' : Hp} (F : Fr S H H') {d c s f li wa pa : Addr} {g : Gd} {ws : List PlV} {m : List (Pl × Int)} {ps : List Pl} (h : WB C H d c s f li wa pa g ws m ps)
    (hd : d ∉ S) (hc : c ∉ S) (hs : s ∉ S) (hf : f ∉ S) (hli : li ∉ S) (hw : wa ∉ S) (hp : pa ∉ S) : WB C H' d c s f li wa pa g ws m ps :=
  ⟨h.D.fr F hd hc hs hf, F.keep h.L hli, h.W.fr F hw, h.Q.fr F hp, h.fl⟩
theorem WB.same {C : Addr} {H H' : Hp} (S : Same H H') {d c s f li wa pa : Addr} {g : Gd} {ws : List PlV} {m : List (Pl × Int)} {ps : List Pl} (h : WB C H d c s f li wa pa g ws m ps) : WB C H' d c s f li wa pa g ws m ps :=
  h.fr (.of_same S) (by simp) (by simp) (by simp) (by simp) (by simp) (by simp) (by simp)
/-- a dict of tuples, or a thing of another kind, changes: all of this stays -/
theorem WB.other {C : Addr} {H H' : Hp} {x : Addr} (F : Fr [x] H H') {d c s f li wa pa : Addr} {g : Gd} {ws : List PlV} {m : List (Pl × Int)} {ps : List Pl} (h : WB C H d c s f li wa pa g ws m ps)
    (hx : (∃ kvs, H x = some (.dT kvs)) ∨ ∃ φ, H x = some (.ext φ)) (hf : f ≠ x) (hl : li ≠ x) : WB C H' d c s f li wa pa g ws m ps := by
  obtain ⟨dx, hd⟩ := h.D.ins
  obtain ⟨ds, hc, _⟩ := h.D.cells
  obtain ⟨bs, hs, _⟩ := h.D.str
  obtain ⟨bw, hw, _⟩ := h.W
  obtain ⟨qs, hp, _⟩ := h.Q
  have k : ∀ {y : Addr} {o : HO}, H y = some o → (∀ kvs, o ≠ .dT kvs) → (∀ φ, o ≠ .ext φ) → y ≠ x := by
    intro y o h1 h2 h3
    rcases hx with ⟨kvs, z⟩ | ⟨φ, z⟩
    · exact ne_of h1 z (h2 kvs)
    · exact ne_of h1 z (h3 φ)
  refine h.fr F ?_ ?_ ?_ (by simpa using hf) (by simpa using hl) ?_ ?_
  · simpa using k hd (fun _ z => nomatch z) (fun _ z => nomatch z)
  · simpa using k hc (fun _ z => nomatch z) (fun _ z => nomatch z)
  · simpa using k hs (fun _ z => nomatch z) (fun _ z => nomatch z)
  · simpa using k hw (fun _ z => nomatch z) (fun _ z => nomatch z)
  · simpa using k hp (fun _ z => nomatch z) (fun _ z => nomatch z)
section
variable {P : Program} {w : World} {K : PySem.W.Frag} {mg : Str → Option Value} {base : Heap} {C f0 : Addr} {cdv : Value} {A : Around} {outer : List Env} {s0 : Shared} {H0 : Hp}
theorem law_st6 (X : Facts P w K mg base C) (hr : Room 6 (A.deeper (envOfC "law" (defScope sLaw) s0.heap.objs.size f0 cdv))) :
    ∃ t, PS (XL P w K mg base f0 cdv A outer s0 H0) (lawSt 6) t ∧ ∀ (D : Ends) (H : Hp) (a b l d c s f li wa ca : Addr) (ps : List Pl) (g : Gd) (m : List (Pl × Int)) (ws : List PlV) (x6 x7 x8 : Option V), WA C H b l d c s f li wa 100 g ws m ws → PlsAt H ca ps → ps.length ≤ 4 →
      (∀ H' pa me al ps', WB C H' d c s f li wa pa g ws m ps' → ps'.Nodup → (∀ p, p ∈ ps' ↔ p ∈ ps) → ps'.length ≤ 4 → H' me = some (.dT (embT gL [])) → H' al = some (ND P w al []) → f ≠ me → li ≠ me →
        D.nx [some (.ref a), some (.ref b), some (.ref d), some (.ref li), some (.ref wa), some (.ref ca), x6, x7, x8, some (.ref pa), some (.ref me), some (.ref al), none, none, none, none, none, none, none, none] H') →
      t D [some (.ref a), some (.ref b), some (.ref d), some (.ref li), some (.ref wa), some (.ref ca), x6, x7, x8, none, none, none, none, none, none, none, none, none, none, none] H := by
  refine ⟨_, ps_par3 (i := 9) (j := 10) (l := 11) rfl scl_nd rfl rfl rfl (by decide) (by decide) (by decide) rfl rfl rfl
    (pa_cons (pe_callB cr_sortedPO (by rfl) X.B.sorted (by decide +kernel) (pa_cons (pe_callTy (cr_listT rfl) (by rfl) X.B.list (by decide +kernel) (pa_cons (pe_callTy (cr_dictPT rfl hr.units) (by rfl) X.B.dict (by decide +kernel) (pa_cons
        (pe_lc (own := [("_law_place", 6)]) (g := gName 6) (tt := tYes) rfl scl_nd (pi_list (pv 5)) (blkOk_by (own := [("_law_place", 6)]) (N := nLaw) (sc := defScope sLaw) (by decide +kernel))
          (fun _ _ _ _ _ => pg_name (i := 6) scl_nd rfl (Or.inl rfl)) (fun _ _ _ _ _ => pts_nil) (fun _ _ _ _ _ => pe_tup (pa_cons (pv 6) (pa_cons pe_bl pa_nil)))) pa_nil)) pa_nil)) pa_nil))
      (pa_cons pe_dnewT (pa_cons pe_dnewN pa_nil))) (by rfl), ?_⟩
  intro D H a b l d c s f li wa ca ps g m ws x6 x7 x8 W PA hp4 q
  obtain ⟨qs, hca, hqs⟩ := PA
  have hql := Paired.length hqs
  refine ⟨.ref ca, rfl, ca, rfl, ⟨_, .of hca⟩, fun F nF => ?_⟩
  refine lc_fr (S := []) (walk_list (xs := qs.map V.ref)) nF (by simp) (by simp) (by rw [List.length_map, hql]; exact Nat.le_of_lt (small1000 (by omega)))
    (fun i acc Hx => ∃ ts : List Addr, acc = ts.map V.ref ∧ Paired (PrT Hx) ts ((ps.take i).map fun p => (gP p, V.bl true))) (fun i acc Hx Hy f h => ?_) (fun i acc H' f _ => .of (f.same _ _ hca)) (fun _ _ => ⟨[], rfl, .nil⟩) ?_ ?_
  · obtain ⟨ts, rfl, h⟩ := h
    exact ⟨ts, rfl, h.mono fun _ _ ⟨b, h1, h2⟩ => ⟨b, f.tup h1, f.tup h2⟩⟩
  · rintro i x H1 H2 acc hi f1 eF ⟨ts, rfl, hts⟩ ⟨rfl, hx⟩ Qk Nk hq hn
    rw [List.getElem?_map] at hx
    obtain ⟨q0, hq0, rfl⟩ := Option.map_eq_some_iff.mp hx
    obtain ⟨p, hpi, hp0⟩ := Paired.get' hqs hq0
    refine ⟨rfl, yes ?_⟩
    refine ⟨.ref q0, rfl, by show 2 ≤ sizeLine; decide, fun y ny => ?_⟩
    have F2 : Fr [] H2 (upd H2 y (.tup [.ref q0, .bl true])) := Fr.new ny
    refine hq _ _ F2 ⟨ts ++ [y], by rw [List.map_append]; rfl, ?_⟩
    rw [take_snoc hpi, List.map_append]
    exact Paired.snoc (hts.mono fun _ _ ⟨b, h1, h2⟩ => ⟨b, F2.tup h1, F2.tup h2⟩) ⟨q0, upd_same, F2.tup (f1.tup hp0)⟩
  · rintro H1 acc f1 eF _ ⟨ts, rfl, hts⟩
    rw [List.length_map, hql, List.take_length] at hts
    refine ⟨F, ts, _, rfl, eF, hts, fun p1 n1 => ?_⟩
    have e1 : mergeT [] (ps.map fun p => (gP p, V.bl true)) = embT gP (ps.foldl addK []) := mergeT_keys gP_inj ps []
    rw [e1]
    have S1 : Same H (upd H1 p1 (.dT (embT gP (ps.foldl addK [])))) := same_up f1.same n1
    refine ⟨p1, _, rfl, upd_same, fun p2 bs n2 hbs => ?_⟩
    have hbs' : Pr (upd H1 p1 (.dT (embT gP (ps.foldl addK [])))) bs (ps.foldl addK []) := by
      generalize ps.foldl addK [] = L at hbs ⊢
      have : ∀ {bs : List Addr} {L : List Pl} {Hx : Hp}, Paired (fun b (kv : List Key × V) => Hx b = some (.tup (kv.1.map kV))) bs (embT gP L) → Pr Hx bs L := by
        intro bs L Hx h
        induction L generalizing bs with
        | nil => cases h; exact .nil
        | cons p L ih =>
          cases h with
          | cons h t => exact .cons h (ih t)
      exact this hbs
    have S2 := same_up (o := .lst (bs.map V.ref)) S1 n2
    have hbs2 : Pr (upd (upd H1 p1 (.dT (embT gP (ps.foldl addK [])))) p2 (.lst (bs.map V.ref))) bs (ps.foldl addK []) := Paired.mono (fun _ _ z => same_upd n2 _ _ z) hbs'
    refine ⟨p2, _, kOf (upd (upd H1 p1 (.dT (embT gP (ps.foldl addK [])))) p2 (.lst (bs.map V.ref))), rfl, .of upd_same, ?_, fun ys pa h1 h2 npa => ?_⟩
    · intro x hx
      obtain ⟨y, hy, rfl⟩ := List.mem_map.mp hx
      obtain ⟨i, hi, e⟩ := List.getElem_of_mem hy
      obtain ⟨⟨a, b⟩, _, hb⟩ := Paired.get' hbs2 (show bs[i]? = some y by rw [List.getElem?_eq_getElem hi, e])
      exact ⟨y, rfl, by rw [kOf_at hb]; exact hb⟩
    · obtain ⟨rs, R, rfl, hrs, hR⟩ := perm_pairs hbs2 h2.perm
      have S3 := same_up (o := .lst (rs.map V.ref)) S2 npa
      intro me nme
      have S4 := same_up (o := .dT []) S3 nme
      intro al nal
      have S5 := same_up (o := ND P w al []) S4 nal
      have hfm : f ≠ me := by
        obtain ⟨fm, hf, _⟩ := W.D.fresh
        exact ne_of_none (S3 _ _ hf) nme
      refine ⟨_, _, _, rfl, q _ pa me al R ⟨W.D.fr (.of_same S5) (by simp) (by simp) (by simp) (by simp), S5 _ _ W.L, W.W.fr (.of_same S5) (by simp), ⟨rs, ?_, ?_⟩, W.fl⟩ ?_ ?_ ?_ ?_ upd_same hfm (ne_of_none (S3 _ _ W.L) nme)⟩
      · exact same_upd nal _ _ (same_upd nme _ _ upd_same)
      · exact hrs.mono fun _ _ z => same_upd nal _ _ (same_upd nme _ _ (same_upd npa _ _ z))
      · exact hR.nodup_iff.mpr (nodup_addAll .nil)
      · intro p
        rw [hR.mem_iff, mem_addAll]; simp
      · rw [hR.length_eq]
        have := length_addAll ps ([] : List Pl)
        simp at this; omega
      · exact same_upd nal _ _ upd_same
end
end K06
namespace K06
open PySem PySem.Spec PyProof.Rows L2
def forBody : Stmt → List Stmt
  | .For _ _ b _ _ => b
  | _ => []
def lawIn (i j : Nat) : Stmt := (forBody (lawSt i)).getD j (.Pass ⟨0, 0, 0, 0⟩)
abbrev s7 (a b d li wa ca pa me al : Addr) (x6 x7 x8 x12 x13 x14 x15 : Option V) : L2.St :=
  [some (.ref a), some (.ref b), some (.ref d), some (.ref li), some (.ref wa), some (.ref ca), x6, x7, x8, some (.ref pa), some (.ref me), some (.ref al), x12, x13, x14, x15, none, none, none, none]
section
variable {P : Program} {w : World} {K : PySem.W.Frag} {mg : Str → Option Value} {base : Heap} {C f0 : Addr} {cdv : Value} {A : Around} {outer : List Env} {s0 : Shared} {H0 : Hp}
theorem law_in0 (X : Facts P w K mg base C) (hr : Room 6 (A.deeper (envOfC "law" (defScope sLaw) s0.heap.objs.size f0 cdv))) :
    ∃ t, PS (XL P w K mg base f0 cdv A outer s0 H0) (lawIn 7 0) t ∧ ∀ (D : Ends) (H : Hp) (a b d li wa ca pa me al : Addr) (x6 x7 x8 x12 x13 x14 x15 : Option V) (m : List (Pl × Int)), H li = some (.dT (emb gP m)) → (keysOf m).Nodup → (∀ q ∈ m, q.1 ∈ allPl) →
      (∀ H' lf, Same H H' → H lf = none → H' lf = some (.dT (emb gP m)) → D.nx (s7 a b d li wa ca pa me al x6 x7 x8 x12 (some (.ref lf)) x14 x15) H') → t D (s7 a b d li wa ca pa me al x6 x7 x8 x12 x13 x14 x15) H := by
  refine ⟨_, ps_set (i := 13) scl_nd rfl (.inr rfl) (pe_callTy (cr_dictT hr.units) (by rfl) X.B.dict (by decide +kernel) (pa_cons (pv 3) pa_nil)), ?_⟩
  intro D H a b d li wa ca pa me al x6 x7 x8 x12 x13 x14 x15 m hL hn ha q
  exact ⟨.ref li, rfl, li, emb gP m, rfl, hL, hashes _ hn ha, fun p np => q _ p (same_upd np) np upd_same⟩
theorem law_in1 (X : Facts P w K mg base C) (hr : Room 6 (A.deeper (envOfC "law" (defScope sLaw) s0.heap.objs.size f0 cdv))) :
    ∃ t, PS (XL P w K mg base f0 cdv A outer s0 H0) (lawIn 7 1) t ∧ ∀ (D : Ends) (H : Hp) (a b d li wa ca pa me al la lf : Addr) (x6 x7 x8 x14 x15 : Option V) (m : List (Pl × Int)) (ws : List PlV) (lot : List Nat), H lf = some (.dT (emb gP m)) → StrokesAt H wa ws → H la = some (.lst (lot.map fun k : Nat => V.int k)) → m.length + ws.length ≤ 1000 →
      (∀ H', Fr [lf] H H' → H' lf = some (.dT (emb gP (land m (selI lot 0 ws)))) → D.nx (s7 a b d li wa ca pa me al x6 x7 x8 (some (.ref la)) (some (.ref lf)) x14 x15) H') → t D (s7 a b d li wa ca pa me al x6 x7 x8 (some (.ref la)) (some (.ref lf)) x14 x15) H := by
  obtain ⟨f1, fd1, D1, G1⟩ := X.land.ex
  refine ⟨_, ps_expr (pe_call G1 (hr.mono (by decide)) (by rfl) D1.g D1.F.kp D1.b .nil pass0 (pa_cons (pv 13) (pa_cons (pv 4) (pa_cons (pv 12) pa_nil)))), ?_⟩
  intro D H a b d li wa ca pa me al la lf x6 x7 x8 x14 x15 m ws lot hlf hW hla hsz q
  exact ⟨.ref lf, rfl, .ref wa, rfl, .ref la, rfl, lf, m, wa, ws, la, lot, rfl, hlf, hW, hla, hsz, fun H' F h => q H' F h⟩
theorem getD_lookP (m : List (Pl × Int)) (p : Pl) : (valV (emb gP m) (gP p)).getD (V.int 0) = V.int (val m p) := by
  rw [emb_look gP_inj]
  unfold val
  cases look m p <;> rfl
theorem law_in2 (X : Facts P w K mg base C) (hr : Room 6 (A.deeper (envOfC "law" (defScope sLaw) s0.heap.objs.size f0 cdv))) :
    ∃ t, PS (XL P w K mg base f0 cdv A outer s0 H0) (lawIn 7 2) t ∧ ∀ (D : Ends) (H : Hp) (a b d li wa ca pa me al lf : Addr) (x6 x7 x8 x12 x14 x15 : Option V) (m : List (Pl × Int)) (ps : List Pl), H lf = some (.dT (emb gP m)) → PlsAt H pa ps → ps.length ≤ 4 →
      (∀ H' ta, Same H H' → H ta = none → H' ta = some (.tup ((ps.map (val m)).map V.int)) → D.nx (s7 a b d li wa ca pa me al x6 x7 x8 x12 (some (.ref lf)) (some (.ref ta)) x15) H') → t D (s7 a b d li wa ca pa me al x6 x7 x8 x12 (some (.ref lf)) x14 x15) H := by
  refine ⟨_, ps_set (i := 14) scl_nd rfl (.inl rfl) (pe_callTy call_tuple_of (by rfl) X.B.tuple (by decide +kernel) (pa_cons
      (pe_lc (own := [("_law_place", 6)]) (g := gName 6) (tt := tYes) rfl scl_nd (pi_list (pv 9)) (blkOk_by (own := [("_law_place", 6)]) (N := nLaw) (sc := defScope sLaw) (by decide +kernel))
          (fun _ _ _ _ _ => pg_name (i := 6) scl_nd rfl (Or.inl rfl)) (fun _ _ _ _ _ => pts_nil) (fun _ _ _ _ _ => pe_dget2 (hu_of hr) (pv 13) (pv 6) pe_int ⟨rfl, rfl, rfl, rfl⟩)) pa_nil)), ?_⟩
  intro D H a b d li wa ca pa me al lf x6 x7 x8 x12 x14 x15 m ps hlf PA hp4 q
  obtain ⟨qs, hpa, hqs⟩ := PA
  have hql := Paired.length hqs
  refine ⟨.ref pa, rfl, pa, rfl, ⟨_, .of hpa⟩, fun F nF => ?_⟩
  refine lc_fr (S := []) (walk_list (xs := qs.map V.ref)) nF (by simp) (by simp) (by rw [List.length_map, hql]; exact Nat.le_of_lt (small1000 (by omega)))
    (fun i acc Hx => acc = ((ps.take i).map (val m)).map V.int) (fun i acc Hx Hy f h => h) (fun i acc H' f _ => .of (f.same _ _ hpa)) (fun _ _ => rfl) ?_ ?_
  · rintro i x H1 H2 acc hi f1 eF rfl ⟨rfl, hx⟩ Qk Nk hq hn
    rw [List.getElem?_map] at hx
    obtain ⟨q0, hq0, rfl⟩ := Option.map_eq_some_iff.mp hx
    obtain ⟨p, hpi, hp0⟩ := Paired.get' hqs hq0
    have hl2 := f1.same _ _ hlf
    refine ⟨rfl, yes ?_⟩
    refine ⟨.ref lf, rfl, lf, rfl, .inr ⟨_, .inl hl2⟩, .ref q0, rfl, _, DGet.t (k := gP p) hl2 (f1.tup hp0), ?_⟩
    rw [getD_lookP]
    refine hq _ _ (.refl _) ?_
    rw [take_snoc hpi, List.map_append, List.map_append]; rfl
  · rintro H1 acc f1 eF _ rfl
    rw [List.length_map, hql, List.take_length] at eF
    refine ⟨F, _, rfl, .inl ⟨.of eF, fun ta nta => ?_⟩⟩
    exact q _ ta (same_up f1.same nta) (f1.same.free nta) upd_same
theorem law_in3 (X : Facts P w K mg base C) (hr : Room 6 (A.deeper (envOfC "law" (defScope sLaw) s0.heap.objs.size f0 cdv))) :
    ∃ t, PS (XL P w K mg base f0 cdv A outer s0 H0) (lawIn 7 3) t ∧ ∀ (D : Ends) (H : Hp) (a b d li wa ca pa me al ta : Addr) (x6 x7 x8 x12 x13 x15 : Option V) (M : List (List Int)) (vs : List Int), H me = some (.dT (embT gL M)) → H ta = some (.tup (vs.map V.int)) → M.length ≤ 1000 →
      (∀ H', Fr [me] H H' → H' me = some (.dT (embT gL (addK M vs))) → D.nx (s7 a b d li wa ca pa me al x6 x7 x8 x12 x13 (some (.ref ta)) x15) H') → t D (s7 a b d li wa ca pa me al x6 x7 x8 x12 x13 (some (.ref ta)) x15) H := by
  refine ⟨_, ps_dput (hu_of hr) (pv 10) (pv 14) pe_bl rfl, ?_⟩
  intro D H a b d li wa ca pa me al ta x6 x7 x8 x12 x13 x15 M vs hM hT hl q
  refine ⟨.ref me, rfl, .ref ta, rfl, me, _, rfl, DPut.t (k := gL vs) hM (by rw [gL_kV]; exact hT) (by rw [embT_length]; exact small1000 hl), ?_⟩
  exact q _ (Fr.put (soft_dT hM)) (by rw [upd_same, embT_put gL_inj])
/-- what the dict of places and values holds -/
structure AlAt (P : Program) (w : World) (H : Hp) (al : Addr) (L : List PlV) : Prop where
  ex : ∃ xs : List (PlV × Addr), H al = some (ND P w al xs) ∧ (∀ x ∈ xs, KeyN H x.1 x.2) ∧ xs.map (·.1) = L
theorem AlAt.fr {S : List Addr} {H H' : Hp} (F : Fr S H H') {al : Addr} {L : List PlV} (h : AlAt P w H al L) (hs : al ∉ S) : AlAt P w H' al L := by
  obtain ⟨xs, h1, h2, h3⟩ := h
  exact ⟨xs, F.keep h1 hs, fun x hx => (h2 x hx).fr F, h3⟩
theorem law_in4 (X : Facts P w K mg base C) (hr : Room 6 (A.deeper (envOfC "law" (defScope sLaw) s0.heap.objs.size f0 cdv))) :
    ∃ t, PS (XL P w K mg base f0 cdv A outer s0 H0) (lawIn 7 4) t ∧ ∀ (D : Ends) (H : Hp) (a b d li wa ca pa me al ta : Addr) (x6 x7 x8 x12 x13 x15 : Option V) (L : List PlV) (ps : List Pl) (vs : List Int), AlAt P w H al L → PlsAt H pa ps → H ta = some (.tup (vs.map V.int)) → vs.length = ps.length → ps.length ≤ 4 → L.length ≤ 1000 →
      (∀ H' x6 x7, Fr [al] H H' → AlAt P w H' al ((ps.zip vs).foldl addK L) → D.nx (s7 a b d li wa ca pa me al x6 x7 x8 x12 x13 (some (.ref ta)) x15) H') → t D (s7 a b d li wa ca pa me al x6 x7 x8 x12 x13 (some (.ref ta)) x15) H := by
  refine ⟨_, ps_for PassesOwn.never rfl (pi_zipM (by rfl) X.B.zip (pa_cons (pv 9) (pa_cons (pv 14) pa_nil)))
    (pg_tup rfl (pgs_cons (pg_name (i := 6) scl_nd rfl (Or.inr rfl)) (pgs_cons (pg_name (i := 7) scl_nd rfl (Or.inl rfl)) pgs_nil)))
    (pss_one (ps_asg pe_bl (pg_sub (pv 11) (pe_tup (pa_cons (pv 6) (pa_cons (pv 7) pa_nil))) (set_nd hr.units)))), ?_⟩
  intro D H a b d li wa ca pa me al ta x6 x7 x8 x12 x13 x15 L ps vs hA PA hT hvl hp4 hL q
  obtain ⟨qs, hpa, hqs⟩ := PA
  have hql := Paired.length hqs
  have hsoft : soft (H al) := by
    obtain ⟨xs, h1, _⟩ := hA
    exact soft_ext h1
  have hpal : pa ≠ al := by
    obtain ⟨xs, h1, _⟩ := hA
    exact ne_of hpa h1 (by intro z; cases z)
  refine ⟨.ref pa, rfl, .ref ta, rfl, pa, ta, qs.map V.ref, vs.map V.int, rfl, .of hpa, .of hT, ?_⟩
  have hmin : min (qs.map V.ref).length (vs.map V.int).length = ps.length := by rw [List.length_map, List.length_map, hvl, hql]; omega
  refine for_it (walk_zipM (xs := qs.map V.ref) (ys := vs.map V.int)) (fun i σ Hx => (∃ x6 x7, σ = s7 a b d li wa ca pa me al x6 x7 x8 x12 x13 (some (.ref ta)) x15) ∧ Fr [al] H Hx ∧ AlAt P w Hx al (((ps.zip vs).take i).foldl addK L)) ?_ ?_ ?_ ?_
  · exact ⟨⟨_, _, rfl⟩, Fr.mono (Fr.refl H) (by simp) (by simpa using hsoft), hA⟩
  · rintro i σ Hx hi ⟨_, F, _⟩
    exact ⟨.of (F.keep hpa (by simpa using hpal)), .of (F.tup hT)⟩
  · rintro i y σ Hx H' hi ⟨⟨x6, x7, rfl⟩, F, AL⟩ ⟨T, z1, z2, rfl, nT, rfl, h1, h2⟩
    have h1 : (qs.map V.ref)[i]? = some z1 := h1
    have h2 : (vs.map V.int)[i]? = some z2 := h2
    rw [List.getElem?_map] at h1 h2
    obtain ⟨q0, hq0, rfl⟩ := Option.map_eq_some_iff.mp h1
    obtain ⟨v, hv, rfl⟩ := Option.map_eq_some_iff.mp h2
    obtain ⟨p, hpi, hp0⟩ := Paired.get' hqs hq0
    have S1 := same_upd (o := .tup [.ref q0, .int v]) nT
    have F1 := F.transS S1
    have AL1 := AL.fr (.of_same S1) (by simp)
    refine ⟨T, _, rfl, .of upd_same, rfl, _, _, rfl, _, _, rfl, rfl, ?_⟩
    refine ⟨.ref al, rfl, .ref q0, rfl, .int v, rfl, by show 2 ≤ sizeLine; decide, fun y ny => ?_⟩
    have S2 := same_upd (o := .tup [.ref q0, .int v]) ny
    have F2 := F1.transS S2
    obtain ⟨xs, e1, e2, e3⟩ := AL1.fr (.of_same S2) (by simp)
    have hky : KeyN (upd (upd Hx T (.tup [.ref q0, .int v])) y (.tup [.ref q0, .int v])) (p, v) y := ⟨q0, upd_same, F2.tup hp0⟩
    have hxl : xs.length ≤ 1010 := by
      have := congrArg List.length e3
      rw [List.length_map] at this
      have h5 := length_addAll ((ps.zip vs).take i) L
      have h6 : ((ps.zip vs).take i).length ≤ 4 := by rw [List.length_take, List.length_zip]; omega
      omega
    refine ⟨al, xs, (p, v), y, rfl, rfl, rfl, e1, hky, e2, by omega, ?_⟩
    have F3 : Fr [al] (upd (upd Hx T (.tup [.ref q0, .int v])) y (.tup [.ref q0, .int v])) (upd (upd (upd Hx T (.tup [.ref q0, .int v])) y (.tup [.ref q0, .int v])) al (ND P w al (addN xs (p, v) y))) := Fr.put (soft_ext e1)
    refine ⟨⟨_, _, rfl⟩, F2.trans2 F3, ⟨_, upd_same, fun x hx => ?_, ?_⟩⟩
    · rcases addN_mem x hx with z | z
      · exact (e2 x z).fr F3
      · rw [z]; exact hky.fr F3
    · rw [addN_keys, e3]
      have hz : (ps.zip vs)[i]? = some (p, v) := by rw [List.getElem?_zip_eq_some]; exact ⟨hpi, hv⟩
      rw [take_snoc hz, List.foldl_append]; rfl
  · rintro σ Hx ⟨⟨x6, x7, rfl⟩, F, AL⟩
    rw [hmin] at AL
    have e : (ps.zip vs).take ps.length = ps.zip vs := by
      apply List.take_of_length_le
      rw [List.length_zip]; omega
    rw [e] at AL
    exact q Hx x6 x7 F AL
end
end K06
namespace K06
open PySem PySem.Spec PyProof.Rows L2
theorem mergeK_emb {g : Int → Key} (hg : ∀ a b, g a = g b → a = b) : ∀ (P m : List (Int × Int)), mergeK (emb g m) (emb g P) = emb g (land m P)
  | [], m => rfl
  | x :: P, m => by
    have ih := mergeK_emb hg P (put m x.1 x.2)
    show mergeK (putK (emb g m) (g x.1) (.int x.2)) (emb g P) = _
    rw [emb_put hg, ih]; rfl
/-- what behind gives -/
structure BhAt (H : Hp) (kh : Addr) (g : Gd) : Prop where
  ex : ∃ ks : List Addr, H kh = some (.tup (ks.map V.ref)) ∧ ks.length = 3 ∧ ∀ (i : Nat) (a : Addr), ks[i]? = some a → ∃ P, KeptAt H a P ∧ IsKept (g i) P
theorem BhAt.fr {S : List Addr} {H H' : Hp} (F : Fr S H H') {kh : Addr} {g : Gd} (h : BhAt H kh g) : BhAt H' kh g := by
  obtain ⟨ks, h1, h2, h3⟩ := h
  refine ⟨ks, F.tup h1, h2, fun i a e => ?_⟩
  obtain ⟨P, k1, k2⟩ := h3 i a e
  exact ⟨P, k1.fr F, k2⟩
section
variable {P : Program} {w : World} {K : PySem.W.Frag} {mg : Str → Option Value} {base : Heap} {C f0 : Addr} {cdv : Value} {A : Around} {outer : List Env} {s0 : Shared} {H0 : Hp}
theorem law_in5 (X : Facts P w K mg base C) (hr : Room 6 (A.deeper (envOfC "law" (defScope sLaw) s0.heap.objs.size f0 cdv))) :
    ∃ t, PS (XL P w K mg base f0 cdv A outer s0 H0) (lawIn 7 5) t ∧ ∀ (D : Ends) (H : Hp) (a b d li wa ca pa me al la c s f : Addr) (x6 x7 x8 x13 x14 x15 : Option V) (g : Gd) (ws : List PlV) (lot : List Nat), DiskAt C H d c s f g ws → LotAt H la lot ws.length → tracked ws → (∀ i, (g i).length ≤ 100) → (∀ i, (keysOf (g i)).Nodup) →
      (∀ H' kh, Same H H' → BhAt H' kh (landC g (sel lot ws)) → D.nx (s7 a b d li wa ca pa me al x6 x7 x8 (some (.ref la)) x13 x14 (some (.ref kh))) H') → t D (s7 a b d li wa ca pa me al x6 x7 x8 (some (.ref la)) x13 x14 x15) H := by
  obtain ⟨f1, fd1, D1, G1⟩ := X.behind.ex
  refine ⟨_, ps_set (i := 15) scl_nd rfl (.inr rfl) (pe_call G1 (hr.mono (by decide)) (by rfl) D1.g D1.F.kp D1.b .nil pass0 (pa_cons (pv 2) (pa_cons (pv 12) pa_nil))), ?_⟩
  intro D H a b d li wa ca pa me al la c s f x6 x7 x8 x13 x14 x15 g ws lot DA LA htr hg hn q
  refine ⟨.ref d, rfl, .ref la, rfl, d, c, s, f, g, ws, la, lot, 100, rfl, DA, LA, htr, hg, hn, by decide, fun H' p ks S h1 h2 h3 => q H' p S ⟨ks, h1, h2, fun i a e => ?_⟩⟩
  obtain ⟨P, k1, k2, _⟩ := h3 i a e
  exact ⟨P, k1, k2⟩
theorem law_in6 (X : Facts P w K mg base C) (hr : Room 6 (A.deeper (envOfC "law" (defScope sLaw) s0.heap.objs.size f0 cdv))) :
    ∃ t, PS (XL P w K mg base f0 cdv A outer s0 H0) (lawIn 7 6) t ∧ ∀ (D : Ends) (H : Hp) (a b d li wa ca pa me al kh ta : Addr) (x6 x7 x8 x12 x13 : Option V) (g : Gd) (ps : List Pl), BhAt H kh g → PlsAt H pa ps → H ta = some (.tup ((ps.map (valC g)).map V.int)) → (∀ i, (keysOf (g i)).Nodup) → (∀ p ∈ ps, p ∈ allPl) → ps.length ≤ 4 →
      (∀ H', Same H H' → D.nx (s7 a b d li wa ca pa me al x6 x7 x8 x12 x13 (some (.ref ta)) (some (.ref kh))) H') → t D (s7 a b d li wa ca pa me al x6 x7 x8 x12 x13 (some (.ref ta)) (some (.ref kh))) H := by
  refine ⟨_, ps_if (pt_cmpR (op_neD hr.units)
      (pe_lc (own := [("_law_place", 6)]) (g := gName 6) (tt := tYes) (te := tDGet2 (tCB _ (tCons (tOp (rIxT K) (tVar 15) (tOp (rIxT K) (tVar 6) (tC (.int 0)))) tNil)) (tOp (rIxT K) (tVar 6) (tC (.int 1))) (tC (.int 0))) rfl scl_nd (pi_list (pv 9)) (blkOk_by (own := [("_law_place", 6)]) (N := nLaw) (sc := defScope sLaw) (by decide +kernel))
          (fun _ _ _ _ _ => pg_name (i := 6) scl_nd rfl (Or.inl rfl)) (fun _ _ _ _ _ => pts_nil)
          (fun _ _ _ _ _ => pe_dget2 (hu_of hr) (pe_callTy (cr_dictZ rfl) (by rfl) X.B.dict (by decide +kernel) (pa_cons (pe_ix ix_tup (pv 15) (pe_ix ix_tup (pv 6) pe_int (fun _ _ => rfl)) (fun _ _ => rfl)) pa_nil)) (pe_ix ix_tup (pv 6) pe_int (fun _ _ => rfl)) pe_int ⟨rfl, rfl, rfl, rfl⟩))
      (pe_callTy call_list_of (by rfl) X.B.list (by decide +kernel) (pa_cons (pv 14) pa_nil)) (nomark _))
    (pss_one (ps_ret pe_bl)) pss_nil, ?_⟩
  intro D H a b d li wa ca pa me al kh ta x6 x7 x8 x12 x13 g ps BH PA hT hn hal hp4 q
  obtain ⟨qs, hpa, hqs⟩ := PA
  have hql := Paired.length hqs
  refine ⟨.ref pa, rfl, pa, rfl, ⟨_, .of hpa⟩, fun F nF => ?_⟩
  refine lc_fr (S := []) (walk_list (xs := qs.map V.ref)) nF (by simp) (by simp) (by rw [List.length_map, hql]; exact Nat.le_of_lt (small1000 (by omega)))
    (fun i acc Hx => acc = ((ps.take i).map (valC g)).map V.int) (fun i acc Hx Hy f h => h) (fun i acc H' f _ => .of (f.same _ _ hpa)) (fun _ _ => rfl) ?_ ?_
  · rintro i x H1 H2 acc hi f1 eF rfl ⟨rfl, hx⟩ Qk Nk hq hn'
    rw [List.getElem?_map] at hx
    obtain ⟨q0, hq0, rfl⟩ := Option.map_eq_some_iff.mp hx
    obtain ⟨p, hpi, hp0⟩ := Paired.get' hqs hq0
    have hp2 := PlAt.fr f1 hp0
    obtain ⟨a1, a2, a3, a4⟩ := allPl_in p (hal p (List.mem_of_getElem? hpi))
    obtain ⟨ks, k1, k2, k3⟩ := BH.fr f1
    have hlt : p.1.toNat < ks.length := by omega
    have hj : ks[p.1.toNat]? = some ks[p.1.toNat] := List.getElem?_eq_getElem hlt
    obtain ⟨R, ⟨rs, hz, hrs⟩, hk⟩ := k3 _ _ hj
    refine ⟨rfl, yes ?_⟩
    refine ⟨.ref kh, rfl, .ref q0, rfl, q0, _, 0, .int p.1, rfl, rfl, .of hp2, atI_nat (j := 0) rfl, kh, _, p.1, .ref ks[p.1.toNat], rfl, rfl, .of k1, atI_int a1 (by rw [List.getElem?_map, hj]; rfl), ?_⟩
    have hpk : ∀ {rs : List Addr} {R : List (Int × Int)}, Pr H2 rs R → Paired (fun p (kv : Key × V) => H2 p = some (.tup [kV kv.1, kv.2])) rs (emb Sum.inl R) := by
      intro rs R h
      induction h with
      | nil => exact .nil
      | cons a _ ih => exact .cons a ih
    refine ⟨ks[p.1.toNat], rs, emb Sum.inl R, rfl, hz, hpk hrs, fun y ny => ?_⟩
    have em : mergeK [] (emb Sum.inl R : List (Key × V)) = emb Sum.inl (land [] R) := mergeK_emb gI_inj R []
    rw [em]
    have S3 := same_upd (o := .dK (emb Sum.inl (land [] R))) ny
    refine ⟨y, rfl, .inl ⟨_, .inl upd_same⟩, .ref q0, rfl, q0, _, 1, .int p.2, rfl, rfl, .of (S3 _ _ hp2), atI_nat (j := 1) rfl, _, DGet.k (k := Sum.inl p.2) upd_same, ?_⟩
    rw [getD_look, kept_val (hn _) hk]
    refine hq _ _ (.of_same S3) ?_
    rw [take_snoc hpi, List.map_append, List.map_append]; rfl
  · rintro H1 acc f1 eF _ rfl
    rw [List.length_map, hql, List.take_length] at eF
    refine ⟨.ref ta, rfl, ta, _, rfl, .inr (.of (f1.tup hT)), fun y ny => ?_⟩
    have S2 := same_upd (o := .lst ((ps.map (valC g)).map V.int)) ny
    refine ⟨dIntL _, dIntL _, dp_lstI (.of (S2 _ _ eF)), dp_lstI (.of upd_same), shaped_intL _, shaped_intL _, _, rfl, ?_⟩
    rw [eqv_intL, decide_eq_true rfl]
    exact iteF (q _ (f1.same.trans S2))
end
end K06
namespace K06
open PySem PySem.Spec PyProof.Rows L2
/-- the told of the first lots; the pairs of place and value -/
def metOf (f : Pl → Int) (ws : List PlV) (ps : List Pl) (Ls : List (List Nat)) : List (List Int) := (Ls.map (told f ws ps)).foldl addK []
def alOf (f : Pl → Int) (ws : List PlV) (ps : List Pl) (Ls : List (List Nat)) : List PlV := (Ls.flatMap fun lot => ps.zip (told f ws ps lot)).foldl addK []
theorem metOf_snoc (f : Pl → Int) (ws : List PlV) (ps : List Pl) (Ls : List (List Nat)) (lot : List Nat) : metOf f ws ps (Ls ++ [lot]) = addK (metOf f ws ps Ls) (told f ws ps lot) := by
  unfold metOf
  rw [List.map_append, List.foldl_append]; rfl
theorem alOf_snoc (f : Pl → Int) (ws : List PlV) (ps : List Pl) (Ls : List (List Nat)) (lot : List Nat) : alOf f ws ps (Ls ++ [lot]) = (ps.zip (told f ws ps lot)).foldl addK (alOf f ws ps Ls) := by
  unfold alOf
  rw [List.flatMap_append, List.foldl_append]
  simp
theorem metOf_len (f : Pl → Int) (ws : List PlV) (ps : List Pl) (Ls : List (List Nat)) : (metOf f ws ps Ls).length ≤ Ls.length := by
  have := length_addAll (Ls.map (told f ws ps)) ([] : List (List Int))
  rw [List.length_nil, Nat.zero_add, List.length_map] at this
  exact this
theorem flat_len {α β : Type} (g : α → List β) (k : Nat) : ∀ (Ls : List α), (∀ x ∈ Ls, (g x).length ≤ k) → (Ls.flatMap g).length ≤ k * Ls.length
  | [], _ => by simp
  | x :: Ls, h => by
    rw [List.flatMap_cons, List.length_append, List.length_cons, Nat.mul_add]
    have h1 := h x List.mem_cons_self
    have h2 := flat_len g k Ls fun y hy => h y (List.mem_cons_of_mem _ hy)
    omega
theorem alOf_len (f : Pl → Int) (ws : List PlV) (ps : List Pl) (Ls : List (List Nat)) (hp : ps.length ≤ 4) : (alOf f ws ps Ls).length ≤ 4 * Ls.length := by
  have h1 := length_addAll (Ls.flatMap fun lot => ps.zip (told f ws ps lot)) ([] : List PlV)
  have h2 := flat_len (fun lot => ps.zip (told f ws ps lot)) 4 Ls fun x _ => by rw [List.length_zip]; omega
  rw [List.length_nil, Nat.zero_add] at h1
  unfold alOf
  exact Nat.le_trans h1 h2
theorem LotsAt.fr {S : List Addr} {H H' : Hp} (F : Fr S H H') {las : List Addr} {Ls : List (List Nat)} (h : LotsAt H las Ls) (hs : ∀ a ∈ las, a ∉ S) : LotsAt H' las Ls := by
  induction h with
  | nil => exact .nil
  | cons a b ih => exact .cons (F.keep a (hs _ List.mem_cons_self)) (ih fun x hx => hs x (List.mem_cons_of_mem _ hx))
theorem LotsAt.lst {H : Hp} {las : List Addr} {Ls : List (List Nat)} (h : LotsAt H las Ls) : ∀ a ∈ las, ∃ xs, H a = some (.lst xs) := by
  intro a ha
  obtain ⟨i, hi, e⟩ := List.getElem_of_mem ha
  obtain ⟨lot, _, z⟩ := Paired.get' h (show las[i]? = some a by rw [List.getElem?_eq_getElem hi, e])
  exact ⟨_, z⟩
/-- what the two tellings of one lot share -/
theorem tell_eq {g : Gd} {m : List (Pl × Int)} {ws : List PlV} {ps : List Pl} {lot : List Nat} (SM : SmallM g m) (hal : ∀ p ∈ ps, p ∈ allPl) (ht : tracked ws) (hl : lot ∈ lots ws.length) :
    ps.map (valC (landC g (sel lot ws))) = told (val m) ws ps lot := by
  unfold told
  refine List.map_congr_left fun p hp => ?_
  obtain ⟨a1, a2, a3, a4⟩ := allPl_in p (hal p hp)
  have htr2 : tracked (sel lot ws) := fun x hx => by
    obtain ⟨k, _, hk⟩ := mem_sel.mp hx
    exact ht x (List.mem_of_getElem? hk)
  rw [val_landC a1 htr2, sel_eq hl]
  refine after_congr ?_
  show val (g p.1.toNat) p.2 = val m p
  unfold val
  rw [SM.ag p.1 p.2 a1 a2]
section
variable {P : Program} {w : World} {K : PySem.W.Frag} {mg : Str → Option Value} {base : Heap} {C f0 : Addr} {cdv : Value} {A : Around} {outer : List Env} {s0 : Shared} {H0 : Hp}
theorem law_st7 (X : Facts P w K mg base C) (hr : Room 6 (A.deeper (envOfC "law" (defScope sLaw) s0.heap.objs.size f0 cdv))) :
    ∃ t, PS (XL P w K mg base f0 cdv A outer s0 H0) (lawSt 7) t ∧ ∀ (D : Ends) (H : Hp) (a b d c s f li wa ca pa me al : Addr) (ps : List Pl) (g : Gd) (m : List (Pl × Int)) (ws : List PlV) (x6 x7 x8 : Option V), WB C H d c s f li wa pa g ws m ps → SmallM g m → (∀ q ∈ m, q.1 ∈ allPl) → m.length ≤ 4 →
      ws.length ≤ 7 → tracked ws → (∀ p ∈ ps, p ∈ allPl) → ps.length ≤ 4 → H me = some (.dT (embT gL [])) → H al = some (ND P w al []) → f ≠ me → li ≠ me →
      (∀ H' x6 x7 x12 x13 x14 x15, WB C H' d c s f li wa pa g ws m ps → H' me = some (.dT (embT gL (metOf (val m) ws ps (lots ws.length)))) → AlAt P w H' al (alOf (val m) ws ps (lots ws.length)) →
        D.nx (s7 a b d li wa ca pa me al x6 x7 x8 x12 x13 x14 x15) H') →
      t D (s7 a b d li wa ca pa me al x6 x7 x8 none none none none) H := by
  obtain ⟨f1, fd1, D1, G1⟩ := X.lots.ex
  obtain ⟨t0, h0, q0⟩ := law_in0 (P := P) (w := w) (K := K) (mg := mg) (base := base) (C := C) (f0 := f0) (cdv := cdv) (A := A) (outer := outer) (s0 := s0) (H0 := H0) X hr
  obtain ⟨t1, h1, q1⟩ := law_in1 (P := P) (w := w) (K := K) (mg := mg) (base := base) (C := C) (f0 := f0) (cdv := cdv) (A := A) (outer := outer) (s0 := s0) (H0 := H0) X hr
  obtain ⟨t2, h2, q2⟩ := law_in2 (P := P) (w := w) (K := K) (mg := mg) (base := base) (C := C) (f0 := f0) (cdv := cdv) (A := A) (outer := outer) (s0 := s0) (H0 := H0) X hr
  obtain ⟨t3, h3, q3⟩ := law_in3 (P := P) (w := w) (K := K) (mg := mg) (base := base) (C := C) (f0 := f0) (cdv := cdv) (A := A) (outer := outer) (s0 := s0) (H0 := H0) X hr
  obtain ⟨t4, h4, q4⟩ := law_in4 (P := P) (w := w) (K := K) (mg := mg) (base := base) (C := C) (f0 := f0) (cdv := cdv) (A := A) (outer := outer) (s0 := s0) (H0 := H0) X hr
  obtain ⟨t5, h5, q5⟩ := law_in5 (P := P) (w := w) (K := K) (mg := mg) (base := base) (C := C) (f0 := f0) (cdv := cdv) (A := A) (outer := outer) (s0 := s0) (H0 := H0) X hr
  obtain ⟨t6, h6, q6⟩ := law_in6 (P := P) (w := w) (K := K) (mg := mg) (base := base) (C := C) (f0 := f0) (cdv := cdv) (A := A) (outer := outer) (s0 := s0) (H0 := H0) X hr
  refine ⟨_, ps_for PassesOwn.never rfl (pi_list (pe_call G1 (hr.mono (by decide)) (by rfl) D1.g D1.F.kp D1.b .nil pass0 (pa_cons (pe_callB call_len_seq (by rfl) X.B.len (by decide +kernel) (pa_cons (pv 4) pa_nil)) pa_nil)))
    (pg_name (i := 12) scl_nd rfl (Or.inl rfl)) (pss_cons h0 (pss_cons h1 (pss_cons h2 (pss_cons h3 (pss_cons h4 (pss_cons h5 (pss_one h6))))))), ?_⟩
  intro D H a b d c s f li wa ca pa me al ps g m ws x6 x7 x8 W SM hma hm4 hw7 htr hal hp4 hme hal0 hfm hlm q
  obtain ⟨bw, hw, hbw⟩ := W.W
  have hbwl := Paired.length hbw
  refine ⟨.ref wa, rfl, wa, _, rfl, .inl (.of hw), ws.length, by rw [List.length_map, hbwl]; rfl, hw7, fun H1 z las S1 nz nlas hz hL => ?_⟩
  refine ⟨z, rfl, ⟨_, .of hz⟩, ?_⟩
  have hll := Paired.length hL
  have h2n : 2 ^ ws.length ≤ 2 ^ 7 := Nat.pow_le_pow_right (by decide) hw7
  have hLs : (lots ws.length).length ≤ 128 := by rw [lots_length]; exact h2n
  refine for_it (walk_list (xs := las.map V.ref)) (fun i σ Hx => (∃ x6 x7 x12 x13 x14 x15, σ = s7 a b d li wa ca pa me al x6 x7 x8 x12 x13 x14 x15) ∧ WB C Hx d c s f li wa pa g ws m ps ∧ Hx z = some (.lst (las.map V.ref)) ∧ LotsAt Hx las (lots ws.length) ∧
    Hx me = some (.dT (embT gL (metOf (val m) ws ps ((lots ws.length).take i)))) ∧ AlAt P w Hx al (alOf (val m) ws ps ((lots ws.length).take i))) ?_ ?_ ?_ ?_
  · exact ⟨⟨_, _, _, _, _, _, rfl⟩, W.same S1, hz, hL, S1 _ _ hme, ⟨[], S1 _ _ hal0, by simp, rfl⟩⟩
  · rintro i σ Hx hi ⟨_, _, h, _⟩
    exact .of h
  · rintro i x σ Hx H' hi ⟨⟨x6, x7, x12, x13, x14, x15, rfl⟩, Wx, hzx, hLx, hmx, hax⟩ ⟨rfl, hx⟩
    rw [List.getElem?_map] at hx
    obtain ⟨la, hla, rfl⟩ := Option.map_eq_some_iff.mp hx
    obtain ⟨lot, hli, hlot⟩ := Paired.get' hLx hla
    have hmem := List.mem_of_getElem? hli
    obtain ⟨asc1, asc2⟩ := lots_asc _ _ hmem
    have hlotlen := lots_len hmem
    have hti : ((lots ws.length).take i).length ≤ 128 := by rw [List.length_take]; omega
    refine q0 _ _ a b d li wa ca pa me al _ _ _ _ _ _ _ m Wx.L SM.nm hma fun Ha lf Sa nlf hlf => ?_
    have Wa := Wx.same Sa
    refine q1 _ _ a b d li wa ca pa me al la lf _ _ _ _ _ m ws lot hlf Wa.W (Sa _ _ hlot) (by omega) fun Hb Fb hlf2 => ?_
    have Sb : Same H' Hb := ((Fr.of_same Sa).trans Fb (by intro y hy; right; rw [show y = lf by simpa using hy]; exact nlf)).same
    have Wb := Wx.same Sb
    refine q2 _ _ a b d li wa ca pa me al lf _ _ _ _ _ _ _ ps hlf2 Wb.Q hp4 fun Hc ta Sc nta hta => ?_
    rw [val_land] at hta
    have hta : Hc ta = some (.tup ((told (val m) ws ps lot).map V.int)) := hta
    have Sc' := Sb.trans Sc
    have Wc := Wx.same Sc'
    have hmc := Sc' _ _ hmx
    refine q3 _ _ a b d li wa ca pa me al ta _ _ _ _ _ _ _ (told (val m) ws ps lot) hmc hta (Nat.le_trans (metOf_len _ _ _ _) (by omega)) fun Hd Fd hmd => ?_
    have Wd := Wc.other Fd (.inl ⟨_, hmc⟩) hfm hlm
    have halme : al ≠ me := by
      obtain ⟨xs, e1, _⟩ := hax.fr (.of_same Sc') (by simp)
      exact ne_of e1 hmc (by intro z; cases z)
    have had := (hax.fr (.of_same Sc') (by simp)).fr Fd (by simpa using halme)
    have htl : (told (val m) ws ps lot).length = ps.length := by unfold told; rw [List.length_map]
    refine q4 _ _ a b d li wa ca pa me al ta _ _ _ _ _ _ _ ps (told (val m) ws ps lot) had Wd.Q (Fd.tup hta) htl hp4 (Nat.le_trans (alOf_len _ _ _ _ hp4) (by omega)) fun He x6' x7' Fe hae => ?_
    obtain ⟨xs0, ed, _⟩ := had
    have hfal : f ≠ al := by
      obtain ⟨fm, hf, _⟩ := Wd.D.fresh
      exact ne_of hf ed (by intro z; cases z)
    have hlal : li ≠ al := ne_of Wd.L ed (by intro z; cases z)
    have We := Wd.other Fe (.inr ⟨_, ed⟩) hfal hlal
    have FE : ∀ {y : Addr} {xs : List V}, Hc y = some (.lst xs) → He y = some (.lst xs) := fun {y xs} e => by
      have h1 : y ≠ me := ne_of e hmc (by intro z; cases z)
      have e2 := Fd.keep e (by simpa using h1)
      have h2 : y ≠ al := ne_of e2 ed (by intro z; cases z)
      exact Fe.keep e2 (by simpa using h2)
    have hzE := FE (Sc' _ _ hzx)
    have hLE : LotsAt He las (lots ws.length) := by
      have hLc := hLx.fr (.of_same Sc') (by simp)
      exact hLc.mono fun _ _ z => FE z
    have hlotE := FE (Sc' _ _ hlot)
    refine q5 _ _ a b d li wa ca pa me al la c s f _ _ _ _ _ _ g ws lot We.D ⟨hlotE, by omega, asc1, asc2⟩ htr SM.lg SM.ng fun Hf kh Sf hkh => ?_
    have Wf := We.same Sf
    have hte := tell_eq SM hal htr hmem (ps := ps)
    refine q6 _ _ a b d li wa ca pa me al kh ta _ _ _ _ _ (landC g (sel lot ws)) ps hkh Wf.Q (by rw [hte]; exact Sf _ _ (Fe.tup (Fd.tup hta))) (nodup_landC _ _ SM.ng) hal hp4 fun Hg Sg => ?_
    have SG := Sf.trans Sg
    have hme6 : He me = some (.dT (embT gL (addK (metOf (val m) ws ps ((lots ws.length).take i)) (told (val m) ws ps lot)))) := Fe.keep hmd (by simpa using halme.symm)
    refine ⟨⟨_, _, _, _, _, _, rfl⟩, Wf.same Sg, SG _ _ hzE, hLE.fr (.of_same SG) (by simp), ?_, ?_⟩
    · rw [take_snoc hli, metOf_snoc]; exact SG _ _ hme6
    · rw [take_snoc hli, alOf_snoc]; exact hae.fr (.of_same SG) (by simp)
  · rintro σ Hx ⟨⟨x6, x7, x12, x13, x14, x15, rfl⟩, Wx, hzx, hLx, hmx, hax⟩
    rw [List.length_map, hll, List.take_length] at hmx hax
    exact q Hx x6 x7 x12 x13 x14 x15 Wx hmx hax
end
end K06
namespace K06
open PySem PySem.Spec PyProof.Rows L2
/-- the values told of a place -/
def dueL (L : List PlV) (p : Pl) : List Int := (L.filter fun s => decide (s.1 = p)).map (·.2)
theorem mem_dueL {L : List PlV} {p : Pl} {v : Int} : v ∈ dueL L p ↔ (p, v) ∈ L := by
  unfold dueL
  rw [List.mem_map]
  constructor
  · rintro ⟨s, hs, rfl⟩
    obtain ⟨h1, h2⟩ := List.mem_filter.mp hs
    have h2 : s.1 = p := of_decide_eq_true h2
    rw [← h2]; exact h1
  · intro h
    exact ⟨(p, v), List.mem_filter.mpr ⟨h, decide_eq_true rfl⟩, rfl⟩
theorem nodup_dueL {L : List PlV} (h : L.Nodup) (p : Pl) : (dueL L p).Nodup := by
  unfold dueL
  have h1 : (L.filter fun s => decide (s.1 = p)).Nodup := List.filter_sublist.nodup h
  unfold List.Nodup at h1 ⊢
  rw [List.pairwise_map]
  refine h1.imp_of_mem fun {x y} hx hy h z => h ?_
  have ex : x.1 = p := of_decide_eq_true (List.mem_filter.mp hx).2
  have ey : y.1 = p := of_decide_eq_true (List.mem_filter.mp hy).2
  exact Prod.ext (ex.trans ey.symm) z
theorem mem_zip_map {α β : Type} (F : α → β) : ∀ {l : List α} {p : α} {v : β}, (p, v) ∈ l.zip (l.map F) ↔ p ∈ l ∧ v = F p
  | [], p, v => by simp
  | x :: l, p, v => by
    have ih := mem_zip_map F (l := l) (p := p) (v := v)
    rw [List.map_cons, List.zip_cons_cons, List.mem_cons, List.mem_cons, ih]
    constructor
    · rintro (h | h)
      · have h1 := congrArg Prod.fst h
        have h2 := congrArg Prod.snd h
        exact ⟨.inl h1, by rw [show p = x from h1]; exact h2⟩
      · exact ⟨.inr h.1, h.2⟩
    · rintro ⟨h | h, e⟩
      · left; rw [e, h]
      · exact .inr ⟨h, e⟩
theorem mem_alOf {f : Pl → Int} {ws : List PlV} {ps : List Pl} {p : Pl} {v : Int} : (p, v) ∈ alOf f ws ps (lots ws.length) ↔ p ∈ ps ∧ v ∈ may f ws p := by
  unfold alOf
  rw [mem_addAll]
  constructor
  · rintro (h | h)
    · cases h
    · obtain ⟨lot, hl, hz⟩ := List.mem_flatMap.mp h
      obtain ⟨h1, rfl⟩ := (mem_zip_map _).mp hz
      exact ⟨h1, after_may f ws lot p⟩
  · rintro ⟨h1, h2⟩
    obtain ⟨lot, hl, e⟩ := may_reached h2
    exact .inr (List.mem_flatMap.mpr ⟨lot, hl, (mem_zip_map _).mpr ⟨h1, e.symm⟩⟩)
theorem nodup_alOf (f : Pl → Int) (ws : List PlV) (ps : List Pl) (Ls : List (List Nat)) : (alOf f ws ps Ls).Nodup := nodup_addAll .nil
theorem mem_metOf {f : Pl → Int} {ws : List PlV} {ps : List Pl} {Ls : List (List Nat)} {v : List Int} : v ∈ metOf f ws ps Ls ↔ ∃ lot ∈ Ls, told f ws ps lot = v := by
  unfold metOf
  rw [mem_addAll, List.mem_map]
  simp
/-- how many were met: as many as the places allow -/
theorem met_count {f : Pl → Int} {ws : List PlV} {ps : List Pl} (hps : ps.Nodup) :
    ((metOf f ws ps (lots ws.length)).length : Int) = prodN (ps.map (dueL (alOf f ws ps (lots ws.length)))) :=
  count_told hps (nodup_addAll .nil) (fun v => mem_metOf) fun p hp => ⟨nodup_dueL (nodup_alOf _ _ _ _) p, fun v => by rw [mem_dueL, mem_alOf]; exact ⟨fun h => h.2, fun h => ⟨hp, h⟩⟩⟩
/-- a sorted due is what may lie -/
theorem due_is {f : Pl → Int} {ws : List PlV} {ps : List Pl} {p : Pl} (hp : p ∈ ps) {due ns : List Int} (h1 : due.Perm (dueL (alOf f ws ps (lots ws.length)) p)) (h2 : due.Pairwise (· ≤ ·)) (h3 : ns.Pairwise (· < ·)) (h4 : ∀ v, v ∈ ns ↔ v ∈ may f ws p) : due = ns :=
  asc_int (asc_of_le h2 (h1.nodup_iff.mpr (nodup_dueL (nodup_alOf _ _ _ _) p))) h3 fun v => by
    rw [h1.mem_iff, mem_dueL, mem_alOf, h4]
    exact ⟨fun h => h.2, fun h => ⟨hp, h⟩⟩
theorem may_line {m : List (Pl × Int)} {ws : List PlV} (hm : ∀ q ∈ m, lineS q) (hw : ∀ s ∈ ws, lineS s) (p : Pl) : ∀ v ∈ may (val m) ws p, inLine v := by
  intro v hv
  rcases mem_may.mp hv with h | h
  · rw [h]
    unfold val
    cases e : look m p with
    | none => exact ⟨by decide, by decide⟩
    | some x =>
      have : (p, x) ∈ m := by
        unfold look at e
        obtain ⟨q, h1, h2⟩ := Option.map_eq_some_iff.mp e
        have h3 := List.mem_of_find?_eq_some h1
        have h4 := List.find?_some h1
        have h4 : q.1 = p := of_decide_eq_true h4
        rw [← h4, ← h2]; exact h3
      exact (hm _ this).2.2
  · exact (hw _ h).2.2
theorem valC_val {g : Gd} {m : List (Pl × Int)} (SM : SmallM g m) {p : Pl} (h0 : 0 ≤ p.1) (h2 : p.1 ≤ 2) : valC g p = val m p := by
  show val (g p.1.toNat) p.2 = val m p
  unfold val
  rw [SM.ag p.1 p.2 h0 h2]
theorem may_valC {g : Gd} {m : List (Pl × Int)} (SM : SmallM g m) {p : Pl} (h0 : 0 ≤ p.1) (h2 : p.1 ≤ 2) (ws : List PlV) (v : Int) : v ∈ may (valC g) ws p ↔ v ∈ may (val m) ws p := by
  rw [mem_may, mem_may, valC_val SM h0 h2]
/-- nothing was written there -/
theorem may_zero {m : List (Pl × Int)} {ws : List PlV} {ps : List Pl} (hm : ∀ q ∈ m, q.1 ∈ ps) (hw : ∀ s ∈ ws, s.1 ∈ ps) {p : Pl} (hp : p ∉ ps) {ns : List Int} (h3 : ns.Pairwise (· < ·)) (h4 : ∀ v, v ∈ ns ↔ v ∈ may (val m) ws p) : ns = [0] := by
  refine asc_int h3 (List.pairwise_singleton _ _) fun v => ?_
  rw [h4, mem_may]
  have e : val m p = 0 := by
    unfold val
    have : look m p = none := look_none.mpr fun z => by
      obtain ⟨q, hq, rfl⟩ := List.mem_map.mp z
      exact hp (hm q hq)
    rw [this]; rfl
  rw [e]
  constructor
  · rintro (h | h)
    · simp [h]
    · exact absurd (hw _ h) hp
  · intro h
    exact .inl (by simpa using h)
end K06
namespace K06
open PySem PySem.Spec PyProof.Rows L2
abbrev s9 (a b d li wa ca pa me al : Addr) (x6 x7 x8 x12 x13 x14 x15 x16 x17 : Option V) : L2.St :=
  [some (.ref a), some (.ref b), some (.ref d), some (.ref li), some (.ref wa), some (.ref ca), x6, x7, x8, some (.ref pa), some (.ref me), some (.ref al), x12, x13, x14, x15, x16, x17, none, none]
theorem dueL_snoc (L : List PlV) (p : Pl) (x : PlV) : dueL (L ++ [x]) p = dueL L p ++ (if x.1 = p then [x.2] else []) := by
  unfold dueL
  rw [List.filter_append, List.map_append, List.filter_cons]
  by_cases h : x.1 = p
  · rw [if_pos h, if_pos (decide_eq_true h)]; rfl
  · rw [if_neg h, if_neg (by rw [decide_eq_false h]; simp)]; rfl
section
variable {P : Program} {w : World} {K : PySem.W.Frag} {mg : Str → Option Value} {base : Heap} {C f0 : Addr} {cdv : Value} {A : Around} {outer : List Env} {s0 : Shared} {H0 : Hp}
theorem law_d0 (X : Facts P w K mg base C) (hr : Room 6 (A.deeper (envOfC "law" (defScope sLaw) s0.heap.objs.size f0 cdv))) :
    ∃ t, PS (XL P w K mg base f0 cdv A outer s0 H0) (lawIn 9 0) t ∧ ∀ (D : Ends) (H : Hp) (a b d li wa ca pa me al q0 : Addr) (x7 x8 x12 x13 x14 x15 x16 x17 : Option V) (L : List PlV) (p : Pl), AlAt P w H al L → L.length ≤ 1000 → PlAt H q0 p →
      (∀ (H' : Hp) (du : Addr) (ns : List Int), Same H H' → H' du = some (.tup (ns.map V.int)) → ns.Perm (dueL L p) → ns.Pairwise (· ≤ ·) → D.nx (s9 a b d li wa ca pa me al (some (.ref q0)) x7 x8 x12 x13 x14 x15 x16 (some (.ref du))) H') →
      t D (s9 a b d li wa ca pa me al (some (.ref q0)) x7 x8 x12 x13 x14 x15 x16 x17) H := by
  refine ⟨_, ps_set (i := 17) scl_nd rfl (.inl rfl) (pe_callTy call_tuple_of (by rfl) X.B.tuple (by decide +kernel) (pa_cons (pe_callB cr_sortedI (by rfl) X.B.sorted (by decide +kernel) (pa_cons
      (pe_lock (pe_lc (own := [("_law_value", 7), ("_law_spot", 19)]) (g := gTup K 2 (gCons (gName 19) (gCons (gName 7) gNil))) (tt := tTest (tOp (rEqD K) (tVar 19) (tVar 6))) rfl scl_nd (pi_keysN (pv 11)) (blkOk_by (own := [("_law_value", 7), ("_law_spot", 19)]) (N := nLaw) (sc := defScope sLaw) (by decide +kernel))
          (fun _ _ _ _ _ => pg_tup rfl (pgs_cons (pg_name (i := 19) scl_nd rfl (Or.inl rfl)) (pgs_cons (pg_name (i := 7) scl_nd rfl (Or.inl rfl)) pgs_nil)))
          (fun _ _ _ _ _ => pts_one (pt_cmpR (op_eqD hr.units) (pv 19) (pv 6) (nomark _))) (fun _ _ _ _ _ => pv 7))) pa_nil)) pa_nil)), ?_⟩
  intro D H a b d li wa ca pa me al q0 x7 x8 x12 x13 x14 x15 x16 x17 L p hA hL hp q
  obtain ⟨xs, hal, hk, rfl⟩ := hA
  rw [List.length_map] at hL
  refine ⟨al, _, hal, trivial, fun od => ?_⟩
  have hkl : ∀ {Hx : Hp}, Same H Hx → True := fun _ => trivial
  have hne : ∀ {y : Addr} {zs : List V}, H y = some (.tup zs) → y ≠ al := fun e => ne_of e hal (by intro z; cases z)
  have up : ∀ {y : Addr} {zs : List V}, H y = some (.tup zs) → upd H al (.frz od (ND P w al xs)) y = some (.tup zs) := fun e => by rw [upd_ne (hne e)]; exact e
  refine ⟨.ref al, rfl, al, od, xs, rfl, upd_same, fun F nF => ?_⟩
  have hFal : F ≠ al := fun z => by rw [z, upd_same] at nF; cases nF
  refine lc_fr (S := []) (walk_nd (xs := xs)) nF (by simp) (by simp) (Nat.le_of_lt (small1000 hL)) (fun i acc Hx => acc = (dueL ((xs.map (·.1)).take i) p).map V.int) (fun i acc Hx Hy f h => h)
    (fun i acc H' f _ => f.same _ _ upd_same) (fun _ _ => rfl) ?_ ?_
  · rintro i x H1 H2 acc hi f eF rfl ⟨rfl, pv0, kb, hxi, rfl⟩ Qk Nk hq hn
    obtain ⟨r, hr1, hr2⟩ := hk _ (List.mem_of_getElem? hxi)
    have hr1 := f.tup (up hr1)
    have hr2 := f.tup (up hr2)
    have hp2 := f.tup (up hp)
    have hki : (xs.map (·.1))[i]? = some pv0 := by rw [List.getElem?_map, hxi]; rfl
    refine ⟨kb, _, rfl, .of hr1, rfl, .ref r, _, rfl, .int pv0.2, _, rfl, rfl, rfl, ?_⟩
    refine ⟨.ref r, rfl, .ref q0, rfl, dPl pv0.1, dPl p, PlAt.dp hr2, PlAt.dp hp2, shaped_pl _, shaped_pl _, _, rfl, ?_⟩
    rw [eqv_pl]
    rw [take_snoc hki, dueL_snoc] at hq hn
    by_cases h : pv0.1 = p
    · rw [decide_eq_true h]
      rw [if_pos h] at hq
      refine iteT ⟨.int pv0.2, rfl, hq _ _ (.refl _) ?_⟩
      rw [List.map_append]; rfl
    · rw [decide_eq_false h]
      rw [if_neg h, List.append_nil] at hn
      exact iteF (hn _ (.refl _) rfl)
  · rintro H1 acc f eF _ rfl
    have hd1 : H1 al = some (.frz od (ND P w al xs)) := f.same _ _ upd_same
    refine ⟨hd1, ?_⟩
    have e0 : (xs.map (·.1)).take xs.length = xs.map (·.1) := by
      apply List.take_of_length_le; rw [List.length_map]; exact Nat.le_refl _
    rw [e0] at eF
    have S1 : Same H (upd H1 al (ND P w al xs)) := by
      intro b o e
      by_cases hb : b = al
      · rw [hb, upd_same, ← hal, ← hb]; exact e
      · rw [upd_ne hb]
        exact f.same _ _ (by rw [upd_ne hb]; exact e)
    refine ⟨F, _, rfl, .of (by rw [upd_ne hFal]; exact eF), fun ns y hp1 hp2 ny => ?_⟩
    refine ⟨y, _, rfl, .inl ⟨.of upd_same, fun du ndu => ?_⟩⟩
    exact q _ du ns (same_up (same_up S1 ny) ndu) upd_same hp1 hp2
theorem law_d1 (X : Facts P w K mg base C) (hgd : A.guards = some []) (hr : Room 6 (A.deeper (envOfC "law" (defScope sLaw) s0.heap.objs.size f0 cdv))) :
    ∃ t, PS (XL P w K mg base f0 cdv A outer s0 H0) (lawIn 9 1) t ∧ ∀ (D : Ends) (H : Hp) (a b d li wa ca pa me al q0 du c s f : Addr) (x7 x8 x12 x13 x14 x15 x16 : Option V) (g : Gd) (ws : List PlV) (due : List Int) (p : Pl), DiskAt C H d c s f g ws → PlAt H q0 p → p ∈ allPl → ws.length ≤ 7 → H du = some (.tup (due.map V.int)) →
      (∀ ns : List Int, ns.Pairwise (· < ·) → (∀ v, v ∈ ns ↔ v ∈ may (valC g) ws p) → ns = due) → (∀ v ∈ due, inLine v) → due.length ≤ 100 →
      (∀ H', Same H H' → D.nx (s9 a b d li wa ca pa me al (some (.ref q0)) x7 x8 x12 x13 x14 x15 x16 (some (.ref du))) H') →
      t D (s9 a b d li wa ca pa me al (some (.ref q0)) x7 x8 x12 x13 x14 x15 x16 (some (.ref du))) H := by
  obtain ⟨f1, fd1, D1, G1⟩ := X.mayLie.ex
  have hr5 := hr.mono (by decide : 5 ≤ 6)
  refine ⟨_, ps_if (PW.pt (pw_or (pt_cmpR op_ne
        (pe_callB (call_reprD hgd hr.units) (by rfl) X.B.repr (by decide +kernel) (pa_cons (pe_call G1 hr5 (by rfl) D1.g D1.F.kp D1.b .nil pass0 (pa_cons (pv 2) (pa_cons (pe_ix ix_tup (pv 6) pe_int (fun _ _ => rfl)) (pa_cons (pe_ix ix_tup (pv 6) pe_int (fun _ _ => rfl)) pa_nil)))) pa_nil))
        (pe_callB (call_reprD hgd hr.units) (by rfl) X.B.repr (by decide +kernel) (pa_cons (pv 17) pa_nil)) (nomark _))
      (pw_or1 (pt_cmpR op_ne
        (pe_callB (call_reprD hgd hr.units) (by rfl) X.B.repr (by decide +kernel) (pa_cons (pe_callN0 G1 hr5 (by rfl) D1.g D1.F.kp (kb_mayLie D1) pass0 (pk_cons (pe_ix ix_tup (pv 6) pe_int (fun _ _ => rfl)) (pk_cons (pe_ix ix_tup (pv 6) pe_int (fun _ _ => rfl)) (pk_cons (pv 2) pk_nil)))) pa_nil))
        (pe_callB (call_reprD hgd hr.units) (by rfl) X.B.repr (by decide +kernel) (pa_cons (pv 17) pa_nil)) (nomark _)))))
    (pss_one (ps_ret pe_bl)) pss_nil, ?_⟩
  intro D H a b d li wa ca pa me al q0 du c s f x7 x8 x12 x13 x14 x15 x16 g ws due p DA hp hal hw hdu hun hline hlen q
  obtain ⟨a1, a2, a3, a4⟩ := allPl_in p hal
  have gd := (good_ints hline).mono (Nat.le_refl 1) (show 65 * due.length ≤ 6500 by omega)
  refine ⟨.ref d, rfl, .ref q0, rfl, q0, _, 0, .int p.1, rfl, rfl, .of hp, atI_nat (j := 0) rfl, .ref q0, rfl, q0, _, 1, .int p.2, rfl, rfl, .of hp, atI_nat (j := 1) rfl, d, c, s, f, g, ws, p.1, p.2, rfl, DA, a1, a2, a3, a4, by omega, fun H1 y ns S1 hy asc hm _ => ?_⟩
  obtain rfl := hun ns asc hm
  refine ⟨y, dInts ns, rfl, dp_tupI (.of hy), gd.sh, gd.nd, Nat.le_trans gd.dp (by decide), gd.len (by decide), ?_⟩
  have hdu1 := S1 _ _ hdu
  refine ⟨.ref du, rfl, du, dInts ns, rfl, dp_tupI (.of hdu1), gd.sh, gd.nd, Nat.le_trans gd.dp (by decide), gd.len (by decide), rfl, _, rfl, ?_⟩
  rw [decide_eq_true rfl]
  refine iteF ?_
  have hp1 := PlAt.fr (.of_same S1) hp
  have DA1 := DA.fr (.of_same S1) (by simp) (by simp) (by simp) (by simp)
  refine ⟨.ref q0, rfl, q0, _, 1, .int p.2, rfl, rfl, .of hp1, atI_nat (j := 1) rfl, .ref q0, rfl, q0, _, 0, .int p.1, rfl, rfl, .of hp1, atI_nat (j := 0) rfl, .ref d, rfl, rfl, rfl, d, c, s, f, g, ws, p.1, p.2, rfl, DA1, a1, a2, a3, a4, by omega, fun H2 z ns2 S2 hz asc2 hm2 _ => ?_⟩
  obtain rfl := hun ns2 asc2 hm2
  have hdu2 := S2 _ _ hdu1
  refine ⟨z, dInts ns2, rfl, dp_tupI (.of hz), gd.sh, gd.nd, Nat.le_trans gd.dp (by decide), gd.len (by decide), ?_⟩
  refine ⟨.ref du, rfl, du, dInts ns2, rfl, dp_tupI (.of hdu2), gd.sh, gd.nd, Nat.le_trans gd.dp (by decide), gd.len (by decide), rfl, _, rfl, ?_⟩
  rw [decide_eq_true rfl]
  exact iteF (q _ (S1.trans S2))
theorem law_d2 (X : Facts P w K mg base C) :
    ∃ t, PS (XL P w K mg base f0 cdv A outer s0 H0) (lawIn 9 2) t ∧ ∀ (D : Ends) (H : Hp) (a b d li wa ca pa me al du : Addr) (x6 x7 x8 x12 x13 x14 x15 : Option V) (n : Int) (due : List Int), H du = some (.tup (due.map V.int)) → due.length ≤ 1000 →
      D.nx (s9 a b d li wa ca pa me al x6 x7 x8 x12 x13 x14 x15 (some (.int (n * (due.length : Int)))) (some (.ref du))) H →
      t D (s9 a b d li wa ca pa me al x6 x7 x8 x12 x13 x14 x15 (some (.int n)) (some (.ref du))) H := by
  refine ⟨_, ps_set (i := 16) scl_nd rfl (.inl rfl) (pe_op op_mul (pv 16) (pe_callB call_len_seq (by rfl) X.B.len (by decide +kernel) (pa_cons (pv 17) pa_nil))), ?_⟩
  intro D H a b d li wa ca pa me al du x6 x7 x8 x12 x13 x14 x15 n due hdu hl q
  refine ⟨.int n, rfl, .ref du, rfl, du, _, rfl, .inr (.of hdu), n, _, rfl, rfl, .inr ⟨?_, ?_⟩, ?_⟩
  · rw [List.length_map]; omega
  · rw [List.length_map]; omega
  · rw [List.length_map]; exact q
end
end K06
namespace K06
open PySem PySem.Spec PyProof.Rows L2
/-- what is known when the law has told every lot -/
structure Fin (g : Gd) (m : List (Pl × Int)) (ws : List PlV) (ps : List Pl) : Prop where
  SM : SmallM g m
  hm : ∀ q ∈ m, q.1 ∈ ps
  hw : ∀ s ∈ ws, s.1 ∈ ps
  lw : ∀ s ∈ ws, lineS s
  w7 : ws.length ≤ 7
  al : ∀ p ∈ ps, p ∈ allPl
  p4 : ps.length ≤ 4
  nd : ps.Nodup
section
variable {P : Program} {w : World} {K : PySem.W.Frag} {mg : Str → Option Value} {base : Heap} {C f0 : Addr} {cdv : Value} {A : Around} {outer : List Env} {s0 : Shared} {H0 : Hp}
theorem law_st8 : ∃ t, PS (XL P w K mg base f0 cdv A outer s0 H0) (lawSt 8) t ∧ ∀ (D : Ends) (H : Hp) (a b d li wa ca pa me al : Addr) (x6 x7 x8 x12 x13 x14 x15 : Option V),
      D.nx (s9 a b d li wa ca pa me al x6 x7 x8 x12 x13 x14 x15 (some (.int 1)) none) H → t D (s7 a b d li wa ca pa me al x6 x7 x8 x12 x13 x14 x15) H :=
  ⟨_, ps_set (i := 16) scl_nd rfl (.inl rfl) pe_int, fun D H a b d li wa ca pa me al x6 x7 x8 x12 x13 x14 x15 q => q⟩
theorem law_st9 (X : Facts P w K mg base C) (hgd : A.guards = some []) (hr : Room 6 (A.deeper (envOfC "law" (defScope sLaw) s0.heap.objs.size f0 cdv))) :
    ∃ t, PS (XL P w K mg base f0 cdv A outer s0 H0) (lawSt 9) t ∧ ∀ (D : Ends) (H : Hp) (a b d c s f li wa ca pa me al : Addr) (ps : List Pl) (g : Gd) (m : List (Pl × Int)) (ws : List PlV) (x6 x7 x8 x12 x13 x14 x15 : Option V), WB C H d c s f li wa pa g ws m ps → Fin g m ws ps →
      H me = some (.dT (embT gL (metOf (val m) ws ps (lots ws.length)))) → AlAt P w H al (alOf (val m) ws ps (lots ws.length)) →
      (∀ H' x6 x17, Same H H' → D.nx (s9 a b d li wa ca pa me al x6 x7 x8 x12 x13 x14 x15 (some (.int (prodN (ps.map (dueL (alOf (val m) ws ps (lots ws.length))))))) x17) H') →
      t D (s9 a b d li wa ca pa me al x6 x7 x8 x12 x13 x14 x15 (some (.int 1)) none) H := by
  obtain ⟨t0, h0, q0⟩ := law_d0 (P := P) (w := w) (K := K) (mg := mg) (base := base) (C := C) (f0 := f0) (cdv := cdv) (A := A) (outer := outer) (s0 := s0) (H0 := H0) X hr
  obtain ⟨t1, h1, q1⟩ := law_d1 (P := P) (w := w) (K := K) (mg := mg) (base := base) (C := C) (f0 := f0) (cdv := cdv) (A := A) (outer := outer) (s0 := s0) (H0 := H0) X hgd hr
  obtain ⟨t2, h2, q2⟩ := law_d2 (P := P) (w := w) (K := K) (mg := mg) (base := base) (C := C) (f0 := f0) (cdv := cdv) (A := A) (outer := outer) (s0 := s0) (H0 := H0) X
  refine ⟨_, ps_for PassesOwn.never rfl (pi_list (pv 9)) (pg_name (i := 6) scl_nd rfl (Or.inr rfl)) (pss_cons h0 (pss_cons h1 (pss_one h2))), ?_⟩
  intro D H a b d c s f li wa ca pa me al ps g m ws x6 x7 x8 x12 x13 x14 x15 W N hme hal q
  obtain ⟨qs, hpa, hqs⟩ := W.Q
  have hql := Paired.length hqs
  have hLs : (lots ws.length).length ≤ 128 := by
    rw [lots_length]
    exact Nat.pow_le_pow_right (by decide) N.w7
  have hL := alOf_len (val m) ws ps (lots ws.length) N.p4
  refine ⟨.ref pa, rfl, pa, rfl, ⟨_, .of hpa⟩, ?_⟩
  refine for_it (walk_list (xs := qs.map V.ref)) (fun i σ Hx => (∃ x6 x17, σ = s9 a b d li wa ca pa me al x6 x7 x8 x12 x13 x14 x15 (some (.int (prodN ((ps.take i).map (dueL (alOf (val m) ws ps (lots ws.length))))))) x17) ∧ Same H Hx) ?_ ?_ ?_ ?_
  · exact ⟨⟨_, _, rfl⟩, .refl H⟩
  · rintro i σ Hx hi ⟨_, S⟩
    exact .of (S _ _ hpa)
  · rintro i x σ Hx H' hi ⟨⟨x6, x17, rfl⟩, S⟩ ⟨rfl, hx⟩
    rw [List.getElem?_map] at hx
    obtain ⟨qa, hqa, rfl⟩ := Option.map_eq_some_iff.mp hx
    obtain ⟨p, hpi, hp0⟩ := Paired.get' hqs hqa
    have hpm := List.mem_of_getElem? hpi
    have hpal := N.al p hpm
    obtain ⟨a1, a2, a3, a4⟩ := allPl_in p hpal
    refine q0 _ _ a b d li wa ca pa me al qa _ _ _ _ _ _ _ _ _ p (hal.fr (.of_same S) (by simp)) (by omega) (S _ _ hp0) fun Ha du due Sa hdu hperm hle => ?_
    have Sa' := S.trans Sa
    have hmem : ∀ v, v ∈ due ↔ v ∈ may (val m) ws p := fun v => by
      rw [hperm.mem_iff, mem_dueL, mem_alOf]
      exact ⟨fun h => h.2, fun h => ⟨hpm, h⟩⟩
    have hdl : due.length ≤ 512 := by
      rw [hperm.length_eq]
      unfold dueL
      rw [List.length_map]
      exact Nat.le_trans (List.length_filter_le _ _) (by omega)
    have hdue : due.Pairwise (· < ·) := asc_of_le hle (hperm.nodup_iff.mpr (nodup_dueL (nodup_alOf _ _ _ _) p))
    have hdl2 : due.length ≤ 100 := by
      have h1 : ∀ {l l2 : List Int}, l.Nodup → (∀ x ∈ l, x ∈ l2) → l.length ≤ l2.length := by
        intro l
        induction l with
        | nil => intro l2 _ _; exact Nat.zero_le _
        | cons x l ih =>
          intro l2 hn hs
          obtain ⟨hx, hn⟩ := List.nodup_cons.mp hn
          have hxm := hs x List.mem_cons_self
          have := ih (l2 := l2.erase x) hn fun y hy => (List.mem_erase_of_ne fun e => hx (by rw [← e]; exact hy)).mpr (hs y (List.mem_cons_of_mem _ hy))
          rw [List.length_erase_of_mem hxm] at this
          have := List.length_pos_of_mem hxm
          rw [List.length_cons]; omega
      have h2 := h1 (hperm.nodup_iff.mpr (nodup_dueL (nodup_alOf _ _ _ _) p)) (fun v hv => (hmem v).mp hv)
      have h3 : (may (val m) ws p).length ≤ 8 := by
        unfold may
        rw [List.length_cons, List.length_map]
        have := N.w7
        exact Nat.le_trans (Nat.succ_le_succ (List.length_filter_le _ _)) (by omega)
      omega
    refine q1 _ _ a b d li wa ca pa me al qa du c s f _ _ _ _ _ _ _ g ws due p (W.D.fr (.of_same Sa') (by simp) (by simp) (by simp) (by simp)) (Sa' _ _ hp0) hpal N.w7 hdu (fun ns asc hns => ?_) (fun v hv => may_line N.SM.li N.lw p v ((hmem v).mp hv)) hdl2 fun Hb Sb => ?_
    · exact (due_is hpm hperm hle asc fun v => by rw [hns, may_valC N.SM a1 a2]).symm
    refine q2 _ _ a b d li wa ca pa me al du _ _ _ _ _ _ _ _ due (Sb _ _ hdu) (by omega) ⟨⟨some (.ref qa), some (.ref du), ?_⟩, Sa'.trans Sb⟩
    have e : prodN ((ps.take (i + 1)).map (dueL (alOf (val m) ws ps (lots ws.length)))) = prodN ((ps.take i).map (dueL (alOf (val m) ws ps (lots ws.length)))) * (due.length : Int) := by
      rw [take_snoc hpi, List.map_append, show [p].map (dueL (alOf (val m) ws ps (lots ws.length))) = [dueL (alOf (val m) ws ps (lots ws.length)) p] from rfl, prodN_snoc, hperm.length_eq]
    rw [e]
  · rintro σ Hx ⟨⟨x6, x17, rfl⟩, S⟩
    rw [List.length_map, hql, List.take_length]
    exact q Hx x6 x17 S
theorem law_st10 (X : Facts P w K mg base C) (hgd : A.guards = some []) (hr : Room 6 (A.deeper (envOfC "law" (defScope sLaw) s0.heap.objs.size f0 cdv))) :
    ∃ t, PS (XL P w K mg base f0 cdv A outer s0 H0) (lawSt 10) t ∧ ∀ (D : Ends) (H : Hp) (a b d c s f li wa ca pa me al : Addr) (ps : List Pl) (g : Gd) (m : List (Pl × Int)) (ws : List PlV) (x6 x7 x8 x12 x13 x14 x15 x17 : Option V), WB C H d c s f li wa pa g ws m ps → Fin g m ws ps →
      H me = some (.dT (embT gL (metOf (val m) ws ps (lots ws.length)))) →
      (∀ H', Same H H' → D.nx (s9 a b d li wa ca pa me al x6 x7 x8 x12 x13 x14 x15 (some (.int (prodN (ps.map (dueL (alOf (val m) ws ps (lots ws.length))))))) x17) H') →
      t D (s9 a b d li wa ca pa me al x6 x7 x8 x12 x13 x14 x15 (some (.int (prodN (ps.map (dueL (alOf (val m) ws ps (lots ws.length))))))) x17) H := by
  obtain ⟨f1, fd1, D1, G1⟩ := X.is_
  refine ⟨_, ps_if (PW.pt (pw_or (pt_cmpR op_ne (pe_callB call_len_dT (by rfl) X.B.len (by decide +kernel) (pa_cons (pv 10) pa_nil)) (pv 16) (nomark _))
    (pw_or1 (pt_not (pt_val (pe_callG G1 hgd hr (by rfl) D1.g D1.F.kp D1.b (pa_cons (pv 2) (pa_cons (pv 3) (pa_cons (pv 4) pa_nil))))))))) (pss_one (ps_ret pe_bl)) pss_nil, ?_⟩
  intro D H a b d c s f li wa ca pa me al ps g m ws x6 x7 x8 x12 x13 x14 x15 x17 W N hme q
  refine ⟨.ref me, rfl, me, _, rfl, hme, .int _, rfl, rfl, _, rfl, ?_⟩
  rw [embT_length, met_count N.nd, decide_eq_true rfl]
  refine iteF ?_
  refine ⟨.ref d, rfl, .ref li, rfl, .ref wa, rfl, d, c, s, f, g, ws, li, m, wa, rfl, W.D, W.L, N.SM, W.W, by have := N.w7; omega, N.lw, fun H' S => ⟨true, rfl, iteF (q H' S)⟩⟩
end
end K06
namespace K06
open PySem PySem.Spec PyProof.Rows L2
section
variable {P : Program} {w : World} {K : PySem.W.Frag} {mg : Str → Option Value} {base : Heap} {C f0 : Addr} {cdv : Value} {A : Around} {outer : List Env} {s0 : Shared} {H0 : Hp}
theorem law_st11 (X : Facts P w K mg base C) (hr : Room 6 (A.deeper (envOfC "law" (defScope sLaw) s0.heap.objs.size f0 cdv))) :
    ∃ t, PS (XL P w K mg base f0 cdv A outer s0 H0) (lawSt 11) t ∧ ∀ (D : Ends) (H : Hp) (a b d c s f li wa ca pa me al : Addr) (ps : List Pl) (g : Gd) (m : List (Pl × Int)) (ws : List PlV) (x6 x7 x8 x12 x13 x14 x15 x16 x17 : Option V), WB C H d c s f li wa pa g ws m ps → Fin g m ws ps →
      AlAt P w H al (alOf (val m) ws ps (lots ws.length)) → (∀ H', D.rt (.bl true) H') →
      t D (s9 a b d li wa ca pa me al x6 x7 x8 x12 x13 x14 x15 x16 x17) H := by
  obtain ⟨f1, fd1, D1, G1⟩ := X.mayLie.ex
  have hr5 := hr.mono (by decide : 5 ≤ 6)
  refine ⟨_, ps_ret (pe_and
    (pe_cmpR (op_eqD hr.units) (pe_call G1 hr5 (by rfl) D1.g D1.F.kp D1.b .nil pass0 (pa_cons (pv 2) (pa_cons pe_int (pa_cons pe_int pa_nil)))) (pe_tup (pa_cons pe_int pa_nil)) (nomark _))
    (pe_one (pe_cmpR (op_eqD hr.units) (pe_call G1 hr5 (by rfl) D1.g D1.F.kp D1.b .nil pass0 (pa_cons (pv 2) (pa_cons pe_int (pa_cons pe_int pa_nil))))
      (pe_callTy call_tuple_of (by rfl) X.B.tuple (by decide +kernel) (pa_cons (pe_callB cr_sortedI (by rfl) X.B.sorted (by decide +kernel) (pa_cons
        (pe_orT (pe_lock (pe_lc (own := [("_law_value", 7), ("_law_spot", 19)]) (g := gTup K 2 (gCons (gName 19) (gCons (gName 7) gNil))) (tt := tTest (tOp (rEqD K) (tVar 19) (tTup (tCons (tC (.int 0)) (tCons (tC (.int 10000000)) tNil))))) rfl scl_nd (pi_keysN (pv 11)) (blkOk_by (own := [("_law_value", 7), ("_law_spot", 19)]) (N := nLaw) (sc := defScope sLaw) (by decide +kernel))
          (fun _ _ _ _ _ => pg_tup rfl (pgs_cons (pg_name (i := 19) scl_nd rfl (Or.inl rfl)) (pgs_cons (pg_name (i := 7) scl_nd rfl (Or.inl rfl)) pgs_nil)))
          (fun _ _ _ _ _ => pts_one (pt_cmpR (op_eqD hr.units) (pv 19) (pe_tup (pa_cons pe_int (pa_cons pe_int pa_nil))) (nomark _))) (fun _ _ _ _ _ => pv 7)))
          (pe_one (pe_lst (pa_cons pe_int pa_nil)))) pa_nil)) pa_nil)) (nomark _)))), ?_⟩
  intro D H a b d c s f li wa ca pa me al ps g m ws x6 x7 x8 x12 x13 x14 x15 x16 x17 W N hA q
  have w7 := N.w7
  refine ⟨.ref d, rfl, d, c, s, f, g, ws, 2, 1234567, rfl, W.D, by decide, by decide, by decide, by decide, by omega, fun H1 y ns S1 hy asc hm _ => ?_⟩
  have hns : ns = [0] := by
    refine may_zero N.hm N.hw (p := (2, 1234567)) (fun z => ?_) asc fun v => by rw [hm, may_valC N.SM (by decide) (by decide)]
    have := N.al _ z
    exact absurd this (by decide +kernel)
  subst hns
  refine ⟨by show 1 ≤ sizeLine; decide, fun z nz => ?_⟩
  have S2 := same_up (o := .tup [V.int 0]) S1 nz
  refine ⟨dInts [0], dInts [0], dp_tupI (.of (same_upd nz _ _ hy)), dp_tupI (ns := [0]) (.of upd_same), shaped_ints _, shaped_ints _, _, rfl, ?_⟩
  rw [eqv_ints, decide_eq_true rfl]
  refine iteT ?_
  have DA := W.D.fr (.of_same S2) (by simp) (by simp) (by simp) (by simp)
  refine ⟨.ref d, rfl, d, c, s, f, g, ws, 0, 10000000, rfl, DA, by decide, by decide, by decide, by decide, by omega, fun H3 y3 ns S3 hy3 asc hm _ => ?_⟩
  have hm' : ∀ v, v ∈ ns ↔ v ∈ may (val m) ws (0, 10000000) := fun v => by rw [hm, may_valC N.SM (by decide) (by decide)]
  have S03 := S2.trans S3
  obtain ⟨xs, hal, hk, hL⟩ := hA.fr (.of_same S03) (by simp)
  refine ⟨al, _, hal, trivial, fun od => ?_⟩
  have hne : ∀ {y : Addr} {zs : List V}, H3 y = some (.tup zs) → y ≠ al := fun e => ne_of e hal (by intro z; cases z)
  have up : ∀ {y : Addr} {zs : List V}, H3 y = some (.tup zs) → upd H3 al (.frz od (ND P w al xs)) y = some (.tup zs) := fun e => by rw [upd_ne (hne e)]; exact e
  refine ⟨.ref al, rfl, al, od, xs, rfl, upd_same, fun F nF => ?_⟩
  have hFal : F ≠ al := fun z => by rw [z, upd_same] at nF; cases nF
  have hxl : xs.length ≤ 1000 := by
    have h1 := congrArg List.length hL
    rw [List.length_map] at h1
    have h2 := alOf_len (val m) ws ps (lots ws.length) N.p4
    have hLs : (lots ws.length).length ≤ 128 := by
      rw [lots_length]
      exact Nat.pow_le_pow_right (by decide) N.w7
    omega
  refine lc_fr (S := []) (walk_nd (xs := xs)) nF (by simp) (by simp) (Nat.le_of_lt (small1000 hxl)) (fun i acc Hx => acc = (dueL ((xs.map (·.1)).take i) (0, 10000000)).map V.int) (fun i acc Hx Hy f h => h)
    (fun i acc H' f _ => f.same _ _ upd_same) (fun _ _ => rfl) ?_ ?_
  · rintro i x H4 H5 acc hi f eF rfl ⟨rfl, pv0, kb, hxi, rfl⟩ Qk Nk hq hn
    obtain ⟨r, hr1, hr2⟩ := hk _ (List.mem_of_getElem? hxi)
    have hr1 := f.tup (up hr1)
    have hr2 := f.tup (up hr2)
    have hki : (xs.map (·.1))[i]? = some pv0 := by rw [List.getElem?_map, hxi]; rfl
    refine ⟨kb, _, rfl, .of hr1, rfl, .ref r, _, rfl, .int pv0.2, _, rfl, rfl, rfl, ?_⟩
    refine ⟨.ref r, rfl, by show 2 ≤ sizeLine; decide, fun u nu => ?_⟩
    have F6 : Fr [] H5 (upd H5 u (.tup [.int 0, .int 10000000])) := Fr.new nu
    refine ⟨dPl pv0.1, dPl (0, 10000000), PlAt.dp (F6.tup hr2), PlAt.dp (p := (0, 10000000)) upd_same, shaped_pl _, shaped_pl _, _, rfl, ?_⟩
    rw [eqv_pl]
    rw [take_snoc hki, dueL_snoc] at hq hn
    by_cases h : pv0.1 = (0, 10000000)
    · rw [decide_eq_true h]
      rw [if_pos h] at hq
      refine iteT ⟨.int pv0.2, rfl, hq _ _ F6 ?_⟩
      rw [List.map_append]; rfl
    · rw [decide_eq_false h]
      rw [if_neg h, List.append_nil] at hn
      exact iteF (hn _ F6 rfl)
  · rintro H4 acc f eF _ rfl
    have hd1 : H4 al = some (.frz od (ND P w al xs)) := f.same _ _ upd_same
    refine ⟨hd1, ?_⟩
    have e0 : (xs.map (·.1)).take xs.length = xs.map (·.1) := by
      apply List.take_of_length_le; rw [List.length_map]; exact Nat.le_refl _
    rw [e0, hL] at eF
    have S4 : Same H3 (upd H4 al (ND P w al xs)) := by
      intro b o e
      by_cases hb : b = al
      · rw [hb, upd_same, ← hal, ← hb]; exact e
      · rw [upd_ne hb]
        exact f.same _ _ (by rw [upd_ne hb]; exact e)
    have eF' : upd H4 al (ND P w al xs) F = some (.lst ((dueL (alOf (val m) ws ps (lots ws.length)) (0, 10000000)).map V.int)) := by rw [upd_ne hFal]; exact eF
    have fin : ∀ (H6 : Hp) (ns' : List Int) (y6 : Addr), Same H3 H6 → H6 y6 = none → ns' = ns → ∃ p ys, [V.ref y6] = [V.ref p] ∧ ((SqL K (upd H6 y6 (.lst (ns'.map V.int))) p ys ∧ ∀ l, upd H6 y6 (.lst (ns'.map V.int)) l = none → rEqD K (.ref y3) (.ref l) (upd (upd H6 y6 (.lst (ns'.map V.int))) l (.tup ys)) D.rt) ∨
        (SqT K (upd H6 y6 (.lst (ns'.map V.int))) p ys ∧ rEqD K (.ref y3) (.ref p) (upd H6 y6 (.lst (ns'.map V.int))) D.rt)) := by
      intro H6 ns' y6 S6 n6 e
      refine ⟨y6, _, rfl, .inl ⟨.of upd_same, fun l nl => ?_⟩⟩
      subst e
      refine ⟨dInts ns', dInts ns', dp_tupI (.of (same_upd nl _ _ (same_upd n6 _ _ (S6 _ _ hy3)))), dp_tupI (.of upd_same), shaped_ints _, shaped_ints _, ?_⟩
      rw [eqv_ints, decide_eq_true rfl]
      exact q _
    by_cases hp : (0, 10000000) ∈ ps
    · have hpos : dueL (alOf (val m) ws ps (lots ws.length)) (0, 10000000) ≠ [] := by
        intro z
        have : val m (0, 10000000) ∈ dueL (alOf (val m) ws ps (lots ws.length)) (0, 10000000) := mem_dueL.mpr (mem_alOf.mpr ⟨hp, mem_may.mpr (.inl rfl)⟩)
        rw [z] at this; cases this
      refine ⟨true, .inl ⟨_, .of eF', ?_⟩, iteT ?_⟩
      · cases z : dueL (alOf (val m) ws ps (lots ws.length)) (0, 10000000) with
        | nil => exact absurd z hpos
        | cons x l => rfl
      refine ⟨F, _, rfl, .of eF', fun ns' y6 h1 h2 n6 => fin _ ns' y6 S4 n6 (due_is hp h1 h2 asc hm')⟩
    · have hnil : dueL (alOf (val m) ws ps (lots ws.length)) (0, 10000000) = [] := by
        cases z : dueL (alOf (val m) ws ps (lots ws.length)) (0, 10000000) with
        | nil => rfl
        | cons x l =>
          have : x ∈ dueL (alOf (val m) ws ps (lots ws.length)) (0, 10000000) := by rw [z]; exact List.mem_cons_self
          exact absurd (mem_alOf.mp (mem_dueL.mp this)).1 hp
      have hns : ns = [0] := may_zero N.hm N.hw hp asc hm'
      rw [hnil] at eF'
      refine ⟨false, .inl ⟨_, .of eF', rfl⟩, iteF ⟨by show 1 ≤ sizeLine; decide, fun u nu => ?_⟩⟩
      refine ⟨u, [0], rfl, .of upd_same, fun ns' y6 h1 h2 n6 => fin _ ns' y6 (same_up S4 nu) n6 ?_⟩
      rw [hns]; exact List.perm_singleton.mp h1
end
end K06
namespace K06
open PySem PySem.Spec PyProof.Rows L2
section
variable {P : Program} {w : World} {K : PySem.W.Frag} {mg : Str → Option Value} {base : Heap} {C : Addr}
def spLaw (K : PySem.W.Frag) : Sp := fun vs H Q _ => ∃ (a : Addr) (ns : List Int), vs = [.ref a] ∧ SqL K H a (ns.map V.int) ∧ ∀ H', Q (.bl true) H'
theorem ok_law {f : Addr} {fd : FuncData} (F : Fun K "law" "law" sLaw f fd) (X : Facts P w K mg base C) : FnG P w K mg base 7 f fd ["_law_script"] (spLaw K) := by
  refine okG F scLaw (fun vs H Q E h => ?_) (fun cdv A outer s0 H vs Q hgd hr h => ?_)
  · obtain ⟨a, ns, rfl, _⟩ := h; rfl
  · obtain ⟨a, ns, rfl, ha, q⟩ := h
    obtain ⟨t0, h0, q0⟩ := law_st0 (outer := outer) (H0 := H) X hr
    obtain ⟨t1, h1, q1⟩ := law_st1 (outer := outer) (H0 := H) X hr
    obtain ⟨t2, h2, q2⟩ := law_st2 (outer := outer) (H0 := H) X hr
    obtain ⟨t3, h3, q3⟩ := law_st3 (outer := outer) (H0 := H) X hr
    obtain ⟨t4, h4, q4⟩ := law_st4 (outer := outer) (H0 := H) X hr
    obtain ⟨t5, h5, q5⟩ := law_st5 (outer := outer) (H0 := H) X hr
    obtain ⟨t6, h6, q6⟩ := law_st6 (outer := outer) (H0 := H) X hr
    obtain ⟨t7, h7, q7⟩ := law_st7 (outer := outer) (H0 := H) X hr
    obtain ⟨t8, h8, q8⟩ := law_st8 (P := P) (w := w) (K := K) (mg := mg) (base := base) (f0 := f) (cdv := cdv) (A := A) (outer := outer) (s0 := s0) (H0 := H)
    obtain ⟨t9, h9, q9⟩ := law_st9 (outer := outer) (H0 := H) X hgd hr
    obtain ⟨t10, h10, q10⟩ := law_st10 (outer := outer) (H0 := H) X hgd hr
    obtain ⟨t11, h11, q11⟩ := law_st11 (outer := outer) (H0 := H) X hr
    refine ⟨_, pss_cons h0 (pss_cons h1 (pss_cons h2 (pss_cons h3 (pss_cons h4 (pss_cons h5 (pss_cons h6 (pss_cons h7 (pss_cons h8 (pss_cons h9 (pss_cons h10 (pss_one h11))))))))))), ?_⟩
    refine q0 _ H a ns ha fun H1 b l S1 nb nl B1 => ?_
    refine q1 _ H1 a b l B1 fun H2 d c s f li wa W2 => ?_
    refine q2 _ H2 a b l d c s f li wa W2 fun H3 ca ps W3 P3 hp0 hp4 hal hcs hcw => ?_
    refine q3 _ H3 a b l d c s f li wa ca ps W3 P3 hp4 hal hcs hcw fun H4 ss x6 x7 W4 P4 hs4 hok => ?_
    refine q4 _ H4 a b l d c s f li wa ca ps ss x6 x7 W4 P4 hs4 hok hal hcw fun H5 c' s' f' W5 P5 hcs' => ?_
    refine q5 _ H5 a b l d c' s' f' li wa ca ps (landC g0 ss) (land [] ss) x6 x7 W5 P5 hp0 hp4 hal hcs' hcw fun H6 ws x6 x7 x8 W6 P6 hw7 hokw => ?_
    refine q6 _ H6 a b l d c' s' f' li wa ca ps (landC g0 ss) (land [] ss) ws x6 x7 x8 W6 P6 hp4 fun H7 pa me al ps' W7 hnd hmem hp4' hme hal7 hfm hlm => ?_
    have SM := small_of hok hal hs4
    have hal' : ∀ p ∈ ps', p ∈ allPl := fun p hp => hal p ((hmem p).mp hp)
    have hm : ∀ q ∈ land [] ss, q.1 ∈ ps' := fun q hq => by
      rcases land_from ss [] q hq with z | z
      · cases z
      · exact (hmem _).mpr (hok q z).1
    have hw : ∀ s ∈ ws, s.1 ∈ ps' := fun s hs => (hmem _).mpr (hokw s hs).1
    have N : Fin (landC g0 ss) (land [] ss) ws ps' := ⟨SM, hm, hw, hokw.line hal, hw7, hal', hp4', hnd⟩
    have hml : (land [] ss).length ≤ 4 := by
      have := length_land ss ([] : List (Pl × Int))
      rw [List.length_nil, Nat.zero_add] at this
      omega
    refine q7 _ H7 a b d c' s' f' li wa ca pa me al ps' (landC g0 ss) (land [] ss) ws x6 x7 x8 W7 SM (fun q hq => hal' _ (hm q hq)) hml hw7 (hokw.tracked hal) hal' hp4' hme hal7 hfm hlm fun H8 x6 x7 x12 x13 x14 x15 W8 hme8 hal8 => ?_
    refine q8 _ H8 a b d li wa ca pa me al x6 x7 x8 x12 x13 x14 x15 ?_
    refine q9 _ H8 a b d c' s' f' li wa ca pa me al ps' (landC g0 ss) (land [] ss) ws x6 x7 x8 x12 x13 x14 x15 W8 N hme8 hal8 fun H9 x6 x17 S9 => ?_
    refine q10 _ H9 a b d c' s' f' li wa ca pa me al ps' (landC g0 ss) (land [] ss) ws x6 x7 x8 x12 x13 x14 x15 x17 (W8.same S9) N (S9 _ _ hme8) fun H10 S10 => ?_
    exact q11 _ H10 a b d c' s' f' li wa ca pa me al ps' (landC g0 ss) (land [] ss) ws x6 x7 x8 x12 x13 x14 x15 _ x17 (W8.same (S9.trans S10)) N (hal8.fr (.of_same (S9.trans S10)) (by simp)) q
end
end K06
namespace K06
open PySem PySem.Spec PyProof.Rows L2
section
variable {K : PySem.W.Frag} {h : Heap} {mg : Str → Option Value}
theorem df_of {x : Str} {st : Stmt} {ps : List Str} {f : Addr} {oc : Value} {od an : Option Addr} {sl : Array (Option Value)} {kV dc pm cd ct : Value} (X : K.In h) (G : h.Ns mainGlobals mg) (a : PySem.W.nsIn K mainGlobals x = some (some (.ref f)))
    (l : K.lookup f = some ⟨oc, od, .func (PySem.W.fnOf x x (defArgs st) (defBody st) (defScope st) .none kV dc pm an cd ct), sl⟩) (c : PySem.W.codeIn K cd x = true) (k : PySem.W.keepIn K (.ref f) = true)
    (hb : ∀ (kV doc pm : Value) (an : Option Addr) (cdv ct : Value) (us : List Value), us.length = ps.length → bindArgs (PySem.W.fnOf x x (defArgs st) (defBody st) (defScope st) .none kV doc pm an cdv ct) ⟨us, []⟩ = pure (ps.zip us)) :
    Df K mg x st ps f (PySem.W.fnOf x x (defArgs st) (defBody st) (defScope st) .none kV dc pm an cd ct) := ⟨fun_mk l c k, (fun_mk l c k).binds hb, PySem.W.mg_of X G a⟩
theorem md_of {C : Addr} {x q : Str} {st : Stmt} {ps : List Str} {f : Addr} {oc : Value} {od an : Option Addr} {sl : Array (Option Value)} {kV dc pm cd ct : Value} (a : PySem.W.findIn K (.ref C) x = some (some (.ref f))) (i : PySem.W.isFn K (.ref f) = true)
    (l : K.lookup f = some ⟨oc, od, .func (PySem.W.fnOf x q (defArgs st) (defBody st) (defScope st) .none kV dc pm an cd ct), sl⟩) (c : PySem.W.codeIn K cd q = true) (k : PySem.W.keepIn K (.ref f) = true)
    (hb : ∀ (kV doc pm : Value) (an : Option Addr) (cdv ct : Value) (us : List Value), us.length = ps.length → bindArgs (PySem.W.fnOf x q (defArgs st) (defBody st) (defScope st) .none kV doc pm an cdv ct) ⟨us, []⟩ = pure (ps.zip us)) :
    Md K C x q st ps f (PySem.W.fnOf x q (defArgs st) (defBody st) (defScope st) .none kV dc pm an cd ct) := ⟨fun_mk l c k, (fun_mk l c k).binds hb, ⟨a, i, k⟩⟩
end
theorem all_mk {l : PySem.W.OpenLaw} {w : World} {K : PySem.W.Frag} {h : Heap} {mg : Str → Option Value} {fa C : Addr} (X : K.In h) (G : h.Ns mainGlobals mg) (hfa : mg "law" = some (.ref fa))
    {f1 : Addr} {oc1 kV1 dc1 pm1 cd1 ct1 : Value} {od1 an1 : Option Addr} {sl1 : Array (Option Value)}
    {f2 : Addr} {oc2 kV2 dc2 pm2 cd2 ct2 : Value} {od2 an2 : Option Addr} {sl2 : Array (Option Value)}
    {f3 : Addr} {oc3 kV3 dc3 pm3 cd3 ct3 : Value} {od3 an3 : Option Addr} {sl3 : Array (Option Value)}
    {f4 : Addr} {oc4 kV4 dc4 pm4 cd4 ct4 : Value} {od4 an4 : Option Addr} {sl4 : Array (Option Value)}
    {f5 : Addr} {oc5 kV5 dc5 pm5 cd5 ct5 : Value} {od5 an5 : Option Addr} {sl5 : Array (Option Value)}
    {f6 : Addr} {oc6 kV6 dc6 pm6 cd6 ct6 : Value} {od6 an6 : Option Addr} {sl6 : Array (Option Value)}
    {f7 : Addr} {oc7 kV7 dc7 pm7 cd7 ct7 : Value} {od7 an7 : Option Addr} {sl7 : Array (Option Value)}
    {f8 : Addr} {oc8 kV8 dc8 pm8 cd8 ct8 : Value} {od8 an8 : Option Addr} {sl8 : Array (Option Value)}
    {f9 : Addr} {oc9 kV9 dc9 pm9 cd9 ct9 : Value} {od9 an9 : Option Addr} {sl9 : Array (Option Value)}
    {f10 : Addr} {oc10 kV10 dc10 pm10 cd10 ct10 : Value} {od10 an10 : Option Addr} {sl10 : Array (Option Value)}
    {f11 : Addr} {oc11 kV11 dc11 pm11 cd11 ct11 : Value} {od11 an11 : Option Addr} {sl11 : Array (Option Value)}
    {f12 : Addr} {oc12 kV12 dc12 pm12 cd12 ct12 : Value} {od12 an12 : Option Addr} {sl12 : Array (Option Value)}
    {f13 : Addr} {oc13 kV13 dc13 pm13 cd13 ct13 : Value} {od13 an13 : Option Addr} {sl13 : Array (Option Value)}
    {f14 : Addr} {oc14 kV14 dc14 pm14 cd14 ct14 : Value} {od14 an14 : Option Addr} {sl14 : Array (Option Value)}
    {f15 : Addr} {oc15 kV15 dc15 pm15 cd15 ct15 : Value} {od15 an15 : Option Addr} {sl15 : Array (Option Value)}
    {f16 : Addr} {oc16 kV16 dc16 pm16 cd16 ct16 : Value} {od16 an16 : Option Addr} {sl16 : Array (Option Value)}
    {f17 : Addr} {oc17 kV17 dc17 pm17 cd17 ct17 : Value} {od17 an17 : Option Addr} {sl17 : Array (Option Value)}
    {f18 : Addr} {oc18 kV18 dc18 pm18 cd18 ct18 : Value} {od18 an18 : Option Addr} {sl18 : Array (Option Value)}
    {f19 : Addr} {oc19 kV19 dc19 pm19 cd19 ct19 : Value} {od19 an19 : Option Addr} {sl19 : Array (Option Value)}
    {f20 : Addr} {oc20 kV20 dc20 pm20 cd20 ct20 : Value} {od20 an20 : Option Addr} {sl20 : Array (Option Value)}
    {f21 : Addr} {oc21 kV21 dc21 pm21 cd21 ct21 : Value} {od21 an21 : Option Addr} {sl21 : Array (Option Value)}
    {f22 : Addr} {oc22 kV22 dc22 pm22 cd22 ct22 : Value} {od22 an22 : Option Addr} {sl22 : Array (Option Value)}
    {f23 : Addr} {oc23 kV23 dc23 pm23 cd23 ct23 : Value} {od23 an23 : Option Addr} {sl23 : Array (Option Value)}
    {f24 : Addr} {oc24 kV24 dc24 pm24 cd24 ct24 : Value} {od24 an24 : Option Addr} {sl24 : Array (Option Value)}
    {f25 : Addr} {oc25 kV25 dc25 pm25 cd25 ct25 : Value} {od25 an25 : Option Addr} {sl25 : Array (Option Value)}
    {f26 : Addr} {oc26 kV26 dc26 pm26 cd26 ct26 : Value} {od26 an26 : Option Addr} {sl26 : Array (Option Value)}
    {f27 : Addr} {oc27 kV27 dc27 pm27 cd27 ct27 : Value} {od27 an27 : Option Addr} {sl27 : Array (Option Value)}
    {f28 : Addr} {oc28 kV28 dc28 pm28 cd28 ct28 : Value} {od28 an28 : Option Addr} {sl28 : Array (Option Value)}
    {f29 : Addr} {oc29 kV29 dc29 pm29 cd29 ct29 : Value} {od29 an29 : Option Addr} {sl29 : Array (Option Value)}
    {T : Addr} {oT : Value} {odT : Option Addr} {aT : Array Value} {nT : Nat} {slT : Array (Option Value)} {tk : Tok}
    {f30 : Addr} {oc30 kV30 dc30 pm30 cd30 ct30 : Value} {od30 an30 : Option Addr} {sl30 : Array (Option Value)}
    {u0 u1 u2 u3 : Tok}
    (a1 : PySem.W.nsIn K mainGlobals "is_integer" = some (some (.ref f1))) (l1 : K.lookup f1 = some ⟨oc1, od1, .func (PySem.W.fnOf "is_integer" "is_integer" (defArgs sIsInt) (defBody sIsInt) (defScope sIsInt) .none kV1 dc1 pm1 an1 cd1 ct1), sl1⟩) (c1 : PySem.W.codeIn K cd1 "is_integer" = true) (k1 : PySem.W.keepIn K (.ref f1) = true)
    (a2 : PySem.W.nsIn K mainGlobals "is_within" = some (some (.ref f2))) (l2 : K.lookup f2 = some ⟨oc2, od2, .func (PySem.W.fnOf "is_within" "is_within" (defArgs sWithin) (defBody sWithin) (defScope sWithin) .none kV2 dc2 pm2 an2 cd2 ct2), sl2⟩) (c2 : PySem.W.codeIn K cd2 "is_within" = true) (k2 : PySem.W.keepIn K (.ref f2) = true)
    (a3 : PySem.W.nsIn K mainGlobals "are_integers" = some (some (.ref f3))) (l3 : K.lookup f3 = some ⟨oc3, od3, .func (PySem.W.fnOf "are_integers" "are_integers" (defArgs sAreInts) (defBody sAreInts) (defScope sAreInts) .none kV3 dc3 pm3 an3 cd3 ct3), sl3⟩) (c3 : PySem.W.codeIn K cd3 "are_integers" = true) (k3 : PySem.W.keepIn K (.ref f3) = true)
    (a4 : PySem.W.nsIn K mainGlobals "is_lot" = some (some (.ref f4))) (l4 : K.lookup f4 = some ⟨oc4, od4, .func (PySem.W.fnOf "is_lot" "is_lot" (defArgs sIsLot) (defBody sIsLot) (defScope sIsLot) .none kV4 dc4 pm4 an4 cd4 ct4), sl4⟩) (c4 : PySem.W.codeIn K cd4 "is_lot" = true) (k4 : PySem.W.keepIn K (.ref f4) = true)
    (a5 : PySem.W.nsIn K mainGlobals "need_number" = some (some (.ref f5))) (l5 : K.lookup f5 = some ⟨oc5, od5, .func (PySem.W.fnOf "need_number" "need_number" (defArgs sNeedNum) (defBody sNeedNum) (defScope sNeedNum) .none kV5 dc5 pm5 an5 cd5 ct5), sl5⟩) (c5 : PySem.W.codeIn K cd5 "need_number" = true) (k5 : PySem.W.keepIn K (.ref f5) = true)
    (a6 : PySem.W.nsIn K mainGlobals "need_track" = some (some (.ref f6))) (l6 : K.lookup f6 = some ⟨oc6, od6, .func (PySem.W.fnOf "need_track" "need_track" (defArgs sNeedTrack) (defBody sNeedTrack) (defScope sNeedTrack) .none kV6 dc6 pm6 an6 cd6 ct6), sl6⟩) (c6 : PySem.W.codeIn K cd6 "need_track" = true) (k6 : PySem.W.keepIn K (.ref f6) = true)
    (a7 : PySem.W.nsIn K mainGlobals "need_cell" = some (some (.ref f7))) (l7 : K.lookup f7 = some ⟨oc7, od7, .func (PySem.W.fnOf "need_cell" "need_cell" (defArgs sNeedCell) (defBody sNeedCell) (defScope sNeedCell) .none kV7 dc7 pm7 an7 cd7 ct7), sl7⟩) (c7 : PySem.W.codeIn K cd7 "need_cell" = true) (k7 : PySem.W.keepIn K (.ref f7) = true)
    (a8 : PySem.W.nsIn K mainGlobals "most_from" = some (some (.ref f8))) (l8 : K.lookup f8 = some ⟨oc8, od8, .func (PySem.W.fnOf "most_from" "most_from" (defArgs sMostFrom) (defBody sMostFrom) (defScope sMostFrom) .none kV8 dc8 pm8 an8 cd8 ct8), sl8⟩) (c8 : PySem.W.codeIn K cd8 "most_from" = true) (k8 : PySem.W.keepIn K (.ref f8) = true)
    (a9 : PySem.W.nsIn K mainGlobals "are_values" = some (some (.ref f9))) (l9 : K.lookup f9 = some ⟨oc9, od9, .func (PySem.W.fnOf "are_values" "are_values" (defArgs sAreVals) (defBody sAreVals) (defScope sAreVals) .none kV9 dc9 pm9 an9 cd9 ct9), sl9⟩) (c9 : PySem.W.codeIn K cd9 "are_values" = true) (k9 : PySem.W.keepIn K (.ref f9) = true)
    (a10 : PySem.W.nsIn K mainGlobals "landed" = some (some (.ref f10))) (l10 : K.lookup f10 = some ⟨oc10, od10, .func (PySem.W.fnOf "landed" "landed" (defArgs sLanded) (defBody sLanded) (defScope sLanded) .none kV10 dc10 pm10 an10 cd10 ct10), sl10⟩) (c10 : PySem.W.codeIn K cd10 "landed" = true) (k10 : PySem.W.keepIn K (.ref f10) = true)
    (a11 : PySem.W.nsIn K mainGlobals "pairs_in" = some (some (.ref f11))) (l11 : K.lookup f11 = some ⟨oc11, od11, .func (PySem.W.fnOf "pairs_in" "pairs_in" (defArgs sPairsIn) (defBody sPairsIn) (defScope sPairsIn) .none kV11 dc11 pm11 an11 cd11 ct11), sl11⟩) (c11 : PySem.W.codeIn K cd11 "pairs_in" = true) (k11 : PySem.W.keepIn K (.ref f11) = true)
    (a12 : PySem.W.nsIn K mainGlobals "chosen" = some (some (.ref f12))) (l12 : K.lookup f12 = some ⟨oc12, od12, .func (PySem.W.fnOf "chosen" "chosen" (defArgs sChosen) (defBody sChosen) (defScope sChosen) .none kV12 dc12 pm12 an12 cd12 ct12), sl12⟩) (c12 : PySem.W.codeIn K cd12 "chosen" = true) (k12 : PySem.W.keepIn K (.ref f12) = true)
    (a13 : PySem.W.nsIn K mainGlobals "behind" = some (some (.ref f13))) (l13 : K.lookup f13 = some ⟨oc13, od13, .func (PySem.W.fnOf "behind" "behind" (defArgs sBehind) (defBody sBehind) (defScope sBehind) .none kV13 dc13 pm13 an13 cd13 ct13), sl13⟩) (c13 : PySem.W.codeIn K cd13 "behind" = true) (k13 : PySem.W.keepIn K (.ref f13) = true)
    (a14 : PySem.W.nsIn K mainGlobals "may_lie" = some (some (.ref f14))) (l14 : K.lookup f14 = some ⟨oc14, od14, .func (PySem.W.fnOf "may_lie" "may_lie" (defArgs sMayLie) (defBody sMayLie) (defScope sMayLie) .none kV14 dc14 pm14 an14 cd14 ct14), sl14⟩) (c14 : PySem.W.codeIn K cd14 "may_lie" = true) (k14 : PySem.W.keepIn K (.ref f14) = true)
    (a15 : PySem.W.nsIn K mainGlobals "_law_berth" = some (some (.ref f15))) (l15 : K.lookup f15 = some ⟨oc15, od15, .func (PySem.W.fnOf "_law_berth" "_law_berth" (defArgs sBerth) (defBody sBerth) (defScope sBerth) .none kV15 dc15 pm15 an15 cd15 ct15), sl15⟩) (c15 : PySem.W.codeIn K cd15 "_law_berth" = true) (k15 : PySem.W.keepIn K (.ref f15) = true)
    (a16 : PySem.W.nsIn K mainGlobals "_law_dredge" = some (some (.ref f16))) (l16 : K.lookup f16 = some ⟨oc16, od16, .func (PySem.W.fnOf "_law_dredge" "_law_dredge" (defArgs sDredge) (defBody sDredge) (defScope sDredge) .none kV16 dc16 pm16 an16 cd16 ct16), sl16⟩) (c16 : PySem.W.codeIn K cd16 "_law_dredge" = true) (k16 : PySem.W.keepIn K (.ref f16) = true)
    (a17 : PySem.W.nsIn K mainGlobals "_law_pick" = some (some (.ref f17))) (l17 : K.lookup f17 = some ⟨oc17, od17, .func (PySem.W.fnOf "_law_pick" "_law_pick" (defArgs sPick) (defBody sPick) (defScope sPick) .none kV17 dc17 pm17 an17 cd17 ct17), sl17⟩) (c17 : PySem.W.codeIn K cd17 "_law_pick" = true) (k17 : PySem.W.keepIn K (.ref f17) = true)
    (a18 : PySem.W.nsIn K mainGlobals "_law_land" = some (some (.ref f18))) (l18 : K.lookup f18 = some ⟨oc18, od18, .func (PySem.W.fnOf "_law_land" "_law_land" (defArgs sLand) (defBody sLand) (defScope sLand) .none kV18 dc18 pm18 an18 cd18 ct18), sl18⟩) (c18 : PySem.W.codeIn K cd18 "_law_land" = true) (k18 : PySem.W.keepIn K (.ref f18) = true)
    (a19 : PySem.W.nsIn K mainGlobals "_law_kept" = some (some (.ref f19))) (l19 : K.lookup f19 = some ⟨oc19, od19, .func (PySem.W.fnOf "_law_kept" "_law_kept" (defArgs sLKept) (defBody sLKept) (defScope sLKept) .none kV19 dc19 pm19 an19 cd19 ct19), sl19⟩) (c19 : PySem.W.codeIn K cd19 "_law_kept" = true) (k19 : PySem.W.keepIn K (.ref f19) = true)
    (a20 : PySem.W.nsIn K mainGlobals "_law_is" = some (some (.ref f20))) (l20 : K.lookup f20 = some ⟨oc20, od20, .func (PySem.W.fnOf "_law_is" "_law_is" (defArgs sIs) (defBody sIs) (defScope sIs) .none kV20 dc20 pm20 an20 cd20 ct20), sl20⟩) (c20 : PySem.W.codeIn K cd20 "_law_is" = true) (k20 : PySem.W.keepIn K (.ref f20) = true)
    (a21 : PySem.W.nsIn K mainGlobals "_law_lots" = some (some (.ref f21))) (l21 : K.lookup f21 = some ⟨oc21, od21, .func (PySem.W.fnOf "_law_lots" "_law_lots" (defArgs sLots) (defBody sLots) (defScope sLots) .none kV21 dc21 pm21 an21 cd21 ct21), sl21⟩) (c21 : PySem.W.codeIn K cd21 "_law_lots" = true) (k21 : PySem.W.keepIn K (.ref f21) = true)
    (a22 : PySem.W.findIn K (.ref C) "__init__" = some (some (.ref f22))) (i22 : PySem.W.isFn K (.ref f22) = true) (l22 : K.lookup f22 = some ⟨oc22, od22, .func (PySem.W.fnOf "__init__" "Disk.__init__" (defArgs sInit) (defBody sInit) (defScope sInit) .none kV22 dc22 pm22 an22 cd22 ct22), sl22⟩) (c22 : PySem.W.codeIn K cd22 "Disk.__init__" = true) (k22 : PySem.W.keepIn K (.ref f22) = true)
    (a23 : PySem.W.findIn K (.ref C) "spend" = some (some (.ref f23))) (i23 : PySem.W.isFn K (.ref f23) = true) (l23 : K.lookup f23 = some ⟨oc23, od23, .func (PySem.W.fnOf "spend" "Disk.spend" (defArgs sSpend) (defBody sSpend) (defScope sSpend) .none kV23 dc23 pm23 an23 cd23 ct23), sl23⟩) (c23 : PySem.W.codeIn K cd23 "Disk.spend" = true) (k23 : PySem.W.keepIn K (.ref f23) = true)
    (a24 : PySem.W.findIn K (.ref C) "settle" = some (some (.ref f24))) (i24 : PySem.W.isFn K (.ref f24) = true) (l24 : K.lookup f24 = some ⟨oc24, od24, .func (PySem.W.fnOf "settle" "Disk.settle" (defArgs sSettle) (defBody sSettle) (defScope sSettle) .none kV24 dc24 pm24 an24 cd24 ct24), sl24⟩) (c24 : PySem.W.codeIn K cd24 "Disk.settle" = true) (k24 : PySem.W.keepIn K (.ref f24) = true)
    (a25 : PySem.W.findIn K (.ref C) "write" = some (some (.ref f25))) (i25 : PySem.W.isFn K (.ref f25) = true) (l25 : K.lookup f25 = some ⟨oc25, od25, .func (PySem.W.fnOf "write" "Disk.write" (defArgs sWrite) (defBody sWrite) (defScope sWrite) .none kV25 dc25 pm25 an25 cd25 ct25), sl25⟩) (c25 : PySem.W.codeIn K cd25 "Disk.write" = true) (k25 : PySem.W.keepIn K (.ref f25) = true)
    (a26 : PySem.W.findIn K (.ref C) "flush" = some (some (.ref f26))) (i26 : PySem.W.isFn K (.ref f26) = true) (l26 : K.lookup f26 = some ⟨oc26, od26, .func (PySem.W.fnOf "flush" "Disk.flush" (defArgs sFlush) (defBody sFlush) (defScope sFlush) .none kV26 dc26 pm26 an26 cd26 ct26), sl26⟩) (c26 : PySem.W.codeIn K cd26 "Disk.flush" = true) (k26 : PySem.W.keepIn K (.ref f26) = true)
    (a27 : PySem.W.findIn K (.ref C) "kept" = some (some (.ref f27))) (i27 : PySem.W.isFn K (.ref f27) = true) (l27 : K.lookup f27 = some ⟨oc27, od27, .func (PySem.W.fnOf "kept" "Disk.kept" (defArgs sKept) (defBody sKept) (defScope sKept) .none kV27 dc27 pm27 an27 cd27 ct27), sl27⟩) (c27 : PySem.W.codeIn K cd27 "Disk.kept" = true) (k27 : PySem.W.keepIn K (.ref f27) = true)
    (a28 : PySem.W.findIn K (.ref C) "waiting" = some (some (.ref f28))) (i28 : PySem.W.isFn K (.ref f28) = true) (l28 : K.lookup f28 = some ⟨oc28, od28, .func (PySem.W.fnOf "waiting" "Disk.waiting" (defArgs sWaiting) (defBody sWaiting) (defScope sWaiting) .none kV28 dc28 pm28 an28 cd28 ct28), sl28⟩) (c28 : PySem.W.codeIn K cd28 "Disk.waiting" = true) (k28 : PySem.W.keepIn K (.ref f28) = true)
    (a29 : PySem.W.nsIn K mainGlobals "need_disk" = some (some (.ref f29))) (l29 : K.lookup f29 = some ⟨oc29, od29, .func (PySem.W.fnOf "need_disk" "need_disk" (defArgs sNeedDisk) (defBody sNeedDisk) (defScope sNeedDisk) (.ref T) kV29 dc29 pm29 an29 cd29 ct29), sl29⟩) (c29 : PySem.W.codeIn K cd29 "need_disk" = true) (k29 : PySem.W.keepIn K (.ref f29) = true) (lT : K.lookup T = some ⟨oT, odT, .seq aT nT, slT⟩) (eT : aT = ([.str "disk" tk] : List Value).toArray)
    (a30 : PySem.W.nsIn K mainGlobals "law" = some (some (.ref f30))) (l30 : K.lookup f30 = some ⟨oc30, od30, .func (PySem.W.fnOf "law" "law" (defArgs sLaw) (defBody sLaw) (defScope sLaw) .none kV30 dc30 pm30 an30 cd30 ct30), sl30⟩) (c30 : PySem.W.codeIn K cd30 "law" = true) (k30 : PySem.W.keepIn K (.ref f30) = true)
    (aC : PySem.W.nsIn K mainGlobals "Disk" = some (some (.ref C))) (pg : PySem.W.plainGet K C Str.empty = true) (hd : PySem.W.hasDictIn K C = true) (po : PySem.W.plainOver K C = true) (sa : PySem.W.findIn K (.ref C) "__setattr__" = some (some (.builtin "object.__setattr__"))) (mk : PySem.W.makesIn K C = true) (kc : PySem.W.keepIn K (.ref C) = true)
    (nc : PySem.W.findIn K (.ref C) "cells" = some none) (ns : PySem.W.findIn K (.ref C) "strokes" = some none) (nf : PySem.W.findIn K (.ref C) "fresh" = some none) (nl : PySem.W.findIn K (.ref C) "left" = some none)
    (ha : PySem.W.findIn K (.ref C) "__class__" = some (some (.builtin "object.__class__"))) (hn : PySem.W.specialIn K (.builtin "object.__class__") "__get__" = some (some (.builtin "getset_descriptor.__get__"))) (htk : PySem.W.takesIn K (.builtin "object.__class__") = some true) (hm : PySem.W.mroIn K C (.type "object") = some true)
    (v0 : PySem.W.nsIn K mainGlobals "TRACKS" = some (some (.int 3 u0)))
    (v1 : PySem.W.nsIn K mainGlobals "LAST_CELL" = some (some (.int 10000000 u1)))
    (v2 : PySem.W.nsIn K mainGlobals "MOST_IN_CELL" = some (some (.int 9223372036854775807 u2)))
    (v3 : PySem.W.nsIn K mainGlobals "MOST_CELLS" = some (some (.int 4096 u3)))
    (z0 : PySem.W.nsIn K mainGlobals "isinstance" = some none)
    (z1 : PySem.W.nsIn K mainGlobals "int" = some none)
    (z2 : PySem.W.nsIn K mainGlobals "bool" = some none)
    (z3 : PySem.W.nsIn K mainGlobals "list" = some none)
    (z4 : PySem.W.nsIn K mainGlobals "tuple" = some none)
    (z5 : PySem.W.nsIn K mainGlobals "all" = some none)
    (z6 : PySem.W.nsIn K mainGlobals "min" = some none)
    (z7 : PySem.W.nsIn K mainGlobals "dict" = some none)
    (z8 : PySem.W.nsIn K mainGlobals "sorted" = some none)
    (z9 : PySem.W.nsIn K mainGlobals "zip" = some none)
    (z10 : PySem.W.nsIn K mainGlobals "enumerate" = some none)
    (z11 : PySem.W.nsIn K mainGlobals "range" = some none)
    (z12 : PySem.W.nsIn K mainGlobals "set" = some none)
    (z13 : PySem.W.nsIn K mainGlobals "len" = some none)
    (z14 : PySem.W.nsIn K mainGlobals "abs" = some none)
    (z15 : PySem.W.nsIn K mainGlobals "repr" = some none) :
    ∃ fd : FuncData, (∀ (s : Shared) (v : Value), BindsTo s fd ⟨[v], []⟩ [("_law_script", v)]) ∧ ∀ base : Heap, K.In base → base.Ns mainGlobals mg → FnG l.prog w K mg base 7 fa fd ["_law_script"] (spLaw K) := by
  have e := hfa.symm.trans (PySem.W.mg_of X G a30)
  cases e
  have cl : Cls K C := ⟨pg, hd, po, sa⟩
  have T_ : Kls K mg C := ⟨cl, nc, ns, nf, nl, ⟨cl, ha, hn, htk, hm, if_pos (beq_self_eq_true _)⟩, PySem.W.mg_of X G aC⟩
  have N : Cns mg := ⟨⟨_, PySem.W.mg_of X G v0⟩, ⟨_, PySem.W.mg_of X G v1⟩, ⟨_, PySem.W.mg_of X G v2⟩, ⟨_, PySem.W.mg_of X G v3⟩⟩
  have B : Blt mg := ⟨PySem.W.mg_none_of X G z0, PySem.W.mg_none_of X G z1, PySem.W.mg_none_of X G z2, PySem.W.mg_none_of X G z3, PySem.W.mg_none_of X G z4, PySem.W.mg_none_of X G z5, PySem.W.mg_none_of X G z6, PySem.W.mg_none_of X G z7, PySem.W.mg_none_of X G z8, PySem.W.mg_none_of X G z9, PySem.W.mg_none_of X G z10, PySem.W.mg_none_of X G z11, PySem.W.mg_none_of X G z12, PySem.W.mg_none_of X G z13, PySem.W.mg_none_of X G z14, PySem.W.mg_none_of X G z15⟩
  have D_isInt := df_of (st := sIsInt) (ps := ["value"]) X G a1 l1 c1 k1 fun _ _ _ _ _ _ us hl => match us, hl with | [_], _ => rfl
  have D_within := df_of (st := sWithin) (ps := ["value", "least", "most"]) X G a2 l2 c2 k2 fun _ _ _ _ _ _ us hl => match us, hl with | [_, _, _], _ => rfl
  have D_areInts := df_of (st := sAreInts) (ps := ["value"]) X G a3 l3 c3 k3 fun _ _ _ _ _ _ us hl => match us, hl with | [_], _ => rfl
  have D_isLot := df_of (st := sIsLot) (ps := ["value", "many"]) X G a4 l4 c4 k4 fun _ _ _ _ _ _ us hl => match us, hl with | [_, _], _ => rfl
  have D_needNum := df_of (st := sNeedNum) (ps := ["value", "part", "least", "most"]) X G a5 l5 c5 k5 fun _ _ _ _ _ _ us hl => match us, hl with | [_, _, _, _], _ => rfl
  have D_needTrack := df_of (st := sNeedTrack) (ps := ["value"]) X G a6 l6 c6 k6 fun _ _ _ _ _ _ us hl => match us, hl with | [_], _ => rfl
  have D_needCell := df_of (st := sNeedCell) (ps := ["value"]) X G a7 l7 c7 k7 fun _ _ _ _ _ _ us hl => match us, hl with | [_], _ => rfl
  have D_mostFrom := df_of (st := sMostFrom) (ps := ["at"]) X G a8 l8 c8 k8 fun _ _ _ _ _ _ us hl => match us, hl with | [_], _ => rfl
  have D_areVals := df_of (st := sAreVals) (ps := ["value", "most"]) X G a9 l9 c9 k9 fun _ _ _ _ _ _ us hl => match us, hl with | [_, _], _ => rfl
  have D_landed := df_of (st := sLanded) (ps := ["cells", "strokes"]) X G a10 l10 c10 k10 fun _ _ _ _ _ _ us hl => match us, hl with | [_, _], _ => rfl
  have D_pairsIn := df_of (st := sPairsIn) (ps := ["track"]) X G a11 l11 c11 k11 fun _ _ _ _ _ _ us hl => match us, hl with | [_], _ => rfl
  have D_chosen := df_of (st := sChosen) (ps := ["disk", "lands"]) X G a12 l12 c12 k12 fun _ _ _ _ _ _ us hl => match us, hl with | [_, _], _ => rfl
  have D_behind := df_of (st := sBehind) (ps := ["disk", "lands"]) X G a13 l13 c13 k13 fun _ _ _ _ _ _ us hl => match us, hl with | [_, _], _ => rfl
  have D_mayLie := df_of (st := sMayLie) (ps := ["disk", "track", "at"]) X G a14 l14 c14 k14 fun _ _ _ _ _ _ us hl => match us, hl with | [_, _, _], _ => rfl
  have D_berth := df_of (st := sBerth) (ps := ["_law_script"]) X G a15 l15 c15 k15 fun _ _ _ _ _ _ us hl => match us, hl with | [_], _ => rfl
  have D_dredge := df_of (st := sDredge) (ps := ["_law_berth_here", "_law_many"]) X G a16 l16 c16 k16 fun _ _ _ _ _ _ us hl => match us, hl with | [_, _], _ => rfl
  have D_pick := df_of (st := sPick) (ps := ["_law_berth_here", "_law_some"]) X G a17 l17 c17 k17 fun _ _ _ _ _ _ us hl => match us, hl with | [_, _], _ => rfl
  have D_land := df_of (st := sLand) (ps := ["_law_lies", "_law_waits", "_law_lands"]) X G a18 l18 c18 k18 fun _ _ _ _ _ _ us hl => match us, hl with | [_, _, _], _ => rfl
  have D_lkept := df_of (st := sLKept) (ps := ["_law_lies", "_law_track"]) X G a19 l19 c19 k19 fun _ _ _ _ _ _ us hl => match us, hl with | [_, _], _ => rfl
  have D_is := df_of (st := sIs) (ps := ["_law_disk", "_law_lies", "_law_waits"]) X G a20 l20 c20 k20 fun _ _ _ _ _ _ us hl => match us, hl with | [_, _, _], _ => rfl
  have D_lots := df_of (st := sLots) (ps := ["_law_many"]) X G a21 l21 c21 k21 fun _ _ _ _ _ _ us hl => match us, hl with | [_], _ => rfl
  have D_init := md_of (C := C) (st := sInit) (ps := ["self"]) a22 i22 l22 c22 k22 fun _ _ _ _ _ _ us hl => match us, hl with | [_], _ => rfl
  have D_spend := md_of (C := C) (st := sSpend) (ps := ["self"]) a23 i23 l23 c23 k23 fun _ _ _ _ _ _ us hl => match us, hl with | [_], _ => rfl
  have D_settle := md_of (C := C) (st := sSettle) (ps := ["self", "strokes"]) a24 i24 l24 c24 k24 fun _ _ _ _ _ _ us hl => match us, hl with | [_, _], _ => rfl
  have D_write := md_of (C := C) (st := sWrite) (ps := ["self", "track", "at", "values"]) a25 i25 l25 c25 k25 fun _ _ _ _ _ _ us hl => match us, hl with | [_, _, _, _], _ => rfl
  have D_flush := md_of (C := C) (st := sFlush) (ps := ["self"]) a26 i26 l26 c26 k26 fun _ _ _ _ _ _ us hl => match us, hl with | [_], _ => rfl
  have D_kept := md_of (C := C) (st := sKept) (ps := ["self", "track"]) a27 i27 l27 c27 k27 fun _ _ _ _ _ _ us hl => match us, hl with | [_, _], _ => rfl
  have D_waiting := md_of (C := C) (st := sWaiting) (ps := ["self"]) a28 i28 l28 c28 k28 fun _ _ _ _ _ _ us hl => match us, hl with | [_], _ => rfl
  have FN : FunD K "need_disk" "need_disk" (defArgs sNeedDisk) (defBody sNeedDisk) (defScope sNeedDisk) [.str "disk"] [] f29 (PySem.W.fnOf "need_disk" "need_disk" (defArgs sNeedDisk) (defBody sNeedDisk) (defScope sNeedDisk) (.ref T) kV29 dc29 pm29 an29 cd29 ct29) :=
    ⟨⟨_, _, _, _, _, _, _, _, _, _, rfl, l29, c29, .inr ⟨by simp, T, _, _, nT, rfl, lT, by rw [eT], .cons ⟨_, rfl⟩ .nil⟩, .inl rfl⟩, k29⟩
  have D_nd : DfN K mg f29 _ := ⟨FN, FN.binds1 (ps := ["value", "part"]) 1 0 (by simp) rfl fun T kV doc pm an cdv ct us its h1 h2 => match us, its, h1, h2 with | [_], [_], _, _ => ⟨_, rfl, rfl⟩, PySem.W.mg_of X G a29⟩
  refine ⟨PySem.W.fnOf "law" "law" (defArgs sLaw) (defBody sLaw) (defScope sLaw) .none kV30 dc30 pm30 an30 cd30 ct30, fun s v => .of_eq rfl, fun base _ _ => ?_⟩
  have Gnn : FnOk l.prog w K mg base CX0 3 _ _ _ spNeedNum := ok_needNum D_needNum D_within D_isInt B
  have Gnt : FnOk l.prog w K mg base CX0 4 _ _ _ spNeedTrack := ok_needTrack D_needTrack D_needNum Gnn N
  have Gnc : FnOk l.prog w K mg base CX0 4 _ _ _ spNeedCell := ok_needCell D_needCell D_needNum Gnn N
  have Gmf : FnOk l.prog w K mg base CX0 1 _ _ _ spMostFrom := ok_mostFrom D_mostFrom B N
  have Gav : FnOk l.prog w K mg base CX0 3 _ _ _ spAreVals := ok_areVals D_areVals D_within D_isInt B N
  have Gsp : FnOk l.prog w K mg base CX0 1 _ _ _ (spSpend C) := ok_spend D_spend T_
  have Gst : FnOk l.prog w K mg base CX0 2 _ _ _ (spSettle C) := ok_settle D_settle D_landed T_ B
  have Gld : FnOk l.prog w K mg base CX0 1 _ _ _ spLanded := ok_landed D_landed B
  have Gpi : FnOk l.prog w K mg base CX0 1 _ _ _ spPairsIn := ok_pairsIn D_pairsIn B
  have Gil : FnOk l.prog w K mg base CX0 3 _ _ _ spIsLot := ok_isLot D_isLot D_areInts D_isInt B
  have Gch : FnOk l.prog w K mg base CX0 4 _ _ _ (spChosen C) := ok_chosen D_chosen D_isLot Gil T_ B
  have Gkp : FnOk l.prog w K mg base CX0 5 _ _ _ (spKept C) := ok_kept D_kept D_needTrack Gnt D_pairsIn Gpi T_
  have Gwt : FnOk l.prog w K mg base CX0 1 _ _ _ (spWaiting C) := ok_waiting D_waiting T_ B
  have Glk : FnOk l.prog w K mg base CX0 1 _ _ _ spLKept := ok_lkept D_lkept B
  exact ok_law (fun_mk (st := sLaw) l30 c30 k30) (C := C)
    { B := B, N := N, T := T_,
      berth := ⟨_, _, D_berth, ok_berth D_berth B⟩
      dredge := ⟨_, _, D_dredge, ok_dredge D_dredge B⟩
      pick := ⟨_, _, D_pick, ok_pick D_pick D_dredge B⟩
      land := ⟨_, _, D_land, ok_land D_land B⟩
      lots := ⟨_, _, D_lots, ok_lots D_lots B⟩
      behind := ⟨_, _, D_behind, ok_behind D_behind D_chosen Gch D_landed Gld D_pairsIn Gpi D_nd T_ B⟩
      mayLie := ⟨_, _, D_mayLie, ok_mayLie D_mayLie D_needTrack Gnt D_needCell Gnc D_nd T_ B⟩
      init := ⟨_, _, D_init, ⟨mk, a22, i22, kc⟩, ok_init D_init T_ B N⟩
      write := ⟨_, _, D_write, ok_write D_write D_needTrack Gnt D_needCell Gnc D_areVals Gav D_mostFrom Gmf D_spend Gsp T_ B⟩
      flush := ⟨_, _, D_flush, ok_flush D_flush D_spend Gsp D_settle Gst T_⟩
      is_ := ⟨_, _, D_is, ok_is D_is D_kept Gkp D_waiting Gwt D_lkept Glk T_ B⟩ }
theorem walk {l : PySem.W.OpenLaw} {q : Program} {loose : List Str} {XP : (Str → Option Value) → Heap → Prop} {YP : World → Heap → Prop} {d : DefRec} {K : Params → PySem.W.Frag} (hn : l.most = some 63) (hdf : d.params.defaults = [])
    (hY : ∀ (w : World) (h : Heap), YP w h → (K w.params).In h)
    (F : ∀ (w : World) (mg : Str → Option Value) (fa : Addr) (h : Heap), (K w.params).In h → h.Ns mainGlobals mg → mg d.name = some (.ref fa) →
      ∃ fd : FuncData, (∀ (s : Shared) (u : Value), BindsTo s fd ⟨[u], []⟩ [("_law_script", u)]) ∧ ∀ base : Heap, (K w.params).In base → base.Ns mainGlobals mg → FnG l.prog w (K w.params) mg base 7 fa fd ["_law_script"] (spLaw (K w.params))) :
    PySem.W.WalkO q loose XP YP l.row.toRowW d [] (fun f vs => PySem.call f vs) :=
  walkG (n := 63) (k := 7) (x := "_law_script") (sp := fun w => spLaw (K w.params)) hn (by decide) hdf ⟨rfl, by decide, by decide⟩ hY F fun w H a ns hl hS => ⟨a, ns, rfl, hS, fun _ => rfl⟩
end K06
open PySem PySem.W PyProof.Rows in
set_option maxRecDepth 100000 in
set_option maxHeartbeats 0 in
theorem PySem.Challenge.cw_priceblind_k06_whole_what_may_lie_anywhe_holds : PySem.Challenge.rw_priceblind_k06_whole_what_may_lie_anywhe.Holds := by
  w_on; o_law; k_head; (case hw => w_witness2)
  k_fill
  refine K06.walk (l := PySem.Challenge.rw_priceblind_k06_whole_what_may_lie_anywhe) rfl rfl (fun w h Y => PySem.W.kIn_of Y) ?F
  case F =>
    intro w mg fa h KX G hmg0
    have hmg : mg "law" = some (.ref fa) := hmg0
    clear hmg0
    refine' K06.all_mk KX G hmg ?a1 ?l1 ?c1 ?k1 ?a2 ?l2 ?c2 ?k2 ?a3 ?l3 ?c3 ?k3 ?a4 ?l4 ?c4 ?k4 ?a5 ?l5 ?c5 ?k5 ?a6 ?l6 ?c6 ?k6 ?a7 ?l7 ?c7 ?k7 ?a8 ?l8 ?c8 ?k8 ?a9 ?l9 ?c9 ?k9 ?a10 ?l10 ?c10 ?k10 ?a11 ?l11 ?c11 ?k11 ?a12 ?l12 ?c12 ?k12 ?a13 ?l13 ?c13 ?k13 ?a14 ?l14 ?c14 ?k14 ?a15 ?l15 ?c15 ?k15 ?a16 ?l16 ?c16 ?k16 ?a17 ?l17 ?c17 ?k17 ?a18 ?l18 ?c18 ?k18 ?a19 ?l19 ?c19 ?k19 ?a20 ?l20 ?c20 ?k20 ?a21 ?l21 ?c21 ?k21 ?a22 ?i22 ?l22 ?c22 ?k22 ?a23 ?i23 ?l23 ?c23 ?k23 ?a24 ?i24 ?l24 ?c24 ?k24 ?a25 ?i25 ?l25 ?c25 ?k25 ?a26 ?i26 ?l26 ?c26 ?k26 ?a27 ?i27 ?l27 ?c27 ?k27 ?a28 ?i28 ?l28 ?c28 ?k28 ?a29 ?l29 ?c29 ?k29 ?lT ?eT ?a30 ?l30 ?c30 ?k30 ?aC ?pg ?hd ?po ?sa ?mk ?kc ?nc ?ns ?nf ?nl ?ha ?hn ?htk ?hm ?v0 ?v1 ?v2 ?v3 ?z0 ?z1 ?z2 ?z3 ?z4 ?z5 ?z6 ?z7 ?z8 ?z9 ?z10 ?z11 ?z12 ?z13 ?z14 ?z15
    (case aC => k_is)
    (case a1 => k_is)
    (case l1 => k_is)
    (case c1 => k_is)
    (case k1 => k_is)
    (case a2 => k_is)
    (case l2 => k_is)
    (case c2 => k_is)
    (case k2 => k_is)
    (case a3 => k_is)
    (case l3 => k_is)
    (case c3 => k_is)
    (case k3 => k_is)
    (case a4 => k_is)
    (case l4 => k_is)
    (case c4 => k_is)
    (case k4 => k_is)
    (case a5 => k_is)
    (case l5 => k_is)
    (case c5 => k_is)
    (case k5 => k_is)
    (case a6 => k_is)
    (case l6 => k_is)
    (case c6 => k_is)
    (case k6 => k_is)
    (case a7 => k_is)
    (case l7 => k_is)
    (case c7 => k_is)
    (case k7 => k_is)
    (case a8 => k_is)
    (case l8 => k_is)
    (case c8 => k_is)
    (case k8 => k_is)
    (case a9 => k_is)
    (case l9 => k_is)
    (case c9 => k_is)
    (case k9 => k_is)
    (case a10 => k_is)
    (case l10 => k_is)
    (case c10 => k_is)
    (case k10 => k_is)
    (case a11 => k_is)
    (case l11 => k_is)
    (case c11 => k_is)
    (case k11 => k_is)
    (case a12 => k_is)
    (case l12 => k_is)
    (case c12 => k_is)
    (case k12 => k_is)
    (case a13 => k_is)
    (case l13 => k_is)
    (case c13 => k_is)
    (case k13 => k_is)
    (case a14 => k_is)
    (case l14 => k_is)
    (case c14 => k_is)
    (case k14 => k_is)
    (case a15 => k_is)
    (case l15 => k_is)
    (case c15 => k_is)
    (case k15 => k_is)
    (case a16 => k_is)
    (case l16 => k_is)
    (case c16 => k_is)
    (case k16 => k_is)
    (case a17 => k_is)
    (case l17 => k_is)
    (case c17 => k_is)
    (case k17 => k_is)
    (case a18 => k_is)
    (case l18 => k_is)
    (case c18 => k_is)
    (case k18 => k_is)
    (case a19 => k_is)
    (case l19 => k_is)
    (case c19 => k_is)
    (case k19 => k_is)
    (case a20 => k_is)
    (case l20 => k_is)
    (case c20 => k_is)
    (case k20 => k_is)
    (case a21 => k_is)
    (case l21 => k_is)
    (case c21 => k_is)
    (case k21 => k_is)
    (case a22 => k_is)
    (case i22 => k_is)
    (case l22 => k_is)
    (case c22 => k_is)
    (case k22 => k_is)
    (case a23 => k_is)
    (case i23 => k_is)
    (case l23 => k_is)
    (case c23 => k_is)
    (case k23 => k_is)
    (case a24 => k_is)
    (case i24 => k_is)
    (case l24 => k_is)
    (case c24 => k_is)
    (case k24 => k_is)
    (case a25 => k_is)
    (case i25 => k_is)
    (case l25 => k_is)
    (case c25 => k_is)
    (case k25 => k_is)
    (case a26 => k_is)
    (case i26 => k_is)
    (case l26 => k_is)
    (case c26 => k_is)
    (case k26 => k_is)
    (case a27 => k_is)
    (case i27 => k_is)
    (case l27 => k_is)
    (case c27 => k_is)
    (case k27 => k_is)
    (case a28 => k_is)
    (case i28 => k_is)
    (case l28 => k_is)
    (case c28 => k_is)
    (case k28 => k_is)
    (case a29 => k_is)
    (case l29 => k_is)
    (case c29 => k_is)
    (case k29 => k_is)
    (case lT => k_is)
    (case eT => rfl)
    (case a30 => k_is)
    (case l30 => k_is)
    (case c30 => k_is)
    (case k30 => k_is)
    (case pg => k_is)
    (case hd => k_is)
    (case po => k_is)
    (case sa => k_is)
    (case mk => k_is)
    (case kc => k_is)
    (case nc => k_is)
    (case ns => k_is)
    (case nf => k_is)
    (case nl => k_is)
    (case ha => k_is)
    (case hn => k_is)
    (case htk => k_is)
    (case hm => k_is)
    (case v0 => k_is)
    (case v1 => k_is)
    (case v2 => k_is)
    (case v3 => k_is)
    (case z0 => k_is)
    (case z1 => k_is)
    (case z2 => k_is)
    (case z3 => k_is)
    (case z4 => k_is)
    (case z5 => k_is)
    (case z6 => k_is)
    (case z7 => k_is)
    (case z8 => k_is)
    (case z9 => k_is)
    (case z10 => k_is)
    (case z11 => k_is)
    (case z12 => k_is)
    (case z13 => k_is)
    (case z14 => k_is)
    (case z15 => k_is)
