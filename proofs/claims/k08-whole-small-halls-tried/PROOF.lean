import PyProof.Rows.All
import Wide.All
import OpenK.AllK
import Wide.FinOn
import KE.KStateDown
import Lean
import HandS.ForMost
import HandS.Defaults
import HandS.Head0
import HandS.Head1
import HandS.Head2
import HandS.HeadEnd
import HandS.HeadHook1
import HandS.HeadHook2
import HandS.IsInst
import HandS.Zip
import HandS.Conv
import HandS.SetFor
import HandS.Strs
import HandS.SortInts
import HandS.Flow
import HandS.Rev
import HandS.ListEq
import HandS.Evl
import HandS.Steps
import HandS.Walk
import HandS.AnyAll
import HandS.Style
import HandS.Nested
import HandS.NestedK
import HandS.Deep
import HandS.HeadHook4
import HandS.HeadWalk
import PySem.Challenge.RW_fewladders_k08_whole_small_halls_tried
set_option Elab.async false
set_option linter.all false
set_option maxRecDepth 100000
set_option maxHeartbeats 4000000
/-! Fewladders, the mathematics 1: assoc lists, rows of pairs, the search (climb), its two ends. Core Lean only. -/
namespace FL

/-! ### a dict as a list of pairs -/
section
variable {β : Type}
def aget (d : List (Int × β)) (k : Int) : Option β := (d.find? fun p => decide (p.1 = k)).map (·.2)
def aput (d : List (Int × β)) (k : Int) (v : β) : List (Int × β) :=
  if (d.any fun p => decide (p.1 = k)) = true then d.map (fun p => if p.1 = k then (p.1, v) else p) else d ++ [(k, v)]
def adel (d : List (Int × β)) (k : Int) : List (Int × β) := d.filter fun p => decide (p.1 ≠ k)

theorem aget_nil (k : Int) : aget ([] : List (Int × β)) k = none := rfl
theorem aget_cons (p : Int × β) (r : List (Int × β)) (k : Int) : aget (p :: r) k = if p.1 = k then some p.2 else aget r k := by
  by_cases e : p.1 = k <;> simp [aget, e]
theorem aget_none_iff {d : List (Int × β)} {k : Int} : aget d k = none ↔ k ∉ d.map (·.1) := by
  induction d with
  | nil => simp [aget_nil]
  | cons p r ih =>
    rw [aget_cons]
    by_cases e : p.1 = k
    · simp [e]
    · rw [if_neg e, ih]
      simp only [List.map_cons, List.mem_cons, not_or]
      exact ⟨fun h => ⟨fun z => e z.symm, h⟩, fun h => h.2⟩
theorem aget_isSome_iff {d : List (Int × β)} {k : Int} : (aget d k).isSome = true ↔ k ∈ d.map (·.1) := by
  have := @aget_none_iff β d k
  cases h : aget d k with
  | none => simp [h] at this ⊢; exact this
  | some v =>
    simp only [Option.isSome_some, true_iff]
    refine Classical.byContradiction fun z => ?_
    rw [← aget_none_iff, h] at z
    cases z
theorem aget_mem {d : List (Int × β)} {k : Int} {v : β} (h : aget d k = some v) : (k, v) ∈ d := by
  induction d with
  | nil => cases h
  | cons p r ih =>
    rw [aget_cons] at h
    by_cases e : p.1 = k
    · rw [if_pos e] at h
      cases h
      subst e
      exact List.mem_cons_self
    · rw [if_neg e] at h
      exact List.mem_cons_of_mem _ (ih h)
theorem aget_key {d : List (Int × β)} {k : Int} {v : β} (h : aget d k = some v) : k ∈ d.map (·.1) := List.mem_map.mpr ⟨_, aget_mem h, rfl⟩
theorem any_key (d : List (Int × β)) (k : Int) : (d.any fun p => decide (p.1 = k)) = (aget d k).isSome := by
  induction d with
  | nil => rfl
  | cons p r ih =>
    rw [List.any_cons, aget_cons, ih]
    by_cases e : p.1 = k <;> simp [e]
theorem aget_map_put (k j : Int) (y : β) (d : List (Int × β)) : aget (d.map fun p => if p.1 = k then (p.1, y) else p) j = (aget d j).map fun x => if j = k then y else x := by
  induction d with
  | nil => rfl
  | cons p r ih =>
    rw [List.map_cons, aget_cons, aget_cons, ih]
    by_cases h : p.1 = k
    · rw [if_pos h]
      by_cases e : p.1 = j
      · simp [e, ← h]
      · simp [e]
    · rw [if_neg h]
      by_cases e : p.1 = j
      · rw [if_pos e, if_pos e, Option.map_some, if_neg (fun z => h (e.trans z))]
      · rw [if_neg e, if_neg e]
theorem aget_snoc (d : List (Int × β)) (k j : Int) (y : β) (h : aget d k = none) : aget (d ++ [(k, y)]) j = if j = k then some y else aget d j := by
  induction d with
  | nil =>
    rw [List.nil_append, aget_cons]
    by_cases e : k = j
    · simp [e]
    · rw [if_neg e, if_neg fun z => e z.symm]
  | cons p r ih =>
    rw [aget_cons] at h
    have hk : ¬ p.1 = k := fun z => by rw [if_pos z] at h; cases h
    rw [if_neg hk] at h
    rw [List.cons_append, aget_cons, aget_cons, ih h]
    by_cases e : p.1 = j
    · rw [if_pos e, if_pos e, if_neg fun z => hk (e.trans z)]
    · rw [if_neg e, if_neg e]
theorem aget_aput (d : List (Int × β)) (k j : Int) (y : β) : aget (aput d k y) j = if j = k then some y else aget d j := by
  unfold aput
  rw [any_key]
  cases h : aget d k with
  | none => simp only [Option.isSome_none, Bool.false_eq_true, if_false]; exact aget_snoc d k j y h
  | some v =>
    simp only [Option.isSome_some, if_true]
    rw [aget_map_put]
    by_cases e : j = k
    · subst e; simp [h]
    · simp only [if_neg e]; cases aget d j <;> rfl
theorem aget_adel (d : List (Int × β)) (k j : Int) : aget (adel d k) j = if j = k then none else aget d j := by
  unfold adel
  induction d with
  | nil => simp [aget_nil]
  | cons p r ih =>
    rw [List.filter_cons]
    by_cases e : p.1 = k
    · rw [if_neg (by simp [e]), ih, aget_cons]
      by_cases q : j = k
      · simp [q]
      · rw [if_neg q, if_neg q, if_neg fun z => q (z.symm.trans e)]
    · rw [if_pos (by simp [e]), aget_cons, aget_cons, ih]
      by_cases q : p.1 = j
      · rw [if_pos q, if_pos q, if_neg fun z => e (q.trans z)]
      · rw [if_neg q, if_neg q]
theorem aput_new {d : List (Int × β)} {k : Int} (v : β) (h : aget d k = none) : aput d k v = d ++ [(k, v)] := by
  unfold aput; rw [any_key, h]; rfl
theorem aput_keys_old {d : List (Int × β)} {k : Int} (v : β) (h : (aget d k).isSome = true) : (aput d k v).map (·.1) = d.map (·.1) := by
  unfold aput
  rw [any_key, if_pos h, List.map_map]
  refine List.map_congr_left fun p _ => ?_
  show (if p.1 = k then (p.1, v) else p).1 = p.1
  split <;> rfl
theorem aput_keys_mem {d : List (Int × β)} {k j : Int} {v : β} (h : j ∈ (aput d k v).map (·.1)) : j = k ∨ j ∈ d.map (·.1) := by
  rw [← aget_isSome_iff, aget_aput] at h
  by_cases e : j = k
  · exact .inl e
  · rw [if_neg e] at h; exact .inr (aget_isSome_iff.mp h)
theorem nodup_snoc {α : Type} {l : List α} {k : α} (h : l.Nodup) (hk : k ∉ l) : (l ++ [k]).Nodup := by
  rw [List.nodup_append]
  refine ⟨h, List.nodup_cons.mpr ⟨by simp, List.nodup_nil⟩, ?_⟩
  intro a ha b hb e
  rw [List.mem_singleton] at hb
  subst hb; subst e; exact hk ha
theorem aput_nodup {d : List (Int × β)} {k : Int} {v : β} (h : (d.map (·.1)).Nodup) : ((aput d k v).map (·.1)).Nodup := by
  cases e : aget d k with
  | none =>
    rw [aput_new v e, List.map_append]
    exact nodup_snoc h (aget_none_iff.mp e)
  | some x => rw [aput_keys_old v (by rw [e]; rfl)]; exact h
theorem adel_sub (d : List (Int × β)) (k : Int) : List.Sublist ((adel d k).map (·.1)) (d.map (·.1)) := by
  unfold adel
  exact List.Sublist.map _ (List.filter_sublist (l := d))
theorem adel_nodup {d : List (Int × β)} {k : Int} (h : (d.map (·.1)).Nodup) : ((adel d k).map (·.1)).Nodup := (adel_sub d k).nodup h
theorem adel_keys (d : List (Int × β)) (k : Int) : (adel d k).map (·.1) = (d.map (·.1)).filter fun x => decide (x ≠ k) := by
  unfold adel
  rw [List.filter_map]
  rfl
theorem adel_none {d : List (Int × β)} {k : Int} (h : aget d k = none) : adel d k = d := by
  unfold adel
  refine List.filter_eq_self.mpr fun p hp => ?_
  have : p.1 ≠ k := fun e => aget_none_iff.mp h (List.mem_map.mpr ⟨p, hp, e⟩)
  simp [this]
theorem aput_len_le (d : List (Int × β)) (k : Int) (v : β) : (aput d k v).length ≤ d.length + 1 := by
  unfold aput; split <;> simp
end

/-- no more different things than there are -/
theorem nodup_len_le {α : Type} [DecidableEq α] : ∀ {l m : List α}, l.Nodup → (∀ x ∈ l, x ∈ m) → l.length ≤ m.length
  | [], _, _, _ => Nat.zero_le _
  | a :: r, m, h, hs => by
    obtain ⟨h1, h2⟩ := List.nodup_cons.mp h
    have ha : a ∈ m := hs a List.mem_cons_self
    have ih := nodup_len_le (l := r) (m := m.erase a) h2 fun x hx => by
      have hne : x ≠ a := fun e => h1 (e ▸ hx)
      exact (List.mem_erase_of_ne hne).mpr (hs x (List.mem_cons_of_mem _ hx))
    rw [List.length_erase_of_mem ha] at ih
    have : 0 < m.length := List.length_pos_of_mem ha
    simp only [List.length_cons]; omega

/-! ### the search -/
abbrev Row := List (Int × Int)
/-- what the search changes: the thing right above, right beneath, what was seen -/
structure CS where
  ab : List (Int × Int)
  be : List (Int × Int)
  seen : List Int

def scan (rec : Int → CS → Row × CS) (lies : Int → Int → Bool) (high : Int) : List Int → CS → Row × CS
  | [], s => ([], s)
  | low :: rest, s =>
    if low ∈ s.seen ∨ lies high low = false then scan rec lies high rest s
    else match aget s.ab low with
      | none => ([(high, low)], ⟨aput s.ab low high, aput s.be high low, s.seen ++ [low]⟩)
      | some up =>
        let r := rec up ⟨s.ab, s.be, s.seen ++ [low]⟩
        if r.1 = [] then scan rec lies high rest r.2
        else ((high, low) :: r.1, ⟨aput r.2.ab low high, aput r.2.be high low, r.2.seen⟩)
def climb (lies : Int → Int → Bool) (L : List Int) : Nat → Int → CS → Row × CS
  | 0, _, s => ([], s)
  | n + 1, high, s => scan (climb lies L n) lies high L s

/-- how many are not seen yet -/
def unseen (L : List Int) (seen : List Int) : Nat := (L.filter fun x => decide (x ∉ seen)).length
theorem unseen_mono {L seen seen' : List Int} (h : ∀ x ∈ seen, x ∈ seen') : unseen L seen' ≤ unseen L seen := by
  induction L with
  | nil => exact Nat.le_refl _
  | cons a r ih =>
    unfold unseen at ih ⊢
    rw [List.filter_cons, List.filter_cons]
    by_cases h1 : a ∈ seen
    · rw [if_neg (by simp [h a h1]), if_neg (by simp [h1])]; exact ih
    · rw [if_pos (by simp [h1] : decide (a ∉ seen) = true)]
      split
      · simp only [List.length_cons]; omega
      · simp only [List.length_cons]; omega
theorem unseen_lt {L seen : List Int} {a : Int} (ha : a ∈ L) (hn : a ∉ seen) : unseen L (seen ++ [a]) < unseen L seen := by
  induction L with
  | nil => cases ha
  | cons b r ih =>
    unfold unseen at ih ⊢
    rw [List.filter_cons, List.filter_cons]
    by_cases hb : b = a
    · subst hb
      rw [if_neg (by simp), if_pos (by simp [hn])]
      have := @unseen_mono r seen (seen ++ [b]) fun x hx => List.mem_append_left _ hx
      unfold unseen at this
      simp only [List.length_cons]; omega
    · have ha' : a ∈ r := (List.mem_cons.mp ha).resolve_left fun e => hb e.symm
      have := ih ha'
      by_cases h1 : b ∈ seen
      · rw [if_neg (by simp [h1]), if_neg (by simp [h1])]; exact this
      · rw [if_pos (by simp [h1, hb]), if_pos (by simp [h1])]
        simp only [List.length_cons]; omega
theorem unseen_le (L seen : List Int) : unseen L seen ≤ L.length := List.length_filter_le _ _

/-- pair by pair from the last one: the upper stands right above the lower -/
def linkAll (row : Row) (ab be : List (Int × Int)) : List (Int × Int) × List (Int × Int) :=
  row.foldr (fun p s => (aput s.1 p.2 p.1, aput s.2 p.1 p.2)) (ab, be)
/-- a row of pairs from high on: until then the next pair's upper thing stood right above that lower one; above the last one's none stood -/
def Path (lies : Int → Int → Bool) (L : List Int) (ab : List (Int × Int)) : Int → Row → Prop
  | _, [] => False
  | high, [p] => p.1 = high ∧ p.2 ∈ L ∧ lies high p.2 = true ∧ aget ab p.2 = none
  | high, p :: q :: r => p.1 = high ∧ p.2 ∈ L ∧ lies high p.2 = true ∧ ∃ up, aget ab p.2 = some up ∧ Path lies L ab up (q :: r)

/-- what a search's end says -/
structure ClimbEnd (lies : Int → Int → Bool) (L : List Int) (high : Int) (todo : List Int) (s : CS) (r : Row × CS) : Prop where
  mono : ∀ x ∈ s.seen, x ∈ r.2.seen
  sub : ∀ x ∈ r.2.seen, x ∈ s.seen ∨ x ∈ L
  nd : s.seen.Nodup → r.2.seen.Nodup
  fail : r.1 = [] → r.2.ab = s.ab ∧ r.2.be = s.be ∧ (∀ l ∈ todo, lies high l = true → l ∈ r.2.seen) ∧
    ∀ l ∈ r.2.seen, l ∉ s.seen → ∃ up, aget s.ab l = some up ∧ ∀ l' ∈ L, lies up l' = true → l' ∈ r.2.seen
  done : r.1 ≠ [] → Path lies L s.ab high r.1 ∧ (r.2.ab, r.2.be) = linkAll r.1 s.ab s.be ∧ (r.1.map (·.2)).Nodup ∧ ∀ p ∈ r.1, p.2 ∉ s.seen

theorem scan_end {lies : Int → Int → Bool} {L : List Int} {n : Nat} {rec : Int → CS → Row × CS} (high : Int)
    (hrec : ∀ up s, unseen L s.seen < n → ClimbEnd lies L up L s (rec up s)) :
    ∀ (todo : List Int), (∀ x ∈ todo, x ∈ L) → ∀ s, unseen L s.seen < n + 1 → ClimbEnd lies L high todo s (scan rec lies high todo s) := by
  intro todo
  induction todo with
  | nil =>
    intro _ s _
    refine ⟨fun x hx => hx, fun x hx => .inl hx, fun h => h, fun _ => ⟨rfl, rfl, fun l hl => (nomatch hl), fun l h1 h2 => absurd h1 h2⟩, fun h => absurd rfl h⟩
  | cons low rest ih =>
    intro hL s hs
    have hL' : ∀ x ∈ rest, x ∈ L := fun x hx => hL x (List.mem_cons_of_mem _ hx)
    unfold scan
    by_cases hc : low ∈ s.seen ∨ lies high low = false
    · rw [if_pos hc]
      have e := ih hL' s hs
      refine ⟨e.mono, e.sub, e.nd, fun h => ?_, e.done⟩
      obtain ⟨h1, h2, h3, h4⟩ := e.fail h
      refine ⟨h1, h2, fun l hl hy => ?_, h4⟩
      rcases List.mem_cons.mp hl with rfl | hl
      · rcases hc with hc | hc
        · exact e.mono _ hc
        · rw [hc] at hy; cases hy
      · exact h3 l hl hy
    · rw [if_neg hc]
      have hn : low ∉ s.seen := fun z => hc (.inl z)
      have hy : lies high low = true := by
        cases q : lies high low with
        | true => rfl
        | false => exact absurd (.inr q) hc
      have hlow : low ∈ L := hL low List.mem_cons_self
      cases ha : aget s.ab low with
      | none =>
        simp only
        refine ⟨fun x hx => List.mem_append_left _ hx, fun x hx => ?_, fun h => nodup_snoc h hn, fun h => (nomatch h), fun _ => ⟨⟨rfl, hlow, hy, ha⟩, rfl, by simp, fun p hp => ?_⟩⟩
        · rcases List.mem_append.mp hx with hx | hx
          · exact .inl hx
          · rw [List.mem_singleton.mp hx]; exact .inr hlow
        · rw [List.mem_singleton.mp hp]; exact hn
      | some up =>
        simp only
        have hs1 : unseen L (s.seen ++ [low]) < n := by
          have := unseen_lt (L := L) hlow hn; omega
        have e := hrec up ⟨s.ab, s.be, s.seen ++ [low]⟩ hs1
        have sub1 : ∀ x ∈ s.seen, x ∈ (rec up ⟨s.ab, s.be, s.seen ++ [low]⟩).2.seen := fun x hx => e.mono x (List.mem_append_left _ hx)
        have low1 : low ∈ (rec up ⟨s.ab, s.be, s.seen ++ [low]⟩).2.seen := e.mono low (List.mem_append_right _ List.mem_cons_self)
        have e2 : ∀ x ∈ (rec up ⟨s.ab, s.be, s.seen ++ [low]⟩).2.seen, x ∈ s.seen ∨ x ∈ L := fun x hx => by
          rcases e.sub x hx with h | h
          · rcases List.mem_append.mp h with h | h
            · exact .inl h
            · rw [List.mem_singleton.mp h]; exact .inr hlow
          · exact .inr h
        by_cases hr : (rec up ⟨s.ab, s.be, s.seen ++ [low]⟩).1 = []
        · rw [if_pos hr]
          obtain ⟨f1, f2, f3, f4⟩ := e.fail hr
          have f1 : (rec up ⟨s.ab, s.be, s.seen ++ [low]⟩).2.ab = s.ab := f1
          have f2 : (rec up ⟨s.ab, s.be, s.seen ++ [low]⟩).2.be = s.be := f2
          have hs2 : unseen L (rec up ⟨s.ab, s.be, s.seen ++ [low]⟩).2.seen < n + 1 := by
            have := unseen_mono (L := L) e.mono; simp only at this; omega
          have e' := ih hL' _ hs2
          refine ⟨fun x hx => e'.mono x (sub1 x hx), fun x hx => ?_, fun h => e'.nd (e.nd (nodup_snoc h hn)), fun h => ?_, fun h => ?_⟩
          · rcases e'.sub x hx with h | h
            · exact e2 x h
            · exact .inr h
          · obtain ⟨g1, g2, g3, g4⟩ := e'.fail h
            refine ⟨g1.trans f1, g2.trans f2, fun l hl hyl => ?_, fun l hl hl' => ?_⟩
            · rcases List.mem_cons.mp hl with rfl | hl
              · exact e'.mono _ low1
              · exact g3 l hl hyl
            · by_cases q : l ∈ (rec up ⟨s.ab, s.be, s.seen ++ [low]⟩).2.seen
              · by_cases q2 : l = low
                · subst q2
                  exact ⟨up, ha, fun l' h1 h2 => e'.mono _ (f3 l' h1 h2)⟩
                · obtain ⟨u, hu, hc⟩ := f4 l q fun z => (List.mem_append.mp z).elim hl' fun z => q2 (List.mem_singleton.mp z)
                  exact ⟨u, hu, fun l' h1 h2 => e'.mono _ (hc l' h1 h2)⟩
              · obtain ⟨u, hu, hc⟩ := g4 l hl q
                exact ⟨u, by rw [← f1]; exact hu, hc⟩
          · obtain ⟨g1, g2, g3, g4⟩ := e'.done h
            rw [f1] at g1
            refine ⟨g1, ?_, g3, fun p hp => fun z => g4 p hp (sub1 _ z)⟩
            rw [g2, f1, f2]
        · rw [if_neg hr]
          obtain ⟨g1, g2, g3, g4⟩ := e.done hr
          have g1 : Path lies L s.ab up (rec up ⟨s.ab, s.be, s.seen ++ [low]⟩).1 := g1
          refine ⟨sub1, e2, fun h => e.nd (nodup_snoc h hn), fun h => (nomatch h), fun _ => ⟨?_, ?_, ?_, fun p hp => ?_⟩⟩
          · cases q : (rec up ⟨s.ab, s.be, s.seen ++ [low]⟩).1 with
            | nil => exact absurd q hr
            | cons a b => rw [q] at g1; exact ⟨rfl, hlow, hy, up, ha, g1⟩
          · have g2' : (rec up ⟨s.ab, s.be, s.seen ++ [low]⟩).2.ab = (linkAll (rec up ⟨s.ab, s.be, s.seen ++ [low]⟩).1 s.ab s.be).1 := congrArg Prod.fst g2
            have g2'' : (rec up ⟨s.ab, s.be, s.seen ++ [low]⟩).2.be = (linkAll (rec up ⟨s.ab, s.be, s.seen ++ [low]⟩).1 s.ab s.be).2 := congrArg Prod.snd g2
            show (aput _ low high, aput _ high low) = linkAll ((high, low) :: _) s.ab s.be
            rw [g2', g2'']
            rfl
          · rw [List.map_cons]
            refine List.nodup_cons.mpr ⟨fun z => ?_, g3⟩
            obtain ⟨p, hp, ep⟩ := List.mem_map.mp z
            have ep : p.2 = low := ep
            exact g4 p hp (by rw [ep]; exact List.mem_append_right _ List.mem_cons_self)
          · rcases List.mem_cons.mp hp with rfl | hp
            · exact hn
            · exact fun z => g4 p hp (List.mem_append_left _ z)

theorem climb_end {lies : Int → Int → Bool} {L : List Int} : ∀ (n : Nat) (high : Int) (s : CS), unseen L s.seen < n → ClimbEnd lies L high L s (climb lies L n high s)
  | 0, _, _, h => absurd h (Nat.not_lt_zero _)
  | n + 1, high, s, h => scan_end high (fun up s' h' => climb_end n up s' h') L (fun _ hx => hx) s h
/-- the fuel does not matter where it is enough -/
theorem scan_congr {lies : Int → Int → Bool} {L : List Int} {n : Nat} {r1 r2 : Int → CS → Row × CS} (high : Int)
    (h1 : ∀ up s, unseen L s.seen < n → r1 up s = r2 up s) (h2 : ∀ up s, unseen L s.seen < n → ClimbEnd lies L up L s (r2 up s)) :
    ∀ (todo : List Int), (∀ x ∈ todo, x ∈ L) → ∀ s, unseen L s.seen < n + 1 → scan r1 lies high todo s = scan r2 lies high todo s := by
  intro todo
  induction todo with
  | nil => intro _ s _; rfl
  | cons low rest ih =>
    intro hL s hs
    have hL' : ∀ x ∈ rest, x ∈ L := fun x hx => hL x (List.mem_cons_of_mem _ hx)
    unfold scan
    by_cases hc : low ∈ s.seen ∨ lies high low = false
    · rw [if_pos hc, if_pos hc]; exact ih hL' s hs
    · rw [if_neg hc, if_neg hc]
      have hn : low ∉ s.seen := fun z => hc (.inl z)
      cases ha : aget s.ab low with
      | none => rfl
      | some up =>
        simp only
        have hs1 : unseen L (s.seen ++ [low]) < n := by
          have := unseen_lt (L := L) (hL low List.mem_cons_self) hn; omega
        rw [h1 up ⟨s.ab, s.be, s.seen ++ [low]⟩ hs1]
        by_cases hr : (r2 up ⟨s.ab, s.be, s.seen ++ [low]⟩).1 = []
        · rw [if_pos hr, if_pos hr]
          refine ih hL' _ ?_
          have := unseen_mono (L := L) (h2 up ⟨s.ab, s.be, s.seen ++ [low]⟩ hs1).mono
          simp only at this; omega
        · rw [if_neg hr, if_neg hr]
theorem climb_fuel {lies : Int → Int → Bool} {L : List Int} : ∀ (n m : Nat) (high : Int) (s : CS), unseen L s.seen < n → unseen L s.seen < m → climb lies L n high s = climb lies L m high s
  | 0, _, _, _, h, _ => absurd h (Nat.not_lt_zero _)
  | _ + 1, 0, _, _, _, h => absurd h (Nat.not_lt_zero _)
  | n + 1, m + 1, high, s, h1, h2 => by
    show scan (climb lies L n) lies high L s = scan (climb lies L m) lies high L s
    refine scan_congr (n := min n m) high (fun up s' h' => climb_fuel n m up s' (by omega) (by omega)) (fun up s' h' => climb_end m up s' (by omega)) L (fun _ hx => hx) s (by omega)
end FL

/-! Fewladders, the mathematics 2: linked things as ladders, a row's end, the certificate. -/
namespace FL

structure Mt (lies : Int → Int → Bool) (L : List Int) (ab be : List (Int × Int)) : Prop where
  nda : (ab.map (·.1)).Nodup
  ndb : (be.map (·.1)).Nodup
  inv : ∀ l h, aget ab l = some h ↔ aget be h = some l
  inL : ∀ l h, aget ab l = some h → l ∈ L ∧ h ∈ L ∧ lies h l = true
structure Po (lies : Int → Int → Bool) (L : List Int) : Prop where
  srt : L.Pairwise (· < ·)
  lt : ∀ a ∈ L, ∀ b, lies a b = true → b < a
  tr : ∀ a b c, a ∈ L → b ∈ L → c ∈ L → lies a b = true → lies b c = true → lies a c = true
theorem Po.nd {lies : Int → Int → Bool} {L : List Int} (P : Po lies L) : L.Nodup := P.srt.imp fun h => Int.ne_of_lt h
theorem Mt.empty (lies : Int → Int → Bool) (L : List Int) : Mt lies L [] [] :=
  ⟨List.nodup_nil, List.nodup_nil, fun l h => by simp [aget_nil], fun l h e => by simp [aget_nil] at e⟩
theorem Mt.inj {lies : Int → Int → Bool} {L : List Int} {ab be : List (Int × Int)} (M : Mt lies L ab be) {l l' h : Int} (h1 : aget ab l = some h) (h2 : aget ab l' = some h) : l = l' := by
  have a := (M.inv l h).mp h1
  have b := (M.inv l' h).mp h2
  rw [a] at b; exact Option.some.inj b
theorem Mt.alen {lies : Int → Int → Bool} {L : List Int} {ab be : List (Int × Int)} (M : Mt lies L ab be) : ab.length ≤ L.length := by
  have := nodup_len_le M.nda (m := L) fun x hx => by
    cases e : aget ab x with
    | none => exact absurd hx (aget_none_iff.mp e)
    | some y => exact (M.inL x y e).1
  rwa [List.length_map] at this
theorem Mt.blen {lies : Int → Int → Bool} {L : List Int} {ab be : List (Int × Int)} (M : Mt lies L ab be) : be.length ≤ L.length := by
  have := nodup_len_le M.ndb (m := L) fun x hx => by
    cases e : aget be x with
    | none => exact absurd hx (aget_none_iff.mp e)
    | some y => exact (M.inL y x ((M.inv y x).mpr e)).2.1
  rwa [List.length_map] at this

/-! ### what a row links -/
def atLow (r : Row) (l : Int) : Option Int := (r.find? fun p => decide (p.2 = l)).map (·.1)
def atHigh (r : Row) (h : Int) : Option Int := (r.find? fun p => decide (p.1 = h)).map (·.2)
theorem linkAll_ab (r : Row) (ab be : List (Int × Int)) (l : Int) : aget (linkAll r ab be).1 l = (atLow r l).or (aget ab l) := by
  induction r with
  | nil => rfl
  | cons p r ih =>
    show aget (aput (linkAll r ab be).1 p.2 p.1) l = _
    rw [aget_aput, ih]
    unfold atLow
    rw [List.find?_cons]
    by_cases e : p.2 = l
    · simp [e]
    · rw [if_neg fun z => e z.symm]; simp [e]
theorem linkAll_be (r : Row) (ab be : List (Int × Int)) (h : Int) : aget (linkAll r ab be).2 h = (atHigh r h).or (aget be h) := by
  induction r with
  | nil => rfl
  | cons p r ih =>
    show aget (aput (linkAll r ab be).2 p.1 p.2) h = _
    rw [aget_aput, ih]
    unfold atHigh
    rw [List.find?_cons]
    by_cases e : p.1 = h
    · simp [e]
    · rw [if_neg fun z => e z.symm]; simp [e]
theorem linkAll_nd (r : Row) {ab be : List (Int × Int)} (h1 : (ab.map (·.1)).Nodup) (h2 : (be.map (·.1)).Nodup) : ((linkAll r ab be).1.map (·.1)).Nodup ∧ ((linkAll r ab be).2.map (·.1)).Nodup := by
  induction r with
  | nil => exact ⟨h1, h2⟩
  | cons p r ih => exact ⟨aput_nodup ih.1, aput_nodup ih.2⟩
theorem atLow_some {r : Row} {l h : Int} (e : atLow r l = some h) : (h, l) ∈ r := by
  unfold atLow at e
  obtain ⟨p, hp, e2⟩ := Option.map_eq_some_iff.mp e
  have m := List.mem_of_find?_eq_some hp
  have q := List.find?_some hp
  have q : p.2 = l := of_decide_eq_true q
  obtain ⟨a, b⟩ := p
  cases q; cases e2; exact m
theorem atHigh_some {r : Row} {l h : Int} (e : atHigh r h = some l) : (h, l) ∈ r := by
  unfold atHigh at e
  obtain ⟨p, hp, e2⟩ := Option.map_eq_some_iff.mp e
  have m := List.mem_of_find?_eq_some hp
  have q := List.find?_some hp
  have q : p.1 = h := of_decide_eq_true q
  obtain ⟨a, b⟩ := p
  cases q; cases e2; exact m
theorem atLow_none {r : Row} {l : Int} (e : atLow r l = none) : ∀ p ∈ r, p.2 ≠ l := fun p hp z => by
  unfold atLow at e
  have := List.find?_eq_none.mp (Option.map_eq_none_iff.mp e) p hp
  simp [z] at this
theorem atHigh_none {r : Row} {h : Int} (e : atHigh r h = none) : ∀ p ∈ r, p.1 ≠ h := fun p hp z => by
  unfold atHigh at e
  have := List.find?_eq_none.mp (Option.map_eq_none_iff.mp e) p hp
  simp [z] at this
theorem nd_eq {α β : Type} {f : α → β} : ∀ {r : List α}, (r.map f).Nodup → ∀ {p q : α}, p ∈ r → q ∈ r → f p = f q → p = q
  | [], _, _, _, hp, _, _ => nomatch hp
  | a :: r, h, p, q, hp, hq, e => by
    rw [List.map_cons] at h
    obtain ⟨h1, h2⟩ := List.nodup_cons.mp h
    rcases List.mem_cons.mp hp with ep | hp'
    · rcases List.mem_cons.mp hq with eq | hq'
      · rw [ep, eq]
      · exact absurd (List.mem_map.mpr ⟨q, hq', by rw [← e, ep]⟩) h1
    · rcases List.mem_cons.mp hq with eq | hq'
      · exact absurd (List.mem_map.mpr ⟨p, hp', by rw [e, eq]⟩) h1
      · exact nd_eq h2 hp' hq' e
theorem atLow_mem {r : Row} {l h : Int} (n : (r.map (·.2)).Nodup) (m : (h, l) ∈ r) : atLow r l = some h := by
  cases e : atLow r l with
  | none => exact absurd rfl (atLow_none e (h, l) m)
  | some h' =>
    have := nd_eq (f := (·.2)) n (atLow_some e) m rfl
    cases this; rfl
theorem atHigh_mem {r : Row} {l h : Int} (n : (r.map (·.1)).Nodup) (m : (h, l) ∈ r) : atHigh r h = some l := by
  cases e : atHigh r h with
  | none => exact absurd rfl (atHigh_none e (h, l) m)
  | some h' =>
    have := nd_eq (f := (·.1)) n (atHigh_some e) m rfl
    cases this; rfl

section
variable {lies : Int → Int → Bool} {L : List Int} {ab be : List (Int × Int)}
theorem Path.head : ∀ {high : Int} {r : Row}, Path lies L ab high r → ∃ l r', r = (high, l) :: r'
  | _, [], h => h.elim
  | _, [p], h => by obtain ⟨rfl, _⟩ := h; exact ⟨_, _, rfl⟩
  | _, p :: q :: r, h => by obtain ⟨rfl, _⟩ := h; exact ⟨_, _, rfl⟩
/-- each pair's upper thing is the first or stood above another pair's lower one -/
theorem Path.p1 : ∀ {high : Int} {r : Row}, Path lies L ab high r → ∀ p ∈ r, p.1 = high ∨ ∃ q ∈ r, aget ab q.2 = some p.1
  | _, [], h, _, _ => h.elim
  | _, [p], h, x, hx => by obtain ⟨rfl, _⟩ := h; rw [List.mem_singleton.mp hx]; exact .inl rfl
  | _, p :: q :: r, h, x, hx => by
    obtain ⟨e, _, _, up, hup, hr⟩ := h
    rcases List.mem_cons.mp hx with rfl | hx
    · exact .inl e
    · right
      rcases Path.p1 hr x hx with e | ⟨z, hz, ez⟩
      · exact ⟨p, List.mem_cons_self, by rw [e]; exact hup⟩
      · exact ⟨z, List.mem_cons_of_mem _ hz, ez⟩
theorem Path.p2 : ∀ {high : Int} {r : Row}, Path lies L ab high r → ∀ p ∈ r, aget ab p.2 = none ∨ ∃ q ∈ r, aget ab p.2 = some q.1
  | _, [], h, _, _ => h.elim
  | _, [p], h, x, hx => by obtain ⟨_, _, _, e⟩ := h; rw [List.mem_singleton.mp hx]; exact .inl e
  | _, p :: q :: r, h, x, hx => by
    obtain ⟨e, _, _, up, hup, hr⟩ := h
    rcases List.mem_cons.mp hx with rfl | hx
    · obtain ⟨l, r', er⟩ := hr.head
      right
      exact ⟨q, List.mem_cons_of_mem _ List.mem_cons_self, by rw [hup]; rw [List.cons.injEq] at er; rw [er.1]⟩
    · rcases Path.p2 hr x hx with e | ⟨z, hz, ez⟩
      · exact .inl e
      · exact .inr ⟨z, List.mem_cons_of_mem _ hz, ez⟩
theorem Path.p4 : ∀ {high : Int} {r : Row}, Path lies L ab high r → ∀ p ∈ r, p.2 ∈ L ∧ lies p.1 p.2 = true
  | _, [], h, _, _ => h.elim
  | _, [p], h, x, hx => by obtain ⟨rfl, h1, h2, _⟩ := h; rw [List.mem_singleton.mp hx]; exact ⟨h1, h2⟩
  | _, p :: q :: r, h, x, hx => by
    obtain ⟨rfl, h1, h2, up, hup, hr⟩ := h
    rcases List.mem_cons.mp hx with rfl | hx
    · exact ⟨h1, h2⟩
    · exact Path.p4 hr x hx
theorem Path.p3 (M : Mt lies L ab be) : ∀ {high : Int} {r : Row}, Path lies L ab high r → (r.map (·.2)).Nodup → (∀ p ∈ r, aget ab p.2 ≠ some high) → (r.map (·.1)).Nodup
  | _, [], h, _, _ => h.elim
  | _, [p], h, _, _ => by simp
  | high, p :: q :: r, h, n, hh => by
    obtain ⟨e, h1, h2, up, hup, hr⟩ := h
    rw [List.map_cons] at n
    obtain ⟨n1, n2⟩ := List.nodup_cons.mp n
    rw [List.map_cons]
    have nup : ∀ z ∈ q :: r, aget ab z.2 ≠ some up := fun z hz ez => by
      have := M.inj hup ez
      exact n1 (List.mem_map.mpr ⟨z, hz, this.symm⟩)
    refine List.nodup_cons.mpr ⟨fun z => ?_, Path.p3 M hr n2 nup⟩
    obtain ⟨y, hy, ey⟩ := List.mem_map.mp z
    have ey : y.1 = p.1 := ey
    rcases Path.p1 hr y hy with e' | ⟨x, hx, ex⟩
    · exact hh p List.mem_cons_self (by rw [hup, ← e', ey, e])
    · exact hh x (List.mem_cons_of_mem _ hx) (by rw [ex, ey, e])

/-- behind a row -/
theorem Mt.row (M : Mt lies L ab be) {high : Int} {r : Row} (hL : high ∈ L) (hb : aget be high = none) (p : Path lies L ab high r) (n : (r.map (·.2)).Nodup) :
    Mt lies L (linkAll r ab be).1 (linkAll r ab be).2 ∧ ∀ h, aget (linkAll r ab be).2 h = none ↔ aget be h = none ∧ h ≠ high := by
  have hno : ∀ l, aget ab l ≠ some high := fun l e => by rw [(M.inv l high).mp e] at hb; cases hb
  have n1 := p.p3 M n fun q _ => hno q.2
  refine ⟨⟨(linkAll_nd r M.nda M.ndb).1, (linkAll_nd r M.nda M.ndb).2, fun l h => ?_, fun l h e => ?_⟩, fun h => ?_⟩
  · rw [linkAll_ab, linkAll_be]
    constructor
    · intro e
      cases ea : atLow r l with
      | some h' =>
        rw [ea] at e
        have e : h' = h := Option.some.inj e
        subst e
        rw [atHigh_mem n1 (atLow_some ea)]; rfl
      | none =>
        rw [ea, Option.none_or] at e
        cases eb : atHigh r h with
        | none => rw [Option.none_or]; exact (M.inv l h).mp e
        | some l' =>
          rcases p.p1 _ (atHigh_some eb) with e' | ⟨q, hq, eq⟩
          · have e' : h = high := e'
            exact absurd (e' ▸ e) (hno l)
          · have := M.inj e eq
            exact absurd this.symm (atLow_none ea q hq)
    · intro e
      cases eb : atHigh r h with
      | some l' =>
        rw [eb] at e
        have e : l' = l := Option.some.inj e
        subst e
        rw [atLow_mem n (atHigh_some eb)]; rfl
      | none =>
        rw [eb, Option.none_or] at e
        have e2 := (M.inv l h).mpr e
        cases ea : atLow r l with
        | none => rw [Option.none_or]; exact e2
        | some h' =>
          rcases p.p2 _ (atLow_some ea) with e' | ⟨q, hq, eq⟩
          · have e' : aget ab l = none := e'
            rw [e2] at e'; cases e'
          · have eq : aget ab l = some q.1 := eq
            rw [e2] at eq
            exact absurd (Option.some.inj eq).symm (atHigh_none eb q hq)
  · rw [linkAll_ab] at e
    cases ea : atLow r l with
    | some h' =>
      rw [ea] at e
      have e : h' = h := Option.some.inj e
      subst e
      have m := atLow_some ea
      obtain ⟨q1, q2⟩ := p.p4 _ m
      refine ⟨q1, ?_, q2⟩
      rcases p.p1 _ m with e' | ⟨q, _, eq⟩
      · have e' : h' = high := e'
        rw [e']; exact hL
      · exact (M.inL _ _ eq).2.1
    | none => rw [ea, Option.none_or] at e; exact M.inL l h e
  · rw [linkAll_be]
    cases eb : atHigh r h with
    | some l' =>
      rw [Option.some_or]
      refine ⟨fun z => (nomatch z), fun ⟨z1, z2⟩ => ?_⟩
      rcases p.p1 _ (atHigh_some eb) with e' | ⟨q, _, eq⟩
      · exact absurd e' z2
      · have eq : aget ab q.2 = some h := eq
        rw [(M.inv _ _).mp eq] at z1; cases z1
    | none =>
      rw [Option.none_or]
      refine ⟨fun z => ⟨z, fun z2 => ?_⟩, fun z => z.1⟩
      obtain ⟨l, r', er⟩ := p.head
      exact atHigh_none eb (high, l) (by rw [er]; exact List.mem_cons_self) z2.symm
end

/-! ### ladders -/
def bots (L : List Int) (be : List (Int × Int)) : List Int := L.filter fun x => (aget be x).isNone
def up (ab : List (Int × Int)) : Nat → Int → List Int
  | 0, x => [x]
  | n + 1, x => match aget ab x with
    | none => [x]
    | some y => x :: up ab n y
def ladders (L : List Int) (ab be : List (Int × Int)) : List (List Int) := (bots L be).map (up ab L.length)
/-- how many stand higher -/
def above (L : List Int) (x : Int) : Nat := (L.filter fun y => decide (x < y)).length
theorem above_lt {L : List Int} {x y : Int} (hy : y ∈ L) (h : x < y) : above L y < above L x := by
  induction L with
  | nil => cases hy
  | cons a r ih =>
    unfold above at ih ⊢
    rw [List.filter_cons, List.filter_cons]
    rcases List.mem_cons.mp hy with rfl | hy'
    · rw [if_neg (by simp), if_pos (by simp [h])]
      have : (r.filter fun z => decide (y < z)).length ≤ (r.filter fun z => decide (x < z)).length := by
        clear ih hy
        induction r with
        | nil => exact Nat.le_refl _
        | cons b r ih =>
          rw [List.filter_cons, List.filter_cons]
          by_cases q : y < b
          · rw [if_pos (by simp [q]), if_pos (decide_eq_true (by omega))]; simp only [List.length_cons]; omega
          · rw [if_neg (by simp [q])]
            split
            · simp only [List.length_cons]; omega
            · exact ih
      simp only [List.length_cons]; omega
    · have := ih hy'
      by_cases q : y < a
      · rw [if_pos (by simp [q]), if_pos (by simp; omega)]; simp only [List.length_cons]; omega
      · rw [if_neg (by simp [q])]; split
        · simp only [List.length_cons]; omega
        · exact this
theorem above_le (L : List Int) (x : Int) : above L x ≤ L.length := List.length_filter_le _ _
section
variable {lies : Int → Int → Bool} {L : List Int} {ab be : List (Int × Int)}
theorem up_mem : ∀ (n : Nat) (x : Int), x ∈ up ab n x
  | 0, x => by simp [up]
  | n + 1, x => by
    unfold up
    cases aget ab x <;> simp
theorem up_ne (n : Nat) (x : Int) : up ab n x ≠ [] := List.ne_nil_of_mem (up_mem n x)
theorem up_head : ∀ (n : Nat) (x : Int), ∃ t, up ab n x = x :: t
  | 0, x => ⟨[], rfl⟩
  | n + 1, x => by
    unfold up
    cases aget ab x with
    | none => exact ⟨[], rfl⟩
    | some y => exact ⟨_, rfl⟩
theorem up_in (M : Mt lies L ab be) : ∀ (n : Nat) (x : Int), x ∈ L → ∀ y ∈ up ab n x, y ∈ L
  | 0, x, h, y, hy => by rw [List.mem_singleton.mp (show y ∈ [x] from hy)]; exact h
  | n + 1, x, h, y, hy => by
    unfold up at hy
    cases e : aget ab x with
    | none => rw [e] at hy; rw [List.mem_singleton.mp hy]; exact h
    | some z =>
      rw [e] at hy
      rcases List.mem_cons.mp hy with rfl | hy
      · exact h
      · exact up_in M n z (M.inL _ _ e).2.1 y hy
/-- each one above all ahead of it -/
theorem up_chain (P : Po lies L) (M : Mt lies L ab be) : ∀ (n : Nat) (x : Int), x ∈ L → (up ab n x).Pairwise fun a b => lies b a = true
  | 0, x, _ => List.pairwise_singleton _ _
  | n + 1, x, h => by
    unfold up
    cases e : aget ab x with
    | none => exact List.pairwise_singleton _ _
    | some z =>
      obtain ⟨_, hz, hl⟩ := M.inL _ _ e
      refine List.pairwise_cons.mpr ⟨fun y hy => ?_, up_chain P M n z hz⟩
      have hyL := up_in M n z hz y hy
      obtain ⟨t, et⟩ := up_head (ab := ab) n z
      rw [et] at hy
      rcases List.mem_cons.mp hy with rfl | hy
      · exact hl
      · have c := up_chain P M n z hz
        rw [et] at c
        exact P.tr y z x hyL hz h ((List.pairwise_cons.mp c).1 y hy) hl
theorem up_srt (P : Po lies L) (M : Mt lies L ab be) (n : Nat) {x : Int} (h : x ∈ L) : (up ab n x).Pairwise (· < ·) :=
  (up_chain P M n x h).imp_of_mem fun {_ b} _ hb hl => P.lt b (up_in M n x h b hb) _ hl
/-- the row goes on where it can -/
theorem up_next (P : Po lies L) (M : Mt lies L ab be) : ∀ (n : Nat) (x : Int), x ∈ L → above L x ≤ n → ∀ y ∈ up ab n x, ∀ z, aget ab y = some z → z ∈ up ab n x
  | 0, x, h, hn, y, hy, z, e => by
    rw [List.mem_singleton.mp (show y ∈ [x] from hy)] at e
    obtain ⟨_, hz, hl⟩ := M.inL _ _ e
    have := above_lt hz (P.lt z hz x hl)
    omega
  | n + 1, x, h, hn, y, hy, z, e => by
    unfold up at hy ⊢
    cases ex : aget ab x with
    | none => rw [ex] at hy; rw [List.mem_singleton.mp hy, ex] at e; cases e
    | some w =>
      rw [ex] at hy
      obtain ⟨_, hw, hl⟩ := M.inL _ _ ex
      have := above_lt hw (P.lt w hw x hl)
      rcases List.mem_cons.mp hy with rfl | hy
      · rw [ex] at e; cases e; exact List.mem_cons_of_mem _ (up_mem _ _)
      · exact List.mem_cons_of_mem _ (up_next P M n w hw (by omega) y hy z e)
/-- who is not the first stands right above one ahead -/
theorem up_prev : ∀ (n : Nat) (x y : Int), y ∈ up ab n x → y = x ∨ ∃ z ∈ up ab n x, aget ab z = some y
  | 0, x, y, hy => .inl (List.mem_singleton.mp (show y ∈ [x] from hy))
  | n + 1, x, y, hy => by
    unfold up at hy ⊢
    cases ex : aget ab x with
    | none => rw [ex] at hy; exact .inl (List.mem_singleton.mp hy)
    | some w =>
      rw [ex] at hy
      rcases List.mem_cons.mp hy with rfl | hy
      · exact .inl rfl
      · right
        rcases up_prev n w y hy with rfl | ⟨z, hz, ez⟩
        · exact ⟨x, List.mem_cons_self, ex⟩
        · exact ⟨z, List.mem_cons_of_mem _ hz, ez⟩
/-- one next above, not beyond -/
theorem up_step (P : Po lies L) (M : Mt lies L ab be) : ∀ (n : Nat) (x : Int), x ∈ L → ∀ y ∈ up ab n x, ∀ a ∈ up ab n x, y < a → ∃ z, aget ab y = some z ∧ z ∈ up ab n x ∧ z ≤ a
  | 0, x, h, y, hy, a, ha, hl => by
    rw [List.mem_singleton.mp (show y ∈ [x] from hy), List.mem_singleton.mp (show a ∈ [x] from ha)] at hl
    omega
  | n + 1, x, h, y, hy, a, ha, hl => by
    have c := up_srt P M (n + 1) h
    unfold up at hy ha c ⊢
    cases ex : aget ab x with
    | none =>
      rw [ex] at hy ha
      rw [List.mem_singleton.mp hy, List.mem_singleton.mp ha] at hl; omega
    | some w =>
      rw [ex] at hy ha c
      obtain ⟨_, hw, hwl⟩ := M.inL _ _ ex
      rcases List.mem_cons.mp hy with rfl | hy
      · refine ⟨w, ex, List.mem_cons_of_mem _ (up_mem _ _), ?_⟩
        rcases List.mem_cons.mp ha with rfl | ha
        · omega
        · obtain ⟨t, et⟩ := up_head (ab := ab) n w
          rw [et] at ha
          rcases List.mem_cons.mp ha with rfl | ha
          · exact Int.le_refl _
          · have c2 := (List.pairwise_cons.mp c).2
            rw [et] at c2
            exact Int.le_of_lt ((List.pairwise_cons.mp c2).1 a ha)
      · rcases List.mem_cons.mp ha with ea | ha
        · have q : y ∈ up ab n w := hy
          have := (List.pairwise_cons.mp c).1 y q; omega
        · obtain ⟨z, e1, e2, e3⟩ := up_step P M n w hw y hy a ha hl
          exact ⟨z, e1, List.mem_cons_of_mem _ e2, e3⟩

theorem mem_bots {x : Int} : x ∈ bots L be ↔ x ∈ L ∧ aget be x = none := by
  unfold bots
  rw [List.mem_filter, Option.isNone_iff_eq_none]
/-- each thing is on a ladder -/
theorem on_ladder (P : Po lies L) (M : Mt lies L ab be) : ∀ (k : Nat) (x : Int), (L.filter fun y => decide (y < x)).length ≤ k → x ∈ L → ∃ b ∈ bots L be, x ∈ up ab L.length b := by
  intro k
  induction k with
  | zero =>
    intro x hk hx
    cases e : aget be x with
    | none => exact ⟨x, mem_bots.mpr ⟨hx, e⟩, up_mem _ _⟩
    | some y =>
      obtain ⟨hy, _, hl⟩ := M.inL _ _ ((M.inv y x).mpr e)
      have : y ∈ L.filter fun z => decide (z < x) := List.mem_filter.mpr ⟨hy, by simp [P.lt x hx y hl]⟩
      have := List.length_pos_of_mem this
      omega
  | succ k ih =>
    intro x hk hx
    cases e : aget be x with
    | none => exact ⟨x, mem_bots.mpr ⟨hx, e⟩, up_mem _ _⟩
    | some y =>
      have ey := (M.inv y x).mpr e
      obtain ⟨hy, _, hl⟩ := M.inL _ _ ey
      have hyx := P.lt x hx y hl
      have hlen : (L.filter fun z => decide (z < y)).length < (L.filter fun z => decide (z < x)).length := by
        have hs : ((L.filter fun z => decide (z < y)) ++ [y]).length ≤ (L.filter fun z => decide (z < x)).length := by
          refine nodup_len_le (nodup_snoc (P.nd.sublist List.filter_sublist) fun z => ?_) fun z hz => ?_
          · have := (List.mem_filter.mp z).2; simp at this
          · rcases List.mem_append.mp hz with hz | hz
            · obtain ⟨h1, h2⟩ := List.mem_filter.mp hz
              have h2 : z < y := by simpa using h2
              exact List.mem_filter.mpr ⟨h1, decide_eq_true (by omega)⟩
            · rw [List.mem_singleton.mp hz]
              exact List.mem_filter.mpr ⟨hy, decide_eq_true (by omega)⟩
        rw [List.length_append, List.length_singleton] at hs
        omega
      obtain ⟨b, hb, hyb⟩ := ih y (by omega) hy
      exact ⟨b, hb, up_next P M L.length b (mem_bots.mp hb).1 (above_le _ _) y hyb x ey⟩
/-- .. on one alone -/
theorem one_ladder (P : Po lies L) (M : Mt lies L ab be) : ∀ (k : Nat) (x : Int), (L.filter fun y => decide (y < x)).length ≤ k → ∀ b ∈ bots L be, ∀ c ∈ bots L be, x ∈ up ab L.length b → x ∈ up ab L.length c → b = c := by
  intro k
  induction k with
  | zero =>
    intro x hk b hb c hc h1 h2
    have no : ∀ z, aget ab z ≠ some x := fun z e => by
      obtain ⟨hz, hx, hl⟩ := M.inL _ _ e
      have : z ∈ L.filter fun y => decide (y < x) := List.mem_filter.mpr ⟨hz, by simp [P.lt x hx z hl]⟩
      have := List.length_pos_of_mem this
      omega
    rcases up_prev _ _ _ h1 with e1 | ⟨z, _, ez⟩
    · rcases up_prev _ _ _ h2 with e2 | ⟨z, _, ez⟩
      · exact e1.symm.trans e2
      · exact absurd ez (no z)
    · exact absurd ez (no z)
  | succ k ih =>
    intro x hk b hb c hc h1 h2
    rcases up_prev _ _ _ h1 with e1 | ⟨z, hz, ez⟩
    · rcases up_prev _ _ _ h2 with e2 | ⟨z, _, ez⟩
      · exact e1.symm.trans e2
      · have := (mem_bots.mp hb).2
        rw [← e1, (M.inv _ _).mp ez] at this; cases this
    · rcases up_prev _ _ _ h2 with e2 | ⟨z', hz', ez'⟩
      · have := (mem_bots.mp hc).2
        rw [← e2, (M.inv _ _).mp ez] at this; cases this
      · have e : z = z' := M.inj ez ez'
        subst e
        obtain ⟨hzL, hx, hl⟩ := M.inL _ _ ez
        have hzx := P.lt x hx z hl
        refine ih z ?_ b hb c hc hz hz'
        have hs : ((L.filter fun y => decide (y < z)) ++ [z]).length ≤ (L.filter fun y => decide (y < x)).length := by
          refine nodup_len_le (nodup_snoc (P.nd.sublist List.filter_sublist) fun q => ?_) fun q hq => ?_
          · have := (List.mem_filter.mp q).2; simp at this
          · rcases List.mem_append.mp hq with hq | hq
            · obtain ⟨g1, g2⟩ := List.mem_filter.mp hq
              have g2 : q < z := by simpa using g2
              exact List.mem_filter.mpr ⟨g1, decide_eq_true (by omega)⟩
            · rw [List.mem_singleton.mp hq]
              exact List.mem_filter.mpr ⟨hzL, decide_eq_true (by omega)⟩
        rw [List.length_append, List.length_singleton] at hs
        omega
theorem bots_nd (P : Po lies L) : (bots L be).Nodup := P.nd.sublist List.filter_sublist
theorem ladders_perm (P : Po lies L) (M : Mt lies L ab be) : (ladders L ab be).flatten.Perm L := by
  refine (List.perm_ext_iff_of_nodup ?_ P.nd).mpr fun x => ?_
  · unfold ladders
    refine List.pairwise_flatten.mpr ⟨fun l hl => ?_, ?_⟩
    · obtain ⟨b, hb, rfl⟩ := List.mem_map.mp hl
      exact (up_srt P M L.length (mem_bots.mp hb).1).imp fun h => Int.ne_of_lt h
    · refine List.pairwise_map.mpr ((bots_nd (be := be) P).imp_of_mem fun {b c} hb hc ne x hx y hy e => ?_)
      subst e
      exact ne (one_ladder P M _ x (Nat.le_refl _) b hb c hc hx hy)
  · unfold ladders
    rw [List.mem_flatten]
    constructor
    · rintro ⟨l, hl, hx⟩
      obtain ⟨b, hb, rfl⟩ := List.mem_map.mp hl
      exact up_in M _ b (mem_bots.mp hb).1 x hx
    · intro hx
      obtain ⟨b, hb, h⟩ := on_ladder P M _ x (Nat.le_refl _) hx
      exact ⟨_, List.mem_map.mpr ⟨b, hb, rfl⟩, h⟩
theorem ladders_len : (ladders L ab be).length = (bots L be).length := by unfold ladders; rw [List.length_map]

/-! ### counting along the ladders -/
theorem count_ladders (P : Po lies L) (M : Mt lies L ab be) (p : Int → Bool) : (L.filter p).length = ((bots L be).map fun b => ((up ab L.length b).filter p).length).sum := by
  have h := (ladders_perm P M).filter p
  rw [← h.length_eq, List.filter_flatten, List.length_flatten, List.map_map]
  unfold ladders
  rw [List.map_map]
  rfl
theorem sum_le_len {f : Int → Nat} : ∀ {l : List Int}, (∀ x ∈ l, f x ≤ 1) → (l.map f).sum ≤ l.length
  | [], _ => Nat.le_refl _
  | a :: r, h => by
    have := sum_le_len (f := f) (l := r) fun x hx => h x (List.mem_cons_of_mem _ hx)
    have := h a List.mem_cons_self
    simp only [List.map_cons, List.sum_cons, List.length_cons]; omega
theorem len_le_sum {f : Int → Nat} : ∀ {l : List Int}, (∀ x ∈ l, 1 ≤ f x) → l.length ≤ (l.map f).sum
  | [], _ => Nat.le_refl _
  | a :: r, h => by
    have := len_le_sum (f := f) (l := r) fun x hx => h x (List.mem_cons_of_mem _ hx)
    have := h a List.mem_cons_self
    simp only [List.map_cons, List.sum_cons, List.length_cons]; omega
theorem all_one {f : Int → Nat} : ∀ {l : List Int}, (∀ x ∈ l, f x ≤ 1) → l.length ≤ (l.map f).sum → ∀ x ∈ l, f x = 1
  | [], _, _, _, h => nomatch h
  | a :: r, h, hs, x, hx => by
    have h1 := sum_le_len (f := f) (l := r) fun x hx => h x (List.mem_cons_of_mem _ hx)
    have h2 := h a List.mem_cons_self
    simp only [List.map_cons, List.sum_cons, List.length_cons] at hs
    rcases List.mem_cons.mp hx with rfl | hx
    · omega
    · exact all_one (fun x hx => h x (List.mem_cons_of_mem _ hx)) (by omega) x hx
/-- things of which none lies above another -/
def Anti (lies : Int → Int → Bool) (A : List Int) : Prop := ∀ x ∈ A, ∀ y ∈ A, lies x y = false
theorem anti_one (P : Po lies L) (M : Mt lies L ab be) {A : List Int} (hA : Anti lies A) {b : Int} (hb : b ∈ L) : ((up ab L.length b).filter fun x => decide (x ∈ A)).length ≤ 1 := by
  have c := (up_chain P M L.length b hb).sublist (List.filter_sublist (p := fun x => decide (x ∈ A)))
  cases e : (up ab L.length b).filter fun x => decide (x ∈ A) with
  | nil => exact Nat.zero_le _
  | cons x t =>
    cases t with
    | nil => exact Nat.le_refl _
    | cons y t =>
      rw [e] at c
      have hl := (List.pairwise_cons.mp c).1 y List.mem_cons_self
      have hx : x ∈ A := by
        have : x ∈ (up ab L.length b).filter fun x => decide (x ∈ A) := by rw [e]; exact List.mem_cons_self
        simpa using (List.mem_filter.mp this).2
      have hy : y ∈ A := by
        have : y ∈ (up ab L.length b).filter fun x => decide (x ∈ A) := by rw [e]; exact List.mem_cons_of_mem _ List.mem_cons_self
        simpa using (List.mem_filter.mp this).2
      rw [hA y hy x hx] at hl; cases hl
/-- no free set has more things than there are ladders -/
theorem anti_le (P : Po lies L) (M : Mt lies L ab be) {A : List Int} (hA : Anti lies A) (n : A.Nodup) (hL : ∀ x ∈ A, x ∈ L) : A.length ≤ (bots L be).length := by
  have h1 : A.length ≤ (L.filter fun x => decide (x ∈ A)).length := nodup_len_le n fun x hx => List.mem_filter.mpr ⟨hL x hx, by simp [hx]⟩
  rw [count_ladders P M] at h1
  exact Nat.le_trans h1 (sum_le_len fun b hb => anti_one P M hA (mem_bots.mp hb).1)

/-! ### no row: the certificate -/
/-- nothing more to be joined: a set of lower things that is closed -/
def NoAug (lies : Int → Int → Bool) (L : List Int) (ab be : List (Int × Int)) : Prop :=
  ∃ R : Int → Prop, (∀ h ∈ L, aget be h = none → ∀ l ∈ L, lies h l = true → R l) ∧ ∀ l, R l → ∃ u, aget ab l = some u ∧ ∀ l' ∈ L, lies u l' = true → R l'
/-- reached and not come to from above: one on each ladder -/
theorem closed_one (P : Po lies L) (M : Mt lies L ab be) {R T : Int → Prop} (h1 : ∀ l, R l → ∃ u, aget ab l = some u ∧ T u) :
    ∀ (n : Nat) (x : Int), x ∈ L → above L x ≤ n → T x → ∃ z ∈ up ab n x, T z ∧ ¬ R z
  | 0, x, hx, hn, ht => by
    refine ⟨x, up_mem _ _, ht, fun r => ?_⟩
    obtain ⟨u, e, _⟩ := h1 x r
    obtain ⟨_, hu, hl⟩ := M.inL _ _ e
    have := above_lt hu (P.lt u hu x hl); omega
  | n + 1, x, hx, hn, ht => by
    by_cases r : R x
    · obtain ⟨u, e, tu⟩ := h1 x r
      obtain ⟨_, hu, hl⟩ := M.inL _ _ e
      have := above_lt hu (P.lt u hu x hl)
      obtain ⟨z, hz, h⟩ := closed_one P M h1 n u hu (by omega) tu
      refine ⟨z, ?_, h⟩
      unfold up; rw [e]; exact List.mem_cons_of_mem _ hz
    · exact ⟨x, up_mem _ _, ht, r⟩
/-- a free set as great as the ladders are many -/
theorem closed_free (P : Po lies L) (M : Mt lies L ab be) {R T : Int → Prop} [DecidablePred R] [DecidablePred T] (h0 : ∀ b ∈ L, aget be b = none → T b) (h1 : ∀ l, R l → ∃ u, aget ab l = some u ∧ T u)
    (h2 : ∀ x ∈ L, T x → ∀ l ∈ L, lies x l = true → R l) :
    Anti lies (L.filter fun x => decide (T x ∧ ¬ R x)) ∧ (L.filter fun x => decide (T x ∧ ¬ R x)).length = (bots L be).length := by
  have an : Anti lies (L.filter fun x => decide (T x ∧ ¬ R x)) := fun x hx y hy => by
    obtain ⟨x1, x2⟩ := List.mem_filter.mp hx
    obtain ⟨y1, y2⟩ := List.mem_filter.mp hy
    have x2 := of_decide_eq_true x2
    have y2 := of_decide_eq_true y2
    cases e : lies x y with
    | false => rfl
    | true => exact absurd (h2 x x1 x2.1 y y1 e) y2.2
  refine ⟨an, Nat.le_antisymm (anti_le P M an (P.nd.sublist List.filter_sublist) fun x hx => (List.mem_filter.mp hx).1) ?_⟩
  rw [count_ladders P M]
  refine len_le_sum fun b hb => ?_
  obtain ⟨hbL, hbn⟩ := mem_bots.mp hb
  obtain ⟨z, hz, h⟩ := closed_one P M h1 L.length b hbL (above_le _ _) (h0 b hbL hbn)
  exact List.length_pos_of_mem (List.mem_filter.mpr ⟨hz, decide_eq_true h⟩)
theorem NoAug.cert (P : Po lies L) (M : Mt lies L ab be) (N : NoAug lies L ab be) : ∃ A : List Int, A.Nodup ∧ (∀ x ∈ A, x ∈ L) ∧ Anti lies A ∧ A.length = (bots L be).length := by
  obtain ⟨R, r1, r2⟩ := N
  classical
  obtain ⟨h1, h2⟩ := closed_free (R := R) (T := fun x => aget be x = none ∨ ∃ l, R l ∧ aget ab l = some x) P M (fun b _ e => .inl e) (fun l hl => by
      obtain ⟨u, e, _⟩ := r2 l hl
      exact ⟨u, e, .inr ⟨l, hl, e⟩⟩) (fun x hx t l hl e => by
      rcases t with t | ⟨l', hl', e'⟩
      · exact r1 x hx t l hl e
      · obtain ⟨u, e2, h⟩ := r2 l' hl'
        rw [e'] at e2; cases e2
        exact h l hl e)
  exact ⟨_, P.nd.sublist List.filter_sublist, fun x hx => (List.mem_filter.mp hx).1, h1, h2⟩
theorem NoAug.of_cert (P : Po lies L) (M : Mt lies L ab be) {A : List Int} (n : A.Nodup) (hL : ∀ x ∈ A, x ∈ L) (hA : Anti lies A) (hl : (bots L be).length ≤ A.length) : NoAug lies L ab be := by
  have h1 : A.length ≤ (L.filter fun x => decide (x ∈ A)).length := nodup_len_le n fun x hx => List.mem_filter.mpr ⟨hL x hx, by simp [hx]⟩
  rw [count_ladders P M] at h1
  have one := all_one (fun b hb => anti_one P M hA (mem_bots.mp hb).1) (Nat.le_trans hl h1)
  have ex : ∀ b ∈ bots L be, ∃ a ∈ A, a ∈ up ab L.length b := fun b hb => by
    have q := one b hb
    cases e : (up ab L.length b).filter fun x => decide (x ∈ A) with
    | nil => rw [e] at q; cases q
    | cons a t =>
      have : a ∈ (up ab L.length b).filter fun x => decide (x ∈ A) := by rw [e]; exact List.mem_cons_self
      obtain ⟨q1, q2⟩ := List.mem_filter.mp this
      exact ⟨a, by simpa using q2, q1⟩
  have cmp : ∀ b ∈ bots L be, ∀ x ∈ up ab L.length b, ∀ y ∈ up ab L.length b, x < y → lies y x = true := fun b hb x hx y hy h => by
    have c := up_chain P M L.length b (mem_bots.mp hb).1
    have s := up_srt P M L.length (mem_bots.mp hb).1
    have both := List.pairwise_and_iff.mpr ⟨c, s⟩
    generalize up ab L.length b = l at both hx hy
    clear c s one ex
    induction l with
    | nil => cases hx
    | cons a r ih =>
      obtain ⟨h1, h2⟩ := List.pairwise_cons.mp both
      rcases List.mem_cons.mp hx with ex | hx'
      · rcases List.mem_cons.mp hy with ey | hy'
        · omega
        · rw [ex]; exact (h1 y hy').1
      · rcases List.mem_cons.mp hy with ey | hy'
        · have := (h1 x hx').2; omega
        · exact ih h2 hx' hy'
  -- below the free set
  have key : ∀ b ∈ bots L be, ∀ a ∈ A, a ∈ up ab L.length b → ∀ x ∈ up ab L.length b, x ≤ a → ∀ l ∈ L, lies x l = true → ∃ c ∈ bots L be, ∃ a' ∈ A, a' ∈ up ab L.length c ∧ l ∈ up ab L.length c ∧ l < a' := by
    intro b hb a ha hab x hx hxa l hlL hxl
    obtain ⟨c, hc, hlc⟩ := on_ladder P M _ l (Nat.le_refl _) hlL
    obtain ⟨a', ha', hac⟩ := ex c hc
    refine ⟨c, hc, a', ha', hac, hlc, ?_⟩
    refine Classical.byContradiction fun z => ?_
    have xL := up_in M _ b (mem_bots.mp hb).1 x hx
    have hxa' : lies x a' = true := by
      by_cases e : l = a'
      · rw [← e]; exact hxl
      · exact P.tr x l a' xL hlL (hL a' ha') hxl (cmp c hc a' hac l hlc (by omega))
    have haa' : lies a a' = true := by
      by_cases e : x = a
      · rw [← e]; exact hxa'
      · exact P.tr a x a' (hL a ha) xL (hL a' ha') (cmp b hb x hx a hab (by omega)) hxa'
    rw [hA a ha a' ha'] at haa'; cases haa'
  refine ⟨fun l => ∃ c ∈ bots L be, ∃ a' ∈ A, a' ∈ up ab L.length c ∧ l ∈ up ab L.length c ∧ l < a', fun h hh hn l hlL hy => ?_, fun l hR => ?_⟩
  · have hb : h ∈ bots L be := mem_bots.mpr ⟨hh, hn⟩
    obtain ⟨a, ha, hab⟩ := ex h hb
    refine key h hb a ha hab h (up_mem _ _) ?_ l hlL hy
    obtain ⟨t, et⟩ := up_head (ab := ab) L.length h
    have s := up_srt P M L.length (x := h) hh
    rw [et] at hab s
    rcases List.mem_cons.mp hab with rfl | q
    · exact Int.le_refl _
    · exact Int.le_of_lt ((List.pairwise_cons.mp s).1 a q)
  · obtain ⟨c, hc, a, ha, hac, hlc, hla⟩ := hR
    obtain ⟨u, e, hu, hua⟩ := up_step P M L.length c (mem_bots.mp hc).1 l hlc a hac hla
    exact ⟨u, e, fun l' hl' hy => key c hc a ha hac u hu hua l' hl' hy⟩
end
end FL

/-! Fewladders, the mathematics 3: joined, joined_all, reached, free; the hall's state, put, take, and what they keep. -/
namespace FL

def joinScan (lies : Int → Int → Bool) (L : List Int) : List Int → List (Int × Int) → List (Int × Int) → Row × List (Int × Int) × List (Int × Int)
  | [], ab, be => ([], ab, be)
  | high :: rest, ab, be =>
    if (aget be high).isSome = true then joinScan lies L rest ab be
    else
      let r := climb lies L (L.length + 1) high ⟨ab, be, []⟩
      if r.1 = [] then joinScan lies L rest r.2.ab r.2.be else (r.1, r.2.ab, r.2.be)
def joined (lies : Int → Int → Bool) (L : List Int) (ab be : List (Int × Int)) := joinScan lies L L ab be

theorem unseen_nil (L : List Int) : unseen L [] = L.length := by unfold unseen; simp
structure JoinEnd (lies : Int → Int → Bool) (L todo : List Int) (ab be : List (Int × Int)) (r : Row × List (Int × Int) × List (Int × Int)) : Prop where
  fail : r.1 = [] → r.2 = (ab, be) ∧ ∀ h ∈ todo, aget be h = none → ∃ S : List Int, (∀ l ∈ L, lies h l = true → l ∈ S) ∧ ∀ l ∈ S, ∃ up, aget ab l = some up ∧ ∀ l' ∈ L, lies up l' = true → l' ∈ S
  done : r.1 ≠ [] → ∃ high ∈ todo, aget be high = none ∧ Path lies L ab high r.1 ∧ r.2 = linkAll r.1 ab be ∧ (r.1.map (·.2)).Nodup
theorem joinScan_end (lies : Int → Int → Bool) (L : List Int) (ab be : List (Int × Int)) : ∀ todo : List Int, JoinEnd lies L todo ab be (joinScan lies L todo ab be) := by
  intro todo
  induction todo with
  | nil => exact ⟨fun _ => ⟨rfl, fun h hh => (nomatch hh)⟩, fun h => absurd rfl h⟩
  | cons high rest ih =>
    unfold joinScan
    by_cases hb : (aget be high).isSome = true
    · rw [if_pos hb]
      refine ⟨fun h => ⟨(ih.fail h).1, fun x hx hn => ?_⟩, fun h => ?_⟩
      · rcases List.mem_cons.mp hx with rfl | hx
        · rw [hn] at hb; cases hb
        · exact (ih.fail h).2 x hx hn
      · obtain ⟨x, hx, g⟩ := ih.done h
        exact ⟨x, List.mem_cons_of_mem _ hx, g⟩
    · rw [if_neg hb]
      have hbn : aget be high = none := by
        cases e : aget be high with
        | none => rfl
        | some _ => rw [e] at hb; exact absurd rfl hb
      have e := climb_end (lies := lies) (L := L) (L.length + 1) high ⟨ab, be, []⟩ (by rw [unseen_nil]; omega)
      simp only
      by_cases hr : (climb lies L (L.length + 1) high ⟨ab, be, []⟩).1 = []
      · rw [if_pos hr]
        obtain ⟨f1, f2, f3, f4⟩ := e.fail hr
        have f1 : (climb lies L (L.length + 1) high ⟨ab, be, []⟩).2.ab = ab := f1
        have f2 : (climb lies L (L.length + 1) high ⟨ab, be, []⟩).2.be = be := f2
        rw [f1, f2]
        refine ⟨fun h => ⟨(ih.fail h).1, fun x hx hn => ?_⟩, fun h => ?_⟩
        · rcases List.mem_cons.mp hx with rfl | hx
          · exact ⟨_, f3, fun l hl => f4 l hl (by simp)⟩
          · exact (ih.fail h).2 x hx hn
        · obtain ⟨x, hx, g⟩ := ih.done h
          exact ⟨x, List.mem_cons_of_mem _ hx, g⟩
      · rw [if_neg hr]
        obtain ⟨g1, g2, g3, g4⟩ := e.done hr
        exact ⟨fun h => absurd h hr, fun _ => ⟨high, List.mem_cons_self, hbn, g1, g2, g3⟩⟩
section
variable {lies : Int → Int → Bool} {L : List Int} {ab be : List (Int × Int)}
theorem joined_none (h : (joined lies L ab be).1 = []) : (joined lies L ab be).2 = (ab, be) ∧ NoAug lies L ab be := by
  have e := joinScan_end lies L ab be L
  obtain ⟨e1, e2⟩ := e.fail h
  refine ⟨e1, fun l => ∃ h ∈ L, aget be h = none ∧ ∃ S : List Int, (∀ l ∈ L, lies h l = true → l ∈ S) ∧ (∀ l ∈ S, ∃ up, aget ab l = some up ∧ ∀ l' ∈ L, lies up l' = true → l' ∈ S) ∧ l ∈ S, fun x hx hn l hl hy => ?_, fun l hR => ?_⟩
  · obtain ⟨S, s1, s2⟩ := e2 x hx hn
    exact ⟨x, hx, hn, S, s1, s2, s1 l hl hy⟩
  · obtain ⟨x, hx, hn, S, s1, s2, hl⟩ := hR
    obtain ⟨up, eu, hc⟩ := s2 l hl
    exact ⟨up, eu, fun l' hl' hy => ⟨x, hx, hn, S, s1, s2, hc l' hl' hy⟩⟩
theorem bots_row (P : Po lies L) {high : Int} {be' : List (Int × Int)} (hL : high ∈ L) (hn : aget be high = none) (h : ∀ x, aget be' x = none ↔ aget be x = none ∧ x ≠ high) :
    (bots L be').length + 1 = (bots L be).length := by
  have e : bots L be' = (bots L be).erase high := by
    rw [(bots_nd P).erase_eq_filter]
    unfold bots
    rw [List.filter_filter]
    refine List.filter_congr fun x _ => ?_
    have := h x
    cases e1 : aget be' x with
    | none =>
      obtain ⟨q1, q2⟩ := this.mp e1
      simp [q1, q2]
    | some y =>
      cases e2 : aget be x with
      | none =>
        by_cases q : x = high
        · simp [q]
        · have := this.mpr ⟨e2, q⟩
          rw [e1] at this; cases this
      | some z => simp
  rw [e, List.length_erase_of_mem (mem_bots.mpr ⟨hL, hn⟩)]
  have := List.length_pos_of_mem (mem_bots.mpr ⟨hL, hn⟩)
  omega
theorem joined_some (P : Po lies L) (M : Mt lies L ab be) (h : (joined lies L ab be).1 ≠ []) :
    Mt lies L (joined lies L ab be).2.1 (joined lies L ab be).2.2 ∧ (bots L (joined lies L ab be).2.2).length + 1 = (bots L be).length := by
  obtain ⟨high, hL, hn, p, e, n⟩ := (joinScan_end lies L ab be L).done h
  have p : Path lies L ab high (joined lies L ab be).1 := p
  have e : (joined lies L ab be).2 = linkAll (joined lies L ab be).1 ab be := e
  obtain ⟨m1, m2⟩ := M.row hL hn p n
  rw [e]
  exact ⟨m1, bots_row P hL hn m2⟩
theorem joined_mt (P : Po lies L) (M : Mt lies L ab be) : Mt lies L (joined lies L ab be).2.1 (joined lies L ab be).2.2 := by
  by_cases h : (joined lies L ab be).1 = []
  · rw [(joined_none h).1]; exact M
  · exact (joined_some P M h).1
end

/-- as few as can be -/
def joinAll (lies : Int → Int → Bool) (L : List Int) : Nat → List (Int × Int) → List (Int × Int) → List (Int × Int) × List (Int × Int)
  | 0, ab, be => (ab, be)
  | n + 1, ab, be => if (joined lies L ab be).1 = [] then (joined lies L ab be).2 else joinAll lies L n (joined lies L ab be).2.1 (joined lies L ab be).2.2
theorem joinAll_end {lies : Int → Int → Bool} {L : List Int} (P : Po lies L) : ∀ (n : Nat) (ab be : List (Int × Int)), Mt lies L ab be → (bots L be).length < n →
    Mt lies L (joinAll lies L n ab be).1 (joinAll lies L n ab be).2 ∧ NoAug lies L (joinAll lies L n ab be).1 (joinAll lies L n ab be).2
  | 0, _, _, _, h => absurd h (Nat.not_lt_zero _)
  | n + 1, ab, be, M, h => by
    unfold joinAll
    by_cases e : (joined lies L ab be).1 = []
    · rw [if_pos e]
      obtain ⟨e1, e2⟩ := joined_none e
      rw [e1]; exact ⟨M, e2⟩
    · rw [if_neg e]
      obtain ⟨m, hb⟩ := joined_some P M e
      exact joinAll_end P n _ _ m (by omega)

/-! ### reached, free -/
structure RS where
  hs : List Int
  ls : List Int
  wt : List Int
def reachIn (lies : Int → Int → Bool) (ab : List (Int × Int)) (high : Int) : List Int → RS → RS
  | [], s => s
  | low :: rest, s =>
    if low ∉ s.ls ∧ lies high low = true then
      let a := (aget ab low).getD 0
      if a ∉ s.hs then reachIn lies ab high rest ⟨s.hs ++ [a], s.ls ++ [low], s.wt ++ [a]⟩
      else reachIn lies ab high rest ⟨s.hs, s.ls ++ [low], s.wt⟩
    else reachIn lies ab high rest s
def reach (lies : Int → Int → Bool) (L : List Int) (ab : List (Int × Int)) : Nat → RS → RS
  | 0, s => s
  | n + 1, s => match s.wt.getLast? with
    | none => s
    | some high => reach lies L ab n (reachIn lies ab high L ⟨s.hs, s.ls, s.wt.dropLast⟩)
def reachAll (lies : Int → Int → Bool) (L : List Int) (ab be : List (Int × Int)) : RS := reach lies L ab (L.length + 1) ⟨bots L be, [], bots L be⟩
def free (lies : Int → Int → Bool) (L : List Int) (ab be : List (Int × Int)) : List Int :=
  L.filter fun x => decide (x ∈ (reachAll lies L ab be).hs ∧ ¬ x ∈ (reachAll lies L ab be).ls)

/-- what holds on the way: R the certificate -/
structure RInv (lies : Int → Int → Bool) (L : List Int) (ab be : List (Int × Int)) (R : Int → Prop) (s : RS) : Prop where
  bot : ∀ b ∈ bots L be, b ∈ s.hs
  hL : ∀ h ∈ s.hs, h ∈ L
  hn : s.hs.Nodup
  lL : ∀ l ∈ s.ls, l ∈ L
  ln : s.ls.Nodup
  wh : ∀ h ∈ s.wt, h ∈ s.hs
  low : ∀ l ∈ s.ls, R l ∧ ∃ u, aget ab l = some u ∧ u ∈ s.hs
  hi : ∀ h ∈ s.hs, ∀ l ∈ L, lies h l = true → R l
/-- all that lies beneath a reached thing, but one that waits (or is at work), is come to -/
def RDone (lies : Int → Int → Bool) (L : List Int) (s : RS) (ex : Int → Prop) : Prop := ∀ h ∈ s.hs, h ∉ s.wt → ¬ ex h → ∀ l ∈ L, lies h l = true → l ∈ s.ls

section
variable {lies : Int → Int → Bool} {L : List Int} {ab be : List (Int × Int)} {R : Int → Prop}
theorem reachIn_end (M : Mt lies L ab be) (r2 : ∀ l, R l → ∃ u, aget ab l = some u ∧ ∀ l' ∈ L, lies u l' = true → R l') (high : Int) :
    ∀ (todo : List Int), (∀ x ∈ todo, x ∈ L) → ∀ s, high ∈ s.hs → RInv lies L ab be R s → RDone lies L s (· = high) →
      RInv lies L ab be R (reachIn lies ab high todo s) ∧ RDone lies L (reachIn lies ab high todo s) (· = high) ∧ (∀ l ∈ s.ls, l ∈ (reachIn lies ab high todo s).ls) ∧ (∀ l ∈ todo, lies high l = true → l ∈ (reachIn lies ab high todo s).ls) ∧
      (reachIn lies ab high todo s).wt.length + s.hs.length = s.wt.length + (reachIn lies ab high todo s).hs.length ∧ high ∈ (reachIn lies ab high todo s).hs := by
  intro todo
  induction todo with
  | nil => intro _ s hh I D; exact ⟨I, D, fun _ h => h, fun _ h => (nomatch h), rfl, hh⟩
  | cons low rest ih =>
    intro hL s hh I D
    have hL' : ∀ x ∈ rest, x ∈ L := fun x hx => hL x (List.mem_cons_of_mem _ hx)
    have lowL : low ∈ L := hL low List.mem_cons_self
    unfold reachIn
    by_cases c : low ∉ s.ls ∧ lies high low = true
    · rw [if_pos c]
      have Rl : R low := I.hi high hh low lowL c.2
      obtain ⟨u, eu, hc⟩ := r2 low Rl
      have uL : u ∈ L := (M.inL _ _ eu).2.1
      simp only [eu, Option.getD_some]
      by_cases hu : u ∉ s.hs
      · rw [if_pos hu]
        have I' : RInv lies L ab be R ⟨s.hs ++ [u], s.ls ++ [low], s.wt ++ [u]⟩ := by
          refine ⟨fun b hb => List.mem_append_left _ (I.bot b hb), fun h hx => ?_, nodup_snoc I.hn hu, fun l hl => ?_, nodup_snoc I.ln c.1, fun h hx => ?_, fun l hl => ?_, fun h hx => ?_⟩
          · rcases List.mem_append.mp hx with hx | hx
            · exact I.hL h hx
            · rw [List.mem_singleton.mp hx]; exact uL
          · rcases List.mem_append.mp hl with hl | hl
            · exact I.lL l hl
            · rw [List.mem_singleton.mp hl]; exact lowL
          · rcases List.mem_append.mp hx with hx | hx
            · exact List.mem_append_left _ (I.wh h hx)
            · exact List.mem_append_right _ hx
          · rcases List.mem_append.mp hl with hl | hl
            · obtain ⟨a, v, b, d⟩ := I.low l hl
              exact ⟨a, v, b, List.mem_append_left _ d⟩
            · rw [List.mem_singleton.mp hl]; exact ⟨Rl, u, eu, List.mem_append_right _ List.mem_cons_self⟩
          · rcases List.mem_append.mp hx with hx | hx
            · exact I.hi h hx
            · rw [List.mem_singleton.mp hx]; exact hc
        have D' : RDone lies L ⟨s.hs ++ [u], s.ls ++ [low], s.wt ++ [u]⟩ (· = high) := fun h hx hw he l hl hy => by
          rcases List.mem_append.mp hx with hx | hx
          · exact List.mem_append_left _ (D h hx (fun z => hw (List.mem_append_left _ z)) he l hl hy)
          · exact absurd (List.mem_append_right _ hx) hw
        obtain ⟨a1, a2, a3, a4, a5, a6⟩ := ih hL' _ (List.mem_append_left _ hh) I' D'
        refine ⟨a1, a2, fun l hl => a3 l (List.mem_append_left _ hl), fun l hl hy => ?_, ?_, a6⟩
        · rcases List.mem_cons.mp hl with e | hl
          · exact a3 l (by rw [e]; exact List.mem_append_right _ List.mem_cons_self)
          · exact a4 l hl hy
        · simp only [List.length_append, List.length_singleton] at a5; omega
      · rw [if_neg hu]
        have hu : u ∈ s.hs := Classical.not_not.mp hu
        have I' : RInv lies L ab be R ⟨s.hs, s.ls ++ [low], s.wt⟩ := by
          refine ⟨I.bot, I.hL, I.hn, fun l hl => ?_, nodup_snoc I.ln c.1, I.wh, fun l hl => ?_, I.hi⟩
          · rcases List.mem_append.mp hl with hl | hl
            · exact I.lL l hl
            · rw [List.mem_singleton.mp hl]; exact lowL
          · rcases List.mem_append.mp hl with hl | hl
            · exact I.low l hl
            · rw [List.mem_singleton.mp hl]; exact ⟨Rl, u, eu, hu⟩
        have D' : RDone lies L ⟨s.hs, s.ls ++ [low], s.wt⟩ (· = high) := fun h hx hw he l hl hy => List.mem_append_left _ (D h hx hw he l hl hy)
        obtain ⟨a1, a2, a3, a4, a5, a6⟩ := ih hL' ⟨s.hs, s.ls ++ [low], s.wt⟩ hh I' D'
        refine ⟨a1, a2, fun l hl => a3 l (List.mem_append_left _ hl), fun l hl hy => ?_, a5, a6⟩
        rcases List.mem_cons.mp hl with e | hl
        · exact a3 l (by rw [e]; exact List.mem_append_right _ List.mem_cons_self)
        · exact a4 l hl hy
    · rw [if_neg c]
      obtain ⟨a1, a2, a3, a4, a5, a6⟩ := ih hL' s hh I D
      refine ⟨a1, a2, a3, fun l hl hy => ?_, a5, a6⟩
      rcases List.mem_cons.mp hl with e | hl
      · subst e
        refine a3 _ (Classical.byContradiction fun z => c ⟨z, hy⟩)
      · exact a4 l hl hy
theorem mem_dropLast_or {l : List Int} {x y : Int} (h : l.getLast? = some y) (hx : x ∈ l) : x ∈ l.dropLast ∨ x = y := by
  have e : l = l.dropLast ++ [y] := by
    have hne : l ≠ [] := fun z => by rw [z] at h; cases h
    rw [List.getLast?_eq_some_getLast hne] at h
    have := List.dropLast_concat_getLast hne
    rw [Option.some.inj h] at this
    exact this.symm
  rw [e] at hx
  rcases List.mem_append.mp hx with hx | hx
  · exact .inl hx
  · exact .inr (List.mem_singleton.mp hx)
theorem len_dropLast {l : List Int} {y : Int} (h : l.getLast? = some y) : l.dropLast.length + 1 = l.length := by
  have hne : l ≠ [] := fun z => by rw [z] at h; cases h
  have := List.length_pos_iff.mpr hne
  rw [List.length_dropLast]; omega
theorem reach_end (M : Mt lies L ab be) (r2 : ∀ l, R l → ∃ u, aget ab l = some u ∧ ∀ l' ∈ L, lies u l' = true → R l') :
    ∀ (n : Nat) (s : RS), RInv lies L ab be R s → RDone lies L s (fun _ => False) → s.wt.length + L.length < n + s.hs.length →
      RInv lies L ab be R (reach lies L ab n s) ∧ RDone lies L (reach lies L ab n s) (fun _ => False) ∧ (reach lies L ab n s).wt = []
  | 0, s, I, D, h => by
    have := nodup_len_le I.hn I.hL; omega
  | n + 1, s, I, D, h => by
    unfold reach
    cases e : s.wt.getLast? with
    | none => exact ⟨I, D, List.getLast?_eq_none_iff.mp e⟩
    | some high =>
      simp only
      have hw : high ∈ s.wt := List.mem_of_getLast? e
      have hh := I.wh high hw
      have sub : ∀ x ∈ s.wt.dropLast, x ∈ s.wt := fun x hx => List.dropLast_subset _ hx
      have I1 : RInv lies L ab be R ⟨s.hs, s.ls, s.wt.dropLast⟩ := ⟨I.bot, I.hL, I.hn, I.lL, I.ln, fun x hx => I.wh x (sub x hx), I.low, I.hi⟩
      have D1 : RDone lies L ⟨s.hs, s.ls, s.wt.dropLast⟩ (· = high) := fun x hx hwx he l hl hy => D x hx (fun z => (mem_dropLast_or e z).elim hwx he) (fun z => z) l hl hy
      obtain ⟨a1, a2, a3, a4, a5, a6⟩ := reachIn_end M r2 high L (fun _ h => h) ⟨s.hs, s.ls, s.wt.dropLast⟩ hh I1 D1
      have hl := len_dropLast e
      simp only at a5
      refine reach_end M r2 n _ a1 (fun x hx hwx _ l hl hy => ?_) (by omega)
      by_cases q : x = high
      · rw [q] at hy; exact a4 l hl hy
      · exact a2 x hx hwx q l hl hy
theorem reachAll_end (P : Po lies L) (M : Mt lies L ab be) (r1 : ∀ h ∈ L, aget be h = none → ∀ l ∈ L, lies h l = true → R l)
    (r2 : ∀ l, R l → ∃ u, aget ab l = some u ∧ ∀ l' ∈ L, lies u l' = true → R l') :
    RInv lies L ab be R (reachAll lies L ab be) ∧ RDone lies L (reachAll lies L ab be) (fun _ => False) ∧ (reachAll lies L ab be).wt = [] := by
  unfold reachAll
  refine reach_end M r2 _ _ ⟨fun b hb => hb, fun h hh => (mem_bots.mp hh).1, bots_nd P, fun l hl => (nomatch hl), List.nodup_nil, fun h hh => hh, fun l hl => (nomatch hl), fun h hh => r1 h (mem_bots.mp hh).1 (mem_bots.mp hh).2⟩ (fun h hh hw => absurd hh hw) ?_
  simp only; omega
theorem free_end (P : Po lies L) (M : Mt lies L ab be) (N : NoAug lies L ab be) : Anti lies (free lies L ab be) ∧ (free lies L ab be).length = (bots L be).length := by
  obtain ⟨R, r1, r2⟩ := N
  obtain ⟨I, D, e⟩ := reachAll_end P M r1 r2
  exact closed_free (R := fun x => x ∈ (reachAll lies L ab be).ls) (T := fun x => x ∈ (reachAll lies L ab be).hs) P M (fun b hb hn => I.bot b (mem_bots.mpr ⟨hb, hn⟩)) (fun l hl => (I.low l hl).2)
    fun x _ hx l hl hy => D x hx (by rw [e]; simp) (fun z => z) l hl hy
theorem free_sub : List.Sublist (free lies L ab be) L := List.filter_sublist
end
end FL

/-! Fewladders, the mathematics 4: the hall's state; put and take keep it good; what the law keeps beside it. -/
namespace FL

structure HS where
  below : List (Int × Nat)
  told : Nat
  linked : List Int
  ab : List (Int × Int)
  be : List (Int × Int)

def liesB (B : List (Int × Nat)) (a b : Int) : Bool := ((aget B a).getD 0).testBit b.toNat
abbrev HS.lies (s : HS) : Int → Int → Bool := liesB s.below
def HS.empty : HS := ⟨[], 0, [], [], []⟩
def marksOf (B : List (Int × Nat)) (some : List Int) : Nat := some.foldl (fun m o => m ||| 2 ^ o.toNat ||| (aget B o).getD 0) 0
def clearBit (m : Nat) (t : Int) : Nat := if m.testBit t.toNat = true then m ^^^ 2 ^ t.toNat else m
def HS.put (s : HS) (some : List Int) : Row × HS :=
  let B := aput s.below s.told (marksOf s.below some)
  let L := s.linked ++ [(s.told : Int)]
  let r := joined (liesB B) L s.ab s.be
  (r.1, ⟨B, s.told + 1, L, r.2.1, r.2.2⟩)
def dropA (ab be : List (Int × Int)) (one : Int) : List (Int × Int) × List (Int × Int) :=
  let be1 := adel be one
  let ab1 := adel ab one
  let ab2 := match aget be one with
    | some l => adel ab1 l
    | none => ab1
  let be2 := match aget ab one with
    | some h => adel be1 h
    | none => be1
  match aget be one, aget ab one with
  | some l, some h => (aput ab2 l h, aput be2 h l)
  | _, _ => (ab2, be2)
def takeB (B : List (Int × Nat)) (one : Int) : List (Int × Nat) := (adel B one).map fun p => (p.1, clearBit p.2 one)
def HS.take (s : HS) (one : Int) : Row × HS :=
  let B := takeB s.below one
  let L := s.linked.filter fun x => decide (x ≠ one)
  let d := dropA s.ab s.be one
  let r := joined (liesB B) L d.1 d.2
  (r.1, ⟨B, s.told, L, r.2.1, r.2.2⟩)

/-! ### marks -/
theorem marksFold (B : List (Int × Nat)) (n : Nat) : ∀ (some : List Int) (m : Nat), (some.foldl (fun m o => m ||| 2 ^ o.toNat ||| (aget B o).getD 0) m).testBit n = (m.testBit n || some.any fun o => decide (o.toNat = n) || ((aget B o).getD 0).testBit n)
  | [], m => by simp
  | o :: r, m => by
    rw [List.foldl_cons, marksFold B n r, List.any_cons, Nat.testBit_or, Nat.testBit_or, Nat.testBit_two_pow]
    simp only [Bool.or_assoc]
theorem marks_bit (B : List (Int × Nat)) (some : List Int) (n : Nat) : (marksOf B some).testBit n = some.any fun o => decide (o.toNat = n) || ((aget B o).getD 0).testBit n := by
  unfold marksOf
  rw [marksFold, Nat.zero_testBit, Bool.false_or]
theorem clear_bit (m : Nat) (t : Int) (n : Nat) : (clearBit m t).testBit n = (m.testBit n && decide (n ≠ t.toNat)) := by
  unfold clearBit
  by_cases e : n = t.toNat
  · subst e
    split
    · rename_i h
      rw [Nat.testBit_xor, Nat.testBit_two_pow, h]; simp
    · rename_i h
      simp at h; simp [h]
  · split
    · rw [Nat.testBit_xor, Nat.testBit_two_pow, decide_eq_false (fun z => e z.symm)]; simp [e]
    · simp [e]
theorem aget_map (B : List (Int × Nat)) (f : Nat → Nat) (k : Int) : aget (B.map fun p => (p.1, f p.2)) k = (aget B k).map f := by
  induction B with
  | nil => rfl
  | cons p r ih =>
    rw [List.map_cons, aget_cons, aget_cons, ih]
    by_cases e : p.1 = k <;> simp [e]

/-! ### what holds between two deeds -/
structure Good (s : HS) : Prop where
  keys : s.below.map (·.1) = s.linked
  po : Po s.lies s.linked
  rng : ∀ x ∈ s.linked, 0 ≤ x ∧ x < s.told
  mlt : ∀ a m, aget s.below a = some m → ∀ n, m.testBit n = true → (n : Int) < a
  mt : Mt s.lies s.linked s.ab s.be
  na : NoAug s.lies s.linked s.ab s.be
theorem Good.empty : Good HS.empty where
  keys := rfl
  po := ⟨List.Pairwise.nil, fun a h => (nomatch h), fun a b c h => (nomatch h)⟩
  rng := fun x h => (nomatch h)
  mlt := fun a m h => by simp [HS.empty, aget_nil] at h
  mt := Mt.empty _ _
  na := ⟨fun _ => False, fun h hh => (nomatch hh), fun l hl => hl.elim⟩
theorem Good.mem (G : Good s) {x : Int} (h : x ∈ s.linked) : ∃ m, aget s.below x = some m := by
  rw [← G.keys, ← aget_isSome_iff] at h
  exact Option.isSome_iff_exists.mp h

theorem lies_lt {B : List (Int × Nat)} (mlt : ∀ a m, aget B a = some m → ∀ n, m.testBit n = true → (n : Int) < a) {a b : Int} (h : liesB B a b = true) : b < a := by
  unfold liesB at h
  cases e : aget B a with
  | none => rw [e] at h; simp at h
  | some m =>
    rw [e] at h
    have := mlt a m e b.toNat h
    omega

/-! ### put -/
section
variable {s : HS} {some : List Int}
theorem put_lies_old (G : Good s) (hs : ∀ o ∈ some, o ∈ s.linked) {a : Int} (ha : a ≠ (s.told : Int)) (b : Int) : (s.put some).2.lies a b = s.lies a b := by
  show liesB (aput s.below s.told (marksOf s.below some)) a b = liesB s.below a b
  unfold liesB
  rw [aget_aput, if_neg ha]
theorem put_lies_new (G : Good s) (hs : ∀ o ∈ some, o ∈ s.linked) {b : Int} (hb : 0 ≤ b) : (s.put some).2.lies s.told b = true ↔ b ∈ some ∨ ∃ o ∈ some, s.lies o b = true := by
  show liesB (aput s.below s.told (marksOf s.below some)) s.told b = true ↔ _
  unfold liesB
  rw [aget_aput, if_pos rfl, Option.getD_some, marks_bit, List.any_eq_true]
  constructor
  · rintro ⟨o, ho, h⟩
    rw [Bool.or_eq_true] at h
    rcases h with h | h
    · have h := of_decide_eq_true h
      have := (G.rng o (hs o ho)).1
      left
      have : o = b := by omega
      rw [← this]; exact ho
    · exact .inr ⟨o, ho, h⟩
  · rintro (h | ⟨o, ho, h⟩)
    · exact ⟨b, h, by simp⟩
    · exact ⟨o, ho, by rw [Bool.or_eq_true]; exact .inr h⟩
theorem told_new (G : Good s) : (s.told : Int) ∉ s.linked := fun h => by have := (G.rng _ h).2; omega
theorem put_keys (G : Good s) : (s.put some).2.below.map (·.1) = s.linked ++ [(s.told : Int)] := by
  show (aput s.below s.told (marksOf s.below some)).map (·.1) = _
  rw [aput_new _ (aget_none_iff.mpr (by rw [G.keys]; exact told_new G)), List.map_append, G.keys]
  rfl
theorem put_mlt (G : Good s) (hs : ∀ o ∈ some, o ∈ s.linked) : ∀ a m, aget (s.put some).2.below a = .some m → ∀ n, m.testBit n = true → (n : Int) < a := by
  intro a m h n hn
  have h : aget (aput s.below s.told (marksOf s.below some)) a = .some m := h
  rw [aget_aput] at h
  by_cases e : a = (s.told : Int)
  · rw [if_pos e] at h
    cases h
    rw [marks_bit, List.any_eq_true] at hn
    obtain ⟨o, ho, h⟩ := hn
    have ho2 := G.rng o (hs o ho)
    rw [Bool.or_eq_true] at h
    rcases h with h | h
    · have h := of_decide_eq_true h
      omega
    · obtain ⟨m', hm⟩ := G.mem (hs o ho)
      rw [hm] at h
      have := G.mlt o m' hm n h
      omega
  · rw [if_neg e] at h
    exact G.mlt a m h n hn
theorem put_po (G : Good s) (hs : ∀ o ∈ some, o ∈ s.linked) : Po (s.put some).2.lies (s.linked ++ [(s.told : Int)]) := by
  refine ⟨?_, fun a ha b h => lies_lt (put_mlt G hs) h, fun a b c ha hb hc h1 h2 => ?_⟩
  · rw [List.pairwise_append]
    refine ⟨G.po.srt, List.pairwise_singleton _ _, fun a ha b hb => ?_⟩
    rw [List.mem_singleton.mp hb]
    exact (G.rng a ha).2
  · have hba := lies_lt (put_mlt G hs) h1
    have hcb := lies_lt (put_mlt G hs) h2
    have up : ∀ x ∈ s.linked ++ [(s.told : Int)], x ≤ s.told := fun x hx => by
      rcases List.mem_append.mp hx with hx | hx
      · exact Int.le_of_lt (G.rng x hx).2
      · rw [List.mem_singleton.mp hx]; exact Int.le_refl _
    have old : ∀ x ∈ s.linked ++ [(s.told : Int)], x ≠ s.told → x ∈ s.linked := fun x hx hne => (List.mem_append.mp hx).resolve_right fun z => hne (List.mem_singleton.mp z)
    have hbL : b ∈ s.linked := old b hb (by have := up a ha; omega)
    have hcL : c ∈ s.linked := old c hc (by have := up a ha; omega)
    rw [put_lies_old G hs (by have := (G.rng b hbL).2; omega)] at h2
    by_cases e : a = (s.told : Int)
    · rw [e] at h1 ⊢
      rw [put_lies_new G hs (G.rng b hbL).1] at h1
      rw [put_lies_new G hs (G.rng c hcL).1]
      rcases h1 with h1 | ⟨o, ho, h1⟩
      · exact .inr ⟨b, h1, h2⟩
      · exact .inr ⟨o, ho, G.po.tr o b c (hs o ho) hbL hcL h1 h2⟩
    · rw [put_lies_old G hs e] at h1 ⊢
      exact G.po.tr a b c (old a ha e) hbL hcL h1 h2
theorem put_mt0 (G : Good s) (hs : ∀ o ∈ some, o ∈ s.linked) : Mt (s.put some).2.lies (s.linked ++ [(s.told : Int)]) s.ab s.be := by
  refine ⟨G.mt.nda, G.mt.ndb, G.mt.inv, fun l h e => ?_⟩
  obtain ⟨a, b, c⟩ := G.mt.inL l h e
  refine ⟨List.mem_append_left _ a, List.mem_append_left _ b, ?_⟩
  rw [put_lies_old G hs fun z => told_new G (z ▸ b)]
  exact c
theorem put_bots (G : Good s) : bots (s.linked ++ [(s.told : Int)]) s.be = bots s.linked s.be ++ [(s.told : Int)] := by
  unfold bots
  rw [List.filter_append]
  congr 1
  rw [List.filter_cons, if_pos]
  · rfl
  · cases e : aget s.be s.told with
    | none => rfl
    | some l => exact absurd (G.mt.inL _ _ ((G.mt.inv _ _).mpr e)).2.1 (told_new G)
theorem put_good (G : Good s) (hs : ∀ o ∈ some, o ∈ s.linked) : Good (s.put some).2 := by
  have P := put_po G hs
  have M0 := put_mt0 G hs
  have M := joined_mt P M0
  refine ⟨put_keys G, P, fun x hx => ?_, put_mlt G hs, M, ?_⟩
  · have hx : x ∈ s.linked ++ [(s.told : Int)] := hx
    show 0 ≤ x ∧ x < ((s.told + 1 : Nat) : Int)
    rcases List.mem_append.mp hx with hx | hx
    · have := G.rng x hx; omega
    · rw [List.mem_singleton.mp hx]; omega
  · show NoAug (s.put some).2.lies (s.linked ++ [(s.told : Int)]) (joined (s.put some).2.lies (s.linked ++ [(s.told : Int)]) s.ab s.be).2.1 (joined (s.put some).2.lies (s.linked ++ [(s.told : Int)]) s.ab s.be).2.2
    by_cases h : (joined (s.put some).2.lies (s.linked ++ [(s.told : Int)]) s.ab s.be).1 = []
    · obtain ⟨e, N⟩ := joined_none h
      rw [e]; exact N
    · obtain ⟨_, hb⟩ := joined_some P M0 h
      obtain ⟨A, a1, a2, a3, a4⟩ := G.na.cert G.po G.mt
      refine NoAug.of_cert P M a1 (fun x hx => List.mem_append_left _ (a2 x hx)) (fun x hx y hy => ?_) ?_
      · rw [put_lies_old G hs fun z => told_new G (z ▸ a2 x hx)]
        exact a3 x hx y hy
      · rw [put_bots G, List.length_append, List.length_singleton] at hb
        omega
end

/-! ### take -/
section
variable {s : HS} {one : Int}
theorem dropA_ab {ab be : List (Int × Int)} (h1 : ∀ l h, aget ab l = some h ↔ aget be h = some l) (h2 : ∀ l, aget ab l ≠ some l) (l : Int) :
    aget (dropA ab be one).1 l = if l = one then none else if aget ab l = some one then aget ab one else aget ab l := by
  unfold dropA
  cases eb : aget be one with
  | none =>
    have no : aget ab l ≠ some one := fun z => by rw [h1, eb] at z; cases z
    simp only
    rw [aget_adel, if_neg no]
  | some l0 =>
    have e0 := (h1 l0 one).mpr eb
    have ne : l0 ≠ one := fun z => h2 one (by rw [z] at e0; exact e0)
    cases ea : aget ab one with
    | none =>
      simp only
      rw [aget_adel, aget_adel]
      by_cases q : l = one
      · subst q; simp
      · rw [if_neg q, if_neg q]
        by_cases q2 : l = l0
        · subst q2; simp [e0]
        · rw [if_neg q2, if_neg]
          intro z
          rw [h1, eb] at z
          exact q2 (Option.some.inj z).symm
    | some h =>
      simp only
      rw [aget_aput, aget_adel, aget_adel]
      by_cases q2 : l = l0
      · subst q2
        rw [if_pos rfl, if_neg ne, if_pos e0]
      · rw [if_neg q2, if_neg q2]
        by_cases q : l = one
        · simp [q]
        · rw [if_neg q, if_neg q, if_neg]
          intro z
          rw [h1, eb] at z
          exact q2 (Option.some.inj z).symm
theorem dropA_swap (ab be : List (Int × Int)) (one : Int) : dropA be ab one = ((dropA ab be one).2, (dropA ab be one).1) := by
  unfold dropA
  cases aget be one <;> cases aget ab one <;> rfl
theorem dropA_be {ab be : List (Int × Int)} (h1 : ∀ l h, aget ab l = some h ↔ aget be h = some l) (h2 : ∀ l, aget ab l ≠ some l) (h : Int) :
    aget (dropA ab be one).2 h = if h = one then none else if aget be h = some one then aget be one else aget be h := by
  have := dropA_ab (ab := be) (be := ab) (one := one) (fun l h => (h1 h l).symm) (fun l z => h2 l ((h1 l l).mpr z)) h
  rw [dropA_swap] at this
  exact this
theorem dropA_nd {ab be : List (Int × Int)} (h1 : (ab.map (·.1)).Nodup) (h2 : (be.map (·.1)).Nodup) : ((dropA ab be one).1.map (·.1)).Nodup ∧ ((dropA ab be one).2.map (·.1)).Nodup := by
  unfold dropA
  cases aget be one <;> cases aget ab one <;> simp only
  · exact ⟨adel_nodup h1, adel_nodup h2⟩
  · exact ⟨adel_nodup h1, adel_nodup (adel_nodup h2)⟩
  · exact ⟨adel_nodup (adel_nodup h1), adel_nodup h2⟩
  · exact ⟨aput_nodup (adel_nodup (adel_nodup h1)), aput_nodup (adel_nodup (adel_nodup h2))⟩

theorem Good.irr (G : Good s) (l : Int) : aget s.ab l ≠ some l := fun z => by
  obtain ⟨a, b, c⟩ := G.mt.inL _ _ z
  have := G.po.lt l b l c
  omega
theorem takeB_get {B : List (Int × Nat)} (k : Int) : aget (takeB B one) k = if k = one then none else (aget B k).map fun m => clearBit m one := by
  unfold takeB
  rw [aget_map (adel B one) (fun m => clearBit m one), aget_adel]
  by_cases e : k = one <;> simp [e]
theorem take_lies (G : Good s) {a b : Int} (ha : a ∈ s.linked) (ha1 : a ≠ one) (hb : b ∈ s.linked) (hb1 : b ≠ one) (h1 : 0 ≤ one) : (s.take one).2.lies a b = s.lies a b := by
  show liesB (takeB s.below one) a b = liesB s.below a b
  unfold liesB
  rw [takeB_get, if_neg ha1]
  obtain ⟨m, hm⟩ := G.mem ha
  rw [hm, Option.map_some, Option.getD_some, Option.getD_some, clear_bit]
  have := (G.rng b hb).1
  have : b.toNat ≠ one.toNat := by omega
  simp [this]
theorem mem_take {x : Int} : x ∈ (s.take one).2.linked ↔ x ∈ s.linked ∧ x ≠ one := by
  show x ∈ s.linked.filter (fun x => decide (x ≠ one)) ↔ _
  rw [List.mem_filter, decide_eq_true_iff]
theorem take_keys (G : Good s) : (s.take one).2.below.map (·.1) = (s.take one).2.linked := by
  show (takeB s.below one).map (·.1) = s.linked.filter fun x => decide (x ≠ one)
  unfold takeB
  rw [List.map_map, ← G.keys, ← adel_keys]
  rfl
theorem take_mlt (G : Good s) : ∀ a m, aget (s.take one).2.below a = some m → ∀ n, m.testBit n = true → (n : Int) < a := by
  intro a m h n hn
  have h : aget (takeB s.below one) a = some m := h
  rw [takeB_get] at h
  by_cases e : a = one
  · rw [if_pos e] at h; cases h
  · rw [if_neg e] at h
    obtain ⟨m', hm, rfl⟩ := Option.map_eq_some_iff.mp h
    rw [clear_bit, Bool.and_eq_true] at hn
    exact G.mlt a m' hm n hn.1
theorem take_po (G : Good s) (h1 : 0 ≤ one) : Po (s.take one).2.lies (s.take one).2.linked := by
  refine ⟨G.po.srt.sublist List.filter_sublist, fun a _ b h => lies_lt (take_mlt G) h, fun a b c ha hb hc g1 g2 => ?_⟩
  obtain ⟨a1, a2⟩ := mem_take.mp ha
  obtain ⟨b1, b2⟩ := mem_take.mp hb
  obtain ⟨c1, c2⟩ := mem_take.mp hc
  rw [take_lies G a1 a2 b1 b2 h1] at g1
  rw [take_lies G b1 b2 c1 c2 h1] at g2
  rw [take_lies G a1 a2 c1 c2 h1]
  exact G.po.tr a b c a1 b1 c1 g1 g2
theorem drop_fwd {f g : Int → Option Int} (inv : ∀ l h, f l = some h ↔ g h = some l) (irr : ∀ l, f l ≠ some l) {l h : Int}
    (e : (if l = one then none else if f l = some one then f one else f l) = some h) : (if h = one then none else if g h = some one then g one else g h) = some l := by
  by_cases q : l = one
  · rw [if_pos q] at e; cases e
  · rw [if_neg q] at e
    by_cases q2 : f l = some one
    · rw [if_pos q2] at e
      have hne : h ≠ one := fun z => irr one (z ▸ e)
      rw [if_neg hne, if_pos ((inv one h).mp e)]
      exact (inv l one).mp q2
    · rw [if_neg q2] at e
      have hne : h ≠ one := fun z => q2 (z ▸ e)
      have ge := (inv l h).mp e
      rw [if_neg hne, if_neg, ge]
      rw [ge]
      exact fun z => q (Option.some.inj z)
theorem take_mt0 (G : Good s) (h1 : 0 ≤ one) : Mt (s.take one).2.lies (s.take one).2.linked (dropA s.ab s.be one).1 (dropA s.ab s.be one).2 := by
  have ea := dropA_ab (one := one) G.mt.inv G.irr
  have eb := dropA_be (one := one) G.mt.inv G.irr
  refine ⟨(dropA_nd G.mt.nda G.mt.ndb).1, (dropA_nd G.mt.nda G.mt.ndb).2, fun l h => ?_, fun l h e => ?_⟩
  · rw [ea, eb]
    exact ⟨drop_fwd G.mt.inv G.irr, drop_fwd (fun l h => (G.mt.inv h l).symm) (fun l z => G.irr l ((G.mt.inv l l).mpr z))⟩
  · rw [ea] at e
    by_cases q : l = one
    · rw [if_pos q] at e; cases e
    · rw [if_neg q] at e
      by_cases q2 : aget s.ab l = some one
      · rw [if_pos q2] at e
        obtain ⟨l1, o1, c1⟩ := G.mt.inL _ _ q2
        obtain ⟨_, h3, c2⟩ := G.mt.inL _ _ e
        have hne : h ≠ one := fun z => G.irr one (z ▸ e)
        refine ⟨mem_take.mpr ⟨l1, q⟩, mem_take.mpr ⟨h3, hne⟩, ?_⟩
        rw [take_lies G h3 hne l1 q h1]
        exact G.po.tr h one l h3 o1 l1 c2 c1
      · rw [if_neg q2] at e
        obtain ⟨l1, h3, c1⟩ := G.mt.inL _ _ e
        have hne : h ≠ one := fun z => q2 (z ▸ e)
        refine ⟨mem_take.mpr ⟨l1, q⟩, mem_take.mpr ⟨h3, hne⟩, ?_⟩
        rw [take_lies G h3 hne l1 q h1]
        exact c1
theorem take_bots (G : Good s) : (bots (s.take one).2.linked (dropA s.ab s.be one).2).length ≤ (bots s.linked s.be).length := by
  have eb := dropA_be (one := one) G.mt.inv G.irr
  have key : ((bots (s.take one).2.linked (dropA s.ab s.be one).2).map fun x => if aget s.be x = some one then one else x).length ≤ (bots s.linked s.be).length := by
    refine nodup_len_le ?_ fun y hy => ?_
    · have P0 : (bots (s.take one).2.linked (dropA s.ab s.be one).2).Nodup := (G.po.nd.sublist List.filter_sublist).sublist List.filter_sublist
      refine List.pairwise_map.mpr (P0.imp_of_mem fun {x y} hx hy ne e => ?_)
      have hx1 := (mem_take.mp (mem_bots.mp hx).1).2
      have hy1 := (mem_take.mp (mem_bots.mp hy).1).2
      by_cases qx : aget s.be x = some one
      · rw [if_pos qx] at e
        by_cases qy : aget s.be y = some one
        · have a := (G.mt.inv one x).mpr qx
          have b := (G.mt.inv one y).mpr qy
          rw [a] at b; exact ne (Option.some.inj b)
        · rw [if_neg qy] at e; exact hy1 e.symm
      · rw [if_neg qx] at e
        by_cases qy : aget s.be y = some one
        · rw [if_pos qy] at e; exact hx1 e
        · rw [if_neg qy] at e; exact ne e
    · obtain ⟨x, hx, rfl⟩ := List.mem_map.mp hy
      obtain ⟨h1, h2⟩ := mem_bots.mp hx
      obtain ⟨h3, h4⟩ := mem_take.mp h1
      rw [eb, if_neg h4] at h2
      by_cases q : aget s.be x = some one
      · rw [if_pos q] at h2 ⊢
        exact mem_bots.mpr ⟨(G.mt.inL _ _ ((G.mt.inv one x).mpr q)).1, h2⟩
      · rw [if_neg q] at h2 ⊢
        exact mem_bots.mpr ⟨h3, h2⟩
  rwa [List.length_map] at key
theorem take_good (G : Good s) (h1 : 0 ≤ one) : Good (s.take one).2 := by
  have P := take_po G h1
  have M0 := take_mt0 G h1
  have M := joined_mt P M0
  refine ⟨take_keys G, P, fun x hx => G.rng x (mem_take.mp hx).1, take_mlt G, M, ?_⟩
  show NoAug (s.take one).2.lies (s.take one).2.linked (joined (s.take one).2.lies (s.take one).2.linked (dropA s.ab s.be one).1 (dropA s.ab s.be one).2).2.1 (joined (s.take one).2.lies (s.take one).2.linked (dropA s.ab s.be one).1 (dropA s.ab s.be one).2).2.2
  by_cases h : (joined (s.take one).2.lies (s.take one).2.linked (dropA s.ab s.be one).1 (dropA s.ab s.be one).2).1 = []
  · obtain ⟨e, N⟩ := joined_none h
    rw [e]; exact N
  · obtain ⟨_, hb⟩ := joined_some P M0 h
    obtain ⟨A, a1, a2, a3, a4⟩ := G.na.cert G.po G.mt
    have hbt := take_bots (one := one) G
    refine NoAug.of_cert (A := A.erase one) P M (a1.erase one) (fun x hx => ?_) (fun x hx y hy => ?_) ?_
    · obtain ⟨q1, q2⟩ := (List.Nodup.mem_erase_iff a1).mp hx
      exact mem_take.mpr ⟨a2 x q2, q1⟩
    · obtain ⟨x1, x2⟩ := (List.Nodup.mem_erase_iff a1).mp hx
      obtain ⟨y1, y2⟩ := (List.Nodup.mem_erase_iff a1).mp hy
      rw [take_lies G (a2 x x2) x1 (a2 y y2) y1 h1]
      exact a3 x x2 y y2
    · have : A.length ≤ (A.erase one).length + 1 := by
        rw [List.length_erase]; split <;> omega
      omega
end

/-! ### what the law keeps beside it: for each thing all that it lies above -/
def HS.law (s : HS) : List (Int × List Int) := s.linked.map fun a => (a, s.linked.filter fun b => s.lies a b)
theorem law_get {s : HS} (G : Good s) {a : Int} (ha : a ∈ s.linked) : aget s.law a = some (s.linked.filter fun b => s.lies a b) := by
  unfold HS.law
  have : ∀ l : List Int, a ∈ l → aget (l.map fun a => (a, s.linked.filter fun b => s.lies a b)) a = some (s.linked.filter fun b => s.lies a b) := by
    intro l
    induction l with
    | nil => intro h; cases h
    | cons x r ih =>
      intro h
      rw [List.map_cons, aget_cons]
      by_cases e : x = a
      · rw [if_pos e, e]
      · rw [if_neg e]; exact ih ((List.mem_cons.mp h).resolve_left fun z => e z.symm)
  exact this _ ha
theorem law_keys (s : HS) : s.law.map (·.1) = s.linked := by
  unfold HS.law
  rw [List.map_map]
  exact List.map_id _
/-- two rising lists of the same things are one -/
theorem srt_ext : ∀ {l m : List Int}, l.Pairwise (· < ·) → m.Pairwise (· < ·) → (∀ x, x ∈ l ↔ x ∈ m) → l = m
  | [], [], _, _, _ => rfl
  | [], b :: m, _, _, h => by have := (h b).mpr List.mem_cons_self; cases this
  | a :: l, [], _, _, h => by have := (h a).mp List.mem_cons_self; cases this
  | a :: l, b :: m, h1, h2, h => by
    obtain ⟨a1, a2⟩ := List.pairwise_cons.mp h1
    obtain ⟨b1, b2⟩ := List.pairwise_cons.mp h2
    have e : a = b := by
      rcases List.mem_cons.mp ((h a).mp List.mem_cons_self) with e | e
      · exact e
      · rcases List.mem_cons.mp ((h b).mpr List.mem_cons_self) with e' | e'
        · exact e'.symm
        · have := a1 b e'; have := b1 a e; omega
    subst e
    rw [srt_ext a2 b2 fun x => ⟨fun hx => ?_, fun hx => ?_⟩]
    · rcases List.mem_cons.mp ((h x).mp (List.mem_cons_of_mem _ hx)) with e | e
      · have := a1 x hx; omega
      · exact e
    · rcases List.mem_cons.mp ((h x).mpr (List.mem_cons_of_mem _ hx)) with e | e
      · have := b1 x hx; omega
      · exact e
theorem law_put {s : HS} {some : List Int} (G : Good s) (hs : ∀ o ∈ some, o ∈ s.linked) {m : List Int} (hm : m.Pairwise (· < ·))
    (he : ∀ x, x ∈ m ↔ x ∈ some ∨ ∃ o ∈ some, x ∈ s.linked ∧ s.lies o x = true) : s.law ++ [((s.told : Int), m)] = (s.put some).2.law := by
  show _ = (s.linked ++ [(s.told : Int)]).map _
  rw [List.map_append]
  have low : ∀ a ∈ s.linked ++ [(s.told : Int)], (s.put some).2.lies a s.told = false := fun a ha => by
    cases e : (s.put some).2.lies a s.told with
    | false => rfl
    | true =>
      have := lies_lt (put_mlt G hs) e
      rcases List.mem_append.mp ha with h | h
      · have := (G.rng a h).2; omega
      · have := List.mem_singleton.mp h; omega
  congr 1
  · unfold HS.law
    refine List.map_congr_left fun a ha => ?_
    have hne : a ≠ (s.told : Int) := fun z => told_new G (z ▸ ha)
    show _ = (a, (s.linked ++ [(s.told : Int)]).filter fun b => (s.put some).2.lies a b)
    rw [List.filter_append, List.filter_cons, if_neg (by rw [low a (List.mem_append_left _ ha)]; exact Bool.false_ne_true), List.filter_nil, List.append_nil]
    congr 1
    exact List.filter_congr fun b _ => (put_lies_old G hs hne b).symm
  · show [((s.told : Int), m)] = [((s.told : Int), (s.linked ++ [(s.told : Int)]).filter fun b => (s.put some).2.lies s.told b)]
    congr 2
    refine srt_ext hm ((put_po G hs).srt.sublist List.filter_sublist) fun x => ?_
    rw [he, List.mem_filter]
    constructor
    · intro h
      have hx : x ∈ s.linked := by
        rcases h with h | ⟨o, _, h, _⟩
        · exact hs x h
        · exact h
      refine ⟨List.mem_append_left _ hx, (put_lies_new G hs (G.rng x hx).1).mpr ?_⟩
      rcases h with h | ⟨o, ho, _, h⟩
      · exact .inl h
      · exact .inr ⟨o, ho, h⟩
    · rintro ⟨h1, h2⟩
      have hx : x ∈ s.linked := (List.mem_append.mp h1).resolve_right fun z => by
        rw [List.mem_singleton.mp z, low _ (List.mem_append_right _ List.mem_cons_self)] at h2; cases h2
      rcases (put_lies_new G hs (G.rng x hx).1).mp h2 with h | ⟨o, ho, h⟩
      · exact .inl h
      · exact .inr ⟨o, ho, hx, h⟩
theorem law_take {s : HS} {one : Int} (G : Good s) (h1 : 0 ≤ one) : (adel s.law one).map (fun p => (p.1, p.2.filter fun b => decide (b ≠ one))) = (s.take one).2.law := by
  unfold HS.law adel
  rw [List.filter_map, List.map_map]
  show _ = (s.linked.filter fun x => decide (x ≠ one)).map _
  refine List.map_congr_left fun a ha => ?_
  obtain ⟨a1, a2⟩ := List.mem_filter.mp ha
  have a2 : a ≠ one := by simpa using a2
  show (a, (s.linked.filter fun b => s.lies a b).filter fun b => decide (b ≠ one)) = (a, (s.linked.filter fun x => decide (x ≠ one)).filter fun b => (s.take one).2.lies a b)
  rw [List.filter_filter, List.filter_filter]
  congr 1
  refine List.filter_congr fun b hb => ?_
  by_cases e : b = one
  · simp [e]
  · rw [take_lies G a1 a2 hb e h1]
    simp [e]
end FL

set_option maxHeartbeats 1000000
/-! Floors: how high a thing stands. -/
namespace FL
section
variable {lies : Int → Int → Bool} {L : List Int}
def maxi : List Nat → Nat
  | [] => 0
  | a :: l => max a (maxi l)
theorem maxi_le {l : List Nat} {y : Nat} (h : y ∈ l) : y ≤ maxi l := by
  induction l with
  | nil => cases h
  | cons a r ih =>
    unfold maxi
    rcases List.mem_cons.mp h with rfl | h
    · exact Nat.le_max_left _ _
    · exact Nat.le_trans (ih h) (Nat.le_max_right _ _)
theorem maxi_mem : ∀ {l : List Nat}, 0 < maxi l → maxi l ∈ l
  | [], h => absurd h (by unfold maxi; omega)
  | a :: r, h => by
    unfold maxi at h ⊢
    by_cases q : maxi r ≤ a
    · rw [Nat.max_eq_left q]; exact List.mem_cons_self
    · rw [Nat.max_eq_right (by omega)]
      exact List.mem_cons_of_mem _ (maxi_mem (by omega))
theorem maxi_lub {l : List Nat} {m : Nat} (h : ∀ y ∈ l, y ≤ m) : maxi l ≤ m := by
  induction l with
  | nil => exact Nat.zero_le _
  | cons a r ih =>
    unfold maxi
    exact Nat.max_le.mpr ⟨h a List.mem_cons_self, ih fun y hy => h y (List.mem_cons_of_mem _ hy)⟩
theorem maxi_append (l m : List Nat) : maxi (l ++ m) = max (maxi l) (maxi m) := by
  induction l with
  | nil => show maxi m = max 0 (maxi m); omega
  | cons a r ih =>
    show max a (maxi (r ++ m)) = max (max a (maxi r)) (maxi m)
    rw [ih]; omega
def flo (lies : Int → Int → Bool) (L : List Int) : Nat → Int → Nat
  | 0, _ => 0
  | n + 1, x => maxi ((L.filter (lies x)).map fun y => flo lies L n y + 1)
def under (L : List Int) (x : Int) : Nat := (L.filter fun y => decide (y < x)).length
theorem under_lt {x y : Int} (hy : y ∈ L) (h : y < x) : under L y < under L x := by
  unfold under
  have e : L.filter (fun z => decide (z < y)) = (L.filter fun z => decide (z < x)).filter fun z => decide (z < y) := by
    rw [List.filter_filter]
    refine List.filter_congr fun z _ => ?_
    by_cases q : z < y
    · rw [decide_eq_true q, decide_eq_true (by omega : z < x)]; rfl
    · rw [decide_eq_false q]; rfl
  rw [e]
  have m : y ∈ L.filter fun z => decide (z < x) := List.mem_filter.mpr ⟨hy, decide_eq_true h⟩
  refine Nat.lt_of_le_of_ne (List.length_filter_le _ _) fun z => ?_
  have := (List.length_filter_eq_length_iff.mp z) y m
  simp at this
theorem under_le (x : Int) : under L x ≤ L.length := List.length_filter_le _ _
theorem flo_eq (P : Po lies L) : ∀ (n m : Nat) (x : Int), x ∈ L → under L x < n → under L x < m → flo lies L n x = flo lies L m x
  | 0, _, _, _, h, _ => absurd h (by omega)
  | _ + 1, 0, _, _, _, h => absurd h (by omega)
  | n + 1, m + 1, x, hx, h1, h2 => by
    unfold flo
    congr 1
    refine List.map_congr_left fun y hy => ?_
    obtain ⟨m1, m2⟩ := List.mem_filter.mp hy
    have := under_lt m1 (P.lt x hx y m2)
    rw [flo_eq P n m y m1 (by omega) (by omega)]
/-- the floor of a thing -/
def fl (lies : Int → Int → Bool) (L : List Int) (x : Int) : Nat := flo lies L (L.length + 1) x
theorem fl_eq (P : Po lies L) {x : Int} (hx : x ∈ L) : fl lies L x = maxi ((L.filter (lies x)).map fun y => fl lies L y + 1) := by
  show maxi _ = _
  congr 1
  refine List.map_congr_left fun y hy => ?_
  obtain ⟨m1, m2⟩ := List.mem_filter.mp hy
  have h1 := under_lt m1 (P.lt x hx y m2)
  have h2 := under_le (L := L) x
  rw [flo_eq P L.length (L.length + 1) y m1 (by omega) (by omega)]; rfl
theorem max_fl (P : Po lies L) {x : Int} (hx : x ∈ L) {m : Int} (hm : m ∈ ((L.filter (lies x)).map fun y => (fl lies L y : Int)) ++ [-1]) (hmax : ∀ y ∈ ((L.filter (lies x)).map fun y => (fl lies L y : Int)) ++ [-1], y ≤ m) : 1 + m = (fl lies L x : Int) := by
  rw [fl_eq P hx]
  refine Int.le_antisymm ?_ ?_
  · rcases List.mem_append.mp hm with hm | hm
    · obtain ⟨y, hy, rfl⟩ := List.mem_map.mp hm
      have := maxi_le (List.mem_map.mpr ⟨y, hy, rfl⟩ : fl lies L y + 1 ∈ (L.filter (lies x)).map fun y => fl lies L y + 1)
      omega
    · rw [List.mem_singleton.mp hm]; omega
  · have h1 := hmax (-1) (List.mem_append_right _ (List.mem_singleton.mpr rfl))
    by_cases q : maxi ((L.filter (lies x)).map fun y => fl lies L y + 1) = 0
    · rw [q]; omega
    · obtain ⟨y, hy, e⟩ := List.mem_map.mp (maxi_mem (l := (L.filter (lies x)).map fun y => fl lies L y + 1) (by omega))
      have := hmax (fl lies L y : Int) (List.mem_append_left _ (List.mem_map.mpr ⟨y, hy, rfl⟩))
      rw [← e]; omega
theorem fl_lt (P : Po lies L) {x y : Int} (hx : x ∈ L) (hy : y ∈ L) (h : lies x y = true) : fl lies L y < fl lies L x := by
  rw [fl_eq P hx]
  exact maxi_le (List.mem_map.mpr ⟨y, List.mem_filter.mpr ⟨hy, h⟩, rfl⟩)
theorem fl_down (P : Po lies L) {x : Int} (hx : x ∈ L) (h : 0 < fl lies L x) : ∃ y ∈ L, lies x y = true ∧ fl lies L y + 1 = fl lies L x := by
  have h2 := h
  rw [fl_eq P hx] at h2
  obtain ⟨y, hy, e⟩ := List.mem_map.mp (maxi_mem h2)
  obtain ⟨m1, m2⟩ := List.mem_filter.mp hy
  exact ⟨y, m1, m2, by rw [fl_eq P hx]; exact e⟩
/-- how many floors there are of some things -/
def hgt (lies : Int → Int → Bool) (L l : List Int) : Nat := maxi (l.map fun x => fl lies L x + 1)
theorem hgt_lt {l : List Int} {x : Int} (h : x ∈ l) : fl lies L x < hgt lies L l := maxi_le (List.mem_map.mpr ⟨x, h, rfl⟩)
theorem hgt_snoc (l : List Int) (x : Int) : hgt lies L (l ++ [x]) = max (hgt lies L l) (fl lies L x + 1) := by
  unfold hgt
  rw [List.map_append, maxi_append]
  show max _ (max (fl lies L x + 1) 0) = _
  omega
theorem hgt_le (P : Po lies L) : ∀ {l : List Int}, (∀ x ∈ l, x ∈ L) → hgt lies L l ≤ L.length := fun {l} h => by
  refine maxi_lub fun y hy => ?_
  obtain ⟨x, hx, rfl⟩ := List.mem_map.mp hy
  have : ∀ (n : Nat) (x : Int), x ∈ L → under L x ≤ n → fl lies L x ≤ under L x := by
    intro n
    induction n with
    | zero =>
      intro x hx hn
      by_cases q : fl lies L x = 0
      · omega
      · obtain ⟨y, hy, h1, h2⟩ := fl_down P hx (by omega)
        have := under_lt hy (P.lt x hx y h1)
        omega
    | succ n ih =>
      intro x hx hn
      by_cases q : fl lies L x = 0
      · omega
      · obtain ⟨y, hy, h1, h2⟩ := fl_down P hx (by omega)
        have h3 := under_lt hy (P.lt x hx y h1)
        have := ih y hy (by omega)
        omega
  have h1 := this _ x (h x hx) (Nat.le_refl _)
  have h2 : under L x < L.length := by
    refine Nat.lt_of_le_of_ne (under_le x) fun z => ?_
    have := (List.length_filter_eq_length_iff.mp z) x (h x hx)
    simp at this
  omega
/-- the things of one floor; the floors -/
def floorAt (lies : Int → Int → Bool) (L l : List Int) (k : Nat) : List Int := l.filter fun x => decide (fl lies L x = k)
def floors (lies : Int → Int → Bool) (L l : List Int) : List (List Int) := (List.range (hgt lies L l)).map (floorAt lies L l)
theorem floors_len (l : List Int) : (floors lies L l).length = hgt lies L l := by unfold floors; rw [List.length_map, List.length_range]
theorem floors_get {l : List Int} {k : Nat} (h : k < hgt lies L l) : (floors lies L l)[k]? = some (floorAt lies L l k) := by
  unfold floors
  rw [List.getElem?_map, List.getElem?_range h]; rfl
/-- a thing more on its floor -/
theorem floors_snoc (l : List Int) (x : Int) (g : List (List Int)) (h1 : g.length = max (hgt lies L l) (fl lies L x + 1)) (h2 : ∀ k, k < hgt lies L l → g[k]? = some (floorAt lies L l k)) (h3 : ∀ k, hgt lies L l ≤ k → k < g.length → g[k]? = some []) :
    g.set (fl lies L x) ((g.getD (fl lies L x) []) ++ [x]) = floors lies L (l ++ [x]) := by
  have hall : ∀ k, k < g.length → g[k]? = some (floorAt lies L l k) := fun k hk => by
    by_cases q : k < hgt lies L l
    · exact h2 k q
    · rw [h3 k (by omega) hk]
      congr 1
      refine (List.filter_eq_nil_iff.mpr fun y hy => ?_).symm
      have := hgt_lt (lies := lies) (L := L) hy
      simp; omega
  have hf : fl lies L x < g.length := by omega
  refine List.ext_getElem? fun k => ?_
  by_cases hk : k < g.length
  · rw [floors_get (by rw [hgt_snoc]; omega), List.getElem?_set]
    unfold floorAt
    rw [List.filter_append]
    by_cases q : fl lies L x = k
    · subst q
      rw [if_pos rfl, if_pos hf]
      have e : g.getD (fl lies L x) [] = floorAt lies L l (fl lies L x) := by rw [List.getD_eq_getElem?_getD, hall _ hf]; rfl
      rw [e, List.filter_cons, if_pos (by simp)]; rfl
    · rw [if_neg q, hall k hk, List.filter_cons, if_neg (by simp [q]), List.filter_nil, List.append_nil]; rfl
  · rw [List.getElem?_eq_none (by rw [List.length_set]; omega), List.getElem?_eq_none (by rw [floors_len, hgt_snoc]; omega)]
/-! ### by the law's own going -/
theorem law_floor (P : Po lies L) (k : Nat) : (L.filter fun x => decide (k ≤ fl lies L x)).filter (fun x => !((L.filter fun y => lies x y).any fun y => decide (y ∈ L.filter fun z => decide (k ≤ fl lies L z)))) = floorAt lies L L k := by
  unfold floorAt
  rw [List.filter_filter]
  refine List.filter_congr fun x hx => ?_
  by_cases q : fl lies L x = k
  · rw [decide_eq_true q, decide_eq_true (by omega : k ≤ fl lies L x), Bool.and_true]
    rw [Bool.not_eq_true']
    refine List.any_eq_false.mpr fun y hy => ?_
    obtain ⟨m1, m2⟩ := List.mem_filter.mp hy
    have := fl_lt P hx m1 m2
    intro z
    have := (List.mem_filter.mp (of_decide_eq_true z)).2
    simp at this; omega
  · rw [decide_eq_false q]
    by_cases q2 : k ≤ fl lies L x
    · obtain ⟨y, hy, h1, h2⟩ := fl_down P hx (by omega)
      have : ((L.filter fun y => lies x y).any fun y => decide (y ∈ L.filter fun z => decide (k ≤ fl lies L z))) = true :=
        List.any_eq_true.mpr ⟨y, List.mem_filter.mpr ⟨hy, h1⟩, decide_eq_true (List.mem_filter.mpr ⟨hy, by simp; omega⟩)⟩
      rw [this]; rfl
    · rw [decide_eq_false q2, Bool.and_false]
theorem law_left (k : Nat) : (L.filter fun x => decide (k ≤ fl lies L x)).filter (fun x => decide (x ∉ floorAt lies L L k)) = L.filter fun x => decide (k + 1 ≤ fl lies L x) := by
  rw [List.filter_filter]
  refine List.filter_congr fun x hx => ?_
  have : (x ∈ floorAt lies L L k) ↔ fl lies L x = k := by
    unfold floorAt
    rw [List.mem_filter]
    simp [hx]
  rw [Bool.eq_iff_iff]
  simp [this]
  omega
theorem law_done (k : Nat) : (L.filter fun x => decide (k ≤ fl lies L x)) = [] ↔ hgt lies L L ≤ k := by
  constructor
  · intro h
    refine maxi_lub fun y hy => ?_
    obtain ⟨x, hx, rfl⟩ := List.mem_map.mp hy
    have := List.filter_eq_nil_iff.mp h x hx
    simp at this; omega
  · intro h
    refine List.filter_eq_nil_iff.mpr fun x hx => ?_
    have := hgt_lt (lies := lies) (L := L) hx
    simp; omega
theorem law_first : (L.filter fun x => decide (0 ≤ fl lies L x)) = L := List.filter_eq_self.mpr fun x _ => by simp
/-! ### the longest ladder -/
def pick (lies : Int → Int → Bool) (L : List Int) (k : Nat) (acc : List Int) : List Int := (floorAt lies L L k).filter fun x => decide (acc = []) || lies (acc.headD 0) x
def lgF (lies : Int → Int → Bool) (L : List Int) : Nat → List Int → List Int
  | 0, acc => acc
  | k + 1, acc => lgF lies L k ((pick lies L k acc).headD 0 :: acc)
def longest (lies : Int → Int → Bool) (L : List Int) : List Int := lgF lies L (hgt lies L L) []
structure LgOk (lies : Int → Int → Bool) (L : List Int) (k : Nat) (acc : List Int) : Prop where
  len : acc.length + k = hgt lies L L
  at_ : ∀ i x, acc[i]? = some x → x ∈ L ∧ fl lies L x = k + i
  ch : ∀ i x y, acc[i]? = some x → acc[i + 1]? = some y → lies y x = true
theorem LgOk.pick (P : Po lies L) {k : Nat} {acc : List Int} (h : LgOk lies L (k + 1) acc) : ∃ x t, pick lies L k acc = x :: t ∧ LgOk lies L k (x :: acc) := by
  have hne : FL.pick lies L k acc ≠ [] := by
    cases acc with
    | nil =>
      have hl := h.len
      have hm : hgt lies L L ∈ L.map fun x => fl lies L x + 1 := maxi_mem (by unfold hgt at hl; show 0 < maxi _; rw [← hl]; simp)
      obtain ⟨x, hx, e⟩ := List.mem_map.mp hm
      refine List.ne_nil_of_mem (a := x) (List.mem_filter.mpr ⟨List.mem_filter.mpr ⟨hx, ?_⟩, rfl⟩)
      simp at hl ⊢; omega
    | cons a r =>
      obtain ⟨ha, hf⟩ := h.at_ 0 a rfl
      obtain ⟨y, hy, h1, h2⟩ := fl_down P ha (by omega)
      refine List.ne_nil_of_mem (a := y) (List.mem_filter.mpr ⟨List.mem_filter.mpr ⟨hy, ?_⟩, ?_⟩)
      · simp; omega
      · show (decide (a :: r = []) || lies a y) = true
        rw [h1, Bool.or_true]
  obtain ⟨x, t, e⟩ := List.exists_cons_of_ne_nil hne
  refine ⟨x, t, e, ?_⟩
  have hx : x ∈ FL.pick lies L k acc := by rw [e]; exact List.mem_cons_self
  obtain ⟨m1, m2⟩ := List.mem_filter.mp hx
  obtain ⟨m3, m4⟩ := List.mem_filter.mp m1
  refine ⟨by rw [List.length_cons]; have := h.len; omega, fun i y hy => ?_, fun i y z hy hz => ?_⟩
  · cases i with
    | zero =>
      have : x = y := Option.some.inj hy
      subst this
      exact ⟨m3, of_decide_eq_true m4⟩
    | succ i =>
      obtain ⟨q1, q2⟩ := h.at_ i y hy
      exact ⟨q1, by omega⟩
  · cases i with
    | zero =>
      have : x = y := Option.some.inj hy
      subst this
      cases acc with
      | nil => cases hz
      | cons a r =>
        have : a = z := Option.some.inj hz
        subst this
        simpa using m2
    | succ i => exact h.ch i y z hy hz
theorem lgF_ok (P : Po lies L) : ∀ (k : Nat) (acc : List Int), LgOk lies L k acc → LgOk lies L 0 (lgF lies L k acc)
  | 0, _, h => h
  | k + 1, acc, h => by
    obtain ⟨x, t, e, h2⟩ := LgOk.pick P h
    unfold lgF
    rw [e]
    exact lgF_ok P k _ h2
theorem longest_ok (P : Po lies L) : LgOk lies L 0 (longest lies L) :=
  lgF_ok P _ _ ⟨by simp, fun i x h => by simp at h, fun i x y h => by simp at h⟩
end
end FL

set_option maxHeartbeats 1000000
/-! Some things alone: as few ladders, as many free ones. -/
namespace FL
section
variable {lies : Int → Int → Bool} {L l : List Int}
theorem Po.sub (P : Po lies L) (s : l.Pairwise (· < ·)) (h : ∀ x ∈ l, x ∈ L) : Po lies l :=
  ⟨s, fun a ha b hb => P.lt a (h a ha) b hb, fun a b c ha hb hc => P.tr a b c (h a ha) (h b hb) (h c hc)⟩
def jab (lies : Int → Int → Bool) (l : List Int) : List (Int × Int) × List (Int × Int) := joinAll lies l (l.length + 1) [] []
theorem jab_ok (P : Po lies l) : Mt lies l (jab lies l).1 (jab lies l).2 ∧ NoAug lies l (jab lies l).1 (jab lies l).2 :=
  joinAll_end P (l.length + 1) [] [] (Mt.empty lies l) (Nat.lt_succ_of_le (List.length_filter_le _ _))
def partL (lies : Int → Int → Bool) (l : List Int) : List (List Int) := ladders l (jab lies l).1 (jab lies l).2
def partF (lies : Int → Int → Bool) (l : List Int) : List Int := free lies l (jab lies l).1 (jab lies l).2
theorem partF_ok (P : Po lies l) : (partF lies l).Pairwise (· < ·) ∧ (∀ x ∈ partF lies l, x ∈ l) ∧ Anti lies (partF lies l) ∧ (partF lies l).length = (partL lies l).length ∧ (partF lies l).length ≤ l.length := by
  obtain ⟨M, N⟩ := jab_ok P
  have h := free_end P M N
  have hs := free_sub (lies := lies) (L := l) (ab := (jab lies l).1) (be := (jab lies l).2)
  exact ⟨P.srt.sublist hs, fun x hx => hs.subset hx, h.1, by unfold partF partL; rw [h.2, ladders_len], hs.length_le⟩
theorem part_max (P : Po lies l) {A : List Int} (hA : Anti lies A) (n : A.Nodup) (h : ∀ x ∈ A, x ∈ l) : A.length ≤ (partF lies l).length := by
  obtain ⟨M, N⟩ := jab_ok P
  have := anti_le P M hA n h
  unfold partF
  rw [(free_end P M N).2]; exact this
end
section
variable {s : HS}
def HS.freeL (s : HS) : List Int := free s.lies s.linked s.ab s.be
theorem free_max (G : Good s) {A : List Int} (hA : Anti s.lies A) (n : A.Nodup) (h : ∀ x ∈ A, x ∈ s.linked) : A.length ≤ s.freeL.length := by
  have := anti_le G.po G.mt hA n h
  unfold HS.freeL
  rw [(free_end G.po G.mt G.na).2]; exact this
theorem freeL_ok (G : Good s) : s.freeL.Pairwise (· < ·) ∧ (∀ x ∈ s.freeL, x ∈ s.linked) ∧ Anti s.lies s.freeL := by
  have h := free_end G.po G.mt G.na
  have hs := free_sub (lies := s.lies) (L := s.linked) (ab := s.ab) (be := s.be)
  exact ⟨G.po.srt.sublist hs, fun x hx => hs.subset hx, h.1⟩
/-- the things apart from one; all but one -/
def ap (lies : Int → Int → Bool) (x y : Int) : Bool := decide (x ≠ y) && (!lies x y && !lies y x)
def HS.near (s : HS) (x : Int) : List Int := s.linked.filter (ap s.lies x)
def HS.rest (s : HS) (x : Int) : List Int := s.linked.filter fun y => decide (y ≠ x)
theorem near_po (G : Good s) (x : Int) : Po s.lies (s.near x) := G.po.sub (G.po.srt.sublist List.filter_sublist) fun y h => (List.mem_filter.mp h).1
theorem rest_po (G : Good s) (x : Int) : Po s.lies (s.rest x) := G.po.sub (G.po.srt.sublist List.filter_sublist) fun y h => (List.mem_filter.mp h).1
def HS.withF (s : HS) (x : Int) : List Int := partF s.lies (s.near x)
def HS.lessF (s : HS) (x : Int) : List Int := partF s.lies (s.rest x)
/-- the told free set with a thing -/
def HS.withL (s : HS) (x : Int) : List Int := s.linked.filter fun y => decide (y ∈ s.withF x ∨ y = x)
theorem ap_of {lies : Int → Int → Bool} {x y : Int} (h : ap lies x y = true) : x ≠ y ∧ lies x y = false ∧ lies y x = false := by
  unfold ap at h
  simp at h
  exact ⟨h.1, h.2.1, h.2.2⟩
theorem Good.irrL (G : Good s) {x : Int} (hx : x ∈ s.linked) : s.lies x x = false := by
  cases h : s.lies x x with
  | false => rfl
  | true => have := G.po.lt x hx x h; omega
theorem withL_perm (G : Good s) {x : Int} (hx : x ∈ s.linked) : (s.withF x ++ [x]).Perm (s.withL x) := by
  obtain ⟨h1, h2, h3, _, _⟩ := partF_ok (near_po G x)
  have nx : x ∉ s.withF x := fun h => (ap_of (List.mem_filter.mp (h2 x h)).2).1 rfl
  refine (List.perm_ext_iff_of_nodup (nodup_snoc (h1.imp fun h => Int.ne_of_lt h) nx) (G.po.nd.sublist List.filter_sublist)).mpr fun y => ?_
  show y ∈ s.withF x ++ [x] ↔ y ∈ s.linked.filter fun y => decide (y ∈ s.withF x ∨ y = x)
  rw [List.mem_filter, List.mem_append, List.mem_singleton, decide_eq_true_iff]
  constructor
  · intro h
    refine ⟨?_, h⟩
    rcases h with h | rfl
    · exact (List.mem_filter.mp (h2 y h)).1
    · exact hx
  · exact fun h => h.2
theorem withL_len (G : Good s) {x : Int} (hx : x ∈ s.linked) : (s.withL x).length = (s.withF x).length + 1 := by
  rw [← (withL_perm G hx).length_eq, List.length_append]; rfl
theorem withL_ok (G : Good s) {x : Int} (hx : x ∈ s.linked) : (s.withL x).Pairwise (· < ·) ∧ (∀ y ∈ s.withL x, y ∈ s.linked) ∧ Anti s.lies (s.withL x) ∧ x ∈ s.withL x := by
  obtain ⟨h1, h2, h3, _, _⟩ := partF_ok (near_po G x)
  refine ⟨G.po.srt.sublist List.filter_sublist, fun y hy => (List.mem_filter.mp hy).1, fun a ha b hb => ?_, List.mem_filter.mpr ⟨hx, decide_eq_true (Or.inr rfl)⟩⟩
  have ha := of_decide_eq_true (List.mem_filter.mp ha).2
  have hb := of_decide_eq_true (List.mem_filter.mp hb).2
  rcases ha with ha | rfl
  · rcases hb with hb | rfl
    · exact h3 a ha b hb
    · exact (ap_of (List.mem_filter.mp (h2 a ha)).2).2.2
  · rcases hb with hb | rfl
    · exact (ap_of (List.mem_filter.mp (h2 b hb)).2).2.1
    · exact G.irrL hx
theorem with_le (G : Good s) {x : Int} (hx : x ∈ s.linked) : (s.withF x).length + 1 ≤ s.freeL.length := by
  obtain ⟨h1, h2, h3, _⟩ := withL_ok G hx
  rw [← withL_len G hx]
  exact free_max G h3 (h1.imp fun h => Int.ne_of_lt h) h2
theorem less_le (G : Good s) (x : Int) : (s.lessF x).length ≤ s.freeL.length := by
  obtain ⟨h1, h2, h3, _, _⟩ := partF_ok (rest_po G x)
  exact free_max G h3 (h1.imp fun h => Int.ne_of_lt h) fun y hy => (List.mem_filter.mp (h2 y hy)).1
theorem less_not (G : Good s) (x : Int) : x ∉ s.lessF x := fun h => by
  have := (List.mem_filter.mp ((partF_ok (rest_po G x)).2.1 x h)).2
  simp at this
/-- a greatest free set that has the thing: there is one told -/
theorem with_max (G : Good s) {x : Int} {A : List Int} (hA : Anti s.lies A) (n : A.Nodup) (h : ∀ y ∈ A, y ∈ s.linked) (hx : x ∈ A) : A.length ≤ (s.withF x).length + 1 := by
  have e : (A.filter fun y => decide (y ≠ x)).length + 1 = A.length := by
    have h1 : A.Perm (x :: A.filter fun y => decide (y ≠ x)) := by
      refine (List.perm_ext_iff_of_nodup n (List.nodup_cons.mpr ⟨fun z => ?_, n.sublist List.filter_sublist⟩)).mpr fun y => ?_
      · have := (List.mem_filter.mp z).2
        simp at this
      · rw [List.mem_cons, List.mem_filter]
        by_cases q : y = x
        · subst q; simp [hx]
        · simp [q]
    rw [h1.length_eq, List.length_cons]
  rw [← e]
  refine Nat.succ_le_succ (part_max (near_po G x) (fun a ha b hb => hA a (List.mem_filter.mp ha).1 b (List.mem_filter.mp hb).1) (n.sublist List.filter_sublist) fun y hy => ?_)
  obtain ⟨m1, m2⟩ := List.mem_filter.mp hy
  refine List.mem_filter.mpr ⟨h y m1, ?_⟩
  unfold ap
  rw [hA x hx y m1, hA y m1 x hx, decide_eq_true (show x ≠ y from fun z => of_decide_eq_true m2 z.symm)]; rfl
theorem less_max (G : Good s) {x : Int} {A : List Int} (hA : Anti s.lies A) (n : A.Nodup) (h : ∀ y ∈ A, y ∈ s.linked) (hx : x ∉ A) : A.length ≤ (s.lessF x).length :=
  part_max (rest_po G x) hA n fun y hy => List.mem_filter.mpr ⟨h y hy, decide_eq_true fun z => hx (z ▸ hy)⟩
theorem one_of (G : Good s) (x : Int) : s.freeL.length ≤ (s.withF x).length + 1 ∨ s.freeL.length ≤ (s.lessF x).length := by
  obtain ⟨h1, h2, h3⟩ := freeL_ok G
  by_cases q : x ∈ s.freeL
  · exact Or.inl (with_max G h3 (h1.imp fun h => Int.ne_of_lt h) h2 q)
  · exact Or.inr (less_max G h3 (h1.imp fun h => Int.ne_of_lt h) h2 q)
end
end FL

set_option maxHeartbeats 1000000
/-! Rows of change: what the law makes of a row. -/
namespace FL
theorem aget_of_mem {β : Type} : ∀ {d : List (Int × β)}, (d.map (·.1)).Nodup → ∀ {k : Int} {v : β}, (k, v) ∈ d → aget d k = some v
  | [], _, _, _, h => nomatch h
  | p :: r, n, k, v, h => by
    rw [List.map_cons] at n
    obtain ⟨n1, n2⟩ := List.nodup_cons.mp n
    rw [aget_cons]
    rcases List.mem_cons.mp h with e | h
    · rw [← e, if_pos rfl]
    · rw [if_neg fun z => n1 (by rw [z]; exact List.mem_map.mpr ⟨_, h, rfl⟩)]
      exact aget_of_mem n2 h
/-- the same as a map -/
def Eqm (d ab : List (Int × Int)) : Prop := (d.map (·.1)).Nodup ∧ ∀ k, aget d k = aget ab k
def chg (d : List (Int × Int)) (r : Row) : List (Int × Int) := r.foldl (fun d p => aput d p.2 p.1) d
theorem chg_snoc (d : List (Int × Int)) (r : Row) (p : Int × Int) : chg d (r ++ [p]) = aput (chg d r) p.2 p.1 := by unfold chg; rw [List.foldl_append]; rfl
theorem chg_nd {d : List (Int × Int)} (r : Row) (h : (d.map (·.1)).Nodup) : ((chg d r).map (·.1)).Nodup := by
  induction r generalizing d with
  | nil => exact h
  | cons p r ih => exact ih (aput_nodup h)
theorem chg_get {d : List (Int × Int)} : ∀ {r : Row}, (r.map (·.2)).Nodup → ∀ l, aget (chg d r) l = (atLow r l).or (aget d l) := by
  intro r
  induction r generalizing d with
  | nil => intro _ l; rfl
  | cons p r ih =>
    intro n l
    rw [List.map_cons] at n
    obtain ⟨n1, n2⟩ := List.nodup_cons.mp n
    show aget (chg (aput d p.2 p.1) r) l = _
    rw [ih n2, aget_aput]
    unfold atLow
    rw [List.find?_cons]
    by_cases e : l = p.2
    · subst e
      have hn : atLow r p.2 = none := by
        cases z : atLow r p.2 with
        | none => rfl
        | some h => exact absurd (List.mem_map.mpr ⟨_, atLow_some z, rfl⟩) n1
      unfold atLow at hn
      rw [hn]; simp
    · have : decide (p.2 = l) = false := decide_eq_false fun z => e z.symm
      rw [this, if_neg e]
section
variable {lies : Int → Int → Bool} {L : List Int} {ab be : List (Int × Int)}
/-- a row, place by place -/
structure RowAt (ab : List (Int × Int)) (high : Int) (r : Row) : Prop where
  first : ∀ p, r[0]? = some p → p.1 = high
  next : ∀ i p q, r[i]? = some p → r[i + 1]? = some q → aget ab p.2 = some q.1
  last : ∀ i p, r[i]? = some p → i + 1 = r.length → aget ab p.2 = none
theorem Path.at : ∀ {high : Int} {r : Row}, Path lies L ab high r → RowAt ab high r
  | _, [], h => h.elim
  | _, [p], h => by
    obtain ⟨rfl, _, _, e⟩ := h
    refine ⟨fun q hq => by cases hq; rfl, fun i q z h1 h2 => by simp at h2, fun i q h1 h2 => ?_⟩
    have : i = 0 := by simp at h2; omega
    subst this
    cases h1; exact e
  | _, p :: q :: r, h => by
    obtain ⟨rfl, _, _, up, hup, hr⟩ := h
    have ih := Path.at hr
    refine ⟨fun z hz => by cases hz; rfl, fun i x y h1 h2 => ?_, fun i x h1 h2 => ?_⟩
    · cases i with
      | zero =>
        cases h1
        have := ih.first y h2
        rw [this]; exact hup
      | succ i => exact ih.next i x y h1 h2
    · cases i with
      | zero => simp at h2
      | succ i => exact ih.last i x h1 (by simpa using h2)
/-- what a told row is: none, or a path from a thing without one beneath -/
structure RowOk (lies : Int → Int → Bool) (L : List Int) (ab be : List (Int × Int)) (r : Row) (ab' be' : List (Int × Int)) : Prop where
  none_ : r = [] → ab' = ab ∧ be' = be
  some_ : r ≠ [] → ∃ high ∈ L, aget be high = none ∧ Path lies L ab high r ∧ (r.map (·.2)).Nodup ∧ (ab', be') = linkAll r ab be
theorem joined_row (lies : Int → Int → Bool) (L : List Int) (ab be : List (Int × Int)) : RowOk lies L ab be (joined lies L ab be).1 (joined lies L ab be).2.1 (joined lies L ab be).2.2 := by
  have e := joinScan_end lies L ab be L
  refine ⟨fun h => ?_, fun h => ?_⟩
  · have := (e.fail h).1
    exact ⟨congrArg Prod.fst this, congrArg Prod.snd this⟩
  · obtain ⟨high, h1, h2, h3, h4, h5⟩ := e.done h
    exact ⟨high, h1, h2, h3, h5, h4⟩
theorem RowOk.nd {r : Row} {ab' be' : List (Int × Int)} (h : RowOk lies L ab be r ab' be') : (r.map (·.2)).Nodup := by
  by_cases q : r = []
  · subst q; exact List.nodup_nil
  · obtain ⟨_, _, _, _, n, _⟩ := h.some_ q
    exact n
theorem RowOk.eqm {r : Row} {ab' be' : List (Int × Int)} (h : RowOk lies L ab be r ab' be') {d : List (Int × Int)} (e : Eqm d ab) : Eqm (chg d r) ab' := by
  refine ⟨chg_nd r e.1, fun k => ?_⟩
  rw [chg_get h.nd, e.2]
  by_cases q : r = []
  · subst q
    rw [(h.none_ rfl).1]; rfl
  · obtain ⟨_, _, _, _, _, e2⟩ := h.some_ q
    have e3 : ab' = (linkAll r ab be).1 := congrArg Prod.fst e2
    rw [e3, linkAll_ab]
theorem RowOk.mem {r : Row} {ab' be' : List (Int × Int)} (M : Mt lies L ab be) (h : RowOk lies L ab be r ab' be') : ∀ p ∈ r, p.1 ∈ L ∧ p.2 ∈ L := fun p hp => by
  obtain ⟨high, h1, h2, h3, h4, h5⟩ := h.some_ (List.ne_nil_of_mem hp)
  refine ⟨?_, (h3.p4 p hp).1⟩
  rcases h3.p1 p hp with e | ⟨q, hq, e⟩
  · rw [e]; exact h1
  · exact (M.inL _ _ e).2.1
/-- before the i-th pair's store, its lower thing's own one is as it was -/
theorem chg_before {d : List (Int × Int)} {r : Row} (n : (r.map (·.2)).Nodup) {i : Nat} {p : Int × Int} (hp : r[i]? = some p) : aget (chg d (r.take i)) p.2 = aget d p.2 := by
  have n2 : ((r.take i).map (·.2)).Nodup := n.sublist ((List.take_sublist i r).map _)
  rw [chg_get n2]
  have : atLow (r.take i) p.2 = none := by
    cases z : atLow (r.take i) p.2 with
    | none => rfl
    | some h =>
      have m := atLow_some z
      obtain ⟨j, hj, ej⟩ := List.mem_take_iff_getElem.mp m
      obtain ⟨hi, ei⟩ := List.getElem?_eq_some_iff.mp hp
      have := List.pairwise_iff_getElem.mp n j i (by rw [List.length_map]; omega) (by rw [List.length_map]; exact hi) (by omega)
      rw [List.getElem_map, List.getElem_map, ej, ei] at this
      exact absurd rfl this
  rw [this]; rfl
theorem no_value {d : List (Int × Int)} (e : Eqm d ab) (M : Mt lies L ab be) {h : Int} : h ∉ d.map (·.2) ↔ aget be h = none := by
  constructor
  · intro hn
    cases z : aget be h with
    | none => rfl
    | some l =>
      have := (M.inv l h).mpr z
      rw [← e.2] at this
      exact absurd (List.mem_map.mpr ⟨_, aget_mem this, rfl⟩) hn
  · intro hn hm
    obtain ⟨⟨l, h'⟩, hp, rfl⟩ := List.mem_map.mp hm
    have : aget d l = some h' := aget_of_mem e.1 hp
    rw [e.2] at this
    rw [(M.inv l h').mp this] at hn
    cases hn
/-! ### the ladders by the law's own map -/
theorem up_congr {d ab : List (Int × Int)} (e : ∀ k, aget d k = aget ab k) : ∀ (n : Nat) (x : Int), up d n x = up ab n x
  | 0, _ => rfl
  | n + 1, x => by
    unfold up
    rw [e x]
    cases aget ab x with
    | none => rfl
    | some y =>
      show x :: up d n y = x :: up ab n y
      rw [up_congr e n y]
/-! ### a thing taken -/
def takeD (d : List (Int × Int)) (one : Int) : List (Int × Int) :=
  (((adel d one).filter fun p => decide (p.2 = one)).map (·.1)).foldl (fun d' l => match aget d one with | some h => aput (adel d' l) l h | none => adel d' l) (adel d one)
end
section
variable {s : HS}
theorem take_eqm (G : Good s) {d : List (Int × Int)} (e : Eqm d s.ab) (one : Int) : Eqm (takeD d one) (dropA s.ab s.be one).1 ∧ ((((adel d one).filter fun p => decide (p.2 = one)).map (·.1)).length ≤ 1) := by
  have nd1 : ((adel d one).map (·.1)).Nodup := adel_nodup e.1
  have keys : ∀ l, l ∈ ((adel d one).filter fun p => decide (p.2 = one)).map (·.1) ↔ aget s.ab l = some one := fun l => by
    constructor
    · intro h
      obtain ⟨⟨l', h'⟩, hp, rfl⟩ := List.mem_map.mp h
      obtain ⟨m1, m2⟩ := List.mem_filter.mp hp
      have m2 : h' = one := of_decide_eq_true m2
      have := aget_of_mem nd1 m1
      rw [aget_adel] at this
      by_cases q : l' = one
      · rw [if_pos q] at this; cases this
      · rw [if_neg q, e.2] at this
        rw [← m2]; exact this
    · intro h
      have ne : l ≠ one := fun z => G.irr l (by rw [h, z])
      have h1 : aget (adel d one) l = some one := by rw [aget_adel, if_neg ne, e.2]; exact h
      exact List.mem_map.mpr ⟨_, List.mem_filter.mpr ⟨aget_mem h1, decide_eq_true rfl⟩, rfl⟩
  have ndK : (((adel d one).filter fun p => decide (p.2 = one)).map (·.1)).Nodup := nd1.sublist (List.Sublist.map (fun (p : Int × Int) => p.1) List.filter_sublist)
  have dr := dropA_ab (one := one) G.mt.inv G.irr
  unfold takeD
  generalize ((adel d one).filter fun p => decide (p.2 = one)).map (·.1) = K at keys ndK
  cases K with
  | nil =>
    refine ⟨⟨nd1, fun l => ?_⟩, Nat.zero_le _⟩
    show aget (adel d one) l = _
    rw [dr l, aget_adel]
    by_cases q : l = one
    · rw [if_pos q, if_pos q]
    · rw [if_neg q, if_neg q, if_neg fun z => (nomatch (keys l).mpr z), e.2]
  | cons l0 r =>
    have er : r = [] := by
      cases r with
      | nil => rfl
      | cons l1 r =>
        have a := (keys l0).mp List.mem_cons_self
        have b := (keys l1).mp (List.mem_cons_of_mem _ List.mem_cons_self)
        have := G.mt.inj a b
        exact absurd (this ▸ List.mem_cons_self) (List.nodup_cons.mp ndK).1
    subst er
    have hl0 := (keys l0).mp List.mem_cons_self
    have ne0 : l0 ≠ one := fun z => G.irr l0 (by rw [hl0, z])
    have oth : ∀ l, l ≠ l0 → aget s.ab l ≠ some one := fun l hl z => hl (G.mt.inj z hl0)
    refine ⟨⟨?_, fun l => ?_⟩, Nat.le_refl _⟩
    · show ((match aget d one with | some h => aput (adel (adel d one) l0) l0 h | none => adel (adel d one) l0).map (fun (p : Int × Int) => p.1)).Nodup
      cases aget d one with
      | none => exact adel_nodup nd1
      | some h => exact aput_nodup (adel_nodup nd1)
    · show aget (match aget d one with | some h => aput (adel (adel d one) l0) l0 h | none => adel (adel d one) l0) l = _
      rw [dr l]
      have e1 := e.2 one
      cases z : aget d one with
      | none =>
        show aget (adel (adel d one) l0) l = _
        rw [z] at e1
        rw [aget_adel, aget_adel, e.2]
        by_cases q : l = l0
        · subst q
          rw [if_pos rfl, if_neg ne0, if_pos hl0]; exact e1
        · rw [if_neg q, if_neg (oth l q)]
      | some h =>
        show aget (aput (adel (adel d one) l0) l0 h) l = _
        rw [z] at e1
        rw [aget_aput, aget_adel, aget_adel, e.2]
        by_cases q : l = l0
        · subst q
          rw [if_pos rfl, if_neg ne0, if_pos hl0]; exact e1
        · rw [if_neg q, if_neg q, if_neg (oth l q)]
theorem take_row (s : HS) (one : Int) : RowOk (s.take one).2.lies (s.take one).2.linked (dropA s.ab s.be one).1 (dropA s.ab s.be one).2 (s.take one).1 (s.take one).2.ab (s.take one).2.be := joined_row _ _ _ _
theorem put_row (s : HS) (some : List Int) : RowOk (s.put some).2.lies (s.put some).2.linked s.ab s.be (s.put some).1 (s.put some).2.ab (s.put some).2.be := joined_row _ _ _ _
theorem path_closed {lies : Int → Int → Bool} {L : List Int} {ab : List (Int × Int)} {R : Int → Prop} (hR : ∀ l, R l → ∃ u, aget ab l = some u ∧ ∀ l' ∈ L, lies u l' = true → R l') : ∀ {high : Int} {r : Row}, Path lies L ab high r → (∀ l ∈ L, lies high l = true → R l) → False
  | _, [], h, _ => h.elim
  | _, [p], h, k => by
    obtain ⟨rfl, h1, h2, e⟩ := h
    obtain ⟨u, hu, _⟩ := hR _ (k _ h1 h2)
    rw [e] at hu; cases hu
  | _, p :: q :: r, h, k => by
    obtain ⟨rfl, h1, h2, up, hup, hr⟩ := h
    obtain ⟨u, hu, hk⟩ := hR _ (k _ h1 h2)
    rw [hup] at hu
    cases hu
    exact path_closed hR hr hk
/-- a row behind a thing put in begins with that thing -/
theorem put_first (G : Good s) {some : List Int} (hs : ∀ o ∈ some, o ∈ s.linked) (hne : (s.put some).1 ≠ []) : ∃ p r, (s.put some).1 = p :: r ∧ p.1 = (s.told : Int) := by
  obtain ⟨high, h1, h2, h3, h4, h5⟩ := (put_row s some).some_ hne
  obtain ⟨l, r, er⟩ := h3.head
  refine ⟨(high, l), r, er, ?_⟩
  show high = (s.told : Int)
  have h1 : high ∈ s.linked ++ [(s.told : Int)] := h1
  rcases List.mem_append.mp h1 with h1 | h1
  · exfalso
    obtain ⟨R, r1, r2⟩ := G.na
    have old : ∀ {u l : Int}, u ∈ s.linked → l ∈ s.linked ++ [(s.told : Int)] → (s.put some).2.lies u l = true → l ∈ s.linked ∧ s.lies u l = true := fun {u l} hu hl h => by
      rw [put_lies_old G hs (fun z => told_new G (z ▸ hu))] at h
      rcases List.mem_append.mp hl with hl | hl
      · exact ⟨hl, h⟩
      · rw [List.mem_singleton.mp hl] at h
        have a := G.po.lt u hu _ h
        have b := (G.rng u hu).2
        omega
    refine path_closed (R := R) (L := s.linked ++ [(s.told : Int)]) (fun l hl => ?_) h3 fun l hl h => ?_
    · obtain ⟨u, hu, hk⟩ := r2 l hl
      refine ⟨u, hu, fun l' hl' h' => ?_⟩
      have huL := (G.mt.inL l u hu).2.1
      obtain ⟨m1, m2⟩ := old huL hl' h'
      exact hk l' m1 m2
    · obtain ⟨m1, m2⟩ := old h1 hl h
      exact r1 high h1 h2 l m1 m2
  · exact List.mem_singleton.mp h1
end
end FL

set_option maxHeartbeats 1000000
/-! All sets of a few things, tried one by one. -/
namespace FL
theorem snoc_ind {p : List Int → Prop} (h0 : p []) (h1 : ∀ L x, p L → p (L ++ [x])) (L : List Int) : p L := by
  suffices h : ∀ M : List Int, p M.reverse by
    have := h L.reverse
    rwa [List.reverse_reverse] at this
  intro M
  induction M with
  | nil => exact h0
  | cons x M ih => rw [List.reverse_cons]; exact h1 _ _ ih
def subs (L : List Int) : List (List Int) := L.foldl (fun f x => f ++ f.map (· ++ [x])) [[]]
theorem subs_snoc (L : List Int) (x : Int) : subs (L ++ [x]) = subs L ++ (subs L).map (· ++ [x]) := by unfold subs; rw [List.foldl_append]; rfl
theorem subs_len (L : List Int) : (subs L).length = 2 ^ L.length := by
  refine snoc_ind (p := fun L => (subs L).length = 2 ^ L.length) rfl (fun L x ih => ?_) L
  rw [subs_snoc, List.length_append, List.length_map, ih, List.length_append, List.length_singleton, Nat.pow_succ]; omega
theorem mem_subs {L : List Int} : ∀ {A : List Int}, A ∈ subs L ↔ A.Sublist L := by
  refine snoc_ind (p := fun L => ∀ {A : List Int}, A ∈ subs L ↔ A.Sublist L) (by intro A; simp [subs]) (fun L x ih A => ?_) L
  rw [subs_snoc, List.mem_append, ih, List.mem_map]
  constructor
  · rintro (h | ⟨B, hB, rfl⟩)
    · exact h.trans (List.sublist_append_left _ _)
    · exact (ih.mp hB).append (List.Sublist.refl _)
  · intro h
    obtain ⟨l1, l2, rfl, h1, h2⟩ := List.sublist_append_iff.mp h
    cases h2 with
    | cons _ h2 =>
      rw [List.sublist_nil.mp h2, List.append_nil]; exact Or.inl h1
    | cons_cons _ h2 =>
      rw [List.sublist_nil.mp h2]; exact Or.inr ⟨l1, ih.mpr h1, rfl⟩
/-- each with all ahead of it -/
def allBy (R : Int → Int → Bool) (A : List Int) : Bool := (List.range A.length).all fun k => (A.take k).all fun o => R (A.getD k 0) o
theorem allBy_iff {R : Int → Int → Bool} {A : List Int} : allBy R A = true ↔ A.Pairwise fun o x => R x o = true := by
  unfold allBy
  rw [List.all_eq_true, List.pairwise_iff_getElem]
  constructor
  · intro h i j hi hj lt
    have := List.all_eq_true.mp (h j (List.mem_range.mpr hj)) A[i] (List.mem_iff_getElem.mpr ⟨i, by rw [List.length_take]; omega, by simp⟩)
    rw [List.getD_eq_getElem?_getD, List.getElem?_eq_getElem hj] at this
    exact this
  · intro h k hk
    have hk := List.mem_range.mp hk
    rw [List.all_eq_true]
    intro o ho
    obtain ⟨i, hi, rfl⟩ := List.mem_iff_getElem.mp ho
    rw [List.length_take] at hi
    rw [List.getElem_take, List.getD_eq_getElem?_getD, List.getElem?_eq_getElem hk]
    exact h i k (by omega) hk (by omega)
section
variable {lies : Int → Int → Bool} {L : List Int}
/-- two by two apart; two by two in a row -/
def apB (lies : Int → Int → Bool) (x y : Int) : Bool := decide (x ≠ y) && !lies x y && !lies y x
def frees (lies : Int → Int → Bool) (L : List Int) : List (List Int) := (subs L).filter (allBy (apB lies))
def rows (lies : Int → Int → Bool) (L : List Int) : List (List Int) := (subs L).filter (allBy fun x y => !apB lies x y)
theorem irr (P : Po lies L) {x : Int} (hx : x ∈ L) : lies x x = false := by
  cases h : lies x x with
  | false => rfl
  | true => have := P.lt x hx x h; omega
theorem sub_srt {A : List Int} (P : Po lies L) (s : A.Sublist L) : A.Pairwise (· < ·) := P.srt.sublist s
theorem sub_of {A : List Int} (P : Po lies L) (s : A.Pairwise (· < ·)) (h : ∀ x ∈ A, x ∈ L) : A.Sublist L := by
  have e : A = L.filter fun x => decide (x ∈ A) := srt_ext s (P.srt.sublist List.filter_sublist) fun x => by
    rw [List.mem_filter, decide_eq_true_iff]
    exact ⟨fun q => ⟨h x q, q⟩, fun q => q.2⟩
  rw [e]; exact List.filter_sublist
theorem mem_frees (P : Po lies L) {A : List Int} : A ∈ frees lies L ↔ A.Pairwise (· < ·) ∧ (∀ x ∈ A, x ∈ L) ∧ Anti lies A := by
  unfold frees
  rw [List.mem_filter, mem_subs, allBy_iff]
  constructor
  · rintro ⟨s, h⟩
    have hA : ∀ x ∈ A, x ∈ L := fun x hx => s.subset hx
    refine ⟨sub_srt P s, hA, fun x hx y hy => ?_⟩
    obtain ⟨i, hi, rfl⟩ := List.mem_iff_getElem.mp hx
    obtain ⟨j, hj, rfl⟩ := List.mem_iff_getElem.mp hy
    have q := List.pairwise_iff_getElem.mp h
    rcases Nat.lt_trichotomy i j with lt | rfl | lt
    · have := q i j hi hj lt
      unfold apB at this
      simp at this
      exact this.2
    · exact irr P (hA _ hx)
    · have := q j i hj hi lt
      unfold apB at this
      simp at this
      exact this.1.2
  · rintro ⟨s, hA, a⟩
    refine ⟨sub_of P s hA, List.pairwise_iff_getElem.mpr fun i j hi hj lt => ?_⟩
    have := List.pairwise_iff_getElem.mp s i j hi hj lt
    unfold apB
    rw [a _ (List.getElem_mem hi) _ (List.getElem_mem hj), a _ (List.getElem_mem hj) _ (List.getElem_mem hi), decide_eq_true (show A[j] ≠ A[i] by omega)]
    rfl
theorem rows_le (P : Po lies L) {A : List Int} (h : A ∈ rows lies L) : A.length ≤ hgt lies L L := by
  unfold rows at h
  rw [List.mem_filter, mem_subs, allBy_iff] at h
  obtain ⟨s, h⟩ := h
  have hA : ∀ x ∈ A, x ∈ L := fun x hx => s.subset hx
  have up : (A.map (fl lies L)).Pairwise (· < ·) := by
    rw [List.pairwise_map, List.pairwise_iff_getElem]
    intro i j hi hj lt
    have q := List.pairwise_iff_getElem.mp h i j hi hj lt
    have z := List.pairwise_iff_getElem.mp (sub_srt P s) i j hi hj lt
    have mi := hA _ (List.getElem_mem hi)
    have mj := hA _ (List.getElem_mem hj)
    refine fl_lt P mj mi ?_
    cases e : lies A[j] A[i] with
    | true => rfl
    | false =>
      have e2 : lies A[i] A[j] = false := by
        cases e2 : lies A[i] A[j] with
        | false => rfl
        | true => have := P.lt _ mi _ e2; omega
      unfold apB at q
      rw [e, e2, decide_eq_true (show A[j] ≠ A[i] by omega)] at q
      cases q
  have := nodup_len_le (m := List.range (hgt lies L L)) (up.imp fun h => Nat.ne_of_lt h) fun x hx => by
    obtain ⟨y, hy, rfl⟩ := List.mem_map.mp hx
    exact List.mem_range.mpr (hgt_lt (hA y hy))
  rw [List.length_map, List.length_range] at this
  exact this
theorem longest_chain (P : Po lies L) : ∀ j i x y, (longest lies L)[i]? = some x → (longest lies L)[i + j + 1]? = some y → lies y x = true := by
  have g := longest_ok P
  intro j
  induction j with
  | zero => exact fun i x y h1 h2 => g.ch i x y h1 h2
  | succ j ih =>
    intro i x y h1 h2
    have lt := (List.getElem?_eq_some_iff.mp h2).1
    have lt' : i + j + 1 < (longest lies L).length := by omega
    have h3 := List.getElem?_eq_getElem lt'
    exact P.tr _ _ _ (g.at_ _ _ h2).1 (g.at_ _ _ h3).1 (g.at_ _ _ h1).1 (g.ch _ _ _ h3 h2) (ih i x _ h1 h3)
theorem longest_mem (P : Po lies L) : longest lies L ∈ rows lies L := by
  have g := longest_ok P
  have c : (longest lies L).Pairwise fun o x => lies x o = true := List.pairwise_iff_getElem.mpr fun i j hi hj lt => by
    obtain ⟨d, rfl⟩ : ∃ d, j = i + d + 1 := ⟨j - i - 1, by omega⟩
    exact longest_chain P d i _ _ (List.getElem?_eq_getElem hi) (List.getElem?_eq_getElem hj)
  have hA : ∀ x ∈ longest lies L, x ∈ L := fun x hx => by
    obtain ⟨i, hi, rfl⟩ := List.mem_iff_getElem.mp hx
    exact (g.at_ i _ (List.getElem?_eq_getElem hi)).1
  unfold rows
  rw [List.mem_filter, mem_subs, allBy_iff]
  refine ⟨sub_of P (c.imp_of_mem fun {a b} ha hb h => P.lt b (hA b hb) a h) hA, c.imp fun {a b} h => ?_⟩
  unfold apB
  rw [h]; simp
theorem rows_max (P : Po lies L) : maxi ((rows lies L).map List.length) = hgt lies L L := by
  have e : (longest lies L).length = hgt lies L L := (longest_ok P).len
  refine Nat.le_antisymm (maxi_lub fun y hy => ?_) ?_
  · obtain ⟨A, hA, rfl⟩ := List.mem_map.mp hy
    exact rows_le P hA
  · rw [← e]; exact maxi_le (List.mem_map.mpr ⟨_, longest_mem P, rfl⟩)
end
section
variable {s : HS}
def HS.best (s : HS) : List (List Int) := (frees s.lies s.linked).filter fun A => decide (A.length = s.freeL.length)
theorem frees_max (G : Good s) : maxi ((frees s.lies s.linked).map List.length) = s.freeL.length := by
  refine Nat.le_antisymm (maxi_lub fun y hy => ?_) (maxi_le (List.mem_map.mpr ⟨_, (mem_frees G.po).mpr (freeL_ok G), rfl⟩))
  obtain ⟨A, hA, rfl⟩ := List.mem_map.mp hy
  obtain ⟨h1, h2, h3⟩ := (mem_frees G.po).mp hA
  exact free_max G h3 (h1.imp fun h => Int.ne_of_lt h) h2
theorem mem_best (G : Good s) {A : List Int} : A ∈ s.best ↔ (A.Pairwise (· < ·) ∧ (∀ x ∈ A, x ∈ s.linked) ∧ Anti s.lies A) ∧ A.length = s.freeL.length := by
  unfold HS.best
  rw [List.mem_filter, mem_frees G.po, decide_eq_true_iff]
theorem best_free (G : Good s) : s.freeL ∈ s.best := (mem_best G).mpr ⟨freeL_ok G, rfl⟩
/-- how many of the greatest have the thing -/
def HS.cnt (s : HS) (x : Int) : Nat := (s.best.filter fun A => decide (x ∈ A)).length
def HS.due (s : HS) (x : Int) : Nat := if s.cnt x = s.best.length then 2 else if s.cnt x = 0 then 0 else 1
theorem cnt_zero (G : Good s) {x : Int} (hx : x ∈ s.linked) : s.cnt x = 0 ↔ (s.withF x).length + 1 < s.freeL.length := by
  unfold HS.cnt
  rw [List.length_eq_zero_iff, List.filter_eq_nil_iff]
  constructor
  · intro h
    rcases Nat.lt_or_ge ((s.withF x).length + 1) s.freeL.length with q | q
    · exact q
    · obtain ⟨h1, h2, h3, h4⟩ := withL_ok G hx
      have e : (s.withL x).length = s.freeL.length := Nat.le_antisymm (by rw [withL_len G hx]; exact with_le G hx) (by rw [withL_len G hx]; exact q)
      exact absurd (decide_eq_true h4) (h _ ((mem_best G).mpr ⟨⟨h1, h2, h3⟩, e⟩))
  · intro h A hA hd
    obtain ⟨⟨h1, h2, h3⟩, e⟩ := (mem_best G).mp hA
    have := with_max G h3 (h1.imp fun h => Int.ne_of_lt h) h2 (of_decide_eq_true hd)
    omega
theorem cnt_all (G : Good s) {x : Int} : s.cnt x = s.best.length ↔ (s.lessF x).length < s.freeL.length := by
  unfold HS.cnt
  rw [List.length_filter_eq_length_iff]
  constructor
  · intro h
    rcases Nat.lt_or_ge (s.lessF x).length s.freeL.length with q | q
    · exact q
    · obtain ⟨h1, h2, h3, _, _⟩ := partF_ok (rest_po G x)
      have e : (s.lessF x).length = s.freeL.length := Nat.le_antisymm (less_le G x) q
      exact absurd (of_decide_eq_true (h (s.lessF x) ((mem_best G).mpr ⟨⟨h1, fun y hy => (List.mem_filter.mp (h2 y hy)).1, h3⟩, e⟩))) (less_not G x)
  · intro h A hA
    obtain ⟨⟨h1, h2, h3⟩, e⟩ := (mem_best G).mp hA
    refine decide_eq_true ?_
    by_cases q : x ∈ A
    · exact q
    · have := less_max G h3 (h1.imp fun h => Int.ne_of_lt h) h2 q
      omega
theorem cnt_both (G : Good s) {x : Int} : ¬ (s.cnt x = 0 ∧ s.cnt x = s.best.length) := fun ⟨h1, h2⟩ => by
  have := List.length_pos_iff.mpr (List.ne_nil_of_mem (best_free G))
  omega
end
end FL

set_option maxHeartbeats 4000000
/-! A captured cell, known: a comprehension entered with it, a call of a function that has captured it. -/
namespace FW
open PySem PySem.Spec PyProof.Rows L2 LamX NdefX
/-- the object at c is o, a cell that holds v -/
def CellO (c : Addr) (v : V) (o : Obj) : HO := .frz o (.ext fun _ => ∃ u, RelV v u ∧ o.data = .cell (some u))
/-- nothing is known at c -/
def unc (H : Hp) (c : Addr) : Hp := fun b => if b = c then none else H b
theorem unc_same {H : Hp} {c : Addr} : unc H c c = none := if_pos rfl
theorem unc_ne {H : Hp} {b c : Addr} (h : b ≠ c) : unc H c b = H b := if_neg h
theorem unc_id {H : Hp} {c : Addr} (h : H c = none) : unc H c = H := by
  funext b
  by_cases e : b = c
  · rw [e, unc_same, h]
  · exact unc_ne e
theorem unc_upd {H : Hp} {c : Addr} {x : HO} (h : H c = none) : unc (upd H c x) c = H := by
  funext b
  by_cases e : b = c
  · rw [e, unc_same, h]
  · rw [unc_ne e, upd_ne e]
section
variable {P : Program} {w : World} {H H' : Hp} {h h' : Heap} {c : Addr} {v : V} {o : Obj} {fs ex : List Addr}
theorem hok_unc (k : HOk P w H h) (hc : H c = some (CellO c v o)) : HOk P w (unc H c) h := fun b u e => by
  have nb : b ≠ c := fun z => by rw [z, unc_same] at e; cases e
  rw [unc_ne nb] at e
  refine (k b u e).stay (fun _ _ _ q => q) (fun d q => ?_) fun d xs q => ?_
  · rw [unc_ne fun z => by rw [z, hc] at q; cases q]; exact q
  · rw [unc_ne fun z => by rw [z, hc] at q; cases q]; exact q
theorem hok_held (k : HOk P w H h) (hn : H c = none) (ho : h.get? c = some o) (hv : ∃ u, RelV v u ∧ o.data = .cell (some u)) : HOk P w (upd H c (CellO c v o)) h := fun b u e => by
  by_cases nb : b = c
  · rw [nb, upd_same] at e
    cases e
    rw [nb]
    exact ⟨ho, hv, ⟨o, ho⟩, fun _ _ z _ => z⟩
  · rw [upd_ne nb] at e
    refine (k b u e).stay (fun _ _ _ q => q) (fun d q => ?_) fun d xs q => ?_
    · rw [upd_ne (ne_of_none q hn)]; exact q
    · rw [upd_ne (ne_of_none q hn)]; exact q
theorem held_at (k : HOk P w H h) (hc : H c = some (CellO c v o)) : h.get? c = some o ∧ ∃ u, RelV v u ∧ o.data = .cell (some u) := by
  obtain ⟨e, z, _⟩ := k c _ hc
  exact ⟨e, z⟩
/-- a call that knew nothing of the cell has kept it -/
theorem un_call (u : Un fs ex (unc H c) H' h h') (hc : H c = some (CellO c v o)) : Un fs ex H (upd H' c (CellO c v o)) h h' := by
  have nn : ∀ b, H b = none → unc H c b = none ∧ b ≠ c := fun b n => by
    have nb : b ≠ c := fun z => by rw [z, hc] at n; cases n
    exact ⟨(unc_ne nb).trans n, nb⟩
  refine ⟨fun b ob q n => u.keep b ob q (nn b n).1, fun b ob q n => u.slot b ob q (nn b n).1, fun b ob q n hx => ?_, u.there, fun b xs q => ?_, fun b ob y q => ?_, fun b ps q => ?_⟩
  · rw [upd_ne (nn b n).2]; exact u.free b ob q (nn b n).1 hx
  · have nb : b ≠ c := fun z => by rw [z, hc] at q; cases q
    rw [upd_ne nb]; exact u.tups b xs ((unc_ne nb).trans q)
  · by_cases nb : b = c
    · rw [nb, hc] at q
      rw [nb, upd_same, q]
    · rw [upd_ne nb]; exact u.frzs b ob y ((unc_ne nb).trans q)
  · have nb : b ≠ c := fun z => by rw [z, hc] at q; cases q
    rw [upd_ne nb]; exact u.tbls b ps ((unc_ne nb).trans q)
/-- the cell is known from here on -/
theorem un_held (u : Un fs ex H H' h h') (hc : H c = none) (hc' : H' c = none) : Un fs ex (upd H c (CellO c v o)) (upd H' c (CellO c v o)) h h' := by
  have nn : ∀ b, upd H c (CellO c v o) b = none → H b = none ∧ b ≠ c := fun b n => by
    have nb : b ≠ c := fun z => by rw [z, upd_same] at n; cases n
    exact ⟨(upd_ne nb).symm.trans n, nb⟩
  refine ⟨fun b ob q n => u.keep b ob q (nn b n).1, fun b ob q n => u.slot b ob q (nn b n).1, fun b ob q n hx => ?_, u.there, fun b xs q => ?_, fun b ob y q => ?_, fun b ps q => ?_⟩
  · rw [upd_ne (nn b n).2]; exact u.free b ob q (nn b n).1 hx
  · have nb : b ≠ c := fun z => by rw [z, upd_same] at q; cases q
    rw [upd_ne nb] at q ⊢; exact u.tups b xs q
  · by_cases nb : b = c
    · rw [nb, upd_same] at q
      rw [nb, upd_same, q]
    · rw [upd_ne nb] at q ⊢; exact u.frzs b ob y q
  · have nb : b ≠ c := fun z => by rw [z, upd_same] at q; cases q
    rw [upd_ne nb] at q ⊢; exact u.tbls b ps q
/-- .. and forgotten at the end -/
theorem un_left (u : Un fs ex (upd H c (CellO c v o)) H' h h') (hn : H c = none) (ho : h.get? c = some o) (k : HOk P w H' h') : H' c = some (CellO c v o) ∧ Un fs ex H (unc H' c) h h' := by
  have hc : H' c = some (CellO c v o) := u.frzs c o _ upd_same
  have at_ := (held_at k hc).1
  refine ⟨hc, fun b ob q n hb hx => ?_, fun b ob q n hb hx => ?_, fun b ob q n hx => ?_, u.there, fun b xs q => ?_, fun b ob y q => ?_, fun b ps q => ?_⟩
  · by_cases nb : b = c
    · rw [nb] at q ⊢; rw [ho] at q; cases q; exact at_
    · exact u.keep b ob q ((upd_ne nb).trans n) hb hx
  · by_cases nb : b = c
    · rw [nb] at q ⊢; rw [ho] at q; cases q; exact ⟨_, at_⟩
    · exact u.slot b ob q ((upd_ne nb).trans n) hb hx
  · by_cases nb : b = c
    · rw [nb]; exact unc_same
    · rw [unc_ne nb]; exact u.free b ob q ((upd_ne nb).trans n) hx
  · have nb := ne_of_none q hn
    rw [unc_ne nb]; exact u.tups b xs ((upd_ne nb).trans q)
  · have nb := ne_of_none q hn
    rw [unc_ne nb]; exact u.frzs b ob y ((upd_ne nb).trans q)
  · have nb := ne_of_none q hn
    rw [unc_ne nb]; exact u.tbls b ps ((upd_ne nb).trans q)
end
/-- f(..), f a name that holds a function, whose one captured cell is known -/
def tCallC (ok : NF → Prop) (fr : Str) (i : Nat) (sp : NF → List (Option V) → Sp) (t : TA) : TE := fun σ H Q => ∃ (f : Addr) (F : NF), σ[i]? = some (some (.ref f)) ∧ H f = some (FnO f F) ∧ t σ H fun vs H1 => H1 f = some (FnO f F) ∧ H1 F.c = some (CodeO F.c F.qual) ∧ ok F ∧
  ∃ (c : Addr) (v : V) (o : Obj), F.cl = [(fr, c)] ∧ H1 c = some (CellO c v o) ∧ sp F [some v] vs (unc H1 c) (fun r H2 => Q r (upd H2 c (CellO c v o))) fun _ _ _ => False
section
variable {X : Cx} {CX : CXT} {ok : NF → Prop} {ps : List Str} {fr : Str} {i j k : Nat} {x : Str} {sp : NF → List (Option V) → Sp} {t : TA} {e : Expr} {es : List Expr} {p pos : Pos}
theorem pe_callC (Fn : ∀ f F, ok F → NOk X.prog X.w X.K X.mg X.base CX k f F ps [fr] (sp F)) (hCX : ∀ l H s e s', CX l H s (fun _ _ _ => False) e s' → False) (hr : Room j X.A) (hk : k ≤ j) (hN : X.N[i]? = some x) (hv : Vis X.env.scope x) (ha : PA X (e :: es) t)
    (hd : (x == ("__debug__" : Str)) = false := by decide) (hcd : (x == ("__classdict__" : Str)) = false := by decide)
    (he : starEach (e :: es) X.env = (false, eval e X.env) :: starEach es X.env := by rfl) (hpl : (backTo pos (starEach es X.env)).any (·.1) = false := by rfl) :
    PE X (.Call (.Name x p) (e :: es) [] pos) (tCallC ok fr i sp t) := by
  refine ⟨fun pins s σ H Q I ⟨f, F, hs, hf, ht⟩ => wpAny_Call_Name_kw (thn ((pe_var (pos := p) hN hv hd hcd).run pins s σ H (fun v H1 => v = .ref f ∧ H1 = H) I ⟨.ref f, hs, rfl, rfl⟩) fun u s1 ⟨v, H1, I1, r1, ev, eH⟩ => ?_)⟩
  subst ev eH
  obtain rfl : u = Value.ref f := r1
  refine PySem.W.callWith_F (first := []) (fnAt_of I1 hf) (thn (ha.run pos pins s1 σ _ _ I1 ht) fun us s2 ⟨vs, H2, I2, r, h1, h2, hok, c, w, o, hcl, hc, q⟩ => ⟨fnAt_of I2 h1, ?_⟩) he hpl
  show wpAny _ _ (call (.ref f) us) _ _ _
  obtain ⟨at_, y, ry, dy⟩ := held_at I2.hok hc
  have nf : f ≠ c := ne_of h1 hc (by unfold FnO CellO; exact fun z => nomatch z)
  have nF : F.c ≠ c := ne_of h2 hc (by unfold CodeO CellO; exact fun z => nomatch z)
  have e0 := I2.env0
  have e1 : Env0 X.prog X.w X.K X.mg X.base X.A X.stack s2 (unc H2 c) := ⟨e0.frames, e0.mod, fun b u q => ⟨(e0.bs b u q).1, by
      by_cases z : b = c
      · rw [z]; exact unc_same
      · rw [unc_ne z]; exact (e0.bs b u q).2⟩, e0.bsz, e0.funs, fun b hb => by
      by_cases z : b = c
      · rw [z]; exact unc_same
      · rw [unc_ne z]; exact e0.frf b hb, hok_unc e0.hok hc, e0.bare⟩
  have C : CellsAt F.cl [fr] [some w] s2.heap (unc H2 c) := by
    have one : ∀ {y : Str} {a : Addr}, F.cl.lookup y = some a → y = fr ∧ a = c := fun {y a} q => by
      rw [hcl, List.lookup_cons] at q
      split at q
      · rename_i z; cases q; exact ⟨beq_iff_eq.mp z, rfl⟩
      · cases q
    refine ⟨rfl, fun y a q => ?_, fun y z a q1 q2 => (one q1).1.trans (one q2).1.symm, fun n y q => ?_⟩
    · rw [(one q).2]; exact ⟨unc_same, _, o, at_, dy⟩
    · cases n with
      | zero =>
        obtain rfl : fr = y := Option.some.inj q
        exact ⟨c, by rw [hcl, List.lookup_cons]; simp, fun v ev => by
          obtain rfl : w = v := Option.some.inj (Option.some.inj ev)
          exact ⟨_, ry, o, at_, dy⟩⟩
      | succ n => cases q
  refine wpAny_call (codeAny_mono ((Fn f F hok).run X.A X.stack s2 (unc H2 c) us vs [some w] _ _ (hr.mono hk) e1 ((unc_ne nf).trans h1) ((unc_ne nF).trans h2) C r q) fun r s' hq => ?_)
  cases r with
  | error e => exact (hCX _ _ _ _ _ hq).elim
  | ok fl =>
    cases fl with
    | ret u =>
      obtain ⟨v', H', os, bare, un, hok', r', q'⟩ := hq
      have hn : H' c = none := un.free c o at_ unc_same (by simp)
      have at' := un.keep c o at_ unc_same (fun z => by
        have q := I2.stkFree c z
        rw [hc] at q; cases q) (by simp)
      exact I2.after ⟨v', _, os, bare, un_call un hc, hok_held hok' hn at' ⟨y, ry, dy⟩, r', q'⟩
    | next => exact False.elim hq
    | brk => exact False.elim hq
    | cont => exact False.elim hq
end
/-! ### a comprehension entered with the cell known -/
/-- a state of a block in which the cell is known too -/
theorem inv_held {Y : Cx} {σ : L2.St} {H : Hp} {s : Shared} {c : Addr} {v : V} {o : Obj} (I : Inv Y [] σ H s) (hp : Y.pn = []) (h0 : Y.H_0 c = none) (hn : H c = none) (hs : Y.s_0.heap.get? c = some o) (ho : s.heap.get? c = some o) (hv : ∃ u, RelV v u ∧ o.data = .cell (some u))
    (nl : c ≠ Y.env.locals) (nc : ∀ x a, Y.env.cells.lookup x = some a → a ≠ c) (nb : ∀ u, Y.base.get? c ≠ some u) (nf : c ∉ Y.fs) : Inv { Y with H_0 := upd Y.H_0 c (CellO c v o) } [] σ (upd H c (CellO c v o)) s := by
  have k := I.ok
  refine ⟨⟨k.mod, k.kind, k.glob, k.blt, k.above, k.inj, k.has, k.cab, k.hd, k.frames, k.stk, k.exf, fun b u q => ⟨(k.bs b u q).1, ?_⟩, k.bsz, k.noex, k.exfs, k.funs, fun b hb => ?_⟩, I.os, I.bare, un_held I.base h0 hn, I.loc, I.cell, ?_, fun x a q => ?_, fun p hq => ?_, hok_held I.hok hn ho hv, I.len⟩
  · show upd Y.H_0 c _ b = none
    rw [upd_ne fun z => nb u (by rw [← z]; exact q)]; exact (k.bs b u q).2
  · show upd Y.H_0 c _ b = none
    rw [upd_ne fun z => nf (by rw [← z]; exact hb)]; exact k.frf b hb
  · show upd H c _ Y.env.locals = none
    rw [upd_ne (Ne.symm nl)]; exact I.free
  · show upd H c _ a = none
    rw [upd_ne (nc x a q)]; exact I.freeC x a q
  · have hq : p ∈ Y.pn ++ [] := hq
    rw [hp] at hq; cases hq
/-- y = [elt for tg in iter if ..], y a local, with what the cell of nm (slot j) holds known within -/
def tLcC (nm : Str) (cs : List (Str × Addr)) (j : Nat) (wi : TI) (g : TG) (tt : TT) (te : TE) (vs : List Nat) : TE := fun σ H Q => ∃ v, σ[j]? = some (some v) ∧ wi σ H fun J H1 => ∀ c o, cs.lookup nm = some c → H1 c = none → ∀ D, H1 D = none → D ≠ c →
  ∃ W : Nat → Nat → Hp → Prop, (∃ m, W 0 m (upd (upd H1 D (.lst [])) c (CellO c v o))) ∧ ∀ i m H2, W i m H2 → (J.stop i H2 ∧ (H2 c = some (CellO c v o) → Q (.ref D) (unc H2 c))) ∨
    (J.go i H2 ∧ ∃ Nx : Hp → Prop, (∀ H', Nx H' → ∃ m', m' < m ∧ W (i + 1) m' H') ∧ ∀ x H', J.yld i H2 x H' → g x (wipe σ vs) H' fun σ2 H3 => wipe σ2 vs = wipe σ vs ∧ tt σ2 H3 fun b H4 =>
      if b = true then te σ2 H4 fun y H5 => ∃ acc, H5 D = some (.lst acc) ∧ acc.length < sizeLine ∧ Nx (upd H5 D (.lst (acc ++ [y]))) else Nx H4)
theorem ps_setLcC {X : Cx} {nm : Str} {j i : Nat} {y : Str} {py : Pos} {elt tg iter : Expr} {ifs : List Expr} {scope : Scope} {own : List (Str × Nat)} {pos spos : Pos} {wi : TI} {g : TG} {tt : TT} {te : TE} (hc : X.calm = true) (hN : X.N.Nodup) (hy : X.N[i]? = some y) (hyl : X.env.scope.names.lookup y = some .local)
    (hsw : swapsWith (.ListComp elt [⟨tg, iter, ifs, 0⟩] scope pos) (some (.Name y py)) spos.line X.env = pure true) (hj : X.N[j]? = some nm) (hnm : X.env.scope.names.lookup nm = some .cell) (hfn : X.fn nm = true) (hno : ∀ z ∈ scope.names, z.2 = .free → z.1 ≠ nm) (hi : PI X tg iter wi) (ok : BlkOk X.N X.env.scope scope own)
    (hg : ∀ (s : Shared) (H : Hp) (C : Addr) (cl : List (Str × Addr)) (fp : List Addr), PG (X.blk s H scope (compEnvC scope cl C X.env) fp) tg g) (ht : ∀ (s : Shared) (H : Hp) (C : Addr) (cl : List (Str × Addr)) (fp : List Addr), PTs (X.blk s H scope (compEnvC scope cl C X.env) fp) ifs tt)
    (he : ∀ (s : Shared) (H : Hp) (C : Addr) (cl : List (Str × Addr)) (fp : List Addr), PE (X.blk s H scope (compEnvC scope cl C X.env) fp) elt te) (hs : ∀ x, foldedSetIterable iter X.env x = pure x := by intro _; rfl) :
    PS X (.Assign [.Name y py] (.ListComp elt [⟨tg, iter, ifs, 0⟩] scope pos) spos) (tAsg (tLcC nm X.env.cells j wi g tt te (own.map (·.2))) (gName i)) := by
  refine ⟨fun pins s σ H D I h => ?_⟩
  rw [exec_Assign_Name_used _ _ _ _ hsw]
  refine wpAny_bind (wpAny_standAt (wpAny_bind ?_))
  show wpAny _ X.A (do let _ ← comprehension (.ListComp elt [⟨tg, iter, ifs, 0⟩] scope pos) scope X.env (firstIterPos [⟨tg, iter, ifs, 0⟩] pos) (newList []) false (eval iter X.env) (some (assign (.Name y py) X.env))) _ _ s
  obtain ⟨v, hv, h⟩ := (show tLcC nm X.env.cells j wi g tt te (own.map (·.2)) σ H (fun x H1 => gName i x σ H1 D.nx) from h)
  have cap : ∀ z ∈ scope.names, z.2 = .free → ∃ a, X.env.cells.lookup z.1 = some a := fun z hz e => (ok.free z hz e).elim (fun q => I.ok.has _ (.inl q)) fun q => I.ok.has _ (.inr q)
  suffices core : wpAny (model X.prog X.w) X.A (comprehension (.ListComp elt [⟨tg, iter, ifs, 0⟩] scope pos) scope X.env (firstIterPos [⟨tg, iter, ifs, 0⟩] pos) (newList []) false (eval iter X.env) (some (assign (.Name y py) X.env))) (fun _ s' => SP X pins D .next s') X.xe s from
    wpAny_bind (thn core fun _ s' hq => wpAny_pure (wpAny_pure hq))
  refine wpAny_comprehension_free rfl hs (closure_ok cap) ok.kind (fun z hz e => by rw [ok.uniq z hz, e]) (thn (hi.run pins s σ H _ I h) fun xv s1 hx => thn hx fun itv s2 ⟨it, fp, tn, J, H2, e, I2, T, t2, f2, q⟩ => ?_)
  subst e
  refine wpAny_newObj_type (newEnv_comp ?_) (by show 0 ≤ sizeLine; decide)
  -- the cell
  obtain ⟨c, hcl⟩ := I2.ok.has nm (.inl hnm)
  obtain ⟨mm, hns, look⟩ := I2.loc
  obtain ⟨u, ru, hu⟩ := look j nm v hj hv (.inr (.inl hnm))
  obtain ⟨o, ho, hod⟩ : ∃ o, s2.heap.get? c = some o ∧ o.data = .cell (some u) := by
    rcases hu with ⟨k, _⟩ | ⟨_, c', e', z⟩
    · have k : X.env.scope.names.lookup nm = some .local := k
      rw [hnm] at k; cases k
    · rw [hcl] at e'; cases e'; exact z
  have holds : ∃ u, RelV v u ∧ o.data = .cell (some u) := ⟨u, ru, hod⟩
  have above := I2.ok.cab nm c hfn hcl
  have c2 : H2 c = none := I2.freeC nm c hcl
  have cL2 := I2.cne nm c hcl
  -- the new list
  generalize hL : s2.heap.objs.size = L
  have nL : H2 L = none := I2.hok.fresh (Nat.le_of_eq hL)
  have Lc : L ≠ c := fun z => Nat.lt_irrefl _ (Nat.lt_of_lt_of_le (Heap.lt_size ho) (by rw [hL, z]; exact Nat.le_refl _))
  obtain ⟨W, ⟨m0, w0⟩, turn⟩ := q c o hcl c2 L nL Lc
  have h3 : ({ s2 with heap := s2.heap.push { cls := .type "list", data := .seq ([] : List Value).toArray } } : Shared).heap = s2.heap.push { cls := .type "list", data := .seq ([] : List Value).toArray } := rfl
  have I3 : Inv X pins σ (upd H2 L (.lst [])) { s2 with heap := s2.heap.push { cls := .type "list", data := .seq ([] : List Value).toArray } } := I2.laid (t' := s2.toks) (fun b u e => Heap.get?_push_of_some _ e) (Nat.le_of_eq hL) ⟨Nat.zero_le _, [], 0, .nil, by rw [← hL]; exact Heap.get?_push_size _ rfl⟩
  generalize ({ s2 with heap := s2.heap.push { cls := .type "list", data := .seq ([] : List Value).toArray } } : Shared) = s3 at h3 I3 ⊢
  have c3 : (upd H2 L (.lst [])) c = none := (upd_ne (Ne.symm Lc)).trans c2
  have f3 : ∀ b ∈ fp, FpOk X pins (upd H2 L (.lst [])) b ∧ b < s3.heap.objs.size := fun b hb => by
    obtain ⟨ob, eb, _⟩ := T.obj _ _ t2 b hb
    have lt := Heap.lt_size eb
    refine ⟨⟨(upd_ne (by rw [← hL]; exact Nat.ne_of_lt lt)).trans (f2 b hb).1, (f2 b hb).2⟩, ?_⟩
    rw [h3, Heap.size_push]; exact Nat.lt_succ_of_lt lt
  have t3 : tn 0 s3.heap := T.keep _ _ _ t2 fun b _ ob e => by rw [h3]; exact Heap.get?_push_of_some _ e
  have o3 : s3.heap.get? c = some o := by rw [h3]; exact Heap.get?_push_of_some _ ho
  generalize upd H2 L (.lst []) = H3 at I3 c3 f3 w0
  have B0 := block_start I3 ok hN f3
  -- the block's own context
  generalize hcs : cellsFrom (s3.heap.objs.size + 1) scope.names (cloFrom X.env.cells scope.names []) = cs at B0
  have ncs : ∀ x a, cs.lookup x = some a → a ≠ c := fun x a e z => by
    rw [← hcs, ← Heap.size_push s3.heap { cls := .type "dict", data := .dict #[] }] at e
    rcases cells_mem (PySem.mem_of_lookup e) with hm | ⟨_, ge, _⟩
    · rcases cloFrom_mem hm with hm | ⟨hm, ea⟩
      · cases hm
      · obtain ⟨a', ha'⟩ := cap _ hm rfl
        rw [ha'] at ea
        have ea : a = a' := ea
        exact hno _ hm rfl (I.ok.inj _ _ c (by rw [ha', ← ea, z]) hcl)
    · rw [z, Heap.size_push] at ge
      exact Nat.lt_irrefl _ (Nat.lt_of_lt_of_le (Heap.lt_size o3) (Nat.le_of_succ_le ge))
  have hg' := hg s3 (upd H3 c (CellO c v o)) s3.heap.objs.size cs fp
  have ht' := ht s3 (upd H3 c (CellO c v o)) s3.heap.objs.size cs fp
  have he' := he s3 (upd H3 c (CellO c v o)) s3.heap.objs.size cs fp
  show codeAny _ _ (.compStart _ 0 (.ref it) (.ref L) (compEnvC scope cs s3.heap.objs.size X.env)) (compPost (model X.prog X.w) X.A X.xe _ _ (.ref L) s3.heap.objs.size) { s3 with heap := pushCells (s3.heap.push { cls := .type "dict", data := .dict #[] }) scope.names }
  have t4 : tn 0 (pushCells (s3.heap.push { cls := .type "dict", data := .dict #[] }) scope.names) := T.keep _ _ _ t3 fun b _ ob e => pushCells_keeps _ _ _ _ (Heap.get?_push_of_some _ e)
  have o4 : (pushCells (s3.heap.push { cls := .type "dict", data := .dict #[] }) scope.names).get? c = some o := pushCells_keeps _ _ _ _ (Heap.get?_push_of_some _ o3)
  have cE : (compEnvC scope cs s3.heap.objs.size X.env).locals = s3.heap.objs.size := rfl
  have cC : (compEnvC scope cs s3.heap.objs.size X.env).cells = cs := rfl
  have B := inv_held (c := c) (v := v) (o := o) B0 rfl c3 c3 o3 o4 holds (by rw [show (X.blk s3 H3 scope (compEnvC scope cs s3.heap.objs.size X.env) fp).env.locals = s3.heap.objs.size from rfl]; exact Nat.ne_of_lt (Heap.lt_size o3)) ncs
    (fun u e => Nat.lt_irrefl _ (Nat.lt_of_lt_of_le (Heap.lt_size e) (Nat.le_trans I.ok.bsz above))) fun z => by
      rcases List.mem_cons.mp (I3.stkSub c z) with z | z
      · exact cL2 z
      · obtain ⟨_, ob, e, _⟩ := I.ok.funs.mem z
        exact Nat.lt_irrefl _ (Nat.lt_of_lt_of_le (Heap.lt_size e) above)
  generalize compEnvC scope cs s3.heap.objs.size X.env = ce at hg' ht' he' B B0 cE cC ⊢
  generalize hs4 : ({ s3 with heap := pushCells (s3.heap.push { cls := .type "dict", data := .dict #[] }) scope.names } : Shared) = s4 at B ⊢
  have s4t : tn 0 s4.heap := by rw [← hs4]; exact t4
  have B : Inv (X.blk s3 (upd H3 c (CellO c v o)) scope ce fp) [] (wipe σ (own.map (·.2))) (upd H3 c (CellO c v o)) s4 := B
  have n4 : ∀ b ∈ fp, (upd H3 c (CellO c v o)) b = none := fun b hb => (upd_ne fun z => (f3 b hb).1.2.2.2.2.1 nm c hcl z.symm).trans (f3 b hb).1.1
  have fin : ∀ (σ' : L2.St) (H' : Hp) (s' : Shared), Inv (X.blk s3 (upd H3 c (CellO c v o)) scope ce fp) [] σ' H' s' → (H' c = some (CellO c v o) → gName i (.ref L) σ (unc H' c) D.nx) →
      wpAny (model X.prog X.w) X.A (assign (.Name y py) X.env (.ref L)) (fun _ s'' => ∃ m, s''.heap.Ns s3.heap.objs.size m ∧ ∀ h', Heap.SameBut s3.heap.objs.size s''.heap h' → SP X pins D .next { s'' with heap := h' }) X.xe s' := fun σ' H' s' J k => by
    obtain ⟨hc', un⟩ := un_left J.base c3 o3 J.hok
    have J0 : Inv X pins σ (unc H' c) s' := I3.call' (ch := fp) J.os un (hok_unc J.hok hc') J.bare fun b hb => ⟨(f3 b hb).1.2.2.2.1, (f3 b hb).1.2.1, (f3 b hb).1.2.2.2.2.1, (f3 b hb).1.2.2.2.2.2⟩
    have nB : unc H' c s3.heap.objs.size = none := by
      by_cases z : s3.heap.objs.size = c
      · rw [z]; exact unc_same
      · rw [unc_ne z]
        have q : H' ce.locals = none := J.free
        rw [cE] at q; exact q
    obtain ⟨e0, e1, e2, e3, e4, e5⟩ := I3.fpOk (Nat.le_refl _) nB
    obtain ⟨m, hn, _⟩ := J.loc
    have hn : s'.heap.Ns ce.locals m := hn
    rw [cE] at hn
    refine wpAny_assign_Name (store_ok2 (v := V.ref L) J0 hN hy (.inl hyl) rfl (fun s5 J5 ⟨a, sb, ha⟩ => ⟨m, hn.sameBut sb ?_, fun h5 sb5 => ?_⟩) (.inr hyl))
    · rcases ha with z | z
      · rw [z]; exact e1
      · exact fun q => e4 y a z q.symm
    · exact ⟨_, unc H' c, J5.turned (t' := s5.toks) (fun b ob hb e => (sb5.2 b hb).trans e) e0 e1 e3 e4 e5, k hc'⟩
  generalize upd H3 c (CellO c v o) = Hc at B n4 hg' ht' he' w0 fin
  have sta : ∀ {σ' : L2.St} {H' : Hp} {s' : Shared}, Inv (X.blk s3 Hc scope ce fp) [] σ' H' s' → (∀ b ∈ fp, H' b = none) → ∀ b ∈ fp, FpOk (X.blk s3 Hc scope ce fp) [] H' b := fun {σ' H' s'} J n b hb =>
    ⟨n b hb, (J.ok.exf b hb).1, J.ok.exfs b hb, .inl hb, fun x a e => (J.ok.exf b hb).2 x a e, fun p hp => by cases (show p ∈ ([] : List (Addr × Obj)) from hp)⟩
  suffices loop : codeAny (model X.prog X.w) X.A (.compLoop (.ListComp elt [⟨tg, iter, ifs, 0⟩] scope pos) 0 (.ref it) (.ref L) ce) (compPost (model X.prog X.w) X.A X.xe (some (assign (.Name y py) X.env)) (fun _ s' => SP X pins D .next s') (.ref L) s3.heap.objs.size) s4 from
    codeAny_compStart_list loop (T.self X.A 0 _ _ _ s4t loop)
  refine compLoop_any (fun n s' => ∃ k H', Inv (X.blk s3 Hc scope ce fp) [] (wipe σ (own.map (·.2))) H' s' ∧ tn k s'.heap ∧ (∀ b ∈ fp, H' b = none) ∧ W k n H') ?_ m0 ⟨0, Hc, B, s4t, n4, w0⟩
  rintro n s5 ⟨k, H5, J5, t5, n5, w5⟩
  rcases turn k n H5 w5 with ⟨stop, qq⟩ | ⟨go, Nx, nxt, step⟩
  · exact thnF (T.done (X.blk s3 Hc scope ce fp) rfl rfl rfl hc k [] s5 _ H5 (fun _ _ => False) J5 (sta J5 n5) t5 stop) fun r s6 ⟨hr, J6⟩ => by
      subst hr
      exact fin _ _ _ J6 qq
  · refine thnF (T.item (X.blk s3 Hc scope ce fp) rfl rfl rfl hc k [] s5 _ H5 (fun _ _ => False) J5 (sta J5 n5) t5 go) fun r s6 ⟨u, hr, h6⟩ => ?_
    subst hr
    refine thnF h6 fun _ s7 ⟨x, H7, J7, r7, y7, t7, n7⟩ => ?_
    have ob7 := T.obj _ _ t7
    refine thnF (hg'.run _ s7 _ H7 x u _ (J7.pinned (sta J7 n7) ob7) r7 (step x H7 y7)) fun _ s8 ⟨σ8, H8, J8, w8, q8⟩ => ?_
    refine thnF (ht'.run _ s8 σ8 H8 _ J8 q8) fun b s9 ⟨H9, J9, q9⟩ => ?_
    have again : ∀ {s' : Shared} {H' : Hp}, Inv (X.blk s3 Hc scope ce fp) ([] ++ pinsAt fp s7.heap) σ8 H' s' → Nx H' → ∃ m, m < n ∧ ∃ k H', Inv (X.blk s3 Hc scope ce fp) [] (wipe σ (own.map (·.2))) H' s' ∧ tn k s'.heap ∧ (∀ b ∈ fp, H' b = none) ∧ W k m H' := fun {s' H'} J nx => by
      obtain ⟨m', lt, w'⟩ := nxt H' nx
      have at_ : ∀ b ∈ fp, ∀ ob, s7.heap.get? b = some ob → s'.heap.get? b = some ob ∧ H' b = none := fun b hb ob e => by
        obtain ⟨z1, z2, _⟩ := J.pin (b, ob) (List.mem_append_right _ (List.mem_append_right _ (mem_pinsAt hb e)))
        exact ⟨z1, z2⟩
      refine ⟨m', lt, k + 1, H', (J.unpinned (pins := [])).weak (by rw [← w8, wipe_length]) (fun a v' e => by rw [← w8] at e; exact (wipe_some e).1), T.keep _ _ _ t7 fun b hb ob e => (at_ b hb ob e).1, fun b hb => ?_, w'⟩
      obtain ⟨ob, e, _⟩ := ob7 b hb
      exact (at_ b hb ob e).2
    cases b with
    | false =>
      simp only [Bool.false_eq_true, if_false] at q9 ⊢
      exact again J9 q9
    | true =>
      simp only [if_true] at q9 ⊢
      exact thnF (he'.run _ s9 σ8 H9 _ J9 q9) fun z s10 ⟨yv, H10, J10, r10, acc, hD, lt, nx⟩ => app_ok (X := X.blk s3 Hc scope ce fp) J10 hD lt r10 fun s11 J11 => again J11 nx
end FW

set_option maxHeartbeats 4000000
/-! set(xs) of a list of whole numbers, as the set that sorted and len take. -/
namespace SL
open PySem PySem.Spec PyProof.Rows L2
section
variable {P : Program} {w : World} {A : Around} {E : Value → Shared → Prop} {s : Shared}
/-- the fresh set object -/
abbrev fresh0 (w : World) : Obj := { cls := .type "set", dict := none, data := .set #[] 0 (.fresh 0 0 (!w.params.followText "set-order")) }
theorem ints_at {items : Array Value} {ns : List Int} (hit : IntsAre items.toList ns) {i : Nat} {v : Value} (hv : items[i]? = some v) : ∃ k t, ns[i]? = some k ∧ v = .int k t := by
  have hsz : items.size = ns.length := by
    have q := IntsAre.length hit
    simpa using q
  have hi : i < ns.length := hsz ▸ (Array.getElem?_eq_some_iff.mp hv).1
  obtain ⟨t, e⟩ := PyProof.Rows.IntsAre.int_at hit i v (by rw [Array.getElem?_toList]; exact hv)
  exact ⟨ns[i], t, List.getElem?_eq_getElem hi, by rw [e, List.getD_eq_getElem?_getD, List.getElem?_eq_getElem hi]; rfl⟩
set_option maxHeartbeats 8000000 in
theorem call_setL {l : Addr} {items : Array Value} (ns : List Int) {Q : Value → Shared → Prop} (hh : A.handled = none) (hl : s.heap.IsList l items) (hit : IntsAre items.toList ns) (hb : ns.length + 1 < scanBound)
    (h : ∀ (h' : Heap) (tk n : Nat), SetR w h' s.heap.objs.size (fun j => decide (j ∈ ns)) n → n ≤ ns.length → (∀ b o, s.heap.get? b = some o → h'.get? b = some o) → Q (.ref s.heap.objs.size) { s with heap := h', toks := tk }) :
    wpAny (model P w) A (call (.type "set") [.ref l]) Q E s := by
  have hsz : items.size = ns.length := by
    have q := IntsAre.length hit
    simpa using q
  obtain ⟨cc, tl, hmro⟩ := F.called_set.mro
  have q1 := F.called_set.made
  have q2 := F.called_set.sub
  have q3 := F.called_set.notType
  have q4 := F.called_set.canCreate
  have q5 := F.typeCall_set_1 (.ref l)
  refine wpAny_call (codeAny_of_tree ?_)
  show wpAny _ _ (callAny (.type "set") _) _ _ _
  refine wpAny_pure ⟨Code.quiet_builtin _ (by decide +kernel), codeAny_builtin F.entry_type_call ?_⟩
  rw [Around.under_plain (weight_type_call_type "set" [.ref l] []) rfl]
  repeat (any_goals (first | assumption | wp_step))
  refine codeAny_mono (code_set_led1 (.ref l) (E := E) (Q₁ := fun obj s₁ => obj = .ref s.heap.objs.size ∧ s₁ = { s with heap := s.heap.push (fresh0 w) }) ⟨rfl, rfl⟩) fun r s₁ hr => ?_
  rcases r with e | fl
  · exact hr
  cases fl with
  | ret obj =>
    obtain ⟨rfl, rfl⟩ := hr
    have hS : (s.heap.push (fresh0 w)).get? s.heap.objs.size = some (fresh0 w) := Heap.get?_push_size _ rfl
    have hT : Shared.TypeIs { s with heap := s.heap.push (fresh0 w) } (.ref s.heap.objs.size) "set" := ⟨_, hS, rfl⟩
    have q6 := F.called_set.init.lookup
    have q7 := F.called_set.init.bind (.ref s.heap.objs.size)
    repeat (any_goals (first | assumption | wp_step))
    refine codeAny_mono (codeAny_call_builtin (R := wants (fun r s₂ => r = .none ∧ ∃ h' tk n, s₂ = { s with heap := h', toks := tk } ∧ SetR w h' s.heap.objs.size (fun j => decide (j ∈ ns)) n ∧ n ≤ ns.length ∧ ∀ b o, s.heap.get? b = some o → h'.get? b = some o) E)
      F.called_set.init.plain F.entry_set_init (check_set_init_1 hT ?_)) fun r₂ s₂ hr₂ => ?_
    · obtain ⟨⟨oc, od, dt, osl⟩, hol, rfl, nl, rfl⟩ := hl
      have hl1 : (s.heap.push (fresh0 w)).IsList l items := ⟨_, Heap.get?_push_of_some _ hol, rfl, nl, rfl⟩
      have hol' : (s.heap.push (fresh0 w)).get? l = some { cls := .type "list", dict := od, data := .seq items nl, slots := osl } := Heap.get?_push_of_some _ hol
      have q8 := F.sub_list_set
      have q9 := F.sub_list_frozenset
      have q0 : (Value.type "list" == Value.type "dict") = false := by decide
      unfold Builtin.«set.__init__» noKeywords Builtin.Frozenset.updateFrom
      generalize hPI : pyIter = PI
      wp_walk
      subst hPI
      refine wpAny_pyIter_list hl1 ?_
      refine wpAny_bind (wpAny_runValue ?_)
      have hlS : l < s.heap.objs.size := Heap.lt_size hol
      have hz : (s.heap.push (fresh0 w)).objs.size = s.heap.objs.size + 1 := Heap.size_push ..
      have nI : l ≠ (s.heap.push (fresh0 w)).objs.size := by rw [hz]; exact Nat.ne_of_lt (Nat.lt_succ_of_lt hlS)
      have nS : s.heap.objs.size ∉ [(s.heap.push (fresh0 w)).objs.size, l] := by
        rw [hz]
        intro m
        rcases List.mem_cons.mp m with e | m
        · exact absurd e (Nat.ne_of_lt (Nat.lt_succ_self _))
        · exact absurd (List.mem_singleton.mp m) (Nat.ne_of_gt hlS)
      refine set_update_ints ((Walks.list (by simp [hh]) _ l nI items).toS) s.heap.objs.size nS ns hsz hb (fun i v hv => ints_at hit hv) (items.size - 0) 0 _ (by omega) (Nat.zero_le _)
        ⟨⟨_, Heap.get?_push_size _ rfl, rfl, rfl⟩, (hl1.push _)⟩ ⟨0, Nat.le_refl 0, setR_new_at (Heap.get?_push_of_some _ hS)⟩ fun s' n hm hn hS' => ?_
      obtain ⟨h', g2, d', tk', os'⟩ := s'
      obtain rfl : g2 = s.gens := hm.gens
      obtain rfl : d' = s.drawn := hm.drawn
      obtain rfl : os' = s.os := hm.os
      show wpAny _ _ _ _ _ _
      refine wpAny_pure ?_
      show wpAny _ _ (ret Value.none) _ _ _
      refine wpAny_pure ⟨rfl, h', tk', n, rfl, hS', hsz ▸ hn, fun b o e => ?_⟩
      have hb0 : b < s.heap.objs.size := Heap.lt_size e
      refine hm.heap b o (fun m => ?_) (Heap.get?_push_of_some _ (Heap.get?_push_of_some _ e))
      rcases List.mem_cons.mp m with e1 | m
      · exact absurd e1 (Nat.ne_of_lt hb0)
      · have e1 := List.mem_singleton.mp m
        rw [hz] at e1
        exact absurd e1 (Nat.ne_of_lt (Nat.lt_succ_of_lt hb0))
    · rcases r₂ with e | fl₂
      · exact hr₂
      cases fl₂ with
      | ret r =>
        obtain ⟨rfl, h', tk, n, rfl, hS', hn', hk'⟩ := hr₂
        repeat (any_goals (first | assumption | wp_step))
        exact h _ _ n hS' hn' hk'
      | _ => exact hr₂.elim
  | _ => exact hr.elim
end
/-- its members, each once, are as many as it says -/
theorem setR_out {w : World} {h : Heap} {a : Addr} {S : Int → Bool} {n : Nat} (R : SetR w h a S n) : ∃ out : List Int, out.Nodup ∧ (∀ k, k ∈ out ↔ S k = true) ∧ out.length = n := by
  obtain ⟨o, es, ep, t, _, _, _, _, nd, hm, _, _, hn, _⟩ := R
  exact ⟨es.toList.map keyOf, nd, fun k => (hm k).symm, by rw [List.length_map, Array.length_toList]; exact hn⟩
/-- set(xs), the set tracked -/
def rSetL (K : PySem.W.Frag) (w : World) : List V → Hp → VK → Prop := fun xs H Q => ∃ (l : Addr) (ns : List Int), xs = [V.ref l] ∧ SqL K H l (ns.map V.int) ∧ ns.length ≤ 4000 ∧ ∀ p n, (∃ out : List Int, out.Nodup ∧ (∀ k, k ∈ out ↔ k ∈ ns) ∧ out.length = n) → H p = none → Q (.ref p) (upd H p (SetO w p (fun j => decide (j ∈ ns)) n))
theorem cr_setL {X : Cx} (hc : X.calm = true) : CallR X (.type "set") (rSetL X.K X.w) := by
  intro pins s σ H xs us Q I r h
  obtain ⟨l, ns, rfl, hq, hn, q⟩ := h
  obtain ⟨u, rfl, rx⟩ := vals1 r
  cases rx
  obtain ⟨its, rv, pl, hz⟩ := I.list hq
  refine call_setL ns (I.ok.hd hc) pl.isList (by simpa using Vals.ints rv) (by unfold scanBound; omega) fun h' tk n hS hle hk => ?_
  have hn : H s.heap.objs.size = none := I.hok.fresh (Nat.le_refl _)
  exact ⟨.ref s.heap.objs.size, upd H s.heap.objs.size (SetO X.w s.heap.objs.size (fun j => decide (j ∈ ns)) n), I.laid (t' := tk) hk (Nat.le_refl _) (setO_new hS), rfl, q _ n (by
    obtain ⟨out, o1, o2, o3⟩ := setR_out hS
    exact ⟨out, o1, fun k => (o2 k).trans decide_eq_true_iff, o3⟩) hn⟩
end SL

namespace FW
open PySem PySem.Spec PyProof.Rows L2
def top (i : Nat) : Stmt := PySem.Challenge.pw_fewladders_k08_whole_small_halls_tried.main.body.getD i (.Pass ⟨0, 0, 0, 0⟩)
abbrev s_floor_of : Stmt := top 1
abbrev s_floors_of : Stmt := top 2
abbrev s_longest_of : Stmt := top 3
abbrev s_bit_of : Stmt := top 7
abbrev s_has : Stmt := top 8
abbrev s_without : Stmt := top 9
abbrev s_w_mixed : Stmt := top 21
abbrev s_w_some : Stmt := top 22
abbrev s_w_grown : Stmt := top 23
abbrev s_w_fewer : Stmt := top 24
abbrev s_w_apart : Stmt := top 25
abbrev s_w_is_free : Stmt := top 26
abbrev s_w_sets : Stmt := top 27
abbrev s_w_all_by : Stmt := top 28
abbrev s_law : Stmt := top 29
abbrev sL_init : Stmt := inClass (top 5) 0
abbrev sL_link : Stmt := inClass (top 5) 1
abbrev sL_climbed : Stmt := inClass (top 5) 2
abbrev sL_joined : Stmt := inClass (top 5) 3
abbrev sL_joined_all : Stmt := inClass (top 5) 4
abbrev sL_add : Stmt := inClass (top 5) 5
abbrev sL_drop : Stmt := inClass (top 5) 6
abbrev sL_ladders : Stmt := inClass (top 5) 7
abbrev sL_reached : Stmt := inClass (top 5) 8
abbrev sL_free : Stmt := inClass (top 5) 9
abbrev sO_init : Stmt := inClass (top 17) 0
abbrev sO_is_thing : Stmt := inClass (top 17) 1
abbrev sO_need_thing : Stmt := inClass (top 17) 2
abbrev sO_need_things : Stmt := inClass (top 17) 3
abbrev sO_put : Stmt := inClass (top 17) 4
abbrev sO_take : Stmt := inClass (top 17) 5
abbrev sO_things : Stmt := inClass (top 17) 6
abbrev sO_lies_above : Stmt := inClass (top 17) 7
abbrev sO_are_apart : Stmt := inClass (top 17) 8
abbrev sH_init : Stmt := inClass (top 19) 0
abbrev sH_put : Stmt := inClass (top 19) 1
abbrev sH_take : Stmt := inClass (top 19) 2
abbrev sH_things : Stmt := inClass (top 19) 3
abbrev sH_lies_above : Stmt := inClass (top 19) 4
abbrev sH_ladders : Stmt := inClass (top 19) 5
abbrev sH_free : Stmt := inClass (top 19) 6
abbrev sH_floors : Stmt := inClass (top 19) 7
abbrev sH_longest : Stmt := inClass (top 19) 8
abbrev sH_parted : Stmt := inClass (top 19) 9
abbrev sH_with_thing : Stmt := inClass (top 19) 10
abbrev sH_without_thing : Stmt := inClass (top 19) 11
abbrev sH_standing : Stmt := inClass (top 19) 12
end FW
set_option maxHeartbeats 4000000
/-! The walk 0: what stands in the heap; small words. -/
namespace FW
open PySem PySem.Spec PyProof.Rows L2

/-! ### dicts with whole numbers as keys -/
def kvI {β : Type} (f : β → V) (d : List (Int × β)) : List (Key × V) := d.map fun p => (Sum.inl p.1, f p.2)
section
variable {β : Type} {f : β → V} {d : List (Int × β)} {k : Int}
theorem valV_kvI : valV (kvI f d) (Sum.inl k : Key) = (FL.aget d k).map f := by
  induction d with
  | nil => rfl
  | cons p r ih =>
    show valV ((Sum.inl p.1, f p.2) :: kvI f r) (Sum.inl k : Key) = _
    rw [FL.aget_cons]
    by_cases e : p.1 = k
    · rw [valV_pos (by rw [e]), if_pos e]; rfl
    · rw [valV_neg (fun z => e (Sum.inl.inj z)), if_neg e, ih]
theorem putK_kvI {v : β} : putK (kvI f d) (Sum.inl k : Key) (f v) = kvI f (FL.aput d k v) := by
  unfold putK FL.aput
  rw [valV_any, valV_kvI, FL.any_key, Option.isSome_map]
  split
  · unfold kvI
    rw [List.map_map, List.map_map]
    refine List.map_congr_left fun p _ => ?_
    show (if (Sum.inl p.1 : Key) = Sum.inl k then ((Sum.inl p.1 : Key), f v) else (Sum.inl p.1, f p.2)) = _
    by_cases e : p.1 = k
    · rw [if_pos (by rw [e])]
      show _ = (Sum.inl (if p.1 = k then (p.1, v) else p).1, f (if p.1 = k then (p.1, v) else p).2)
      rw [if_pos e]
    · rw [if_neg fun z => e (Sum.inl.inj z)]
      show _ = (Sum.inl (if p.1 = k then (p.1, v) else p).1, f (if p.1 = k then (p.1, v) else p).2)
      rw [if_neg e]
  · unfold kvI
    rw [List.map_append]; rfl
theorem dropK_kvI : dropK (kvI f d) (Sum.inl k : Key) = kvI f (FL.adel d k) := by
  unfold dropK FL.adel kvI
  rw [List.filter_map]
  congr 1
  refine List.filter_congr fun p _ => ?_
  show decide ((Sum.inl p.1 : Key) ≠ Sum.inl k) = decide (p.1 ≠ k)
  by_cases e : p.1 = k
  · simp [e]
  · have e2 : (Sum.inl p.1 : Key) ≠ Sum.inl k := fun z => e (Sum.inl.inj z)
    exact (decide_eq_true e2).trans (decide_eq_true e).symm
theorem len_kvI : (kvI f d).length = d.length := by unfold kvI; rw [List.length_map]
end
/-- a dict from numbers to numbers; to marks; of things seen -/
abbrev dII (d : List (Int × Int)) : HO := .dK (kvI V.int d)
abbrev dIN (d : List (Int × Nat)) : HO := .dK (kvI (fun m : Nat => V.int (m : Int)) d)
def tr1 (l : List Int) : List (Int × Unit) := l.map fun x => (x, ())
abbrev dS (l : List Int) : HO := .dK (kvI (fun _ => V.bl true) (tr1 l))
abbrev lI (l : List Int) : HO := .lst (l.map V.int)
theorem tr1_get {l : List Int} {k : Int} : (FL.aget (tr1 l) k).isSome = decide (k ∈ l) := by
  have h := @FL.aget_isSome_iff Unit (tr1 l) k
  have e : (tr1 l).map (·.1) = l := by
    unfold tr1
    rw [List.map_map]
    exact List.map_id _
  rw [e] at h
  by_cases q : k ∈ l
  · rw [h.mpr q, decide_eq_true q]
  · rw [decide_eq_false q]
    cases z : (FL.aget (tr1 l) k).isSome with
    | false => rfl
    | true => exact absurd (h.mp z) q
theorem tr1_put {l : List Int} {k : Int} (h : k ∉ l) : FL.aput (tr1 l) k () = tr1 (l ++ [k]) := by
  rw [FL.aput_new]
  · unfold tr1; rw [List.map_append]; rfl
  · cases e : FL.aget (tr1 l) k with
    | none => rfl
    | some u =>
      have := @tr1_get l k
      rw [e, decide_eq_false h] at this
      cases this
theorem tr1_len {l : List Int} : (tr1 l).length = l.length := by unfold tr1; rw [List.length_map]

/-! ### fields -/
theorem lk {a b : Str} {v : V} {r : List (Str × V)} : List.lookup a ((b, v) :: r) = if a = b then some v else List.lookup a r := by
  by_cases h : a = b
  · rw [if_pos h]; simp [List.lookup, beq_iff_eq.mpr h]
  · rw [if_neg h]; simp [List.lookup, beq_eq_false_iff_ne.mpr h]
def fO (B : Addr) (told : Nat) : List (Str × V) := [("below", .ref B), ("told", .int (told : Int))]
def fL (o L A E : Addr) : List (Str × V) := [("order", .ref o), ("linked", .ref L), ("above", .ref A), ("beneath", .ref E)]
def fH (o l : Addr) : List (Str × V) := [("order", .ref o), ("links", .ref l)]
theorem n_tb : ¬ (("told" : Str) = "below") := by decide +kernel
theorem n_bt : ¬ (("below" : Str) = "told") := by decide +kernel
theorem n_lo : ¬ (("linked" : Str) = "order") := by decide +kernel
theorem n_ao : ¬ (("above" : Str) = "order") := by decide +kernel
theorem n_al : ¬ (("above" : Str) = "linked") := by decide +kernel
theorem n_eo : ¬ (("beneath" : Str) = "order") := by decide +kernel
theorem n_el : ¬ (("beneath" : Str) = "linked") := by decide +kernel
theorem n_ea : ¬ (("beneath" : Str) = "above") := by decide +kernel
theorem n_ol : ¬ (("order" : Str) = "linked") := by decide +kernel
theorem n_oa : ¬ (("order" : Str) = "above") := by decide +kernel
theorem n_la : ¬ (("linked" : Str) = "above") := by decide +kernel
theorem n_oe : ¬ (("order" : Str) = "beneath") := by decide +kernel
theorem n_le : ¬ (("linked" : Str) = "beneath") := by decide +kernel
theorem n_ae : ¬ (("above" : Str) = "beneath") := by decide +kernel
theorem n_ko : ¬ (("links" : Str) = "order") := by decide +kernel
theorem n_ok : ¬ (("order" : Str) = "links") := by decide +kernel
section
variable {B o L A E l : Addr} {t : Nat}
theorem fO_below : (fO B t).lookup ("below" : Str) = some (.ref B) := by unfold fO; rw [lk, if_pos rfl]
theorem fO_told : (fO B t).lookup ("told" : Str) = some (.int (t : Int)) := by unfold fO; rw [lk, if_neg n_tb, lk, if_pos rfl]
theorem fO_no {m : Str} (h : ¬ m = "below" ∧ ¬ m = "told") : (fO B t).lookup m = none := by unfold fO; rw [lk, if_neg h.1, lk, if_neg h.2]; rfl
theorem fO_put {t' : Nat} : putF ("told" : Str) (.int (t' : Int)) (fO B t) = fO B t' := by
  unfold fO putF
  rw [if_neg n_bt]
  unfold putF
  rw [if_pos rfl]
theorem fO_mk : putF ("told" : Str) (.int (t : Int)) (putF ("below" : Str) (.ref B) []) = fO B t := by
  show (if ("below" : Str) = "told" then [(("below" : Str), V.int (t : Int))] else (("below" : Str), V.ref B) :: putF ("told" : Str) (V.int (t : Int)) []) = _
  rw [if_neg n_bt]; rfl
theorem fL_order : (fL o L A E).lookup ("order" : Str) = some (.ref o) := by unfold fL; rw [lk, if_pos rfl]
theorem fL_linked : (fL o L A E).lookup ("linked" : Str) = some (.ref L) := by unfold fL; rw [lk, if_neg n_lo, lk, if_pos rfl]
theorem fL_above : (fL o L A E).lookup ("above" : Str) = some (.ref A) := by unfold fL; rw [lk, if_neg n_ao, lk, if_neg n_al, lk, if_pos rfl]
theorem fL_beneath : (fL o L A E).lookup ("beneath" : Str) = some (.ref E) := by unfold fL; rw [lk, if_neg n_eo, lk, if_neg n_el, lk, if_neg n_ea, lk, if_pos rfl]
theorem fL_no {m : Str} (h : ¬ m = "order" ∧ ¬ m = "linked" ∧ ¬ m = "above" ∧ ¬ m = "beneath") : (fL o L A E).lookup m = none := by
  unfold fL; rw [lk, if_neg h.1, lk, if_neg h.2.1, lk, if_neg h.2.2.1, lk, if_neg h.2.2.2]; rfl
theorem fL_put {L' : Addr} : putF ("linked" : Str) (.ref L') (fL o L A E) = fL o L' A E := by
  unfold fL putF
  rw [if_neg n_ol]
  unfold putF
  rw [if_pos rfl]
theorem fL_mk : putF ("beneath" : Str) (.ref E) (putF ("above" : Str) (.ref A) (putF ("linked" : Str) (.ref L) (putF ("order" : Str) (.ref o) []))) = fL o L A E := by
  have e1 : putF ("linked" : Str) (.ref L) (putF ("order" : Str) (.ref o) []) = [(("order" : Str), V.ref o), (("linked" : Str), V.ref L)] := by
    show (if ("order" : Str) = "linked" then _ else (("order" : Str), V.ref o) :: putF ("linked" : Str) (V.ref L) []) = _
    rw [if_neg n_ol]; rfl
  have e2 : putF ("above" : Str) (.ref A) [(("order" : Str), V.ref o), (("linked" : Str), V.ref L)] = [(("order" : Str), V.ref o), (("linked" : Str), V.ref L), (("above" : Str), V.ref A)] := by
    show (if ("order" : Str) = "above" then _ else (("order" : Str), V.ref o) :: (if ("linked" : Str) = "above" then _ else (("linked" : Str), V.ref L) :: putF ("above" : Str) (V.ref A) [])) = _
    rw [if_neg n_oa, if_neg n_la]; rfl
  rw [e1, e2]
  show (if ("order" : Str) = "beneath" then _ else (("order" : Str), V.ref o) :: (if ("linked" : Str) = "beneath" then _ else (("linked" : Str), V.ref L) :: (if ("above" : Str) = "beneath" then _ else (("above" : Str), V.ref A) :: putF ("beneath" : Str) (V.ref E) []))) = _
  rw [if_neg n_oe, if_neg n_le, if_neg n_ae]; rfl
theorem fH_order : (fH o l).lookup ("order" : Str) = some (.ref o) := by unfold fH; rw [lk, if_pos rfl]
theorem fH_links : (fH o l).lookup ("links" : Str) = some (.ref l) := by unfold fH; rw [lk, if_neg n_ko, lk, if_pos rfl]
theorem fH_no {m : Str} (h : ¬ m = "order" ∧ ¬ m = "links") : (fH o l).lookup m = none := by unfold fH; rw [lk, if_neg h.1, lk, if_neg h.2]; rfl
theorem fH_mk : putF ("links" : Str) (.ref l) (putF ("order" : Str) (.ref o) []) = fH o l := by
  show (if ("order" : Str) = "links" then _ else (("order" : Str), V.ref o) :: putF ("links" : Str) (V.ref l) []) = _
  rw [if_neg n_ok]; rfl
end

/-! ### what the program's objects look like -/
/-- the classes' addresses -/
structure CC where
  H : Addr
  O : Addr
  L : Addr
/-- an Order at o whose dict is at B -/
structure OrdAt (c : CC) (H : Hp) (o B : Addr) (bel : List (Int × Nat)) (told : Nat) : Prop where
  ob : ∃ dx, H o = some (.ins c.O dx (fO B told))
  dc : H B = some (dIN bel)
structure LA where
  o : Addr
  l : Addr
  L : Addr
  A : Addr
  E : Addr
/-- a Links at a.l -/
structure LnkAt (c : CC) (H : Hp) (a : LA) (L : List Int) (ab be : List (Int × Int)) : Prop where
  ob : ∃ dx, H a.l = some (.ins c.L dx (fL a.o a.L a.A a.E))
  ls : H a.L = some (lI L)
  da : H a.A = some (dII ab)
  de : H a.E = some (dII be)
  nAE : a.A ≠ a.E
theorem OrdAt.same {c : CC} {H H' : Hp} {o B : Addr} {bel : List (Int × Nat)} {told : Nat} (h : OrdAt c H o B bel told) (s : ∀ x u, (x = o ∨ x = B) → H x = some u → H' x = some u) : OrdAt c H' o B bel told := by
  obtain ⟨⟨dx, h1⟩, h2⟩ := h
  exact ⟨⟨dx, s _ _ (.inl rfl) h1⟩, s _ _ (.inr rfl) h2⟩
theorem LnkAt.same {c : CC} {H H' : Hp} {a : LA} {L : List Int} {ab be : List (Int × Int)} (h : LnkAt c H a L ab be) (s : ∀ x u, H x = some u → H' x = some u) : LnkAt c H' a L ab be := by
  obtain ⟨⟨dx, h1⟩, h2, h3, h4, h5⟩ := h
  exact ⟨⟨dx, s _ _ h1⟩, s _ _ h2, s _ _ h3, s _ _ h4, h5⟩
theorem mapI_inj : ∀ {l m : List Int}, l.map V.int = m.map V.int → l = m
  | [], [], _ => rfl
  | [], b :: m, h => by cases h
  | a :: l, [], h => by cases h
  | a :: l, b :: m, h => by
    rw [List.map_cons, List.map_cons, List.cons.injEq] at h
    rw [V.int.inj h.1, mapI_inj h.2]

/-! ### defs as they stand, their promises -/
section
variable (P : Program) (w : World) (K : PySem.W.Frag) (mg : Str → Option Value) (base : Heap)
/-- the class C's method m stands, and is st -/
def MD (C : Addr) (m qual : Str) (st : Stmt) : Prop := ∃ f fd, Meth K C m f ∧ FunD K m qual (defArgs st) (defBody st) (defScope st) [] [] f fd
def GD (x : Str) (st : Stmt) : Prop := ∃ f fd, mg x = some (.ref f) ∧ FunD K x x (defArgs st) (defBody st) (defScope st) [] [] f fd
/-- the method m keeps sp -/
def MOk (CX : CXT) (C : Addr) (m : Str) (ps : List Str) (k : Nat) (sp : Sp) : Prop := ∃ f fd, Meth K C m f ∧ Binds K fd ps [] ∧ FnOk P w K mg base CX k f fd ps sp
def GOk (CX : CXT) (x : Str) (ps : List Str) (k : Nat) (sp : Sp) : Prop := ∃ f fd, mg x = some (.ref f) ∧ PySem.W.keepIn K (.ref f) = true ∧ Binds K fd ps [] ∧ FnOk P w K mg base CX k f fd ps sp
end
section
variable {P : Program} {w : World} {K : PySem.W.Frag} {mg : Str → Option Value} {base : Heap} {C : Addr} {m x qual : Str} {st : Stmt} {ps N : List Str} {k : Nat} {sp : Sp} {CX : CXT}
theorem MOk.mono {j : Nat} (h : MOk P w K mg base CX C m ps j sp) (e : j ≤ k) : MOk P w K mg base CX C m ps k sp := by
  obtain ⟨f, fd, a, b, F⟩ := h
  exact ⟨f, fd, a, b, F.mono e⟩
theorem GOk.mono {j : Nat} (h : GOk P w K mg base CX x ps j sp) (e : j ≤ k) : GOk P w K mg base CX x ps k sp := by
  obtain ⟨f, fd, a, b, c, F⟩ := h
  exact ⟨f, fd, a, b, c, F.mono e⟩
theorem MOk.imp {sp' : Sp} (h : MOk P w K mg base CX C m ps k sp) (e : ∀ vs H Q E, sp' vs H Q E → sp vs H Q E) : MOk P w K mg base CX C m ps k sp' := by
  obtain ⟨f, fd, a, b, F⟩ := h
  exact ⟨f, fd, a, b, F.imp e⟩
theorem GOk.imp {sp' : Sp} (h : GOk P w K mg base CX x ps k sp) (e : ∀ vs H Q E, sp' vs H Q E → sp vs H Q E) : GOk P w K mg base CX x ps k sp' := by
  obtain ⟨f, fd, a, b, c, F⟩ := h
  exact ⟨f, fd, a, b, c, F.imp e⟩
/-- THE RULE for a method that lets nothing out -/
theorem MD.ok (D : MD K C m qual st) (S : FnScope N ps (defScope st))
    (hb : ∀ (kV doc pm : Value) (an : Option Addr) (cdv ct : Value) (us : List Value), us.length = ps.length → bindArgs (PySem.W.fnOf m qual (defArgs st) (defBody st) (defScope st) .none kV doc pm an cdv ct) ⟨us, []⟩ = pure (ps.zip us))
    (len : ∀ vs H Q E, sp vs H Q E → vs.length = ps.length)
    (hbody : ∀ (f : Addr) (cdv : Value) (A : Around) (outer : List Env) (s : Shared) (H : Hp) (vs : List V) (Q : VK) (E : XK), Room k (A.deeper (envOfC qual (defScope st) s.heap.objs.size f cdv)) → sp vs H Q E →
      ∃ t, PSs (cxOf CX0 P w K mg base N qual (defScope st) f cdv A outer s H E).nox (defBody st) t ∧ t { nx := fun _ H' => Q .non H', rt := Q } (start N vs) H) : MOk P w K mg base CX0 C m ps (k + 1) sp := by
  obtain ⟨f, fd, a, F⟩ := D
  refine ⟨f, fd, a, F.bindsN hb, F.ok S len fun cdv A outer s H vs Q E hr h => ?_⟩
  obtain ⟨t, h, q⟩ := hbody f cdv A outer s H vs Q E hr h
  exact ⟨t, h.nox, q⟩
theorem GD.ok (D : GD K mg x st) (S : FnScope N ps (defScope st))
    (hb : ∀ (kV doc pm : Value) (an : Option Addr) (cdv ct : Value) (us : List Value), us.length = ps.length → bindArgs (PySem.W.fnOf x x (defArgs st) (defBody st) (defScope st) .none kV doc pm an cdv ct) ⟨us, []⟩ = pure (ps.zip us))
    (len : ∀ vs H Q E, sp vs H Q E → vs.length = ps.length)
    (hbody : ∀ (f : Addr) (cdv : Value) (A : Around) (outer : List Env) (s : Shared) (H : Hp) (vs : List V) (Q : VK) (E : XK), Room k (A.deeper (envOfC x (defScope st) s.heap.objs.size f cdv)) → sp vs H Q E →
      ∃ t, PSs (cxOf CX0 P w K mg base N x (defScope st) f cdv A outer s H E).nox (defBody st) t ∧ t { nx := fun _ H' => Q .non H', rt := Q } (start N vs) H) : GOk P w K mg base CX0 x ps (k + 1) sp := by
  obtain ⟨f, fd, a, F⟩ := D
  refine ⟨f, fd, a, F.kp, F.bindsN hb, F.ok S len fun cdv A outer s H vs Q E hr h => ?_⟩
  obtain ⟨t, h, q⟩ := hbody f cdv A outer s H vs Q E hr h
  exact ⟨t, h.nox, q⟩
/-- .. for a method that may raise -/
theorem MD.okX (D : MD K C m qual st) (S : FnScope N ps (defScope st))
    (hb : ∀ (kV doc pm : Value) (an : Option Addr) (cdv ct : Value) (us : List Value), us.length = ps.length → bindArgs (PySem.W.fnOf m qual (defArgs st) (defBody st) (defScope st) .none kV doc pm an cdv ct) ⟨us, []⟩ = pure (ps.zip us))
    (len : ∀ vs H Q E, sp vs H Q E → vs.length = ps.length)
    (hbody : ∀ (f : Addr) (cdv : Value) (A : Around) (outer : List Env) (s : Shared) (H : Hp) (vs : List V) (Q : VK) (E : XK), Room k (A.deeper (envOfC qual (defScope st) s.heap.objs.size f cdv)) → sp vs H Q E →
      ∃ t, PSs (cxOf (L2.CX P w) P w K mg base N qual (defScope st) f cdv A outer s H E) (defBody st) t ∧ t { nx := fun _ H' => Q .non H', rt := Q } (start N vs) H) : MOk P w K mg base (L2.CX P w) C m ps (k + 1) sp := by
  obtain ⟨f, fd, a, F⟩ := D
  exact ⟨f, fd, a, F.bindsN hb, F.ok S len fun cdv A outer s H vs Q E hr h => hbody f cdv A outer s H vs Q E hr h⟩
end
end FW

set_option maxHeartbeats 4000000
/-! The walk 1: bits, Order. -/
namespace FW
open PySem PySem.Spec PyProof.Rows L2

/-- what the walk asks of the classes and names as the top has made them -/
structure Tx (K : PySem.W.Frag) (mg : Str → Option Value) (c : CC) : Prop where
  clH : Cls K c.H
  clO : Cls K c.O
  clL : Cls K c.L
  nHo : NoAttr K c.H "order"
  nHl : NoAttr K c.H "links"
  nOb : NoAttr K c.O "below"
  nOt : NoAttr K c.O "told"
  nLo : NoAttr K c.L "order"
  nLl : NoAttr K c.L "linked"
  nLa : NoAttr K c.L "above"
  nLb : NoAttr K c.L "beneath"
  mkH : PySem.W.makesIn K c.H = true
  mkO : PySem.W.makesIn K c.O = true
  mkL : PySem.W.makesIn K c.L = true
  kpH : PySem.W.keepIn K (.ref c.H) = true
  kpO : PySem.W.keepIn K (.ref c.O) = true
  kpL : PySem.W.keepIn K (.ref c.L) = true
  gH : mg "Hall" = some (.ref c.H)
  gO : mg "Order" = some (.ref c.O)
  gL : mg "Links" = some (.ref c.L)
  most : ∃ t, mg "MOST_THINGS" = some (.int 24 t)
  zLen : mg "len" = none
  zSorted : mg "sorted" = none
  zList : mg "list" = none
  zIsi : mg "isinstance" = none
  zInt : mg "int" = none
  zBool : mg "bool" = none
  zSet : mg "set" = none
  zDict : mg "dict" = none
  zMax : mg "max" = none
  zRev : mg "reversed" = none

section
variable {P : Program} {w : World} {K : PySem.W.Frag} {mg : Str → Option Value} {base : Heap} {c : CC}

/-! ### bits -/
def spBit : Sp := fun vs H Q _ => ∃ t : Int, vs = [.int t] ∧ 0 ≤ t ∧ t ≤ 100000 ∧ Q (.int ((2 ^ t.toNat : Nat) : Int)) H
def spHas : Sp := fun vs H Q _ => ∃ (m : Nat) (t : Int), vs = [.int (m : Int), .int t] ∧ 0 ≤ t ∧ Q (.bl (m.testBit t.toNat)) H
def spWithout : Sp := fun vs H Q _ => ∃ (m : Nat) (t : Int), vs = [.int (m : Int), .int t] ∧ 0 ≤ t ∧ t ≤ 100000 ∧ Q (.int (FL.clearBit m t : Nat)) H
theorem ok_bit (D : GD K mg "bit_of" s_bit_of) : GOk P w K mg base CX0 "bit_of" ["thing"] 1 spBit := by
  refine D.ok (N := ["thing"]) ⟨rfl, rfl, rfl, by decide +kernel, rfl, by decide +kernel, by decide +kernel⟩ (fun _ _ _ _ _ _ us hl => match us, hl with | [_], _ => rfl) (fun vs H Q E h => ?_) (fun f cdv A outer s H vs Q E hr h => ?_)
  · obtain ⟨t, rfl, _⟩ := h; rfl
  · obtain ⟨t, rfl, h0, h1, q⟩ := h
    refine ⟨_, pss_one (ps_ret (pe_op op_shl pe_int (pv 0))), ?_⟩
    refine ⟨_, rfl, _, _, rfl, rfl, ⟨h0, by omega, by decide⟩, ?_⟩
    have e : (1 : Int) * 2 ^ t.toNat = ((2 ^ t.toNat : Nat) : Int) := by
      rw [Int.one_mul]; exact (Int.natCast_pow 2 t.toNat).symm
    show Q (.int ((1 : Int) * 2 ^ t.toNat)) H
    rw [e]; exact q
theorem shr_nat (m k : Nat) : ((m : Int) / 2 ^ k : Int) = ((m / 2 ^ k : Nat) : Int) := by
  rw [show ((2 : Int) ^ k) = ((2 ^ k : Nat) : Int) from (Int.natCast_pow 2 k).symm]; rfl
theorem ok_has (D : GD K mg "has" s_has) : GOk P w K mg base CX0 "has" ["marks", "thing"] 1 spHas := by
  refine D.ok (N := ["marks", "thing"]) ⟨rfl, rfl, rfl, by decide +kernel, rfl, by decide +kernel, by decide +kernel⟩ (fun _ _ _ _ _ _ us hl => match us, hl with | [_, _], _ => rfl) (fun vs H Q E h => ?_) (fun f cdv A outer s H vs Q E hr h => ?_)
  · obtain ⟨m, t, rfl, _⟩ := h; rfl
  · obtain ⟨m, t, rfl, h0, q⟩ := h
    refine ⟨_, pss_one (ps_ret (pe_cmpR op_eq (pe_op op_and (pe_op op_shr (pv 0) (pv 1)) pe_int) pe_int (nomark _))), ?_⟩
    refine ⟨_, rfl, _, rfl, _, _, rfl, rfl, h0, _, _, rfl, rfl, rfl, ?_⟩
    have e : Builtin.bitAnd ((m : Int) / 2 ^ t.toNat) 1 = ((m.testBit t.toNat).toNat : Int) := by
      rw [shr_nat, bitAnd_pp (Int.natCast_nonneg _) (by omega), Int.toNat_natCast]
      show (((m / 2 ^ t.toNat) &&& 1 : Nat) : Int) = _
      rw [Nat.and_one_is_mod, Nat.testBit_eq_decide_div_mod_eq]
      have h2 := Nat.mod_two_eq_zero_or_one (m / 2 ^ t.toNat)
      rcases h2 with h2 | h2 <;> simp [h2]
    show Q (.bl (decide (V.int (Builtin.bitAnd ((m : Int) / 2 ^ t.toNat) 1) = V.int 1))) H
    rw [e]
    have e2 : decide (V.int ((m.testBit t.toNat).toNat : Int) = V.int 1) = m.testBit t.toNat := by
      cases m.testBit t.toNat <;> rfl
    rw [e2]; exact q
theorem ok_without (D : GD K mg "without" s_without) (G1 : GOk P w K mg base CX0 "has" ["marks", "thing"] 1 spHas) (G2 : GOk P w K mg base CX0 "bit_of" ["thing"] 1 spBit) : GOk P w K mg base CX0 "without" ["marks", "thing"] 2 spWithout := by
  obtain ⟨f1, fd1, g1, k1, b1, F1⟩ := G1
  obtain ⟨f2, fd2, g2, k2, b2, F2⟩ := G2
  refine D.ok (N := ["marks", "thing"]) ⟨rfl, rfl, rfl, by decide +kernel, rfl, by decide +kernel, by decide +kernel⟩ (fun _ _ _ _ _ _ us hl => match us, hl with | [_, _], _ => rfl) (fun vs H Q E h => ?_) (fun f cdv A outer s H vs Q E hr h => ?_)
  · obtain ⟨m, t, rfl, _⟩ := h; rfl
  · obtain ⟨m, t, rfl, h0, h1, q⟩ := h
    refine ⟨_, pss_cons (ps_if (pt_val (pe_call F1 hr (by rfl) g1 k1 b1 .nil pass0 (pa_cons (pv 0) (pa_cons (pv 1) pa_nil)))) (pss_one (ps_ret (pe_op op_xor (pv 0) (pe_call F2 hr (by rfl) g2 k2 b2 .nil pass0 (pa_cons (pv 1) pa_nil))))) pss_nil)
      (pss_one (ps_ret (pv 0))), ?_⟩
    refine ⟨_, rfl, _, rfl, m, t, rfl, h0, _, rfl, ?_⟩
    unfold FL.clearBit at q
    refine ite2 (fun e => ?_) (fun e => ?_)
    · rw [if_pos e] at q
      refine ⟨_, rfl, _, rfl, t, rfl, h0, h1, _, _, rfl, rfl, ?_⟩
      show Q (.int (Builtin.bitXor (m : Int) ((2 ^ t.toNat : Nat) : Int))) H
      rw [Bits.bitXor_pp (Int.natCast_nonneg _) (Int.natCast_nonneg _), Int.toNat_natCast, Int.toNat_natCast]
      exact q
    · rw [if_neg e] at q
      exact ⟨_, rfl, q⟩

/-! ### Order -/
def spO_init (c : CC) : Sp := fun vs H Q _ => ∃ (p dx : Addr), vs = [.ref p] ∧ H p = some (.ins c.O dx []) ∧
  ∀ (B : Addr) (H' : Hp), H B = none → OrdAt c H' p B [] 0 → (∀ b o, H b = some o → b ≠ p → H' b = some o) → Q .non H'
theorem ok_O_init (T : Tx K mg c) (D : MD K c.O "__init__" "Order.__init__" sO_init) : MOk P w K mg base CX0 c.O "__init__" ["self"] 1 (spO_init c) := by
  refine D.ok (N := ["self"]) ⟨rfl, rfl, rfl, by decide +kernel, rfl, by decide +kernel, by decide +kernel⟩ (fun _ _ _ _ _ _ us hl => match us, hl with | [_], _ => rfl) (fun vs H Q E h => ?_) (fun f cdv A outer s H vs Q E hr h => ?_)
  · obtain ⟨p, dx, rfl, _⟩ := h; rfl
  · obtain ⟨p, dx, rfl, hp, k⟩ := h
    refine ⟨_, pss_cons (ps_fld (pv 0) pe_dnewK rfl) (pss_one (ps_fld (pv 0) pe_int rfl)), ?_⟩
    intro B hB
    have ne : p ≠ B := ne_of_none hp hB
    refine ⟨_, rfl, p, c.O, dx, [], rfl, (by rw [upd_ne ne]; exact hp), T.clO, T.nOb, (by show 0 < 1000; decide), _, rfl, p, c.O, dx, _, rfl, upd_same, T.clO, T.nOt, (by show 1 < 1000; decide), ?_⟩
    refine k B _ hB ⟨⟨dx, ?_⟩, by rw [upd_ne ne.symm, upd_ne ne.symm, upd_same]; rfl⟩ fun b o e hb => ?_
    · rw [upd_same]
      exact congrArg (fun l => some (HO.ins c.O dx l)) (fO_mk (t := 0))
    · rw [upd_ne hb, upd_ne hb, upd_ne (ne_of_none e hB)]
      exact e

def spO_is (c : CC) : Sp := fun vs H Q _ => ∃ (o B : Addr) (bel : List (Int × Nat)) (told : Nat) (x : Int), vs = [.ref o, .int x] ∧ OrdAt c H o B bel told ∧ Q (.bl (FL.aget bel x).isSome) H
theorem ok_O_is (T : Tx K mg c) (D : MD K c.O "is_thing" "Order.is_thing" sO_is_thing) : MOk P w K mg base CX0 c.O "is_thing" ["self", "one"] 1 (spO_is c) := by
  refine D.ok (N := ["self", "one"]) ⟨rfl, rfl, rfl, by decide +kernel, rfl, by decide +kernel, by decide +kernel⟩ (fun _ _ _ _ _ _ us hl => match us, hl with | [_, _], _ => rfl) (fun vs H Q E h => ?_) (fun f cdv A outer s H vs Q E hr h => ?_)
  · obtain ⟨o, B, bel, told, x, rfl, _⟩ := h; rfl
  · obtain ⟨o, B, bel, told, x, rfl, ⟨⟨dx, ho⟩, hB⟩, q⟩ := h
    have hu := hu_of hr
    refine ⟨_, pss_one (ps_ret (pe_and (pe_callB call_isi (by rfl) T.zIsi PyProof.Rows.boot_isinstance (pa_cons (pv 1) (pa_cons (pe_bltn (by rfl) T.zInt (by decide +kernel) (v := .ty "int") rfl) pa_nil)))
      (pe_and (pe_not (pe_callB call_isi (by rfl) T.zIsi PyProof.Rows.boot_isinstance (pa_cons (pv 1) (pa_cons (pe_bltn (by rfl) T.zBool (by decide +kernel) (v := .ty "bool") rfl) pa_nil)))) (pe_one (pe_cmp (pc_din hu (pv 1) (pe_fld (pv 0) rfl)) rfl))))), ?_⟩
    refine ⟨_, rfl, _, _, .type "int", .type "int", true, rfl, .ty "int", .base (.int x), kit_ty (by decide +kernel), true, rfl, iteT ?_⟩
    refine ⟨_, rfl, _, _, .type "int", .type "bool", false, rfl, .ty "bool", .base (.int x), kit_ty (by decide +kernel), false, rfl, true, rfl, iteT ?_⟩
    refine ⟨_, rfl, _, rfl, o, c.O, dx, _, _, rfl, ho, T.clO, T.nOb, fO_below, B, _, rfl, DGet.k (k := Sum.inl x) hB, ?_⟩
    rw [valV_kvI, Option.isSome_map]
    exact q
/-- a thing that is there -/
def spO_need (c : CC) : Sp := fun vs H Q _ => ∃ (o B : Addr) (bel : List (Int × Nat)) (told : Nat) (x : Int), vs = [.ref o, .int x] ∧ OrdAt c H o B bel told ∧ (FL.aget bel x).isSome = true ∧ Q .non H
theorem ok_O_need (T : Tx K mg c) (D : MD K c.O "need_thing" "Order.need_thing" sO_need_thing) (M : MOk P w K mg base CX0 c.O "is_thing" ["self", "one"] 1 (spO_is c)) : MOk P w K mg base CX0 c.O "need_thing" ["self", "one"] 2 (spO_need c) := by
  obtain ⟨f1, fd1, m1, b1, F1⟩ := M
  refine D.ok (N := ["self", "one"]) ⟨rfl, rfl, rfl, by decide +kernel, rfl, by decide +kernel, by decide +kernel⟩ (fun _ _ _ _ _ _ us hl => match us, hl with | [_, _], _ => rfl) (fun vs H Q E h => ?_) (fun f cdv A outer s H vs Q E hr h => ?_)
  · obtain ⟨o, B, bel, told, x, rfl, _⟩ := h; rfl
  · obtain ⟨o, B, bel, told, x, rfl, O, hx, q⟩ := h
    obtain ⟨dx, ho⟩ := O.ob
    refine ⟨_, pss_one (ps_if (pt_not (pt_val (pe_meth (pv 0) T.clO m1 F1 hr b1 .nil pass0 (pa_cons (pv 1) pa_nil)))) (pss_one ps_never) pss_nil), ?_⟩
    refine ⟨_, rfl, o, dx, _, rfl, ho, fO_no ⟨by decide +kernel, by decide +kernel⟩, _, rfl, o, B, bel, told, x, rfl, O, _, rfl, ?_⟩
    rw [hx]
    exact iteF q
end
end FW

set_option maxHeartbeats 4000000
/-! The walk 2: Order, the rest. -/
namespace FW
open PySem PySem.Spec PyProof.Rows L2
section
variable {P : Program} {w : World} {K : PySem.W.Frag} {mg : Str → Option Value} {base : Heap} {c : CC}

theorem itemI {ns : List Int} {i : Nat} {x : V} (h : (ns.map V.int)[i]? = some x) : ∃ z, x = .int z ∧ ns[i]? = some z := by
  rw [List.getElem?_map] at h
  cases e : ns[i]? with
  | none => rw [e] at h; cases h
  | some z => rw [e] at h; exact ⟨z, (Option.some.inj h).symm, rfl⟩
theorem memI {ns : List Int} {i : Nat} {z : Int} (h : ns[i]? = some z) : z ∈ ns := List.mem_of_getElem? h
theorem srt_perm {l m : List Int} (p : l.Perm m) (h1 : l.Pairwise (· ≤ ·)) (h2 : m.Pairwise (· < ·)) : l = m := by
  have nd : l.Nodup := p.nodup_iff.mpr (h2.imp fun h => Int.ne_of_lt h)
  refine FL.srt_ext ?_ h2 fun x => p.mem_iff
  exact (List.pairwise_and_iff.mpr ⟨h1, nd⟩).imp fun h => by have := h.1; have := h.2; omega

def spO_needs (c : CC) : Sp := fun vs H Q _ => ∃ (o B q : Addr) (bel : List (Int × Nat)) (told : Nat) (some_ : List Int), vs = [.ref o, .ref q] ∧ OrdAt c H o B bel told ∧ H q = some (lI some_) ∧
  some_.Nodup ∧ some_.length ≤ 4000 ∧ (∀ x ∈ some_, (FL.aget bel x).isSome = true) ∧ Q .non H
theorem ok_O_needs (T : Tx K mg c) (D : MD K c.O "need_things" "Order.need_things" sO_need_things) (M : MOk P w K mg base CX0 c.O "need_thing" ["self", "one"] 2 (spO_need c)) : MOk P w K mg base CX0 c.O "need_things" ["self", "some"] 3 (spO_needs c) := by
  obtain ⟨f1, fd1, m1, b1, F1⟩ := M
  have sc : FnScope ["self", "some", "one"] ["self", "some"] (defScope sO_need_things) := ⟨rfl, rfl, rfl, by decide +kernel, rfl, by decide +kernel, by decide +kernel⟩
  refine D.ok sc (fun _ _ _ _ _ _ us hl => match us, hl with | [_, _], _ => rfl) (fun vs H Q E h => ?_) (fun f cdv A outer s H vs Q E hr h => ?_)
  · obtain ⟨o, B, q, bel, told, some_, rfl, _⟩ := h; rfl
  · obtain ⟨o, B, q, bel, told, ns, rfl, O, hq, nd, hl, hx, k⟩ := h
    obtain ⟨dx, ho⟩ := O.ob
    refine ⟨_, pss_cons (ps_if (pt_not (pt_val (pe_callB call_isi (by rfl) T.zIsi PyProof.Rows.boot_isinstance (pa_cons (pv 1) (pa_cons (pe_bltn (by rfl) T.zList (by decide +kernel) (v := .ty "list") rfl) pa_nil))))) (pss_one ps_never) pss_nil)
      (pss_cons (ps_for PassesOwn.never rfl (pi_list (pv 1)) (pg_name (i := 2) sc.nd rfl (Or.inl rfl)) (pss_one (ps_expr (pe_meth (pv 0) T.clO m1 F1 hr b1 .nil pass0 (pa_cons (pv 2) pa_nil)))))
      (pss_one (ps_if (pt_cmpR op_lt (RZ.pe_lenSetI (by rfl) T.zLen (by rfl) T.zSet (pv 1)) (pe_callB call_len_seq (by rfl) T.zLen PySem.boot_len (pa_cons (pv 1) pa_nil)) (nomark _)) (pss_one ps_never) pss_nil))), ?_⟩
    refine ⟨_, rfl, _, _, .type "list", .type "list", true, rfl, .ty "list", .base (.lst hq), kit_ty (by decide +kernel), true, rfl, ?_⟩
    refine iteF ?_
    refine ⟨_, rfl, q, rfl, ⟨_, SqL.of hq⟩, for_list (K := K) (a := q) (xs := ns.map V.int) (fun i σ H2 => H2 = H ∧ ∃ v : Option V, σ = [some (.ref o), some (.ref q), v]) ⟨rfl, none, rfl⟩ (fun i σ H2 _ ⟨e, _⟩ => e ▸ SqL.of hq) ?_ ?_⟩
    · rintro i y σ H2 hi ⟨rfl, v, rfl⟩
      obtain ⟨z, rfl, hz⟩ := itemI hi
      refine ⟨_, rfl, o, dx, _, rfl, ho, fO_no ⟨by decide +kernel, by decide +kernel⟩, _, rfl, o, B, bel, told, z, rfl, O, hx z (memI hz), ?_⟩
      exact ⟨rfl, _, rfl⟩
    · rintro σ H2 ⟨rfl, v, rfl⟩
      refine ⟨_, rfl, q, ns, rfl, SqL.of hq, nd, hl, _, rfl, q, _, rfl, Or.inl (SqL.of hq), _, _, rfl, rfl, _, rfl, ?_⟩
      rw [List.length_map, decide_eq_false (Int.lt_irrefl _)]
      exact iteF k

def spO_put (c : CC) : Sp := fun vs H Q _ => ∃ (o B q : Addr) (bel : List (Int × Nat)) (told : Nat) (some_ : List Int), vs = [.ref o, .ref q] ∧ OrdAt c H o B bel told ∧ H q = some (lI some_) ∧
  some_.Nodup ∧ (∀ x ∈ some_, (FL.aget bel x).isSome = true) ∧ (∀ x ∈ some_, 0 ≤ x ∧ x ≤ 100000) ∧ some_.length ≤ 4000 ∧ bel.length < 24 ∧
  ∀ H', OrdAt c H' o B (FL.aput bel told (FL.marksOf bel some_)) (told + 1) → (∀ b u, b ≠ o → b ≠ B → H b = some u → H' b = some u) → Q (.int (told : Int)) H'
theorem ok_O_put (T : Tx K mg c) (D : MD K c.O "put" "Order.put" sO_put) (M : MOk P w K mg base CX0 c.O "need_things" ["self", "some"] 3 (spO_needs c)) (G : GOk P w K mg base CX0 "bit_of" ["thing"] 1 spBit) : MOk P w K mg base CX0 c.O "put" ["self", "some"] 4 (spO_put c) := by
  obtain ⟨f1, fd1, m1, b1, F1⟩ := M
  obtain ⟨f2, fd2, g2, k2, b2, F2⟩ := G
  obtain ⟨t24, mt⟩ := T.most
  have sc : FnScope ["self", "some", "marks", "one"] ["self", "some"] (defScope sO_put) := ⟨rfl, rfl, rfl, by decide +kernel, rfl, by decide +kernel, by decide +kernel⟩
  refine D.ok sc (fun _ _ _ _ _ _ us hl => match us, hl with | [_, _], _ => rfl) (fun vs H Q E h => ?_) (fun f cdv A outer s H vs Q E hr h => ?_)
  · obtain ⟨o, B, q, bel, told, some_, rfl, _⟩ := h; rfl
  · obtain ⟨o, B, q, bel, told, ns, rfl, O, hq, nd, hx, hrng, hl4, hl, k⟩ := h
    obtain ⟨⟨dx, ho⟩, hB⟩ := id O
    have hu := hu_of hr
    have hr1 : Room 1 _ := hr.mono (by decide)
    have noB : o ≠ B := ne_of ho hB (by intro z; cases z)
    refine ⟨_, pss_cons (ps_expr (pe_meth (pv 0) T.clO m1 F1 hr b1 .nil pass0 (pa_cons (pv 1) pa_nil)))
      (pss_cons (ps_if (pt_cmpR op_ge (pe_callB call_lenD (by rfl) T.zLen PySem.boot_len (pa_cons (pe_fld (pv 0) rfl) pa_nil)) (pe_glob (by rfl) mt (v := .int 24) ⟨t24, rfl⟩) (nomark _)) (pss_one ps_never) pss_nil)
      (pss_cons (ps_set (i := 2) sc.nd rfl (Or.inl rfl) pe_int)
      (pss_cons (ps_for PassesOwn.never rfl (pi_list (pv 1)) (pg_name (i := 3) sc.nd rfl (Or.inl rfl))
        (pss_one (ps_set (i := 2) sc.nd rfl (Or.inl rfl) (pe_op op_or (pe_op op_or (pv 2) (pe_call F2 hr1 (by rfl) g2 k2 b2 .nil pass0 (pa_cons (pv 3) pa_nil))) (pe_dget hu (pe_fld (pv 0) rfl) (pv 3) (fun _ _ => rfl))))))
      (pss_cons (ps_dput hu (pe_fld (pv 0) rfl) (pe_fld (pv 0) rfl) (pv 2) rfl)
      (pss_cons (ps_fld (pv 0) (pe_op op_add (pe_fld (pv 0) rfl) pe_int) rfl)
      (pss_one (ps_ret (pe_op op_sub (pe_fld (pv 0) rfl) pe_int)))))))), ?_⟩
    refine ⟨_, rfl, o, dx, _, rfl, ho, fO_no ⟨by decide +kernel, by decide +kernel⟩, _, rfl, o, B, q, bel, told, ns, rfl, O, hq, nd, hl4, hx, ?_⟩
    refine ⟨_, rfl, o, c.O, dx, _, _, rfl, ho, T.clO, T.nOb, fO_below, B, _, rfl, hB, _, _, rfl, rfl, _, rfl, ?_⟩
    rw [len_kvI, decide_eq_false (by omega)]
    refine iteF ?_
    refine ⟨_, rfl, q, rfl, ⟨_, SqL.of hq⟩, for_list (K := K) (a := q) (xs := ns.map V.int) (fun i σ H2 => H2 = H ∧ ∃ v : Option V, σ = [some (.ref o), some (.ref q), some (.int (FL.marksOf bel (ns.take i) : Nat)), v]) ⟨rfl, none, rfl⟩ (fun i σ H2 _ ⟨e, _⟩ => e ▸ SqL.of hq) ?_ ?_⟩
    · rintro i y σ H2 hi ⟨rfl, v, rfl⟩
      obtain ⟨z, rfl, hz⟩ := itemI hi
      obtain ⟨m, hm⟩ := Option.isSome_iff_exists.mp (hx z (memI hz))
      obtain ⟨z0, z1⟩ := hrng z (memI hz)
      refine ⟨_, rfl, _, rfl, z, rfl, z0, z1, _, _, rfl, rfl, _, rfl, o, c.O, dx, _, _, rfl, ho, T.clO, T.nOb, fO_below, _, rfl, B, .int (m : Int), rfl, ?_, _, _, rfl, rfl, ?_⟩
      · have g := DGet.k (k := Sum.inl z) hB
        rw [valV_kvI, hm] at g
        exact g
      · refine ⟨rfl, some (.int z), ?_⟩
        have e : FL.marksOf bel (ns.take (i + 1)) = FL.marksOf bel (ns.take i) ||| 2 ^ z.toNat ||| m := by
          unfold FL.marksOf
          rw [List.take_add_one, hz]
          show List.foldl _ 0 (ns.take i ++ [z]) = _
          rw [List.foldl_append, List.foldl_cons, List.foldl_nil, hm, Option.getD_some]
        show [some (V.ref o), some (V.ref q), some (V.int (Builtin.bitOr (Builtin.bitOr (FL.marksOf bel (ns.take i) : Nat) ((2 ^ z.toNat : Nat) : Int)) (m : Int))), some (V.int z)] = _
        rw [Bits.bitOr_pp (Int.natCast_nonneg _) (Int.natCast_nonneg _), Bits.bitOr_pp (Int.natCast_nonneg _) (Int.natCast_nonneg _), Int.toNat_natCast, Int.toNat_natCast, Int.toNat_natCast, Int.toNat_natCast, ← e]
    · rintro σ H2 ⟨rfl, v, rfl⟩
      rw [List.length_map, List.take_length]
      refine ⟨_, rfl, _, rfl, o, c.O, dx, _, _, rfl, ho, T.clO, T.nOb, fO_below, _, rfl, o, c.O, dx, _, _, rfl, ho, T.clO, T.nOt, fO_told, B, _, rfl, DPut.k (k := Sum.inl (told : Int)) hB (by rw [len_kvI]; exact small1000 (by omega)), ?_⟩
      rw [show (V.int (FL.marksOf bel ns : Nat)) = (fun m : Nat => V.int (m : Int)) (FL.marksOf bel ns) from rfl, putK_kvI]
      have ho' : ∀ u, (upd H2 B u) o = some (.ins c.O dx (fO B told)) := fun u => by rw [upd_ne noB]; exact ho
      refine ⟨_, rfl, o, c.O, dx, _, _, rfl, ho' _, T.clO, T.nOt, fO_told, _, _, rfl, rfl, _, rfl, o, c.O, dx, _, rfl, ho' _, T.clO, T.nOt, (by show 2 < 1000; decide), ?_⟩
      have e1 : putF ("told" : Str) (V.int ((told : Int) + 1)) (fO B told) = fO B (told + 1) := by
        rw [show ((told : Int) + 1) = ((told + 1 : Nat) : Int) from rfl]; exact fO_put
      rw [e1]
      refine ⟨_, rfl, o, c.O, dx, _, _, rfl, upd_same, T.clO, T.nOt, fO_told, _, _, rfl, rfl, ?_⟩
      have e2 : (((told + 1 : Nat) : Int) - 1) = (told : Int) := by omega
      show Q (.int (((told + 1 : Nat) : Int) - 1)) _
      rw [e2]
      refine k _ ⟨⟨dx, upd_same⟩, by rw [upd_ne noB.symm, upd_same]⟩ fun b u n1 n2 e => ?_
      rw [upd_ne n1, upd_ne n2]; exact e
end
end FW

set_option maxHeartbeats 4000000
/-! The walk 3: Order: take, things, lies_above, are_apart. -/
namespace FW
open PySem PySem.Spec PyProof.Rows L2
section
variable {P : Program} {w : World} {K : PySem.W.Frag} {mg : Str → Option Value} {base : Heap} {c : CC}

theorem kvI_keys {β : Type} {f : β → V} {d : List (Int × β)} : (kvI f d).map (fun kv => kV kv.1) = (d.map (·.1)).map V.int := by
  unfold kvI
  rw [List.map_map, List.map_map]; rfl
theorem kvI_keyS {β : Type} {f : β → V} {d : List (Int × β)} : (kvI f d).map (·.1) = (d.map (·.1)).map Sum.inl := by
  unfold kvI
  rw [List.map_map, List.map_map]; rfl
/-- d[k] = v where the i-th entry has the key k -/
theorem aput_at {β : Type} {l1 l2 : List (Int × β)} {k : Int} {x v : β} (h : ((l1 ++ (k, x) :: l2).map (·.1)).Nodup) : FL.aput (l1 ++ (k, x) :: l2) k v = l1 ++ (k, v) :: l2 := by
  rw [List.map_append, List.map_cons, List.nodup_append] at h
  obtain ⟨h1, h2, h3⟩ := h
  obtain ⟨h4, _⟩ := List.nodup_cons.mp h2
  have m1 : ∀ p ∈ l1, p.1 ≠ k := fun p hp e => h3 p.1 (List.mem_map.mpr ⟨p, hp, rfl⟩) k (List.mem_cons_self) e
  have m2 : ∀ p ∈ l2, p.1 ≠ k := fun p hp e => h4 (List.mem_map.mpr ⟨p, hp, e⟩)
  unfold FL.aput
  rw [if_pos (by rw [List.any_append, List.any_cons]; simp)]
  rw [List.map_append, List.map_cons]
  congr 1
  · refine (List.map_congr_left fun p hp => ?_).trans (List.map_id _)
    show (if p.1 = k then (p.1, v) else p) = p
    rw [if_neg (m1 p hp)]
  · congr 1
    · show (if k = k then (k, v) else (k, x)) = _
      rw [if_pos rfl]
    · refine (List.map_congr_left fun p hp => ?_).trans (List.map_id _)
      show (if p.1 = k then (p.1, v) else p) = p
      rw [if_neg (m2 p hp)]
theorem take_drop_map {α : Type} {f : α → α} {d : List α} {i : Nat} {p : α} (h : d[i]? = some p) : (d.take i).map f ++ d.drop i = (d.take i).map f ++ p :: d.drop (i + 1) ∧ (d.take (i + 1)).map f ++ d.drop (i + 1) = (d.take i).map f ++ f p :: d.drop (i + 1) := by
  obtain ⟨hi, e⟩ := List.getElem?_eq_some_iff.mp h
  refine ⟨by rw [List.drop_eq_getElem_cons hi, e], ?_⟩
  rw [List.take_add_one, h]
  show (d.take i ++ [p]).map f ++ _ = _
  rw [List.map_append, List.append_assoc]; rfl

def spO_take (c : CC) : Sp := fun vs H Q _ => ∃ (o B : Addr) (bel : List (Int × Nat)) (told : Nat) (x : Int), vs = [.ref o, .int x] ∧ OrdAt c H o B bel told ∧ (FL.aget bel x).isSome = true ∧ (bel.map (·.1)).Nodup ∧
  0 ≤ x ∧ x ≤ 100000 ∧ bel.length ≤ 1000 ∧ ∀ H', OrdAt c H' o B (FL.takeB bel x) told → (∀ b u, b ≠ B → H b = some u → H' b = some u) → Q .non H'
theorem ok_O_take (T : Tx K mg c) (D : MD K c.O "take" "Order.take" sO_take) (M : MOk P w K mg base CX0 c.O "need_thing" ["self", "one"] 2 (spO_need c)) (G : GOk P w K mg base CX0 "without" ["marks", "thing"] 2 spWithout) : MOk P w K mg base CX0 c.O "take" ["self", "one"] 3 (spO_take c) := by
  obtain ⟨f1, fd1, m1, b1, F1⟩ := M
  obtain ⟨f2, fd2, g2, k2, b2, F2⟩ := G
  have sc : FnScope ["self", "one", "other"] ["self", "one"] (defScope sO_take) := ⟨rfl, rfl, rfl, by decide +kernel, rfl, by decide +kernel, by decide +kernel⟩
  refine D.ok sc (fun _ _ _ _ _ _ us hl => match us, hl with | [_, _], _ => rfl) (fun vs H Q E h => ?_) (fun f cdv A outer s H vs Q E hr h => ?_)
  · obtain ⟨o, B, bel, told, x, rfl, _⟩ := h; rfl
  · obtain ⟨o, B, bel, told, x, rfl, O, hx, nd, x0, x1, hl, k⟩ := h
    obtain ⟨⟨dx, ho⟩, hB⟩ := id O
    have hu := hu_of hr
    have noB : o ≠ B := ne_of ho hB (by intro z; cases z)
    refine ⟨_, pss_cons (ps_expr (pe_meth (pv 0) T.clO m1 F1 hr b1 .nil pass0 (pa_cons (pv 1) pa_nil)))
      (pss_cons (ps_expr (pe_dpop1 (pe_fld (pv 0) rfl) (pv 1) ⟨by rfl, by rfl, by rfl, by rfl⟩))
      (pss_one (ps_for PassesOwn.never rfl (pi_list (pe_callTy (call_listD rfl) (by rfl) T.zList PyProof.Rows.boot_list (pa_cons (pe_fld (pv 0) rfl) pa_nil))) (pg_name (i := 2) sc.nd rfl (Or.inl rfl))
        (pss_one (ps_dput hu (pe_fld (pv 0) rfl) (pv 2) (pe_call F2 hr (by rfl) g2 k2 b2 .nil pass0 (pa_cons (pe_dget hu (pe_fld (pv 0) rfl) (pv 2) (fun _ _ => rfl)) (pa_cons (pv 1) pa_nil))) rfl))))), ?_⟩
    refine ⟨_, rfl, o, dx, _, rfl, ho, fO_no ⟨by decide +kernel, by decide +kernel⟩, _, rfl, o, B, bel, told, x, rfl, O, hx, ?_⟩
    obtain ⟨m, hm⟩ := Option.isSome_iff_exists.mp hx
    refine ⟨_, rfl, o, c.O, dx, _, _, rfl, ho, T.clO, T.nOb, fO_below, B, rfl, Or.inl ⟨_, Or.inl hB⟩, _, rfl, _, Sum.inl x, .int (m : Int), hB, rfl, by rw [valV_kvI, hm]; rfl, ?_⟩
    rw [dropK_kvI]
    have ho' : ∀ u, (upd H B u) o = some (.ins c.O dx (fO B told)) := fun u => by rw [upd_ne noB]; exact ho
    refine ⟨_, rfl, o, c.O, dx, _, _, rfl, ho' _, T.clO, T.nOb, fO_below, B, _, rfl, Or.inl upd_same, fun p hp => ?_⟩
    rw [kvI_keys]
    have npB : p ≠ B := fun e => by rw [e, upd_same] at hp; cases hp
    have npo : o ≠ p := fun e => by rw [← e, ho' _] at hp; cases hp
    have hp0 : H p = none := by rw [upd_ne npB] at hp; exact hp
    have nd' := FL.adel_nodup (k := x) nd
    refine ⟨p, rfl, ⟨_, SqL.of upd_same⟩, for_list (K := K) (a := p) (xs := ((FL.adel bel x).map (·.1)).map V.int)
      (fun i σ H2 => (∃ v : Option V, σ = [some (.ref o), some (.int x), v]) ∧ H2 o = some (.ins c.O dx (fO B told)) ∧ H2 p = some (lI ((FL.adel bel x).map (·.1))) ∧
        H2 B = some (dIN (((FL.adel bel x).take i).map (fun p => (p.1, FL.clearBit p.2 x)) ++ (FL.adel bel x).drop i)) ∧ ∀ b u, b ≠ B → H b = some u → H2 b = some u)
      ⟨⟨none, rfl⟩, by rw [upd_ne npo]; exact ho' _, upd_same, by rw [upd_ne npB.symm, upd_same]; rfl, fun b u n e => by rw [upd_ne (ne_of_none e hp0), upd_ne n]; exact e⟩ (fun i σ H2 _ ⟨_, _, e, _⟩ => SqL.of e) ?_ ?_⟩
    · rintro i y σ H2 hi ⟨⟨v, rfl⟩, h1, h2, h3, h4⟩
      obtain ⟨z, rfl, hz⟩ := itemI hi
      rw [List.getElem?_map] at hz
      obtain ⟨q, hq, eq⟩ := Option.map_eq_some_iff.mp hz
      obtain ⟨z', mz⟩ := q
      have eq : z' = z := eq
      subst eq
      obtain ⟨e1, e2⟩ := take_drop_map (f := fun p : Int × Nat => (p.1, FL.clearBit p.2 x)) hq
      rw [e1] at h3
      have nd2 : ((((FL.adel bel x).take i).map (fun p => (p.1, FL.clearBit p.2 x)) ++ (z', mz) :: (FL.adel bel x).drop (i + 1)).map (·.1)).Nodup := by
        rw [← e1, List.map_append, List.map_map]
        show (((FL.adel bel x).take i).map (·.1) ++ ((FL.adel bel x).drop i).map (·.1)).Nodup
        rw [← List.map_append, List.take_append_drop]; exact nd'
      have get : FL.aget (((FL.adel bel x).take i).map (fun p => (p.1, FL.clearBit p.2 x)) ++ (z', mz) :: (FL.adel bel x).drop (i + 1)) z' = some mz := by
        have := FL.aget_aput (((FL.adel bel x).take i).map (fun p => (p.1, FL.clearBit p.2 x)) ++ (z', mz) :: (FL.adel bel x).drop (i + 1)) z' z' mz
        rw [aput_at nd2, if_pos rfl] at this
        exact this
      refine ⟨_, rfl, o, c.O, dx, _, _, rfl, h1, T.clO, T.nOb, fO_below, _, rfl, B, .int (mz : Int), rfl, ?_, _, rfl, mz, x, rfl, x0, x1, ?_⟩
      · have g := DGet.k (k := Sum.inl z') h3
        rw [valV_kvI, get] at g
        exact g
      · refine ⟨_, rfl, o, c.O, dx, _, _, rfl, h1, T.clO, T.nOb, fO_below, _, rfl, B, _, rfl, DPut.k (k := Sum.inl z') h3 ?_, ?_⟩
        · rw [len_kvI, ← e1, List.length_append, List.length_map, ← List.length_append, List.take_append_drop]
          refine small1000 (Nat.le_trans (List.length_filter_le _ _) hl)
        · rw [show (V.int (FL.clearBit mz x : Nat)) = (fun m : Nat => V.int (m : Int)) (FL.clearBit mz x) from rfl, putK_kvI, aput_at nd2]
          refine ⟨⟨_, rfl⟩, by rw [upd_ne noB]; exact h1, by rw [upd_ne npB]; exact h2, by rw [upd_same, e2], fun b u n e => by rw [upd_ne n]; exact h4 b u n e⟩
    · rintro σ H2 ⟨⟨v, rfl⟩, h1, h2, h3, h4⟩
      rw [List.length_map, List.length_map, List.take_length, List.drop_length, List.append_nil] at h3
      exact k H2 ⟨⟨dx, h1⟩, h3⟩ h4

def spO_things (c : CC) : Sp := fun vs H Q _ => ∃ (o B : Addr) (bel : List (Int × Nat)) (told : Nat), vs = [.ref o] ∧ OrdAt c H o B bel told ∧ (bel.map (·.1)).Pairwise (· < ·) ∧ bel.length < 64 ∧
  ∀ p, H p = none → Q (.ref p) (upd H p (lI (bel.map (·.1))))
theorem ok_O_things (T : Tx K mg c) (D : MD K c.O "things" "Order.things" sO_things) : MOk P w K mg base CX0 c.O "things" ["self"] 1 (spO_things c) := by
  refine D.ok (N := ["self"]) ⟨rfl, rfl, rfl, by decide +kernel, rfl, by decide +kernel, by decide +kernel⟩ (fun _ _ _ _ _ _ us hl => match us, hl with | [_], _ => rfl) (fun vs H Q E h => ?_) (fun f cdv A outer s H vs Q E hr h => ?_)
  · obtain ⟨o, B, bel, told, rfl, _⟩ := h; rfl
  · obtain ⟨o, B, bel, told, rfl, ⟨⟨dx, ho⟩, hB⟩, hs, hl, k⟩ := h
    refine ⟨_, pss_one (ps_ret (pe_callB (call_sortedDI rfl) (by rfl) T.zSorted PyProof.Rows.boot_sorted (pa_cons (pe_fld (pv 0) rfl) pa_nil))), ?_⟩
    refine ⟨_, rfl, o, c.O, dx, _, _, rfl, ho, T.clO, T.nOb, fO_below, B, _, bel.map (·.1), rfl, Or.inl hB, kvI_keyS, by rw [List.length_map]; exact hl, fun ys p hp hy hn => ?_⟩
    rw [srt_perm hp hy hs]
    exact k p hn
def spO_lies (c : CC) : Sp := fun vs H Q _ => ∃ (o B : Addr) (bel : List (Int × Nat)) (told : Nat) (x y : Int), vs = [.ref o, .int x, .int y] ∧ OrdAt c H o B bel told ∧ (FL.aget bel x).isSome = true ∧ 0 ≤ y ∧ Q (.bl (FL.liesB bel x y)) H
theorem ok_O_lies (T : Tx K mg c) (D : MD K c.O "lies_above" "Order.lies_above" sO_lies_above) (G : GOk P w K mg base CX0 "has" ["marks", "thing"] 1 spHas) : MOk P w K mg base CX0 c.O "lies_above" ["self", "one", "other"] 2 (spO_lies c) := by
  obtain ⟨f2, fd2, g2, k2, b2, F2⟩ := G
  refine D.ok (N := ["self", "one", "other"]) ⟨rfl, rfl, rfl, by decide +kernel, rfl, by decide +kernel, by decide +kernel⟩ (fun _ _ _ _ _ _ us hl => match us, hl with | [_, _, _], _ => rfl) (fun vs H Q E h => ?_) (fun f cdv A outer s H vs Q E hr h => ?_)
  · obtain ⟨o, B, bel, told, x, y, rfl, _⟩ := h; rfl
  · obtain ⟨o, B, bel, told, x, y, rfl, ⟨⟨dx, ho⟩, hB⟩, hx, hy, k⟩ := h
    have hu := hu_of hr
    obtain ⟨m, hm⟩ := Option.isSome_iff_exists.mp hx
    refine ⟨_, pss_one (ps_ret (pe_call F2 hr (by rfl) g2 k2 b2 .nil pass0 (pa_cons (pe_dget hu (pe_fld (pv 0) rfl) (pv 1) (fun _ _ => rfl)) (pa_cons (pv 2) pa_nil)))), ?_⟩
    refine ⟨_, rfl, o, c.O, dx, _, _, rfl, ho, T.clO, T.nOb, fO_below, _, rfl, B, .int (m : Int), rfl, ?_, _, rfl, m, y, rfl, hy, ?_⟩
    · have g := DGet.k (k := Sum.inl x) hB
      rw [valV_kvI, hm] at g
      exact g
    · unfold FL.liesB at k
      rw [hm] at k
      exact k
def spO_apart (c : CC) : Sp := fun vs H Q _ => ∃ (o B : Addr) (bel : List (Int × Nat)) (told : Nat) (x y : Int), vs = [.ref o, .int x, .int y] ∧ OrdAt c H o B bel told ∧ (FL.aget bel x).isSome = true ∧ (FL.aget bel y).isSome = true ∧ 0 ≤ x ∧ 0 ≤ y ∧
  Q (.bl (decide (x ≠ y) && (!FL.liesB bel x y && !FL.liesB bel y x))) H
theorem ok_O_apart (T : Tx K mg c) (D : MD K c.O "are_apart" "Order.are_apart" sO_are_apart) (M : MOk P w K mg base CX0 c.O "lies_above" ["self", "one", "other"] 2 (spO_lies c)) : MOk P w K mg base CX0 c.O "are_apart" ["self", "one", "other"] 3 (spO_apart c) := by
  obtain ⟨f1, fd1, m1, b1, F1⟩ := M
  refine D.ok (N := ["self", "one", "other"]) ⟨rfl, rfl, rfl, by decide +kernel, rfl, by decide +kernel, by decide +kernel⟩ (fun _ _ _ _ _ _ us hl => match us, hl with | [_, _, _], _ => rfl) (fun vs H Q E h => ?_) (fun f cdv A outer s H vs Q E hr h => ?_)
  · obtain ⟨o, B, bel, told, x, y, rfl, _⟩ := h; rfl
  · obtain ⟨o, B, bel, told, x, y, rfl, O, hx, hy, x0, y0, k⟩ := h
    obtain ⟨dx, ho⟩ := O.ob
    refine ⟨_, pss_one (ps_ret (pe_and (pe_cmp (pc_neI (pv 1) (pv 2)) rfl) (pe_and (pe_not (pe_meth (pv 0) T.clO m1 F1 hr b1 .nil pass0 (pa_cons (pv 1) (pa_cons (pv 2) pa_nil)))) (pe_one (pe_not (pe_meth (pv 0) T.clO m1 F1 hr b1 .nil pass0 (pa_cons (pv 2) (pa_cons (pv 1) pa_nil)))))))), ?_⟩
    refine ⟨_, rfl, _, rfl, _, _, rfl, rfl, _, rfl, ?_⟩
    refine ite2 (fun e => ?_) (fun e => ?_)
    · have ne : x ≠ y := by
        intro z; rw [z] at e; simp at e
      rw [decide_eq_true ne, Bool.true_and] at k
      refine ⟨_, rfl, o, dx, _, rfl, ho, fO_no ⟨by decide +kernel, by decide +kernel⟩, _, rfl, _, rfl, o, B, bel, told, x, y, rfl, O, hx, y0, _, rfl, _, rfl, ?_⟩
      refine ite2 (fun e1 => ?_) (fun e1 => ?_)
      · rw [e1, Bool.true_and] at k
        exact ⟨_, rfl, o, dx, _, rfl, ho, fO_no ⟨by decide +kernel, by decide +kernel⟩, _, rfl, _, rfl, o, B, bel, told, y, x, rfl, O, hy, x0, _, rfl, k⟩
      · rw [Bool.eq_false_iff.mpr e1, Bool.false_and] at k
        exact k
    · have e2 : decide (x ≠ y) = false := by
        cases q : decide (x ≠ y) with
        | false => rfl
        | true => exact absurd (by have := of_decide_eq_true q; simp [this]) e
      rw [e2, Bool.false_and] at k
      exact k
end
end FW

set_option maxHeartbeats 4000000
/-! The walk 4: lists of lists and rows of pairs as data; Links: made, link, climbed. -/
namespace FW
open PySem PySem.Spec PyProof.Rows L2

/-! ### data -/
def iD (l : List Int) : PyData := .list (l.map .int)
def iiD (ll : List (List Int)) : PyData := .list (ll.map iD)
def pD (p : Int × Int) : PyData := .tuple [.int p.1, .int p.2]
def rowD (r : FL.Row) : PyData := .list (r.map pD)
theorem lay_all {l : List PyData} (h : ∀ d ∈ l, d.canLay0 = true) : PyData.canLayAll0 l = true := by
  induction l with
  | nil => rfl
  | cons a r ih =>
    unfold PyData.canLayAll0
    rw [h a List.mem_cons_self, ih fun d hd => h d (List.mem_cons_of_mem _ hd)]; rfl
theorem depth_all {l : List PyData} {n : Nat} (h : ∀ d ∈ l, d.depth ≤ n) : PyData.depthAll l ≤ n := by
  induction l with
  | nil => exact Nat.zero_le _
  | cons a r ih =>
    unfold PyData.depthAll
    exact Nat.max_le.mpr ⟨h a List.mem_cons_self, ih fun d hd => h d (List.mem_cons_of_mem _ hd)⟩
theorem shaped_of {d : PyData} (h1 : d.canLay0 = true) (h2 : d.depth ≤ 64) : SeqAt.shaped d = true := by
  unfold SeqAt.shaped
  rw [h1, decide_eq_true h2]; rfl
theorem lay_list {l : List PyData} (h : ∀ d ∈ l, d.canLay0 = true) : (PyData.list l).canLay0 = true := by
  unfold PyData.canLay0; exact lay_all h
theorem lay_tuple {l : List PyData} (h : ∀ d ∈ l, d.canLay0 = true) : (PyData.tuple l).canLay0 = true := by
  unfold PyData.canLay0; exact lay_all h
theorem depth_list {l : List PyData} {n : Nat} (h : ∀ d ∈ l, d.depth ≤ n) : (PyData.list l).depth ≤ n + 1 := by
  unfold PyData.depth; exact Nat.succ_le_succ (depth_all h)
theorem depth_tuple {l : List PyData} {n : Nat} (h : ∀ d ∈ l, d.depth ≤ n) : (PyData.tuple l).depth ≤ n + 1 := by
  unfold PyData.depth; exact Nat.succ_le_succ (depth_all h)
theorem int_lay (i : Int) : (PyData.int i).canLay0 = true := by unfold PyData.canLay0; rfl
theorem int_depth (i : Int) : (PyData.int i).depth ≤ 0 := by unfold PyData.depth; exact Nat.le_refl _
theorem iD_ok (l : List Int) : (iD l).canLay0 = true ∧ (iD l).depth ≤ 1 :=
  ⟨lay_list fun d hd => by obtain ⟨i, _, rfl⟩ := List.mem_map.mp hd; exact int_lay i, depth_list fun d hd => by obtain ⟨i, _, rfl⟩ := List.mem_map.mp hd; exact int_depth i⟩
theorem pD_ok (p : Int × Int) : (pD p).canLay0 = true ∧ (pD p).depth ≤ 1 := by
  refine ⟨lay_tuple fun d hd => ?_, depth_tuple fun d hd => ?_⟩
  · rcases List.mem_cons.mp hd with rfl | hd
    · exact int_lay _
    · rw [List.mem_singleton.mp hd]; exact int_lay _
  · rcases List.mem_cons.mp hd with rfl | hd
    · exact int_depth _
    · rw [List.mem_singleton.mp hd]; exact int_depth _
theorem iiD_ok (l : List (List Int)) : (iiD l).canLay0 = true ∧ (iiD l).depth ≤ 2 :=
  ⟨lay_list fun d hd => by obtain ⟨i, _, rfl⟩ := List.mem_map.mp hd; exact (iD_ok i).1, depth_list fun d hd => by obtain ⟨i, _, rfl⟩ := List.mem_map.mp hd; exact (iD_ok i).2⟩
theorem rowD_ok (l : FL.Row) : (rowD l).canLay0 = true ∧ (rowD l).depth ≤ 2 :=
  ⟨lay_list fun d hd => by obtain ⟨i, _, rfl⟩ := List.mem_map.mp hd; exact (pD_ok i).1, depth_list fun d hd => by obtain ⟨i, _, rfl⟩ := List.mem_map.mp hd; exact (pD_ok i).2⟩
theorem iD_sh (l : List Int) : SeqAt.shaped (iD l) = true := shaped_of (iD_ok l).1 (Nat.le_trans (iD_ok l).2 (by decide))
theorem iiD_sh (l : List (List Int)) : SeqAt.shaped (iiD l) = true := shaped_of (iiD_ok l).1 (Nat.le_trans (iiD_ok l).2 (by decide))
theorem rowD_sh (l : FL.Row) : SeqAt.shaped (rowD l) = true := shaped_of (rowD_ok l).1 (Nat.le_trans (rowD_ok l).2 (by decide))
theorem eqvAll_map {α : Type} {f : α → PyData} (hf : ∀ a b, PyData.eqv (f a) (f b) = true ↔ a = b) : ∀ {l m : List α}, PyData.eqvAll (l.map f) (m.map f) = true ↔ l = m
  | [], [] => by unfold PyData.eqvAll; simp
  | [], b :: m => by rw [List.map_nil, List.map_cons]; unfold PyData.eqvAll; simp
  | a :: l, [] => by rw [List.map_nil, List.map_cons]; unfold PyData.eqvAll; simp
  | a :: l, b :: m => by
    rw [List.map_cons, List.map_cons]; unfold PyData.eqvAll
    rw [Bool.and_eq_true, hf a b, eqvAll_map hf, List.cons.injEq]
theorem eqv_int (a b : Int) : PyData.eqv (.int a) (.int b) = true ↔ a = b := by unfold PyData.eqv; exact beq_iff_eq
theorem eqv_iD (a b : List Int) : PyData.eqv (iD a) (iD b) = true ↔ a = b := by unfold iD PyData.eqv; exact eqvAll_map eqv_int
theorem eqv_iiD (a b : List (List Int)) : PyData.eqv (iiD a) (iiD b) = true ↔ a = b := by unfold iiD PyData.eqv; exact eqvAll_map eqv_iD
theorem eqv_pD (a b : Int × Int) : PyData.eqv (pD a) (pD b) = true ↔ a = b := by
  unfold pD PyData.eqv PyData.eqvAll PyData.eqvAll PyData.eqvAll
  rw [Bool.and_true, Bool.and_eq_true, eqv_int, eqv_int, Prod.ext_iff]
theorem eqv_rowD (a b : FL.Row) : PyData.eqv (rowD a) (rowD b) = true ↔ a = b := by unfold rowD PyData.eqv; exact eqvAll_map eqv_pD
theorem eqv_dec {α : Type} [DecidableEq α] {f : α → PyData} (hf : ∀ a b, PyData.eqv (f a) (f b) = true ↔ a = b) (a b : α) : PyData.eqv (f a) (f b) = decide (a = b) := by
  by_cases e : a = b
  · rw [(hf a b).mpr e, decide_eq_true e]
  · rw [decide_eq_false e]
    cases q : PyData.eqv (f a) (f b) with
    | false => rfl
    | true => exact absurd ((hf a b).mp q) e

/-- a list of numbers at p; a list of such lists; a list of pairs -/
def RowT (H : Hp) : List Addr → FL.Row → Prop
  | [], [] => True
  | t :: ts, p :: r => H t = some (.tup [.int p.1, .int p.2]) ∧ RowT H ts r
  | _, _ => False
def RowAt (H : Hp) (p : Addr) (r : FL.Row) : Prop := ∃ ts : List Addr, H p = some (.lst (ts.map V.ref)) ∧ RowT H ts r
theorem RowT.same {H H' : Hp} (s : ∀ b xs, H b = some (.tup xs) → H' b = some (.tup xs)) : ∀ {ts : List Addr} {r : FL.Row}, RowT H ts r → RowT H' ts r
  | [], [], _ => trivial
  | t :: ts, p :: r, h => ⟨s _ _ h.1, RowT.same s h.2⟩
  | [], _ :: _, h => h.elim
  | _ :: _, [], h => h.elim
theorem RowT.len {H : Hp} : ∀ {ts : List Addr} {r : FL.Row}, RowT H ts r → ts.length = r.length
  | [], [], _ => rfl
  | t :: ts, p :: r, h => by rw [List.length_cons, List.length_cons, RowT.len h.2]
  | [], _ :: _, h => h.elim
  | _ :: _, [], h => h.elim
theorem dp_ints {K : PySem.W.Frag} {H : Hp} : ∀ l : List Int, DpAll K H (l.map V.int) (l.map PyData.int)
  | [] => .nil
  | a :: l => .cons (.int a) (dp_ints l)
theorem dp_iD {K : PySem.W.Frag} {H : Hp} {p : Addr} {l : List Int} (h : SqL K H p (l.map V.int)) : Dp K H (.ref p) (iD l) := .lst h (dp_ints l)
theorem dp_rowT {K : PySem.W.Frag} {H : Hp} : ∀ {ts : List Addr} {r : FL.Row}, RowT H ts r → DpAll K H (ts.map V.ref) (r.map pD)
  | [], [], _ => .nil
  | t :: ts, p :: r, h => .cons (.tup (SqT.of h.1) (.cons (.int _) (.cons (.int _) .nil))) (dp_rowT h.2)
  | [], _ :: _, h => h.elim
  | _ :: _, [], h => h.elim
theorem dp_row {K : PySem.W.Frag} {H : Hp} {p : Addr} {r : FL.Row} (h : RowAt H p r) : Dp K H (.ref p) (rowD r) := by
  obtain ⟨ts, h1, h2⟩ := h
  exact .lst (SqL.of h1) (dp_rowT h2)
theorem dp_nil {K : PySem.W.Frag} {H : Hp} {p : Addr} (h : H p = some (.lst [])) : Dp K H (.ref p) (.list []) := .lst (SqL.of h) .nil
theorem row_nil {r : FL.Row} : PyData.eqv (rowD r) (.list []) = decide (r = []) := eqv_dec eqv_rowD r []

section
variable {P : Program} {w : World} {K : PySem.W.Frag} {mg : Str → Option Value} {base : Heap} {c : CC}

def spL_init (c : CC) : Sp := fun vs H Q _ => ∃ (l dx o q : Addr) (ns : List Int), vs = [.ref l, .ref o, .ref q] ∧ H l = some (.ins c.L dx []) ∧ H q = some (lI ns) ∧ ns.length ≤ 1000 ∧
  ∀ (L A E : Addr) (H' : Hp), H L = none → H A = none → H E = none → LnkAt c H' ⟨o, l, L, A, E⟩ ns [] [] → (∀ b u, b ≠ l → H b = some u → H' b = some u) → Q .non H'
theorem ok_L_init (T : Tx K mg c) (D : MD K c.L "__init__" "Links.__init__" sL_init) : MOk P w K mg base CX0 c.L "__init__" ["self", "order", "things"] 1 (spL_init c) := by
  refine D.ok (N := ["self", "order", "things"]) ⟨rfl, rfl, rfl, by decide +kernel, rfl, by decide +kernel, by decide +kernel⟩ (fun _ _ _ _ _ _ us hl => match us, hl with | [_, _, _], _ => rfl) (fun vs H Q E h => ?_) (fun f cdv A outer s H vs Q E hr h => ?_)
  · obtain ⟨l, dx, o, q, ns, rfl, _⟩ := h; rfl
  · obtain ⟨l, dx, o, q, ns, rfl, hl, hq, hn, k⟩ := h
    refine ⟨_, pss_cons (ps_fld (pv 0) (pv 1) rfl) (pss_cons (ps_fld (pv 0) (pe_callTy call_list_of (by rfl) T.zList PyProof.Rows.boot_list (pa_cons (pv 2) pa_nil)) rfl)
      (pss_cons (ps_fld (pv 0) pe_dnewK rfl) (pss_one (ps_fld (pv 0) pe_dnewK rfl)))), ?_⟩
    have nlq : q ≠ l := ne_of hq hl (by intro z; cases z)
    refine ⟨_, rfl, _, rfl, l, c.L, dx, _, rfl, hl, T.clL, T.nLo, (by show 0 < 1000; decide), ?_⟩
    refine ⟨_, rfl, q, _, rfl, Or.inl (SqL.of (by rw [upd_ne nlq]; exact hq)), fun L hL => ?_⟩
    have nL : L ≠ l := fun e => by rw [e, upd_same] at hL; cases hL
    have hL0 : H L = none := by rw [upd_ne nL] at hL; exact hL
    refine ⟨_, rfl, l, c.L, dx, _, rfl, (by rw [upd_ne nL.symm, upd_same]), T.clL, T.nLl, (by show 1 < 1000; decide), ?_⟩
    intro A hA
    have nA : A ≠ l := fun e => by rw [e, upd_same] at hA; cases hA
    rw [upd_ne nA] at hA
    have nAL : A ≠ L := fun e => by rw [e, upd_same] at hA; cases hA
    rw [upd_ne nAL, upd_ne nA] at hA
    refine ⟨_, rfl, l, c.L, dx, _, rfl, (by rw [upd_ne nA.symm, upd_same]), T.clL, T.nLa, (by show 2 < 1000; decide), ?_⟩
    intro E' hE
    have nE : E' ≠ l := fun e => by rw [e, upd_same] at hE; cases hE
    rw [upd_ne nE] at hE
    have nEA : E' ≠ A := fun e => by rw [e, upd_same] at hE; cases hE
    rw [upd_ne nEA, upd_ne nE] at hE
    have nEL : E' ≠ L := fun e => by rw [e, upd_same] at hE; cases hE
    rw [upd_ne nEL, upd_ne nE] at hE
    refine ⟨_, rfl, l, c.L, dx, _, rfl, (by rw [upd_ne nE.symm, upd_same]), T.clL, T.nLb, (by show 3 < 1000; decide), ?_⟩
    refine k L A E' _ hL0 hA hE ⟨⟨dx, ?_⟩, ?_, ?_, ?_, nEA.symm⟩ fun b u n e => ?_
    · rw [upd_same]
      exact congrArg (fun z => some (HO.ins c.L dx z)) fL_mk
    · show upd _ l _ L = _
      rw [upd_ne nL, upd_ne nEL.symm, upd_ne nL, upd_ne nAL.symm, upd_ne nL, upd_same]
    · show upd _ l _ A = _
      rw [upd_ne nA, upd_ne nEA.symm, upd_ne nA, upd_same]; rfl
    · show upd _ l _ E' = _
      rw [upd_ne nE, upd_same]; rfl
    · rw [upd_ne n, upd_ne (ne_of_none e hE), upd_ne n, upd_ne (ne_of_none e hA), upd_ne n, upd_ne (ne_of_none e hL0), upd_ne n]; exact e

def spL_link (c : CC) : Sp := fun vs H Q _ => ∃ (a : LA) (L : List Int) (ab be : List (Int × Int)) (high low : Int), vs = [.ref a.l, .int high, .int low] ∧ LnkAt c H a L ab be ∧ ab.length ≤ 1000 ∧ be.length ≤ 1000 ∧
  ∀ H', LnkAt c H' a L (FL.aput ab low high) (FL.aput be high low) → (∀ b u, b ≠ a.A → b ≠ a.E → H b = some u → H' b = some u) → Q .non H'
theorem ok_L_link (T : Tx K mg c) (D : MD K c.L "link" "Links.link" sL_link) : MOk P w K mg base CX0 c.L "link" ["self", "high", "low"] 1 (spL_link c) := by
  refine D.ok (N := ["self", "high", "low"]) ⟨rfl, rfl, rfl, by decide +kernel, rfl, by decide +kernel, by decide +kernel⟩ (fun _ _ _ _ _ _ us hl => match us, hl with | [_, _, _], _ => rfl) (fun vs H Q E h => ?_) (fun f cdv A outer s H vs Q E hr h => ?_)
  · obtain ⟨a, L, ab, be, high, low, rfl, _⟩ := h; rfl
  · obtain ⟨a, L, ab, be, high, low, rfl, ⟨⟨dx, hl⟩, hL, hA, hE, nAE⟩, z1, z2, k⟩ := h
    have hu := hu_of hr
    have nlA : a.l ≠ a.A := ne_of hl hA (by intro z; cases z)
    have nlE : a.l ≠ a.E := ne_of hl hE (by intro z; cases z)
    have nLA : a.L ≠ a.A := ne_of hL hA (by intro z; cases z)
    have nLE : a.L ≠ a.E := ne_of hL hE (by intro z; cases z)
    refine ⟨_, pss_cons (ps_dput hu (pe_fld (pv 0) rfl) (pv 2) (pv 1) rfl) (pss_one (ps_dput hu (pe_fld (pv 0) rfl) (pv 1) (pv 2) rfl)), ?_⟩
    refine ⟨_, rfl, _, rfl, a.l, c.L, dx, _, _, rfl, hl, T.clL, T.nLa, fL_above, _, rfl, a.A, _, rfl, DPut.k (k := Sum.inl low) hA (by rw [len_kvI]; exact small1000 z1), ?_⟩
    rw [putK_kvI]
    refine ⟨_, rfl, _, rfl, a.l, c.L, dx, _, _, rfl, (by rw [upd_ne nlA]; exact hl), T.clL, T.nLb, fL_beneath, _, rfl, a.E, _, rfl, DPut.k (k := Sum.inl high) (by rw [upd_ne nAE.symm]; exact hE) (by rw [len_kvI]; exact small1000 z2), ?_⟩
    rw [putK_kvI]
    refine k _ ⟨⟨dx, by rw [upd_ne nlE, upd_ne nlA]; exact hl⟩, by rw [upd_ne nLE, upd_ne nLA]; exact hL, by rw [upd_ne nAE, upd_same], upd_same, nAE⟩ fun b u n1 n2 e => ?_
    rw [upd_ne n2, upd_ne n1]; exact e
end
end FW

set_option maxHeartbeats 4000000
/-! The walk 5: Links: climbed. -/
namespace FW
open PySem PySem.Spec PyProof.Rows L2

theorem sc_len {rec : Int → FL.CS → FL.Row × FL.CS} {lies : Int → Int → Bool} {high : Int} {n : Nat} (hrec : ∀ up s, (rec up s).2.ab.length ≤ s.ab.length + n ∧ (rec up s).2.be.length ≤ s.be.length + n) :
    ∀ (todo : List Int) (s : FL.CS), (FL.scan rec lies high todo s).1 ≠ [] → (∀ up s, (rec up s).1 = [] → (rec up s).2.ab = s.ab ∧ (rec up s).2.be = s.be) →
      (FL.scan rec lies high todo s).2.ab.length ≤ s.ab.length + (n + 1) ∧ (FL.scan rec lies high todo s).2.be.length ≤ s.be.length + (n + 1) := by
  intro todo
  induction todo with
  | nil => intro s h; exact absurd rfl h
  | cons low rest ih =>
    intro s
    unfold FL.scan
    by_cases hc : low ∈ s.seen ∨ lies high low = false
    · rw [if_pos hc]; exact ih s
    · rw [if_neg hc]
      cases FL.aget s.ab low with
      | none =>
        intro _ _
        have h1 := FL.aput_len_le s.ab low high
        have h2 := FL.aput_len_le s.be high low
        simp only; omega
      | some up =>
        simp only
        by_cases hr : (rec up ⟨s.ab, s.be, s.seen ++ [low]⟩).1 = []
        · rw [if_pos hr]
          intro h f
          obtain ⟨f1, f2⟩ := f up _ hr
          have := ih _ h f
          rw [f1, f2] at this
          exact this
        · rw [if_neg hr]
          intro _ _
          have h0 := hrec up ⟨s.ab, s.be, s.seen ++ [low]⟩
          simp only at h0
          have h1 := FL.aput_len_le (rec up ⟨s.ab, s.be, s.seen ++ [low]⟩).2.ab low high
          have h2 := FL.aput_len_le (rec up ⟨s.ab, s.be, s.seen ++ [low]⟩).2.be high low
          simp only; omega
theorem sc_keep {rec : Int → FL.CS → FL.Row × FL.CS} {lies : Int → Int → Bool} {high : Int} (f : ∀ up s, (rec up s).1 = [] → (rec up s).2.ab = s.ab ∧ (rec up s).2.be = s.be) :
    ∀ (todo : List Int) (s : FL.CS), (FL.scan rec lies high todo s).1 = [] → (FL.scan rec lies high todo s).2.ab = s.ab ∧ (FL.scan rec lies high todo s).2.be = s.be := by
  intro todo
  induction todo with
  | nil => intro s _; exact ⟨rfl, rfl⟩
  | cons low rest ih =>
    intro s
    unfold FL.scan
    by_cases hc : low ∈ s.seen ∨ lies high low = false
    · rw [if_pos hc]; exact ih s
    · rw [if_neg hc]
      cases FL.aget s.ab low with
      | none => intro h; exact nomatch h
      | some up =>
        simp only
        by_cases hr : (rec up ⟨s.ab, s.be, s.seen ++ [low]⟩).1 = []
        · rw [if_pos hr]
          intro h
          obtain ⟨f1, f2⟩ := f up _ hr
          have := ih _ h
          rw [f1, f2] at this
          exact this
        · rw [if_neg hr]
          intro h; exact nomatch h
theorem cl_keep {lies : Int → Int → Bool} {L : List Int} : ∀ (n : Nat) (high : Int) (s : FL.CS), (FL.climb lies L n high s).1 = [] → (FL.climb lies L n high s).2.ab = s.ab ∧ (FL.climb lies L n high s).2.be = s.be
  | 0, _, _, _ => ⟨rfl, rfl⟩
  | n + 1, high, s, h => sc_keep (fun up s => cl_keep n up s) L s h
theorem cl_len {lies : Int → Int → Bool} {L : List Int} : ∀ (n : Nat) (high : Int) (s : FL.CS), (FL.climb lies L n high s).2.ab.length ≤ s.ab.length + n ∧ (FL.climb lies L n high s).2.be.length ≤ s.be.length + n
  | 0, _, _ => ⟨Nat.le_refl _, Nat.le_refl _⟩
  | n + 1, high, s => by
    by_cases h : (FL.climb lies L (n + 1) high s).1 = []
    · obtain ⟨h1, h2⟩ := cl_keep _ _ _ h
      rw [h1, h2]; omega
    · exact sc_len (fun up s => cl_len n up s) L s h (fun up s => cl_keep n up s)

structure ClPre (c : CC) (H : Hp) (a : LA) (B : Addr) (bel : List (Int × Nat)) (told : Nat) (L : List Int) (ab be : List (Int × Int)) (S : Addr) (seen : List Int) (n : Nat) : Prop where
  O : OrdAt c H a.o B bel told
  N : LnkAt c H a L ab be
  hS : H S = some (dS seen)
  nSA : S ≠ a.A
  nSE : S ≠ a.E
  nSB : S ≠ B
  nBA : B ≠ a.A
  nBE : B ≠ a.E
  hk : ∀ x ∈ L, (FL.aget bel x).isSome = true ∧ 0 ≤ x
  hab : ∀ l h, FL.aget ab l = some h → h ∈ L
  z1 : ab.length + n ≤ 900
  z2 : be.length + n ≤ 900
  z3 : L.length ≤ 100
  nd : seen.Nodup
  sub : ∀ x ∈ seen, x ∈ L
  us : FL.unseen L seen < n
def Keep3 (x y z : Addr) (H H' : Hp) : Prop := ∀ b u, b ≠ x → b ≠ y → b ≠ z → H b = some u → H' b = some u

def spClimb (c : CC) (n : Nat) : Sp := fun vs H Q _ => ∃ (a : LA) (B : Addr) (bel : List (Int × Nat)) (told : Nat) (L : List Int) (ab be : List (Int × Int)) (S : Addr) (seen : List Int) (high : Int),
  vs = [.ref a.l, .int high, .ref S] ∧ ClPre c H a B bel told L ab be S seen n ∧ high ∈ L ∧
  ∀ H' p, H p = none → RowAt H' p (FL.climb (FL.liesB bel) L n high ⟨ab, be, seen⟩).1 →
    LnkAt c H' a L (FL.climb (FL.liesB bel) L n high ⟨ab, be, seen⟩).2.ab (FL.climb (FL.liesB bel) L n high ⟨ab, be, seen⟩).2.be → H' S = some (dS (FL.climb (FL.liesB bel) L n high ⟨ab, be, seen⟩).2.seen) →
    Keep3 a.A a.E S H H' → Q (.ref p) H'

section
variable {P : Program} {w : World} {K : PySem.W.Frag} {mg : Str → Option Value} {base : Heap} {c : CC}
theorem OrdAt.keep {H H' : Hp} {o B x y z : Addr} {bel : List (Int × Nat)} {told : Nat} (O : OrdAt c H o B bel told) (k : Keep3 x y z H H') (h1 : o ≠ x ∧ o ≠ y ∧ o ≠ z) (h2 : B ≠ x ∧ B ≠ y ∧ B ≠ z) : OrdAt c H' o B bel told := by
  obtain ⟨⟨dx, ho⟩, hB⟩ := O
  exact ⟨⟨dx, k _ _ h1.1 h1.2.1 h1.2.2 ho⟩, k _ _ h2.1 h2.2.1 h2.2.2 hB⟩
theorem ok_L_climbed (T : Tx K mg c) (D : MD K c.L "climbed" "Links.climbed" sL_climbed) (ML : MOk P w K mg base CX0 c.L "link" ["self", "high", "low"] 1 (spL_link c)) (MO : MOk P w K mg base CX0 c.O "lies_above" ["self", "one", "other"] 2 (spO_lies c)) :
    ∀ n, MOk P w K mg base CX0 c.L "climbed" ["self", "high", "seen"] (n + 2) (spClimb c n) := by
  have sc : FnScope ["self", "high", "seen", "low", "rest"] ["self", "high", "seen"] (defScope sL_climbed) := ⟨rfl, rfl, rfl, by decide +kernel, rfl, by decide +kernel, by decide +kernel⟩
  intro n
  induction n with
  | zero =>
    refine D.ok sc (fun _ _ _ _ _ _ us hl => match us, hl with | [_, _, _], _ => rfl) (fun vs H Q E h => ?_) (fun f cdv A outer s H vs Q E hr h => ?_)
    · obtain ⟨a, B, bel, told, L, ab, be, S, seen, high, rfl, _⟩ := h; rfl
    · obtain ⟨a, B, bel, told, L, ab, be, S, seen, high, rfl, p, _⟩ := h
      exact absurd p.us (Nat.not_lt_zero _)
  | succ n ih =>
    obtain ⟨f1, fd1, m1, b1, F1⟩ := ML
    obtain ⟨f2, fd2, m2, b2, F2⟩ := MO
    obtain ⟨f3, fd3, m3, b3, F3⟩ := ih
    refine D.ok sc (fun _ _ _ _ _ _ us hl => match us, hl with | [_, _, _], _ => rfl) (fun vs H Q E h => ?_) (fun f cdv A outer s H vs Q E hr h => ?_)
    · obtain ⟨a, B, bel, told, L, ab, be, S, seen, high, rfl, _⟩ := h; rfl
    · obtain ⟨a, B, bel, told, L, ab, be, S, seen, high, rfl, p, hh, k⟩ := h
      have hu := hu_of hr
      have hr1 : Room 1 _ := hr.mono (by omega)
      have hr2 : Room 2 _ := hr.mono (by omega)
      refine ⟨_, pss_cons (ps_for PassesOwn.never rfl (pi_list (pe_fld (pv 0) rfl)) (pg_name (i := 3) sc.nd rfl (Or.inl rfl))
        (pss_cons (ps_if (PW.pt (pw_or (pt_cmp (pc_din hu (pv 3) (pv 2))) (pw_or1 (pt_not (pt_val (pe_meth (pe_fld (pv 0) rfl) T.clO m2 F2 hr2 b2 .nil pass0 (pa_cons (pv 1) (pa_cons (pv 3) pa_nil)))))))) (pss_one ps_continue) pss_nil)
        (pss_cons (ps_dput hu (pv 2) (pv 3) pe_bl rfl)
        (pss_cons (ps_if (pt_cmp (pc_dnotin hu (pv 3) (pe_fld (pv 0) rfl)))
          (pss_cons (ps_expr (pe_meth (pv 0) T.clL m1 F1 hr1 b1 .nil pass0 (pa_cons (pv 1) (pa_cons (pv 3) pa_nil)))) (pss_one (ps_ret (pe_lst (pa_cons (pe_tup (pa_cons (pv 1) (pa_cons (pv 3) pa_nil))) pa_nil))))) pss_nil)
        (pss_cons (ps_set (i := 4) sc.nd rfl (Or.inl rfl) (pe_meth (pv 0) T.clL m3 F3 hr b3 .nil pass0 (pa_cons (pe_dget hu (pe_fld (pv 0) rfl) (pv 3) (fun _ _ => rfl)) (pa_cons (pv 2) pa_nil))))
        (pss_one (ps_if (pt_cmpR (op_neD hr.units) (pv 4) (pe_lst pa_nil) (nomark _))
          (pss_cons (ps_expr (pe_meth (pv 0) T.clL m1 F1 hr1 b1 .nil pass0 (pa_cons (pv 1) (pa_cons (pv 3) pa_nil)))) (pss_one (ps_ret (pe_op op_cat (pe_lst (pa_cons (pe_tup (pa_cons (pv 1) (pa_cons (pv 3) pa_nil))) pa_nil)) (pv 4))))) pss_nil)))))))
        (pss_one (ps_ret (pe_lst pa_nil))), ?_⟩
      obtain ⟨dl, hl⟩ := p.N.ob
      obtain ⟨dO, hO⟩ := p.O.ob
      have nlA : a.l ≠ a.A := ne_of hl p.N.da (by intro z; cases z)
      have nlE : a.l ≠ a.E := ne_of hl p.N.de (by intro z; cases z)
      have nlS : a.l ≠ S := ne_of hl p.hS (by intro z; cases z)
      have noA : a.o ≠ a.A := ne_of hO p.N.da (by intro z; cases z)
      have noE : a.o ≠ a.E := ne_of hO p.N.de (by intro z; cases z)
      have noS : a.o ≠ S := ne_of hO p.hS (by intro z; cases z)
      have nLA : a.L ≠ a.A := ne_of p.N.ls p.N.da (by intro z; cases z)
      have nLE : a.L ≠ a.E := ne_of p.N.ls p.N.de (by intro z; cases z)
      have nLS : a.L ≠ S := ne_of p.N.ls p.hS (by intro z; cases z)
      refine ⟨_, rfl, a.l, c.L, dl, _, _, rfl, hl, T.clL, T.nLl, fL_linked, a.L, rfl, ⟨_, SqL.of p.N.ls⟩, for_list (K := K) (a := a.L) (xs := L.map V.int)
        (fun i σ H2 => ∃ (sn : List Int) (v r : Option V), σ = [some (.ref a.l), some (.int high), some (.ref S), v, r] ∧ ClPre c H2 a B bel told L ab be S sn (n + 1) ∧ Keep3 a.A a.E S H H2 ∧ (∀ b, H2 b = none → H b = none) ∧
          FL.climb (FL.liesB bel) L (n + 1) high ⟨ab, be, seen⟩ = FL.scan (FL.climb (FL.liesB bel) L n) (FL.liesB bel) high (L.drop i) ⟨ab, be, sn⟩)
        ⟨seen, none, none, rfl, p, fun b u _ _ _ e => e, fun b e => e, rfl⟩ (fun i σ H2 _ ⟨_, _, _, _, q, _⟩ => SqL.of q.N.ls) ?_ ?_⟩
      · rintro i y σ H2 hi ⟨sn, v, r, rfl, q, kp, fr, ec⟩
        obtain ⟨low, rfl, hlow⟩ := itemI hi
        have lowL := memI hlow
        obtain ⟨hil, ei⟩ := List.getElem?_eq_some_iff.mp hlow
        rw [List.drop_eq_getElem_cons hil, ei] at ec
        unfold FL.scan at ec
        obtain ⟨dl2, hl2⟩ := q.N.ob
        refine ⟨_, rfl, _, rfl, S, _, rfl, DGet.k (k := Sum.inl low) q.hS, _, rfl, ?_⟩
        rw [valV_kvI, Option.isSome_map, tr1_get]
        -- the way of continue
        have cont : (low ∈ sn ∨ FL.liesB bel high low = false) → ∃ (sn' : List Int) (v' r' : Option V), [some (V.ref a.l), some (V.int high), some (V.ref S), some (V.int low), r] = [some (.ref a.l), some (.int high), some (.ref S), v', r'] ∧ ClPre c H2 a B bel told L ab be S sn' (n + 1) ∧ Keep3 a.A a.E S H H2 ∧ (∀ b, H2 b = none → H b = none) ∧
            FL.climb (FL.liesB bel) L (n + 1) high ⟨ab, be, seen⟩ = FL.scan (FL.climb (FL.liesB bel) L n) (FL.liesB bel) high (L.drop (i + 1)) ⟨ab, be, sn'⟩ := fun hc => by
          rw [if_pos hc] at ec
          exact ⟨sn, _, _, rfl, q, kp, fr, ec⟩
        by_cases hin : low ∈ sn
        · rw [decide_eq_true hin]
          exact iteT (cont (.inl hin))
        rw [decide_eq_false hin]
        refine iteF ?_
        refine ⟨_, rfl, a.l, c.L, dl2, _, _, rfl, hl2, T.clL, T.nLo, fL_order, a.o, _, _, rfl, q.O.ob.choose_spec, fO_no ⟨by decide +kernel, by decide +kernel⟩, _, rfl, _, rfl, a.o, B, bel, told, high, low, rfl, q.O, (p.hk high hh).1, (p.hk low lowL).2, _, rfl, ?_⟩
        cases hy : FL.liesB bel high low with
        | false => exact iteT (cont (.inr hy))
        | true =>
        refine iteF ?_
        rw [if_neg (by rw [hy]; intro z; rcases z with z | z; exact hin z; cases z)] at ec
        -- seen[low] = True
        refine ⟨_, rfl, _, rfl, S, _, rfl, DPut.k (k := Sum.inl low) q.hS (by rw [len_kvI, tr1_len]; exact small1000 (Nat.le_trans (FL.nodup_len_le q.nd q.sub) (Nat.le_trans q.z3 (by decide)))), ?_⟩
        have eS : putK (kvI (fun _ => V.bl true) (tr1 sn)) (Sum.inl low : Key) (V.bl true) = kvI (fun _ => V.bl true) (tr1 (sn ++ [low])) := by
          rw [← tr1_put hin]; exact putK_kvI (v := ())
        rw [eS]
        have nAS := q.nSA.symm
        have nES := q.nSE.symm
        have N3 : LnkAt c (upd H2 S (dS (sn ++ [low]))) a L ab be := ⟨⟨dl2, by rw [upd_ne nlS]; exact hl2⟩, by rw [upd_ne nLS]; exact q.N.ls, by rw [upd_ne nAS]; exact q.N.da, by rw [upd_ne nES]; exact q.N.de, q.N.nAE⟩
        have O3 : OrdAt c (upd H2 S (dS (sn ++ [low]))) a.o B bel told := by
          obtain ⟨⟨dO2, h1⟩, h2⟩ := q.O
          exact ⟨⟨dO2, by rw [upd_ne noS]; exact h1⟩, by rw [upd_ne q.nSB.symm]; exact h2⟩
        have kp3 : Keep3 a.A a.E S H (upd H2 S (dS (sn ++ [low]))) := fun b u n1 n2 n3 e => by rw [upd_ne n3]; exact kp b u n1 n2 n3 e
        have fr3 : ∀ b, (upd H2 S (dS (sn ++ [low]))) b = none → H b = none := fun b e => by
          by_cases z : b = S
          · rw [z, upd_same] at e; cases e
          · rw [upd_ne z] at e; exact fr b e
        refine ⟨_, rfl, _, rfl, a.l, c.L, dl2, _, _, rfl, (by rw [upd_ne nlS]; exact hl2), T.clL, T.nLa, fL_above, a.A, _, rfl, DGet.k (k := Sum.inl low) N3.da, _, rfl, ?_⟩
        rw [valV_kvI, Option.isSome_map]
        cases ha : FL.aget ab low with
        | none =>
          rw [ha] at ec
          simp only at ec
          refine iteT ?_
          refine ⟨_, rfl, a.l, dl2, _, rfl, (by rw [upd_ne nlS]; exact hl2), fL_no ⟨by decide +kernel, by decide +kernel, by decide +kernel, by decide +kernel⟩, _, rfl, _, rfl, a, L, ab, be, high, low, rfl, N3, by have := q.z1; omega, by have := q.z2; omega, fun H4 N4 k4 => ?_⟩
          refine ⟨_, rfl, _, rfl, by show 2 ≤ sizeLine; decide, fun t ht => ⟨by show 1 ≤ sizeLine; decide, fun pp hp => ?_⟩⟩
          have ntp : pp ≠ t := fun e => by rw [e, upd_same] at hp; cases hp
          have hp4 : H4 pp = none := by rw [upd_ne ntp] at hp; exact hp
          have s4 : ∀ b u, H4 b = some u → (upd (upd H4 t (.tup [.int high, .int low])) pp (.lst [.ref t])) b = some u := fun b u e => by
            rw [upd_ne (ne_of_none e hp4), upd_ne (ne_of_none e ht)]; exact e
          have back4 : ∀ b, H4 b = none → H b = none := fun b e => by
            refine fr3 b ?_
            cases z : (upd H2 S (dS (sn ++ [low]))) b with
            | none => rfl
            | some u =>
              by_cases z1 : b = a.A
              · rw [z1, N4.da] at e; cases e
              · by_cases z2 : b = a.E
                · rw [z2, N4.de] at e; cases e
                · rw [k4 b u z1 z2 z] at e; cases e
          refine k _ pp (back4 _ hp4) ?_ ?_ ?_ fun b u n1 n2 n3 e => s4 b u (k4 b u n1 n2 (kp3 b u n1 n2 n3 e))
          · rw [ec]
            exact ⟨[t], upd_same, by rw [upd_ne ntp.symm, upd_same], trivial⟩
          · rw [ec]; exact N4.same s4
          · rw [ec]
            exact s4 _ _ (k4 _ _ q.nSA q.nSE upd_same)
        | some up =>
          rw [ha] at ec
          simp only at ec
          refine iteF ?_
          -- rest = self.climbed(self.above[low], seen)
          have g := DGet.k (k := Sum.inl low) N3.da
          rw [valV_kvI, ha] at g
          have hup : up ∈ L := p.hab _ _ ha
          have us3 : FL.unseen L (sn ++ [low]) < n := by
            have := FL.unseen_lt (L := L) lowL hin
            have := q.us; omega
          have pre3 : ClPre c (upd H2 S (dS (sn ++ [low]))) a B bel told L ab be S (sn ++ [low]) n :=
            ⟨O3, N3, upd_same, q.nSA, q.nSE, q.nSB, q.nBA, q.nBE, q.hk, q.hab, by have := q.z1; omega, by have := q.z2; omega, q.z3, FL.nodup_snoc q.nd hin, fun x hx => by
              rcases List.mem_append.mp hx with hx | hx
              · exact q.sub x hx
              · rw [List.mem_singleton.mp hx]; exact lowL, us3⟩
          have hl3 : (upd H2 S (dS (sn ++ [low]))) a.l = some (.ins c.L dl2 (fL a.o a.L a.A a.E)) := by rw [upd_ne nlS]; exact hl2
          refine ⟨_, rfl, a.l, dl2, _, rfl, hl3, fL_no ⟨by decide +kernel, by decide +kernel, by decide +kernel, by decide +kernel⟩, _, rfl, a.l, c.L, dl2, _, _, rfl, hl3, T.clL, T.nLa, fL_above, _, rfl, a.A, .int up, rfl, g, _, rfl,
            a, B, bel, told, L, ab, be, S, sn ++ [low], up, rfl, pre3, hup, fun H4 pr hpr R4 N4 S4 k4 => ?_⟩
          have ce := FL.climb_end (lies := FL.liesB bel) n up ⟨ab, be, sn ++ [low]⟩ us3
          obtain ⟨cl1, cl2⟩ := cl_len (lies := FL.liesB bel) (L := L) n up ⟨ab, be, sn ++ [low]⟩
          have ck := cl_keep (lies := FL.liesB bel) (L := L) n up ⟨ab, be, sn ++ [low]⟩
          generalize hcr : FL.climb (FL.liesB bel) L n up ⟨ab, be, sn ++ [low]⟩ = cr at ec R4 N4 S4 ce cl1 cl2 ck
          obtain ⟨row, ⟨ab4, be4, sn4⟩⟩ := cr
          simp only at ec R4 N4 S4 ce cl1 cl2 ck
          have O4 : OrdAt c H4 a.o B bel told := O3.keep k4 ⟨noA, noE, noS⟩ ⟨q.nBA, q.nBE, q.nSB.symm⟩
          have kp4 : Keep3 a.A a.E S H H4 := fun b u n1 n2 n3 e => k4 b u n1 n2 n3 (kp3 b u n1 n2 n3 e)
          have back4 : ∀ b, H4 b = none → H b = none := fun b e => by
            refine fr3 b ?_
            cases z : (upd H2 S (dS (sn ++ [low]))) b with
            | none => rfl
            | some u =>
              by_cases z1 : b = a.A
              · rw [z1, N4.da] at e; cases e
              · by_cases z2 : b = a.E
                · rw [z2, N4.de] at e; cases e
                · by_cases z3 : b = S
                  · rw [z3, S4] at e; cases e
                  · rw [k4 b u z1 z2 z3 z] at e; cases e
          obtain ⟨ts, hts, tts⟩ := R4
          refine ⟨_, rfl, by show 0 ≤ sizeLine; decide, fun e0 he0 => ?_⟩
          have s5 : ∀ b u, H4 b = some u → (upd H4 e0 (.lst [])) b = some u := fun b u e => by rw [upd_ne (ne_of_none e he0)]; exact e
          refine ⟨rowD row, .list [], dp_row ⟨ts, s5 _ _ hts, tts.same fun b xs e => s5 b _ e⟩, dp_nil upd_same, rowD_sh row, by exact rowD_sh [], _, rfl, ?_⟩
          rw [row_nil]
          have back5 : ∀ b, (upd H4 e0 (.lst [])) b = none → H b = none := fun b e => by
            by_cases z : b = e0
            · rw [z, upd_same] at e; cases e
            · rw [upd_ne z] at e; exact back4 b e
          by_cases er : row = []
          · rw [decide_eq_true er]
            refine iteF ?_
            rw [if_pos er] at ec
            obtain ⟨c1, c2⟩ := ck er
            subst c1 c2
            refine ⟨sn4, _, _, rfl, ⟨O4.same fun b u _ e => s5 b u e, N4.same s5, s5 _ _ S4, q.nSA, q.nSE, q.nSB, q.nBA, q.nBE, q.hk, q.hab, q.z1, q.z2, q.z3, ce.nd (FL.nodup_snoc q.nd hin), fun x hx => ?_, ?_⟩, fun b u n1 n2 n3 e => s5 b u (kp4 b u n1 n2 n3 e), back5, ec⟩
            · rcases ce.sub x hx with h | h
              · exact pre3.sub x h
              · exact h
            · have := FL.unseen_mono (L := L) ce.mono
              simp only at this; omega
          · rw [decide_eq_false er]
            refine iteT ?_
            rw [if_neg er] at ec
            have N5 := N4.same s5
            obtain ⟨dl5, hl5⟩ := N5.ob
            refine ⟨_, rfl, a.l, dl5, _, rfl, hl5, fL_no ⟨by decide +kernel, by decide +kernel, by decide +kernel, by decide +kernel⟩, _, rfl, _, rfl, a, L, ab4, be4, high, low, rfl, N5, by have := q.z1; omega, by have := q.z2; omega, fun H6 N6 k6 => ?_⟩
            have nprA : pr ≠ a.A := ne_of hts N4.da (by intro z; cases z)
            have nprE : pr ≠ a.E := ne_of hts N4.de (by intro z; cases z)
            have hts6 : H6 pr = some (.lst (ts.map V.ref)) := k6 _ _ nprA nprE (s5 _ _ hts)
            refine ⟨_, rfl, _, rfl, by show 2 ≤ sizeLine; decide, fun t ht => ⟨by show 1 ≤ sizeLine; decide, fun q1 hq1 => ?_⟩⟩
            have nq1 : q1 ≠ t := fun e => by rw [e, upd_same] at hq1; cases hq1
            have hq16 : H6 q1 = none := by rw [upd_ne nq1] at hq1; exact hq1
            have s7 : ∀ b u, H6 b = some u → (upd (upd H6 t (.tup [.int high, .int low])) q1 (.lst [.ref t])) b = some u := fun b u e => by
              rw [upd_ne (ne_of_none e hq16), upd_ne (ne_of_none e ht)]; exact e
            have back6 : ∀ b, H6 b = none → H b = none := fun b e => by
              refine back5 b ?_
              cases z : (upd H4 e0 (.lst [])) b with
              | none => rfl
              | some u =>
                by_cases z1 : b = a.A
                · rw [z1, N6.da] at e; cases e
                · by_cases z2 : b = a.E
                  · rw [z2, N6.de] at e; cases e
                  · rw [k6 b u z1 z2 z] at e; cases e
            have lrow : ts.length ≤ 200 := by
              have h1 : ts.length = row.length := tts.len
              have h2 := (ce.done er).2.2.1
              have h3 : (row.map (·.2)).length ≤ L.length := FL.nodup_len_le h2 fun x hx => by
                obtain ⟨pp, hpp, rfl⟩ := List.mem_map.mp hx
                exact ((ce.done er).1.p4 pp hpp).1
              rw [List.length_map] at h3
              have := q.z3; omega
            refine ⟨_, rfl, q1, pr, _, _, rfl, rfl, upd_same, s7 _ _ hts6, by show 1 + (ts.map V.ref).length ≤ sizeLine; rw [List.length_map]; exact Nat.le_trans (Nat.add_le_add_left lrow 1) (by decide), fun pp hpp => ?_⟩
            have s8 : ∀ b u, H6 b = some u → (upd (upd (upd H6 t (.tup [.int high, .int low])) q1 (.lst [.ref t])) pp (.lst ([.ref t] ++ ts.map V.ref))) b = some u := fun b u e => by
              rw [upd_ne (ne_of_none (s7 b u e) hpp)]; exact s7 b u e
            have npt : pp ≠ t := fun e => by rw [e, upd_ne nq1.symm, upd_same] at hpp; cases hpp
            have npq : pp ≠ q1 := fun e => by rw [e, upd_same] at hpp; cases hpp
            have hpp6 : H6 pp = none := by rw [upd_ne npq, upd_ne npt] at hpp; exact hpp
            refine k _ pp (back6 _ hpp6) ?_ ?_ ?_ fun b u n1 n2 n3 e => s8 b u (k6 b u n1 n2 (s5 b u (kp4 b u n1 n2 n3 e)))
            · rw [ec]
              refine ⟨t :: ts, upd_same, ?_, tts.same fun b xs e => s8 b _ (k6 b _ (ne_of (s5 _ _ e) N5.da (by intro z; cases z)) (ne_of (s5 _ _ e) N5.de (by intro z; cases z)) (s5 _ _ e))⟩
              rw [upd_ne npt.symm, upd_ne nq1.symm, upd_same]
            · rw [ec]; exact N6.same s8
            · rw [ec]
              exact s8 _ _ (k6 _ _ q.nSA q.nSE (s5 _ _ S4))
      · rintro σ H2 ⟨sn, v, r, rfl, q, kp, fr, ec⟩
        rw [List.length_map, List.drop_length] at ec
        refine ⟨by show 0 ≤ sizeLine; decide, fun pp hp => ?_⟩
        have s3 : ∀ b u, H2 b = some u → (upd H2 pp (.lst [])) b = some u := fun b u e => by rw [upd_ne (ne_of_none e hp)]; exact e
        refine k _ pp (fr _ hp) ?_ ?_ ?_ fun b u n1 n2 n3 e => s3 b u (kp b u n1 n2 n3 e)
        · rw [ec]; exact ⟨[], upd_same, trivial⟩
        · rw [ec]; exact q.N.same s3
        · rw [ec]; exact s3 _ _ q.hS
end
end FW

set_option maxHeartbeats 4000000
/-! The walk 6: Links: joined, joined_all, add, drop, ladders. -/
namespace FW
open PySem PySem.Spec PyProof.Rows L2

structure JPre (c : CC) (H : Hp) (a : LA) (B : Addr) (bel : List (Int × Nat)) (told : Nat) (L : List Int) (ab be : List (Int × Int)) : Prop where
  O : OrdAt c H a.o B bel told
  N : LnkAt c H a L ab be
  nBA : B ≠ a.A
  nBE : B ≠ a.E
  hk : ∀ x ∈ L, (FL.aget bel x).isSome = true ∧ 0 ≤ x
  M : FL.Mt (FL.liesB bel) L ab be
  hL : L.length ≤ 24
def Keep2 (x y : Addr) (H H' : Hp) : Prop := ∀ b u, b ≠ x → b ≠ y → H b = some u → H' b = some u
theorem ne_of_back {H H' : Hp} {b x : Addr} {u : HO} (h : H x = some u) (e : H b = none) : x ≠ b := ne_of_none h e

def spJoined (c : CC) : Sp := fun vs H Q _ => ∃ (a : LA) (B : Addr) (bel : List (Int × Nat)) (told : Nat) (L : List Int) (ab be : List (Int × Int)), vs = [.ref a.l] ∧ JPre c H a B bel told L ab be ∧
  ∀ H' p, H p = none → RowAt H' p (FL.joined (FL.liesB bel) L ab be).1 → LnkAt c H' a L (FL.joined (FL.liesB bel) L ab be).2.1 (FL.joined (FL.liesB bel) L ab be).2.2 → Keep2 a.A a.E H H' → Q (.ref p) H'
section
variable {P : Program} {w : World} {K : PySem.W.Frag} {mg : Str → Option Value} {base : Heap} {c : CC}
theorem climb25 {lies : Int → Int → Bool} {L : List Int} (hL : L.length ≤ 24) (high : Int) (ab be : List (Int × Int)) : FL.climb lies L (L.length + 1) high ⟨ab, be, []⟩ = FL.climb lies L 25 high ⟨ab, be, []⟩ :=
  FL.climb_fuel _ _ _ _ (by rw [FL.unseen_nil]; omega) (by rw [FL.unseen_nil]; omega)
theorem ok_L_joined (T : Tx K mg c) (D : MD K c.L "joined" "Links.joined" sL_joined) (MC : MOk P w K mg base CX0 c.L "climbed" ["self", "high", "seen"] 27 (spClimb c 25)) : MOk P w K mg base CX0 c.L "joined" ["self"] 28 (spJoined c) := by
  obtain ⟨f1, fd1, m1, b1, F1⟩ := MC
  have sc : FnScope ["self", "high", "row"] ["self"] (defScope sL_joined) := ⟨rfl, rfl, rfl, by decide +kernel, rfl, by decide +kernel, by decide +kernel⟩
  refine D.ok sc (fun _ _ _ _ _ _ us hl => match us, hl with | [_], _ => rfl) (fun vs H Q E h => ?_) (fun f cdv A outer s H vs Q E hr h => ?_)
  · obtain ⟨a, B, bel, told, L, ab, be, rfl, _⟩ := h; rfl
  · obtain ⟨a, B, bel, told, L, ab, be, rfl, p, k⟩ := h
    have hu := hu_of hr
    refine ⟨_, pss_cons (ps_for PassesOwn.never rfl (pi_list (pe_fld (pv 0) rfl)) (pg_name (i := 1) sc.nd rfl (Or.inl rfl))
      (pss_one (ps_if (pt_cmp (pc_dnotin hu (pv 1) (pe_fld (pv 0) rfl)))
        (pss_cons (ps_set (i := 2) sc.nd rfl (Or.inl rfl) (pe_meth (pv 0) T.clL m1 F1 hr b1 .nil pass0 (pa_cons (pv 1) (pa_cons pe_dnewK pa_nil))))
        (pss_one (ps_if (pt_cmpR (op_neD hr.units) (pv 2) (pe_lst pa_nil) (nomark _)) (pss_one (ps_ret (pv 2))) pss_nil))) pss_nil)))
      (pss_one (ps_ret (pe_lst pa_nil))), ?_⟩
    obtain ⟨dl, hl⟩ := p.N.ob
    refine ⟨_, rfl, a.l, c.L, dl, _, _, rfl, hl, T.clL, T.nLl, fL_linked, a.L, rfl, ⟨_, SqL.of p.N.ls⟩, for_list (K := K) (a := a.L) (xs := L.map V.int)
      (fun i σ H2 => ∃ (v r : Option V), σ = [some (.ref a.l), v, r] ∧ JPre c H2 a B bel told L ab be ∧ Keep2 a.A a.E H H2 ∧ (∀ b, H2 b = none → H b = none) ∧
        FL.joined (FL.liesB bel) L ab be = FL.joinScan (FL.liesB bel) L (L.drop i) ab be)
      ⟨none, none, rfl, p, fun b u _ _ e => e, fun b e => e, rfl⟩ (fun i σ H2 _ ⟨_, _, _, q, _⟩ => SqL.of q.N.ls) ?_ ?_⟩
    · rintro i y σ H2 hi ⟨v, r, rfl, q, kp, fr, ec⟩
      obtain ⟨high, rfl, hhi⟩ := itemI hi
      have highL := memI hhi
      obtain ⟨hil, ei⟩ := List.getElem?_eq_some_iff.mp hhi
      rw [List.drop_eq_getElem_cons hil, ei] at ec
      unfold FL.joinScan at ec
      rw [climb25 q.hL] at ec
      obtain ⟨dl2, hl2⟩ := q.N.ob
      refine ⟨_, rfl, _, rfl, a.l, c.L, dl2, _, _, rfl, hl2, T.clL, T.nLb, fL_beneath, a.E, _, rfl, DGet.k (k := Sum.inl high) q.N.de, _, rfl, ?_⟩
      rw [valV_kvI, Option.isSome_map]
      cases hb : FL.aget be high with
      | some lo =>
        rw [hb] at ec
        rw [if_pos (show (some lo).isSome = true from rfl)] at ec
        exact iteF ⟨_, _, rfl, q, kp, fr, ec⟩
      | none =>
        rw [hb] at ec
        rw [if_neg (show ¬ (none : Option Int).isSome = true by simp)] at ec
        simp only at ec
        refine iteT ?_
        refine ⟨_, rfl, a.l, dl2, _, rfl, hl2, fL_no ⟨by decide +kernel, by decide +kernel, by decide +kernel, by decide +kernel⟩, _, rfl, fun S hS => ?_⟩
        have s3 : ∀ b u, H2 b = some u → (upd H2 S (.dK [])) b = some u := fun b u e => by rw [upd_ne (ne_of_none e hS)]; exact e
        have N3 := q.N.same s3
        have O3 := q.O.same fun b u _ e => s3 b u e
        have pre3 : ClPre c (upd H2 S (.dK [])) a B bel told L ab be S [] 25 :=
          ⟨O3, N3, upd_same, (ne_of_none q.N.da hS).symm, (ne_of_none q.N.de hS).symm, (ne_of_none q.O.dc hS).symm, q.nBA, q.nBE, q.hk, fun l h e => (q.M.inL l h e).2.1, by have := q.M.alen; have := q.hL; omega,
            by have := q.M.blen; have := q.hL; omega, Nat.le_trans q.hL (by decide), List.nodup_nil, fun x hx => (nomatch hx), by rw [FL.unseen_nil]; have := q.hL; omega⟩
        refine ⟨a, B, bel, told, L, ab, be, S, [], high, rfl, pre3, highL, fun H4 pr hpr R4 N4 S4 k4 => ?_⟩
        have ck := cl_keep (lies := FL.liesB bel) (L := L) 25 high ⟨ab, be, []⟩
        generalize hcr : FL.climb (FL.liesB bel) L 25 high ⟨ab, be, []⟩ = cr at ec R4 N4 S4 ck
        obtain ⟨row, ⟨ab4, be4, sn4⟩⟩ := cr
        simp only at ec R4 N4 S4 ck
        have back4 : ∀ b, H4 b = none → H b = none := fun b e => by
          refine fr b ?_
          cases z : H2 b with
          | none => rfl
          | some u =>
            by_cases z1 : b = a.A
            · rw [z1, N4.da] at e; cases e
            · by_cases z2 : b = a.E
              · rw [z2, N4.de] at e; cases e
              · rw [k4 b u z1 z2 (ne_of_none z hS) (s3 b u z)] at e; cases e
        have kp4 : Keep2 a.A a.E H H4 := fun b u n1 n2 e => k4 b u n1 n2 (ne_of_none (kp b u n1 n2 e) hS) (s3 b u (kp b u n1 n2 e))
        have hpr0 : H pr = none := by
          refine fr pr ?_
          cases z : H2 pr with
          | none => rfl
          | some u => rw [s3 _ _ z] at hpr; cases hpr
        refine ⟨_, rfl, by show 0 ≤ sizeLine; decide, fun e0 he0 => ?_⟩
        have s5 : ∀ b u, H4 b = some u → (upd H4 e0 (.lst [])) b = some u := fun b u e => by rw [upd_ne (ne_of_none e he0)]; exact e
        obtain ⟨ts, hts, tts⟩ := R4
        have R5 : RowAt (upd H4 e0 (.lst [])) pr row := ⟨ts, s5 _ _ hts, tts.same fun b xs e => s5 b _ e⟩
        refine ⟨rowD row, .list [], dp_row R5, dp_nil upd_same, rowD_sh row, by exact rowD_sh [], _, rfl, ?_⟩
        rw [row_nil]
        by_cases er : row = []
        · rw [decide_eq_true er]
          refine iteF ?_
          rw [if_pos er] at ec
          obtain ⟨c1, c2⟩ := ck er
          subst c1 c2
          have O4 : OrdAt c H4 a.o B bel told := by
            obtain ⟨⟨dO, h1⟩, h2⟩ := O3
            have nS : S ≠ a.o := (ne_of_none q.O.ob.choose_spec hS).symm
            exact ⟨⟨dO, k4 _ _ (ne_of h1 N3.da (by intro z; cases z)) (ne_of h1 N3.de (by intro z; cases z)) nS.symm h1⟩, k4 _ _ q.nBA q.nBE (ne_of_none q.O.dc hS) h2⟩
          exact ⟨_, _, rfl, ⟨O4.same fun b u _ e => s5 b u e, N4.same s5, q.nBA, q.nBE, q.hk, q.M, q.hL⟩, fun b u n1 n2 e => s5 b u (kp4 b u n1 n2 e), fun b e => by
            by_cases z : b = e0
            · rw [z, upd_same] at e; cases e
            · rw [upd_ne z] at e; exact back4 b e, ec⟩
        · rw [decide_eq_false er]
          refine iteT ?_
          rw [if_neg er] at ec
          refine ⟨_, rfl, k _ pr hpr0 (by rw [ec]; exact R5) (by rw [ec]; exact N4.same s5) fun b u n1 n2 e => s5 b u (kp4 b u n1 n2 e)⟩
    · rintro σ H2 ⟨v, r, rfl, q, kp, fr, ec⟩
      rw [List.length_map, List.drop_length] at ec
      refine ⟨by show 0 ≤ sizeLine; decide, fun pp hp => ?_⟩
      have s3 : ∀ b u, H2 b = some u → (upd H2 pp (.lst [])) b = some u := fun b u e => by rw [upd_ne (ne_of_none e hp)]; exact e
      refine k _ pp (fr _ hp) ?_ ?_ fun b u n1 n2 e => s3 b u (kp b u n1 n2 e)
      · rw [ec]; exact ⟨[], upd_same, trivial⟩
      · rw [ec]; exact q.N.same s3

def spJAll (c : CC) : Sp := fun vs H Q _ => ∃ (a : LA) (B : Addr) (bel : List (Int × Nat)) (told : Nat) (L : List Int) (ab be : List (Int × Int)), vs = [.ref a.l] ∧ JPre c H a B bel told L ab be ∧ FL.Po (FL.liesB bel) L ∧
  ∀ H', LnkAt c H' a L (FL.joinAll (FL.liesB bel) L (L.length + 1) ab be).1 (FL.joinAll (FL.liesB bel) L (L.length + 1) ab be).2 → Keep2 a.A a.E H H' → Q .non H'
theorem ok_L_jall (T : Tx K mg c) (D : MD K c.L "joined_all" "Links.joined_all" sL_joined_all) (MJ : MOk P w K mg base CX0 c.L "joined" ["self"] 28 (spJoined c)) : MOk P w K mg base CX0 c.L "joined_all" ["self"] 29 (spJAll c) := by
  obtain ⟨f1, fd1, m1, b1, F1⟩ := MJ
  have sc : FnScope ["self"] ["self"] (defScope sL_joined_all) := ⟨rfl, rfl, rfl, by decide +kernel, rfl, by decide +kernel, by decide +kernel⟩
  refine D.ok sc (fun _ _ _ _ _ _ us hl => match us, hl with | [_], _ => rfl) (fun vs H Q E h => ?_) (fun f cdv A outer s H vs Q E hr h => ?_)
  · obtain ⟨a, B, bel, told, L, ab, be, rfl, _⟩ := h; rfl
  · obtain ⟨a, B, bel, told, L, ab, be, rfl, p, hP, k⟩ := h
    refine ⟨_, pss_one (ps_while PassesOwn.never (pt_cmpR (op_neD hr.units) (pe_meth0 (pv 0) T.clL m1 F1 hr b1 .nil pass0) (pe_lst pa_nil) (nomark _)) (pss_one ps_pass)), ?_⟩
    refine ⟨fun m σ H2 => ∃ ab2 be2, σ = [some (.ref a.l)] ∧ JPre c H2 a B bel told L ab2 be2 ∧ Keep2 a.A a.E H H2 ∧ (FL.bots L be2).length < m ∧
      FL.joinAll (FL.liesB bel) L (L.length + 1) ab be = FL.joinAll (FL.liesB bel) L m ab2 be2, ⟨L.length + 1, ab, be, rfl, p, fun b u _ _ e => e, Nat.lt_succ_of_le (List.length_filter_le _ _), rfl⟩, ?_⟩
    rintro m σ H2 ⟨ab2, be2, rfl, q, kp, hm, ec⟩
    obtain ⟨dl2, hl2⟩ := q.N.ob
    refine ⟨_, rfl, a.l, dl2, _, rfl, hl2, fL_no ⟨by decide +kernel, by decide +kernel, by decide +kernel, by decide +kernel⟩, a, B, bel, told, L, ab2, be2, rfl, q, fun H4 pr hpr R4 N4 k4 => ?_⟩
    refine ⟨by show 0 ≤ sizeLine; decide, fun e0 he0 => ?_⟩
    have s5 : ∀ b u, H4 b = some u → (upd H4 e0 (.lst [])) b = some u := fun b u e => by rw [upd_ne (ne_of_none e he0)]; exact e
    obtain ⟨ts, hts, tts⟩ := R4
    refine ⟨_, .list [], dp_row ⟨ts, s5 _ _ hts, tts.same fun b xs e => s5 b _ e⟩, dp_nil upd_same, rowD_sh _, by exact rowD_sh [], _, rfl, ?_⟩
    rw [row_nil]
    have kp5 : Keep2 a.A a.E H (upd H4 e0 (.lst [])) := fun b u n1 n2 e => s5 b u (k4 b u n1 n2 (kp b u n1 n2 e))
    have O5 : OrdAt c (upd H4 e0 (.lst [])) a.o B bel told := by
      obtain ⟨⟨dO, h1⟩, h2⟩ := q.O
      exact ⟨⟨dO, s5 _ _ (k4 _ _ (ne_of h1 q.N.da (by intro z; cases z)) (ne_of h1 q.N.de (by intro z; cases z)) h1)⟩, s5 _ _ (k4 _ _ q.nBA q.nBE h2)⟩
    cases m with
    | zero => exact absurd hm (Nat.not_lt_zero _)
    | succ m =>
    unfold FL.joinAll at ec
    by_cases er : (FL.joined (FL.liesB bel) L ab2 be2).1 = []
    · rw [decide_eq_true er]
      refine iteF ?_
      rw [if_pos er] at ec
      exact k _ (by rw [show FL.joinAll (FL.liesB bel) L (L.length + 1) ab be = (FL.joined (FL.liesB bel) L ab2 be2).2 from ec]; exact N4.same s5) kp5
    · rw [decide_eq_false er]
      refine iteT ?_
      rw [if_neg er] at ec
      obtain ⟨M5, hb5⟩ := FL.joined_some hP q.M er
      exact ⟨_, fun σ' H' n => n, m, Nat.lt_succ_self m, _, _, rfl, ⟨O5, N4.same s5, q.nBA, q.nBE, q.hk, M5, q.hL⟩, kp5, by omega, ec⟩

def spAdd (c : CC) : Sp := fun vs H Q _ => ∃ (a : LA) (L : List Int) (ab be : List (Int × Int)) (one : Int), vs = [.ref a.l, .int one] ∧ LnkAt c H a L ab be ∧ (L ++ [one]).Pairwise (· < ·) ∧ L.length ≤ 60 ∧
  ∀ H' L', H L' = none → LnkAt c H' { a with L := L' } (L ++ [one]) ab be → (∀ b u, b ≠ a.l → H b = some u → H' b = some u) → Q .non H'
theorem ok_L_add (T : Tx K mg c) (D : MD K c.L "add" "Links.add" sL_add) : MOk P w K mg base CX0 c.L "add" ["self", "one"] 1 (spAdd c) := by
  refine D.ok (N := ["self", "one"]) ⟨rfl, rfl, rfl, by decide +kernel, rfl, by decide +kernel, by decide +kernel⟩ (fun _ _ _ _ _ _ us hl => match us, hl with | [_, _], _ => rfl) (fun vs H Q E h => ?_) (fun f cdv A outer s H vs Q E hr h => ?_)
  · obtain ⟨a, L, ab, be, one, rfl, _⟩ := h; rfl
  · obtain ⟨a, L, ab, be, one, rfl, N, hs, hl, k⟩ := h
    obtain ⟨⟨dl, hal⟩, hL, hA, hE, nAE⟩ := id N
    refine ⟨_, pss_one (ps_fld (pv 0) (pe_callB cr_sorted (by rfl) T.zSorted PyProof.Rows.boot_sorted (pa_cons (pe_op op_cat (pe_fld (pv 0) rfl) (pe_lst (pa_cons (pv 1) pa_nil))) pa_nil)) rfl), ?_⟩
    refine ⟨_, rfl, a.l, c.L, dl, _, _, rfl, hal, T.clL, T.nLl, fL_linked, _, rfl, by show 1 ≤ sizeLine; decide, fun q hq => ?_⟩
    have s1 : ∀ b u, H b = some u → (upd H q (.lst [.int one])) b = some u := fun b u e => by rw [upd_ne (ne_of_none e hq)]; exact e
    refine ⟨a.L, q, _, _, rfl, rfl, s1 _ _ hL, upd_same, by rw [List.length_map]; exact Nat.le_trans (Nat.add_le_add_right hl 1) (by decide), fun r hr' => ?_⟩
    have s2 : ∀ b u, H b = some u → (upd (upd H q (.lst [.int one])) r (.lst (L.map V.int ++ [.int one]))) b = some u := fun b u e => by rw [upd_ne (ne_of_none (s1 b u e) hr')]; exact s1 b u e
    refine ⟨r, L ++ [one], rfl, SqL.of (by rw [upd_same, List.map_append]; rfl), by rw [List.length_append, List.length_singleton]; omega, fun ns' t hp hy ht => ?_⟩
    have e : ns' = L ++ [one] := srt_perm hp hy hs
    subst e
    have s3 : ∀ b u, H b = some u → (upd (upd (upd H q (.lst [.int one])) r (.lst (L.map V.int ++ [.int one]))) t (lI (L ++ [one]))) b = some u := fun b u e => by rw [upd_ne (ne_of_none (s2 b u e) ht)]; exact s2 b u e
    have ht0 : H t = none := by
      cases z : H t with
      | none => rfl
      | some u => rw [s2 _ _ z] at ht; cases ht
    refine ⟨_, rfl, a.l, c.L, dl, _, rfl, s3 _ _ hal, T.clL, T.nLl, (by show 4 < 1000; decide), ?_⟩
    rw [fL_put]
    have ntl : t ≠ a.l := (ne_of_none hal ht0).symm
    refine k _ t ht0 ⟨⟨dl, upd_same⟩, by show upd _ a.l _ t = _; rw [upd_ne ntl, upd_same], by show upd _ a.l _ a.A = _; rw [upd_ne (ne_of hA hal (by intro z; cases z))]; exact s3 _ _ hA, by show upd _ a.l _ a.E = _; rw [upd_ne (ne_of hE hal (by intro z; cases z))]; exact s3 _ _ hE, nAE⟩ fun b u n e => ?_
    rw [upd_ne n]; exact s3 b u e
end
end FW

set_option maxHeartbeats 4000000
/-! The walk 7: Links: drop, ladders. -/
namespace FW
open PySem PySem.Spec PyProof.Rows L2
section
variable {P : Program} {w : World} {K : PySem.W.Frag} {mg : Str → Option Value} {base : Heap} {c : CC}
theorem erase_at : ∀ {L : List Int} {j : Nat} {x : Int}, L.Nodup → L[j]? = some x → L.eraseIdx j = L.filter fun y => decide (y ≠ x)
  | [], j, x, _, h => by simp at h
  | a :: r, 0, x, nd, h => by
    have e : a = x := Option.some.inj h
    subst e
    obtain ⟨h1, _⟩ := List.nodup_cons.mp nd
    rw [List.eraseIdx_cons_zero, List.filter_cons, if_neg (by simp)]
    exact (List.filter_eq_self.mpr fun y hy => by
      have : y ≠ a := fun e => h1 (e ▸ hy)
      simp [this]).symm
  | a :: r, j + 1, x, nd, h => by
    obtain ⟨h1, h2⟩ := List.nodup_cons.mp nd
    have h' : r[j]? = some x := h
    rw [List.eraseIdx_cons_succ, List.filter_cons, if_pos (by
      have : a ≠ x := fun e => h1 (e ▸ List.mem_of_getElem? h')
      simp [this]), erase_at h2 h']
def optV : Option Int → V
  | none => .non
  | some x => .int x
def spDrop (c : CC) : Sp := fun vs H Q _ => ∃ (a : LA) (L : List Int) (ab be : List (Int × Int)) (one : Int), vs = [.ref a.l, .int one] ∧ LnkAt c H a L ab be ∧ L.Nodup ∧ one ∈ L ∧ ab.length ≤ 900 ∧ be.length ≤ 900 ∧
  (∀ l h, FL.aget ab l = some h ↔ FL.aget be h = some l) ∧ (∀ l, FL.aget ab l ≠ some l) ∧
  ∀ H', LnkAt c H' a (L.filter fun y => decide (y ≠ one)) (FL.dropA ab be one).1 (FL.dropA ab be one).2 → Keep3 a.L a.A a.E H H' → Q .non H'
theorem ok_L_drop (T : Tx K mg c) (D : MD K c.L "drop" "Links.drop" sL_drop) (ML : MOk P w K mg base CX0 c.L "link" ["self", "high", "low"] 1 (spL_link c)) : MOk P w K mg base CX0 c.L "drop" ["self", "one"] 2 (spDrop c) := by
  obtain ⟨f1, fd1, m1, b1, F1⟩ := ML
  have sc : FnScope ["self", "one", "low", "high"] ["self", "one"] (defScope sL_drop) := ⟨rfl, rfl, rfl, by decide +kernel, rfl, by decide +kernel, by decide +kernel⟩
  refine D.ok sc (fun _ _ _ _ _ _ us hl => match us, hl with | [_, _], _ => rfl) (fun vs H Q E h => ?_) (fun f cdv A outer s H vs Q E hr h => ?_)
  · obtain ⟨a, L, ab, be, one, rfl, _⟩ := h; rfl
  · obtain ⟨a, L, ab, be, one, rfl, N, nd, hone, z1, z2, inv, irr, k⟩ := h
    obtain ⟨⟨dl, hal⟩, hL, hA, hE, nAE⟩ := id N
    have nlA : a.l ≠ a.A := ne_of hal hA (by intro z; cases z)
    have nlE : a.l ≠ a.E := ne_of hal hE (by intro z; cases z)
    have nlL : a.l ≠ a.L := ne_of hal hL (by intro z; cases z)
    have nLA : a.L ≠ a.A := ne_of hL hA (by intro z; cases z)
    have nLE : a.L ≠ a.E := ne_of hL hE (by intro z; cases z)
    obtain ⟨j, hj, ej⟩ := List.getElem_of_mem hone
    have hj' : L[j]? = some one := List.getElem?_eq_some_iff.mpr ⟨hj, ej⟩
    have el_l : ∀ l, FL.aget be one = some l → l ≠ one ∧ FL.aget ab l = some one := fun l e => ⟨fun z => irr one ((inv one one).mpr (z ▸ e)), (inv l one).mpr e⟩
    have eh_h : ∀ x, FL.aget ab one = some x → x ≠ one ∧ FL.aget be x = some one := fun x e => ⟨fun z => irr one (z ▸ e), (inv one x).mp e⟩
    let F : Hp → List (Int × Int) → List (Int × Int) → Prop := fun H2 ab' be' => H2 a.l = some (.ins c.L dl (fL a.o a.L a.A a.E)) ∧ H2 a.L = some (lI (L.filter fun y => decide (y ≠ one))) ∧ H2 a.A = some (dII ab') ∧ H2 a.E = some (dII be') ∧ Keep3 a.L a.A a.E H H2
    have setE : ∀ {H2 ab' be' be''}, F H2 ab' be' → F (upd H2 a.E (dII be'')) ab' be'' := fun ⟨q1, q2, q3, q4, q5⟩ => ⟨by rw [upd_ne nlE]; exact q1, by rw [upd_ne nLE]; exact q2, by rw [upd_ne nAE]; exact q3, upd_same, fun b u n1 n2 n3 e => by rw [upd_ne n3]; exact q5 b u n1 n2 n3 e⟩
    have setA : ∀ {H2 ab' be' ab''}, F H2 ab' be' → F (upd H2 a.A (dII ab'')) ab'' be' := fun ⟨q1, q2, q3, q4, q5⟩ => ⟨by rw [upd_ne nlA]; exact q1, by rw [upd_ne nLA]; exact q2, upd_same, by rw [upd_ne nAE.symm]; exact q4, fun b u n1 n2 n3 e => by rw [upd_ne n2]; exact q5 b u n1 n2 n3 e⟩
    refine ⟨_, pss_cons (ps_expr (pe_bm PySem.F.plainAttrs_list PySem.F.slot_list_remove PySem.F.type_list_remove mt_remove (pe_fld (pv 0) rfl) (pa_cons (pv 1) pa_nil)))
      (Evl.pss_cut (ps_set (i := 2) sc.nd rfl (Or.inl rfl) (pe_dpop2 (pe_fld (pv 0) rfl) (pv 1) pe_non ⟨by rfl, by rfl, by rfl, by rfl⟩))
      (Evl.pss_cut (ps_set (i := 3) sc.nd rfl (Or.inl rfl) (pe_dpop2 (pe_fld (pv 0) rfl) (pv 1) pe_non ⟨by rfl, by rfl, by rfl, by rfl⟩))
      (Evl.pss_cut (ps_if (pt_cmpR op_notN (pv 2) pe_non (nomark _)) (pss_one (ps_expr (pe_dpop1 (pe_fld (pv 0) rfl) (pv 2) ⟨by rfl, by rfl, by rfl, by rfl⟩))) pss_nil)
      (Evl.pss_cut (ps_if (pt_cmpR op_notN (pv 3) pe_non (nomark _)) (pss_one (ps_expr (pe_dpop1 (pe_fld (pv 0) rfl) (pv 3) ⟨by rfl, by rfl, by rfl, by rfl⟩))) pss_nil)
      (pss_one (ps_if (PW.pt (pw_and (pt_cmpR op_notN (pv 2) pe_non (nomark _)) (pw_and1 (pt_cmpR op_notN (pv 3) pe_non (nomark _))))) (pss_one (ps_expr (pe_meth (pv 0) T.clL m1 F1 hr b1 .nil pass0 (pa_cons (pv 3) (pa_cons (pv 2) pa_nil))))) pss_nil)))))), ?_⟩
    refine ⟨_, rfl, a.l, c.L, dl, _, _, rfl, hal, T.clL, T.nLl, fL_linked, Or.inl ⟨rfl, _, SqL.of hL⟩, _, rfl, a.L, L, one, j, rfl, rfl, hL, hj', fun m hm e => ?_, ?_⟩
    · exact absurd (nd_ix nd e hj') (Nat.ne_of_lt hm)
    rw [erase_at nd hj']
    have f1' : F (upd H a.L (lI (L.filter fun y => decide (y ≠ one)))) ab be := ⟨by rw [upd_ne nlL]; exact hal, upd_same, by rw [upd_ne nLA.symm]; exact hA, by rw [upd_ne nLE.symm]; exact hE, fun b u n1 n2 n3 e => by rw [upd_ne n1]; exact e⟩
    -- low = self.beneath.pop(one, None)
    refine ⟨fun σ H2 => σ = [some (.ref a.l), some (.int one), some (optV (FL.aget be one)), none] ∧ F H2 ab (FL.adel be one), ?_, ?_⟩
    · refine ⟨_, rfl, a.l, c.L, dl, _, _, rfl, f1'.1, T.clL, T.nLb, fL_beneath, a.E, rfl, Or.inl ⟨_, Or.inl f1'.2.2.2.1⟩, _, rfl, _, Sum.inl one, f1'.2.2.2.1, rfl, ?_⟩
      rw [valV_kvI, dropK_kvI]
      cases el : FL.aget be one with
      | none => exact ⟨fun v ev => (nomatch ev), fun _ => ⟨rfl, by rw [FL.adel_none el]; exact f1'⟩⟩
      | some l => exact ⟨fun v ev => by cases ev; exact ⟨rfl, setE f1'⟩, fun ev => (nomatch ev)⟩
    rintro σ H2 ⟨rfl, f2⟩
    refine ⟨fun σ H3 => σ = [some (.ref a.l), some (.int one), some (optV (FL.aget be one)), some (optV (FL.aget ab one))] ∧ F H3 (FL.adel ab one) (FL.adel be one), ?_, ?_⟩
    · refine ⟨_, rfl, a.l, c.L, dl, _, _, rfl, f2.1, T.clL, T.nLa, fL_above, a.A, rfl, Or.inl ⟨_, Or.inl f2.2.2.1⟩, _, rfl, _, Sum.inl one, f2.2.2.1, rfl, ?_⟩
      rw [valV_kvI, dropK_kvI]
      cases eh : FL.aget ab one with
      | none => exact ⟨fun v ev => (nomatch ev), fun _ => ⟨rfl, by rw [FL.adel_none eh]; exact f2⟩⟩
      | some x => exact ⟨fun v ev => by cases ev; exact ⟨rfl, setA f2⟩, fun ev => (nomatch ev)⟩
    rintro σ H3 ⟨rfl, f3⟩
    refine ⟨fun σ H4 => σ = [some (.ref a.l), some (.int one), some (optV (FL.aget be one)), some (optV (FL.aget ab one))] ∧ F H4 (match FL.aget be one with | some l => FL.adel (FL.adel ab one) l | none => FL.adel ab one) (FL.adel be one), ?_, ?_⟩
    · refine ⟨_, rfl, rfl, _, rfl, ?_⟩
      cases el : FL.aget be one with
      | none => exact iteF ⟨rfl, f3⟩
      | some l =>
        refine iteT ?_
        obtain ⟨ne, e1⟩ := el_l l el
        refine ⟨_, rfl, a.l, c.L, dl, _, _, rfl, f3.1, T.clL, T.nLa, fL_above, a.A, rfl, Or.inl ⟨_, Or.inl f3.2.2.1⟩, _, rfl, _, Sum.inl l, .int one, f3.2.2.1, rfl, by rw [valV_kvI, FL.aget_adel, if_neg ne, e1]; rfl, ?_⟩
        rw [dropK_kvI]
        exact ⟨rfl, setA f3⟩
    rintro σ H4 ⟨rfl, f4⟩
    refine ⟨fun σ H5 => σ = [some (.ref a.l), some (.int one), some (optV (FL.aget be one)), some (optV (FL.aget ab one))] ∧ F H5 (match FL.aget be one with | some l => FL.adel (FL.adel ab one) l | none => FL.adel ab one) (match FL.aget ab one with | some h => FL.adel (FL.adel be one) h | none => FL.adel be one), ?_, ?_⟩
    · refine ⟨_, rfl, rfl, _, rfl, ?_⟩
      cases eh : FL.aget ab one with
      | none => exact iteF ⟨rfl, f4⟩
      | some x =>
        refine iteT ?_
        obtain ⟨ne, e1⟩ := eh_h x eh
        refine ⟨_, rfl, a.l, c.L, dl, _, _, rfl, f4.1, T.clL, T.nLb, fL_beneath, a.E, rfl, Or.inl ⟨_, Or.inl f4.2.2.2.1⟩, _, rfl, _, Sum.inl x, .int one, f4.2.2.2.1, rfl, by rw [valV_kvI, FL.aget_adel, if_neg ne, e1]; rfl, ?_⟩
        rw [dropK_kvI]
        exact ⟨rfl, setE f4⟩
    rintro σ H5 ⟨rfl, f5⟩
    have le1 : ∀ (d : List (Int × Int)) (x : Int), (FL.adel d x).length ≤ d.length := fun d x => List.length_filter_le _ _
    unfold FL.dropA at k
    refine ⟨_, rfl, rfl, _, rfl, ?_⟩
    cases el : FL.aget be one with
    | none =>
      rw [el] at f5 k
      exact iteF (iteF (k H5 ⟨⟨dl, f5.1⟩, f5.2.1, f5.2.2.1, f5.2.2.2.1, nAE⟩ f5.2.2.2.2))
    | some l =>
      rw [el] at f5 k
      refine iteT ⟨_, rfl, rfl, _, rfl, ?_⟩
      cases eh : FL.aget ab one with
      | none =>
        rw [eh] at f5 k
        exact iteF (k H5 ⟨⟨dl, f5.1⟩, f5.2.1, f5.2.2.1, f5.2.2.2.1, nAE⟩ f5.2.2.2.2)
      | some x =>
        rw [eh] at f5 k
        refine iteT ⟨_, rfl, a.l, dl, _, rfl, f5.1, fL_no ⟨by decide +kernel, by decide +kernel, by decide +kernel, by decide +kernel⟩, _, rfl, _, rfl, a, _, _, _, x, l, rfl, ⟨⟨dl, f5.1⟩, f5.2.1, f5.2.2.1, f5.2.2.2.1, nAE⟩, ?_, ?_, fun H6 N6 k6 => ?_⟩
        · exact Nat.le_trans (le1 _ _) (Nat.le_trans (le1 _ _) (Nat.le_trans z1 (by decide)))
        · exact Nat.le_trans (le1 _ _) (Nat.le_trans (le1 _ _) (Nat.le_trans z2 (by decide)))
        · exact k H6 N6 fun b u n1 n2 n3 e => k6 b u n2 n3 (f5.2.2.2.2 b u n1 n2 n3 e)
end
end FW

set_option maxHeartbeats 4000000
/-! The walk 8: a filtering comprehension; Links: ladders, reached, free. -/
namespace FW
open PySem PySem.Spec PyProof.Rows L2
section
variable {P : Program} {w : World} {K : PySem.W.Frag} {mg : Str → Option Value} {base : Heap} {c : CC}

/-- [f(x) for x in xs if p(x)] where neither test nor element changes anything -/
theorem lc_filt {a : Addr} {ns : List Int} {tl : TE} {tt : TT} {te : TE} {j : Nat} {vs : List Nat} {σ : L2.St} {H : Hp} {Q : VK} (p : Int → Bool) (f : Int → V)
    (htl : ∀ Q' : VK, Q' (.ref a) H → tl σ H Q') (hS : SqL K H a (ns.map V.int)) (hn : ns.length ≤ 1000) (hw : ∀ x, wipe ((wipe σ vs).set j (some x)) vs = wipe σ vs)
    (ht : ∀ z ∈ ns, ∀ H1, Same H H1 → ∀ Q' : Bool → Hp → Prop, Q' (p z) H1 → tt ((wipe σ vs).set j (some (.int z))) H1 Q')
    (he : ∀ z ∈ ns, p z = true → ∀ H1, Same H H1 → ∀ Q' : VK, Q' (f z) H1 → te ((wipe σ vs).set j (some (.int z))) H1 Q')
    (k : ∀ D, H D = none → Q (.ref D) (upd H D (.lst ((ns.filter p).map f)))) : tLc (iList K tl) (gName j) tt te vs σ H Q := by
  refine htl _ ⟨a, rfl, ⟨_, hS⟩, fun D hD => lc_list (K := K) (a := a) (xs := ns.map V.int) (fun i H2 => H2 = upd H D (.lst (((ns.take i).filter p).map f))) rfl (fun i H2 _ e => ?_) (fun i x H2 hi e => ?_) (fun H2 e => ?_)⟩
  · subst e
    exact Same.seq (fun b o e => by rw [upd_ne (ne_of_none e hD)]; exact e) hS
  · subst e
    obtain ⟨z, rfl, hz⟩ := itemI hi
    have s1 : Same H (upd H D (.lst (((ns.take i).filter p).map f))) := fun b o e => by rw [upd_ne (ne_of_none e hD)]; exact e
    refine ⟨hw _, ht z (memI hz) _ s1 _ ?_⟩
    have et : ns.take (i + 1) = ns.take i ++ [z] := by rw [List.take_add_one, hz]; rfl
    cases hp : p z with
    | true =>
      rw [if_pos rfl]
      refine he z (memI hz) hp _ s1 _ ⟨_, upd_same, ?_, ?_⟩
      · rw [List.length_map]
        refine small1000 (Nat.le_trans (List.length_filter_le _ _) (Nat.le_trans (List.length_take_le _ _) ?_))
        exact Nat.le_of_lt (Nat.lt_of_lt_of_le (List.getElem?_eq_some_iff.mp hz).1 hn)
      · rw [upd_upd, et, List.filter_append, List.map_append, List.filter_cons, if_pos hp]; rfl
    | false =>
      rw [if_neg Bool.false_ne_true, et, List.filter_append, List.filter_cons, if_neg (by rw [hp]; exact Bool.false_ne_true), List.filter_nil, List.append_nil]
  · subst e
    rw [List.length_map, List.take_length]
    exact k D hD

/-! ### lists of lists -/
def LLT (H : Hp) : List Addr → List (List Int) → Prop
  | [], [] => True
  | t :: ts, l :: r => H t = some (lI l) ∧ LLT H ts r
  | _, _ => False
theorem LLT.same {H H' : Hp} (s : ∀ b xs, H b = some (.lst xs) → H' b = some (.lst xs)) : ∀ {ts : List Addr} {r : List (List Int)}, LLT H ts r → LLT H' ts r
  | [], [], _ => trivial
  | t :: ts, p :: r, h => ⟨s _ _ h.1, LLT.same s h.2⟩
  | [], _ :: _, h => h.elim
  | _ :: _, [], h => h.elim
theorem LLT.sameM {H H' : Hp} : ∀ {ts : List Addr} {r : List (List Int)}, (∀ b ∈ ts, ∀ u, H b = some u → H' b = some u) → LLT H ts r → LLT H' ts r
  | [], [], _, _ => trivial
  | t :: ts, p :: r, s, h => ⟨s t List.mem_cons_self _ h.1, LLT.sameM (fun b hb => s b (List.mem_cons_of_mem _ hb)) h.2⟩
  | [], _ :: _, _, h => h.elim
  | _ :: _, [], _, h => h.elim
theorem LLT.snoc {H : Hp} {t : Addr} {l : List Int} (h : H t = some (lI l)) : ∀ {ts : List Addr} {r : List (List Int)}, LLT H ts r → LLT H (ts ++ [t]) (r ++ [l])
  | [], [], _ => ⟨h, trivial⟩
  | _ :: ts, _ :: r, q => ⟨q.1, LLT.snoc h q.2⟩
  | [], _ :: _, q => q.elim
  | _ :: _, [], q => q.elim
theorem LLT.len {H : Hp} : ∀ {ts : List Addr} {r : List (List Int)}, LLT H ts r → ts.length = r.length
  | [], [], _ => rfl
  | t :: ts, p :: r, h => by rw [List.length_cons, List.length_cons, LLT.len h.2]
  | [], _ :: _, h => h.elim
  | _ :: _, [], h => h.elim
theorem LLT.is {H : Hp} : ∀ {ts : List Addr} {r : List (List Int)}, LLT H ts r → ∀ t ∈ ts, ∃ l, H t = some (lI l)
  | [], [], _, t, ht => nomatch ht
  | _ :: ts, _ :: r, h, t, ht => by
    rcases List.mem_cons.mp ht with e | ht
    · exact ⟨_, e ▸ h.1⟩
    · exact LLT.is h.2 t ht
  | [], _ :: _, h, _, _ => h.elim
  | _ :: _, [], h, _, _ => h.elim
theorem LLT.get {H : Hp} : ∀ {ts : List Addr} {r : List (List Int)} {i : Nat} {t : Addr}, LLT H ts r → ts[i]? = some t → ∃ l, r[i]? = some l ∧ H t = some (lI l)
  | [], [], i, t, _, ht => by simp at ht
  | _ :: ts, _ :: r, 0, t, h, ht => ⟨_, rfl, Option.some.inj ht ▸ h.1⟩
  | t0 :: ts, l0 :: r, i + 1, t, h, ht => LLT.get (i := i) (r := r) (ts := ts) h.2 (show ts[i]? = some t from ht)
  | [], _ :: _, _, _, h, _ => h.elim
  | _ :: _, [], _, _, h, _ => h.elim
theorem dp_llT {H : Hp} : ∀ {ts : List Addr} {r : List (List Int)}, LLT H ts r → DpAll K H (ts.map V.ref) (r.map iD)
  | [], [], _ => .nil
  | t :: ts, p :: r, h => .cons (dp_iD (SqL.of h.1)) (dp_llT h.2)
  | [], _ :: _, h => h.elim
  | _ :: _, [], h => h.elim
/-- a new list of new lists at p; H0: the heap ahead -/
structure LLAt (H0 H : Hp) (p : Addr) (ps : List Addr) (ll : List (List Int)) : Prop where
  at_ : H p = some (.lst (ps.map V.ref))
  tt : LLT H ps ll
  nd : (p :: ps).Nodup
  new : ∀ q ∈ p :: ps, H0 q = none
theorem LLAt.dp {H0 H : Hp} {p : Addr} {ps : List Addr} {ll : List (List Int)} (h : LLAt H0 H p ps ll) : Dp K H (.ref p) (iiD ll) := .lst (SqL.of h.at_) (dp_llT h.tt)

/-! ### ladders -/
def spLadders (c : CC) : Sp := fun vs H Q _ => ∃ (a : LA) (L : List Int) (ab be : List (Int × Int)) (lies : Int → Int → Bool), vs = [.ref a.l] ∧ LnkAt c H a L ab be ∧ FL.Mt lies L ab be ∧ FL.Po lies L ∧ L.length ≤ 24 ∧
  ∀ H' p ps, Same H H' → LLAt H H' p ps (FL.ladders L ab be) → Q (.ref p) H'
theorem ok_L_ladders (T : Tx K mg c) (D : MD K c.L "ladders" "Links.ladders" sL_ladders) : MOk P w K mg base CX0 c.L "ladders" ["self"] 1 (spLadders c) := by
  have sc : FnScope ["self", "found", "one", "ladder"] ["self"] (defScope sL_ladders) := ⟨rfl, rfl, rfl, by decide +kernel, rfl, by decide +kernel, by decide +kernel⟩
  refine D.ok sc (fun _ _ _ _ _ _ us hl => match us, hl with | [_], _ => rfl) (fun vs H Q E h => ?_) (fun f cdv A outer s H vs Q E hr h => ?_)
  · obtain ⟨a, L, ab, be, lies, rfl, _⟩ := h; rfl
  · obtain ⟨a, L, ab, be, lies, rfl, N, M, Po, hL24, k⟩ := h
    have hu := hu_of hr
    obtain ⟨⟨dl, hal⟩, hL, hA, hE, nAE⟩ := id N
    refine ⟨_, pss_cons (ps_set (i := 1) sc.nd rfl (Or.inl rfl) (pe_lst pa_nil))
      (pss_cons (ps_for PassesOwn.never rfl (pi_list (pe_fld (pv 0) rfl)) (pg_name (i := 2) sc.nd rfl (Or.inl rfl))
        (pss_one (ps_if (pt_cmp (pc_dnotin hu (pv 2) (pe_fld (pv 0) rfl)))
          (pss_cons (ps_set (i := 3) sc.nd rfl (Or.inl rfl) (pe_lst (pa_cons (pv 2) pa_nil)))
          (pss_cons (ps_while PassesOwn.never (pt_cmp (pc_din hu (pe_ix ix_list (pv 3) (pe_un un_neg pe_int) (fun _ _ => rfl)) (pe_fld (pv 0) rfl)))
            (pss_one (ps_expr (pe_bm PySem.F.plainAttrs_list PySem.F.slot_list_append PySem.F.type_list_append mt_append (pv 3) (pa_cons (pe_dget hu (pe_fld (pv 0) rfl) (pe_ix ix_list (pv 3) (pe_un un_neg pe_int) (fun _ _ => rfl)) (fun _ _ => rfl)) pa_nil)))))
          (pss_one (ps_expr (pe_bm PySem.F.plainAttrs_list PySem.F.slot_list_append PySem.F.type_list_append mt_append (pv 1) (pa_cons (pv 3) pa_nil)))))) pss_nil)))
      (pss_one (ps_ret (pv 1)))), ?_⟩
    refine ⟨Nat.zero_le _, fun q hq => ?_⟩
    have s0 : Same H (upd H q (.lst [])) := fun b o e => by rw [upd_ne (ne_of_none e hq)]; exact e
    refine ⟨_, rfl, a.l, c.L, dl, _, _, rfl, s0 _ _ hal, T.clL, T.nLl, fL_linked, a.L, rfl, ⟨_, SqL.of (s0 _ _ hL)⟩, for_list (K := K) (a := a.L) (xs := L.map V.int)
      (fun i σ H2 => ∃ (ps : List Addr) (v r : Option V), σ = [some (.ref a.l), some (.ref q), v, r] ∧ Same H H2 ∧ LLAt H H2 q ps ((FL.bots (L.take i) be).map (FL.up ab L.length)))
      ⟨[], none, none, rfl, s0, upd_same, trivial, by simp, fun z hz => by rw [List.mem_singleton.mp hz]; exact hq⟩ (fun i σ H2 _ ⟨_, _, _, _, s2, _⟩ => SqL.of (s2 _ _ hL)) ?_ ?_⟩
    · rintro i y σ H2 hi ⟨ps, v, r, rfl, s2, A2⟩
      obtain ⟨one, rfl, hone⟩ := itemI hi
      have oneL := memI hone
      have hal2 := s2 _ _ hal
      have et : FL.bots (L.take (i + 1)) be = FL.bots (L.take i) be ++ (if (FL.aget be one).isNone = true then [one] else []) := by
        unfold FL.bots
        rw [List.take_add_one, hone]
        show List.filter _ (L.take i ++ [one]) = _
        rw [List.filter_append, List.filter_cons]
        split <;> rfl
      refine ⟨_, rfl, _, rfl, a.l, c.L, dl, _, _, rfl, hal2, T.clL, T.nLb, fL_beneath, a.E, _, rfl, DGet.k (k := Sum.inl one) (s2 _ _ hE), _, rfl, ?_⟩
      rw [valV_kvI, Option.isSome_map]
      cases hb : FL.aget be one with
      | some lo =>
        refine iteF ⟨ps, _, _, rfl, s2, ?_⟩
        rw [et, hb, if_neg (by simp), List.append_nil]; exact A2
      | none =>
        refine iteT ?_
        rw [hb, if_pos (by rfl)] at et
        refine ⟨_, rfl, by show 1 ≤ sizeLine; decide, fun r1 hr1 => ?_⟩
        have s3 : ∀ b u, H2 b = some u → (upd H2 r1 (.lst [.int one])) b = some u := fun b u e => by rw [upd_ne (ne_of_none e hr1)]; exact e
        have hr10 : H r1 = none := by
          cases z : H r1 with
          | none => rfl
          | some u => rw [s2 _ _ z] at hr1; cases hr1
        -- while ladder[-1] in self.above
        refine ⟨fun m σ H4 => σ = [some (.ref a.l), some (.ref q), some (.int one), some (.ref r1)] ∧ (∀ b u, b ≠ r1 → H2 b = some u → H4 b = some u) ∧
          ∃ (xs : List Int) (x : Int) (n : Nat), H4 r1 = some (lI (xs ++ [x])) ∧ x ∈ L ∧ xs ++ FL.up ab n x = FL.up ab L.length one ∧ FL.above L x ≤ n ∧ m = FL.above L x ∧ xs.length + FL.above L x ≤ 24,
          ⟨FL.above L one, rfl, fun b u n e => by rw [upd_ne n]; exact e, [], one, L.length, upd_same, oneL, rfl, FL.above_le _ _, rfl, by rw [List.length_nil, Nat.zero_add]; exact Nat.le_trans (FL.above_le _ _) hL24⟩, ?_⟩
        rintro m σ H4 ⟨rfl, k4, xs, x, n, h4, xL, eu, hn, rfl, hlen⟩
        have nlr : a.l ≠ r1 := ne_of_none hal2 hr1
        have nAr : a.A ≠ r1 := ne_of_none (s2 _ _ hA) hr1
        have hal4 := k4 _ _ nlr hal2
        have hA4 := k4 _ _ nAr (s2 _ _ hA)
        have ixq : atI ((xs ++ [x]).map V.int) (-1) = some (V.int x) := by rw [List.map_append]; exact atI_last _ _
        refine ⟨_, rfl, _, rfl, r1, _, _, _, rfl, rfl, SqL.of h4, ixq, _, rfl, a.l, c.L, dl, _, _, rfl, hal4, T.clL, T.nLa, fL_above, a.A, _, rfl, DGet.k (k := Sum.inl x) hA4, _, rfl, ?_⟩
        rw [valV_kvI, Option.isSome_map]
        cases ha : FL.aget ab x with
        | some y =>
          refine iteT ⟨_, fun σ' H' z => z, ?_⟩
          obtain ⟨_, yL, hy⟩ := M.inL _ _ ha
          have hab := FL.above_lt yL (Po.lt y yL x hy)
          have g := DGet.k (k := Sum.inl x) hA4
          rw [valV_kvI, ha] at g
          refine ⟨_, rfl, Or.inl ⟨rfl, _, SqL.of h4⟩, _, rfl, a.l, c.L, dl, _, _, rfl, hal4, T.clL, T.nLa, fL_above, _, rfl, _, rfl, r1, _, _, _, rfl, rfl, SqL.of h4, ixq, a.A, .int y, rfl, g, r1, _, _, rfl, rfl, h4, ?_, ?_⟩
          · rw [List.length_map, List.length_append, List.length_singleton]; exact small1000 (by omega)
          · refine ⟨FL.above L y, hab, rfl, fun b u n e => by rw [upd_ne n]; exact k4 b u n e, xs ++ [x], y, n - 1, ?_, yL, ?_, by omega, rfl, by rw [List.length_append, List.length_singleton]; omega⟩
            · rw [upd_same]
              show _ = some (HO.lst ((xs ++ [x] ++ [y]).map V.int))
              rw [List.map_append (l₁ := xs ++ [x])]; rfl
            · obtain ⟨n', rfl⟩ : ∃ n', n = n' + 1 := ⟨n - 1, by omega⟩
              rw [← eu]
              show (xs ++ [x]) ++ FL.up ab n' y = xs ++ FL.up ab (n' + 1) x
              rw [List.append_assoc]
              congr 1
              show x :: FL.up ab n' y = _
              conv => rhs; unfold FL.up
              rw [ha]
        | none =>
          refine iteF ?_
          have eu' : xs ++ [x] = FL.up ab L.length one := by
            rw [← eu]
            congr 1
            cases n with
            | zero => rfl
            | succ n => unfold FL.up; rw [ha]
          have nqr : q ≠ r1 := ne_of_none A2.at_ hr1
          refine ⟨_, rfl, Or.inl ⟨rfl, _, SqL.of (k4 _ _ nqr A2.at_)⟩, _, rfl, q, _, _, rfl, rfl, k4 _ _ nqr A2.at_, ?_, ?_⟩
          · rw [List.length_map, A2.tt.len, List.length_map]
            refine small1000 (Nat.le_trans (List.length_filter_le _ _) (Nat.le_trans (List.length_take_le _ _) ?_))
            have := (List.getElem?_eq_some_iff.mp hone).1
            omega
          · have nps : ∀ t ∈ ps, t ≠ r1 ∧ t ≠ q := fun t ht => by
              obtain ⟨l, hl⟩ := A2.tt.is t ht
              refine ⟨ne_of_none hl hr1, fun e => ?_⟩
              exact (List.nodup_cons.mp A2.nd).1 (e ▸ ht)
            refine ⟨ps ++ [r1], _, _, rfl, fun b u e => ?_, ?_, ?_, ?_, fun t ht => ?_⟩
            · rw [upd_ne (ne_of_none e hq)]
              exact k4 b u (ne_of_none e hr10) (s2 b u e)
            · rw [upd_same, List.map_append]; rfl
            · rw [et, List.map_append]
              refine LLT.snoc ?_ (A2.tt.sameM fun t ht u e => by rw [upd_ne (nps t ht).2]; exact k4 t u (nps t ht).1 e)
              rw [upd_ne nqr.symm, ← eu']; exact h4
            · refine List.nodup_cons.mpr ⟨fun z => ?_, FL.nodup_snoc (List.nodup_cons.mp A2.nd).2 fun z => (nps r1 z).1 rfl⟩
              rcases List.mem_append.mp z with z | z
              · exact (List.nodup_cons.mp A2.nd).1 z
              · exact nqr (List.mem_singleton.mp z)
            · rcases List.mem_cons.mp ht with rfl | ht
              · exact hq
              · rcases List.mem_append.mp ht with ht | ht
                · exact A2.new t (List.mem_cons_of_mem _ ht)
                · rw [List.mem_singleton.mp ht]; exact hr10
    · rintro σ H2 ⟨ps, v, r, rfl, s2, A2⟩
      rw [List.length_map, List.take_length] at A2
      exact ⟨_, rfl, k H2 q ps s2 A2⟩
end
end FW

set_option maxHeartbeats 4000000
/-! The walk 9: Links: reached, free. -/
namespace FW
open PySem PySem.Spec PyProof.Rows L2

theorem reachIn_cons (lies : Int → Int → Bool) (ab : List (Int × Int)) (high x : Int) (r : List Int) (s : FL.RS) : FL.reachIn lies ab high (x :: r) s = FL.reachIn lies ab high r (FL.reachIn lies ab high [x] s) := by
  simp only [FL.reachIn]
  split
  · split <;> rfl
  · rfl
theorem reachIn_app (lies : Int → Int → Bool) (ab : List (Int × Int)) (high : Int) : ∀ (l1 l2 : List Int) (s : FL.RS), FL.reachIn lies ab high (l1 ++ l2) s = FL.reachIn lies ab high l2 (FL.reachIn lies ab high l1 s)
  | [], _, _ => rfl
  | x :: l1, l2, s => by rw [List.cons_append, reachIn_cons, reachIn_app lies ab high l1 l2, ← reachIn_cons]
theorem merge_nd : ∀ (more acc : List (Key × V)), ((acc ++ more).map (·.1)).Nodup → mergeK acc more = acc ++ more
  | [], acc, _ => by rw [List.append_nil]; rfl
  | p :: r, acc, h => by
    have hk : valV acc p.1 = none := by
      cases e : valV acc p.1 with
      | none => rfl
      | some v =>
        have m := valV_in e
        rw [List.map_append, List.map_cons, List.nodup_append] at h
        exact absurd rfl (h.2.2 p.1 m p.1 List.mem_cons_self)
    show mergeK (putK acc p.1 p.2) r = _
    rw [putK_new _ hk, merge_nd r (acc ++ [(p.1, p.2)]) (by rw [List.append_assoc]; exact h), List.append_assoc]; rfl

/-- a field read, the written part by its own name (within a comprehension) -/
theorem pfK {X : Cx} {e : Expr} {f : Str} {pos : Pos} {ta : TE} (K : PySem.W.Frag) (he : PE X e ta) (hK : X.K = K := by rfl) (hb : attributeBase e f X.env (eval e X.env) = eval e X.env := by rfl) : PE X (.Attribute e f pos) (tFld K ta f) := by
  subst hK
  exact pe_fld he hb
theorem paired_map {H : Hp} {K : PySem.W.Frag} : ∀ {ts : List Addr} {bl : List Int}, Paired (fun t x => H t = some (.tup [.int x, .bl true])) ts bl → Paired (fun p kv => SqT K H p [kV kv.1, kv.2]) ts (kvI (fun _ => V.bl true) (tr1 bl))
  | _, _, .nil => .nil
  | _, _, .cons h t => .cons (SqT.of h) (paired_map t)
theorem tr1_keys (l : List Int) : (tr1 l).map (·.1) = l := by
  unfold tr1
  rw [List.map_map]; exact List.map_id _
theorem inl_nd {l : List Int} (h : l.Nodup) : (l.map (Sum.inl : Int → Key)).Nodup := List.pairwise_map.mpr (h.imp fun h e => h (Sum.inl.inj e))
section
variable {P : Program} {w : World} {K : PySem.W.Frag} {mg : Str → Option Value} {base : Heap} {c : CC}
def spReached (c : CC) : Sp := fun vs H Q _ => ∃ (a : LA) (B : Addr) (bel : List (Int × Nat)) (told : Nat) (L : List Int) (ab be : List (Int × Int)), vs = [.ref a.l] ∧ JPre c H a B bel told L ab be ∧ FL.Po (FL.liesB bel) L ∧ FL.NoAug (FL.liesB bel) L ab be ∧
  ∀ H' t hs ls, Same H H' → H t = none → H' t = some (.tup [.ref hs, .ref ls]) → H' hs = some (dS (FL.reachAll (FL.liesB bel) L ab be).hs) → H' ls = some (dS (FL.reachAll (FL.liesB bel) L ab be).ls) → Q (.ref t) H'
theorem ok_L_reached (T : Tx K mg c) (D : MD K c.L "reached" "Links.reached" sL_reached) (MO : MOk P w K mg base CX0 c.O "lies_above" ["self", "one", "other"] 2 (spO_lies c)) : MOk P w K mg base CX0 c.L "reached" ["self"] 3 (spReached c) := by
  obtain ⟨f2, fd2, m2, b2, F2⟩ := MO
  have sc : FnScope ["self", "highs", "lows", "waiting", "high", "low", "one"] ["self"] (defScope sL_reached) := ⟨rfl, rfl, rfl, by decide +kernel, rfl, by decide +kernel, by decide +kernel⟩
  refine D.ok sc (fun _ _ _ _ _ _ us hl => match us, hl with | [_], _ => rfl) (fun vs H Q E h => ?_) (fun f cdv A outer s H vs Q E hr h => ?_)
  · obtain ⟨a, B, bel, told, L, ab, be, rfl, _⟩ := h; rfl
  · obtain ⟨a, B, bel, told, L, ab, be, rfl, p, hP, ⟨R, r1, r2⟩, k⟩ := h
    have hu := hu_of hr
    obtain ⟨⟨dl, hal⟩, hL, hA, hE, nAE⟩ := id p.N
    obtain ⟨⟨dO, hO⟩, hB⟩ := id p.O
    refine ⟨_, pss_cons (ps_set (i := 1) sc.nd rfl (Or.inl rfl) (pe_callTy (call_dictP rfl) (by rfl) T.zDict PyProof.Rows.boot_dict (pa_cons
        (pe_lc (own := [("one", 6)]) (g := gName 6) rfl sc.nd (pi_list (pe_fld (pv 0) rfl)) (blkOk_by (own := [("one", 6)]) (N := ["self", "highs", "lows", "waiting", "high", "low", "one"]) (sc := defScope sL_reached) (by decide +kernel)) (fun _ _ _ _ _ => pg_name (i := 6) sc.nd rfl (Or.inl rfl))
          (fun _ _ _ _ _ => pts_one (pt_cmp (pc_dnotin hu (pv 6) (pfK K (pv 0))))) (fun _ _ _ _ _ => pe_tup (pa_cons (pv 6) (pa_cons pe_bl pa_nil)))) pa_nil)))
      (pss_cons (ps_set (i := 2) sc.nd rfl (Or.inl rfl) pe_dnewK)
      (pss_cons (ps_set (i := 3) sc.nd rfl (Or.inl rfl) (pe_callTy (call_listD rfl) (by rfl) T.zList PyProof.Rows.boot_list (pa_cons (pv 1) pa_nil)))
      (pss_cons (ps_while PassesOwn.never (pt_cmpR (op_neD hr.units) (pv 3) (pe_lst pa_nil) (nomark _))
        (pss_cons (ps_set (i := 4) sc.nd rfl (Or.inl rfl) (pe_bm0 PySem.F.plainAttrs_list PySem.F.slot_list_pop PySem.F.type_list_pop mt_pop (pv 3)))
        (pss_one (ps_for PassesOwn.never rfl (pi_list (pe_fld (pv 0) rfl)) (pg_name (i := 5) sc.nd rfl (Or.inl rfl))
          (pss_one (ps_if (PW.pt (pw_and (pt_cmp (pc_dnotin hu (pv 5) (pv 2))) (pw_and1 (pt_val (pe_meth (pe_fld (pv 0) rfl) T.clO m2 F2 hr b2 .nil pass0 (pa_cons (pv 4) (pa_cons (pv 5) pa_nil)))))))
            (pss_cons (ps_dput hu (pv 2) (pv 5) pe_bl rfl)
            (pss_one (ps_if (pt_cmp (pc_dnotin hu (pe_dget hu (pe_fld (pv 0) rfl) (pv 5) (fun _ _ => rfl)) (pv 1)))
              (pss_cons (ps_dput hu (pv 1) (pe_dget hu (pe_fld (pv 0) rfl) (pv 5) (fun _ _ => rfl)) pe_bl rfl)
              (pss_one (ps_expr (pe_bm PySem.F.plainAttrs_list PySem.F.slot_list_append PySem.F.type_list_append mt_append (pv 3) (pa_cons (pe_dget hu (pe_fld (pv 0) rfl) (pv 5) (fun _ _ => rfl)) pa_nil))))) pss_nil))) pss_nil))))))
      (pss_one (ps_ret (pe_tup (pa_cons (pv 1) (pa_cons (pv 2) pa_nil)))))))), ?_⟩
    -- highs = dict([(one, True) ..])
    refine ⟨_, rfl, a.l, c.L, dl, _, _, rfl, hal, T.clL, T.nLl, fL_linked, a.L, rfl, ⟨_, SqL.of hL⟩, fun d hd => lc_list (K := K) (a := a.L) (xs := L.map V.int)
      (fun i H2 => ∃ ts : List Addr, Same H H2 ∧ H2 d = some (.lst (ts.map V.ref)) ∧ Paired (fun t x => H2 t = some (.tup [.int x, .bl true])) ts (FL.bots (L.take i) be) ∧ ts.length ≤ i)
      ⟨[], fun b o e => by rw [upd_ne (ne_of_none e hd)]; exact e, upd_same, .nil, Nat.le_refl _⟩ (fun i H2 _ ⟨_, s2, _⟩ => SqL.of (s2 _ _ hL)) ?_ ?_⟩
    · rintro i y H2 hi ⟨ts, s2, h2, pr, lt⟩
      obtain ⟨one, rfl, hone⟩ := itemI hi
      have et : FL.bots (L.take (i + 1)) be = FL.bots (L.take i) be ++ (if (FL.aget be one).isNone = true then [one] else []) := by
        unfold FL.bots
        rw [List.take_add_one, hone]
        show List.filter _ (L.take i ++ [one]) = _
        rw [List.filter_append, List.filter_cons]
        split <;> rfl
      refine ⟨rfl, _, rfl, _, rfl, a.l, c.L, dl, _, _, rfl, s2 _ _ hal, T.clL, T.nLb, fL_beneath, a.E, _, rfl, DGet.k (k := Sum.inl one) (s2 _ _ hE), _, rfl, ?_⟩
      rw [valV_kvI, Option.isSome_map]
      cases hb : FL.aget be one with
      | some lo =>
        refine iteF ⟨ts, s2, h2, ?_, Nat.le_succ_of_le lt⟩
        rw [et, hb, if_neg (by simp), List.append_nil]; exact pr
      | none =>
        refine iteT ⟨_, rfl, by show 2 ≤ sizeLine; decide, fun t ht => ⟨_, (by rw [upd_ne (ne_of_none h2 ht)]; exact h2), ?_, ts ++ [t], fun b o e => ?_, ?_, ?_, ?_⟩⟩
        · rw [List.length_map]
          have := (List.getElem?_eq_some_iff.mp hone).1
          have := p.hL
          exact small1000 (by omega)
        · rw [upd_ne (ne_of_none e hd), upd_ne (ne_of_none (s2 _ _ e) ht)]; exact s2 _ _ e
        · rw [upd_same, List.map_append]; rfl
        · rw [et, hb, if_pos (by rfl)]
          have ntd : ∀ x o, (upd H2 t (.tup [.int one, .bl true])) x = some (HO.tup o) → (upd (upd H2 t (.tup [.int one, .bl true])) d (.lst (ts.map V.ref ++ [.ref t]))) x = some (HO.tup o) := fun x o e => by
            rw [upd_ne]
            · exact e
            · intro z
              rw [z, upd_ne (ne_of_none h2 ht), h2] at e; cases e
          refine Paired.snoc (Paired.mapP pr fun x y e => ntd _ _ (by rw [upd_ne (ne_of_none e ht)]; exact e)) (ntd _ _ upd_same)
        · rw [List.length_append, List.length_singleton]; omega
    rintro H2 ⟨ts, s2, h2, pr, lt⟩
    rw [List.length_map, List.take_length] at pr
    have bn : (FL.bots L be).Nodup := FL.bots_nd hP
    refine ⟨d, ts, kvI (fun _ => V.bl true) (tr1 (FL.bots L be)), rfl, SqL.of h2, ?_, fun hs hhs => ?_⟩
    · exact paired_map pr
    rw [merge_nd (kvI (fun _ => V.bl true) (tr1 (FL.bots L be))) [] (by rw [List.nil_append, kvI_keyS, tr1_keys]; exact inl_nd bn), List.nil_append]
    -- lows = {}; waiting = list(highs)
    intro ls hls
    have nls : hs ≠ ls := fun e => by rw [← e, upd_same] at hls; cases hls
    refine ⟨_, rfl, hs, _, rfl, Or.inl (by rw [upd_ne nls]; exact upd_same), fun wt hwt => ?_⟩
    rw [kvI_keys, tr1_keys]
    have nwl : wt ≠ ls := fun e => by rw [e, upd_same] at hwt; cases hwt
    rw [upd_ne nwl] at hwt
    have nwh : wt ≠ hs := fun e => by rw [e, upd_same] at hwt; cases hwt
    rw [upd_ne nwh] at hwt
    have hls2 : H2 ls = none := by rw [upd_ne nls.symm] at hls; exact hls
    have s5 : Same H (upd (upd (upd H2 hs (dS (FL.bots L be))) ls (.dK [])) wt (lI (FL.bots L be))) := fun b o e => by
      have e2 := s2 b o e
      rw [upd_ne (ne_of_none e2 hwt), upd_ne (ne_of_none e2 hls2), upd_ne (ne_of_none e2 hhs)]; exact e2
    have n1 : ∀ b o, H b = some o → b ≠ hs ∧ b ≠ ls ∧ b ≠ wt := fun b o e => ⟨ne_of_none (s2 b o e) hhs, ne_of_none (s2 b o e) hls2, ne_of_none (s2 b o e) hwt⟩
    have I0 : FL.RInv (FL.liesB bel) L ab be R ⟨FL.bots L be, [], FL.bots L be⟩ := ⟨fun b hb => hb, fun h hh => (FL.mem_bots.mp hh).1, bn, fun l hl => (nomatch hl), List.nodup_nil, fun h hh => hh, fun l hl => (nomatch hl), fun h hh => r1 h (FL.mem_bots.mp hh).1 (FL.mem_bots.mp hh).2⟩
    have D0 : FL.RDone (FL.liesB bel) L ⟨FL.bots L be, [], FL.bots L be⟩ (fun _ => False) := fun h hh hw => absurd hh hw
    refine ⟨fun m σ H3 => ∃ (st : FL.RS) (v1 v2 v3 : Option V), σ = [some (.ref a.l), some (.ref hs), some (.ref ls), some (.ref wt), v1, v2, v3] ∧ Same H H3 ∧ H3 hs = some (dS st.hs) ∧ H3 ls = some (dS st.ls) ∧ H3 wt = some (lI st.wt) ∧
      FL.RInv (FL.liesB bel) L ab be R st ∧ FL.RDone (FL.liesB bel) L st (fun _ => False) ∧ st.wt.length + L.length < m + st.hs.length ∧ st.wt.length ≤ st.hs.length ∧ FL.reachAll (FL.liesB bel) L ab be = FL.reach (FL.liesB bel) L ab m st,
      ⟨L.length + 1, _, none, none, none, rfl, s5, by rw [upd_ne nwh.symm, upd_ne nls, upd_same], by rw [upd_ne nwl.symm, upd_same]; rfl, upd_same, I0, D0, by simp only; omega, Nat.le_refl _, rfl⟩, ?_⟩
    rintro m σ H3 ⟨st, v1, v2, v3, rfl, s3, h3h, h3l, h3w, I, RD, hm, hwh, ec⟩
    refine ⟨_, rfl, Nat.zero_le _, fun e0 he0 => ?_⟩
    have t3 : ∀ b o, H3 b = some o → (upd H3 e0 (.lst [])) b = some o := fun b o e => by rw [upd_ne (ne_of_none e he0)]; exact e
    refine ⟨iD st.wt, .list [], dp_iD (SqL.of (t3 _ _ h3w)), dp_nil upd_same, iD_sh _, by exact iD_sh [], _, rfl, ?_⟩
    rw [show PyData.eqv (iD st.wt) (.list []) = decide (st.wt = []) from eqv_dec eqv_iD st.wt []]
    generalize upd H3 e0 (.lst []) = H4 at t3
    have s4 : Same H H4 := fun b o e => t3 b o (s3 b o e)
    have h4h := t3 _ _ h3h
    have h4l := t3 _ _ h3l
    have h4w := t3 _ _ h3w
    clear t3 he0
    cases m with
    | zero => have := FL.nodup_len_le I.hn I.hL; omega
    | succ m =>
    unfold FL.reach at ec
    cases eg : st.wt.getLast? with
    | none =>
      have ew : st.wt = [] := List.getLast?_eq_none_iff.mp eg
      rw [decide_eq_true ew]
      refine iteF ?_
      rw [eg] at ec
      simp only at ec
      refine ⟨_, rfl, _, rfl, by show 2 ≤ sizeLine; decide, fun t ht => ?_⟩
      refine k _ t hs ls (fun b o e => by rw [upd_ne (ne_of_none (s4 b o e) ht)]; exact s4 b o e) ?_ upd_same ?_ ?_
      · cases z : H t with
        | none => rfl
        | some o => rw [s4 _ _ z] at ht; cases ht
      · rw [upd_ne (ne_of_none h4h ht), ec]; exact h4h
      · rw [upd_ne (ne_of_none h4l ht), ec]; exact h4l
    | some high =>
      have ew : st.wt ≠ [] := fun e => by rw [e] at eg; cases eg
      rw [decide_eq_false ew]
      rw [eg] at ec
      simp only at ec
      have hw : high ∈ st.wt := List.mem_of_getLast? eg
      have hh := I.wh high hw
      have highL := I.hL high hh
      refine iteT ⟨_, fun σ' H' z => z, ?_⟩
      have iw : (st.wt.map V.int)[(st.wt.map V.int).length - 1]? = some (V.int high) := by
        rw [← List.getLast?_eq_getElem?, List.getLast?_map, eg]; rfl
      refine ⟨_, rfl, Or.inl ⟨rfl, _, SqL.of h4w⟩, wt, _, _, rfl, rfl, h4w, iw, ?_⟩
      rw [show ((st.wt.map V.int).dropLast) = st.wt.dropLast.map V.int from List.map_dropLast.symm]
      have hal4 := s4 _ _ hal
      have nwal := (n1 _ _ hal).2.2
      have sub : ∀ x ∈ st.wt.dropLast, x ∈ st.wt := fun x hx => List.dropLast_subset _ hx
      have I1 : FL.RInv (FL.liesB bel) L ab be R ⟨st.hs, st.ls, st.wt.dropLast⟩ := ⟨I.bot, I.hL, I.hn, I.lL, I.ln, fun x hx => I.wh x (sub x hx), I.low, I.hi⟩
      have D1 : FL.RDone (FL.liesB bel) L ⟨st.hs, st.ls, st.wt.dropLast⟩ (· = high) := fun x hx hwx he l hl hy => RD x hx (fun z => (FL.mem_dropLast_or eg z).elim hwx he) (fun z => z) l hl hy
      refine ⟨_, rfl, a.l, c.L, dl, _, _, rfl, (by rw [upd_ne nwal]; exact hal4), T.clL, T.nLl, fL_linked, a.L, rfl, ⟨_, SqL.of (by rw [upd_ne (n1 _ _ hL).2.2]; exact s4 _ _ hL)⟩, for_list (K := K) (a := a.L) (xs := L.map V.int)
        (fun i σ H5 => ∃ (v2 v3 : Option V), σ = [some (.ref a.l), some (.ref hs), some (.ref ls), some (.ref wt), some (.int high), v2, v3] ∧ Same H H5 ∧ H5 hs = some (dS (FL.reachIn (FL.liesB bel) ab high (L.take i) ⟨st.hs, st.ls, st.wt.dropLast⟩).hs) ∧
          H5 ls = some (dS (FL.reachIn (FL.liesB bel) ab high (L.take i) ⟨st.hs, st.ls, st.wt.dropLast⟩).ls) ∧ H5 wt = some (lI (FL.reachIn (FL.liesB bel) ab high (L.take i) ⟨st.hs, st.ls, st.wt.dropLast⟩).wt))
        ⟨v2, v3, rfl, fun b o e => by rw [upd_ne (n1 b o e).2.2]; exact s4 b o e, by rw [upd_ne nwh.symm]; exact h4h, by rw [upd_ne nwl.symm]; exact h4l, upd_same⟩ (fun i σ H5 _ ⟨_, _, _, q, _⟩ => SqL.of (q _ _ hL)) ?_ ?_⟩
      · rintro i y σ H5 hi ⟨w2, w3, rfl, s6, q1, q2, q3⟩
        obtain ⟨low, rfl, hlow⟩ := itemI hi
        have lowL := memI hlow
        have et : L.take (i + 1) = L.take i ++ [low] := by rw [List.take_add_one, hlow]; rfl
        obtain ⟨Ii, _, _, _, h5, hhi⟩ := FL.reachIn_end p.M r2 high (L.take i) (fun x hx => List.mem_of_mem_take hx) ⟨st.hs, st.ls, st.wt.dropLast⟩ hh I1 D1
        rw [et, reachIn_app]
        generalize FL.reachIn (FL.liesB bel) ab high (L.take i) ⟨st.hs, st.ls, st.wt.dropLast⟩ = si at q1 q2 q3 Ii hhi h5
        obtain ⟨shs, sls, swt⟩ := si
        simp only at q1 q2 q3 hhi
        have bh : shs.length ≤ 24 := Nat.le_trans (FL.nodup_len_le Ii.hn Ii.hL) p.hL
        have bl : sls.length ≤ 24 := Nat.le_trans (FL.nodup_len_le Ii.ln Ii.lL) p.hL
        refine ⟨_, rfl, _, rfl, ls, _, rfl, DGet.k (k := Sum.inl low) q2, _, rfl, ?_⟩
        rw [valV_kvI, Option.isSome_map, tr1_get]
        by_cases hin : low ∈ sls
        · rw [decide_eq_true hin]
          refine iteF (iteF ⟨_, _, rfl, s6, ?_⟩)
          simp only [FL.reachIn]
          rw [if_neg fun z => z.1 hin]
          exact ⟨q1, q2, q3⟩
        rw [decide_eq_false hin]
        refine iteT ?_
        have hal6 := s6 _ _ hal
        have O6 : OrdAt c H5 a.o B bel told := p.O.same fun b u _ e => s6 b u e
        refine ⟨_, rfl, a.l, c.L, dl, _, _, rfl, hal6, T.clL, T.nLo, fL_order, a.o, dO, _, rfl, s6 _ _ hO, fO_no ⟨by decide +kernel, by decide +kernel⟩, _, rfl, _, rfl, a.o, B, bel, told, high, low, rfl, O6, (p.hk high highL).1, (p.hk low lowL).2, _, rfl, ?_⟩
        cases hy : FL.liesB bel high low with
        | false =>
          refine iteF ⟨_, _, rfl, s6, ?_⟩
          simp only [FL.reachIn]
          rw [if_neg fun z => by rw [hy] at z; exact nomatch z.2]
          exact ⟨q1, q2, q3⟩
        | true =>
        refine iteT ?_
        obtain ⟨u, eu, _⟩ := r2 low (Ii.hi high hhi low lowL hy)
        -- lows[low] = True
        refine ⟨_, rfl, _, rfl, ls, _, rfl, DPut.k (k := Sum.inl low) q2 (by rw [len_kvI, tr1_len]; exact small1000 (Nat.le_trans bl (by decide))), ?_⟩
        have eS : ∀ (l : List Int) (x : Int), x ∉ l → putK (kvI (fun _ => V.bl true) (tr1 l)) (Sum.inl x : Key) (V.bl true) = kvI (fun _ => V.bl true) (tr1 (l ++ [x])) := fun l x hx => by
          rw [← tr1_put hx]; exact putK_kvI (v := ())
        rw [eS _ _ hin]
        have s7 : Same H (upd H5 ls (dS (sls ++ [low]))) := fun b o e => by rw [upd_ne (n1 b o e).2.1]; exact s6 b o e
        have g := DGet.k (k := Sum.inl low) (s7 _ _ hA)
        rw [valV_kvI, eu] at g
        have q17 : (upd H5 ls (dS (sls ++ [low]))) hs = some (dS shs) := by rw [upd_ne nls]; exact q1
        refine ⟨_, rfl, a.l, c.L, dl, _, _, rfl, s7 _ _ hal, T.clL, T.nLa, fL_above, _, rfl, a.A, .int u, rfl, g, _, rfl, hs, _, rfl, DGet.k (k := Sum.inl u) q17, _, rfl, ?_⟩
        rw [valV_kvI, Option.isSome_map, tr1_get]
        by_cases hu2 : u ∈ shs
        · rw [decide_eq_true hu2]
          refine iteF ⟨_, _, rfl, s7, ?_⟩
          simp only [FL.reachIn]
          rw [if_pos ⟨hin, hy⟩, eu, Option.getD_some, if_neg (fun z => z hu2)]
          exact ⟨q17, upd_same, by rw [upd_ne nwl]; exact q3⟩
        · rw [decide_eq_false hu2]
          refine iteT ?_
          refine ⟨_, rfl, _, rfl, a.l, c.L, dl, _, _, rfl, s7 _ _ hal, T.clL, T.nLa, fL_above, _, rfl, a.A, .int u, rfl, g, hs, _, rfl, DPut.k (k := Sum.inl u) q17 (by rw [len_kvI, tr1_len]; exact small1000 (Nat.le_trans bh (by decide))), ?_⟩
          rw [eS _ _ hu2]
          have s8 : Same H (upd (upd H5 ls (dS (sls ++ [low]))) hs (dS (shs ++ [u]))) := fun b o e => by rw [upd_ne (n1 b o e).1]; exact s7 b o e
          have g8 := DGet.k (k := Sum.inl low) (s8 _ _ hA)
          rw [valV_kvI, eu] at g8
          have q38 : (upd (upd H5 ls (dS (sls ++ [low]))) hs (dS (shs ++ [u]))) wt = some (lI swt) := by rw [upd_ne nwh, upd_ne nwl]; exact q3
          refine ⟨_, rfl, Or.inl ⟨rfl, _, SqL.of q38⟩, _, rfl, a.l, c.L, dl, _, _, rfl, s8 _ _ hal, T.clL, T.nLa, fL_above, _, rfl, a.A, .int u, rfl, g8, wt, _, _, rfl, rfl, q38, ?_, ?_⟩
          · rw [List.length_map]
            have hdl := FL.len_dropLast eg
            simp only at h5
            exact small1000 (by omega)
          · refine ⟨_, _, rfl, fun b o e => by rw [upd_ne (n1 b o e).2.2]; exact s8 b o e, ?_⟩
            simp only [FL.reachIn]
            rw [if_pos ⟨hin, hy⟩, eu, Option.getD_some, if_pos hu2]
            refine ⟨by rw [upd_ne nwh.symm, upd_same], by rw [upd_ne nwl.symm, upd_ne nls.symm, upd_same], ?_⟩
            rw [upd_same]
            show _ = some (HO.lst ((swt ++ [u]).map V.int))
            rw [List.map_append]; rfl
      · rintro σ H5 ⟨w2, w3, rfl, s6, q1, q2, q3⟩
        rw [List.length_map, List.take_length] at q1 q2 q3
        obtain ⟨a1, a2, a3, a4, a5, a6⟩ := FL.reachIn_end p.M r2 high L (fun _ h => h) ⟨st.hs, st.ls, st.wt.dropLast⟩ hh I1 D1
        have hl := FL.len_dropLast eg
        simp only at a5
        refine ⟨m, Nat.lt_succ_self m, _, _, _, _, rfl, s6, q1, q2, q3, a1, fun x hx hwx _ l hl hy => ?_, by omega, by omega, ec⟩
        by_cases q : x = high
        · rw [q] at hy; exact a4 l hl hy
        · exact a2 x hx hwx q l hl hy
end
end FW

set_option maxHeartbeats 4000000
/-! The walk 10: Links: free. -/
namespace FW
open PySem PySem.Spec PyProof.Rows L2
section
variable {P : Program} {w : World} {K : PySem.W.Frag} {mg : Str → Option Value} {base : Heap} {c : CC}
def spLFree (c : CC) : Sp := fun vs H Q _ => ∃ (a : LA) (B : Addr) (bel : List (Int × Nat)) (told : Nat) (L : List Int) (ab be : List (Int × Int)), vs = [.ref a.l] ∧ JPre c H a B bel told L ab be ∧ FL.Po (FL.liesB bel) L ∧ FL.NoAug (FL.liesB bel) L ab be ∧
  ∀ H' t, Same H H' → H t = none → H' t = some (lI (FL.free (FL.liesB bel) L ab be)) → Q (.ref t) H'
theorem ok_L_free (T : Tx K mg c) (D : MD K c.L "free" "Links.free" sL_free) (MR : MOk P w K mg base CX0 c.L "reached" ["self"] 3 (spReached c)) : MOk P w K mg base CX0 c.L "free" ["self"] 4 (spLFree c) := by
  obtain ⟨f1, fd1, m1, b1, F1⟩ := MR
  have sc : FnScope ["self", "highs", "lows", "one"] ["self"] (defScope sL_free) := ⟨rfl, rfl, rfl, by decide +kernel, rfl, by decide +kernel, by decide +kernel⟩
  refine D.ok sc (fun _ _ _ _ _ _ us hl => match us, hl with | [_], _ => rfl) (fun vs H Q E h => ?_) (fun f cdv A outer s H vs Q E hr h => ?_)
  · obtain ⟨a, B, bel, told, L, ab, be, rfl, _⟩ := h; rfl
  · obtain ⟨a, B, bel, told, L, ab, be, rfl, p, hP, hN, k⟩ := h
    have hu := hu_of hr
    obtain ⟨⟨dl, hal⟩, hL, hA, hE, nAE⟩ := id p.N
    refine ⟨_, pss_cons (ps_asg (pe_meth0 (pv 0) T.clL m1 F1 hr b1 .nil pass0) (pg_tup (by rfl) (pgs_cons (pg_name (i := 1) sc.nd rfl (Or.inr rfl)) (pgs_cons (pg_name (i := 2) sc.nd rfl (Or.inr rfl)) pgs_nil))))
      (pss_one (ps_ret (pe_lc (own := [("one", 3)]) (g := gName 3) rfl sc.nd (pi_list (pe_fld (pv 0) rfl)) (blkOk_by (own := [("one", 3)]) (N := ["self", "highs", "lows", "one"]) (sc := defScope sL_free) (by decide +kernel)) (fun _ _ _ _ _ => pg_name (i := 3) sc.nd rfl (Or.inl rfl))
          (fun _ _ _ _ _ => pts_one (PW.pt (pw_and (pt_cmp (pc_din hu (pv 3) (pv 1))) (pw_and1 (pt_cmp (pc_dnotin hu (pv 3) (pv 2))))))) (fun _ _ _ _ _ => pv 3)))), ?_⟩
    refine ⟨_, rfl, a.l, dl, _, rfl, hal, fL_no ⟨by decide +kernel, by decide +kernel, by decide +kernel, by decide +kernel⟩, a, B, bel, told, L, ab, be, rfl, p, hP, hN, fun H2 t hs ls s2 ht ht2 hh hl => ?_⟩
    refine ⟨t, _, rfl, SqT.of ht2, rfl, _, _, rfl, _, _, rfl, rfl, ?_⟩
    dsimp only [tRet]
    refine lc_filt (K := K) (a := a.L) (ns := L) (fun x => decide (x ∈ (FL.reachAll (FL.liesB bel) L ab be).hs ∧ ¬ x ∈ (FL.reachAll (FL.liesB bel) L ab be).ls)) V.int (fun Q' q => ?_) (SqL.of (s2 _ _ hL)) (Nat.le_trans p.hL (by decide)) (fun x => by rfl) (fun z hz H3 s3 Q' q => ?_) (fun z hz hp H3 s3 Q' q => ?_) (fun D hD => ?_)
    · exact ⟨_, rfl, a.l, c.L, dl, _, _, rfl, s2 _ _ hal, T.clL, T.nLl, fL_linked, q⟩
    · refine ⟨_, rfl, _, rfl, hs, _, rfl, DGet.k (k := Sum.inl z) (s3 _ _ hh), _, rfl, ?_⟩
      rw [valV_kvI, Option.isSome_map, tr1_get]
      by_cases h1 : z ∈ (FL.reachAll (FL.liesB bel) L ab be).hs
      · rw [decide_eq_true h1]
        refine iteT ⟨_, rfl, _, rfl, ls, _, rfl, DGet.k (k := Sum.inl z) (s3 _ _ hl), _, rfl, ?_⟩
        rw [valV_kvI, Option.isSome_map, tr1_get]
        by_cases h2 : z ∈ (FL.reachAll (FL.liesB bel) L ab be).ls
        · rw [decide_eq_false (fun z => z.2 h2)] at q
          rw [decide_eq_true h2]; exact q
        · rw [decide_eq_true ⟨h1, h2⟩] at q
          rw [decide_eq_false h2]; exact q
      · rw [decide_eq_false (fun z => h1 z.1)] at q
        rw [decide_eq_false h1]; exact iteF q
    · exact ⟨_, rfl, q⟩
    · refine k _ D (fun b o e => by rw [upd_ne (ne_of_none (s2 b o e) hD)]; exact s2 b o e) ?_ upd_same
      cases z : H D with
      | none => rfl
      | some o => rw [s2 _ _ z] at hD; cases hD
end
end FW

set_option maxHeartbeats 4000000
/-! The walk 11: Hall: made, put, take, things, lies_above, ladders, free. -/
namespace FW
open PySem PySem.Spec PyProof.Rows L2

structure HA where
  h : Addr
  la : LA
  B : Addr
def HA.fp (a : HA) : List Addr := [a.h, a.la.o, a.la.l, a.la.L, a.la.A, a.la.E, a.B]
structure HallAt (c : CC) (H : Hp) (a : HA) (s : FL.HS) : Prop where
  ob : ∃ dx, H a.h = some (.ins c.H dx (fH a.la.o a.la.l))
  O : OrdAt c H a.la.o a.B s.below s.told
  N : LnkAt c H a.la s.linked s.ab s.be
  nBA : a.B ≠ a.la.A
  nBE : a.B ≠ a.la.E
structure Frame (H : Hp) (a : HA) (H' : Hp) (a' : HA) : Prop where
  keep : ∀ b u, b ∉ a.fp → H b = some u → H' b = some u
  own : ∀ b ∈ a'.fp, b ∈ a.fp ∨ H b = none
theorem HallAt.same {c : CC} {H H' : Hp} {a : HA} {s : FL.HS} (h : HallAt c H a s) (e : Same H H') : HallAt c H' a s := by
  obtain ⟨⟨dx, h1⟩, h2, h3, h4, h5⟩ := h
  exact ⟨⟨dx, e _ _ h1⟩, h2.same fun b u _ => e b u, h3.same e, h4, h5⟩
theorem HallAt.there {c : CC} {H : Hp} {a : HA} {s : FL.HS} (h : HallAt c H a s) : ∀ b ∈ a.fp, ∃ u, H b = some u := by
  obtain ⟨⟨dx, h1⟩, ⟨⟨dO, h2⟩, h3⟩, ⟨⟨dl, h4⟩, h5, h6, h7, _⟩, _, _⟩ := h
  intro b hb
  unfold HA.fp at hb
  simp only [List.mem_cons, List.not_mem_nil, or_false] at hb
  rcases hb with rfl | rfl | rfl | rfl | rfl | rfl | rfl
  · exact ⟨_, h1⟩
  · exact ⟨_, h2⟩
  · exact ⟨_, h4⟩
  · exact ⟨_, h5⟩
  · exact ⟨_, h6⟩
  · exact ⟨_, h7⟩
  · exact ⟨_, h3⟩
theorem HallAt.new {c : CC} {H : Hp} {a : HA} {s : FL.HS} (h : HallAt c H a s) {b : Addr} (e : H b = none) : b ∉ a.fp := fun hb => by
  obtain ⟨u, hu⟩ := h.there b hb
  rw [hu] at e; cases e
/-- what stands outside the hall stands outside behind a deed -/
theorem Frame.out {H H' : Hp} {a a' : HA} (f : Frame H a H' a') {b : Addr} {u : HO} (hb : b ∉ a.fp) (e : H b = some u) : b ∉ a'.fp ∧ H' b = some u := by
  refine ⟨fun z => ?_, f.keep b u hb e⟩
  rcases f.own b z with q | q
  · exact hb q
  · rw [e] at q; cases q
theorem HallAt.jpre {c : CC} {H : Hp} {a : HA} {s : FL.HS} (h : HallAt c H a s) (G : FL.Good s) (hl : s.linked.length ≤ 24) : JPre c H a.la a.B s.below s.told s.linked s.ab s.be :=
  ⟨h.O, h.N, h.nBA, h.nBE, fun x hx => by
    obtain ⟨m, hm⟩ := G.mem hx
    exact ⟨by rw [hm]; rfl, (G.rng x hx).1⟩, G.mt, hl⟩

section
variable {P : Program} {w : World} {K : PySem.W.Frag} {mg : Str → Option Value} {base : Heap} {c : CC}
def spH_init (c : CC) : Sp := fun vs H Q _ => ∃ (h dx : Addr), vs = [.ref h] ∧ H h = some (.ins c.H dx []) ∧
  ∀ a H', a.h = h → HallAt c H' a FL.HS.empty → (∀ b ∈ a.fp, b = h ∨ H b = none) → (∀ b u, b ≠ h → H b = some u → H' b = some u) → Q .non H'
theorem ok_H_init (T : Tx K mg c) (D : MD K c.H "__init__" "Hall.__init__" sH_init) (MO : MOk P w K mg base CX0 c.O "__init__" ["self"] 1 (spO_init c)) (ML : MOk P w K mg base CX0 c.L "__init__" ["self", "order", "things"] 1 (spL_init c)) : MOk P w K mg base CX0 c.H "__init__" ["self"] 3 (spH_init c) := by
  obtain ⟨f1, fd1, m1, b1, F1⟩ := MO
  obtain ⟨f2, fd2, m2, b2, F2⟩ := ML
  refine D.ok (N := ["self"]) ⟨rfl, rfl, rfl, by decide +kernel, rfl, by decide +kernel, by decide +kernel⟩ (fun _ _ _ _ _ _ us hl => match us, hl with | [_], _ => rfl) (fun vs H Q E h => ?_) (fun f cdv A outer s H vs Q E hr h => ?_)
  · obtain ⟨h, dx, rfl, _⟩ := h; rfl
  · obtain ⟨h, dx, rfl, hh, k⟩ := h
    have M1 : Mk K c.O f1 := ⟨T.mkO, m1.at_, m1.fn, T.kpO⟩
    have M2 : Mk K c.L f2 := ⟨T.mkL, m2.at_, m2.fn, T.kpL⟩
    refine ⟨_, pss_cons (ps_fld (pv 0) (pe_make0 M1 F1 hr (by rfl) T.gO b1 .nil pass0) rfl) (pss_one (ps_fld (pv 0) (pe_make M2 F2 hr (by rfl) T.gL b2 .nil pass0 (pa_cons (pe_fld (pv 0) rfl) (pa_cons (pe_lst pa_nil) pa_nil))) rfl)), ?_⟩
    intro o dO no ndO neO
    have s0 : Same H (upd (upd H dO (.own o)) o (.ins c.O dO [])) := fun b u e => by rw [upd_ne (ne_of_none e no), upd_ne (ne_of_none e ndO)]; exact e
    refine ⟨o, dO, rfl, upd_same, fun B H1 hB O1 k1 => ⟨rfl, ?_⟩⟩
    have s1 : Same H H1 := fun b u e => k1 b u (s0 b u e) (ne_of_none e no)
    have hB0 : H B = none := by
      cases z : H B with
      | none => rfl
      | some u => rw [s0 _ _ z] at hB; cases hB
    have hh1 := s1 _ _ hh
    have nho : o ≠ h := (ne_of_none hh no).symm
    have nhB : B ≠ h := (ne_of_none hh hB0).symm
    refine ⟨_, rfl, h, c.H, dx, [], rfl, hh1, T.clH, T.nHo, by show 0 < 1000; decide, ?_⟩
    have O2 : OrdAt c (upd H1 h (.ins c.H dx (putF "order" (.ref o) []))) o B [] 0 := O1.same fun b u hb e => by
      rw [upd_ne (by rcases hb with rfl | rfl; exact nho; exact nhB)]; exact e
    generalize eH2 : upd H1 h (.ins c.H dx (putF "order" (.ref o) [])) = H2 at O2
    have hh2 : H2 h = some (.ins c.H dx (putF "order" (.ref o) [])) := by rw [← eH2, upd_same]
    have s2 : ∀ b u, b ≠ h → H1 b = some u → H2 b = some u := fun b u n e => by rw [← eH2, upd_ne n]; exact e
    -- self.links = Links(self.order, [])
    refine ⟨_, rfl, h, c.H, dx, _, _, rfl, hh2, T.clH, T.nHo, (by rw [lookup_putF, if_pos rfl]), ?_⟩
    refine ⟨Nat.zero_le _, fun q hq => ?_⟩
    have s3 : ∀ b u, H2 b = some u → (upd H2 q (.lst [])) b = some u := fun b u e => by rw [upd_ne (ne_of_none e hq)]; exact e
    intro l dl nl ndl nel
    have s4 : ∀ b u, H2 b = some u → (upd (upd (upd H2 q (.lst [])) dl (.own l)) l (.ins c.L dl [])) b = some u := fun b u e => by
      rw [upd_ne (ne_of_none (s3 b u e) nl), upd_ne (ne_of_none (s3 b u e) ndl)]; exact s3 b u e
    have ql : q ≠ l := fun e => by rw [← e, upd_same] at nl; cases nl
    have qd : q ≠ dl := fun e => by rw [← e, upd_same] at ndl; cases ndl
    refine ⟨l, dl, o, q, [], rfl, upd_same, by rw [upd_ne ql, upd_ne qd, upd_same]; rfl, Nat.zero_le _, fun L A E' H5 hL hA hE N5 k5 => ⟨rfl, ?_⟩⟩
    have s5 : ∀ b u, H2 b = some u → H5 b = some u := fun b u e => k5 b u (ne_of_none (s3 b u e) nl) (s4 b u e)
    have free2 : ∀ x, (upd (upd (upd H2 q (.lst [])) dl (.own l)) l (.ins c.L dl [])) x = none → H x = none := fun x e => by
      cases z : H x with
      | none => rfl
      | some u =>
        by_cases q1 : x = h
        · rw [q1, s4 _ _ hh2] at e; cases e
        · rw [s4 x u (s2 x u q1 (s1 x u z))] at e; cases e
    have hl0 : H l = none := by
      cases z : H l with
      | none => rfl
      | some u =>
        by_cases q1 : l = h
        · rw [q1, s3 _ _ hh2] at nl; cases nl
        · rw [s3 _ _ (s2 _ _ q1 (s1 _ _ z))] at nl; cases nl
    have hh5 := s5 _ _ hh2
    have nlh : l ≠ h := (ne_of_none hh hl0).symm
    have nLh : L ≠ h := (ne_of_none hh (free2 _ hL)).symm
    have nAh : A ≠ h := (ne_of_none hh (free2 _ hA)).symm
    have nEh : E' ≠ h := (ne_of_none hh (free2 _ hE)).symm
    have nBA : B ≠ A := fun e => by rw [← e, s4 _ _ O2.dc] at hA; cases hA
    have nBE : B ≠ E' := fun e => by rw [← e, s4 _ _ O2.dc] at hE; cases hE
    refine ⟨_, rfl, h, c.H, dx, _, rfl, hh5, T.clH, T.nHl, by show 1 < 1000; decide, ?_⟩
    refine k ⟨h, ⟨o, l, L, A, E'⟩, B⟩ _ rfl ⟨⟨dx, ?_⟩, ?_, ?_, nBA, nBE⟩ ?_ fun b u n e => ?_
    · show upd _ h _ h = _
      rw [upd_same]
      exact congrArg (fun z => some (HO.ins c.H dx z)) fH_mk
    · exact (O2.same fun b u _ e => s5 b u e).same fun b u hb e => by
        rw [upd_ne (by rcases hb with rfl | rfl; exact nho; exact nhB)]; exact e
    · obtain ⟨⟨d5, q1⟩, q2, q3, q4, q5⟩ := N5
      exact ⟨⟨d5, by show upd _ h _ l = _; rw [upd_ne nlh]; exact q1⟩, by show upd _ h _ L = _; rw [upd_ne nLh]; exact q2, by show upd _ h _ A = _; rw [upd_ne nAh]; exact q3, by show upd _ h _ E' = _; rw [upd_ne nEh]; exact q4, q5⟩
    · intro b hb
      unfold HA.fp at hb
      simp only [List.mem_cons, List.not_mem_nil, or_false] at hb
      rcases hb with rfl | rfl | rfl | rfl | rfl | rfl | rfl
      · exact .inl rfl
      · exact .inr no
      · exact .inr hl0
      · exact .inr (free2 _ hL)
      · exact .inr (free2 _ hA)
      · exact .inr (free2 _ hE)
      · exact .inr hB0
    · rw [upd_ne n]; exact s5 _ _ (s2 _ _ n (s1 _ _ e))

def spH_put (c : CC) : Sp := fun vs H Q _ => ∃ (a : HA) (s : FL.HS) (q : Addr) (some_ : List Int), vs = [.ref a.h, .ref q] ∧ HallAt c H a s ∧ FL.Good s ∧ H q = some (lI some_) ∧ some_.Nodup ∧ (∀ x ∈ some_, x ∈ s.linked) ∧ s.told ≤ 1000 ∧ s.linked.length < 24 ∧
  ∀ H' a' t r, HallAt c H' a' (s.put some_).2 → Frame H a H' a' → a'.h = a.h → H t = none → H' t = some (.tup [.int (s.told : Int), .ref r]) → H r = none → RowAt H' r (s.put some_).1 → r ∉ a'.fp → t ∉ a'.fp → Q (.ref t) H'
theorem ok_H_put (T : Tx K mg c) (D : MD K c.H "put" "Hall.put" sH_put) (MP : MOk P w K mg base CX0 c.O "put" ["self", "some"] 4 (spO_put c)) (MA : MOk P w K mg base CX0 c.L "add" ["self", "one"] 1 (spAdd c)) (MJ : MOk P w K mg base CX0 c.L "joined" ["self"] 28 (spJoined c)) :
    MOk P w K mg base CX0 c.H "put" ["self", "some"] 29 (spH_put c) := by
  obtain ⟨f1, fd1, m1, b1, F1⟩ := MP
  obtain ⟨f2, fd2, m2, b2, F2⟩ := MA
  obtain ⟨f3, fd3, m3, b3, F3⟩ := MJ
  have sc : FnScope ["self", "some", "one"] ["self", "some"] (defScope sH_put) := ⟨rfl, rfl, rfl, by decide +kernel, rfl, by decide +kernel, by decide +kernel⟩
  refine D.ok sc (fun _ _ _ _ _ _ us hl => match us, hl with | [_, _], _ => rfl) (fun vs H Q E h => ?_) (fun f cdv A outer s H vs Q E hr h => ?_)
  · obtain ⟨a, st, q, some_, rfl, _⟩ := h; rfl
  · obtain ⟨a, st, q, ns, rfl, HA0, G, hq, nd, hs, ht, hl, k⟩ := h
    have hr4 : Room 4 _ := hr.mono (by decide)
    have hr1 : Room 1 _ := hr.mono (by decide)
    obtain ⟨⟨dx, hh⟩, O, N, nBA, nBE⟩ := id HA0
    obtain ⟨dO, hO⟩ := O.ob
    obtain ⟨dl, hal⟩ := N.ob
    refine ⟨_, pss_cons (ps_set (i := 2) sc.nd rfl (Or.inl rfl) (pe_meth (pe_fld (pv 0) rfl) T.clO m1 F1 hr4 b1 .nil pass0 (pa_cons (pv 1) pa_nil)))
      (pss_cons (ps_expr (pe_meth (pe_fld (pv 0) rfl) T.clL m2 F2 hr1 b2 .nil pass0 (pa_cons (pv 2) pa_nil)))
      (pss_one (ps_ret (pe_tup (pa_cons (pv 2) (pa_cons (pe_meth0 (pe_fld (pv 0) rfl) T.clL m3 F3 hr b3 .nil pass0) pa_nil)))))), ?_⟩
    have rng : ∀ x ∈ ns, 0 ≤ x ∧ x ≤ 100000 := fun x hx => by have := G.rng x (hs x hx); omega
    have nl : ns.length ≤ 24 := Nat.le_trans (FL.nodup_len_le nd hs) (Nat.le_of_lt hl)
    have bl : st.below.length = st.linked.length := by rw [← G.keys, List.length_map]
    -- one = self.order.put(some)
    refine ⟨_, rfl, a.h, c.H, dx, _, _, rfl, hh, T.clH, T.nHo, fH_order, a.la.o, dO, _, rfl, hO, fO_no ⟨by decide +kernel, by decide +kernel⟩, _, rfl, a.la.o, a.B, q, st.below, st.told, ns, rfl, O, hq, nd,
      fun x hx => by obtain ⟨m, hm⟩ := G.mem (hs x hx); rw [hm]; rfl, rng, Nat.le_trans nl (by decide), by omega, fun H1 O1 k1 => ?_⟩
    have no : ∀ x u, H x = some u → x ≠ a.la.o → x ≠ a.B → H1 x = some u := fun x u e n1 n2 => k1 x u n1 n2 e
    have nho : a.h ≠ a.la.o := fun e => by rw [e, hO] at hh; have := Option.some.inj hh; injection this with e1 e2 e3; exact absurd (congrArg (fun l => (l.map (·.1)).length) e3) (by unfold fO fH; intro z; exact absurd (congrArg (fun l => l.lookup ("links" : Str)) e3) (by rw [fO_no ⟨by decide +kernel, by decide +kernel⟩, fH_links]; intro z; cases z))
    have nhB : a.h ≠ a.B := ne_of hh O.dc (by intro z; cases z)
    have nloB : a.la.l ≠ a.B := ne_of hal O.dc (by intro z; cases z)
    have nlo : a.la.l ≠ a.la.o := fun e => by
      rw [e, hO] at hal
      have := Option.some.inj hal
      injection this with e1 e2 e3
      exact absurd (congrArg (fun l => l.lookup ("linked" : Str)) e3) (by rw [fO_no ⟨by decide +kernel, by decide +kernel⟩, fL_linked]; intro z; cases z)
    have nLo : a.la.L ≠ a.la.o := ne_of N.ls hO (by intro z; cases z)
    have nLB : a.la.L ≠ a.B := ne_of N.ls O.dc (by intro z; cases z)
    have nAo : a.la.A ≠ a.la.o := ne_of N.da hO (by intro z; cases z)
    have nEo : a.la.E ≠ a.la.o := ne_of N.de hO (by intro z; cases z)
    have hh1 := no _ _ hh nho nhB
    have N1 : LnkAt c H1 a.la st.linked st.ab st.be := ⟨⟨dl, no _ _ hal nlo nloB⟩, no _ _ N.ls nLo nLB, no _ _ N.da nAo nBA.symm, no _ _ N.de nEo nBE.symm, N.nAE⟩
    -- self.links.add(one)
    refine ⟨_, rfl, a.h, c.H, dx, _, _, rfl, hh1, T.clH, T.nHl, fH_links, a.la.l, dl, _, rfl, no _ _ hal nlo nloB, fL_no ⟨by decide +kernel, by decide +kernel, by decide +kernel, by decide +kernel⟩, _, rfl, a.la, _, _, _, (st.told : Int), rfl, N1, (FL.put_po G hs).srt, by omega, fun H2 L' hL' N2 k2 => ?_⟩
    have nhl : a.h ≠ a.la.l := fun e => by
      rw [e, hal] at hh
      have := Option.some.inj hh
      injection this with e1 e2 e3
      exact absurd (congrArg (fun l => l.lookup ("linked" : Str)) e3) (by rw [fH_no ⟨by decide +kernel, by decide +kernel⟩, fL_linked]; intro z; cases z)
    have hh2 := k2 _ _ nhl hh1
    have O2 : OrdAt c H2 a.la.o a.B (FL.aput st.below st.told (FL.marksOf st.below ns)) (st.told + 1) := O1.same fun b u hb e => k2 b u (by rcases hb with rfl | rfl; exact nlo.symm; exact nloB.symm) e
    have keys := FL.put_keys (s := st) (some := ns) G
    have J2 : JPre c H2 { a.la with L := L' } a.B (FL.aput st.below st.told (FL.marksOf st.below ns)) (st.told + 1) (st.linked ++ [(st.told : Int)]) st.ab st.be := by
      refine ⟨O2, N2, nBA, nBE, fun x hx => ⟨?_, ?_⟩, FL.put_mt0 G hs, by rw [List.length_append, List.length_singleton]; omega⟩
      · exact FL.aget_isSome_iff.mpr (by rw [show (FL.aput st.below st.told (FL.marksOf st.below ns)).map (·.1) = _ from keys]; exact hx)
      · rcases List.mem_append.mp hx with hx | hx
        · exact (G.rng x hx).1
        · rw [List.mem_singleton.mp hx]; omega
    obtain ⟨dl2, hal2⟩ := N2.ob
    -- (one, self.links.joined())
    refine ⟨_, rfl, _, rfl, a.h, c.H, dx, _, _, rfl, hh2, T.clH, T.nHl, fH_links, a.la.l, dl2, _, rfl, hal2, fL_no ⟨by decide +kernel, by decide +kernel, by decide +kernel, by decide +kernel⟩, { a.la with L := L' }, a.B, _, _, _, _, _, rfl, J2, fun H3 r hr3 R3 N3 k3 => ?_⟩
    refine ⟨by show 2 ≤ sizeLine; decide, fun t htt => ?_⟩
    have s4 : ∀ b u, H3 b = some u → (upd H3 t (.tup [.int (st.told : Int), .ref r])) b = some u := fun b u e => by rw [upd_ne (ne_of_none e htt)]; exact e
    have all : ∀ b u, H b = some u → b ∉ a.fp → H3 b = some u := fun b u e hb => by
      unfold HA.fp at hb
      simp only [List.mem_cons, List.not_mem_nil, or_false, not_or] at hb
      obtain ⟨n1, n2, n3, n4, n5, n6, n7⟩ := hb
      exact k3 b u n5 n6 (k2 b u n3 (k1 b u n2 n7 e))
    have A3 : HallAt c (upd H3 t (.tup [.int (st.told : Int), .ref r])) { a with la := { a.la with L := L' } } (st.put ns).2 := by
      refine ⟨⟨dx, s4 _ _ (k3 _ _ (ne_of hh N.da (by intro z; cases z)) (ne_of hh N.de (by intro z; cases z)) hh2)⟩, (O2.same fun b u hb e => ?_), N3.same s4, nBA, nBE⟩
      rcases hb with rfl | rfl
      · exact s4 _ _ (k3 _ _ nAo.symm nEo.symm e)
      · exact s4 _ _ (k3 _ _ nBA nBE e)
    have nrfp : ∀ b ∈ ({ a with la := { a.la with L := L' } } : HA).fp, ∃ u, H2 b = some u := by
      intro b hb
      unfold HA.fp at hb
      simp only [List.mem_cons, List.not_mem_nil, or_false] at hb
      rcases hb with rfl | rfl | rfl | rfl | rfl | rfl | rfl
      · exact ⟨_, hh2⟩
      · exact ⟨_, O2.ob.choose_spec⟩
      · exact ⟨_, hal2⟩
      · exact ⟨_, N2.ls⟩
      · exact ⟨_, N2.da⟩
      · exact ⟨_, N2.de⟩
      · exact ⟨_, O2.dc⟩
    have hL'0 : H L' = none := by
      cases z : H L' with
      | none => rfl
      | some u =>
        by_cases n1 : L' = a.la.o
        · rw [n1, O1.ob.choose_spec] at hL'; cases hL'
        · by_cases n2 : L' = a.B
          · rw [n2, O1.dc] at hL'; cases hL'
          · rw [k1 _ _ n1 n2 z] at hL'; cases hL'
    have back : ∀ x, H3 x = none → H x = none := fun x e => by
      cases z : H x with
      | none => rfl
      | some u =>
        by_cases hf : x ∈ a.fp
        · exfalso
          unfold HA.fp at hf
          simp only [List.mem_cons, List.not_mem_nil, or_false] at hf
          rcases hf with rfl | rfl | rfl | rfl | rfl | rfl | rfl
          · rw [k3 _ _ (ne_of hh N.da (by intro z; cases z)) (ne_of hh N.de (by intro z; cases z)) hh2] at e; cases e
          · rw [k3 _ _ nAo.symm nEo.symm O2.ob.choose_spec] at e; cases e
          · rw [N3.ob.choose_spec] at e; cases e
          · have q1 := k1 _ _ nLo nLB N.ls
            have q2 := k2 _ _ (ne_of N.ls hal (by intro z; cases z)) q1
            rw [k3 _ _ (ne_of N.ls N.da (by intro z; cases z)) (ne_of N.ls N.de (by intro z; cases z)) q2] at e; cases e
          · rw [N3.da] at e; cases e
          · rw [N3.de] at e; cases e
          · rw [k3 _ _ nBA nBE O2.dc] at e; cases e
        · rw [all x u z hf] at e; cases e
    have hr0 : H r = none := by
      cases z : H r with
      | none => rfl
      | some u =>
        exfalso
        by_cases hf : r ∈ a.fp
        · unfold HA.fp at hf
          simp only [List.mem_cons, List.not_mem_nil, or_false] at hf
          rcases hf with e | e | e | e | e | e | e
          · rw [e, hh2] at hr3; cases hr3
          · rw [e, O2.ob.choose_spec] at hr3; cases hr3
          · rw [e, hal2] at hr3; cases hr3
          · rw [e, k2 _ _ (ne_of N.ls hal (by intro z; cases z)) (k1 _ _ nLo nLB N.ls)] at hr3; cases hr3
          · rw [e, show H2 a.la.A = _ from N2.da] at hr3; cases hr3
          · rw [e, show H2 a.la.E = _ from N2.de] at hr3; cases hr3
          · rw [e, O2.dc] at hr3; cases hr3
        · unfold HA.fp at hf
          simp only [List.mem_cons, List.not_mem_nil, or_false, not_or] at hf
          obtain ⟨n1, n2, n3, n4, n5, n6, n7⟩ := hf
          rw [k2 _ _ n3 (k1 _ _ n2 n7 z)] at hr3; cases hr3
    obtain ⟨ts, hts, tts⟩ := R3
    refine k _ _ t r A3 ⟨fun b u hb e => s4 _ _ (all b u e hb), fun b hb => ?_⟩ rfl (back _ htt) upd_same hr0 ⟨ts, s4 _ _ hts, tts.same fun b xs e => s4 b _ e⟩ (fun z => ?_) (fun z => ?_)
    · unfold HA.fp at hb ⊢
      simp only [List.mem_cons, List.not_mem_nil, or_false] at hb ⊢
      rcases hb with h1 | h1 | h1 | h1 | h1 | h1 | h1
      · exact .inl (.inl h1)
      · exact .inl (.inr (.inl h1))
      · exact .inl (.inr (.inr (.inl h1)))
      · exact .inr (h1 ▸ hL'0)
      · exact .inl (.inr (.inr (.inr (.inr (.inl h1)))))
      · exact .inl (.inr (.inr (.inr (.inr (.inr (.inl h1))))))
      · exact .inl (.inr (.inr (.inr (.inr (.inr (.inr h1))))))
    · obtain ⟨u, hu⟩ := nrfp r z
      rw [hu] at hr3; cases hr3
    · obtain ⟨u, hu⟩ := A3.there t z
      have : H3 t = none := htt
      obtain ⟨u, hu⟩ := nrfp t z
      by_cases e1 : t = a.la.A
      · rw [e1, show H3 a.la.A = _ from N3.da] at htt; cases htt
      · by_cases e2 : t = a.la.E
        · rw [e2, show H3 a.la.E = _ from N3.de] at htt; cases htt
        · rw [k3 _ _ e1 e2 hu] at htt; cases htt
end
end FW

set_option maxHeartbeats 4000000
/-! The walk 12: Hall: take, things, lies_above, ladders, free. -/
namespace FW
open PySem PySem.Spec PyProof.Rows L2
section
variable {P : Program} {w : World} {K : PySem.W.Frag} {mg : Str → Option Value} {base : Heap} {c : CC}
/-- all that differs among a hall's addresses -/
structure Sep (a : HA) : Prop where
  ho : a.h ≠ a.la.o
  hl : a.h ≠ a.la.l
  hL : a.h ≠ a.la.L
  hA : a.h ≠ a.la.A
  hE : a.h ≠ a.la.E
  hB : a.h ≠ a.B
  ol : a.la.o ≠ a.la.l
  oL : a.la.o ≠ a.la.L
  oA : a.la.o ≠ a.la.A
  oE : a.la.o ≠ a.la.E
  oB : a.la.o ≠ a.B
  lL : a.la.l ≠ a.la.L
  lA : a.la.l ≠ a.la.A
  lE : a.la.l ≠ a.la.E
  lB : a.la.l ≠ a.B
  LA : a.la.L ≠ a.la.A
  LE : a.la.L ≠ a.la.E
  LB : a.la.L ≠ a.B
  AE : a.la.A ≠ a.la.E
  AB : a.la.A ≠ a.B
  EB : a.la.E ≠ a.B
theorem ins_ne {H : Hp} {x y C1 d1 C2 d2 : Addr} {f1 f2 : List (Str × V)} (k : Str) (h1 : H x = some (.ins C1 d1 f1)) (h2 : H y = some (.ins C2 d2 f2)) (n1 : f1.lookup k = none) (n2 : f2.lookup k ≠ none) : x ≠ y := fun e => by
  rw [e, h2] at h1
  have := Option.some.inj h1
  injection this with _ _ e3
  rw [e3] at n2
  exact n2 n1
theorem HallAt.sep {H : Hp} {a : HA} {s : FL.HS} (h : HallAt c H a s) : Sep a := by
  obtain ⟨⟨dx, hh⟩, ⟨⟨dO, hO⟩, hB⟩, ⟨⟨dl, hl⟩, hL, hA, hE, nAE⟩, nBA, nBE⟩ := h
  have k1 : (fO a.B s.told).lookup ("links" : Str) = none := fO_no ⟨by decide +kernel, by decide +kernel⟩
  have k2 : (fH a.la.o a.la.l).lookup ("links" : Str) ≠ none := by rw [fH_links]; intro z; cases z
  have k3 : (fH a.la.o a.la.l).lookup ("linked" : Str) = none := fH_no ⟨by decide +kernel, by decide +kernel⟩
  have k4 : (fL a.la.o a.la.L a.la.A a.la.E).lookup ("linked" : Str) ≠ none := by rw [fL_linked]; intro z; cases z
  have k5 : (fO a.B s.told).lookup ("linked" : Str) = none := fO_no ⟨by decide +kernel, by decide +kernel⟩
  exact ⟨(ins_ne _ hO hh k1 k2).symm, ins_ne _ hh hl k3 k4, ne_of hh hL (by intro z; cases z), ne_of hh hA (by intro z; cases z), ne_of hh hE (by intro z; cases z), ne_of hh hB (by intro z; cases z),
    ins_ne _ hO hl k5 k4, ne_of hO hL (by intro z; cases z), ne_of hO hA (by intro z; cases z), ne_of hO hE (by intro z; cases z), ne_of hO hB (by intro z; cases z),
    ne_of hl hL (by intro z; cases z), ne_of hl hA (by intro z; cases z), ne_of hl hE (by intro z; cases z), ne_of hl hB (by intro z; cases z),
    ne_of hL hA (by intro z; cases z), ne_of hL hE (by intro z; cases z), ne_of hL hB (by intro z; cases z), nAE, nBA.symm, nBE.symm⟩

def spH_take (c : CC) : Sp := fun vs H Q _ => ∃ (a : HA) (s : FL.HS) (one : Int), vs = [.ref a.h, .int one] ∧ HallAt c H a s ∧ FL.Good s ∧ one ∈ s.linked ∧ s.told ≤ 1000 ∧ s.linked.length ≤ 24 ∧
  ∀ H' r, HallAt c H' a (s.take one).2 → Frame H a H' a → H r = none → RowAt H' r (s.take one).1 → r ∉ a.fp → Q (.ref r) H'
theorem ok_H_take (T : Tx K mg c) (D : MD K c.H "take" "Hall.take" sH_take) (MT : MOk P w K mg base CX0 c.O "take" ["self", "one"] 3 (spO_take c)) (MD_ : MOk P w K mg base CX0 c.L "drop" ["self", "one"] 2 (spDrop c)) (MJ : MOk P w K mg base CX0 c.L "joined" ["self"] 28 (spJoined c)) :
    MOk P w K mg base CX0 c.H "take" ["self", "one"] 29 (spH_take c) := by
  obtain ⟨f1, fd1, m1, b1, F1⟩ := MT
  obtain ⟨f2, fd2, m2, b2, F2⟩ := MD_
  obtain ⟨f3, fd3, m3, b3, F3⟩ := MJ
  refine D.ok (N := ["self", "one"]) ⟨rfl, rfl, rfl, by decide +kernel, rfl, by decide +kernel, by decide +kernel⟩ (fun _ _ _ _ _ _ us hl => match us, hl with | [_, _], _ => rfl) (fun vs H Q E h => ?_) (fun f cdv A outer s H vs Q E hr h => ?_)
  · obtain ⟨a, st, one, rfl, _⟩ := h; rfl
  · obtain ⟨a, st, one, rfl, HA0, G, ho, ht, hl, k⟩ := h
    have hr3 : Room 3 _ := hr.mono (by decide)
    have hr2 : Room 2 _ := hr.mono (by decide)
    have S := HA0.sep
    obtain ⟨⟨dx, hh⟩, O, N, nBA, nBE⟩ := id HA0
    obtain ⟨dO, hO⟩ := O.ob
    obtain ⟨dl, hal⟩ := N.ob
    have rg := G.rng one ho
    refine ⟨_, pss_cons (ps_expr (pe_meth (pe_fld (pv 0) rfl) T.clO m1 F1 hr3 b1 .nil pass0 (pa_cons (pv 1) pa_nil)))
      (pss_cons (ps_expr (pe_meth (pe_fld (pv 0) rfl) T.clL m2 F2 hr2 b2 .nil pass0 (pa_cons (pv 1) pa_nil)))
      (pss_one (ps_ret (pe_meth0 (pe_fld (pv 0) rfl) T.clL m3 F3 hr b3 .nil pass0)))), ?_⟩
    obtain ⟨m, hm⟩ := G.mem ho
    have bl : st.below.length = st.linked.length := by rw [← G.keys, List.length_map]
    refine ⟨_, rfl, a.h, c.H, dx, _, _, rfl, hh, T.clH, T.nHo, fH_order, a.la.o, dO, _, rfl, hO, fO_no ⟨by decide +kernel, by decide +kernel⟩, _, rfl, a.la.o, a.B, st.below, st.told, one, rfl, O, by rw [hm]; rfl, by rw [G.keys]; exact G.po.nd, rg.1, by omega, by omega, fun H1 O1 k1 => ?_⟩
    have hh1 := k1 _ _ S.hB hh
    have N1 : LnkAt c H1 a.la st.linked st.ab st.be := ⟨⟨dl, k1 _ _ S.lB hal⟩, k1 _ _ S.LB N.ls, k1 _ _ S.AB N.da, k1 _ _ S.EB N.de, N.nAE⟩
    refine ⟨_, rfl, a.h, c.H, dx, _, _, rfl, hh1, T.clH, T.nHl, fH_links, a.la.l, dl, _, rfl, k1 _ _ S.lB hal, fL_no ⟨by decide +kernel, by decide +kernel, by decide +kernel, by decide +kernel⟩, _, rfl, a.la, _, _, _, one, rfl, N1, G.po.nd, ho,
      by have := G.mt.alen; omega, by have := G.mt.blen; omega, G.mt.inv, G.irr, fun H2 N2 k2 => ?_⟩
    have hh2 := k2 _ _ S.hL S.hA S.hE hh1
    have O2 : OrdAt c H2 a.la.o a.B (FL.takeB st.below one) st.told := O1.same fun b u hb e => by
      rcases hb with rfl | rfl
      · exact k2 _ _ S.oL S.oA S.oE e
      · exact k2 _ _ S.LB.symm S.AB.symm S.EB.symm e
    obtain ⟨dl2, hal2⟩ := N2.ob
    have J2 : JPre c H2 a.la a.B (FL.takeB st.below one) st.told (st.linked.filter fun y => decide (y ≠ one)) (FL.dropA st.ab st.be one).1 (FL.dropA st.ab st.be one).2 := by
      refine ⟨O2, N2, nBA, nBE, fun x hx => ⟨?_, ?_⟩, FL.take_mt0 G rg.1, Nat.le_trans (List.length_filter_le _ _) hl⟩
      · refine FL.aget_isSome_iff.mpr ?_
        rw [show (FL.takeB st.below one).map (·.1) = _ from FL.take_keys (one := one) G]; exact hx
      · exact (G.rng x (List.mem_filter.mp hx).1).1
    refine ⟨_, rfl, a.h, c.H, dx, _, _, rfl, hh2, T.clH, T.nHl, fH_links, a.la.l, dl2, _, rfl, hal2, fL_no ⟨by decide +kernel, by decide +kernel, by decide +kernel, by decide +kernel⟩, a.la, a.B, _, _, _, _, _, rfl, J2, fun H3 r hr3 R3 N3 k3 => ?_⟩
    have nrfp : ∀ b ∈ a.fp, ∃ u, H2 b = some u := by
      intro b hb
      unfold HA.fp at hb
      simp only [List.mem_cons, List.not_mem_nil, or_false] at hb
      rcases hb with rfl | rfl | rfl | rfl | rfl | rfl | rfl
      · exact ⟨_, hh2⟩
      · exact ⟨_, O2.ob.choose_spec⟩
      · exact ⟨_, hal2⟩
      · exact ⟨_, N2.ls⟩
      · exact ⟨_, N2.da⟩
      · exact ⟨_, N2.de⟩
      · exact ⟨_, O2.dc⟩
    have nr : r ∉ a.fp := fun z => by
      obtain ⟨u, hu⟩ := nrfp r z
      rw [hu] at hr3; cases hr3
    have k12 : ∀ b u, b ∉ a.fp → H b = some u → H2 b = some u := fun b u hb e => by
      unfold HA.fp at hb
      simp only [List.mem_cons, List.not_mem_nil, or_false, not_or] at hb
      obtain ⟨n1, n2, n3, n4, n5, n6, n7⟩ := hb
      exact k2 b u n4 n5 n6 (k1 b u n7 e)
    refine k H3 r ⟨⟨dx, k3 _ _ S.hA S.hE hh2⟩, O2.same fun b u hb e => ?_, N3, nBA, nBE⟩ ⟨fun b u hb e => ?_, fun b hb => .inl hb⟩ ?_ R3 nr
    · rcases hb with rfl | rfl
      · exact k3 _ _ S.oA S.oE e
      · exact k3 _ _ nBA nBE e
    · have hb' := hb
      unfold HA.fp at hb'
      simp only [List.mem_cons, List.not_mem_nil, or_false, not_or] at hb'
      obtain ⟨n1, n2, n3, n4, n5, n6, n7⟩ := hb'
      exact k3 b u n5 n6 (k12 b u hb e)
    · cases z : H r with
      | none => rfl
      | some u => rw [k12 _ _ nr z] at hr3; cases hr3

def spH_things (c : CC) : Sp := fun vs H Q _ => ∃ (a : HA) (s : FL.HS), vs = [.ref a.h] ∧ HallAt c H a s ∧ FL.Good s ∧ s.linked.length ≤ 24 ∧ ∀ p, H p = none → Q (.ref p) (upd H p (lI s.linked))
theorem ok_H_things (T : Tx K mg c) (D : MD K c.H "things" "Hall.things" sH_things) (MT : MOk P w K mg base CX0 c.O "things" ["self"] 1 (spO_things c)) : MOk P w K mg base CX0 c.H "things" ["self"] 2 (spH_things c) := by
  obtain ⟨f1, fd1, m1, b1, F1⟩ := MT
  refine D.ok (N := ["self"]) ⟨rfl, rfl, rfl, by decide +kernel, rfl, by decide +kernel, by decide +kernel⟩ (fun _ _ _ _ _ _ us hl => match us, hl with | [_], _ => rfl) (fun vs H Q E h => ?_) (fun f cdv A outer s H vs Q E hr h => ?_)
  · obtain ⟨a, st, rfl, _⟩ := h; rfl
  · obtain ⟨a, st, rfl, HA0, G, hl, k⟩ := h
    obtain ⟨⟨dx, hh⟩, O, N, nBA, nBE⟩ := id HA0
    obtain ⟨dO, hO⟩ := O.ob
    have bl : st.below.length = st.linked.length := by rw [← G.keys, List.length_map]
    refine ⟨_, pss_one (ps_ret (pe_meth0 (pe_fld (pv 0) rfl) T.clO m1 F1 hr b1 .nil pass0)), ?_⟩
    refine ⟨_, rfl, a.h, c.H, dx, _, _, rfl, hh, T.clH, T.nHo, fH_order, a.la.o, dO, _, rfl, hO, fO_no ⟨by decide +kernel, by decide +kernel⟩, a.la.o, a.B, st.below, st.told, rfl, O, by rw [G.keys]; exact G.po.srt, by omega, fun p hp => ?_⟩
    rw [G.keys]; exact k p hp
def spH_lies (c : CC) : Sp := fun vs H Q _ => ∃ (a : HA) (s : FL.HS) (x y : Int), vs = [.ref a.h, .int x, .int y] ∧ HallAt c H a s ∧ FL.Good s ∧ x ∈ s.linked ∧ y ∈ s.linked ∧ Q (.bl (s.lies x y)) H
theorem ok_H_lies (T : Tx K mg c) (D : MD K c.H "lies_above" "Hall.lies_above" sH_lies_above) (MN : MOk P w K mg base CX0 c.O "need_thing" ["self", "one"] 2 (spO_need c)) (MO : MOk P w K mg base CX0 c.O "lies_above" ["self", "one", "other"] 2 (spO_lies c)) : MOk P w K mg base CX0 c.H "lies_above" ["self", "one", "other"] 3 (spH_lies c) := by
  obtain ⟨f1, fd1, m1, b1, F1⟩ := MN
  obtain ⟨f2, fd2, m2, b2, F2⟩ := MO
  refine D.ok (N := ["self", "one", "other"]) ⟨rfl, rfl, rfl, by decide +kernel, rfl, by decide +kernel, by decide +kernel⟩ (fun _ _ _ _ _ _ us hl => match us, hl with | [_, _, _], _ => rfl) (fun vs H Q E h => ?_) (fun f cdv A outer s H vs Q E hr h => ?_)
  · obtain ⟨a, st, x, y, rfl, _⟩ := h; rfl
  · obtain ⟨a, st, x, y, rfl, HA0, G, hx, hy, k⟩ := h
    obtain ⟨⟨dx, hh⟩, O, N, nBA, nBE⟩ := id HA0
    obtain ⟨dO, hO⟩ := O.ob
    obtain ⟨m1', e1⟩ := G.mem hx
    obtain ⟨m2', e2⟩ := G.mem hy
    refine ⟨_, pss_cons (ps_expr (pe_meth (pe_fld (pv 0) rfl) T.clO m1 F1 hr b1 .nil pass0 (pa_cons (pv 1) pa_nil))) (pss_cons (ps_expr (pe_meth (pe_fld (pv 0) rfl) T.clO m1 F1 hr b1 .nil pass0 (pa_cons (pv 2) pa_nil)))
      (pss_one (ps_ret (pe_meth (pe_fld (pv 0) rfl) T.clO m2 F2 hr b2 .nil pass0 (pa_cons (pv 1) (pa_cons (pv 2) pa_nil)))))), ?_⟩
    refine ⟨_, rfl, a.h, c.H, dx, _, _, rfl, hh, T.clH, T.nHo, fH_order, a.la.o, dO, _, rfl, hO, fO_no ⟨by decide +kernel, by decide +kernel⟩, _, rfl, a.la.o, a.B, st.below, st.told, x, rfl, O, by rw [e1]; rfl, ?_⟩
    refine ⟨_, rfl, a.h, c.H, dx, _, _, rfl, hh, T.clH, T.nHo, fH_order, a.la.o, dO, _, rfl, hO, fO_no ⟨by decide +kernel, by decide +kernel⟩, _, rfl, a.la.o, a.B, st.below, st.told, y, rfl, O, by rw [e2]; rfl, ?_⟩
    exact ⟨_, rfl, a.h, c.H, dx, _, _, rfl, hh, T.clH, T.nHo, fH_order, a.la.o, dO, _, rfl, hO, fO_no ⟨by decide +kernel, by decide +kernel⟩, _, rfl, _, rfl, a.la.o, a.B, st.below, st.told, x, y, rfl, O, by rw [e1]; rfl, (G.rng y hy).1, k⟩
def spH_ladders (c : CC) : Sp := fun vs H Q _ => ∃ (a : HA) (s : FL.HS), vs = [.ref a.h] ∧ HallAt c H a s ∧ FL.Good s ∧ s.linked.length ≤ 24 ∧ ∀ H' p ps, Same H H' → LLAt H H' p ps (FL.ladders s.linked s.ab s.be) → Q (.ref p) H'
theorem ok_H_ladders (T : Tx K mg c) (D : MD K c.H "ladders" "Hall.ladders" sH_ladders) (ML : MOk P w K mg base CX0 c.L "ladders" ["self"] 1 (spLadders c)) : MOk P w K mg base CX0 c.H "ladders" ["self"] 2 (spH_ladders c) := by
  obtain ⟨f1, fd1, m1, b1, F1⟩ := ML
  refine D.ok (N := ["self"]) ⟨rfl, rfl, rfl, by decide +kernel, rfl, by decide +kernel, by decide +kernel⟩ (fun _ _ _ _ _ _ us hl => match us, hl with | [_], _ => rfl) (fun vs H Q E h => ?_) (fun f cdv A outer s H vs Q E hr h => ?_)
  · obtain ⟨a, st, rfl, _⟩ := h; rfl
  · obtain ⟨a, st, rfl, HA0, G, hl, k⟩ := h
    obtain ⟨⟨dx, hh⟩, O, N, nBA, nBE⟩ := id HA0
    obtain ⟨dl, hal⟩ := N.ob
    refine ⟨_, pss_one (ps_ret (pe_meth0 (pe_fld (pv 0) rfl) T.clL m1 F1 hr b1 .nil pass0)), ?_⟩
    exact ⟨_, rfl, a.h, c.H, dx, _, _, rfl, hh, T.clH, T.nHl, fH_links, a.la.l, dl, _, rfl, hal, fL_no ⟨by decide +kernel, by decide +kernel, by decide +kernel, by decide +kernel⟩, a.la, _, _, _, _, rfl, N, G.mt, G.po, hl, k⟩
def spH_free (c : CC) : Sp := fun vs H Q _ => ∃ (a : HA) (s : FL.HS), vs = [.ref a.h] ∧ HallAt c H a s ∧ FL.Good s ∧ s.linked.length ≤ 24 ∧ ∀ H' t, Same H H' → H t = none → H' t = some (lI (FL.free s.lies s.linked s.ab s.be)) → Q (.ref t) H'
theorem ok_H_free (T : Tx K mg c) (D : MD K c.H "free" "Hall.free" sH_free) (MF : MOk P w K mg base CX0 c.L "free" ["self"] 4 (spLFree c)) : MOk P w K mg base CX0 c.H "free" ["self"] 5 (spH_free c) := by
  obtain ⟨f1, fd1, m1, b1, F1⟩ := MF
  refine D.ok (N := ["self"]) ⟨rfl, rfl, rfl, by decide +kernel, rfl, by decide +kernel, by decide +kernel⟩ (fun _ _ _ _ _ _ us hl => match us, hl with | [_], _ => rfl) (fun vs H Q E h => ?_) (fun f cdv A outer s H vs Q E hr h => ?_)
  · obtain ⟨a, st, rfl, _⟩ := h; rfl
  · obtain ⟨a, st, rfl, HA0, G, hl, k⟩ := h
    obtain ⟨⟨dx, hh⟩, O, N, nBA, nBE⟩ := id HA0
    obtain ⟨dl, hal⟩ := N.ob
    refine ⟨_, pss_one (ps_ret (pe_meth0 (pe_fld (pv 0) rfl) T.clL m1 F1 hr b1 .nil pass0)), ?_⟩
    exact ⟨_, rfl, a.h, c.H, dx, _, _, rfl, hh, T.clH, T.nHl, fH_links, a.la.l, dl, _, rfl, hal, fL_no ⟨by decide +kernel, by decide +kernel, by decide +kernel, by decide +kernel⟩, a.la, a.B, _, _, _, _, _, rfl, HA0.jpre G hl, G.po, G.na, k⟩
end
end FW

set_option maxHeartbeats 4000000
/-! The law's helpers 1: mixed, some, grown, fewer. -/
namespace FW
open PySem PySem.Spec PyProof.Rows L2

def mixedI (x k : Int) : Int := (x % 2147483647 * 48271 + 7919 * k * k + 31) % 1000003
theorem mixed_lo (x k : Int) : 0 ≤ mixedI x k := Int.emod_nonneg _ (by decide)
theorem mixed_hi (x k : Int) : mixedI x k < 1000003 := Int.emod_lt_of_pos _ (by decide)
theorem pgT {X : Cx} {es : List Expr} {k : Nat} {pos : Pos} {t : TGs} {n : Nat} (K : PySem.W.Frag) (h : PGs X es t) (hc : X.calm = true := by rfl) (hK : X.K = K := by rfl)
    (hn : (assignEach es X.env).length = n := by rfl) (hst : (assignEach es X.env).findIdx? (·.1) = none := by rfl) : PG X (.Tuple es k pos) (gTup K n t) := by
  subst hK
  exact pg_tup hc h hn hst
section
variable {P : Program} {w : World} {K : PySem.W.Frag} {mg : Str → Option Value} {base : Heap} {c : CC}
def spMixed : Sp := fun vs H Q _ => ∃ x k : Int, vs = [.int x, .int k] ∧ -1000000 ≤ k ∧ k ≤ 1000000 ∧ Q (.int (mixedI x k)) H
theorem ok_mixed (D : GD K mg "_law_mixed" s_w_mixed) : GOk P w K mg base CX0 "_law_mixed" ["_law_cell", "_law_k"] 1 spMixed := by
  refine D.ok (N := ["_law_cell", "_law_k"]) ⟨rfl, rfl, rfl, by decide +kernel, rfl, by decide +kernel, by decide +kernel⟩ (fun _ _ _ _ _ _ us hl => match us, hl with | [_, _], _ => rfl) (fun vs H Q E h => ?_) (fun f cdv A outer s H vs Q E hr h => ?_)
  · obtain ⟨x, k, rfl, _⟩ := h; rfl
  · obtain ⟨x, k, rfl, k0, k1, q⟩ := h
    refine ⟨_, pss_one (ps_ret (pe_op op_mod (pe_op op_add (pe_op op_add (pe_op op_mul (pe_op op_mod (pv 0) pe_int) pe_int) (pe_op op_mul (pe_op op_mul pe_int (pv 1)) (pv 1))) pe_int) pe_int)), ?_⟩
    have b0 : 0 ≤ x % 2147483647 := Int.emod_nonneg _ (by decide)
    have b1 : x % 2147483647 < 2147483647 := Int.emod_lt_of_pos _ (by decide)
    exact ⟨_, rfl, _, _, rfl, rfl, (by show (0 : Int) < 2147483647; decide), _, _, rfl, rfl, .inl ⟨by omega, by omega⟩, _, rfl, _, _, rfl, rfl, .inl ⟨by decide, by decide⟩, _, rfl, _, _, rfl, rfl, .inl ⟨by omega, by omega⟩, _, _, rfl, rfl, _, _, rfl, rfl, _, _, rfl, rfl, (by show (0 : Int) < 1000003; decide), q⟩

/-- some of the things, in this order or turned round -/
def spSome (K : PySem.W.Frag) : Sp := fun vs H Q _ => ∃ (q : Addr) (ns : List Int) (x : Int), vs = [.ref q, .int x] ∧ SqL K H q (ns.map V.int) ∧ ns.length ≤ 100 ∧ ns.Nodup ∧
  ∀ H' r l, Same H H' → H r = none → H' r = some (lI l) → l.Nodup → (∀ y ∈ l, y ∈ ns) → l.length ≤ ns.length → Q (.ref r) H'
theorem ok_some (zE : mg "enumerate" = none) (D : GD K mg "_law_some" s_w_some) (G : GOk P w K mg base CX0 "_law_mixed" ["_law_cell", "_law_k"] 1 spMixed) : GOk P w K mg base CX0 "_law_some" ["_law_things", "_law_cell"] 2 (spSome K) := by
  obtain ⟨f1, fd1, g1, k1, b1, F1⟩ := G
  have sc : FnScope ["_law_things", "_law_cell", "_law_part", "_law_some_here", "_law_k", "_law_one"] ["_law_things", "_law_cell"] (defScope s_w_some) := ⟨rfl, rfl, rfl, by decide +kernel, rfl, by decide +kernel, by decide +kernel⟩
  refine D.ok sc (fun _ _ _ _ _ _ us hl => match us, hl with | [_, _], _ => rfl) (fun vs H Q E h => ?_) (fun f cdv A outer s H vs Q E hr h => ?_)
  · obtain ⟨q, ns, x, rfl, _⟩ := h; rfl
  · obtain ⟨q, ns, x, rfl, hq, hn, nd, k⟩ := h
    refine ⟨_, pss_cons (ps_set (i := 2) sc.nd rfl (Or.inr rfl) (pe_op op_add pe_int (pe_op op_mod (pv 1) pe_int)))
      (pss_cons (ps_setLc (i := 3) (own := [("_law_k", 4), ("_law_one", 5)]) rfl sc.nd rfl rfl (sw_true rfl rfl rfl (by decide +kernel)) (pi_enum (by rfl) zE (pa_cons (pv 0) pa_nil))
          (blkOk_by (own := [("_law_k", 4), ("_law_one", 5)]) (N := ["_law_things", "_law_cell", "_law_part", "_law_some_here", "_law_k", "_law_one"]) (sc := defScope s_w_some) (by decide +kernel))
          (fun _ _ _ _ _ => pgT (n := 2) K (pgs_cons (pg_name (i := 4) sc.nd rfl (Or.inl rfl)) (pgs_cons (pg_name (i := 5) sc.nd rfl (Or.inl rfl)) pgs_nil)))
          (fun _ _ _ _ _ => pts_one (pt_cmpR op_eq (pe_op op_mod (pe_op op_fdiv (pe_call F1 hr (by rfl) g1 k1 b1 .nil pass0 (pa_cons (pv 1) (pa_cons (pv 4) pa_nil))) pe_int) (pv 2)) pe_int (nomark _)))
          (fun _ _ _ _ _ => pv 5))
      (pss_cons (ps_if (pt_cmpR op_eq (pe_op op_mod (pe_op op_fdiv (pe_call F1 hr (by rfl) g1 k1 b1 .nil pass0 (pa_cons (pv 1) (pa_cons pe_int pa_nil))) pe_int) pe_int) pe_int (nomark _))
        (pss_one (ps_set (i := 3) sc.nd rfl (Or.inl rfl) (pe_revL (pv 3)))) pss_nil)
      (pss_one (ps_ret (pv 3))))), ?_⟩
    have b0 : 0 ≤ x % 5 := Int.emod_nonneg _ (by decide)
    refine ⟨_, rfl, _, _, rfl, rfl, (by show (0 : Int) < 5; decide), _, _, rfl, rfl, ?_⟩
    refine ⟨_, rfl, q, _, rfl, hq, fun d hd => lc_it (walk_enum (K := K) (a := q) (xs := ns.map V.int))
      (fun i H2 => Same H H2 ∧ ∃ l : List Int, H2 d = some (lI l) ∧ l.Sublist (ns.take i)) ⟨fun b o e => by rw [upd_ne (ne_of_none e hd)]; exact e, [], upd_same, List.nil_sublist _⟩ (fun i H2 _ h => h.1.seq hq) ?_ ?_⟩
    · rintro i y H2 H3 hi ⟨s2, l, hl, sub⟩ ⟨t, u, z, rfl, ht, rfl, eu, ez⟩
      have eu : V.int (i : Nat) = u := Option.some.inj eu
      subst eu
      obtain ⟨z, rfl, hz⟩ := itemI ez
      have s3 : Same H (upd H2 t (.tup [.int (i : Nat), .int z])) := fun b o e => by rw [upd_ne (ne_of_none (s2 b o e) ht)]; exact s2 b o e
      have hl3 : (upd H2 t (.tup [.int (i : Nat), .int z])) d = some (lI l) := by rw [upd_ne (ne_of_none hl ht)]; exact hl
      have et : ns.take (i + 1) = ns.take i ++ [z] := by rw [List.take_add_one, hz]; rfl
      have hil := (List.getElem?_eq_some_iff.mp hz).1
      refine ⟨t, _, rfl, SqT.of upd_same, rfl, _, _, rfl, _, _, rfl, rfl, rfl, ?_⟩
      refine ⟨_, rfl, _, rfl, x, _, rfl, by omega, by omega, _, _, rfl, rfl, ⟨by decide, by decide⟩, _, rfl, _, _, rfl, rfl, (by show (0 : Int) < 2 + x % 5; omega), rfl, _, rfl, ?_⟩
      refine ite2 (fun _ => ?_) (fun _ => ?_)
      · refine ⟨_, rfl, _, hl3, by rw [List.length_map]; exact small1000 (Nat.le_trans sub.length_le (Nat.le_trans (List.length_take_le _ _) (by omega))), fun b o e => by rw [upd_ne (ne_of_none e hd)]; exact s3 b o e, l ++ [z], ?_, ?_⟩
        · rw [upd_same]
          show _ = some (HO.lst ((l ++ [z]).map V.int))
          rw [List.map_append]; rfl
        · rw [et]; exact sub.append (List.Sublist.refl _)
      · exact ⟨s3, l, hl3, by rw [et]; exact sub.trans (List.sublist_append_left _ _)⟩
    · rintro H2 ⟨s2, l, hl, sub⟩
      rw [List.length_map, List.take_length] at sub
      refine ⟨_, rfl, x, 99, rfl, by decide, by decide, _, _, rfl, rfl, ⟨by decide, by decide⟩, _, _, rfl, rfl, (by show (0 : Int) < 2; decide), rfl, _, rfl, ?_⟩
      refine ite2 (fun _ => ?_) (fun _ => ?_)
      · refine ⟨_, rfl, d, _, rfl, SqL.of hl, fun p hp => ⟨_, rfl, ?_⟩⟩
        rw [← List.map_reverse]
        refine k _ p l.reverse (fun b o e => by rw [upd_ne (ne_of_none (s2 b o e) hp)]; exact s2 b o e) ?_ upd_same (List.pairwise_reverse.mpr ((sub.nodup nd).imp Ne.symm)) (fun y hy => sub.subset (List.mem_reverse.mp hy)) (by rw [List.length_reverse]; exact sub.length_le)
        cases z : H p with
        | none => rfl
        | some o => rw [s2 _ _ z] at hp; cases hp
      · exact ⟨_, rfl, k _ d l s2 hd hl (sub.nodup nd) (fun y hy => sub.subset hy) sub.length_le⟩

/-! ### what the law keeps beside the hall: a dict of lists -/
def LBT (H : Hp) : List (Int × Addr) → List (Int × List Int) → Prop := Paired fun p q => p.1 = q.1 ∧ H p.2 = some (lI q.2)
structure LB (H : Hp) (b : Addr) (ps : List (Int × Addr)) (d : List (Int × List Int)) : Prop where
  at_ : H b = some (.dK (kvI V.ref ps))
  tt : LBT H ps d
theorem LBT.same {H H' : Hp} {ps : List (Int × Addr)} {d : List (Int × List Int)} (h : LBT H ps d) (s : ∀ p ∈ ps, ∀ u, H p.2 = some u → H' p.2 = some u) : LBT H' ps d := by
  unfold LBT at h ⊢
  induction h with
  | nil => exact .nil
  | cons h t ih => exact .cons ⟨h.1, s _ List.mem_cons_self _ h.2⟩ (ih fun p hp => s p (List.mem_cons_of_mem _ hp))
theorem LBT.keys {H : Hp} {ps : List (Int × Addr)} {d : List (Int × List Int)} (h : LBT H ps d) : ps.map (·.1) = d.map (·.1) := by
  unfold LBT at h
  induction h with
  | nil => rfl
  | cons h t ih => rw [List.map_cons, List.map_cons, ih, h.1]
theorem LBT.get {H : Hp} {ps : List (Int × Addr)} {d : List (Int × List Int)} (h : LBT H ps d) {k : Int} {l : List Int} (e : FL.aget d k = some l) : ∃ a, FL.aget ps k = some a ∧ H a = some (lI l) := by
  unfold LBT at h
  induction h with
  | nil => cases e
  | @cons p q ps ds h t ih =>
    rw [FL.aget_cons] at e
    by_cases e2 : q.1 = k
    · rw [if_pos e2] at e
      cases e
      exact ⟨p.2, by rw [FL.aget_cons, if_pos (h.1.trans e2)], h.2⟩
    · rw [if_neg e2] at e
      obtain ⟨a, ea, ha⟩ := ih e
      exact ⟨a, by rw [FL.aget_cons, if_neg fun z => e2 (h.1.symm.trans z)]; exact ea, ha⟩
theorem LBT.snoc {H : Hp} {ps : List (Int × Addr)} {d : List (Int × List Int)} (h : LBT H ps d) {k : Int} {a : Addr} {l : List Int} (e : H a = some (lI l)) : LBT H (ps ++ [(k, a)]) (d ++ [(k, l)]) := Paired.snoc h ⟨rfl, e⟩
theorem LBT.is {H : Hp} {ps : List (Int × Addr)} {d : List (Int × List Int)} (h : LBT H ps d) : ∀ p ∈ ps, ∃ l, H p.2 = some (lI l) := by
  unfold LBT at h
  induction h with
  | nil => intro p hp; cases hp
  | cons h t ih =>
    intro p hp
    rcases List.mem_cons.mp hp with e | hp
    · exact ⟨_, e ▸ h.2⟩
    · exact ih p hp
theorem LB.same {H H' : Hp} {b : Addr} {ps : List (Int × Addr)} {d : List (Int × List Int)} (h : LB H b ps d) (s : Same H H') : LB H' b ps d := ⟨s _ _ h.at_, h.tt.same fun p _ u e => s _ _ e⟩
theorem LBT.len {H : Hp} {ps : List (Int × Addr)} {d : List (Int × List Int)} (h : LBT H ps d) : ps.length = d.length := Paired.length h

def spGrown (K : PySem.W.Frag) : Sp := fun vs H Q _ => ∃ (b q : Addr) (one : Int) (ns : List Int) (ps : List (Int × Addr)) (d : List (Int × List Int)) (all : List Int), vs = [.ref b, .int one, .ref q] ∧ LB H b ps d ∧ SqL K H q (ns.map V.int) ∧
  (∀ o ∈ ns, ∃ l, FL.aget d o = some l) ∧ ns.length ≤ 60 ∧ (∀ o l, FL.aget d o = some l → l.length ≤ 60 ∧ ∀ x ∈ l, x ∈ all) ∧ (∀ x ∈ ns, x ∈ all) ∧ all.length ≤ 60 ∧ FL.aget d one = none ∧ d.length ≤ 900 ∧
  ∀ H' t m, m.Pairwise (· < ·) → (∀ x, x ∈ m ↔ x ∈ ns ∨ ∃ o ∈ ns, ∃ l, FL.aget d o = some l ∧ x ∈ l) → H t = none → LB H' b (ps ++ [(one, t)]) (d ++ [(one, m)]) → (∀ x u, x ≠ b → H x = some u → H' x = some u) → Q .non H'
theorem ok_grown (zL : mg "list" = none) (zS : mg "set" = none) (zO : mg "sorted" = none) (D : GD K mg "_law_grown" s_w_grown) : GOk P w K mg base CX0 "_law_grown" ["_law_below", "_law_one", "_law_some_here"] 1 (spGrown K) := by
  have sc : FnScope ["_law_below", "_law_one", "_law_some_here", "_law_found", "_law_other"] ["_law_below", "_law_one", "_law_some_here"] (defScope s_w_grown) := ⟨rfl, rfl, rfl, by decide +kernel, rfl, by decide +kernel, by decide +kernel⟩
  refine D.ok sc (fun _ _ _ _ _ _ us hl => match us, hl with | [_, _, _], _ => rfl) (fun vs H Q E h => ?_) (fun f cdv A outer s H vs Q E hr h => ?_)
  · obtain ⟨b, q, one, ns, ps, d, all, rfl, _⟩ := h; rfl
  · obtain ⟨b, q, one, ns, ps, d, all, rfl, B, hq, hns, hn, hd, hna, hal, hone, hdl, k⟩ := h
    have hu := hu_of hr
    refine ⟨_, pss_cons (ps_set (i := 3) sc.nd rfl (Or.inl rfl) (pe_callTy call_list_of (by rfl) zL PyProof.Rows.boot_list (pa_cons (pv 2) pa_nil)))
      (pss_cons (ps_for PassesOwn.never rfl (pi_list (pv 2)) (pg_name (i := 4) sc.nd rfl (Or.inl rfl))
        (pss_one (ps_expr (pe_bm PySem.F.plainAttrs_list PySem.F.slot_list_extend PySem.F.type_list_extend mt_extend (pv 3) (pa_cons (pe_dget hu (pv 0) (pv 4) (fun _ _ => rfl)) pa_nil)))))
      (pss_one (ps_dput hu (pv 0) (pv 1) (pe_callB (cr_sortedSet rfl) (by rfl) zO PyProof.Rows.boot_sorted (pa_cons (pe_callTy (SL.cr_setL rfl) (by rfl) zS PyProof.Rows.boot_set (pa_cons (pv 3) pa_nil)) pa_nil)) rfl))), ?_⟩
    refine ⟨_, rfl, q, _, rfl, Or.inl hq, fun f1 hf1 => ?_⟩
    have s1 : Same H (upd H f1 (lI ns)) := fun x u e => by rw [upd_ne (ne_of_none e hf1)]; exact e
    let F : Nat → List Int := fun i => ns ++ ((ns.take i).map fun o => (FL.aget d o).getD []).flatten
    have Fs : ∀ i o, ns[i]? = some o → F (i + 1) = F i ++ (FL.aget d o).getD [] := fun i o e => by
      show ns ++ _ = (ns ++ _) ++ _
      rw [List.take_add_one, e]
      show ns ++ ((ns.take i ++ [o]).map _).flatten = _
      rw [List.map_append, List.flatten_append, ← List.append_assoc]
      simp
    have Flen : ∀ i, i ≤ ns.length → (F i).length ≤ 60 + 60 * i := by
      intro i
      induction i with
      | zero => intro _; show (ns ++ []).length ≤ _; rw [List.append_nil]; omega
      | succ i ih =>
        intro hi
        obtain ⟨o, ho⟩ : ∃ o, ns[i]? = some o := ⟨ns[i], List.getElem?_eq_getElem hi⟩
        rw [Fs i o ho, List.length_append]
        obtain ⟨l, hl⟩ := hns o (memI ho)
        have := (hd o l hl).1
        have := ih (by omega)
        rw [hl, Option.getD_some]; omega
    refine ⟨_, rfl, q, rfl, ⟨_, s1.seq hq⟩, for_list (K := K) (a := q) (xs := ns.map V.int)
      (fun i σ H2 => ∃ v : Option V, σ = [some (.ref b), some (.int one), some (.ref q), some (.ref f1), v] ∧ Same H H2 ∧ H2 f1 = some (lI (F i)))
      ⟨none, rfl, s1, by show (upd H f1 (lI ns)) f1 = some (lI (ns ++ [])); rw [upd_same, List.append_nil]⟩ (fun i σ H2 _ ⟨_, _, s2, _⟩ => s2.seq hq) ?_ ?_⟩
    · rintro i y σ H2 hi ⟨v, rfl, s2, h2⟩
      obtain ⟨o, rfl, ho⟩ := itemI hi
      obtain ⟨l, hl⟩ := hns o (memI ho)
      obtain ⟨a, ea, ha⟩ := B.tt.get hl
      have g := DGet.k (k := Sum.inl o) (s2 _ _ B.at_)
      rw [valV_kvI, ea] at g
      have hi' := (List.getElem?_eq_some_iff.mp ho).1
      have := (hd o l hl).1
      have := Flen i (by omega)
      refine ⟨_, rfl, Or.inl ⟨rfl, _, SqL.of h2⟩, _, rfl, _, rfl, b, .ref a, rfl, g, f1, a, _, _, rfl, rfl, h2, s2 _ _ ha, by rw [List.length_map, List.length_map]; exact Nat.le_trans (m := 5000) (by omega) (by decide), ?_⟩
      refine ⟨_, rfl, fun x u e => by rw [upd_ne (ne_of_none e hf1)]; exact s2 x u e, ?_⟩
      rw [upd_same, Fs i o ho, hl, ← List.map_append]; rfl
    · rintro σ H2 ⟨v, rfl, s2, h2⟩
      rw [List.length_map] at h2
      have hF : ∀ x, x ∈ F ns.length ↔ x ∈ ns ∨ ∃ o ∈ ns, ∃ l, FL.aget d o = some l ∧ x ∈ l := fun x => by
        show x ∈ ns ++ _ ↔ _
        rw [List.take_length, List.mem_append, List.mem_flatten]
        refine or_congr Iff.rfl ⟨fun ⟨l, hl, hx⟩ => ?_, fun ⟨o, ho, l, hl, hx⟩ => ?_⟩
        · obtain ⟨o, ho, rfl⟩ := List.mem_map.mp hl
          obtain ⟨l, hl'⟩ := hns o ho
          rw [hl', Option.getD_some] at hx
          exact ⟨o, ho, l, hl', hx⟩
        · exact ⟨l, List.mem_map.mpr ⟨o, ho, by rw [hl]; rfl⟩, hx⟩
      have := Flen ns.length (Nat.le_refl _)
      refine ⟨_, rfl, f1, F ns.length, rfl, SqL.of h2, by omega, fun st n hn hst => ?_⟩
      obtain ⟨out, o1, o2, o3⟩ := hn
      have hn64 : n < 64 := by
        have h1 : out.length ≤ all.length := FL.nodup_len_le o1 fun x hx => by
          rcases (hF x).mp ((o2 x).mp hx) with h | ⟨o, ho, l, hl, h⟩
          · exact hna x h
          · exact (hd o l hl).2 x h
        omega
      refine ⟨st, _, n, rfl, upd_same, hn64, fun m t hm hmem hml ht => ?_⟩
      have s3 : Same H (upd (upd H2 st (SetO w st (fun j => decide (j ∈ F ns.length)) n)) t (lI m)) := fun x u e => by
        have e2 := s2 x u e
        have e3 : (upd H2 st (SetO w st (fun j => decide (j ∈ F ns.length)) n)) x = some u := by rw [upd_ne (ne_of_none e2 hst)]; exact e2
        rw [upd_ne (ne_of_none e3 ht)]; exact e3
      have ht0 : H t = none := by
        cases z : H t with
        | none => rfl
        | some u =>
          have e2 := s2 t u z
          rw [upd_ne (ne_of_none e2 hst), e2] at ht; cases ht
      have ekn : FL.aget ps one = none := by
        cases z : FL.aget ps one with
        | none => rfl
        | some u =>
          have h1 := FL.aget_key z
          rw [B.tt.keys] at h1
          exact absurd h1 (FL.aget_none_iff.mp hone)
      have ntb : t ≠ b := (ne_of_none B.at_ ht0).symm
      refine ⟨_, rfl, _, rfl, b, _, rfl, DPut.k (k := Sum.inl one) (s3 _ _ B.at_) (by rw [len_kvI, B.tt.len]; exact small1000 (by omega)), ?_⟩
      rw [putK_kvI, FL.aput_new _ ekn]
      refine k _ t m hm (fun x => ?_) ht0 ⟨upd_same, LBT.snoc (B.tt.same fun p hp u e => ?_) (by rw [upd_ne ntb, upd_same])⟩ fun x u n e => by rw [upd_ne n]; exact s3 x u e
      · rw [hmem x, decide_eq_true_iff]; exact hF x
      · obtain ⟨l, hl⟩ := B.tt.is p hp
        rw [upd_ne (ne_of hl B.at_ (by intro z; cases z))]; exact s3 _ _ e

def spFewer : Sp := fun vs H Q _ => ∃ (b : Addr) (one : Int) (ps : List (Int × Addr)) (d : List (Int × List Int)), vs = [.ref b, .int one] ∧ LB H b ps d ∧ (d.map (·.1)).Nodup ∧ (∃ l, FL.aget d one = some l) ∧ d.length ≤ 900 ∧ (∀ o l, FL.aget d o = some l → l.length ≤ 900) ∧
  ∀ H' ps', LB H' b ps' ((FL.adel d one).map fun p => (p.1, p.2.filter fun x => decide (x ≠ one))) → (∀ p ∈ ps', H p.2 = none) → (∀ x u, x ≠ b → H x = some u → H' x = some u) → Q .non H'
theorem aget_at {β : Type} {l1 l2 : List (Int × β)} {k : Int} {x : β} (h : ((l1 ++ (k, x) :: l2).map (·.1)).Nodup) : FL.aget (l1 ++ (k, x) :: l2) k = some x := by
  have := FL.aget_aput (l1 ++ (k, x) :: l2) k k x
  rw [aput_at h, if_pos rfl] at this
  exact this
theorem LBT.at {H : Hp} {ps : List (Int × Addr)} {d : List (Int × List Int)} (h : LBT H ps d) {i : Nat} {p : Int × Addr} (e : ps[i]? = some p) : ∃ l, d[i]? = some (p.1, l) ∧ H p.2 = some (lI l) := by
  unfold LBT at h
  induction h generalizing i with
  | nil => simp at e
  | @cons a b ps ds h t ih =>
    cases i with
    | zero =>
      have e : a = p := Option.some.inj e
      subst e
      exact ⟨b.2, by show some b = _; rw [h.1], h.2⟩
    | succ i => exact ih (i := i) e
theorem LBT.del {H : Hp} {ps : List (Int × Addr)} {d : List (Int × List Int)} (h : LBT H ps d) (k : Int) : LBT H (FL.adel ps k) (FL.adel d k) := by
  unfold LBT at h ⊢
  unfold FL.adel
  induction h with
  | nil => exact .nil
  | @cons a b ps ds h t ih =>
    rw [List.filter_cons, List.filter_cons, h.1]
    by_cases e : b.1 = k
    · rw [if_neg (by simp [e]), if_neg (by simp [e])]; exact ih
    · rw [if_pos (by simp [e]), if_pos (by simp [e])]; exact .cons h ih
theorem ok_fewer (zL : mg "list" = none) (D : GD K mg "_law_fewer" s_w_fewer) : GOk P w K mg base CX0 "_law_fewer" ["_law_below", "_law_one"] 1 spFewer := by
  have sc : FnScope ["_law_below", "_law_one", "_law_other", "_law_low"] ["_law_below", "_law_one"] (defScope s_w_fewer) := ⟨rfl, rfl, rfl, by decide +kernel, rfl, by decide +kernel, by decide +kernel⟩
  refine D.ok sc (fun _ _ _ _ _ _ us hl => match us, hl with | [_, _], _ => rfl) (fun vs H Q E h => ?_) (fun f cdv A outer s H vs Q E hr h => ?_)
  · obtain ⟨b, one, ps, d, rfl, _⟩ := h; rfl
  · obtain ⟨b, one, ps, d, rfl, B, nd, ⟨l0, hl0⟩, hdl, hll, k⟩ := h
    have hu := hu_of hr
    refine ⟨_, pss_cons (ps_expr (pe_dpop1 (pv 0) (pv 1) ⟨by rfl, by rfl, by rfl, by rfl⟩))
      (pss_one (ps_for PassesOwn.never rfl (pi_list (pe_callTy (call_listD rfl) (by rfl) zL PyProof.Rows.boot_list (pa_cons (pv 0) pa_nil))) (pg_name (i := 2) sc.nd rfl (Or.inl rfl))
        (pss_one (ps_dput hu (pv 0) (pv 2) (pe_lc (own := [("_law_low", 3)]) (g := gName 3) rfl sc.nd (pi_list (pe_dget hu (pv 0) (pv 2) (fun _ _ => rfl))) (blkOk_by (own := [("_law_low", 3)]) (N := ["_law_below", "_law_one", "_law_other", "_law_low"]) (sc := defScope s_w_fewer) (by decide +kernel))
          (fun _ _ _ _ _ => pg_name (i := 3) sc.nd rfl (Or.inl rfl)) (fun _ _ _ _ _ => pts_one (pt_cmpR op_ne (pv 3) (pv 1) (nomark _))) (fun _ _ _ _ _ => pv 3)) rfl)))), ?_⟩
    obtain ⟨a0, ea0, ha0⟩ := B.tt.get hl0
    refine ⟨_, rfl, b, rfl, Or.inl ⟨_, Or.inl B.at_⟩, _, rfl, _, Sum.inl one, .ref a0, B.at_, rfl, by rw [valV_kvI, ea0]; rfl, ?_⟩
    rw [dropK_kvI]
    have T0 := B.tt.del one
    have len0 : (FL.adel d one).length ≤ 900 := Nat.le_trans (List.length_filter_le _ _) hdl
    have nd0 : ((FL.adel ps one).map (·.1)).Nodup := FL.adel_nodup (by rw [B.tt.keys]; exact nd)
    generalize eps : FL.adel ps one = ps0 at T0 nd0
    have hd0 : ∀ o l, FL.aget (FL.adel d one) o = some l → l.length ≤ 900 := fun o l e => by
      rw [FL.aget_adel] at e
      by_cases q : o = one
      · rw [if_pos q] at e; cases e
      · rw [if_neg q] at e; exact hll o l e
    have ndd : ((FL.adel d one).map (·.1)).Nodup := FL.adel_nodup nd
    generalize FL.adel d one = d0 at T0 len0 k hd0 ndd
    refine ⟨_, rfl, b, _, rfl, Or.inl upd_same, fun p hp => ?_⟩
    rw [kvI_keys]
    have npb : p ≠ b := fun e => by rw [e, upd_same] at hp; cases hp
    have hp0 : H p = none := by rw [upd_ne npb] at hp; exact hp
    have s0 : ∀ x u, x ≠ b → H x = some u → (upd (upd H b (.dK (kvI V.ref ps0))) p (lI (ps0.map (·.1)))) x = some u := fun x u n e => by rw [upd_ne (ne_of_none e hp0), upd_ne n]; exact e
    refine ⟨p, rfl, ⟨_, SqL.of upd_same⟩, for_list (K := K) (a := p) (xs := (ps0.map (·.1)).map V.int)
      (fun i σ H2 => ∃ (v : Option V) (qs : List (Int × Addr)), σ = [some (.ref b), some (.int one), v, none] ∧ (∀ x u, x ≠ b → H x = some u → H2 x = some u) ∧ H2 p = some (lI (ps0.map (·.1))) ∧ H2 b = some (.dK (kvI V.ref (qs ++ ps0.drop i))) ∧ qs.length = i ∧
        LBT H2 qs ((d0.take i).map fun p => (p.1, p.2.filter fun x => decide (x ≠ one))) ∧ ∀ q ∈ qs, H q.2 = none)
      ⟨none, [], rfl, s0, upd_same, by rw [upd_ne npb.symm, upd_same]; rfl, rfl, .nil, fun q hq => (nomatch hq)⟩ (fun i σ H2 _ ⟨_, _, _, _, e, _⟩ => SqL.of e) ?_ ?_⟩
    · rintro i y σ H2 hi ⟨v, qs, rfl, s2, hpp, hb, hqi, tq, nq⟩
      obtain ⟨z, rfl, hz⟩ := itemI hi
      rw [List.getElem?_map] at hz
      obtain ⟨⟨z', a⟩, hpa, ez⟩ := Option.map_eq_some_iff.mp hz
      have ez : z' = z := ez
      subst ez
      obtain ⟨l, hdl', hal⟩ := T0.at hpa
      obtain ⟨hil, eil⟩ := List.getElem?_eq_some_iff.mp hpa
      have hil2 : i < d0.length := (List.getElem?_eq_some_iff.mp hdl').1
      rw [List.drop_eq_getElem_cons hil, eil] at hb
      have keyq : qs.map (·.1) = (ps0.take i).map (·.1) := by
        rw [tq.keys, List.map_map]
        show (d0.take i).map (·.1) = _
        rw [List.map_take, List.map_take, T0.keys]
      have nd2 : ((qs ++ (z', a) :: ps0.drop (i + 1)).map (·.1)).Nodup := by
        rw [List.map_append, keyq, List.map_cons]
        have : (ps0.take i).map (·.1) ++ z' :: (ps0.drop (i + 1)).map (·.1) = ps0.map (·.1) := by
          conv => rhs; rw [← List.take_append_drop i ps0, List.drop_eq_getElem_cons hil, eil]
          rw [List.map_append, List.map_cons]
        rw [this]; exact nd0
      have g := DGet.k (k := Sum.inl z') hb
      rw [valV_kvI, aget_at nd2] at g
      have hanb : a ≠ b := ne_of hal B.at_ (by intro z; cases z)
      have ha2 := s2 a _ hanb hal
      have hlen : l.length ≤ 900 := by
        refine hd0 z' l ?_
        have hd1 : d0 = d0.take i ++ (z', l) :: d0.drop (i + 1) := by
          conv => lhs; rw [← List.take_append_drop i d0, List.drop_eq_getElem_cons hil2, (List.getElem?_eq_some_iff.mp hdl').2]
        rw [hd1]
        exact aget_at (by rw [← hd1]; exact ndd)
      dsimp only [gName, sDPut]
      refine lc_filt (K := K) (a := a) (ns := l) (fun x => decide (x ≠ one)) V.int (fun Q' q => ?_) (SqL.of ha2) (Nat.le_trans hlen (by decide)) (fun x => by rfl) (fun x hx H3 s3 Q' q => ?_) (fun x hx hp H3 s3 Q' q => ?_) (fun t ht => ?_)
      · exact ⟨_, rfl, _, rfl, b, .ref a, rfl, g, q⟩
      · refine ⟨_, rfl, _, rfl, rfl, _, rfl, ?_⟩
        have e : (!decide (V.int x = V.int one)) = decide (x ≠ one) := by
          by_cases q : x = one
          · simp [q]
          · have : V.int x ≠ V.int one := fun z => q (V.int.inj z)
            simp [q, this]
        rw [e]; exact q
      · exact ⟨_, rfl, q⟩
      · have hb4 : (upd H2 t (.lst ((l.filter fun x => decide (x ≠ one)).map V.int))) b = some (.dK (kvI V.ref (qs ++ (z', a) :: ps0.drop (i + 1)))) := by rw [upd_ne (ne_of_none hb ht)]; exact hb
        refine ⟨_, rfl, _, rfl, b, _, rfl, DPut.k (k := Sum.inl z') hb4 ?_, ?_⟩
        · rw [len_kvI]
          have h1 : (qs ++ (z', a) :: ps0.drop (i + 1)).length = ps0.length := by
            rw [List.length_append, List.length_cons, List.length_drop, hqi]; omega
          rw [h1, T0.len]; exact small1000 (by omega)
        rw [putK_kvI, aput_at nd2]
        have ht0 : H t = none := by
          cases z : H t with
          | none => rfl
          | some u =>
            by_cases q : t = b
            · rw [q, hb] at ht; cases ht
            · rw [s2 _ _ q z] at ht; cases ht
        have ntb : t ≠ b := (ne_of_none B.at_ ht0).symm
        have ntp : p ≠ t := ne_of_none hpp ht
        refine ⟨_, qs ++ [(z', t)], rfl, fun x u n e => ?_, ?_, ?_, by rw [List.length_append, hqi]; rfl, ?_, fun q hq => ?_⟩
        · rw [upd_ne n, upd_ne (ne_of_none (s2 x u n e) ht)]; exact s2 x u n e
        · rw [upd_ne npb, upd_ne ntp]; exact hpp
        · rw [upd_same, List.append_assoc]; rfl
        · rw [List.take_add_one, hdl']
          show LBT _ _ ((d0.take i ++ [(z', l)]).map _)
          rw [List.map_append]
          refine LBT.snoc (tq.same fun q hq u e => ?_) (by rw [upd_ne ntb, upd_same])
          obtain ⟨l', hl'⟩ := tq.is q hq
          rw [upd_ne (ne_of hl' hb (by intro z; cases z)), upd_ne (ne_of_none e ht)]; exact e
        · rcases List.mem_append.mp hq with hq | hq
          · exact nq q hq
          · rw [List.mem_singleton.mp hq]; exact ht0
    · rintro σ H2 ⟨v, qs, rfl, s2, hpp, hb, hqi, tq, nq⟩
      rw [List.length_map, List.length_map] at hqi hb tq
      rw [List.drop_length, List.append_nil] at hb
      rw [T0.len, List.take_length] at tq
      exact k H2 qs ⟨hb, tq⟩ nq s2
end
end FW

set_option maxHeartbeats 4000000
/-! The law's helpers 2: the hall and what the law keeps beside it, over a deed. -/
namespace FW
open PySem PySem.Spec PyProof.Rows L2
section
variable {c : CC}
theorem HallAt.sameF {H H' : Hp} {a : HA} {s : FL.HS} (h : HallAt c H a s) (e : ∀ b ∈ a.fp, ∀ u, H b = some u → H' b = some u) : HallAt c H' a s := by
  obtain ⟨⟨dx, h1⟩, ⟨⟨dO, h2⟩, h3⟩, ⟨⟨dl, h4⟩, h5, h6, h7, h8⟩, h9, h10⟩ := h
  have m : ∀ x, x ∈ [a.h, a.la.o, a.la.l, a.la.L, a.la.A, a.la.E, a.B] → x ∈ a.fp := fun x hx => hx
  exact ⟨⟨dx, e _ (m _ (by simp)) _ h1⟩, ⟨⟨dO, e _ (m _ (by simp)) _ h2⟩, e _ (m _ (by simp)) _ h3⟩, ⟨⟨dl, e _ (m _ (by simp)) _ h4⟩, e _ (m _ (by simp)) _ h5, e _ (m _ (by simp)) _ h6, e _ (m _ (by simp)) _ h7, h8⟩, h9, h10⟩
structure WAt (c : CC) (H : Hp) (a : HA) (s : FL.HS) (b : Addr) (ps : List (Int × Addr)) : Prop where
  hall : HallAt c H a s
  good : FL.Good s
  lb : LB H b ps s.law
  ob : b ∉ a.fp
  ops : ∀ p ∈ ps, p.2 ∉ a.fp
theorem WAt.same {H H' : Hp} {a : HA} {s : FL.HS} {b : Addr} {ps : List (Int × Addr)} (h : WAt c H a s b ps) (e : Same H H') : WAt c H' a s b ps := ⟨h.hall.same e, h.good, h.lb.same e, h.ob, h.ops⟩
theorem WAt.keys {H : Hp} {a : HA} {s : FL.HS} {b : Addr} {ps : List (Int × Addr)} (h : WAt c H a s b ps) : ps.map (·.1) = s.linked := by rw [h.lb.tt.keys]; exact FL.law_keys s
theorem WAt.hasnt {H : Hp} {a : HA} {s : FL.HS} {b : Addr} {ps : List (Int × Addr)} (h : WAt c H a s b ps) : ∀ p ∈ ps, p.2 ≠ b := fun p hp e => by
  obtain ⟨l, hl⟩ := h.lb.tt.is p hp
  rw [e, h.lb.at_] at hl; cases hl
/-- what stands but in the hall and the dict -/
def WOut (a : HA) (b : Addr) (x : Addr) : Prop := x ∉ a.fp ∧ x ≠ b
theorem WAt.put {H H1 H2 : Hp} {a a1 : HA} {s : FL.HS} {b t : Addr} {ps : List (Int × Addr)} {some_ m : List Int} (h : WAt c H a s b ps) (hs : ∀ x ∈ some_, x ∈ s.linked)
    (h1 : HallAt c H1 a1 (s.put some_).2) (f : Frame H a H1 a1) (hm : m.Pairwise (· < ·)) (hmem : ∀ x, x ∈ m ↔ x ∈ some_ ∨ ∃ o ∈ some_, ∃ l, FL.aget s.law o = some l ∧ x ∈ l)
    (h2 : LB H2 b (ps ++ [((s.told : Int), t)]) (s.law ++ [((s.told : Int), m)])) (k : ∀ x ∈ a1.fp, ∀ u, x ≠ b → H1 x = some u → H2 x = some u) (ht : H1 t = none) : WAt c H2 a1 (s.put some_).2 b (ps ++ [((s.told : Int), t)]) := by
  have e : s.law ++ [((s.told : Int), m)] = (s.put some_).2.law := by
    refine FL.law_put h.good hs hm fun x => ?_
    rw [hmem x]
    refine or_congr Iff.rfl ⟨fun ⟨o, ho, l, hl, hx⟩ => ?_, fun ⟨o, ho, hx, hy⟩ => ?_⟩
    · rw [FL.law_get h.good (hs o ho)] at hl
      cases hl
      obtain ⟨q1, q2⟩ := List.mem_filter.mp hx
      exact ⟨o, ho, q1, q2⟩
    · exact ⟨o, ho, _, FL.law_get h.good (hs o ho), List.mem_filter.mpr ⟨hx, hy⟩⟩
  have ob := (f.out h.ob h.lb.at_).1
  refine ⟨h1.sameF fun x hx u e => k x hx u (fun z => ob (z ▸ hx)) e, FL.put_good h.good hs, e ▸ h2, ob, fun p hp => ?_⟩
  rcases List.mem_append.mp hp with hp | hp
  · obtain ⟨l, hl⟩ := h.lb.tt.is p hp
    exact (f.out (h.ops p hp) hl).1
  · rw [List.mem_singleton.mp hp]; exact h1.new ht
theorem WAt.take {H H1 H2 : Hp} {a : HA} {s : FL.HS} {b : Addr} {ps ps' : List (Int × Addr)} {one : Int} (h : WAt c H a s b ps) (ho : one ∈ s.linked)
    (h1 : HallAt c H1 a (s.take one).2) (f : Frame H a H1 a) (h2 : LB H2 b ps' ((FL.adel s.law one).map fun p => (p.1, p.2.filter fun x => decide (x ≠ one)))) (k : ∀ x u, x ≠ b → H1 x = some u → H2 x = some u)
    (hn : ∀ p ∈ ps', H1 p.2 = none) : WAt c H2 a (s.take one).2 b ps' := by
  have r0 := (h.good.rng one ho).1
  rw [FL.law_take h.good r0] at h2
  exact ⟨h1.sameF fun x hx u e => k x u (fun z => h.ob (z ▸ hx)) e, FL.take_good h.good r0, h2, h.ob, fun p hp => h1.new (hn p hp)⟩
/-- the dict of lists behind the hall's deed -/
theorem WAt.lbF {H H1 : Hp} {a a1 : HA} {s : FL.HS} {b : Addr} {ps : List (Int × Addr)} (h : WAt c H a s b ps) (f : Frame H a H1 a1) : LB H1 b ps s.law :=
  ⟨f.keep _ _ h.ob h.lb.at_, h.lb.tt.same fun p hp u e => f.keep _ _ (h.ops p hp) e⟩
theorem law_len {s : FL.HS} (G : FL.Good s) {o : Int} {l : List Int} (e : FL.aget s.law o = some l) : l.length ≤ s.linked.length ∧ ∀ x ∈ l, x ∈ s.linked := by
  have ho : o ∈ s.linked := by rw [← FL.law_keys s]; exact FL.aget_key e
  rw [FL.law_get G ho] at e
  cases e
  exact ⟨List.length_filter_le _ _, fun x hx => (List.mem_filter.mp hx).1⟩
theorem law_len0 (s : FL.HS) : s.law.length = s.linked.length := by rw [← FL.law_keys s, List.length_map]
theorem put_told {s : FL.HS} {l : List Int} : (s.put l).2.told = s.told + 1 := rfl
theorem put_len {s : FL.HS} {l : List Int} : (s.put l).2.linked.length = s.linked.length + 1 := by
  show (s.linked ++ [(s.told : Int)]).length = _
  rw [List.length_append]; rfl
theorem take_told {s : FL.HS} {x : Int} : (s.take x).2.told = s.told := rfl
theorem take_len {s : FL.HS} {x : Int} : (s.take x).2.linked.length ≤ s.linked.length := List.length_filter_le _ _
theorem WAt.start {H : Hp} {a : HA} {b : Addr} (h : HallAt c H a FL.HS.empty) (hb : H b = none) : WAt c (upd H b (.dK [])) a FL.HS.empty b [] :=
  ⟨h.same fun x u e => by rw [upd_ne (ne_of_none e hb)]; exact e, FL.Good.empty, ⟨upd_same, .nil⟩, h.new hb, fun p hp => nomatch hp⟩
end
end FW

set_option maxHeartbeats 4000000
/-! The law's helpers 3: small words for the laws' own defs. -/
namespace FW
open PySem PySem.Spec PyProof.Rows L2
theorem cut_to (ns : List Int) (k : Nat) : cutV (ns.map V.int) none (some (k : Int)) = (ns.take k).map V.int := by
  unfold cutV
  rw [HT.sIx_none, HT.sIx_nat, Nat.sub_zero, List.drop_zero, List.length_map, List.map_take]
  by_cases h : k ≤ ns.length
  · rw [Nat.min_eq_left h]
  · rw [Nat.min_eq_right (by omega), List.take_of_length_le (by rw [List.length_map]; omega), List.take_of_length_le (by rw [List.length_map]; omega)]
/-- an item at a drawn place -/
theorem drawn_at {ns : List Int} {x : Int} (h : ns ≠ []) (hx : 0 ≤ x) : ∃ z ∈ ns, atI (ns.map V.int) (x % (ns.length : Int)) = some (V.int z) := by
  have hp : 0 < ns.length := List.length_pos_iff.mpr h
  have h0 : 0 ≤ x % (ns.length : Int) := Int.emod_nonneg _ (by omega)
  have h1 : x % (ns.length : Int) < ns.length := Int.emod_lt_of_pos _ (by omega)
  obtain ⟨j, hj⟩ : ∃ j : Nat, x % (ns.length : Int) = (j : Int) := ⟨(x % (ns.length : Int)).toNat, by omega⟩
  have hjl : j < ns.length := by omega
  refine ⟨ns[j], List.getElem_mem _, ?_⟩
  rw [hj]
  exact atI_nat (by rw [List.getElem?_map, List.getElem?_eq_getElem hjl]; rfl)
theorem fdiv5_nn {x : Int} (h : 0 ≤ x) : 0 ≤ x / 5 := Int.ediv_nonneg h (by decide)
theorem dec_ne_int {x y : Int} : (!decide (V.int x = V.int y)) = decide (x ≠ y) := by
  by_cases q : x = y
  · simp [q]
  · have : V.int x ≠ V.int y := fun z => q (V.int.inj z)
    simp [q, this]
theorem dec_eq_int {x y : Int} : decide (V.int x = V.int y) = decide (x = y) := by
  by_cases q : x = y
  · simp [q]
  · have : V.int x ≠ V.int y := fun z => q (V.int.inj z)
    simp [q, this]
theorem dec_bl {x y : Bool} : decide (V.bl x = V.bl y) = decide (x = y) := by cases x <;> cases y <;> rfl
theorem inV_int : ∀ (l : List Int) (x : Int), inV (V.int x) (l.map V.int) = decide (x ∈ l)
  | [], x => rfl
  | a :: r, x => by
    show (eqV (V.int a) (V.int x) || inV (V.int x) (r.map V.int)) = _
    rw [inV_int r x]
    show ((a == x) || _) = _
    by_cases q : x = a
    · subst q; simp
    · have h1 : (a == x) = false := beq_eq_false_iff_ne.mpr fun z => q z.symm
      rw [h1, Bool.false_or]
      by_cases h : x ∈ r
      · rw [decide_eq_true h, decide_eq_true (List.mem_cons_of_mem _ h)]
      · rw [decide_eq_false h, decide_eq_false fun z => (List.mem_cons.mp z).elim q h]
theorem flat_ints (l : List Int) : (l.map V.int).all flatV = true := by
  rw [List.all_map]
  exact List.all_eq_true.mpr fun _ _ => rfl
theorem nil_D {l : List Int} : PyData.eqv (iD l) (.list []) = decide (l = []) := eqv_dec eqv_iD l []
end FW

set_option maxHeartbeats 4000000
/-! The law's helpers 4: sorted(below), a deed. -/
namespace FW
open PySem PySem.Spec PyProof.Rows L2
theorem perm_srt {ys l : List Int} (h : ys.Perm l) (s : ys.Pairwise (· ≤ ·)) (t : l.Pairwise (· < ·)) : ys = l := by
  have nd : ys.Nodup := h.nodup_iff.mpr (t.imp fun h => Int.ne_of_lt h)
  have s2 : ys.Pairwise (· < ·) := (List.pairwise_and_iff.mpr ⟨s, nd⟩).imp fun h => Int.lt_iff_le_and_ne.mpr h
  exact FL.srt_ext s2 t fun x => h.mem_iff
abbrev FD (K : PySem.W.Frag) (x : Str) (st : Stmt) (f : Addr) (fd : FuncData) : Prop := FunD K x x (defArgs st) (defBody st) (defScope st) [] [] f fd
theorem fd_ok {P : Program} {w : World} {K : PySem.W.Frag} {mg : Str → Option Value} {base : Heap} {x : Str} {st : Stmt} {ps N : List Str} {k : Nat} {sp : Sp} {f : Addr} {fd : FuncData} (F : FD K x st f fd) (S : FnScope N ps (defScope st))
    (len : ∀ vs H Q E, sp vs H Q E → vs.length = ps.length)
    (hbody : ∀ (f : Addr) (cdv : Value) (A : Around) (outer : List Env) (s : Shared) (H : Hp) (vs : List V) (Q : VK) (E : XK), Room k (A.deeper (envOfC x (defScope st) s.heap.objs.size f cdv)) → sp vs H Q E →
      ∃ t, PSs (cxOf CX0 P w K mg base N x (defScope st) f cdv A outer s H E).nox (defBody st) t ∧ t { nx := fun _ H' => Q .non H', rt := Q } (start N vs) H) : FnOk P w K mg base CX0 (k + 1) f fd ps sp := by
  refine F.ok S len fun cdv A outer s H vs Q E hr h => ?_
  obtain ⟨t, h, q⟩ := hbody f cdv A outer s H vs Q E hr h
  exact ⟨t, h.nox, q⟩
section
variable {X : Cx}
/-- a test, with a word behind it: what follows is shown once for each answer -/
def tWord (t : TT) : TT := fun σ H Q => ∃ M : Bool → Hp → Prop, t σ H M ∧ ∀ b H', M b H' → Q b H'
theorem pt_word {e : Expr} {t : TT} (h : PT X e t) : PT X e (tWord t) := by
  refine ⟨fun pins s σ H Q I q => ?_⟩
  obtain ⟨M, hm, hk⟩ := q
  exact thn (h.run pins s σ H M I hm) fun b s1 ⟨H', I', q⟩ => ⟨H', I', hk b H' q⟩
/-- a value, with a word behind it -/
def eWord (t : TE) : TE := fun σ H Q => ∃ M : V → Hp → Prop, t σ H M ∧ ∀ x H', M x H' → Q x H'
theorem pe_word {e : Expr} {t : TE} (h : PE X e t) : PE X e (eWord t) := by
  refine ⟨fun pins s σ H Q I q => ?_⟩
  obtain ⟨M, hm, hk⟩ := q
  exact thn (h.run pins s σ H M I hm) fun b s1 ⟨v, H', I', r, q⟩ => ⟨v, H', I', r, hk v H' q⟩
end
section
variable {c : CC}
theorem WAt.srt {H : Hp} {a : HA} {st : FL.HS} {b : Addr} {ps : List (Int × Addr)} (W : WAt c H a st b ps) : st.linked.Pairwise (· < ·) := W.good.po.srt
theorem WAt.srtd {H : Hp} {a : HA} {st : FL.HS} {b : Addr} {ps : List (Int × Addr)} (W : WAt c H a st b ps) : Rd H b (.dK (kvI V.ref ps)) ∧ (kvI V.ref ps).map (·.1) = st.linked.map Sum.inl := by
  refine ⟨Or.inl W.lb.at_, ?_⟩
  rw [← W.keys]
  show (ps.map fun p => ((Sum.inl p.1 : Key), V.ref p.2)).map (·.1) = _
  rw [List.map_map, List.map_map]; rfl
theorem LB.keep {H H' : Hp} {b : Addr} {ps : List (Int × Addr)} {d : List (Int × List Int)} (B : LB H b ps d) (k : ∀ x, (x = b ∨ ∃ p ∈ ps, p.2 = x) → ∀ u, H x = some u → H' x = some u) : LB H' b ps d :=
  ⟨k _ (Or.inl rfl) _ B.at_, B.tt.same fun p hp u e => k _ (Or.inr ⟨p, hp, rfl⟩) u e⟩
theorem LB.there {H : Hp} {b : Addr} {ps : List (Int × Addr)} {d : List (Int × List Int)} (B : LB H b ps d) (x : Addr) (h : x = b ∨ ∃ p ∈ ps, p.2 = x) : ∃ u, H x = some u := by
  rcases h with rfl | ⟨p, hp, rfl⟩
  · exact ⟨_, B.at_⟩
  · obtain ⟨l, e⟩ := B.tt.is p hp
    exact ⟨_, e⟩
theorem law_no {st : FL.HS} (G : FL.Good st) : FL.aget st.law (st.told : Int) = none := by
  refine FL.aget_none_iff.mpr fun h => ?_
  rw [FL.law_keys] at h
  have := (G.rng _ h).2
  omega
theorem kvI_at {β : Type} {f : β → V} {d : List (Int × β)} {i : Nat} {k : Key} {v : V} (h : (kvI f d)[i]? = some (k, v)) : ∃ p, d[i]? = some p ∧ k = Sum.inl p.1 ∧ v = f p.2 := by
  unfold kvI at h
  rw [List.getElem?_map] at h
  obtain ⟨p, e, h⟩ := Option.map_eq_some_iff.mp h
  exact ⟨p, e, (Prod.mk.inj h).1.symm, (Prod.mk.inj h).2.symm⟩
theorem upd_back {H : Hp} {b x : Addr} {u v w : HO} (h : H b = some u) (e : H x = some w) : (upd (upd H b v) b u) x = some w := by
  by_cases q : x = b
  · subst q; rw [upd_same, ← h]; exact e
  · rw [upd_ne q, upd_ne q]; exact e
theorem lies_in {st : FL.HS} (G : FL.Good st) {x y : Int} (hy : y ∈ st.linked) : inV (V.int y) ((st.linked.filter fun z => st.lies x z).map V.int) = st.lies x y := by
  rw [inV_int]
  cases h : st.lies x y with
  | true => exact decide_eq_true (List.mem_filter.mpr ⟨hy, h⟩)
  | false => exact decide_eq_false fun z => by rw [(List.mem_filter.mp z).2] at h; cases h
/-- the law's dict told by its keys -/
theorem WAt.get {H : Hp} {a : HA} {st : FL.HS} {b : Addr} {ps : List (Int × Addr)} (W : WAt c H a st b ps) {x : Int} (hx : x ∈ st.linked) : ∃ p, FL.aget ps x = some p ∧ H p = some (lI (st.linked.filter fun y => st.lies x y)) := by
  obtain ⟨p, e, h⟩ := W.lb.tt.get (FL.law_get W.good hx)
  exact ⟨p, e, h⟩
end
end FW

set_option maxHeartbeats 4000000
/-! The law's helpers 5: apart, is_free; comprehensions whose turns lay new things. -/
namespace FW
open PySem PySem.Spec PyProof.Rows L2
theorem itemG {α : Type} {g : α → V} {ns : List α} {i : Nat} {x : V} (h : (ns.map g)[i]? = some x) : ∃ z, x = g z ∧ ns[i]? = some z := by
  rw [List.getElem?_map] at h
  obtain ⟨z, e, h⟩ := Option.map_eq_some_iff.mp h
  exact ⟨z, h.symm, e⟩
theorem Same.trans {H1 H2 H3 : Hp} (a : Same H1 H2) (b : Same H2 H3) : Same H1 H3 := fun x u e => b x u (a x u e)
theorem Same.new {H : Hp} {p : Addr} {o : HO} (h : H p = none) : Same H (upd H p o) := fun x u e => by rw [upd_ne (ne_of_none e h)]; exact e
theorem Same.rfl {H : Hp} : Same H H := fun _ _ e => e
section
variable {K : PySem.W.Frag}
theorem lc_same {α : Type} (g : α → V) {a : Addr} {ns : List α} {tl : TE} {tt : TT} {te : TE} {j : Nat} {vs : List Nat} {σ : L2.St} {H : Hp} {Q : VK} (p : α → Bool) (f : α → V)
    (htl : ∀ Q' : VK, Q' (.ref a) H → tl σ H Q') (hS : SqL K H a (ns.map g)) (hn : ns.length ≤ 1000) (hw : ∀ x, wipe ((wipe σ vs).set j (some x)) vs = wipe σ vs)
    (ht : ∀ z ∈ ns, ∀ H1, Same H H1 → ∀ Q' : Bool → Hp → Prop, (∀ H2, Same H1 H2 → Q' (p z) H2) → tt ((wipe σ vs).set j (some (g z))) H1 Q')
    (he : ∀ z ∈ ns, p z = true → ∀ H1, Same H H1 → ∀ Q' : VK, (∀ H2, Same H1 H2 → Q' (f z) H2) → te ((wipe σ vs).set j (some (g z))) H1 Q')
    (k : ∀ D H', H D = none → Same H H' → H' D = some (.lst ((ns.filter p).map f)) → Q (.ref D) H') : tLc (iList K tl) (gName j) tt te vs σ H Q := by
  refine htl _ ⟨a, rfl, ⟨_, hS⟩, fun D hD => lc_list (K := K) (a := a) (xs := ns.map g) (fun i H2 => Same H H2 ∧ H2 D = some (.lst (((ns.take i).filter p).map f))) ⟨Same.new hD, upd_same⟩ (fun i H2 _ e => e.1.seq hS) (fun i x H2 hi e => ?_) (fun H2 e => ?_)⟩
  · obtain ⟨s1, e1⟩ := e
    obtain ⟨z, rfl, hz⟩ := itemG hi
    refine ⟨hw _, ht z (List.mem_of_getElem? hz) _ s1 _ fun H3 s3 => ?_⟩
    have e3 := s3 _ _ e1
    have et : ns.take (i + 1) = ns.take i ++ [z] := by rw [List.take_add_one, hz]; rfl
    cases hp : p z with
    | true =>
      rw [if_pos rfl]
      refine he z (List.mem_of_getElem? hz) hp _ (s1.trans s3) _ fun H4 s4 => ⟨_, s4 _ _ e3, ?_, fun x u e => ?_, ?_⟩
      · rw [List.length_map]
        refine small1000 (Nat.le_trans (List.length_filter_le _ _) (Nat.le_trans (List.length_take_le _ _) ?_))
        exact Nat.le_of_lt (Nat.lt_of_lt_of_le (List.getElem?_eq_some_iff.mp hz).1 hn)
      · rw [upd_ne (ne_of_none e hD)]; exact s4 _ _ (s3 _ _ (s1 _ _ e))
      · rw [upd_same, et, List.filter_append, List.map_append, List.filter_cons, if_pos hp]; rfl
    | false =>
      rw [if_neg Bool.false_ne_true]
      refine ⟨s1.trans s3, ?_⟩
      rw [et, List.filter_append, List.filter_cons, if_neg (by rw [hp]; exact Bool.false_ne_true), List.filter_nil, List.append_nil]
      exact e3
  · rw [List.length_map, List.take_length] at e
    exact k D H2 hD e.1 e.2
theorem map_true {α : Type} (ns : List α) (b : α → Bool) (h : ∀ x ∈ ns, b x = true) : ((ns.map b).all id) = true := by
  rw [List.all_map]
  exact List.all_eq_true.mpr h
theorem filter_all {α : Type} (ns : List α) : ns.filter (fun _ => true) = ns := List.filter_eq_self.mpr fun _ _ => rfl
end
/-- the law's dict, plain or in a loop -/
def LBR (H : Hp) (b : Addr) (ps : List (Int × Addr)) (d : List (Int × List Int)) : Prop := Rd H b (.dK (kvI V.ref ps)) ∧ LBT H ps d
theorem LB.r {H : Hp} {b : Addr} {ps : List (Int × Addr)} {d : List (Int × List Int)} (h : LB H b ps d) : LBR H b ps d := ⟨Or.inl h.at_, h.tt⟩
theorem LBR.same {H H' : Hp} {b : Addr} {ps : List (Int × Addr)} {d : List (Int × List Int)} (h : LBR H b ps d) (s : Same H H') : LBR H' b ps d := by
  refine ⟨?_, h.2.same fun p _ u e => s _ _ e⟩
  rcases h.1 with e | ⟨o, e⟩
  · exact Or.inl (s _ _ e)
  · exact Or.inr ⟨o, s _ _ e⟩
theorem LBR.get {H : Hp} {b : Addr} {ps : List (Int × Addr)} {d : List (Int × List Int)} (h : LBR H b ps d) {x : Int} {l : List Int} (e : FL.aget d x = some l) : ∃ p, DGet H b (.int x) (some (.ref p)) ∧ H p = some (lI l) := by
  obtain ⟨p, ep, hp⟩ := h.2.get e
  refine ⟨p, ?_, hp⟩
  exact Or.inl ⟨_, Sum.inl x, h.1, rfl, by rw [valV_kvI, ep]; rfl⟩
end FW
namespace FL
def apart (lies : Int → Int → Bool) (x y : Int) : Bool := decide (x ≠ y) && !lies x y && !lies y x
end FL
namespace FW
open PySem PySem.Spec PyProof.Rows L2
section
variable {P : Program} {w : World} {K : PySem.W.Frag} {mg : Str → Option Value} {base : Heap} {c : CC}
def spApart : Sp := fun vs H Q _ => ∃ (b : Addr) (x y : Int) (ps : List (Int × Addr)) (st : FL.HS), vs = [.ref b, .int x, .int y] ∧ LBR H b ps st.law ∧ FL.Good st ∧ x ∈ st.linked ∧ y ∈ st.linked ∧ Q (.bl (FL.apart st.lies x y)) H
theorem ok_apart (D : GD K mg "_law_apart" s_w_apart) : GOk P w K mg base CX0 "_law_apart" ["_law_below", "_law_one", "_law_other"] 1 spApart := by
  refine D.ok (N := ["_law_below", "_law_one", "_law_other"]) ⟨rfl, rfl, rfl, by decide +kernel, rfl, by decide +kernel, by decide +kernel⟩ (fun _ _ _ _ _ _ us hl => match us, hl with | [_, _, _], _ => rfl) (fun vs H Q E h => ?_) (fun f cdv A outer s H vs Q E hr h => ?_)
  · obtain ⟨b, x, y, ps, st, rfl, _⟩ := h; rfl
  · obtain ⟨b, x, y, ps, st, rfl, B, G, hx, hy, k⟩ := h
    have hu := hu_of hr
    refine ⟨_, pss_one (ps_ret (pe_and (pe_cmpR op_ne (pv 1) (pv 2) (nomark _)) (pe_and (pe_cmpR op_notIn_seq (pv 2) (pe_dget hu (pv 0) (pv 1) (fun _ _ => rfl)) (by rfl)) (pe_one (pe_cmpR op_notIn_seq (pv 1) (pe_dget hu (pv 0) (pv 2) (fun _ _ => rfl)) (by rfl)))))), ?_⟩
    obtain ⟨p, gp, hp⟩ := B.get (FL.law_get G hx)
    obtain ⟨q, gq, hq⟩ := B.get (FL.law_get G hy)
    refine ⟨_, rfl, _, rfl, rfl, _, rfl, ?_⟩
    rw [dec_ne_int]
    unfold FL.apart at k
    refine ite2 (fun z => ?_) (fun z => ?_)
    · rw [z, Bool.true_and] at k
      refine ⟨_, rfl, _, rfl, _, rfl, b, .ref p, rfl, gp, p, _, rfl, Or.inl (SqL.of hp), rfl, flat_ints _, _, rfl, ?_⟩
      have e1 : inV (V.int y) ((st.linked.filter fun z => st.lies x z).map V.int) = st.lies x y := lies_in G hy
      have e2 : inV (V.int x) ((st.linked.filter fun z => st.lies y z).map V.int) = st.lies y x := lies_in G hx
      refine ite2 (fun z => ?_) (fun z => ?_)
      · have z : (!inV (V.int y) ((st.linked.filter fun z => st.lies x z).map V.int)) = true := z
        rw [e1] at z
        rw [z, Bool.true_and] at k
        refine ⟨_, rfl, _, rfl, _, rfl, b, .ref q, rfl, gq, q, _, rfl, Or.inl (SqL.of hq), rfl, flat_ints _, ?_⟩
        show Q (.bl (!inV (V.int x) ((st.linked.filter fun z => st.lies y z).map V.int))) H
        rw [e2]; exact k
      · have z : ¬ (!inV (V.int y) ((st.linked.filter fun z => st.lies x z).map V.int)) = true := z
        rw [e1] at z
        rw [Bool.eq_false_iff.mpr z, Bool.false_and] at k
        exact k
    · rw [Bool.eq_false_iff.mpr z, Bool.false_and, Bool.false_and] at k
      exact k
/-- things that are apart two by two, rising -/
def spIsFree : Sp := fun vs H Q _ => ∃ (b q : Addr) (l : List Int) (ps : List (Int × Addr)) (st : FL.HS), vs = [.ref b, .ref q] ∧ LB H b ps st.law ∧ FL.Good st ∧ H q = some (lI l) ∧ l.Pairwise (· < ·) ∧ (∀ x ∈ l, x ∈ st.linked) ∧ FL.Anti st.lies l ∧ l.length ≤ 1000 ∧
  ∀ H', Same H H' → Q (.bl true) H'
theorem ok_is_free (T : Tx K mg c) (zA : mg "all" = none) (D : GD K mg "_law_is_free" s_w_is_free) (G1 : GOk P w K mg base CX0 "_law_apart" ["_law_below", "_law_one", "_law_other"] 1 spApart) : GOk P w K mg base CX0 "_law_is_free" ["_law_below", "_law_some_here"] 2 spIsFree := by
  obtain ⟨f1, fd1, g1, k1, b1, F1⟩ := G1
  have sc : FnScope ["_law_below", "_law_some_here", "_law_one", "_law_other"] ["_law_below", "_law_some_here"] (defScope s_w_is_free) := ⟨rfl, rfl, rfl, by decide +kernel, rfl, by decide +kernel, by decide +kernel⟩
  refine D.ok sc (fun _ _ _ _ _ _ us hl => match us, hl with | [_, _], _ => rfl) (fun vs H Q E h => ?_) (fun f cdv A outer s H vs Q E hr h => ?_)
  · obtain ⟨b, q, l, ps, st, rfl, _⟩ := h; rfl
  · obtain ⟨b, q, l, ps, st, rfl, B, G, hq, hs, hm, ha, hn, k⟩ := h
    have hu := hu_of hr
    refine ⟨_, pss_cons (ps_if (PW.pt (pw_or (pt_not (pt_val (pe_callB call_isi (by rfl) T.zIsi PyProof.Rows.boot_isinstance (pa_cons (pv 1) (pa_cons (pe_bltn (by rfl) T.zList (by decide +kernel) (v := .ty "list") rfl) pa_nil)))))
        (pw_or (pt_cmpR (op_neD hr.units) (pv 1) (pe_callB cr_sortedI (by rfl) T.zSorted PyProof.Rows.boot_sorted (pa_cons (pv 1) pa_nil)) (nomark _))
        (pw_or1 (pt_cmpR op_lt (RZ.pe_lenSetI (by rfl) T.zLen (by rfl) T.zSet (pv 1)) (pe_callB call_len_seq (by rfl) T.zLen PySem.boot_len (pa_cons (pv 1) pa_nil)) (nomark _)))))) (pss_one (ps_ret pe_bl)) pss_nil)
      (pss_cons (ps_for PassesOwn.never rfl (pi_list (pv 1)) (pg_name (i := 2) sc.nd rfl (Or.inr rfl))
        (pss_one (ps_if (pt_not (pt_val (pe_callB (cr_all rfl) (by rfl) zA (by decide +kernel) (pa_cons (pe_lc (own := [("_law_other", 3)]) (g := gName 3) rfl sc.nd (pi_list (pv 1)) (blkOk_by (own := [("_law_other", 3)]) (N := ["_law_below", "_law_some_here", "_law_one", "_law_other"]) (sc := defScope s_w_is_free) (by decide +kernel))
          (fun _ _ _ _ _ => pg_name (i := 3) sc.nd rfl (Or.inl rfl)) (fun _ _ _ _ _ => pts_nil)
          (fun _ _ _ _ _ => pe_or (pe_cmpR op_eq (pv 2) (pv 3) (nomark _)) (pe_one (pe_call F1 hr (by rfl) g1 k1 b1 .nil pass0 (pa_cons (pv 0) (pa_cons (pv 2) (pa_cons (pv 3) pa_nil))))))) pa_nil)))) (pss_one (ps_ret pe_bl)) pss_nil)))
      (pss_one (ps_ret pe_bl))), ?_⟩
    refine ⟨_, rfl, _, _, .type "list", .type "list", true, rfl, .ty "list", .base (.lst hq), kit_ty (by decide +kernel), true, rfl, ?_⟩
    refine ite2 (fun z => absurd z (by decide)) (fun _ => ?_)
    refine ⟨_, rfl, _, rfl, q, l, rfl, SqL.of hq, fun ys p y1 y2 hp => ?_⟩
    rw [perm_srt y1 y2 hs]
    have s1 : Same H (upd H p (lI l)) := Same.new hp
    have ee : PyData.eqv (iD l) (iD l) = true := (eqv_iD _ _).mpr rfl
    refine ⟨iD l, iD l, dp_iD (SqL.of (s1 _ _ hq)), dp_iD (SqL.of upd_same), iD_sh _, iD_sh _, _, rfl, ?_⟩
    rw [ee]
    refine ite2 (fun z => absurd z (by decide)) (fun _ => ?_)
    refine ⟨_, rfl, q, l, rfl, SqL.of (s1 _ _ hq), hs.imp fun h => Int.ne_of_lt h, by omega, _, rfl, q, _, rfl, Or.inl (SqL.of (s1 _ _ hq)), _, _, rfl, rfl, _, rfl, ?_⟩
    rw [List.length_map]
    refine ite2 (fun z => absurd (of_decide_eq_true z) (Int.lt_irrefl _)) (fun _ => ?_)
    refine ⟨_, rfl, q, rfl, ⟨_, SqL.of (s1 _ _ hq)⟩, for_list (K := K) (a := q) (xs := l.map V.int)
      (fun i σ H2 => Same H H2 ∧ ∃ v, σ = [some (.ref b), some (.ref q), v, none]) ⟨s1, none, rfl⟩ (fun i σ H2 _ e => SqL.of (e.1 _ _ hq)) ?_ ?_⟩
    · rintro i y σ H2 hi ⟨s2, v, rfl⟩
      obtain ⟨x, rfl, hx⟩ := itemI hi
      have hxl := List.mem_of_getElem? hx
      dsimp only [gName, tIfS, tNot, tB, tCB, tCons]
      refine lc_same (K := K) V.int (a := q) (ns := l) (fun _ => true) (fun _ => .bl true) (fun Q' q => ⟨_, rfl, q⟩) (SqL.of (s2 _ _ hq)) hn (fun x => by rfl) (fun z hz H3 s3 Q' q => q H3 Same.rfl) (fun z hz hp H3 s3 Q' q => ?_) (fun t H3 ht s3 h3 => ?_)
      · refine ⟨_, rfl, _, rfl, rfl, _, rfl, ?_⟩
        rw [dec_eq_int]
        refine ite2 (fun e => q H3 Same.rfl) (fun e => ?_)
        have e : x ≠ z := fun y => e (decide_eq_true y)
        refine ⟨_, rfl, _, rfl, _, rfl, b, x, z, ps, st, rfl, (B.r.same s2).same s3, G, hm x hxl, hm z hz, ?_⟩
        have : FL.apart st.lies x z = true := by
          unfold FL.apart
          rw [ha x hxl z hz, ha z hz x hxl, decide_eq_true e]; rfl
        rw [this]; exact q H3 Same.rfl
      · refine ⟨t, l.map fun _ => true, rfl, SqL.of (by rw [h3, filter_all, List.map_map]; rfl), _, rfl, ?_⟩
        rw [map_true _ _ fun _ _ => rfl]
        refine ite2 (fun z => absurd z (by decide)) (fun _ => ?_)
        exact ⟨s2.trans s3, _, rfl⟩
    · rintro σ H2 ⟨s2, v, rfl⟩
      exact k H2 s2
end
end FW

set_option maxHeartbeats 4000000
/-! The law's helpers 6: a deed. -/
namespace FW
open PySem PySem.Spec PyProof.Rows L2
section
variable {P : Program} {w : World} {K : PySem.W.Frag} {mg : Str → Option Value} {base : Heap} {c : CC}
theorem RowT.via {H H' : Hp} (k : ∀ x xs, H x = some (.tup xs) → H' x = some (.tup xs)) : ∀ {ts : List Addr} {r : FL.Row}, RowT H ts r → RowT H' ts r
  | [], [], _ => trivial
  | [], _ :: _, h => h.elim
  | _ :: _, [], h => h.elim
  | _ :: _, _ :: _, h => ⟨k _ _ h.1, RowT.via k h.2⟩
theorem RowAt.via {H H' : Hp} {p : Addr} {r : FL.Row} (h : RowAt H p r) (hp : ∀ u, H p = some u → H' p = some u) (k : ∀ x xs, H x = some (.tup xs) → H' x = some (.tup xs)) : RowAt H' p r := by
  obtain ⟨ts, e, t⟩ := h
  exact ⟨ts, hp _ e, t.via k⟩
theorem back_none {H H' : Hp} (s : Same H H') {x : Addr} (h : H' x = none) : H x = none := by
  cases e : H x with
  | none => rfl
  | some u => rw [s _ _ e] at h; cases h
/-- the ends of a deed: the hall's next state, what was told -/
structure Deed (c : CC) (H : Hp) (a : HA) (st : FL.HS) (b : Addr) (H' : Hp) (a' : HA) (st' : FL.HS) (ps' : List (Int × Addr)) (t1 : Addr) : Prop where
  wat : WAt c H' a' st' b ps'
  hh : a'.h = a.h
  keep : ∀ x u, x ∉ a.fp → x ≠ b → H x = some u → H' x = some u
  own : ∀ x ∈ a'.fp, x ∈ a.fp ∨ H x = none
  told : st'.told ≤ st.told + 1
  len : st'.linked.length ≤ 13
  from_ : ∀ p ∈ ps', (∃ k kvs, H b = some (.dK kvs) ∧ (k, V.ref p.2) ∈ kvs) ∨ ∀ y u, y ∉ a.fp → y ≠ b → H y = some u → y ≠ p.2
  said : (∃ (l : List Int) (tu r : Addr), st' = (st.put l).2 ∧ (∀ y ∈ l, y ∈ st.linked) ∧ l.Nodup ∧ st.linked.length ≤ 12 ∧ H' t1 = some (.tup [.str "put", .int (st.told : Int), .ref tu]) ∧ H' tu = some (.tup [.int (st.told : Int), .ref r]) ∧
      RowAt H' r (st.put l).1 ∧ H r = none ∧ r ∉ a'.fp ∧ ∀ p ∈ ps', p.2 ≠ r) ∨
    ∃ (z : Int) (r : Addr), z ∈ st.linked ∧ st' = (st.take z).2 ∧ H' t1 = some (.tup [.str "take", .int z, .ref r]) ∧ RowAt H' r (st.take z).1 ∧ H r = none ∧ r ∉ a'.fp ∧ ∀ p ∈ ps', p.2 ≠ r
def spDeed (c : CC) : Sp := fun vs H Q _ => ∃ (a : HA) (st : FL.HS) (b : Addr) (ps : List (Int × Addr)) (x : Int), vs = [.ref a.h, .ref b, .int (st.told : Int), .int x] ∧ WAt c H a st b ps ∧ st.told ≤ 100 ∧ st.linked.length ≤ 13 ∧
  ∀ H' a' st' ps' t t1, Deed c H a st b H' a' st' ps' t1 → H' t = some (.tup [.ref t1, .int (st'.told : Int)]) → Q (.ref t) H'
def SlD (h b : Addr) (st : FL.HS) (x : Int) : L2.St := [some (.ref h), some (.ref b), some (.int (st.told : Int)), some (.int x)]
end
end FW

set_option maxHeartbeats 4000000
/-! The law's helpers 7: are_ladders. -/
namespace FW
open PySem PySem.Spec PyProof.Rows L2
theorem perm_eq {ys zs : List Int} (h : ys.Perm zs) (s : ys.Pairwise (· ≤ ·)) (t : zs.Pairwise (· ≤ ·)) (n : zs.Nodup) : ys = zs :=
  perm_srt h s ((List.pairwise_and_iff.mpr ⟨t, n⟩).imp fun h => Int.lt_iff_le_and_ne.mpr h)
theorem cut_from (ns : List Int) (k : Nat) : cutV (ns.map V.int) (some (k : Int)) none = (ns.drop k).map V.int := by
  unfold cutV
  rw [HT.sIx_none, HT.sIx_nat, List.length_map, List.take_of_length_le (by rw [List.length_drop, List.length_map]; omega), ← List.map_drop]
  by_cases h : k ≤ ns.length
  · rw [Nat.min_eq_left h]
  · rw [Nat.min_eq_right (by omega), List.drop_of_length_le (Nat.le_refl _), List.drop_of_length_le (by omega)]
section
variable {X : Cx}
theorem opneK (K : PySem.W.Frag) (hu : X.A.units + 64 < cLine) (h : X.K = K := by rfl) : OpR X (compareOp .NotEq) (rNeD K) := by subst h; exact op_neD hu
theorem ixK (K : PySem.W.Frag) (h : X.K = K := by rfl) : IxR X (rIxL K) := by subst h; exact ix_list
theorem isiK (K : PySem.W.Frag) (h : X.K = K := by rfl) : CallR X (.builtin "isinstance") (rIsi K) := by subst h; exact call_isi
end
theorem LLT.zip {H : Hp} : ∀ {ts : List Addr} {r : List (List Int)}, LLT H ts r → (∀ z ∈ ts.zip r, H z.1 = some (lI z.2)) ∧ (ts.zip r).map (fun z => V.ref z.1) = ts.map V.ref ∧ (ts.zip r).map (·.2) = r
  | [], [], _ => ⟨fun z hz => (nomatch hz), rfl, rfl⟩
  | t :: ts, l :: r, h => by
    obtain ⟨h1, h2, h3⟩ := LLT.zip h.2
    refine ⟨fun z hz => ?_, ?_, ?_⟩
    · rcases List.mem_cons.mp hz with rfl | hz
      · exact h.1
      · exact h1 z hz
    · show V.ref t :: (ts.zip r).map (fun z => V.ref z.1) = V.ref t :: ts.map V.ref
      rw [h2]
    · show l :: (ts.zip r).map (·.2) = l :: r
      rw [h3]
  | [], _ :: _, h => h.elim
  | _ :: _, [], h => h.elim
/-- ladders over the things ts, by the order of st -/
structure LadR (st : FL.HS) (ts : List Int) (ll : List (List Int)) : Prop where
  perm : ll.flatten.Perm ts
  ne : ∀ l ∈ ll, l ≠ []
  ch : ∀ l ∈ ll, l.Pairwise fun a b => st.lies b a = true
  mem : ∀ x ∈ ts, x ∈ st.linked
  hd : (ll.map fun l => l.headD 0).Pairwise (· < ·)
theorem head_at {l : List Int} (h : l ≠ []) : (l.map V.int)[0]? = some (V.int (l.headD 0)) := by
  cases l with
  | nil => exact absurd rfl h
  | cons a r => rfl
theorem head_at' {l : List Int} (h : l ≠ []) : atI (l.map V.int) 0 = some (V.int (l.headD 0)) := atI_nat (j := 0) (head_at h)
section
variable {P : Program} {w : World} {K : PySem.W.Frag} {mg : Str → Option Value} {base : Heap} {c : CC}
def spAreLad (K : PySem.W.Frag) : Sp := fun vs H Q _ => ∃ (b t p : Addr) (ts : List Int) (as : List Addr) (ll : List (List Int)) (ps : List (Int × Addr)) (st : FL.HS), vs = [.ref b, .ref t, .ref p] ∧ LB H b ps st.law ∧ FL.Good st ∧ SqL K H t (ts.map V.int) ∧ ts.Nodup ∧
  H p = some (.lst (as.map V.ref)) ∧ LLT H as ll ∧ LadR st ts ll ∧ ts.length ≤ 100 ∧ ∀ H', Same H H' → Q (.bl true) H'
theorem flat_len {ll : List (List Int)} (h : ∀ l ∈ ll, l ≠ []) : ll.length ≤ ll.flatten.length := by
  induction ll with
  | nil => exact Nat.le_refl _
  | cons a r ih =>
    rw [List.length_cons, List.flatten_cons, List.length_append]
    have := ih fun l hl => h l (List.mem_cons_of_mem _ hl)
    have : 0 < a.length := List.length_pos_iff.mpr (h a List.mem_cons_self)
    omega
theorem flat_one {ll : List (List Int)} {l : List Int} (h : l ∈ ll) : l.length ≤ ll.flatten.length := by
  induction ll with
  | nil => cases h
  | cons a r ih =>
    rw [List.flatten_cons, List.length_append]
    rcases List.mem_cons.mp h with rfl | h
    · omega
    · have := ih h; omega
theorem flat_take {ll : List (List Int)} (i : Nat) : (ll.take i).flatten.length ≤ ll.flatten.length := by
  conv => rhs; rw [← List.take_append_drop i ll, List.flatten_append, List.length_append]
  omega
end
end FW

set_option maxHeartbeats 4000000
/-! The law's helpers 8: what the hall tells is right by the law's words. -/
namespace FW
open PySem PySem.Spec PyProof.Rows L2
theorem vref {a b : Addr} (h : a = b) : V.ref b = V.ref a := by rw [h]
theorem vs1 {a b : Addr} (h : a = b) (l : List V) : V.ref b :: l = V.ref a :: l := by rw [h]
theorem lad_of {st : FL.HS} (G : FL.Good st) : LadR st st.linked (FL.ladders st.linked st.ab st.be) where
  perm := FL.ladders_perm G.po G.mt
  ne := fun l hl => by
    obtain ⟨x, _, rfl⟩ := List.mem_map.mp hl
    exact FL.up_ne _ _
  ch := fun l hl => by
    obtain ⟨x, hx, rfl⟩ := List.mem_map.mp hl
    exact FL.up_chain G.po G.mt _ _ (FL.mem_bots.mp hx).1
  mem := fun x h => h
  hd := by
    have e : (FL.ladders st.linked st.ab st.be).map (fun l => l.headD 0) = FL.bots st.linked st.be := by
      unfold FL.ladders
      rw [List.map_map]
      conv => rhs; rw [← List.map_id (FL.bots st.linked st.be)]
      refine List.map_congr_left fun x _ => ?_
      obtain ⟨t, ht⟩ := FL.up_head (ab := st.ab) st.linked.length x
      show (FL.up st.ab st.linked.length x).headD 0 = x
      rw [ht]; rfl
    rw [e]
    exact G.po.srt.sublist List.filter_sublist
theorem free_of {st : FL.HS} (G : FL.Good st) : let l := FL.free st.lies st.linked st.ab st.be
    l.Pairwise (· < ·) ∧ (∀ x ∈ l, x ∈ st.linked) ∧ FL.Anti st.lies l ∧ l.length = (FL.ladders st.linked st.ab st.be).length ∧ l.length ≤ st.linked.length := by
  have h := FL.free_end G.po G.mt G.na
  have hs := FL.free_sub (lies := st.lies) (L := st.linked) (ab := st.ab) (be := st.be)
  exact ⟨G.po.srt.sublist hs, fun x hx => hs.subset hx, h.1, by rw [h.2, FL.ladders_len], hs.length_le⟩
theorem kvI_keysL {H : Hp} {c : CC} {a : HA} {st : FL.HS} {b : Addr} {ps : List (Int × Addr)} (W : WAt c H a st b ps) : ((kvI V.ref ps).map fun kv => kV kv.1) = st.linked.map V.int := by
  rw [← W.keys, List.map_map]
  show (ps.map fun p => ((Sum.inl p.1 : Key), V.ref p.2)).map _ = _
  rw [List.map_map]; rfl
theorem back_no {H H' : Hp} (s : Same H H') {x : Addr} (h : H' x = none) : H x = none := by
  cases e : H x with
  | none => rfl
  | some u => rw [s _ _ e] at h; cases h
section
variable {K : PySem.W.Frag}
/-- a comprehension over a list that may be laid for it; its turns may lay new things -/
theorem lc_new {α : Type} (g : α → V) {ns : List α} {tl : TE} {tt : TT} {te : TE} {j : Nat} {vs : List Nat} {σ : L2.St} {H : Hp} {Q : VK} (p : α → Bool) (f : α → V)
    (htl : ∀ Q' : VK, (∀ a H1, Same H H1 → SqL K H1 a (ns.map g) → Q' (.ref a) H1) → tl σ H Q') (hn : ns.length ≤ 1000) (hw : ∀ x, wipe ((wipe σ vs).set j (some x)) vs = wipe σ vs)
    (ht : ∀ z ∈ ns, ∀ H1, Same H H1 → ∀ Q' : Bool → Hp → Prop, (∀ H2, Same H1 H2 → Q' (p z) H2) → tt ((wipe σ vs).set j (some (g z))) H1 Q')
    (he : ∀ z ∈ ns, p z = true → ∀ H1, Same H H1 → ∀ Q' : VK, (∀ H2, Same H1 H2 → Q' (f z) H2) → te ((wipe σ vs).set j (some (g z))) H1 Q')
    (k : ∀ D H', H D = none → Same H H' → H' D = some (.lst ((ns.filter p).map f)) → Q (.ref D) H') : tLc (iList K tl) (gName j) tt te vs σ H Q := by
  refine htl _ fun a H0 s0 hS => ⟨a, rfl, ⟨_, hS⟩, fun D hD => lc_list (K := K) (a := a) (xs := ns.map g) (fun i H2 => Same H0 H2 ∧ H2 D = some (.lst (((ns.take i).filter p).map f))) ⟨Same.new hD, upd_same⟩ (fun i H2 _ e => e.1.seq hS) (fun i x H2 hi e => ?_) (fun H2 e => ?_)⟩
  · obtain ⟨s1, e1⟩ := e
    obtain ⟨z, rfl, hz⟩ := itemG hi
    refine ⟨hw _, ht z (List.mem_of_getElem? hz) _ (s0.trans s1) _ fun H3 s3 => ?_⟩
    have e3 := s3 _ _ e1
    have et : ns.take (i + 1) = ns.take i ++ [z] := by rw [List.take_add_one, hz]; rfl
    cases hp : p z with
    | true =>
      rw [if_pos rfl]
      refine he z (List.mem_of_getElem? hz) hp _ (s0.trans (s1.trans s3)) _ fun H4 s4 => ⟨_, s4 _ _ e3, ?_, fun x u e => ?_, ?_⟩
      · rw [List.length_map]
        refine small1000 (Nat.le_trans (List.length_filter_le _ _) (Nat.le_trans (List.length_take_le _ _) ?_))
        exact Nat.le_of_lt (Nat.lt_of_lt_of_le (List.getElem?_eq_some_iff.mp hz).1 hn)
      · rw [upd_ne (ne_of_none e hD)]; exact s4 _ _ (s3 _ _ (s1 _ _ e))
      · rw [upd_same, et, List.filter_append, List.map_append, List.filter_cons, if_pos hp]; rfl
    | false =>
      rw [if_neg Bool.false_ne_true]
      refine ⟨s1.trans s3, ?_⟩
      rw [et, List.filter_append, List.filter_cons, if_neg (by rw [hp]; exact Bool.false_ne_true), List.filter_nil, List.append_nil]
      exact e3
  · rw [List.length_map, List.take_length] at e
    exact k D H2 (back_no s0 hD) (s0.trans e.1) e.2
end
end FW

set_option maxHeartbeats 4000000
/-! The walk 13: floor_of, floors_of, longest_of, Hall.floors, Hall.longest. -/
namespace FW
open PySem PySem.Spec PyProof.Rows L2
section
variable {P : Program} {w : World} {K : PySem.W.Frag} {mg : Str → Option Value} {base : Heap} {c : CC}
/-- an Order and its things, as floors want them -/
structure OPre (c : CC) (H : Hp) (o B : Addr) (bel : List (Int × Nat)) (told : Nat) : Prop where
  O : OrdAt c H o B bel told
  P : FL.Po (FL.liesB bel) (bel.map (·.1))
  nn : ∀ z ∈ bel.map (·.1), 0 ≤ z
  len : bel.length ≤ 24
theorem OPre.same {H H' : Hp} {o B : Addr} {bel : List (Int × Nat)} {told : Nat} (h : OPre c H o B bel told) (s : Same H H') : OPre c H' o B bel told :=
  ⟨h.O.same fun b u _ e => s b u e, h.P, h.nn, h.len⟩
theorem isS {bel : List (Int × Nat)} {x : Int} (h : x ∈ bel.map (·.1)) : (FL.aget bel x).isSome = true := by
  cases e : FL.aget bel x with
  | none => exact absurd h (FL.aget_none_iff.mp e)
  | some m => rfl
def knF (bel : List (Int × Nat)) (pre : List Int) : List (Int × Nat) := pre.map fun y => (y, FL.fl (FL.liesB bel) (bel.map (·.1)) y)
def kNat (n : Nat) : V := .int (n : Int)
theorem knF_get {bel : List (Int × Nat)} {pre : List Int} {x : Int} : FL.aget (knF bel pre) x = if x ∈ pre then some (FL.fl (FL.liesB bel) (bel.map (·.1)) x) else none := by
  induction pre with
  | nil => rfl
  | cons a r ih =>
    show FL.aget ((a, FL.fl (FL.liesB bel) (bel.map (·.1)) a) :: knF bel r) x = _
    rw [FL.aget_cons, ih]
    by_cases q : a = x
    · subst q; rw [if_pos rfl, if_pos List.mem_cons_self]
    · rw [if_neg q]
      by_cases z : x ∈ r
      · rw [if_pos z, if_pos (List.mem_cons_of_mem _ z)]
      · rw [if_neg z, if_neg fun h => (List.mem_cons.mp h).elim (fun e => q e.symm) z]
/-- the floor of a thing; n = 0: it is known -/
def spFloor (c : CC) (n : Nat) : Sp := fun vs H Q _ => ∃ (o B kn : Addr) (bel : List (Int × Nat)) (told : Nat) (x : Int) (pre : List Int), vs = [.ref o, .int x, .ref kn] ∧ OPre c H o B bel told ∧ H kn = some (.dK (kvI kNat (knF bel pre))) ∧ x ∈ bel.map (·.1) ∧
  (∀ y ∈ bel.map (·.1), FL.liesB bel x y = true → y ∈ pre) ∧ pre.length ≤ 24 ∧ (x ∈ pre ∨ n = 1) ∧ (x ∈ pre → Q (.int (FL.fl (FL.liesB bel) (bel.map (·.1)) x : Nat)) H) ∧
  (x ∉ pre → ∀ H', (∀ z u, z ≠ kn → H z = some u → H' z = some u) → H' kn = some (.dK (kvI kNat (knF bel (pre ++ [x])))) → Q (.int (FL.fl (FL.liesB bel) (bel.map (·.1)) x : Nat)) H')
def spFloorP (c : CC) : Nat → Sp
  | 0 => fun _ _ _ _ => False
  | _ + 1 => spFloor c 0
theorem ok_floor0 (D : GD K mg "floor_of" s_floor_of) : GOk P w K mg base CX0 "floor_of" ["order", "one", "known"] 1 (spFloorP c 0) :=
  D.ok (N := ["order", "one", "known", "lower", "other"]) ⟨rfl, rfl, rfl, by decide +kernel, rfl, by decide +kernel, by decide +kernel⟩ (fun _ _ _ _ _ _ us hl => match us, hl with | [_, _, _], _ => rfl) (fun vs H Q E h => h.elim) (fun f cdv A outer s H vs Q E hr h => h.elim)
theorem ok_floor (T : Tx K mg c) (D : GD K mg "floor_of" s_floor_of) (MT : MOk P w K mg base CX0 c.O "things" ["self"] 1 (spO_things c)) (ML : MOk P w K mg base CX0 c.O "lies_above" ["self", "one", "other"] 2 (spO_lies c)) (n k : Nat) (hk : 2 ≤ k)
    (G0 : GOk P w K mg base CX0 "floor_of" ["order", "one", "known"] k (spFloorP c n)) : GOk P w K mg base CX0 "floor_of" ["order", "one", "known"] (k + 1) (spFloor c n) := by
  obtain ⟨f1, fd1, mTh, bTh, FTh⟩ := MT
  obtain ⟨f2, fd2, mLi, bLi, FLi⟩ := ML
  obtain ⟨f3, fd3, g3, k3, b3, F3⟩ := G0
  have sc : FnScope ["order", "one", "known", "lower", "other"] ["order", "one", "known"] (defScope s_floor_of) := ⟨rfl, rfl, rfl, by decide +kernel, rfl, by decide +kernel, by decide +kernel⟩
  refine D.ok sc (fun _ _ _ _ _ _ us hl => match us, hl with | [_, _, _], _ => rfl) (fun vs H Q E h => ?_) (fun f cdv A outer s H vs Q E hr h => ?_)
  · obtain ⟨o, B, kn, bel, told, x, pre, rfl, _⟩ := h; rfl
  · obtain ⟨o, B, kn, bel, told, x, pre, rfl, p, hkn, hx, hlow, hpl, hc, q1, q2⟩ := h
    have hr1 : Room 1 _ := hr.mono (by omega)
    have hr2 : Room 2 _ := hr.mono hk
    have hu := hu_of hr
    refine' ⟨_, (pss_cons (ps_if (pt_cmp (pc_dnotin hu (pv 1) (pv 2))) (pss_cons (ps_setLc (i := 3) (own := [("other", 4)]) rfl sc.nd rfl rfl (sw_true rfl rfl rfl (by decide +kernel)) (pi_list (pe_meth0 (pv 0) T.clO mTh FTh hr1 bTh .nil pass0)) (blkOk_by (own := [("other", 4)]) (N := ["order", "one", "known", "lower", "other"]) (sc := defScope s_floor_of) (by decide +kernel)) (fun _ _ _ _ _ => pg_name (i := 4) sc.nd rfl (Or.inl rfl)) (fun _ _ _ _ _ => pts_one (pt_val (pe_meth (pv 0) T.clO mLi FLi hr2 bLi .nil pass0 (pa_cons (pv 1) (pa_cons (pv 4) pa_nil))))) (fun _ _ _ _ _ => pe_call F3 hr (by rfl) g3 k3 b3 .nil pass0 (pa_cons (pv 0) (pa_cons (pv 4) (pa_cons (pv 2) pa_nil))))) (pss_one (ps_dput hu (pv 2) (pv 1) (pe_op op_add pe_int (pe_callB (cr_max rfl) (by rfl) T.zMax (by decide +kernel) (pa_cons (pe_op op_cat (pv 3) (pe_lst (pa_cons (pe_un un_neg pe_int) pa_nil))) pa_nil))) rfl))) pss_nil) (pss_one (ps_ret (pe_dget hu (pv 2) (pv 1) (fun _ _ => rfl))))), ?_⟩
    refine ⟨_, rfl, _, rfl, kn, _, rfl, DGet.k (k := Sum.inl x) hkn, _, rfl, ?_⟩
    rw [valV_kvI, Option.isSome_map, knF_get]
    have hxnn : ∀ z ∈ bel.map (·.1), 0 ≤ z := p.nn
    obtain ⟨⟨dO, ho⟩, hB⟩ := id p.O
    by_cases hp : x ∈ pre
    · rw [if_pos hp]
      refine iteF ?_
      have g := DGet.k (k := Sum.inl x) hkn
      rw [valV_kvI, knF_get, if_pos hp] at g
      exact ⟨_, rfl, _, rfl, kn, _, rfl, g, q1 hp⟩
    · rw [if_neg hp]
      obtain rfl : n = 1 := hc.resolve_left hp
      refine iteT ?_
      dsimp only [tAsg, tSeq]
      refine lc_new (K := K) V.int (ns := bel.map (·.1)) (FL.liesB bel x) (fun y => .int (FL.fl (FL.liesB bel) (bel.map (·.1)) y : Nat)) (fun Q' q => ?_) (by rw [List.length_map]; have := p.len; omega) (fun x => by rfl) (fun z hz H3 s3 Q' q => ?_) (fun z hz hl H3 s3 Q' q => ?_) (fun D H' hD s1 h1 => ?_)
      · exact ⟨_, rfl, o, dO, _, rfl, ho, fO_no ⟨by decide +kernel, by decide +kernel⟩, o, B, bel, told, rfl, p.O, p.P.srt, by have := p.len; omega, fun t ht => q t _ (Same.new ht) (SqL.of upd_same)⟩
      · exact ⟨_, rfl, o, dO, _, rfl, s3 _ _ ho, fO_no ⟨by decide +kernel, by decide +kernel⟩, _, rfl, _, rfl, o, B, bel, told, x, z, rfl, (p.same s3).O, isS hx, hxnn z hz, _, rfl, q H3 Same.rfl⟩
      · exact ⟨_, rfl, _, rfl, _, rfl, o, B, kn, bel, told, z, pre, rfl, p.same s3, s3 _ _ hkn, hz, fun y hy e => hlow y hy (p.P.tr x z y hx hz hy hl e), hpl, Or.inl (hlow z hz hl), fun _ => q H3 Same.rfl, fun h => absurd (hlow z hz hl) h⟩
      · refine ⟨_, rfl, _, rfl, (by show 1 ≤ sizeLine; decide), fun r hr0 => ?_⟩
        have s2 := Same.new (o := .lst [V.int (-1)]) hr0
        have h2 : (upd H' r (.lst [V.int (-1)])) r = some (.lst [V.int (-1)]) := upd_same
        generalize upd H' r (.lst [V.int (-1)]) = H2 at s2 h2
        refine ⟨D, r, _, _, rfl, rfl, s2 _ _ h1, h2, ?_, fun t ht => ?_⟩
        · rw [List.length_map]
          have h3 : ((bel.map (·.1)).filter (FL.liesB bel x)).length ≤ 24 := Nat.le_trans (List.length_filter_le _ _) (by rw [List.length_map]; exact p.len)
          exact Nat.le_trans (m := 1000) (by show _ + 1 ≤ 1000; omega) (by decide)
        have s3 := Same.new (o := .lst ((((bel.map (·.1)).filter (FL.liesB bel x)).map fun y => V.int (FL.fl (FL.liesB bel) (bel.map (·.1)) y : Nat)) ++ [V.int (-1)])) ht
        have h3 : (upd H2 t (.lst ((((bel.map (·.1)).filter (FL.liesB bel x)).map fun y => V.int (FL.fl (FL.liesB bel) (bel.map (·.1)) y : Nat)) ++ [V.int (-1)]))) t = some (lI ((((bel.map (·.1)).filter (FL.liesB bel x)).map fun y => (FL.fl (FL.liesB bel) (bel.map (·.1)) y : Int)) ++ [-1])) := by
          rw [upd_same]
          show _ = some (HO.lst (List.map V.int _))
          rw [List.map_append, List.map_map]; rfl
        generalize upd H2 t (.lst ((((bel.map (·.1)).filter (FL.liesB bel x)).map fun y => V.int (FL.fl (FL.liesB bel) (bel.map (·.1)) y : Nat)) ++ [V.int (-1)])) = H3 at s3 h3
        refine ⟨t, _, rfl, SqL.of h3, by rw [List.length_append, List.length_singleton]; omega, fun m hm hmax => ⟨_, _, rfl, rfl, ?_⟩⟩
        have em := FL.max_fl p.P hx hm hmax
        have s03 : Same H H3 := s1.trans (s2.trans s3)
        have hkn3 := s03 _ _ hkn
        refine ⟨_, rfl, _, rfl, kn, _, rfl, DPut.k (k := Sum.inl x) hkn3 (by rw [len_kvI]; unfold knF; rw [List.length_map]; exact small1000 (by omega)), ?_⟩
        have ep : putK (kvI kNat (knF bel pre)) (Sum.inl x) (V.int (1 + m)) = kvI kNat (knF bel (pre ++ [x])) := by
          rw [em]
          have e1 : putK (kvI kNat (knF bel pre)) (Sum.inl x) (kNat (FL.fl (FL.liesB bel) (bel.map (·.1)) x)) = kvI kNat (FL.aput (knF bel pre) x (FL.fl (FL.liesB bel) (bel.map (·.1)) x)) := putK_kvI
          rw [FL.aput_new _ (by rw [knF_get, if_neg hp])] at e1
          refine e1.trans ?_
          unfold knF
          rw [List.map_append]; rfl
        rw [ep]
        have hk4 : (upd H3 kn (.dK (kvI kNat (knF bel (pre ++ [x]))))) kn = some (.dK (kvI kNat (knF bel (pre ++ [x])))) := upd_same
        have g := DGet.k (k := Sum.inl x) hk4
        rw [valV_kvI, knF_get, if_pos (List.mem_append_right _ (List.mem_singleton.mpr rfl))] at g
        exact ⟨_, rfl, _, rfl, kn, _, rfl, g, q2 hp _ (fun z u n e => by rw [upd_ne n]; exact s03 _ _ e) hk4⟩
end
end FW

set_option maxHeartbeats 4000000
/-! The walk 14: floors_of, Hall.floors. -/
namespace FW
open PySem PySem.Spec PyProof.Rows L2
theorem LLT.set {H : Hp} {t : Addr} {l : List Int} : ∀ {k : Nat} {as : List Addr} {g : List (List Int)}, LLT H as g → as.Nodup → as[k]? = some t → LLT (upd H t (lI l)) as (g.set k l)
  | 0, t0 :: ts, l0 :: r, h, n, e => by
    have e : t0 = t := Option.some.inj e
    subst e
    refine ⟨upd_same, LLT.sameM (fun b hb u e => ?_) h.2⟩
    rw [upd_ne (fun (z : b = t0) => (List.nodup_cons.mp n).1 (z ▸ hb))]; exact e
  | k + 1, t0 :: ts, l0 :: r, h, n, e => by
    have e : ts[k]? = some t := e
    refine ⟨?_, LLT.set h.2 (List.nodup_cons.mp n).2 e⟩
    rw [upd_ne (fun (z : t0 = t) => (List.nodup_cons.mp n).1 (z ▸ List.mem_of_getElem? e))]; exact h.1
  | _, [], _, _, _, e => by simp at e
  | _, _ :: _, [], h, _, _ => h.elim
theorem mem_take_lt {L : List Int} (s : L.Pairwise (· < ·)) {i : Nat} {x y : Int} (hx : L[i]? = some x) (hy : y ∈ L) (h : y < x) : y ∈ L.take i := by
  obtain ⟨hi, e⟩ := List.getElem?_eq_some_iff.mp hx
  obtain ⟨j, hj, ej⟩ := List.mem_iff_getElem.mp hy
  have : j < i := by
    rcases Nat.lt_trichotomy j i with q | q | q
    · exact q
    · subst q; rw [e] at ej; omega
    · have := List.pairwise_iff_getElem.mp s i j hi hj q
      omega
  rw [← ej]
  exact List.mem_take_iff_getElem.mpr ⟨j, by omega, rfl⟩
theorem not_take {L : List Int} (s : L.Pairwise (· < ·)) {i : Nat} {x : Int} (hx : L[i]? = some x) : x ∉ L.take i := fun h => by
  obtain ⟨hi, e⟩ := List.getElem?_eq_some_iff.mp hx
  obtain ⟨j, hj, ej⟩ := List.mem_take_iff_getElem.mp h
  have := List.pairwise_iff_getElem.mp s j i (by omega) hi (by omega)
  omega
section
variable {P : Program} {w : World} {K : PySem.W.Frag} {mg : Str → Option Value} {base : Heap} {c : CC}
def spFloors (c : CC) : Sp := fun vs H Q _ => ∃ (o B : Addr) (bel : List (Int × Nat)) (told : Nat), vs = [.ref o] ∧ OPre c H o B bel told ∧
  ∀ H' p as, Same H H' → LLAt H H' p as (FL.floors (FL.liesB bel) (bel.map (·.1)) (bel.map (·.1))) → Q (.ref p) H'
theorem ok_floors (T : Tx K mg c) (D : GD K mg "floors_of" s_floors_of) (MT : MOk P w K mg base CX0 c.O "things" ["self"] 1 (spO_things c)) (G0 : GOk P w K mg base CX0 "floor_of" ["order", "one", "known"] 4 (spFloor c 1)) : GOk P w K mg base CX0 "floors_of" ["order"] 5 (spFloors c) := by
  obtain ⟨f1, fd1, mTh, bTh, FTh⟩ := MT
  obtain ⟨f3, fd3, g3, k3, b3, F3⟩ := G0
  have sc : FnScope ["order", "known", "found", "one", "floor"] ["order"] (defScope s_floors_of) := ⟨rfl, rfl, rfl, by decide +kernel, rfl, by decide +kernel, by decide +kernel⟩
  refine D.ok sc (fun _ _ _ _ _ _ us hl => match us, hl with | [_], _ => rfl) (fun vs H Q E h => ?_) (fun f cdv A outer s H vs Q E hr h => ?_)
  · obtain ⟨o, B, bel, told, rfl, _⟩ := h; rfl
  · obtain ⟨o, B, bel, told, rfl, p, k⟩ := h
    have hr1 : Room 1 _ := hr.mono (by decide)
    have hu := hu_of hr
    refine' ⟨_, (pss_cons (ps_set (i := 1) sc.nd rfl (Or.inl rfl) (pe_dnewK)) (pss_cons (ps_set (i := 2) sc.nd rfl (Or.inl rfl) (pe_lst pa_nil)) (pss_cons (ps_for PassesOwn.never rfl (pi_list (pe_meth0 (pv 0) T.clO mTh FTh hr1 bTh .nil pass0)) (pg_name (i := 3) sc.nd rfl (Or.inl rfl)) (pss_cons (ps_set (i := 4) sc.nd rfl (Or.inl rfl) ((pe_call F3 hr (by rfl) g3 k3 b3 .nil pass0 (pa_cons (pv 0) (pa_cons (pv 3) (pa_cons (pv 1) pa_nil)))))) (Evl.pss_cut (ps_while PassesOwn.never (pt_cmpR op_le (pe_callB call_len_seq (by rfl) T.zLen PySem.boot_len (pa_cons (pv 2) pa_nil)) (pv 4) (nomark _)) (pss_one (ps_expr (pe_bm PySem.F.plainAttrs_list PySem.F.slot_list_append PySem.F.type_list_append mt_append (pv 2) (pa_cons (pe_lst pa_nil) pa_nil))))) (pss_one (ps_expr (pe_bm PySem.F.plainAttrs_list PySem.F.slot_list_append PySem.F.type_list_append mt_append (pe_ix ix_list (pv 2) (pv 4) (fun _ _ => rfl)) (pa_cons (pv 3) pa_nil))))))) (pss_one (ps_ret (pv 2)))))), ?_⟩
    intro kn hkn
    have s1 := Same.new (o := .dK []) hkn
    have k1 : (upd H kn (.dK [])) kn = some (.dK []) := upd_same
    refine ⟨Nat.zero_le _, fun fd hfd => ?_⟩
    have s2 := s1.trans (Same.new (o := .lst []) hfd)
    have k2 : (upd (upd H kn (.dK [])) fd (.lst [])) kn = some (.dK []) := by rw [upd_ne (ne_of_none k1 hfd)]; exact k1
    have f2 : (upd (upd H kn (.dK [])) fd (.lst [])) fd = some (.lst []) := upd_same
    have nfd : H fd = none := back_no s1 hfd
    generalize upd (upd H kn (.dK [])) fd (.lst []) = H2 at s2 k2 f2
    have p2 := p.same s2
    obtain ⟨⟨dO, ho⟩, hB⟩ := id p2.O
    generalize eL : bel.map (·.1) = L at k
    have hs : L.Pairwise (· < ·) := eL ▸ p.P.srt
    have hl24 : L.length ≤ 24 := by rw [← eL, List.length_map]; exact p.len
    refine ⟨_, rfl, o, dO, _, rfl, ho, fO_no ⟨by decide +kernel, by decide +kernel⟩, o, B, bel, told, rfl, p2.O, p.P.srt, by have := p.len; omega, fun tp htp => ?_⟩
    rw [eL]
    have s3 := Same.new (o := lI L) htp
    refine ⟨tp, rfl, ⟨_, SqL.of upd_same⟩, for_list (K := K) (a := tp) (xs := L.map V.int)
      (fun i σ H3 => ∃ (as : List Addr) (v3 v4 : Option V), σ = [some (.ref o), some (.ref kn), some (.ref fd), v3, v4] ∧ Same H H3 ∧ H3 kn = some (.dK (kvI kNat (knF bel (L.take i)))) ∧ LLAt H H3 fd as (FL.floors (FL.liesB bel) L (L.take i)) ∧ H3 tp = some (lI L) ∧ tp ∉ fd :: as)
      ⟨[], _, _, rfl, s2.trans s3, s3 _ _ k2, ⟨s3 _ _ f2, trivial, by simp, fun z hz => by rw [List.mem_singleton.mp hz]; exact nfd⟩, upd_same, fun z => by rw [List.mem_singleton.mp z, f2] at htp; cases htp⟩ (fun i σ H3 _ ⟨_, _, _, _, _, _, _, e, _⟩ => SqL.of e) ?_ ?_⟩
    · rintro i y σ H3 hi ⟨as, v3, v4, rfl, s4, hk4, A4, ht4, ntp⟩
      obtain ⟨x, rfl, hx⟩ := itemI hi
      have hxL := memI hx
      have htk : (L.take i).length ≤ 24 := Nat.le_trans (List.length_take_le _ _) (by have := (List.getElem?_eq_some_iff.mp hx).1; omega)
      refine ⟨_, rfl, _, rfl, _, rfl, o, B, kn, bel, told, x, L.take i, rfl, p.same s4, hk4, eL ▸ hxL, fun y hy hl => mem_take_lt hs hx (eL ▸ hy) (p.P.lt x (eL ▸ hxL) y hl), htk, Or.inr rfl, fun h => absurd h (not_take hs hx), fun _ H5 k5 hk5 => ?_⟩
      rw [eL]
      have et : L.take i ++ [x] = L.take (i + 1) := by rw [List.take_add_one, hx]; rfl
      have nk : ∀ q ∈ fd :: as, q ≠ kn := fun q hq => by
        rcases List.mem_cons.mp hq with rfl | hq
        · exact ne_of A4.at_ hk4 (by intro z; cases z)
        · obtain ⟨l, e⟩ := A4.tt.is q hq
          exact ne_of e hk4 (by intro z; cases z)
      have ntk : tp ≠ kn := ne_of ht4 hk4 (by intro z; cases z)
      have s5 : Same H H5 := fun z u e => k5 z u (ne_of_none e hkn) (s4 z u e)
      have A5 : LLAt H H5 fd as (FL.floors (FL.liesB bel) L (L.take i)) := ⟨k5 _ _ (nk fd List.mem_cons_self) A4.at_, A4.tt.sameM fun q hq u e => k5 _ _ (nk q (List.mem_cons_of_mem _ hq)) e, A4.nd, A4.new⟩
      have ht5 := k5 _ _ ntk ht4
      rw [et] at hk5
      -- the floors grow
      generalize efx : FL.fl (FL.liesB bel) L x = fx
      have hfx : fx ≤ 24 := by
        rw [← efx]
        have h1 := FL.hgt_lt (lies := FL.liesB bel) (L := L) hxL
        have h2 := FL.hgt_le (lies := FL.liesB bel) (L := L) (eL ▸ p.P) (l := L) (fun _ h => h)
        omega
      have hhg : FL.hgt (FL.liesB bel) L (L.take i) ≤ 24 := Nat.le_trans (FL.hgt_le (eL ▸ p.P) fun y hy => List.mem_of_mem_take hy) hl24
      let St : Nat → List (List Int) → L2.St → Hp → Prop := fun m g σ H6 => ∃ as' : List Addr, σ = [some (.ref o), some (.ref kn), some (.ref fd), some (.int x), some (.int (fx : Nat))] ∧ Same H H6 ∧ H6 kn = some (.dK (kvI kNat (knF bel (L.take (i + 1))))) ∧ LLAt H H6 fd as' g ∧ (H6 tp = some (lI L) ∧ tp ∉ fd :: as') ∧
        FL.hgt (FL.liesB bel) L (L.take i) ≤ g.length ∧ g.length ≤ max (FL.hgt (FL.liesB bel) L (L.take i)) (fx + 1) ∧ m = fx + 1 - g.length ∧ (∀ k, k < FL.hgt (FL.liesB bel) L (L.take i) → g[k]? = some (FL.floorAt (FL.liesB bel) L (L.take i) k)) ∧ (∀ k, FL.hgt (FL.liesB bel) L (L.take i) ≤ k → k < g.length → g[k]? = some [])
      refine ⟨fun σ H6 => ∃ g, St 0 g σ H6, ?_, ?_⟩
      · refine ⟨fun m σ H6 => ∃ g, St m g σ H6, ⟨_, FL.floors (FL.liesB bel) L (L.take i), as, rfl, s5, hk5, A5, ⟨ht5, ntp⟩, by rw [FL.floors_len]; exact Nat.le_refl _, by rw [FL.floors_len]; exact Nat.le_max_left _ _, rfl, fun k hk => FL.floors_get hk, fun k h1 h2 => by rw [FL.floors_len] at h2; omega⟩, ?_⟩
        rintro m σ H6 ⟨g, as', rfl, s6, hk6, A6, ⟨ht6, ntp6⟩, g1, g2, rfl, g3, g4⟩
        refine ⟨_, rfl, fd, _, rfl, Or.inl (SqL.of A6.at_), _, rfl, _, _, rfl, rfl, _, rfl, ?_⟩
        rw [List.length_map, A6.tt.len]
        refine ite2 (fun z => ?_) (fun z => ?_)
        · have z := of_decide_eq_true z
          have z : g.length ≤ fx := by omega
          refine ⟨_, fun σ' H' z => z, ?_⟩
          refine ⟨_, rfl, Or.inl ⟨rfl, _, SqL.of A6.at_⟩, Nat.zero_le _, fun r hr0 => ?_⟩
          have s7 := Same.new (o := .lst []) hr0
          have hr7 : (upd H6 r (.lst [])) r = some (lI []) := upd_same
          generalize upd H6 r (.lst []) = H7 at s7 hr7
          have nrH : H r = none := back_no s6 hr0
          have nrfd : fd ≠ r := ne_of_none A6.at_ hr0
          refine ⟨fd, _, _, rfl, rfl, s7 _ _ A6.at_, by rw [List.length_map, A6.tt.len]; exact Nat.le_trans (m := 1000) (by omega) (by decide), ?_⟩
          have nra : ∀ q ∈ as', q ≠ fd := fun q hq e => (List.nodup_cons.mp A6.nd).1 (e ▸ hq)
          refine ⟨fx + 1 - (g ++ [[]]).length, by rw [List.length_append, List.length_singleton]; omega, g ++ [[]], as' ++ [r], rfl, fun z u e => ?_, ?_, ⟨?_, ?_, ?_, fun q hq => ?_⟩, ⟨?_, ?_⟩, by rw [List.length_append]; omega, by rw [List.length_append, List.length_singleton]; omega, rfl, fun k hk => ?_, fun k h1 h2 => ?_⟩
          · rw [upd_ne (ne_of_none e nfd)]; exact s7 _ _ (s6 _ _ e)
          · rw [upd_ne (ne_of hk6 A6.at_ (by intro z; cases z))]; exact s7 _ _ hk6
          · rw [upd_same, List.map_append]; rfl
          · refine LLT.snoc (by rw [upd_ne nrfd.symm]; exact hr7) (A6.tt.sameM fun q hq u e => ?_)
            rw [upd_ne (nra q hq)]; exact s7 _ _ e
          · refine List.nodup_cons.mpr ⟨fun z => ?_, FL.nodup_snoc (List.nodup_cons.mp A6.nd).2 fun z => ?_⟩
            · rcases List.mem_append.mp z with z | z
              · exact (List.nodup_cons.mp A6.nd).1 z
              · exact nrfd (List.mem_singleton.mp z)
            · obtain ⟨l, e⟩ := A6.tt.is r z
              rw [hr0] at e; cases e
          · rcases List.mem_cons.mp hq with rfl | hq
            · exact nfd
            · rcases List.mem_append.mp hq with hq | hq
              · exact A6.new q (List.mem_cons_of_mem _ hq)
              · rw [List.mem_singleton.mp hq]; exact nrH
          · rw [upd_ne (fun (z : tp = fd) => ntp6 (z ▸ List.mem_cons_self))]; exact s7 _ _ ht6
          · intro z
            rcases List.mem_cons.mp z with z | z
            · exact ntp6 (z ▸ List.mem_cons_self)
            · rcases List.mem_append.mp z with z | z
              · exact ntp6 (List.mem_cons_of_mem _ z)
              · rw [List.mem_singleton.mp z, hr0] at ht6; cases ht6
          · rw [List.getElem?_append_left (by omega)]; exact g3 k hk
          · by_cases q : k < g.length
            · rw [List.getElem?_append_left q]; exact g4 k h1 q
            · rw [List.length_append, List.length_singleton] at h2
              have : k = g.length := by omega
              subst this
              rw [List.getElem?_append_right (Nat.le_refl _), Nat.sub_self]; rfl
        · have z : ¬ (g.length : Int) ≤ (fx : Int) := fun y => z (decide_eq_true y)
          exact ⟨g, as', rfl, s6, hk6, A6, ⟨ht6, ntp6⟩, g1, g2, by omega, g3, g4⟩
      · rintro σ H6 ⟨g, as', rfl, s6, hk6, A6, ⟨ht6, ntp6⟩, g1, g2, hm, g3, g4⟩
        have gl : g.length = max (FL.hgt (FL.liesB bel) L (L.take i)) (fx + 1) := by omega
        have hfl : fx < as'.length := by rw [A6.tt.len]; omega
        obtain ⟨l, el, hl⟩ := A6.tt.get (List.getElem?_eq_getElem hfl)
        have nra : ∀ q ∈ as', q ≠ fd := fun q hq e => (List.nodup_cons.mp A6.nd).1 (e ▸ hq)
        have hta : as'[fx] ∈ as' := List.getElem_mem _
        have tn : H as'[fx] = none := A6.new _ (List.mem_cons_of_mem _ hta)
        have eg := FL.floors_snoc (lies := FL.liesB bel) (L := L) (L.take i) x g (by rw [efx]; exact gl) g3 g4
        rw [efx, et] at eg
        have egd : g.getD fx [] = l := by rw [List.getD_eq_getElem?_getD, el]; rfl
        rw [egd] at eg
        have hll : l.length ≤ 24 := by
          by_cases q : fx < FL.hgt (FL.liesB bel) L (L.take i)
          · have := g3 fx q
            rw [el] at this
            rw [Option.some.inj this]
            exact Nat.le_trans (List.length_filter_le _ _) htk
          · have := g4 fx (by omega) (by omega)
            rw [el] at this
            rw [Option.some.inj this]
            exact Nat.zero_le _
        refine ⟨_, rfl, _, rfl, fd, _, (fx : Int), .ref as'[fx], rfl, rfl, SqL.of A6.at_, atI_nat (by rw [List.getElem?_map, List.getElem?_eq_getElem hfl]; rfl), Or.inl ⟨rfl, _, SqL.of hl⟩, _, rfl, as'[fx], _, _, rfl, rfl, hl, by rw [List.length_map]; exact Nat.le_trans (m := 1000) (by omega) (by decide), ?_⟩
        refine ⟨as', _, _, rfl, fun z u e => by rw [upd_ne (ne_of_none e tn)]; exact s6 _ _ e, by rw [upd_ne (ne_of hk6 hl (by intro z; cases z))]; exact hk6, ⟨by rw [upd_ne (nra _ hta).symm]; exact A6.at_, ?_, A6.nd, A6.new⟩, ?_, ntp6⟩
        · have := LLT.set (l := l ++ [x]) A6.tt (List.nodup_cons.mp A6.nd).2 (List.getElem?_eq_getElem hfl)
          rw [eg] at this
          have e2 : (HO.lst (l.map V.int ++ [V.int x])) = lI (l ++ [x]) := by
            show _ = HO.lst (List.map V.int _)
            rw [List.map_append]; rfl
          rw [e2]
          exact this
        · rw [upd_ne (fun (z : tp = as'[fx]) => ntp6 (List.mem_cons_of_mem _ (z ▸ hta)))]; exact ht6
    · rintro σ H3 ⟨as, v3, v4, rfl, s4, hk4, A4, ht4, ntp⟩
      rw [List.length_map, List.take_length] at A4
      exact ⟨_, rfl, k _ _ as s4 A4⟩
end
end FW

set_option maxHeartbeats 4000000
/-! The walk 15: longest_of, Hall.floors, Hall.longest. -/
namespace FW
open PySem PySem.Spec PyProof.Rows L2
section
variable {X : Cx}
theorem opeqK (K : PySem.W.Frag) (hu : X.A.units + 64 < cLine) (h : X.K = K := by rfl) : OpR X (compareOp .Eq) (rEqD K) := by subst h; exact op_eqD hu
end
section
variable {P : Program} {w : World} {K : PySem.W.Frag} {mg : Str → Option Value} {base : Heap} {c : CC}
def spLongest (c : CC) : Sp := fun vs H Q _ => ∃ (o B : Addr) (bel : List (Int × Nat)) (told : Nat), vs = [.ref o] ∧ OPre c H o B bel told ∧
  ∀ H' t, Same H H' → H t = none → H' t = some (lI (FL.longest (FL.liesB bel) (bel.map (·.1)))) → Q (.ref t) H'
theorem ok_longest (T : Tx K mg c) (D : GD K mg "longest_of" s_longest_of) (ML : MOk P w K mg base CX0 c.O "lies_above" ["self", "one", "other"] 2 (spO_lies c)) (G0 : GOk P w K mg base CX0 "floors_of" ["order"] 5 (spFloors c)) : GOk P w K mg base CX0 "longest_of" ["order"] 6 (spLongest c) := by
  obtain ⟨f1, fd1, mLi, bLi, FLi⟩ := ML
  obtain ⟨f3, fd3, g3, k3, b3, F3⟩ := G0
  have sc : FnScope ["order", "found", "floor", "fits", "one"] ["order"] (defScope s_longest_of) := ⟨rfl, rfl, rfl, by decide +kernel, rfl, by decide +kernel, by decide +kernel⟩
  refine D.ok sc (fun _ _ _ _ _ _ us hl => match us, hl with | [_], _ => rfl) (fun vs H Q E h => ?_) (fun f cdv A outer s H vs Q E hr h => ?_)
  · obtain ⟨o, B, bel, told, rfl, _⟩ := h; rfl
  · obtain ⟨o, B, bel, told, rfl, p, k⟩ := h
    have hr2 : Room 2 _ := hr.mono (by decide)
    have hu := hu_of hr
    refine' ⟨_, (pss_cons (ps_set (i := 1) sc.nd rfl (Or.inr rfl) (pe_lst pa_nil)) (pss_cons (ps_for PassesOwn.never rfl (pi_reversed (by rfl) T.zRev (pa_cons ((pe_call F3 hr (by rfl) g3 k3 b3 .nil pass0 (pa_cons (pv 0) pa_nil))) pa_nil)) (pg_name (i := 2) sc.nd rfl (Or.inl rfl)) (pss_cons (ps_setLc (i := 3) (own := [("one", 4)]) rfl sc.nd rfl rfl (sw_true rfl rfl rfl (by decide +kernel)) (pi_list (pv 2)) (blkOk_by (own := [("one", 4)]) (N := ["order", "found", "floor", "fits", "one"]) (sc := defScope s_longest_of) (by decide +kernel)) (fun _ _ _ _ _ => pg_name (i := 4) sc.nd rfl (Or.inl rfl)) (fun _ _ _ _ _ => pts_one (PW.pt (pw_or (pt_cmpR (opeqK K hr.units) (pv 1) (pe_lst pa_nil) (nomark _)) (pw_or1 (pt_val (pe_meth (pv 0) T.clO mLi FLi hr2 bLi .nil pass0 (pa_cons (pe_ix (ixK K) (pv 1) pe_int (fun _ _ => rfl)) (pa_cons (pv 4) pa_nil)))))))) (fun _ _ _ _ _ => pv 4)) (pss_one (ps_set (i := 1) sc.nd rfl (Or.inr rfl) (pe_op op_cat (pe_lst (pa_cons (pe_ix ix_list (pv 3) pe_int (fun _ _ => rfl)) pa_nil)) (pv 1)))))) (pss_one (ps_ret (pv 1))))), ?_⟩
    refine ⟨Nat.zero_le _, fun fd hfd => ?_⟩
    have s1 := Same.new (o := .lst []) hfd
    have f1 : (upd H fd (.lst [])) fd = some (lI []) := upd_same
    generalize upd H fd (.lst []) = H1 at s1 f1
    refine ⟨_, rfl, o, B, bel, told, rfl, p.same s1, fun H2 q as s2 A2 => ?_⟩
    have P2 := p.P
    have hnn := p.nn
    generalize eL : bel.map (·.1) = L at k A2 P2 hnn
    have elen : (as.map V.ref).length = FL.hgt (FL.liesB bel) L L := by rw [List.length_map, A2.tt.len, FL.floors_len]
    have hh24 : FL.hgt (FL.liesB bel) L L ≤ 24 := Nat.le_trans (FL.hgt_le P2 fun _ h => h) (by rw [← eL, List.length_map]; exact p.len)
    refine ⟨q, as.map V.ref, rfl, SqL.of A2.at_, for_it walk_rev
      (fun i σ H3 => ∃ (t : Addr) (acc : List Int) (v2 v3 : Option V), σ = [some (.ref o), some (.ref t), v2, v3, none] ∧ Same H2 H3 ∧ H t = none ∧ H3 t = some (lI acc) ∧ i ≤ FL.hgt (FL.liesB bel) L L ∧ FL.LgOk (FL.liesB bel) L (FL.hgt (FL.liesB bel) L L - i) acc ∧ FL.lgF (FL.liesB bel) L (FL.hgt (FL.liesB bel) L L - i) acc = FL.longest (FL.liesB bel) L)
      ⟨fd, [], _, _, rfl, Same.rfl, hfd, s2 _ _ f1, Nat.zero_le _, ⟨by simp, fun i x h => by simp at h, fun i x y h => by simp at h⟩, rfl⟩ (fun i σ H3 _ ⟨_, _, _, _, _, s3, _⟩ => SqL.of (s3 _ _ A2.at_)) ?_ ?_⟩
    · rintro i y σ H3 H4 hi ⟨t, acc, v2, v3, rfl, s3, ht0, ht, hil, lg, eg⟩ ⟨rfl, hy⟩
      rw [elen] at hi
      rw [elen] at hy
      obtain ⟨kf, ek⟩ : ∃ kf, FL.hgt (FL.liesB bel) L L - i = kf + 1 := ⟨FL.hgt (FL.liesB bel) L L - i - 1, by omega⟩
      have ekf : FL.hgt (FL.liesB bel) L L - 1 - i = kf := by omega
      rw [ekf] at hy
      obtain ⟨fa, rfl, hfa⟩ := itemG hy
      obtain ⟨l, el, hl⟩ := A2.tt.get hfa
      rw [FL.floors_get (by omega)] at el
      have el := Option.some.inj el
      subst el
      rw [ek] at lg eg
      obtain ⟨x, tl, epk, lg2⟩ := FL.LgOk.pick P2 lg
      have hlen : (FL.floorAt (FL.liesB bel) L L kf).length ≤ 24 := Nat.le_trans (List.length_filter_le _ _) (by rw [← eL, List.length_map]; exact p.len)
      have acl : acc.length ≤ 24 := by have := lg.len; omega
      obtain ⟨⟨dO, ho⟩, hB⟩ := id p.O
      have sH4 : Same H H4 := s1.trans (s2.trans s3)
      have hfa4 := s3 _ _ hl
      dsimp only [gName, tSeq, tAsg]
      refine lc_same (K := K) V.int (a := fa) (ns := FL.floorAt (FL.liesB bel) L L kf) (fun x => decide (acc = []) || FL.liesB bel (acc.headD 0) x) V.int (fun Q' q => ⟨_, rfl, q⟩) (SqL.of hfa4) (by omega) (fun x => by rfl) (fun z hz H5 s5 Q' q => ?_) (fun z hz _ H5 s5 Q' q => ⟨_, rfl, q H5 Same.rfl⟩) (fun r H5 hr5 s5 h5 => ?_)
      · have zL : z ∈ L := (List.mem_filter.mp hz).1
        refine ⟨_, rfl, Nat.zero_le _, fun e he => ?_⟩
        have s6 := Same.new (o := .lst []) he
        refine ⟨iD acc, .list [], dp_iD (SqL.of (s6 _ _ (s5 _ _ ht))), dp_nil upd_same, iD_sh _, iD_sh [], _, rfl, ?_⟩
        rw [nil_D]
        refine ite2 (fun d => ?_) (fun d => ?_)
        · rw [d, Bool.true_or] at q
          exact q _ s6
        · rw [Bool.eq_false_iff.mpr d, Bool.false_or] at q
          have na : acc ≠ [] := fun e => d (decide_eq_true e)
          have hmem : acc.headD 0 ∈ L := by
            cases acc with
            | nil => exact absurd rfl na
            | cons a r => exact (lg.at_ 0 a rfl).1
          refine ⟨_, rfl, o, dO, _, rfl, s6 _ _ (s5 _ _ (sH4 _ _ ho)), fO_no ⟨by decide +kernel, by decide +kernel⟩, _, rfl, t, _, _, _, rfl, rfl, SqL.of (s6 _ _ (s5 _ _ ht)), head_at' na, _, rfl, o, B, bel, told, acc.headD 0, z, rfl, (p.same (sH4.trans (s5.trans s6))).O, isS (eL ▸ hmem), hnn z zL, _, rfl, q _ s6⟩
      · have h5' : H5 r = some (lI (x :: tl)) := by
          rw [h5]
          have : (FL.floorAt (FL.liesB bel) L L kf).filter (fun x => decide (acc = []) || FL.liesB bel (acc.headD 0) x) = x :: tl := epk
          rw [this]
        have hx0 : atI ((x :: tl).map V.int) 0 = some (V.int x) := atI_nat (j := 0) rfl
        refine ⟨_, rfl, r, _, _, _, rfl, rfl, SqL.of h5', hx0, (by show 1 ≤ sizeLine; decide), fun e he => ?_⟩
        have s6 := Same.new (o := .lst [V.int x]) he
        have h6 : (upd H5 e (.lst [V.int x])) e = some (.lst [V.int x]) := upd_same
        have ht6 := s6 _ _ (s5 _ _ ht)
        generalize upd H5 e (.lst [V.int x]) = H6 at s6 h6 ht6
        refine ⟨_, rfl, e, t, _, _, rfl, rfl, h6, ht6, by rw [List.length_map]; exact Nat.le_trans (m := 1000) (by show 1 + acc.length ≤ 1000; omega) (by decide), fun u hu0 => ?_⟩
        have s7 := Same.new (o := .lst ([V.int x] ++ acc.map V.int)) hu0
        have s27 : Same H2 (upd H6 u (.lst ([V.int x] ++ acc.map V.int))) := s3.trans (s5.trans (s6.trans s7))
        refine ⟨u, x :: acc, _, _, rfl, s27, back_no (sH4.trans (s5.trans s6)) hu0, upd_same, by omega, ?_, ?_⟩
        · rw [show FL.hgt (FL.liesB bel) L L - (i + 1) = kf by omega]; exact lg2
        · rw [show FL.hgt (FL.liesB bel) L L - (i + 1) = kf by omega, ← eg]
          conv => rhs; unfold FL.lgF
          rw [epk]; rfl
    · rintro σ H3 ⟨t, acc, v2, v3, rfl, s3, ht0, ht, hil, lg, eg⟩
      rw [elen, Nat.sub_self] at eg
      have eg : acc = FL.longest (FL.liesB bel) L := eg
      exact ⟨_, rfl, k _ t (s1.trans (s2.trans s3)) ht0 (eg ▸ ht)⟩
theorem HallAt.opre {H : Hp} {a : HA} {st : FL.HS} (h : HallAt c H a st) (G : FL.Good st) (hl : st.linked.length ≤ 24) : OPre c H a.la.o a.B st.below st.told :=
  ⟨h.O, by rw [G.keys]; exact G.po, by rw [G.keys]; exact fun z hz => (G.rng z hz).1, by rw [← G.keys, List.length_map] at hl; exact hl⟩
def spH_floors (c : CC) : Sp := fun vs H Q _ => ∃ (a : HA) (s : FL.HS), vs = [.ref a.h] ∧ HallAt c H a s ∧ FL.Good s ∧ s.linked.length ≤ 24 ∧ ∀ H' p ps, Same H H' → LLAt H H' p ps (FL.floors s.lies s.linked s.linked) → Q (.ref p) H'
theorem ok_H_floors (T : Tx K mg c) (D : MD K c.H "floors" "Hall.floors" sH_floors) (G1 : GOk P w K mg base CX0 "floors_of" ["order"] 5 (spFloors c)) : MOk P w K mg base CX0 c.H "floors" ["self"] 6 (spH_floors c) := by
  obtain ⟨f1, fd1, g1, k1, b1, F1⟩ := G1
  refine D.ok (N := ["self"]) ⟨rfl, rfl, rfl, by decide +kernel, rfl, by decide +kernel, by decide +kernel⟩ (fun _ _ _ _ _ _ us hl => match us, hl with | [_], _ => rfl) (fun vs H Q E h => ?_) (fun f cdv A outer s H vs Q E hr h => ?_)
  · obtain ⟨a, st, rfl, _⟩ := h; rfl
  · obtain ⟨a, st, rfl, HA0, G, hl, k⟩ := h
    obtain ⟨⟨dx, hh⟩, O, N, nBA, nBE⟩ := id HA0
    refine' ⟨_, (pss_one (ps_ret ((pe_call F1 hr (by rfl) g1 k1 b1 .nil pass0 (pa_cons (pe_fld (pv 0) rfl) pa_nil))))), ?_⟩
    refine ⟨_, rfl, a.h, c.H, dx, _, _, rfl, hh, T.clH, T.nHo, fH_order, a.la.o, a.B, st.below, st.told, rfl, HA0.opre G hl, fun H' p ps s L => ?_⟩
    rw [G.keys] at L
    exact k H' p ps s L
def spH_longest (c : CC) : Sp := fun vs H Q _ => ∃ (a : HA) (s : FL.HS), vs = [.ref a.h] ∧ HallAt c H a s ∧ FL.Good s ∧ s.linked.length ≤ 24 ∧ ∀ H' t, Same H H' → H t = none → H' t = some (lI (FL.longest s.lies s.linked)) → Q (.ref t) H'
theorem ok_H_longest (T : Tx K mg c) (D : MD K c.H "longest" "Hall.longest" sH_longest) (G1 : GOk P w K mg base CX0 "longest_of" ["order"] 6 (spLongest c)) : MOk P w K mg base CX0 c.H "longest" ["self"] 7 (spH_longest c) := by
  obtain ⟨f1, fd1, g1, k1, b1, F1⟩ := G1
  refine D.ok (N := ["self"]) ⟨rfl, rfl, rfl, by decide +kernel, rfl, by decide +kernel, by decide +kernel⟩ (fun _ _ _ _ _ _ us hl => match us, hl with | [_], _ => rfl) (fun vs H Q E h => ?_) (fun f cdv A outer s H vs Q E hr h => ?_)
  · obtain ⟨a, st, rfl, _⟩ := h; rfl
  · obtain ⟨a, st, rfl, HA0, G, hl, k⟩ := h
    obtain ⟨⟨dx, hh⟩, O, N, nBA, nBE⟩ := id HA0
    refine' ⟨_, (pss_one (ps_ret ((pe_call F1 hr (by rfl) g1 k1 b1 .nil pass0 (pa_cons (pe_fld (pv 0) rfl) pa_nil))))), ?_⟩
    refine ⟨_, rfl, a.h, c.H, dx, _, _, rfl, hh, T.clH, T.nHo, fH_order, a.la.o, a.B, st.below, st.told, rfl, HA0.opre G hl, fun H' t s n e => ?_⟩
    rw [G.keys] at e
    exact k H' t s n e
end
end FW

set_option maxHeartbeats 4000000
/-! The law's helpers 9: floors by the law's own going. -/
namespace FW
open PySem PySem.Spec PyProof.Rows L2
section
variable {X : Cx}
theorem listK (K : PySem.W.Frag) {tg l : Expr} {tl : TE} (h : PE X l tl) (e : X.K = K := by rfl) : PI X tg l (iList K tl) := by subst e; exact pi_list h
theorem inK (K : PySem.W.Frag) (e : X.K = K := by rfl) : OpR X (compareOp .In) (rIn K false) := by subst e; exact op_in_seq
theorem notInK (K : PySem.W.Frag) (e : X.K = K := by rfl) : OpR X (compareOp .NotIn) (rIn K true) := by subst e; exact op_notIn_seq
theorem anyK (K : PySem.W.Frag) (hc : X.calm = true) (e : X.K = K := by rfl) : CallR X (.builtin "any") (rAny K) := by subst e; exact cr_any hc
theorem allK (K : PySem.W.Frag) (hc : X.calm = true) (e : X.K = K := by rfl) : CallR X (.builtin "all") (rAll K) := by subst e; exact cr_all hc
theorem lenK (K : PySem.W.Frag) (e : X.K = K := by rfl) : CallR X (.builtin "len") (fun xs H Q => ∃ p ys, xs = [.ref p] ∧ (SqL K H p ys ∨ SqT K H p ys) ∧ Q (.int (ys.length : Nat)) H) := by subst e; exact call_len_seq
end
/-- the scope of a comprehension that stands in the text -/
def wBody : Stmt → List Stmt
  | .While _ b _ _ => b
  | .For _ _ b _ _ => b
  | _ => []
def asE : Stmt → Option Expr
  | .Assign _ e _ => some e
  | .Return (some e) _ => some e
  | _ => none
def lcSc : Option Expr → Scope → Scope
  | some (.ListComp _ _ sc _), _ => sc
  | _, d => d
/-- .. as it runs within a def: what it takes from the def's cells -/
def relab (o i : Scope) : Scope := { i with names := i.names.map fun q => if (q.2 == NameKind.free && o.kind == .function && o.names.lookup q.1 == some .cell) then (q.1, NameKind.cell) else (q.1, q.2) }
section
variable {P : Program} {w : World} {K : PySem.W.Frag} {mg : Str → Option Value} {base : Heap} {c : CC}
def spWFloors : Sp := fun vs H Q _ => ∃ (b : Addr) (ps : List (Int × Addr)) (st : FL.HS) (a : HA) (c : CC), vs = [.ref b] ∧ WAt c H a st b ps ∧ st.linked.length ≤ 24 ∧
  ∀ H' p as, Same H H' → LLAt H H' p as (FL.floors st.lies st.linked st.linked) → Q (.ref p) H'
end
end FW

set_option maxHeartbeats 4000000
/-! The walk 16: Hall.parted, with_thing, without_thing, standing. -/
namespace FW
open PySem PySem.Spec PyProof.Rows L2
section
variable {P : Program} {w : World} {K : PySem.W.Frag} {mg : Str → Option Value} {base : Heap} {c : CC}
def spH_parted (c : CC) : Sp := fun vs H Q _ => ∃ (a : HA) (s : FL.HS) (q : Addr) (ts l : List Int), vs = [.ref a.h, .ref q] ∧ HallAt c H a s ∧ FL.Good s ∧ s.linked.length ≤ 24 ∧ H q = some (lI ts) ∧ ts.Perm l ∧ l.Pairwise (· < ·) ∧ (∀ x ∈ l, x ∈ s.linked) ∧
  ∀ H' t p as f, Same H H' → H t = none → H' t = some (.tup [.ref p, .ref f]) → LLAt H H' p as (FL.partL s.lies l) → H f = none → H' f = some (lI (FL.partF s.lies l)) → f ∉ p :: as → Q (.ref t) H'
theorem sub_len {l L : List Int} (s : l.Pairwise (· < ·)) (h : ∀ x ∈ l, x ∈ L) : l.length ≤ L.length := FL.nodup_len_le (s.imp fun h => Int.ne_of_lt h) h
theorem ok_H_parted (T : Tx K mg c) (D : MD K c.H "parted" "Hall.parted" sH_parted) (MN : MOk P w K mg base CX0 c.O "need_things" ["self", "some"] 3 (spO_needs c)) (MI : MOk P w K mg base CX0 c.L "__init__" ["self", "order", "things"] 1 (spL_init c))
    (MJ : MOk P w K mg base CX0 c.L "joined_all" ["self"] 29 (spJAll c)) (ML : MOk P w K mg base CX0 c.L "ladders" ["self"] 1 (spLadders c)) (MF : MOk P w K mg base CX0 c.L "free" ["self"] 4 (spLFree c)) : MOk P w K mg base CX0 c.H "parted" ["self", "some"] 30 (spH_parted c) := by
  obtain ⟨f1, fd1, mNs, bNs, FNs⟩ := MN
  obtain ⟨f2, fd2, mIn, bIn, FIn⟩ := MI
  obtain ⟨f3, fd3, mJ, bJ, FJ⟩ := MJ
  obtain ⟨f4, fd4, mLd, bLd, FLd⟩ := ML
  obtain ⟨f5, fd5, mFr, bFr, FFr⟩ := MF
  have sc : FnScope ["self", "some", "links"] ["self", "some"] (defScope sH_parted) := ⟨rfl, rfl, rfl, by decide +kernel, rfl, by decide +kernel, by decide +kernel⟩
  refine D.ok sc (fun _ _ _ _ _ _ us hl => match us, hl with | [_, _], _ => rfl) (fun vs H Q E h => ?_) (fun f cdv A outer s H vs Q E hr h => ?_)
  · obtain ⟨a, st, q, ts, l, rfl, _⟩ := h; rfl
  · obtain ⟨a, st, q, ts, l, rfl, HA0, G, hl24, hq, pm, ls, lm, k⟩ := h
    have MkL : Mk K c.L f2 := ⟨T.mkL, mIn.at_, mIn.fn, T.kpL⟩
    have hr3 : Room 3 _ := hr.mono (by decide)
    have hr2 : Room 2 _ := hr.mono (by decide)
    have hr1 : Room 1 _ := hr.mono (by decide)
    have hr4 : Room 4 _ := hr.mono (by decide)
    refine' ⟨_, (pss_cons (ps_expr (pe_meth (pe_fld (pv 0) rfl) T.clO mNs FNs hr3 bNs .nil pass0 (pa_cons (pv 1) pa_nil))) (pss_cons (ps_set (i := 2) sc.nd rfl (Or.inl rfl) (pe_make MkL FIn hr2 (by rfl) T.gL bIn .nil pass0 (pa_cons (pe_fld (pv 0) rfl) (pa_cons ((pe_callB cr_sortedI (by rfl) T.zSorted PyProof.Rows.boot_sorted (pa_cons (pv 1) pa_nil))) pa_nil)))) (pss_cons (ps_expr (pe_meth0 (pv 2) T.clL mJ FJ hr bJ .nil pass0)) (pss_one (ps_ret (pe_tup (pa_cons (pe_meth0 (pv 2) T.clL mLd FLd hr1 bLd .nil pass0) (pa_cons (pe_meth0 (pv 2) T.clL mFr FFr hr4 bFr .nil pass0) pa_nil)))))))), ?_⟩
    have tl : ts.length ≤ 24 := by rw [pm.length_eq]; exact Nat.le_trans (sub_len ls lm) hl24
    have ll24 : l.length ≤ 24 := Nat.le_trans (sub_len ls lm) hl24
    obtain ⟨⟨dx, hh⟩, O, N, nBA, nBE⟩ := id HA0
    obtain ⟨dO, hO⟩ := O.ob
    have hiS : ∀ x ∈ st.linked, (FL.aget st.below x).isSome = true := fun x hx => by
      obtain ⟨m, e⟩ := G.mem hx
      rw [e]; rfl
    refine ⟨_, rfl, a.h, c.H, dx, _, _, rfl, hh, T.clH, T.nHo, fH_order, a.la.o, dO, _, rfl, hO, fO_no ⟨by decide +kernel, by decide +kernel⟩, _, rfl, a.la.o, a.B, q, st.below, st.told, ts, rfl, O, hq, pm.nodup_iff.mpr (ls.imp fun h => Int.ne_of_lt h), by omega, fun x hx => hiS x (lm x (pm.mem_iff.mp hx)), ?_⟩
    refine ⟨_, rfl, a.h, c.H, dx, _, _, rfl, hh, T.clH, T.nHo, fH_order, ?_⟩
    refine ⟨_, rfl, q, ts, rfl, SqL.of hq, fun ys q2 y1 y2 hq2 => ?_⟩
    rw [perm_srt (y1.trans pm) y2 ls]
    have s3 : Same H (upd H q2 (.lst (l.map V.int))) := Same.new hq2
    have h3 : (upd H q2 (.lst (l.map V.int))) q2 = some (lI l) := upd_same
    generalize upd H q2 (.lst (l.map V.int)) = H3 at s3 h3
    intro lk dl nl ndl nel
    have s4 : Same H3 (upd (upd H3 dl (.own lk)) lk (.ins c.L dl [])) := fun b u e => by
      rw [upd_ne (ne_of_none e nl), upd_ne (ne_of_none e ndl)]; exact e
    refine ⟨lk, dl, a.la.o, q2, l, rfl, upd_same, s4 _ _ h3, by omega, fun L A E' H5 hL hA hE N5 k5 => ⟨rfl, ?_⟩⟩
    have s5 : Same H3 H5 := fun b u e => k5 b u (ne_of_none e nl) (s4 b u e)
    have s05 := s3.trans s5
    have nA : H A = none := back_no (s3.trans s4) hA
    have nE : H E' = none := back_no (s3.trans s4) hE
    have P := G.po.sub ls lm
    obtain ⟨M, NA⟩ := FL.jab_ok P
    obtain ⟨dO2, hB⟩ := id O
    obtain ⟨dl5, hl5⟩ := N5.ob
    have J5 : JPre c H5 ⟨a.la.o, lk, L, A, E'⟩ a.B st.below st.told l [] [] :=
      ⟨O.same fun b u _ e => s05 b u e, N5, ne_of_none hB nA, ne_of_none hB nE, fun x hx => ⟨hiS x (lm x hx), (G.rng x (lm x hx)).1⟩, FL.Mt.empty _ _, ll24⟩
    refine ⟨_, rfl, lk, dl5, _, rfl, hl5, fL_no ⟨by decide +kernel, by decide +kernel, by decide +kernel, by decide +kernel⟩, ⟨a.la.o, lk, L, A, E'⟩, a.B, st.below, st.told, l, [], [], rfl, J5, P, fun H6 N6 k6 => ?_⟩
    have s06 : Same H H6 := fun b u e => k6 b u (ne_of_none e nA) (ne_of_none e nE) (s05 b u e)
    have N6 : LnkAt c H6 ⟨a.la.o, lk, L, A, E'⟩ l (FL.jab st.lies l).1 (FL.jab st.lies l).2 := N6
    obtain ⟨dl6, hl6⟩ := N6.ob
    refine ⟨_, rfl, lk, dl6, _, rfl, hl6, fL_no ⟨by decide +kernel, by decide +kernel, by decide +kernel, by decide +kernel⟩, ⟨a.la.o, lk, L, A, E'⟩, l, (FL.jab st.lies l).1, (FL.jab st.lies l).2, st.lies, rfl, N6, M, P, ll24, fun H7 p as s7 LL => ?_⟩
    have J7 : JPre c H7 ⟨a.la.o, lk, L, A, E'⟩ a.B st.below st.told l (FL.jab st.lies l).1 (FL.jab st.lies l).2 :=
      ⟨O.same fun b u _ e => s7 _ _ (s06 b u e), N6.same s7, ne_of_none hB nA, ne_of_none hB nE, fun x hx => ⟨hiS x (lm x hx), (G.rng x (lm x hx)).1⟩, M, ll24⟩
    refine ⟨_, rfl, lk, dl6, _, rfl, s7 _ _ hl6, fL_no ⟨by decide +kernel, by decide +kernel, by decide +kernel, by decide +kernel⟩, ⟨a.la.o, lk, L, A, E'⟩, a.B, st.below, st.told, l, (FL.jab st.lies l).1, (FL.jab st.lies l).2, rfl, J7, P, NA, fun H8 f s8 hf hf8 => ?_⟩
    refine ⟨by show 2 ≤ sizeLine; decide, fun t ht => ?_⟩
    have s9 := Same.new (o := .tup [V.ref p, V.ref f]) ht
    have s08 : Same H H8 := s06.trans (s7.trans s8)
    refine k _ t p as f (s08.trans s9) (back_no s08 ht) upd_same ⟨s9 _ _ (s8 _ _ LL.at_), LL.tt.same fun x xs e => s9 _ _ (s8 _ _ e), LL.nd, fun x hx => back_no s06 (LL.new x hx)⟩ (back_no (s06.trans s7) hf) (s9 _ _ hf8) fun z => ?_
    have : ∃ u, H7 f = some u := by
      rcases List.mem_cons.mp z with rfl | z
      · exact ⟨_, LL.at_⟩
      · obtain ⟨l, e⟩ := LL.tt.is f z
        exact ⟨_, e⟩
    obtain ⟨u, hu⟩ := this
    rw [hf] at hu; cases hu
def spH_with (c : CC) : Sp := fun vs H Q _ => ∃ (a : HA) (s : FL.HS) (x : Int), vs = [.ref a.h, .int x] ∧ HallAt c H a s ∧ FL.Good s ∧ s.linked.length ≤ 24 ∧ x ∈ s.linked ∧
  ((s.withF x).length + 1 < s.freeL.length → ∀ H', Same H H' → Q .non H') ∧ (¬ (s.withF x).length + 1 < s.freeL.length → ∀ H' t, Same H H' → H t = none → H' t = some (lI (s.withL x)) → Q (.ref t) H')
theorem ok_H_with (T : Tx K mg c) (D : MD K c.H "with_thing" "Hall.with_thing" sH_with_thing) (MN : MOk P w K mg base CX0 c.O "need_thing" ["self", "one"] 2 (spO_need c)) (MP : MOk P w K mg base CX0 c.H "parted" ["self", "some"] 30 (spH_parted c))
    (MT : MOk P w K mg base CX0 c.H "things" ["self"] 2 (spH_things c)) (MA : MOk P w K mg base CX0 c.O "are_apart" ["self", "one", "other"] 3 (spO_apart c)) (MF : MOk P w K mg base CX0 c.H "free" ["self"] 5 (spH_free c)) : MOk P w K mg base CX0 c.H "with_thing" ["self", "one"] 31 (spH_with c) := by
  obtain ⟨f1, fd1, mNt, bNt, FNt⟩ := MN
  obtain ⟨f2, fd2, mPt, bPt, FPt⟩ := MP
  obtain ⟨f3, fd3, mTh, bTh, FTh⟩ := MT
  obtain ⟨f4, fd4, mAp, bAp, FAp⟩ := MA
  obtain ⟨f5, fd5, mFr, bFr, FFr⟩ := MF
  have sc : FnScope ["self", "one", "free", "other"] ["self", "one"] (defScope sH_with_thing) := ⟨rfl, rfl, rfl, by decide +kernel, rfl, by decide +kernel, by decide +kernel⟩
  refine D.ok sc (fun _ _ _ _ _ _ us hl => match us, hl with | [_, _], _ => rfl) (fun vs H Q E h => ?_) (fun f cdv A outer s H vs Q E hr h => ?_)
  · obtain ⟨a, st, x, rfl, _⟩ := h; rfl
  · obtain ⟨a, st, x, rfl, HA0, G, hl24, hx, q1, q2⟩ := h
    have hr3 : Room 3 _ := hr.mono (by decide)
    have hr2 : Room 2 _ := hr.mono (by decide)
    have hr5 : Room 5 _ := hr.mono (by decide)
    refine' ⟨_, (pss_cons (ps_expr (pe_meth (pe_fld (pv 0) rfl) T.clO mNt FNt hr2 bNt .nil pass0 (pa_cons (pv 1) pa_nil))) (pss_cons (ps_set (i := 2) sc.nd rfl (Or.inl rfl) (pe_ix ix_tup (pe_meth (pv 0) T.clH mPt FPt hr bPt .nil pass0 (pa_cons ((pe_lc (own := [("other", 3)]) (g := gName 3) rfl sc.nd (pi_list ((pe_meth0 (pv 0) T.clH mTh FTh hr2 bTh .nil pass0))) (blkOk_by (own := [("other", 3)]) (N := ["self", "one", "free", "other"]) (sc := defScope sH_with_thing) (by decide +kernel)) (fun _ _ _ _ _ => pg_name (i := 3) sc.nd rfl (Or.inl rfl)) (fun _ _ _ _ _ => pts_one (pt_val (pe_meth (pfK K (pv 0)) T.clO mAp FAp hr3 bAp .nil pass0 (pa_cons (pv 1) (pa_cons (pv 3) pa_nil))))) (fun _ _ _ _ _ => pv 3))) pa_nil)) pe_int (fun _ _ => rfl))) (pss_cons (ps_if (pt_cmpR op_lt (pe_op op_add (pe_callB call_len_seq (by rfl) T.zLen PySem.boot_len (pa_cons (pv 2) pa_nil)) pe_int) (pe_callB call_len_seq (by rfl) T.zLen PySem.boot_len (pa_cons ((pe_meth0 (pv 0) T.clH mFr FFr hr5 bFr .nil pass0)) pa_nil)) (nomark _)) (pss_one (ps_ret pe_non)) pss_nil) (pss_one (ps_ret ((pe_callB cr_sortedI (by rfl) T.zSorted PyProof.Rows.boot_sorted (pa_cons (pe_op op_cat (pv 2) (pe_lst (pa_cons (pv 1) pa_nil))) pa_nil)))))))), ?_⟩
    obtain ⟨⟨dx, hh⟩, O, N, nBA, nBE⟩ := id HA0
    obtain ⟨dO, hO⟩ := O.ob
    have hiS : ∀ x ∈ st.linked, (FL.aget st.below x).isSome = true := fun x hx => by
      obtain ⟨m, e⟩ := G.mem hx
      rw [e]; rfl
    refine ⟨_, rfl, a.h, c.H, dx, _, _, rfl, hh, T.clH, T.nHo, fH_order, a.la.o, dO, _, rfl, hO, fO_no ⟨by decide +kernel, by decide +kernel⟩, _, rfl, a.la.o, a.B, st.below, st.told, x, rfl, O, hiS x hx, ?_⟩
    refine ⟨_, rfl, a.h, dx, _, rfl, hh, fH_no ⟨by decide +kernel, by decide +kernel⟩, ?_⟩
    dsimp only [tCons]
    refine lc_new (K := K) V.int (ns := st.linked) (FL.ap st.lies x) V.int (fun Q' q => ?_) (by omega) (fun x => by rfl) (fun z hz H3 s3 Q' q => ?_) (fun z hz _ H3 s3 Q' q => ⟨_, rfl, q H3 Same.rfl⟩) (fun D H2 hD s2 h2 => ?_)
    · exact ⟨_, rfl, a.h, dx, _, rfl, hh, fH_no ⟨by decide +kernel, by decide +kernel⟩, a, st, rfl, HA0, G, by omega, fun t ht => q t _ (Same.new ht) (SqL.of upd_same)⟩
    · refine ⟨_, rfl, a.h, c.H, dx, _, _, rfl, s3 _ _ hh, T.clH, T.nHo, fH_order, a.la.o, dO, _, rfl, s3 _ _ hO, fO_no ⟨by decide +kernel, by decide +kernel⟩, _, rfl, _, rfl, a.la.o, a.B, st.below, st.told, x, z, rfl, O.same fun b u _ e => s3 b u e, hiS x hx, hiS z hz, (G.rng x hx).1, (G.rng z hz).1, _, rfl, q H3 Same.rfl⟩
    · have h2 : H2 D = some (lI (st.near x)) := h2
      have HA2 := HA0.same s2
      refine ⟨a, st, D, st.near x, st.near x, rfl, HA2, G, hl24, h2, List.Perm.refl _, G.po.srt.sublist List.filter_sublist, fun y hy => (List.mem_filter.mp hy).1, fun H3 t p as f s3 ht ht3 LL hf hf3 nf => ?_⟩
      refine ⟨t, _, 1, _, rfl, rfl, SqT.of ht3, rfl, ?_⟩
      have s03 := s2.trans s3
      have HA3 := HA2.same s3
      have hf3 : H3 f = some (lI (st.withF x)) := hf3
      refine ⟨_, rfl, f, _, rfl, Or.inl (SqL.of hf3), _, _, rfl, rfl, ?_⟩
      refine ⟨_, rfl, a.h, dx, _, rfl, s03 _ _ hh, fH_no ⟨by decide +kernel, by decide +kernel⟩, a, st, rfl, HA3, G, hl24, fun H4 g s4 hg hg4 => ?_⟩
      refine ⟨g, _, rfl, Or.inl (SqL.of hg4), _, _, rfl, rfl, _, rfl, ?_⟩
      have hg4 : H4 g = some (lI st.freeL) := hg4
      rw [List.length_map, List.length_map]
      refine ite2 (fun z => ?_) (fun z => ?_)
      · have z := of_decide_eq_true z
        exact q1 (by have : (FL.free st.lies st.linked st.ab st.be) = st.freeL := rfl; rw [this] at z; omega) _ (s03.trans s4)
      · have z : ¬ (((st.withF x).length : Int) + 1 < (FL.free st.lies st.linked st.ab st.be).length) := fun y => z (decide_eq_true y)
        have hf4 := s4 _ _ hf3
        refine ⟨_, rfl, _, rfl, (by show 1 ≤ sizeLine; decide), fun e he => ?_⟩
        have s5 := Same.new (o := .lst [V.int x]) he
        have h5 : (upd H4 e (.lst [V.int x])) e = some (.lst [V.int x]) := upd_same
        have hf5 := s5 _ _ hf4
        generalize upd H4 e (.lst [V.int x]) = H5 at s5 h5 hf5
        have wl : (st.withF x).length ≤ 24 := Nat.le_trans (FL.partF_ok (FL.near_po G x)).2.2.2.2 (Nat.le_trans (List.length_filter_le _ _) hl24)
        refine ⟨f, e, _, _, rfl, rfl, hf5, h5, by rw [List.length_map]; exact Nat.le_trans (m := 1000) (by show (st.withF x).length + 1 ≤ 1000; omega) (by decide), fun v hv => ?_⟩
        have s6 := Same.new (o := .lst ((st.withF x).map V.int ++ [V.int x])) hv
        have h6 : (upd H5 v (.lst ((st.withF x).map V.int ++ [V.int x]))) v = some (lI (st.withF x ++ [x])) := by
          rw [upd_same]
          show _ = some (HO.lst (List.map V.int _))
          rw [List.map_append]; rfl
        generalize upd H5 v (.lst ((st.withF x).map V.int ++ [V.int x])) = H6 at s6 h6
        refine ⟨v, _, rfl, SqL.of h6, fun ys r y1 y2 hr' => ?_⟩
        have e7 : ys = st.withL x := perm_srt (y1.trans (FL.withL_perm G hx)) y2 (FL.withL_ok G hx).1
        rw [e7]
        have s06 : Same H H6 := s03.trans (s4.trans (s5.trans s6))
        exact q2 (by have : (FL.free st.lies st.linked st.ab st.be) = st.freeL := rfl; rw [this] at z; omega) _ r (s06.trans (Same.new hr')) (back_no s06 hr') upd_same
def spH_less (c : CC) : Sp := fun vs H Q _ => ∃ (a : HA) (s : FL.HS) (x : Int), vs = [.ref a.h, .int x] ∧ HallAt c H a s ∧ FL.Good s ∧ s.linked.length ≤ 24 ∧ x ∈ s.linked ∧
  ((s.lessF x).length < s.freeL.length → ∀ H', Same H H' → Q .non H') ∧ (¬ (s.lessF x).length < s.freeL.length → ∀ H' t, Same H H' → H t = none → H' t = some (lI (s.lessF x)) → Q (.ref t) H')
theorem ok_H_less (T : Tx K mg c) (D : MD K c.H "without_thing" "Hall.without_thing" sH_without_thing) (MN : MOk P w K mg base CX0 c.O "need_thing" ["self", "one"] 2 (spO_need c)) (MP : MOk P w K mg base CX0 c.H "parted" ["self", "some"] 30 (spH_parted c))
    (MT : MOk P w K mg base CX0 c.H "things" ["self"] 2 (spH_things c)) (MF : MOk P w K mg base CX0 c.H "free" ["self"] 5 (spH_free c)) : MOk P w K mg base CX0 c.H "without_thing" ["self", "one"] 31 (spH_less c) := by
  obtain ⟨f1, fd1, mNt, bNt, FNt⟩ := MN
  obtain ⟨f2, fd2, mPt, bPt, FPt⟩ := MP
  obtain ⟨f3, fd3, mTh, bTh, FTh⟩ := MT
  obtain ⟨f5, fd5, mFr, bFr, FFr⟩ := MF
  have sc : FnScope ["self", "one", "free", "other"] ["self", "one"] (defScope sH_without_thing) := ⟨rfl, rfl, rfl, by decide +kernel, rfl, by decide +kernel, by decide +kernel⟩
  refine D.ok sc (fun _ _ _ _ _ _ us hl => match us, hl with | [_, _], _ => rfl) (fun vs H Q E h => ?_) (fun f cdv A outer s H vs Q E hr h => ?_)
  · obtain ⟨a, st, x, rfl, _⟩ := h; rfl
  · obtain ⟨a, st, x, rfl, HA0, G, hl24, hx, q1, q2⟩ := h
    have hr3 : Room 3 _ := hr.mono (by decide)
    have hr2 : Room 2 _ := hr.mono (by decide)
    have hr5 : Room 5 _ := hr.mono (by decide)
    refine' ⟨_, (pss_cons (ps_expr (pe_meth (pe_fld (pv 0) rfl) T.clO mNt FNt hr2 bNt .nil pass0 (pa_cons (pv 1) pa_nil))) (pss_cons (ps_set (i := 2) sc.nd rfl (Or.inl rfl) (pe_ix ix_tup (pe_meth (pv 0) T.clH mPt FPt hr bPt .nil pass0 (pa_cons ((pe_lc (own := [("other", 3)]) (g := gName 3) rfl sc.nd (pi_list ((pe_meth0 (pv 0) T.clH mTh FTh hr2 bTh .nil pass0))) (blkOk_by (own := [("other", 3)]) (N := ["self", "one", "free", "other"]) (sc := defScope sH_without_thing) (by decide +kernel)) (fun _ _ _ _ _ => pg_name (i := 3) sc.nd rfl (Or.inl rfl)) (fun _ _ _ _ _ => pts_one (pt_cmpR op_ne (pv 3) (pv 1) (nomark _))) (fun _ _ _ _ _ => pv 3))) pa_nil)) pe_int (fun _ _ => rfl))) (pss_cons (ps_if (pt_cmpR op_lt (pe_callB call_len_seq (by rfl) T.zLen PySem.boot_len (pa_cons (pv 2) pa_nil)) (pe_callB call_len_seq (by rfl) T.zLen PySem.boot_len (pa_cons ((pe_meth0 (pv 0) T.clH mFr FFr hr5 bFr .nil pass0)) pa_nil)) (nomark _)) (pss_one (ps_ret pe_non)) pss_nil) (pss_one (ps_ret (pv 2)))))), ?_⟩
    obtain ⟨⟨dx, hh⟩, O, N, nBA, nBE⟩ := id HA0
    obtain ⟨dO, hO⟩ := O.ob
    have hiS : ∀ x ∈ st.linked, (FL.aget st.below x).isSome = true := fun x hx => by
      obtain ⟨m, e⟩ := G.mem hx
      rw [e]; rfl
    refine ⟨_, rfl, a.h, c.H, dx, _, _, rfl, hh, T.clH, T.nHo, fH_order, a.la.o, dO, _, rfl, hO, fO_no ⟨by decide +kernel, by decide +kernel⟩, _, rfl, a.la.o, a.B, st.below, st.told, x, rfl, O, hiS x hx, ?_⟩
    refine ⟨_, rfl, a.h, dx, _, rfl, hh, fH_no ⟨by decide +kernel, by decide +kernel⟩, ?_⟩
    dsimp only [tCons]
    refine lc_new (K := K) V.int (ns := st.linked) (fun y => decide (y ≠ x)) V.int (fun Q' q => ?_) (by omega) (fun x => by rfl) (fun z hz H3 s3 Q' q => ?_) (fun z hz _ H3 s3 Q' q => ⟨_, rfl, q H3 Same.rfl⟩) (fun D H2 hD s2 h2 => ?_)
    · exact ⟨_, rfl, a.h, dx, _, rfl, hh, fH_no ⟨by decide +kernel, by decide +kernel⟩, a, st, rfl, HA0, G, by omega, fun t ht => q t _ (Same.new ht) (SqL.of upd_same)⟩
    · refine ⟨_, rfl, _, rfl, rfl, _, rfl, ?_⟩
      rw [dec_ne_int]; exact q H3 Same.rfl
    · have h2 : H2 D = some (lI (st.rest x)) := h2
      have HA2 := HA0.same s2
      refine ⟨a, st, D, st.rest x, st.rest x, rfl, HA2, G, hl24, h2, List.Perm.refl _, G.po.srt.sublist List.filter_sublist, fun y hy => (List.mem_filter.mp hy).1, fun H3 t p as f s3 ht ht3 LL hf hf3 nf => ?_⟩
      refine ⟨t, _, 1, _, rfl, rfl, SqT.of ht3, rfl, ?_⟩
      have s03 := s2.trans s3
      have HA3 := HA2.same s3
      have hf3 : H3 f = some (lI (st.lessF x)) := hf3
      refine ⟨_, rfl, f, _, rfl, Or.inl (SqL.of hf3), ?_⟩
      refine ⟨_, rfl, a.h, dx, _, rfl, s03 _ _ hh, fH_no ⟨by decide +kernel, by decide +kernel⟩, a, st, rfl, HA3, G, hl24, fun H4 g s4 hg hg4 => ?_⟩
      refine ⟨g, _, rfl, Or.inl (SqL.of hg4), _, _, rfl, rfl, _, rfl, ?_⟩
      rw [List.length_map, List.length_map]
      refine ite2 (fun z => ?_) (fun z => ?_)
      · have z := of_decide_eq_true z
        exact q1 (by have : (FL.free st.lies st.linked st.ab st.be) = st.freeL := rfl; rw [this] at z; omega) _ (s03.trans s4)
      · have z : ¬ (((st.lessF x).length : Int) < (FL.free st.lies st.linked st.ab st.be).length) := fun y => z (decide_eq_true y)
        exact ⟨_, rfl, q2 (by have : (FL.free st.lies st.linked st.ab st.be) = st.freeL := rfl; rw [this] at z; omega) _ f (s03.trans s4) (back_no s2 hf) (s4 _ _ hf3)⟩
/-- in how many of the greatest free sets -/
def FL.HS.stand (s : FL.HS) (x : Int) : Str := if (s.withF x).length + 1 < s.freeL.length then "no" else if (s.lessF x).length < s.freeL.length then "every" else "some"
def spH_stand (c : CC) : Sp := fun vs H Q _ => ∃ (a : HA) (s : FL.HS) (x : Int), vs = [.ref a.h, .int x] ∧ HallAt c H a s ∧ FL.Good s ∧ s.linked.length ≤ 24 ∧ x ∈ s.linked ∧ ∀ H', Same H H' → Q (.str (FL.HS.stand s x)) H'
theorem ok_H_stand (T : Tx K mg c) (D : MD K c.H "standing" "Hall.standing" sH_standing) (MW : MOk P w K mg base CX0 c.H "with_thing" ["self", "one"] 31 (spH_with c)) (ML : MOk P w K mg base CX0 c.H "without_thing" ["self", "one"] 31 (spH_less c)) : MOk P w K mg base CX0 c.H "standing" ["self", "one"] 32 (spH_stand c) := by
  obtain ⟨f1, fd1, mWi, bWi, FWi⟩ := MW
  obtain ⟨f2, fd2, mLe, bLe, FLe⟩ := ML
  have sc : FnScope ["self", "one"] ["self", "one"] (defScope sH_standing) := ⟨rfl, rfl, rfl, by decide +kernel, rfl, by decide +kernel, by decide +kernel⟩
  refine D.ok sc (fun _ _ _ _ _ _ us hl => match us, hl with | [_, _], _ => rfl) (fun vs H Q E h => ?_) (fun f cdv A outer s H vs Q E hr h => ?_)
  · obtain ⟨a, st, x, rfl, _⟩ := h; rfl
  · obtain ⟨a, st, x, rfl, HA0, G, hl24, hx, k⟩ := h
    refine' ⟨_, (pss_cons (ps_if (pt_cmpR op_isN (pe_meth (pv 0) T.clH mWi FWi hr bWi .nil pass0 (pa_cons (pv 1) pa_nil)) pe_non (nomark _)) (pss_one (ps_ret pe_str)) pss_nil) (pss_cons (ps_if (pt_cmpR op_isN (pe_meth (pv 0) T.clH mLe FLe hr bLe .nil pass0 (pa_cons (pv 1) pa_nil)) pe_non (nomark _)) (pss_one (ps_ret pe_str)) pss_nil) (pss_one (ps_ret (pe_str))))), ?_⟩
    obtain ⟨⟨dx, hh⟩, O, N, nBA, nBE⟩ := id HA0
    unfold FL.HS.stand at k
    refine ⟨_, rfl, a.h, dx, _, rfl, hh, fH_no ⟨by decide +kernel, by decide +kernel⟩, _, rfl, a, st, x, rfl, HA0, G, hl24, hx, fun z H2 s2 => ?_, fun z H2 t s2 ht ht2 => ?_⟩
    · rw [if_pos z] at k
      exact ⟨rfl, _, rfl, iteT (k _ s2)⟩
    · rw [if_neg z] at k
      refine ⟨rfl, _, rfl, iteF ?_⟩
      have HA2 := HA0.same s2
      refine ⟨_, rfl, a.h, dx, _, rfl, s2 _ _ hh, fH_no ⟨by decide +kernel, by decide +kernel⟩, _, rfl, a, st, x, rfl, HA2, G, hl24, hx, fun z H3 s3 => ?_, fun z H3 t s3 ht ht2 => ?_⟩
      · rw [if_pos z] at k
        exact ⟨rfl, _, rfl, iteT (k _ (s2.trans s3))⟩
      · rw [if_neg z] at k
        exact ⟨rfl, _, rfl, iteF (k _ (s2.trans s3))⟩
end
end FW

set_option maxHeartbeats 4000000
/-! The law's helpers 10: parted_right. -/
namespace FW
open PySem PySem.Spec PyProof.Rows L2
section
variable {X : Cx}
theorem listOfK (K : PySem.W.Frag) (e : X.K = K := by rfl) : CallR X (.type "list") (fun xs H Q => ∃ p ys, xs = [.ref p] ∧ (SqL K H p ys ∨ SqT K H p ys) ∧ ∀ l, H l = none → Q (.ref l) (upd H l (.lst ys))) := by subst e; exact call_list_of
end
section
variable {K : PySem.W.Frag}
/-- a comprehension whose values are lists laid anew -/
theorem lc_lists {α : Type} (g : α → V) {a : Addr} {ns : List α} {tl : TE} {tt : TT} {te : TE} {j : Nat} {vs : List Nat} {σ : L2.St} {H : Hp} {Q : VK} (f : α → List Int)
    (htl : ∀ Q' : VK, Q' (.ref a) H → tl σ H Q') (hS : SqL K H a (ns.map g)) (hn : ns.length ≤ 1000) (hw : ∀ x, wipe ((wipe σ vs).set j (some x)) vs = wipe σ vs)
    (ht : ∀ z ∈ ns, ∀ H1, Same H H1 → ∀ Q' : Bool → Hp → Prop, Q' true H1 → tt ((wipe σ vs).set j (some (g z))) H1 Q')
    (he : ∀ z ∈ ns, ∀ H1, Same H H1 → ∀ Q' : VK, (∀ b H2, Same H1 H2 → H1 b = none → H2 b = some (lI (f z)) → Q' (.ref b) H2) → te ((wipe σ vs).set j (some (g z))) H1 Q')
    (k : ∀ D H' bs, Same H H' → LLAt H H' D bs (ns.map f) → Q (.ref D) H') : tLc (iList K tl) (gName j) tt te vs σ H Q := by
  refine htl _ ⟨a, rfl, ⟨_, hS⟩, fun D hD => lc_list (K := K) (a := a) (xs := ns.map g) (fun i H2 => Same H H2 ∧ ∃ bs, LLAt H H2 D bs ((ns.take i).map f)) ⟨Same.new hD, [], upd_same, trivial, by simp, fun z hz => by rw [List.mem_singleton.mp hz]; exact hD⟩ (fun i H2 _ e => e.1.seq hS) (fun i x H2 hi e => ?_) (fun H2 e => ?_)⟩
  · obtain ⟨s1, bs, A⟩ := e
    obtain ⟨z, rfl, hz⟩ := itemG hi
    have et : ns.take (i + 1) = ns.take i ++ [z] := by rw [List.take_add_one, hz]; rfl
    refine ⟨hw _, ht z (List.mem_of_getElem? hz) _ s1 _ ?_⟩
    rw [if_pos rfl]
    refine he z (List.mem_of_getElem? hz) _ s1 _ fun b H4 s4 hb hb4 => ⟨_, s4 _ _ A.at_, ?_, fun x u e => ?_, bs ++ [b], ?_, ?_, ?_, fun x hx => ?_⟩
    · rw [List.length_map, A.tt.len, List.length_map]
      refine small1000 (Nat.le_trans (List.length_take_le _ _) ?_)
      exact Nat.le_of_lt (Nat.lt_of_lt_of_le (List.getElem?_eq_some_iff.mp hz).1 hn)
    · rw [upd_ne (ne_of_none e hD)]; exact s4 _ _ (s1 _ _ e)
    · rw [upd_same, List.map_append]; rfl
    · rw [et, List.map_append]
      refine LLT.snoc ?_ (A.tt.sameM fun x hx u e => ?_)
      · rw [upd_ne (fun (z : b = D) => by rw [z, A.at_] at hb; cases hb)]; exact hb4
      · rw [upd_ne (fun (z : x = D) => (List.nodup_cons.mp A.nd).1 (z ▸ hx))]; exact s4 _ _ e
    · refine List.nodup_cons.mpr ⟨fun z => ?_, FL.nodup_snoc (List.nodup_cons.mp A.nd).2 fun z => ?_⟩
      · rcases List.mem_append.mp z with z | z
        · exact (List.nodup_cons.mp A.nd).1 z
        · rw [← List.mem_singleton.mp z, A.at_] at hb; cases hb
      · obtain ⟨l, e⟩ := A.tt.is b z
        rw [hb] at e; cases e
    · rcases List.mem_cons.mp hx with rfl | hx
      · exact hD
      · rcases List.mem_append.mp hx with hx | hx
        · exact A.new x (List.mem_cons_of_mem _ hx)
        · rw [List.mem_singleton.mp hx]; exact back_no s1 hb
  · obtain ⟨s1, bs, A⟩ := e
    rw [List.length_map, List.take_length] at A
    exact k D H2 bs s1 A
end
theorem ints_inj : ∀ {l m : List Int}, l.map V.int = m.map V.int → l = m
  | [], [], _ => rfl
  | [], _ :: _, h => by cases h
  | _ :: _, [], h => by cases h
  | a :: l, b :: m, h => by
    rw [List.map_cons, List.map_cons] at h
    obtain ⟨h1, h2⟩ := List.cons.inj h
    rw [V.int.inj h1, ints_inj h2]
/-- a tuple of ladders and a free set, as data -/
def ptD (ll : List (List Int)) (l : List Int) : PyData := .tuple [iiD ll, iD l]
theorem ptD_sh (ll : List (List Int)) (l : List Int) : SeqAt.shaped (ptD ll l) = true := by
  refine shaped_of (lay_tuple fun d hd => ?_) (Nat.le_trans (depth_tuple (n := 2) fun d hd => ?_) (by decide))
  · rcases List.mem_cons.mp hd with rfl | hd
    · exact (iiD_ok ll).1
    · rw [List.mem_singleton.mp hd]; exact (iD_ok l).1
  · rcases List.mem_cons.mp hd with rfl | hd
    · exact (iiD_ok ll).2
    · rw [List.mem_singleton.mp hd]; exact Nat.le_trans (iD_ok l).2 (by decide)
theorem ptD_eq (ll : List (List Int)) (l : List Int) : PyData.eqv (ptD ll l) (ptD ll l) = true := by
  unfold ptD PyData.eqv PyData.eqvAll PyData.eqvAll PyData.eqvAll
  rw [(eqv_iiD ll ll).mpr rfl, (eqv_iD l l).mpr rfl]; rfl
theorem part_lad {st : FL.HS} (G : FL.Good st) {ts l : List Int} (pm : ts.Perm l) (ls : l.Pairwise (· < ·)) (lm : ∀ x ∈ l, x ∈ st.linked) : LadR st ts (FL.partL st.lies l) := by
  have P := G.po.sub ls lm
  obtain ⟨M, N⟩ := FL.jab_ok P
  refine ⟨(FL.ladders_perm P M).trans pm.symm, fun r hr => ?_, fun r hr => ?_, fun x hx => lm x (pm.mem_iff.mp hx), ?_⟩
  · obtain ⟨x, _, rfl⟩ := List.mem_map.mp hr
    exact FL.up_ne _ _
  · obtain ⟨x, hx, rfl⟩ := List.mem_map.mp hr
    exact FL.up_chain P M _ _ (FL.mem_bots.mp hx).1
  · have e : (FL.partL st.lies l).map (fun l => l.headD 0) = FL.bots l (FL.jab st.lies l).2 := by
      unfold FL.partL FL.ladders
      rw [List.map_map]
      conv => rhs; rw [← List.map_id (FL.bots l (FL.jab st.lies l).2)]
      refine List.map_congr_left fun x _ => ?_
      obtain ⟨t, ht⟩ := FL.up_head (ab := (FL.jab st.lies l).1) l.length x
      show (FL.up (FL.jab st.lies l).1 l.length x).headD 0 = x
      rw [ht]; rfl
    rw [e]
    exact ls.sublist List.filter_sublist
section
variable {P : Program} {w : World} {K : PySem.W.Frag} {mg : Str → Option Value} {base : Heap} {c : CC}
def spPRight (c : CC) : Sp := fun vs H Q _ => ∃ (a : HA) (st : FL.HS) (b q : Addr) (ps : List (Int × Addr)) (ts l : List Int), vs = [.ref a.h, .ref b, .ref q] ∧ WAt c H a st b ps ∧ st.linked.length ≤ 24 ∧ H q = some (lI ts) ∧ ts.Perm l ∧ l.Pairwise (· < ·) ∧ (∀ x ∈ l, x ∈ st.linked) ∧
  ∀ H', Same H H' → Q (.bl true) H'
end
end FW

set_option maxHeartbeats 4000000
/-! The law's helpers, k08: all sets of some things. -/
namespace FW
open PySem PySem.Spec PyProof.Rows L2
/-- a list of lists, each with its address -/
abbrev gR (q : Addr × List Int) : V := .ref q.1
structure LK (H : Hp) (p : Addr) (qs : List (Addr × List Int)) : Prop where
  at_ : H p = some (.lst (qs.map gR))
  el : ∀ q ∈ qs, H q.1 = some (lI q.2)
theorem LK.same {H H' : Hp} {p : Addr} {qs : List (Addr × List Int)} (h : LK H p qs) (s : Same H H') : LK H' p qs := ⟨s _ _ h.at_, fun q hq => s _ _ (h.el q hq)⟩
theorem zipL {H : Hp} : ∀ {bs : List Addr} {ll : List (List Int)}, LLT H bs ll → ∃ qs : List (Addr × List Int), qs.map gR = bs.map V.ref ∧ qs.map (·.2) = ll ∧ ∀ q ∈ qs, H q.1 = some (lI q.2)
  | [], [], _ => ⟨[], rfl, rfl, nofun⟩
  | b :: bs, l :: ll, h => by
    obtain ⟨h1, h2⟩ := h
    obtain ⟨qs, e1, e2, e3⟩ := zipL h2
    exact ⟨(b, l) :: qs, by rw [List.map_cons, List.map_cons, e1], by rw [List.map_cons, e2], fun q hq => (List.mem_cons.mp hq).elim (fun z => by rw [z]; exact h1) (e3 q)⟩
theorem itemR {qs : List (Addr × List Int)} {i : Nat} {y : V} (h : (qs.map gR)[i]? = some y) : ∃ q, y = gR q ∧ qs[i]? = some q := by
  rw [List.getElem?_map] at h
  obtain ⟨q, hq, rfl⟩ := Option.map_eq_some_iff.mp h
  exact ⟨q, rfl, hq⟩
theorem size_le {n : Nat} (h : n ≤ 1000) : n ≤ sizeLine := Nat.le_trans h (by decide)
section
variable {P : Program} {w : World} {K : PySem.W.Frag} {mg : Str → Option Value} {base : Heap} {c : CC}
def spSets (K : PySem.W.Frag) : Sp := fun vs H Q _ => ∃ (q : Addr) (ns : List Int), vs = [.ref q] ∧ SqL K H q (ns.map V.int) ∧ ns.length ≤ 7 ∧
  ∀ H' p qs, Same H H' → LK H' p qs → qs.map (·.2) = FL.subs ns → Q (.ref p) H'
theorem ok_sets (D : GD K mg "_law_sets" s_w_sets) : GOk P w K mg base CX0 "_law_sets" ["_law_things"] 1 (spSets K) := by
  have sc : FnScope ["_law_things", "_law_found", "_law_one", "_law_some_here"] ["_law_things"] (defScope s_w_sets) := ⟨rfl, rfl, rfl, by decide +kernel, rfl, by decide +kernel, by decide +kernel⟩
  refine D.ok sc (fun _ _ _ _ _ _ us hl => match us, hl with | [_], _ => rfl) (fun vs H Q E h => ?_) (fun f cdv A outer s H vs Q E hr h => ?_)
  · obtain ⟨q, ns, rfl, _⟩ := h; rfl
  · obtain ⟨q, ns, rfl, hq, hn, k⟩ := h
    refine' ⟨_, (pss_cons (ps_set (i := 1) sc.nd rfl (Or.inl rfl) (pe_lst (pa_cons (pe_lst pa_nil) pa_nil))) (pss_cons (ps_for PassesOwn.never rfl (pi_list (pv 0)) (pg_name (i := 2) sc.nd rfl (Or.inr rfl)) (pss_one (ps_set (i := 1) sc.nd rfl (Or.inl rfl) (pe_op op_cat (pv 1) (pe_lc (own := [("_law_some_here", 3)]) (g := gName 3) rfl sc.nd (pi_list (pv 1)) (blkOk_by (own := [("_law_some_here", 3)]) (N := ["_law_things", "_law_found", "_law_one", "_law_some_here"]) (sc := defScope s_w_sets) (by decide +kernel)) (fun _ _ _ _ _ => pg_name (i := 3) sc.nd rfl (Or.inl rfl)) (fun _ _ _ _ _ => pts_nil) (fun _ _ _ _ _ => pe_op op_cat (pv 3) (pe_lst (pa_cons (pv 2) pa_nil)))))))) (pss_one (ps_ret (pv 1))))), ?_⟩
    refine ⟨Nat.zero_le _, fun e he => ⟨by show 1 ≤ sizeLine; decide, fun p hp => ?_⟩⟩
    have s1 : Same H (upd H e (.lst [])) := Same.new he
    have e1 : (upd H e (.lst [])) e = some (lI []) := upd_same
    generalize upd H e (.lst []) = H1 at s1 e1 hp
    have s2 := s1.trans (Same.new (o := .lst [.ref e]) hp)
    have e2 := Same.new (o := .lst [.ref e]) hp _ _ e1
    have p2 : (upd H1 p (.lst [.ref e])) p = some (.lst ([(e, ([] : List Int))].map gR)) := upd_same
    refine ⟨_, rfl, q, rfl, ⟨_, s2.seq hq⟩, for_list (K := K) (a := q) (xs := ns.map V.int) (fun i σ H3 => Same H H3 ∧ ∃ p qs v2, σ = [some (.ref q), some (.ref p), v2, none] ∧ LK H3 p qs ∧ qs.map (·.2) = FL.subs (ns.take i))
      ⟨s2, p, [(e, [])], none, rfl, ⟨p2, fun r hr => by rw [List.mem_singleton.mp hr]; exact e2⟩, rfl⟩ (fun i σ H3 _ e => e.1.seq hq) ?_ ?_⟩
    · rintro i y σ H3 hi ⟨s3, p, qs, v2, rfl, lk, eq⟩
      obtain ⟨x, rfl, hx⟩ := itemI hi
      have et : ns.take (i + 1) = ns.take i ++ [x] := by rw [List.take_add_one, hx]; rfl
      have hlen : qs.length ≤ 128 := by
        have := congrArg List.length eq
        rw [List.length_map, FL.subs_len] at this
        rw [this]
        exact Nat.le_trans (Nat.pow_le_pow_right (by decide) (by rw [List.length_take]; omega : (ns.take i).length ≤ 7)) (by decide)
      have hel : ∀ r ∈ qs, r.2.length ≤ 7 := fun r hr => by
        have : r.2 ∈ FL.subs (ns.take i) := by rw [← eq]; exact List.mem_map.mpr ⟨r, hr, rfl⟩
        have := (FL.mem_subs.mp this).length_le
        rw [List.length_take] at this; omega
      refine ⟨_, rfl, ?_⟩
      refine lc_lists (K := K) gR (a := p) (ns := qs) (fun r => r.2 ++ [x]) (fun Q' q => ⟨_, rfl, q⟩) (SqL.of lk.at_) (by omega) (fun x => by rfl) (fun z hz H3 s3 Q' q => q) (fun r hr H4 s4 Q' q' => ?_) (fun D H4 bs s4 A => ?_)
      · refine ⟨_, rfl, _, rfl, by show 1 ≤ sizeLine; decide, fun o ho => ?_⟩
        have r5 := Same.new (o := .lst [.int x]) ho _ _ (s4 _ _ (lk.el r hr))
        have o5 : (upd H4 o (.lst [.int x])) o = some (.lst [.int x]) := upd_same
        have s5 := Same.new (o := .lst [.int x]) ho
        generalize upd H4 o (.lst [.int x]) = H5 at r5 o5 s5
        refine ⟨r.1, o, _, _, rfl, rfl, r5, o5, by rw [List.length_map]; exact size_le (by have := hel r hr; simp; omega), fun b hb => ?_⟩
        refine q' b _ (s5.trans (Same.new hb)) (back_no s5 hb) ?_
        rw [upd_same]
        show _ = some (HO.lst ((r.2 ++ [x]).map V.int))
        rw [List.map_append]; rfl
      · obtain ⟨rs, e1, e2, e3⟩ := zipL A.tt
        have hp4 := s4 _ _ lk.at_
        refine ⟨p, D, _, _, rfl, rfl, hp4, by rw [A.at_, ← e1], ?_, fun p5 hp5 => ?_⟩
        · have := congrArg List.length e2
          rw [List.length_map, List.length_map] at this
          rw [List.length_map, List.length_map, this]
          exact size_le (by omega)
        have s5 := s4.trans (Same.new (o := .lst (qs.map gR ++ rs.map gR)) hp5)
        refine ⟨s3.trans s5, p5, qs ++ rs, _, rfl, ⟨by rw [upd_same, List.map_append], fun r hr => ?_⟩, ?_⟩
        · rcases List.mem_append.mp hr with hr | hr
          · exact s5 _ _ (lk.el r hr)
          · exact Same.new hp5 _ _ (e3 r hr)
        · rw [et, FL.subs_snoc, List.map_append, e2, ← eq, List.map_map]; rfl
    · rintro σ H3 ⟨s3, p, qs, v2, rfl, lk, eq⟩
      rw [List.length_map, List.take_length] at eq
      exact ⟨_, rfl, k H3 p qs s3 lk eq⟩
end
end FW

set_option maxHeartbeats 4000000
/-! The law's helpers, k08: the two defs within the law, handed on; all by. -/
namespace FW
open PySem PySem.Spec PyProof.Rows L2 LamX NdefX
section
variable {P : Program} {w : World} {K : PySem.W.Frag} {mg : Str → Option Value} {base : Heap} {c : CC}
abbrev stT (m : Bool) : Stmt := (defBody s_law).getD (if m then 4 else 5) (.Pass ⟨0, 0, 0, 0⟩)
abbrev nmT (m : Bool) : Str := if m then "_law_two_apart" else "_law_two_in_row"
abbrev mkF (m : Bool) (a a' : Addr) : NF := NF.of (stT m) (nmT m) (("law.<locals>." : Str) ++ nmT m) [("_law_below", a)] a'
def byT (lies : Int → Int → Bool) (m : Bool) (x y : Int) : Bool := if m then FL.apart lies x y else !FL.apart lies x y
def spTwo (m : Bool) : List (Option V) → Sp := fun ws vs H Q _ => ∃ (b : Addr) (x y : Int) (ps : List (Int × Addr)) (st : FL.HS), ws = [some (.ref b)] ∧ vs = [.int x, .int y] ∧ LBR H b ps st.law ∧ FL.Good st ∧ x ∈ st.linked ∧ y ∈ st.linked ∧ Q (.bl (byT st.lies m x y)) H
theorem ok_two (G1 : GOk P w K mg base CX0 "_law_apart" ["_law_below", "_law_one", "_law_other"] 1 spApart) (m : Bool) (a a' f : Addr) : NOk P w K mg base CX0 2 f (mkF m a a') ["_law_one", "_law_other"] ["_law_below"] (spTwo m) := by
  obtain ⟨f1, fd1, g1, k1, b1, F1⟩ := G1
  cases m with
  | true =>
    have S : NScope ["_law_one", "_law_other", "_law_below"] ["_law_one", "_law_other"] ["_law_below"] (C8.fnScope (stT true)) := nscope_by (by decide +kernel)
    refine nok_of S (fun doc pm ctv us hl => match us, hl with | [_, _], _ => rfl) (fun ws vs H Q E h => ?_) fun A outer s H vs ws Q E hr hf hc hl h => ?_
    · obtain ⟨b, x, y, ps, st, _, rfl, _⟩ := h; rfl
    · obtain ⟨b, x, y, ps, st, rfl, rfl, B, G, hx, hy, k⟩ := h
      refine ⟨_, pss_one (ps_ret (pe_call F1 hr (by rfl) g1 k1 b1 .nil pass0 (pa_cons (pv 2) (pa_cons (pv 0) (pa_cons (pv 1) pa_nil))))), ?_⟩
      exact ⟨_, rfl, _, rfl, _, rfl, b, x, y, ps, st, rfl, B, G, hx, hy, k⟩
  | false =>
    have S : NScope ["_law_one", "_law_other", "_law_below"] ["_law_one", "_law_other"] ["_law_below"] (C8.fnScope (stT false)) := nscope_by (by decide +kernel)
    refine nok_of S (fun doc pm ctv us hl => match us, hl with | [_, _], _ => rfl) (fun ws vs H Q E h => ?_) fun A outer s H vs ws Q E hr hf hc hl h => ?_
    · obtain ⟨b, x, y, ps, st, _, rfl, _⟩ := h; rfl
    · obtain ⟨b, x, y, ps, st, rfl, rfl, B, G, hx, hy, k⟩ := h
      refine ⟨_, pss_one (ps_ret (pe_not (pe_call F1 hr (by rfl) g1 k1 b1 .nil pass0 (pa_cons (pv 2) (pa_cons (pv 0) (pa_cons (pv 1) pa_nil)))))), ?_⟩
      exact ⟨_, rfl, _, rfl, _, rfl, b, x, y, ps, st, rfl, B, G, hx, hy, _, rfl, k⟩
/-- the two of them, as they are called -/
def spF : NF → List (Option V) → Sp := fun F ws vs H Q E => ∃ (m : Bool) (a a' : Addr), F = mkF m a a' ∧ spTwo m ws vs H Q E
theorem ok_any (G1 : GOk P w K mg base CX0 "_law_apart" ["_law_below", "_law_one", "_law_other"] 1 spApart) (f : Addr) (F : NF) : NOk P w K mg base CX0 2 f F ["_law_one", "_law_other"] ["_law_below"] (spF F) :=
  ⟨fun ws vs H Q E ⟨m, a, a', _, b, x, y, ps, st, _, e, _⟩ => by rw [e]; rfl, fun A outer s H us vs ws Q E hr e0 hf hc C r ⟨m, a, a', e, q⟩ => by
    subst e
    exact (ok_two G1 m a a' f).run A outer s H us vs ws Q E hr e0 hf hc C r q⟩
theorem lbr_unc {H : Hp} {a : Addr} {v : V} {o : Obj} {b : Addr} {ps : List (Int × Addr)} {d : List (Int × List Int)} (h : LBR H b ps d) (hc : H a = some (CellO a v o)) : LBR (unc H a) b ps d := by
  have ne : ∀ {x : Addr} {u : HO}, H x = some u → (∀ ob φ, u ≠ .frz ob (.ext φ)) → x ≠ a := fun {x u} e n z => by
    rw [z, hc] at e
    exact n _ _ (Option.some.inj e).symm
  refine ⟨?_, h.2.same fun p hp u e => ?_⟩
  · rcases h.1 with e | ⟨ob, e⟩
    · exact Or.inl ((unc_ne (ne e fun _ _ z => nomatch z)).trans e)
    · exact Or.inr ⟨ob, (unc_ne (ne e fun _ _ z => nomatch (HO.frz.inj z).2)).trans e⟩
  · obtain ⟨l, hl⟩ := h.2.is p hp
    exact (unc_ne (ne hl fun _ _ z => nomatch z)).trans e
theorem back_unc {H : Hp} {a : Addr} {o : HO} (hc : H a = some o) : upd (unc H a) a o = H := by
  funext b
  by_cases e : b = a
  · rw [e, upd_same, hc]
  · rw [upd_ne e, unc_ne e]
def spAllBy : Sp := fun vs H Q _ => ∃ (q f : Addr) (m : Bool) (a a' : Addr) (o : Obj) (b : Addr) (ps : List (Int × Addr)) (st : FL.HS) (l : List Int), vs = [.ref q, .ref f] ∧ H q = some (lI l) ∧ H f = some (FnO f (mkF m a a')) ∧ H a' = some (CodeO a' (mkF m a a').qual) ∧ H a = some (CellO a (.ref b) o) ∧
  LBR H b ps st.law ∧ FL.Good st ∧ (∀ x ∈ l, x ∈ st.linked) ∧ l.length ≤ 7 ∧ ∀ H', Same H H' → Q (.bl (FL.allBy (byT st.lies m) l)) H'
theorem ok_all_by (zE : mg "enumerate" = none) (zA : mg "all" = none) (D : GD K mg "_law_all_by" s_w_all_by) (G1 : GOk P w K mg base CX0 "_law_apart" ["_law_below", "_law_one", "_law_other"] 1 spApart) : GOk P w K mg base CX0 "_law_all_by" ["_law_some_here", "_law_is_right"] 3 spAllBy := by
  have sc : FnScope ["_law_some_here", "_law_is_right", "_law_k", "_law_one", "_law_other"] ["_law_some_here", "_law_is_right"] (defScope s_w_all_by) := ⟨rfl, rfl, rfl, by decide +kernel, rfl, by decide +kernel, by decide +kernel⟩
  refine D.ok sc (fun _ _ _ _ _ _ us hl => match us, hl with | [_, _], _ => rfl) (fun vs H Q E h => ?_) (fun f cdv A outer s H vs Q E hr h => ?_)
  · obtain ⟨q, f, m, a, a', o, b, ps, st, l, rfl, _⟩ := h; rfl
  · obtain ⟨q, f, m, a, a', o, b, ps, st, l, rfl, hq, hf, ha', ha, B, G, hm, hn, k⟩ := h
    have hr2 : Room 2 _ := hr
    refine' ⟨_, (pss_cons (ps_for PassesOwn.never rfl (pi_enum (by rfl) zE (pa_cons (pv 0) pa_nil)) (pg_tup (by rfl) (pgs_cons (pg_name (i := 2) sc.nd rfl (Or.inl rfl)) (pgs_cons (pg_name (i := 3) sc.nd rfl (Or.inr rfl)) pgs_nil)))
        (pss_one (ps_if (pt_not (pt_val (pe_callB (cr_all rfl) (by rfl) zA (by decide +kernel) (pa_cons ((pe_lc (own := [("_law_other", 4)]) (g := gName 4) rfl sc.nd (pi_list (pe_slice sl_list (pv 0) po_none (po_some (pv 2)))) (blkOk_by (own := [("_law_other", 4)]) (N := ["_law_some_here", "_law_is_right", "_law_k", "_law_one", "_law_other"]) (sc := defScope s_w_all_by) (by decide +kernel)) (fun _ _ _ _ _ => pg_name (i := 4) sc.nd rfl (Or.inl rfl)) (fun _ _ _ _ _ => pts_nil) (fun _ _ _ _ _ => pe_callC (ok := fun _ => True) (sp := spF) (i := 1) (k := 2) (fun f F _ => ok_any G1 f F) (fun _ _ _ _ _ z => z) hr2 (Nat.le_refl _) rfl (Or.inr (Or.inl rfl)) (pa_cons (pv 3) (pa_cons (pv 4) pa_nil))))) pa_nil)))) (pss_one (ps_ret pe_bl)) pss_nil))) (pss_one (ps_ret (pe_bl)))), ?_⟩
    refine ⟨_, rfl, q, _, rfl, SqL.of hq, for_it (walk_enum (K := K) (a := q) (xs := l.map V.int))
      (fun i σ H2 => Same H H2 ∧ ∃ v2 v3, σ = [some (.ref q), some (.ref f), v2, v3, none] ∧ ((List.range i).all fun k => (l.take k).all fun o => byT st.lies m (l.getD k 0) o) = true)
      ⟨Same.rfl, _, _, rfl, rfl⟩ (fun i σ H2 _ e => SqL.of (e.1 _ _ hq)) ?_ ?_⟩
    · rintro i y σ H2 H3 hi ⟨s2, v2, v3, rfl, al⟩ ⟨T', u, v, rfl, hT', rfl, eu, ev⟩
      have eu : V.int (i : Nat) = u := Option.some.inj eu
      subst eu
      obtain ⟨x, rfl, hx⟩ := itemI ev
      have s3 := s2.trans (Same.new (o := .tup [V.int (i : Nat), V.int x]) hT')
      have t3 : (upd H2 T' (.tup [V.int (i : Nat), V.int x])) T' = some (.tup [V.int (i : Nat), V.int x]) := upd_same
      generalize upd H2 T' (.tup [V.int (i : Nat), V.int x]) = H3 at s3 t3
      have hil := (List.getElem?_eq_some_iff.mp hx).1
      refine ⟨T', _, rfl, SqT.of t3, rfl, _, _, rfl, _, _, rfl, rfl, ?_⟩
      dsimp only [gName, tIfS, tNot, tB, tCB, tCons]
      refine lc_new (K := K) V.int (ns := l.take i) (fun _ => true) (fun z => .bl (byT st.lies m x z)) (fun Q' q' => ?_) (by rw [List.length_take]; omega) (fun x => by rfl) (fun z hz H4 s4 Q' q' => q' H4 Same.rfl) (fun z hz _ H4 s4 Q' q' => ?_) (fun t H4 ht s4 h4 => ?_)
      · refine ⟨_, rfl, _, rfl, _, rfl, q, _, rfl, SqL.of (s3 _ _ hq), fun p hp => ?_⟩
        rw [cut_to]
        exact q' p _ (Same.new hp) (SqL.of upd_same)
      · have S := s3.trans s4
        have ha4 := S _ _ ha
        refine ⟨f, mkF m a a', rfl, S _ _ hf, _, rfl, _, rfl, S _ _ hf, S _ _ ha', trivial, a, _, o, rfl, ha4, m, a, a', rfl, b, x, z, ps, st, rfl, rfl, lbr_unc (B.same S) ha4, G, hm x (List.mem_of_getElem? hx), hm z (List.mem_of_mem_take hz), ?_⟩
        dsimp only
        rw [back_unc ha4]
        exact q' H4 Same.rfl
      · refine ⟨t, (l.take i).map fun z => byT st.lies m x z, rfl, SqL.of (by rw [h4, filter_all, List.map_map]; rfl), _, rfl, ?_⟩
        have e0 : ((l.take i).map fun z => byT st.lies m x z).all id = (l.take i).all fun z => byT st.lies m (l.getD i 0) z := by
          rw [List.all_map, List.getD_eq_getElem?_getD, hx]; rfl
        rw [e0]
        refine ite2 (fun z => ?_) (fun z => ?_)
        · have : FL.allBy (byT st.lies m) l = false := by
            unfold FL.allBy
            rw [List.all_eq_false]
            exact ⟨i, List.mem_range.mpr hil, by simpa using z⟩
          rw [this] at k
          exact k H4 (s3.trans s4)
        · refine ⟨s3.trans s4, _, _, rfl, ?_⟩
          rw [List.range_succ, List.all_append, al, List.all_cons, List.all_nil]
          simpa using z
    · rintro σ H2 ⟨s2, v2, v3, rfl, al⟩
      rw [List.length_map] at al
      have : FL.allBy (byT st.lies m) l = true := al
      rw [this] at k
      exact k H2 s2
end
end FW

set_option maxHeartbeats 4000000
/-! k08: a def whose code object is told; the comprehensions of the law. -/
namespace FW
open PySem PySem.Spec PyProof.Rows L2 LamX NdefX
theorem fd_okC {P : Program} {w : World} {K : PySem.W.Frag} {mg : Str → Option Value} {base : Heap} {x : Str} {st : Stmt} {ps N : List Str} {k : Nat} {sp : Sp} {f cd : Addr} {fd : FuncData} (F : FD K x st f fd) (hcd : fd.code = .ref cd) (S : FnScope N ps (defScope st))
    (len : ∀ vs H Q E, sp vs H Q E → vs.length = ps.length)
    (hbody : ∀ (f : Addr) (A : Around) (outer : List Env) (s : Shared) (H : Hp) (vs : List V) (Q : VK) (E : XK), Room k (A.deeper (envOfC x (defScope st) s.heap.objs.size f (.ref cd))) → sp vs H Q E →
      ∃ t, PSs (cxOf CX0 P w K mg base N x (defScope st) f (.ref cd) A outer s H E).nox (defBody st) t ∧ t { nx := fun _ H' => Q .non H', rt := Q } (start N vs) H) : FnOk P w K mg base CX0 (k + 1) f fd ps sp := by
  obtain ⟨oc, od, dV, kV, doc, pm, an, cdv, ct, osl, rfl, lk, hci, _, _⟩ := F.ex
  obtain rfl : cdv = .ref cd := hcd
  refine fn_of lk hci S len fun A outer s H vs Q E hr h => ?_
  obtain ⟨t, h, q⟩ := hbody f A outer s H vs Q E hr h
  exact ⟨t, h.nox, q⟩
/-- a comprehension over a list, the cell known within -/
theorem lcC_same {K : PySem.W.Frag} {α : Type} (g : α → V) {nm : Str} {cs : List (Str × Addr)} {i : Nat} {v : V} {a : Addr} {ns : List α} {tl : TE} {tt : TT} {te : TE} {j : Nat} {vs : List Nat} {σ : L2.St} {H : Hp} {Q : VK} (p : α → Bool) (f : α → V)
    (hv : σ[i]? = some (some v)) (htl : ∀ Q' : VK, Q' (.ref a) H → tl σ H Q') (hS : SqL K H a (ns.map g)) (hn : ns.length ≤ 1000) (hw : ∀ x, wipe ((wipe σ vs).set j (some x)) vs = wipe σ vs)
    (ht : ∀ z ∈ ns, ∀ c o H1, cs.lookup nm = some c → H1 c = some (CellO c v o) → Same H H1 → ∀ Q' : Bool → Hp → Prop, (∀ H2, Same H1 H2 → Q' (p z) H2) → tt ((wipe σ vs).set j (some (g z))) H1 Q')
    (he : ∀ z ∈ ns, p z = true → ∀ H1, Same H H1 → ∀ Q' : VK, (∀ H2, Same H1 H2 → Q' (f z) H2) → te ((wipe σ vs).set j (some (g z))) H1 Q')
    (k : ∀ D H', H D = none → Same H H' → H' D = some (.lst ((ns.filter p).map f)) → Q (.ref D) H') : tLcC nm cs i (iList K tl) (gName j) tt te vs σ H Q := by
  refine ⟨v, hv, htl _ ⟨a, rfl, ⟨_, hS⟩, fun c o hcl hc D hD nDc => ?_⟩⟩
  have comm : upd (upd H D (.lst [])) c (CellO c v o) = upd (upd H c (CellO c v o)) D (.lst []) := by
    funext b
    by_cases e1 : b = c
    · have : b ≠ D := fun e2 => nDc (e2.symm.trans e1)
      rw [upd_ne this, e1, upd_same, upd_same]
    · by_cases e2 : b = D
      · rw [upd_ne e1, e2, upd_same, upd_same]
      · rw [upd_ne e1, upd_ne e2, upd_ne e2, upd_ne e1]
  have s0 : Same H (upd H c (CellO c v o)) := Same.new hc
  have hD1 : (upd H c (CellO c v o)) D = none := (upd_ne nDc).trans hD
  rw [comm]
  refine lc_list (K := K) (a := a) (xs := ns.map g) (Qd := fun H2 => H2 c = some (CellO c v o) → Q (.ref D) (unc H2 c)) (fun i H2 => Same H H2 ∧ H2 c = some (CellO c v o) ∧ H2 D = some (.lst (((ns.take i).filter p).map f)))
    ⟨s0.trans (Same.new hD1), Same.new hD1 _ _ upd_same, upd_same⟩ (fun i H2 _ e => e.1.seq hS) (fun i x H2 hi e => ?_) (fun H2 e hc2 => ?_)
  · obtain ⟨s1, c1, e1⟩ := e
    obtain ⟨z, rfl, hz⟩ := itemG hi
    refine ⟨hw _, ht z (List.mem_of_getElem? hz) c o _ hcl c1 s1 _ fun H3 s3 => ?_⟩
    have e3 := s3 _ _ e1
    have c3 := s3 _ _ c1
    have et : ns.take (i + 1) = ns.take i ++ [z] := by rw [List.take_add_one, hz]; rfl
    cases hp : p z with
    | true =>
      rw [if_pos rfl]
      refine he z (List.mem_of_getElem? hz) hp _ (s1.trans s3) _ fun H4 s4 => ⟨_, s4 _ _ e3, ?_, fun x u e => ?_, ?_, ?_⟩
      · rw [List.length_map]
        refine small1000 (Nat.le_trans (List.length_filter_le _ _) (Nat.le_trans (List.length_take_le _ _) ?_))
        exact Nat.le_of_lt (Nat.lt_of_lt_of_le (List.getElem?_eq_some_iff.mp hz).1 hn)
      · rw [upd_ne (ne_of_none e hD)]; exact s4 _ _ (s3 _ _ (s1 _ _ e))
      · rw [upd_ne (Ne.symm nDc)]; exact s4 _ _ c3
      · rw [upd_same, et, List.filter_append, List.map_append, List.filter_cons, if_pos hp]; rfl
    | false =>
      rw [if_neg Bool.false_ne_true]
      refine ⟨s1.trans s3, c3, ?_⟩
      rw [et, List.filter_append, List.filter_cons, if_neg (by rw [hp]; exact Bool.false_ne_true), List.filter_nil, List.append_nil]
      exact e3
  · obtain ⟨s1, c1, e1⟩ := e
    rw [List.length_map, List.take_length] at e1
    refine k D (unc H2 c) hD (fun x u e => ?_) ((unc_ne nDc).trans e1)
    rw [unc_ne (ne_of_none e hc)]; exact s1 _ _ e
theorem code_ref {K : PySem.W.Frag} {x q : Str} {pa : Arguments} {bd : List Stmt} {scp : Scope} {dv : List V} {kw : List (Str × V)} {f : Str × Option Str} {fd : FuncData} (F : FunD K x q pa bd scp dv kw (He.fAd K f) fd) : fd.code = .ref (He.codeOf K f) := by
  obtain ⟨oc, od, dV, kV, doc, pm, an, cdv, ct, osl, rfl, lk, hci, _, _⟩ := F.ex
  obtain ⟨a, rfl⟩ := He.codeIn_ref hci
  rw [He.codeOf_eq lk rfl]
section
variable {c : CC}
/-- all but tables stays -/
theorem WAt.ext {H H1 : Hp} {a : HA} {s : FL.HS} {b : Addr} {ps : List (Int × Addr)} (h : WAt c H a s b ps) (e : ExtN H H1) : WAt c H1 a s b ps := by
  obtain ⟨⟨⟨dx, h1⟩, ⟨⟨dO, h2⟩, h3⟩, ⟨⟨dl, h4⟩, h5, h6, h7, h8⟩, h9, h10⟩, G, ⟨l1, l2⟩, ob, ops⟩ := h
  refine ⟨⟨⟨dx, e _ _ h1 nofun⟩, ⟨⟨dO, e _ _ h2 nofun⟩, e _ _ h3 nofun⟩, ⟨⟨dl, e _ _ h4 nofun⟩, e _ _ h5 nofun, e _ _ h6 nofun, e _ _ h7 nofun, h8⟩, h9, h10⟩, G, ⟨e _ _ l1 nofun, l2.same fun p hp u hu => ?_⟩, ob, ops⟩
  obtain ⟨l, hl⟩ := l2.is p hp
  rw [hl] at hu
  cases hu
  exact e _ _ hl nofun
/-- the two functions as they are made -/
theorem mk_is (m : Bool) (q : Str) (hq : q = ("law.<locals>." : Str)) (cells : List (Str × Addr)) (x : Addr) (hx : cells.lookup ("_law_below" : Str) = some x) (a' : Addr) : NF.of (stT m) (nmT m) (q ++ nmT m) (cloFrom cells (C8.fnScope (stT m)).names []) a' = mkF m x a' := by
  subst hq
  have e : cloFrom cells (C8.fnScope (stT m)).names [] = [(("_law_below" : Str), (cells.lookup ("_law_below" : Str)).getD 0)] := by cases m <;> rfl
  rw [e, hx]; rfl
end
end FW

set_option maxHeartbeats 4000000
/-! k08: what the tried sets say. -/
namespace FW
open PySem PySem.Spec PyProof.Rows L2
section
variable {K : PySem.W.Frag}
theorem LK.llt {H : Hp} : ∀ {qs : List (Addr × List Int)}, (∀ q ∈ qs, H q.1 = some (lI q.2)) → LLT H (qs.map (·.1)) (qs.map (·.2))
  | [], _ => trivial
  | q :: qs, h => ⟨h q List.mem_cons_self, LK.llt fun r hr => h r (List.mem_cons_of_mem _ hr)⟩
theorem LK.dp {H : Hp} {p : Addr} {qs : List (Addr × List Int)} (h : LK H p qs) : Dp K H (.ref p) (iiD (qs.map (·.2))) :=
  .lst (SqL.of h.at_) (by
    have := dp_llT (K := K) (LK.llt h.el)
    rw [List.map_map] at this
    exact this)
end
theorem filt2 (P : List Int → Bool) (qs : List (Addr × List Int)) : (qs.filter fun r => P r.2).map (·.2) = (qs.map (·.2)).filter P := by
  rw [List.filter_map]; rfl
theorem lens_max {qs : List (Addr × List Int)} {m : Int} (hm : m ∈ qs.map fun r => (r.2.length : Int)) (hx : ∀ y ∈ qs.map fun r => (r.2.length : Int), y ≤ m) : m = (FL.maxi ((qs.map (·.2)).map List.length) : Nat) := by
  obtain ⟨r, hr, rfl⟩ := List.mem_map.mp hm
  have h1 : r.2.length ≤ FL.maxi ((qs.map (·.2)).map List.length) := FL.maxi_le (List.mem_map.mpr ⟨r.2, List.mem_map.mpr ⟨r, hr, rfl⟩, rfl⟩)
  have h2 : FL.maxi ((qs.map (·.2)).map List.length) ≤ r.2.length := FL.maxi_lub fun y hy => by
    obtain ⟨A, hA, rfl⟩ := List.mem_map.mp hy
    obtain ⟨z, hz, rfl⟩ := List.mem_map.mp hA
    have := hx _ (List.mem_map.mpr ⟨z, hz, rfl⟩)
    omega
  omega
theorem ladders_free {st : FL.HS} (G : FL.Good st) : (FL.ladders st.linked st.ab st.be).length = st.freeL.length := by
  rw [FL.ladders_len]; exact (FL.free_end G.po G.mt G.na).2.symm
theorem longest_hgt {st : FL.HS} (G : FL.Good st) : (FL.longest st.lies st.linked).length = FL.hgt st.lies st.linked st.linked := (FL.longest_ok G.po).len
theorem stand_due {st : FL.HS} (G : FL.Good st) {x : Int} (hx : x ∈ st.linked) : FL.HS.stand st x = if st.cnt x = st.best.length then "every" else if st.cnt x = 0 then "no" else "some" := by
  unfold FL.HS.stand
  have h1 := FL.cnt_zero G hx
  have h2 := FL.cnt_all G (x := x)
  have h3 := FL.cnt_both G (x := x)
  by_cases a : st.cnt x = 0
  · rw [if_pos (h1.mp a), if_neg fun e => h3 ⟨a, e⟩, if_pos a]
  · rw [if_neg fun e => a (h1.mpr e), if_neg a]
    by_cases b : st.cnt x = st.best.length
    · rw [if_pos (h2.mp b), if_pos b]
    · rw [if_neg fun e => b (h2.mpr e), if_neg b]
theorem cnt_is {st : FL.HS} {Bs : List (Addr × List Int)} (mB : Bs.map (·.2) = st.best) (x : Int) : (Bs.filter fun r => inV (V.int x) (r.2.map V.int)).length = st.cnt x := by
  have := congrArg List.length (filt2 (fun A => inV (V.int x) (A.map V.int)) Bs)
  rw [List.length_map, mB] at this
  rw [this]
  unfold FL.HS.cnt
  congr 1
  exact List.filter_congr fun A _ => inV_int _ _
theorem by_true (lies : Int → Int → Bool) : byT lies true = FL.apB lies := rfl
theorem by_false (lies : Int → Int → Bool) : byT lies false = fun x y => !FL.apB lies x y := rfl
end FW

set_option maxHeartbeats 8000000
/-! The law k08. -/
namespace FW
open PySem PySem.Spec PyProof.Rows L2 LamX NdefX
section
variable {P : Program} {w : World} {K : PySem.W.Frag} {mg : Str → Option Value} {base : Heap} {c : CC}
/-- Pt: the table of the law's own code object -/
def spLaw8 (K : PySem.W.Frag) (Pt : Addr) : Sp := fun vs H Q _ => ∃ (a : Addr) (ns : List Int), vs = [.ref a] ∧ SqL K H a (ns.map V.int) ∧ ns.length ≤ 63 ∧ H Pt = some (.tbl #[]) ∧ ∀ H', Q (.bl true) H'
def Sl08 (S h b : Addr) (n : Nat) (σ : L2.St) : Prop := ∃ v4 v5 v6 v7, σ = [some (.ref S), some (.ref h), some (.ref b), some (.int (n : Int)), v4, v5, v6, v7, none, none, none, none, none, none, none, none, none]
def lnT : Nat := match stT true with
  | .FunctionDef (pos := p) .. => p.line
  | _ => 0
def nmf : Nat → Nat → Str := fun l _ => ("law.<locals>." : Str) ++ nmT (l == lnT)
theorem ok_law08 (T : Tx K mg c) (zE : mg "enumerate" = none) (zA : mg "all" = none) {fl cd Pt : Addr} {fdl : FuncData} (D : FD K "law" s_law fl fdl) (hcd : fdl.code = .ref cd) (TB : TabB base mg cd Pt)
    (MI : MOk P w K mg base CX0 c.H "__init__" ["self"] 3 (spH_init c)) (MP : MOk P w K mg base CX0 c.H "put" ["self", "some"] 29 (spH_put c)) (MT : MOk P w K mg base CX0 c.H "take" ["self", "one"] 29 (spH_take c))
    (MLd : MOk P w K mg base CX0 c.H "ladders" ["self"] 2 (spH_ladders c)) (MFr : MOk P w K mg base CX0 c.H "free" ["self"] 5 (spH_free c)) (MFl : MOk P w K mg base CX0 c.H "floors" ["self"] 6 (spH_floors c)) (MLg : MOk P w K mg base CX0 c.H "longest" ["self"] 7 (spH_longest c))
    (MSt : MOk P w K mg base CX0 c.H "standing" ["self", "one"] 32 (spH_stand c))
    (GM : GOk P w K mg base CX0 "_law_mixed" ["_law_cell", "_law_k"] 1 spMixed) (GS : GOk P w K mg base CX0 "_law_some" ["_law_things", "_law_cell"] 2 (spSome K))
    (GG : GOk P w K mg base CX0 "_law_grown" ["_law_below", "_law_one", "_law_some_here"] 1 (spGrown K)) (GF : GOk P w K mg base CX0 "_law_fewer" ["_law_below", "_law_one"] 1 spFewer)
    (GSs : GOk P w K mg base CX0 "_law_sets" ["_law_things"] 1 (spSets K)) (GA : GOk P w K mg base CX0 "_law_all_by" ["_law_some_here", "_law_is_right"] 3 spAllBy) : FnOk P w K mg base CX0 33 fl fdl ["_law_script"] (spLaw8 K Pt) := by
  obtain ⟨fI, fdI, mI, bI, FI⟩ := MI
  obtain ⟨fP, fdP, mP, bP, FP⟩ := MP
  obtain ⟨fT, fdT, mT, bT, FT⟩ := MT
  obtain ⟨fLd, fdLd, mLd, bLd, FLd⟩ := MLd
  obtain ⟨fFr, fdFr, mFr, bFr, FFr⟩ := MFr
  obtain ⟨fFl, fdFl, mFl, bFl, FFl⟩ := MFl
  obtain ⟨fLg, fdLg, mLg, bLg, FLg⟩ := MLg
  obtain ⟨fSt, fdSt, mSt, bSt, FSt⟩ := MSt
  obtain ⟨f1, fd1, g1, k1, b1, F1⟩ := GM
  obtain ⟨f2, fd2, g2, k2, b2, F2⟩ := GS
  obtain ⟨f3, fd3, g3, k3, b3, F3⟩ := GG
  obtain ⟨f4, fd4, g4, k4, b4, F4⟩ := GF
  obtain ⟨f5, fd5, g5, k5, b5, F5⟩ := GSs
  obtain ⟨f6, fd6, g6, k6, b6, F6⟩ := GA
  have sc : FnScope ["_law_script", "_law_hall", "_law_below", "_law_number", "_law_cell", "_law_things", "_law_one", "_law_some_here", "_law_two_apart", "_law_two_in_row", "_law_sets_here", "_law_free", "_law_rows", "_law_many", "_law_count", "_law_due", "_law_long"] ["_law_script"] (defScope s_law) := ⟨rfl, rfl, rfl, by decide +kernel, rfl, by decide +kernel, by decide +kernel⟩
  refine fd_okC D hcd sc (fun vs H Q E h => ?_) (fun f A outer s H vs Q E hr h => ?_)
  · obtain ⟨S, ns, rfl, _⟩ := h; rfl
  · obtain ⟨S, ns, rfl, hS, hn, hPt, k⟩ := h
    have MkH : Mk K c.H fI := ⟨T.mkH, mI.at_, mI.fn, T.kpH⟩
    have hr32 : Room 32 _ := hr
    have hr29 : Room 29 _ := hr.mono (by decide)
    have hr7 : Room 7 _ := hr.mono (by decide)
    have hr6 : Room 6 _ := hr.mono (by decide)
    have hr5 : Room 5 _ := hr.mono (by decide)
    have hr4 : Room 4 _ := hr.mono (by decide)
    have hr3 : Room 3 _ := hr.mono (by decide)
    have hr2 : Room 2 _ := hr.mono (by decide)
    have hr1 : Room 1 _ := hr.mono (by decide)
    have hu := hu_of hr
    have hu65 : (A.deeper (envOfC "law" (defScope s_law) s.heap.objs.size f (.ref cd))).units + 65 < cLine := by have := hr.un; omega
    refine' ⟨_, (pss_cons (ps_set (i := 1) sc.nd rfl (Or.inl rfl) (pe_make0 MkH FI hr4 (by rfl) T.gH bI .nil pass0)) (pss_cons (ps_set (i := 2) sc.nd rfl (Or.inr rfl) (pe_dnewK)) (pss_cons (ps_set (i := 3) sc.nd rfl (Or.inl rfl) (pe_int)) (Evl.pss_cut (ps_for PassesOwn.never rfl (pi_list (pe_slice sl_list (pv 0) po_none (po_some pe_int))) (pg_name (i := 4) sc.nd rfl (Or.inl rfl)) (pss_cons (ps_set (i := 5) sc.nd rfl (Or.inl rfl) ((pe_callB (call_sortedDI rfl) (by rfl) T.zSorted PyProof.Rows.boot_sorted (pa_cons (pv 2) pa_nil)))) (pss_one (ps_if (pt_word (PW.pt (pw_or (pt_cmpR op_eq (pe_callB call_len_seq (by rfl) T.zLen PySem.boot_len (pa_cons (pv 5) pa_nil)) pe_int (nomark _)) (pw_or1 ((PW.pt (pw_and (pt_cmpR (op_neD hr.units) (pv 5) (pe_lst pa_nil) (nomark _)) (pw_and1 (pt_cmpR op_eq (pe_op op_mod (pv 4) pe_int) pe_int (nomark _))))))))))
          (pss_cons (ps_set (i := 6) sc.nd rfl (Or.inr rfl) (pe_ix ix_list (pv 5) (pe_op op_mod (pe_op op_fdiv (pe_call F1 hr1 (by rfl) g1 k1 b1 .nil pass0 (pa_cons (pv 4) (pa_cons (pe_int) pa_nil))) pe_int) (pe_callB call_len_seq (by rfl) T.zLen PySem.boot_len (pa_cons (pv 5) pa_nil))) (fun _ _ => rfl))) (pss_cons (ps_expr (pe_meth (pv 1) T.clH mT FT hr29 bT .nil pass0 (pa_cons (pv 6) pa_nil))) (pss_one (ps_expr (pe_call F4 hr1 (by rfl) g4 k4 b4 .nil pass0 (pa_cons (pv 2) (pa_cons (pv 6) pa_nil)))))))
          (pss_cons (ps_set (i := 7) sc.nd rfl (Or.inl rfl) ((pe_call F2 hr2 (by rfl) g2 k2 b2 .nil pass0 (pa_cons (pv 5) (pa_cons (pe_op op_fdiv (pv 4) pe_int) pa_nil))))) (pss_cons (ps_expr (pe_meth (pv 1) T.clH mP FP hr29 bP .nil pass0 (pa_cons ((pe_callTy call_list_of (by rfl) T.zList PyProof.Rows.boot_list (pa_cons (pv 7) pa_nil))) pa_nil))) (pss_cons (ps_expr (pe_call F3 hr1 (by rfl) g3 k3 b3 .nil pass0 (pa_cons (pv 2) (pa_cons (pv 3) (pa_cons (pv 7) pa_nil))))) (pss_one (ps_set (i := 3) sc.nd rfl (Or.inl rfl) (pe_op op_add (pv 3) pe_int)))))))))) (pss_cons (ps_ndefMS (T := [(Pt, nmf)]) (nm := nmf) (c := cd) (P := Pt) (st := stT true) (i := 8) rfl TB rfl (List.mem_singleton.mpr rfl) (by rfl) (fun p hp _ => by rw [List.mem_singleton.mp hp]) (ndef_free (sc := defScope s_law) (nsc := C8.fnScope (stT true)) (fr := ["_law_below"]) (by decide +kernel)) rfl rfl rfl sc.nd rfl (Or.inr rfl) (Or.inl rfl)) (pss_cons (ps_ndefMS (T := [(Pt, nmf)]) (nm := nmf) (c := cd) (P := Pt) (st := stT false) (i := 9) rfl TB rfl (List.mem_singleton.mpr rfl) (by rfl) (fun p hp _ => by rw [List.mem_singleton.mp hp]) (ndef_free (sc := defScope s_law) (nsc := C8.fnScope (stT false)) (fr := ["_law_below"]) (by decide +kernel)) rfl rfl rfl sc.nd rfl (Or.inr rfl) (Or.inl rfl)) (pss_cons (ps_set (i := 10) sc.nd rfl (Or.inl rfl) ((pe_call F5 hr1 (by rfl) g5 k5 b5 .nil pass0 (pa_cons ((pe_callB (call_sortedDI rfl) (by rfl) T.zSorted PyProof.Rows.boot_sorted (pa_cons (pv 2) pa_nil))) pa_nil)))) (pss_cons (ps_setLcC (nm := "_law_below") (j := 2) (i := 11) (own := [("_law_some_here", 7)]) (g := gName 7) rfl sc.nd rfl rfl (sw_true rfl rfl rfl (by decide +kernel)) rfl rfl rfl (by decide +kernel) (pi_list (pv 10)) (blkOk_by (own := [("_law_some_here", 7)]) (N := ["_law_script", "_law_hall", "_law_below", "_law_number", "_law_cell", "_law_things", "_law_one", "_law_some_here", "_law_two_apart", "_law_two_in_row", "_law_sets_here", "_law_free", "_law_rows", "_law_many", "_law_count", "_law_due", "_law_long"]) (sc := defScope s_law) (by decide +kernel)) (fun _ _ _ _ _ => pg_name (i := 7) sc.nd rfl (Or.inl rfl)) (fun _ _ _ _ _ => pts_one (pt_val (pe_call F6 hr3 (by rfl) g6 k6 b6 .nil pass0 (pa_cons (pv 7) (pa_cons (pv 8) pa_nil))))) (fun _ _ _ _ _ => pv 7)) (pss_cons (ps_setLcC (nm := "_law_below") (j := 2) (i := 12) (own := [("_law_some_here", 7)]) (g := gName 7) rfl sc.nd rfl rfl (sw_true rfl rfl rfl (by decide +kernel)) rfl rfl rfl (by decide +kernel) (pi_list (pv 10)) (blkOk_by (own := [("_law_some_here", 7)]) (N := ["_law_script", "_law_hall", "_law_below", "_law_number", "_law_cell", "_law_things", "_law_one", "_law_some_here", "_law_two_apart", "_law_two_in_row", "_law_sets_here", "_law_free", "_law_rows", "_law_many", "_law_count", "_law_due", "_law_long"]) (sc := defScope s_law) (by decide +kernel)) (fun _ _ _ _ _ => pg_name (i := 7) sc.nd rfl (Or.inl rfl)) (fun _ _ _ _ _ => pts_one (pt_val (pe_call F6 hr3 (by rfl) g6 k6 b6 .nil pass0 (pa_cons (pv 7) (pa_cons (pv 9) pa_nil))))) (fun _ _ _ _ _ => pv 7)) (pss_cons (ps_set (i := 13) sc.nd rfl (Or.inr rfl) (pe_callB (cr_max rfl) (by rfl) T.zMax PyProof.Rows.boot_max (pa_cons ((pe_lc (own := [("_law_some_here", 7)]) (g := gName 7) rfl sc.nd (pi_list (pv 11)) (blkOk_by (own := [("_law_some_here", 7)]) (N := ["_law_script", "_law_hall", "_law_below", "_law_number", "_law_cell", "_law_things", "_law_one", "_law_some_here", "_law_two_apart", "_law_two_in_row", "_law_sets_here", "_law_free", "_law_rows", "_law_many", "_law_count", "_law_due", "_law_long"]) (sc := defScope s_law) (by decide +kernel)) (fun _ _ _ _ _ => pg_name (i := 7) sc.nd rfl (Or.inl rfl)) (fun _ _ _ _ _ => pts_nil) (fun _ _ _ _ _ => pe_callB (lenK K rfl) (by rfl) T.zLen PySem.boot_len (pa_cons (pv 7) pa_nil)))) pa_nil))) (pss_cons (ps_setLc (i := 11) (own := [("_law_some_here", 7)]) rfl sc.nd rfl rfl (sw_true rfl rfl rfl (by decide +kernel)) (pi_list (pv 11)) (blkOk_by (own := [("_law_some_here", 7)]) (N := ["_law_script", "_law_hall", "_law_below", "_law_number", "_law_cell", "_law_things", "_law_one", "_law_some_here", "_law_two_apart", "_law_two_in_row", "_law_sets_here", "_law_free", "_law_rows", "_law_many", "_law_count", "_law_due", "_law_long"]) (sc := defScope s_law) (by decide +kernel)) (fun _ _ _ _ _ => pg_name (i := 7) sc.nd rfl (Or.inl rfl)) (fun _ _ _ _ _ => pts_one (pt_cmpR op_eq (pe_callB (lenK K rfl) (by rfl) T.zLen PySem.boot_len (pa_cons (pv 7) pa_nil)) (pv 13) (nomark _))) (fun _ _ _ _ _ => pv 7)) (pss_cons (ps_if ((PW.pt (pw_or (pt_cmpR op_ne (pe_callB call_len_seq (by rfl) T.zLen PySem.boot_len (pa_cons ((pe_meth0 (pv 1) T.clH mLd FLd hr2 bLd .nil pass0)) pa_nil)) (pv 13) (nomark _)) (pw_or1 (pt_cmpR (op_notInD hu65) (pe_meth0 (pv 1) T.clH mFr FFr hr5 bFr .nil pass0) (pv 11) (by rfl)))))) (pss_one (ps_ret pe_bl)) pss_nil) (pss_cons (ps_lock (ps_for PassesOwn.never rfl (pi_keys (pv 2)) (pg_name (i := 6) sc.nd rfl (Or.inr rfl)) (pss_cons (ps_set (i := 14) sc.nd rfl (Or.inl rfl) ((pe_callB call_len_seq (by rfl) T.zLen PySem.boot_len (pa_cons ((pe_lc (own := [("_law_some_here", 7)]) (g := gName 7) rfl sc.nd (pi_list (pv 11)) (blkOk_by (own := [("_law_some_here", 7)]) (N := ["_law_script", "_law_hall", "_law_below", "_law_number", "_law_cell", "_law_things", "_law_one", "_law_some_here", "_law_two_apart", "_law_two_in_row", "_law_sets_here", "_law_free", "_law_rows", "_law_many", "_law_count", "_law_due", "_law_long"]) (sc := defScope s_law) (by decide +kernel)) (fun _ _ _ _ _ => pg_name (i := 7) sc.nd rfl (Or.inl rfl)) (fun _ _ _ _ _ => pts_one (pt_cmpR (inK K) (pv 6) (pv 7) (by rfl))) (fun _ _ _ _ _ => pv 7))) pa_nil)))) (pss_cons (ps_set (i := 15) sc.nd rfl (Or.inl rfl) (pe_str)) (Evl.pss_cut (ps_if (pt_cmpR op_eq (pv 14) pe_int (nomark _)) (pss_one (ps_set (i := 15) sc.nd rfl (Or.inl rfl) (pe_str))) pss_nil) (Evl.pss_cut (ps_if (pt_cmpR op_eq (pv 14) (pe_callB call_len_seq (by rfl) T.zLen PySem.boot_len (pa_cons (pv 11) pa_nil)) (nomark _)) (pss_one (ps_set (i := 15) sc.nd rfl (Or.inl rfl) (pe_str))) pss_nil) (pss_one (ps_if (pt_cmpR op_ne (pe_meth (pv 1) T.clH mSt FSt hr32 bSt .nil pass0 (pa_cons (pv 6) pa_nil)) (pv 15) (nomark _)) (pss_one (ps_ret pe_bl)) pss_nil)))))))) (pss_cons (ps_set (i := 16) sc.nd rfl (Or.inl rfl) (pe_callB (cr_max rfl) (by rfl) T.zMax PyProof.Rows.boot_max (pa_cons ((pe_lc (own := [("_law_some_here", 7)]) (g := gName 7) rfl sc.nd (pi_list (pv 12)) (blkOk_by (own := [("_law_some_here", 7)]) (N := ["_law_script", "_law_hall", "_law_below", "_law_number", "_law_cell", "_law_things", "_law_one", "_law_some_here", "_law_two_apart", "_law_two_in_row", "_law_sets_here", "_law_free", "_law_rows", "_law_many", "_law_count", "_law_due", "_law_long"]) (sc := defScope s_law) (by decide +kernel)) (fun _ _ _ _ _ => pg_name (i := 7) sc.nd rfl (Or.inl rfl)) (fun _ _ _ _ _ => pts_nil) (fun _ _ _ _ _ => pe_callB (lenK K rfl) (by rfl) T.zLen PySem.boot_len (pa_cons (pv 7) pa_nil)))) pa_nil))) (pss_one (ps_ret (pe_and (pe_cmpR op_eq (pe_callB call_len_seq (by rfl) T.zLen PySem.boot_len (pa_cons ((pe_meth0 (pv 1) T.clH mLg FLg hr7 bLg .nil pass0)) pa_nil)) (pv 16) (nomark _)) (pe_one (pe_cmpR op_eq (pe_callB call_len_seq (by rfl) T.zLen PySem.boot_len (pa_cons ((pe_meth0 (pv 1) T.clH mFl FFl hr6 bFl .nil pass0)) pa_nil)) (pv 16) (nomark _)))))))))))))))))))), ?_⟩
    intro o dO no ndO neO
    refine ⟨o, dO, rfl, upd_same, fun a0 H1 eh HA0 fa k1 => ⟨rfl, ?_⟩⟩
    have sS : Same H (upd (upd H dO (.own o)) o (.ins c.H dO [])) := fun x u e => by rw [upd_ne (ne_of_none e no), upd_ne (ne_of_none e ndO)]; exact e
    have s1 : Same H H1 := fun x u e => k1 x u (ne_of_none e no) (sS x u e)
    intro b hb
    have W0 := WAt.start HA0 hb
    have s2 : Same H (upd H1 b (.dK [])) := fun x u e => by rw [upd_ne (ne_of_none (s1 x u e) hb)]; exact s1 x u e
    have hPa0 : Pt ∉ a0.fp := fun z => by
      rcases fa Pt z with z | z
      · exact ne_of_none hPt no z
      · rw [sS _ _ hPt] at z; cases z
    generalize upd H1 b (.dK []) = H2 at W0 s2
    refine ⟨fun σ H3 => ∃ (a : HA) (st : FL.HS) (ps : List (Int × Addr)), Sl08 S o b st.told σ ∧ WAt c H3 a st b ps ∧ a.h = o ∧ st.told ≤ 60 ∧ st.linked.length ≤ 7 ∧ H3 Pt = some (.tbl #[]), ?_, ?_⟩
    · refine ⟨_, rfl, 60, rfl, S, _, rfl, s2.seq hS, fun p hp => ?_⟩
      have ec : cutV (ns.map V.int) none (some 60) = (ns.take 60).map V.int := cut_to ns 60
      rw [ec]
      refine ⟨p, rfl, ⟨_, SqL.of upd_same⟩, for_list (K := K) (a := p) (xs := (ns.take 60).map V.int)
        (fun i σ H3 => ∃ (a : HA) (st : FL.HS) (ps : List (Int × Addr)), Sl08 S o b st.told σ ∧ WAt c H3 a st b ps ∧ a.h = o ∧ st.told ≤ i ∧ st.linked.length ≤ 7 ∧ (H3 p = some (lI (ns.take 60)) ∧ p ∉ a.fp) ∧ H3 Pt = some (.tbl #[]) ∧ Pt ∉ a.fp)
        ⟨a0, FL.HS.empty, [], ⟨none, none, none, none, rfl⟩, W0.same fun x u e => by rw [upd_ne (ne_of_none e hp)]; exact e, eh, Nat.le_refl _, Nat.zero_le _, ⟨upd_same, W0.hall.new hp⟩, Same.new hp _ _ (s2 _ _ hPt), hPa0⟩
        (fun i σ H3 _ ⟨_, _, _, _, _, _, _, _, e, _⟩ => SqL.of e.1) ?_ ?_⟩
      · rintro i y σ H3 hi ⟨a, st, ps, ⟨v4, v5, v6, v7, rfl⟩, W, rfl, ht, hl, ⟨hpl, hpa⟩, hP3, hPa⟩
        obtain ⟨x, rfl, hx⟩ := itemI hi
        have hi60 : i < 60 := by
          have := (List.getElem?_eq_some_iff.mp hx).1
          rw [List.length_take] at this; omega
        refine ⟨_, rfl, b, _, st.linked, rfl, W.srtd.1, W.srtd.2, by omega, fun ys q y1 y2 hq => ?_⟩
        rw [perm_srt y1 y2 W.srt]
        have sq := Same.new (o := lI st.linked) hq
        have Wq := W.same sq
        have hpq := sq _ _ hpl
        have hPq := sq _ _ hP3
        have hqn : q ∉ a.fp := W.hall.new hq
        have hqq : (upd H3 q (lI st.linked)) q = some (lI st.linked) := upd_same
        generalize upd H3 q (lI st.linked) = H4 at Wq hpq hqq hPq
        have hpb : p ≠ b := ne_of hpl W.lb.at_ (by intro z; cases z)
        have hPb : Pt ≠ b := ne_of hP3 W.lb.at_ (by intro z; cases z)
        have hlen : (st.linked.map V.int).length = st.linked.length := List.length_map _
        refine ⟨fun t H5 => Same H4 H5 ∧ (t = true → st.linked ≠ []) ∧ (t = false → st.linked.length ≤ 6), ?_, ?_⟩
        · refine ⟨_, rfl, q, _, rfl, Or.inl (SqL.of hqq), rfl, _, rfl, ?_⟩
          rw [hlen, dec_eq_int]
          refine ite2 (fun z => ?_) (fun z => ?_)
          · have z := of_decide_eq_true z
            exact ⟨fun _ _ e => e, fun _ e => by rw [e] at z; exact absurd z (by decide), nofun⟩
          · have hl6 : st.linked.length ≤ 6 := by
              have : ¬ ((st.linked.length : Int) = 7) := fun e => z (decide_eq_true e)
              omega
            refine ⟨_, rfl, Nat.zero_le _, fun r hr0 => ?_⟩
            have s5 : Same H4 (upd H4 r (.lst [])) := Same.new hr0
            refine ⟨iD st.linked, .list [], dp_iD (SqL.of (s5 _ _ hqq)), dp_nil upd_same, iD_sh _, iD_sh [], _, rfl, ?_⟩
            rw [nil_D]
            refine ite2 (fun z => ?_) (fun z => ?_)
            · refine ⟨_, rfl, _, _, rfl, rfl, (by show (0 : Int) < 4; decide), rfl, _, rfl, s5, fun _ e => by simp [e] at z, fun _ => hl6⟩
            · exact ⟨s5, nofun, fun _ => hl6⟩
        · rintro t H5 ⟨s5, ht1, ht2⟩
          have W5 := Wq.same s5
          have hq5 := s5 _ _ hqq
          have hp5 := s5 _ _ hpq
          have hP5 := s5 _ _ hPq
          refine ite2 (fun z => ?_) (fun z => ?_)
          · -- take
            obtain ⟨z1, hz1, ez1⟩ := drawn_at (ht1 z) (fdiv5_nn (mixed_lo x 7))
            obtain ⟨dx, hh⟩ := W5.hall.ob
            refine ⟨_, rfl, _, rfl, x, 7, rfl, by decide, by decide, _, _, rfl, rfl, ⟨by decide, by decide⟩, _, rfl, q, _, rfl, Or.inl (SqL.of hq5), _, _, rfl, rfl, ?_, q, _, _, _, rfl, rfl, SqL.of hq5, (by rw [hlen]; exact ez1), ?_⟩
            · show (0 : Int) < ((st.linked.map V.int).length : Int)
              rw [hlen]
              have := List.length_pos_iff.mpr (ht1 z)
              omega
            refine ⟨_, rfl, a.h, dx, _, rfl, hh, fH_no ⟨by decide +kernel, by decide +kernel⟩, _, rfl, a, st, z1, rfl, W5.hall, W5.good, hz1, by omega, by omega, fun H6 r HA6 f6 hr6 R6 nr6 => ?_⟩
            refine ⟨_, rfl, _, rfl, b, z1, ps, st.law, rfl, W5.lbF f6, ?_, ⟨_, FL.law_get W5.good hz1⟩, by rw [law_len0]; omega, fun o l e => Nat.le_trans (law_len W5.good e).1 (by omega), fun H7 ps' B7 n7 k7 => ?_⟩
            · rw [FL.law_keys]; exact W5.good.po.nd
            exact ⟨a, (st.take z1).2, ps', ⟨_, _, _, _, rfl⟩, W5.take hz1 HA6 f6 B7 k7 n7, rfl, by rw [take_told]; omega, Nat.le_trans take_len hl, ⟨k7 _ _ hpb (f6.keep _ _ hpa hp5), hpa⟩, k7 _ _ hPb (f6.keep _ _ hPa hP5), hPa⟩
          · -- put
            have hl6 := ht2 (Bool.not_eq_true _ ▸ z)
            refine ⟨_, rfl, _, rfl, _, _, rfl, rfl, ⟨by decide, by decide⟩, q, st.linked, _, rfl, SqL.of hq5, by omega, W5.good.po.nd, fun H6 r l s6 hr6 hl6' nd6 m6 len6 => ?_⟩
            have W6 := W5.same s6
            have hp6 := s6 _ _ hp5
            have hP6 := s6 _ _ hP5
            have nr6 : r ∉ a.fp := W5.hall.new hr6
            obtain ⟨dx, hh⟩ := W6.hall.ob
            refine ⟨_, rfl, a.h, dx, _, rfl, hh, fH_no ⟨by decide +kernel, by decide +kernel⟩, _, rfl, r, _, rfl, Or.inl (SqL.of hl6'), fun hd hhd => ?_⟩
            have s7 : Same H6 (upd H6 hd (lI l)) := Same.new hhd
            have W7 := W6.same s7
            have hl7 := s7 _ _ hl6'
            have hp7 := s7 _ _ hp6
            have hP7 := s7 _ _ hP6
            have hd7 : (upd H6 hd (lI l)) hd = some (lI l) := upd_same
            have nd7 : hd ∉ a.fp := W6.hall.new hhd
            generalize upd H6 hd (lI l) = H7 at s7 W7 hl7 hp7 hP7 hd7
            refine ⟨a, st, hd, l, rfl, W7.hall, W7.good, hd7, nd6, m6, by omega, by omega, fun H8 a' tu rw HA8 f8 eh8 ht8 ht8' hrw8 R8 nrw ntu => ?_⟩
            have hl8 := f8.keep _ _ nr6 hl7
            have hp8 := f8.keep _ _ hpa hp7
            have hP8 := f8.keep _ _ hPa hP7
            refine ⟨_, rfl, _, rfl, _, rfl, b, r, _, l, ps, st.law, st.linked, rfl, W7.lbF f8, SqL.of hl8, fun o ho => ⟨_, FL.law_get W7.good (m6 o ho)⟩, by omega, fun o l e => ⟨Nat.le_trans (law_len W7.good e).1 (by omega), (law_len W7.good e).2⟩, m6, by omega, law_no W7.good, by rw [law_len0]; omega, fun H10 t m hm hmem ht B10 k10 => ?_⟩
            exact ⟨_, rfl, _, _, rfl, rfl, a', (st.put l).2, ps ++ [((st.told : Int), t)], ⟨_, _, _, _, rfl⟩, W7.put m6 HA8 f8 hm hmem B10 (fun x hx u n e => k10 x u n e) ht, eh8, by rw [put_told]; omega, by rw [put_len]; omega, ⟨k10 _ _ hpb hp8, (f8.out hpa hp7).1⟩, k10 _ _ hPb hP8, (f8.out hPa hP7).1⟩
      · rintro σ H3 ⟨a, st, ps, hs, W, ah, ht, hl, hpl, hP3, hPa⟩
        refine ⟨a, st, ps, hs, W, ah, ?_, hl, hP3⟩
        rw [List.length_map, List.length_take] at ht
        omega
    · rintro σ H3 ⟨a, st, ps, ⟨v4, v5, v6, v7, rfl⟩, W, rfl, ht, hl, hP3⟩
      refine ⟨fun p hp => by rw [List.mem_singleton.mp hp]; exact TabN.nil hP3, fun fA cA H4 e4 n4 t4 fA3 hfA hcA => ⟨t4, fun fR cR H5 e5 n5 t5 fR4 hfR hcR => ?_⟩⟩
      have W5 := (W.ext e4).ext e5
      have hfA5 := e5 _ _ hfA fnO_ne
      have hcA5 := e5 _ _ hcA codeO_ne
      clear hfA hcA e4 n4 t4 fA3 e5 n5 t5 fR4
      refine ⟨_, rfl, b, _, st.linked, rfl, W5.srtd.1, W5.srtd.2, by omega, fun ys q y1 y2 hq => ?_⟩
      rw [perm_srt y1 y2 W5.srt]
      have s6 := Same.new (o := lI st.linked) hq
      have hqq : (upd H5 q (lI st.linked)) q = some (lI st.linked) := upd_same
      generalize upd H5 q (lI st.linked) = H6 at s6 hqq
      refine ⟨q, st.linked, rfl, SqL.of hqq, hl, fun H7 p qs s7 lk eq => ?_⟩
      have W7 := W5.same (s6.trans s7)
      have hfA7 := (s6.trans s7) _ _ hfA5
      have hcA7 := (s6.trans s7) _ _ hcA5
      have hfR7 := (s6.trans s7) _ _ hfR
      have hcR7 := (s6.trans s7) _ _ hcR
      have G := W7.good
      have qlen : qs.length ≤ 128 := by
        have := congrArg List.length eq
        rw [List.length_map, FL.subs_len] at this
        rw [this]
        exact Nat.le_trans (Nat.pow_le_pow_right (by decide) hl) (by decide)
      have qel : ∀ r ∈ qs, r.2.length ≤ 7 ∧ ∀ x ∈ r.2, x ∈ st.linked := fun r hr => by
        have : r.2 ∈ FL.subs st.linked := by rw [← eq]; exact List.mem_map.mpr ⟨r, hr, rfl⟩
        have := FL.mem_subs.mp this
        exact ⟨Nat.le_trans this.length_le hl, fun x hx => this.subset hx⟩
      dsimp only [gName, tSeq, tAsg]
      refine lcC_same (K := K) gR (a := p) (ns := qs) (i := 2) (v := .ref b) (fun r => FL.allBy (byT st.lies true) r.2) gR rfl (fun Q' q => ⟨_, rfl, q⟩) (SqL.of lk.at_) (by omega) (fun x => by rfl) (fun r hr cc oo H8 hcl hc8 s8 Q' q' => ?_) (fun r hr _ H8 s8 Q' q' => ⟨_, rfl, q' H8 Same.rfl⟩) (fun L8 H8 _ s8 h8 => ?_)
      · have em := mk_is true _ rfl _ cc hcl cA
        refine ⟨_, rfl, _, rfl, r.1, fA, true, cc, cA, oo, b, ps, st, r.2, rfl, s8 _ _ (lk.el r hr), by rw [← em]; exact s8 _ _ hfA7, by rw [← em]; exact s8 _ _ hcA7, hc8, (W7.same s8).lb.r, G, (qel r hr).2, (qel r hr).1, fun H9 s9 => ⟨_, rfl, q' H9 s9⟩⟩
      try dsimp only [gName, tSeq, tAsg]
      refine lcC_same (K := K) gR (a := p) (ns := qs) (i := 2) (v := .ref b) (fun r => FL.allBy (byT st.lies false) r.2) gR rfl (fun Q' q => ⟨_, rfl, q⟩) (SqL.of (s8 _ _ lk.at_)) (by omega) (fun x => by rfl) (fun r hr cc oo H9 hcl hc9 s9 Q' q' => ?_) (fun r hr _ H9 s9 Q' q' => ⟨_, rfl, q' H9 Same.rfl⟩) (fun L9 H9 _ s9 h9 => ?_)
      · have em := mk_is false _ rfl _ cc hcl cR
        have s89 := s8.trans s9
        refine ⟨_, rfl, _, rfl, r.1, fR, false, cc, cR, oo, b, ps, st, r.2, rfl, s89 _ _ (lk.el r hr), by rw [← em]; exact s89 _ _ hfR7, by rw [← em]; exact s89 _ _ hcR7, hc9, (W7.same s89).lb.r, G, (qel r hr).2, (qel r hr).1, fun H10 s10 => ⟨_, rfl, q' H10 s10⟩⟩
      obtain ⟨Fs, eF⟩ : ∃ Fs, Fs = qs.filter fun r => FL.allBy (byT st.lies true) r.2 := ⟨_, rfl⟩
      obtain ⟨Rs, eR⟩ : ∃ Rs, Rs = qs.filter fun r => FL.allBy (byT st.lies false) r.2 := ⟨_, rfl⟩
      have s79 := s8.trans s9
      have LF : LK H9 L8 Fs := ⟨by rw [eF]; exact s9 _ _ h8, fun r hr => s79 _ _ (lk.el r (List.mem_filter.mp (eF ▸ hr)).1)⟩
      have LR : LK H9 L9 Rs := ⟨by rw [eR]; exact h9, fun r hr => s79 _ _ (lk.el r (List.mem_filter.mp (eR ▸ hr)).1)⟩
      have mF : Fs.map (·.2) = FL.frees st.lies st.linked := by rw [eF, filt2 (FL.allBy (byT st.lies true)), eq]; rfl
      have mR : Rs.map (·.2) = FL.rows st.lies st.linked := by rw [eR, filt2 (FL.allBy (byT st.lies false)), eq]; rfl
      have lF : Fs.length ≤ 128 := by rw [eF]; exact Nat.le_trans (List.length_filter_le _ _) qlen
      have lR : Rs.length ≤ 128 := by rw [eR]; exact Nat.le_trans (List.length_filter_le _ _) qlen
      have W9 := W7.same s79
      clear hfA5 hcA5 hfA7 hcA7 hfR hcR hfR7 hcR7 h8 h9 eF eR lk W7 hqq
      try dsimp only [gName, tSeq, tAsg, tCB, tCons]
      refine lc_same (K := K) gR (a := L8) (ns := Fs) (fun _ => true) (fun r => .int (r.2.length : Int)) (fun Q' q => ⟨_, rfl, q⟩) (SqL.of LF.at_) (by omega) (fun x => by rfl) (fun r hr H10 s10 Q' q' => q' H10 Same.rfl) (fun r hr _ H10 s10 Q' q' => ?_) (fun t10 H10 _ s10 h10 => ?_)
      · refine ⟨_, rfl, r.1, _, rfl, Or.inl (SqL.of (s10 _ _ (LF.el r hr))), ?_⟩
        rw [List.length_map]; exact q' H10 Same.rfl
      have fne : 0 < Fs.length := by
        have : st.freeL ∈ Fs.map (·.2) := by rw [mF]; exact (FL.mem_frees G.po).mpr (FL.freeL_ok G)
        have := List.length_pos_iff.mpr (List.ne_nil_of_mem this)
        rwa [List.length_map] at this
      refine ⟨t10, Fs.map fun r => (r.2.length : Int), rfl, SqL.of (by rw [h10, filter_all, List.map_map]; rfl), by rw [List.length_map]; exact fne, fun m hm hx => ?_⟩
      have em := lens_max hm hx
      rw [mF, FL.frees_max G] at em
      subst em
      have W10 := W9.same s10
      have LF10 := LF.same s10
      have LR10 := LR.same s10
      clear hm hx h10 W9 LF LR
      try dsimp only [gName, tSeq, tAsg, tCB, tCons]
      refine lc_same (K := K) gR (a := L8) (ns := Fs) (fun r => decide ((r.2.length : Int) = (st.freeL.length : Int))) gR (fun Q' q => ⟨_, rfl, q⟩) (SqL.of LF10.at_) (by omega) (fun x => by rfl) (fun r hr H11 s11 Q' q' => ?_) (fun r hr _ H11 s11 Q' q' => ⟨_, rfl, q' H11 Same.rfl⟩) (fun L11 H11 _ s11 h11 => ?_)
      · refine ⟨_, rfl, r.1, _, rfl, Or.inl (SqL.of (s11 _ _ (LF10.el r hr))), _, rfl, rfl, _, rfl, ?_⟩
        rw [List.length_map, dec_eq_int]; exact q' H11 Same.rfl
      obtain ⟨Bs, eB⟩ : ∃ Bs, Bs = Fs.filter fun r => decide ((r.2.length : Int) = (st.freeL.length : Int)) := ⟨_, rfl⟩
      have LB11 : LK H11 L11 Bs := ⟨by rw [eB]; exact h11, fun r hr => s11 _ _ (LF10.el r (List.mem_filter.mp (eB ▸ hr)).1)⟩
      have mB : Bs.map (·.2) = st.best := by
        rw [eB, filt2 (fun A => decide ((A.length : Int) = (st.freeL.length : Int))), mF]
        unfold FL.HS.best
        exact List.filter_congr fun A _ => decide_eq_decide.mpr (by omega)
      have lB : Bs.length ≤ 128 := by rw [eB]; exact Nat.le_trans (List.length_filter_le _ _) lF
      have W11 := W10.same s11
      have LR11 := LR10.same s11
      clear h11 W10 LF10 LR10 eB mF lF
      obtain ⟨dx, hh⟩ := W11.hall.ob
      refine ⟨_, rfl, a.h, dx, _, rfl, hh, fH_no ⟨by decide +kernel, by decide +kernel⟩, a, st, rfl, W11.hall, G, by omega, fun H12 pl as s12 LL => ?_⟩
      refine ⟨pl, _, rfl, Or.inl (SqL.of LL.at_), _, rfl, rfl, _, rfl, ?_⟩
      rw [dec_ne_int, List.length_map, LL.tt.len, ladders_free G]
      refine ite2 (fun z => absurd rfl (of_decide_eq_true z)) (fun _ => ?_)
      have W12 := W11.same s12
      have LB12 := LB11.same s12
      have LR12 := LR11.same s12
      have hh12 := s12 _ _ hh
      refine ⟨_, rfl, a.h, dx, _, rfl, hh12, fH_no ⟨by decide +kernel, by decide +kernel⟩, a, st, rfl, W12.hall, G, by omega, fun H13 fr s13 _ hfr => ?_⟩
      have W13 := W12.same s13
      have LB13 := LB12.same s13
      have LR13 := LR12.same s13
      refine ⟨_, rfl, iD st.freeL, (Bs.map (·.2)).map iD, dp_iD (SqL.of hfr), LB13.dp, iD_sh _, iiD_sh _, _, rfl, ?_⟩
      have hany : ((Bs.map (·.2)).map iD).any (fun z => PyData.eqv z (iD st.freeL)) = true := List.any_eq_true.mpr ⟨iD st.freeL, List.mem_map.mpr ⟨st.freeL, by rw [mB]; exact FL.best_free G, rfl⟩, (eqv_iD _ _).mpr rfl⟩
      rw [hany]
      refine ite2 (fun z => absurd z (by decide)) (fun _ => ?_)
      clear W11 W12 LB11 LB12 LR11 LR12 LL hfr hh hh12
      refine ⟨b, _, W13.lb.at_, trivial, fun od => ?_⟩
      have n9 : ∀ x, x ≠ b → ∀ u, H13 x = some u → (upd H13 b (.frz od (.dK (kvI V.ref ps)))) x = some u := fun x n u e => by rw [upd_ne n]; exact e
      have HAf : HallAt c (upd H13 b (.frz od (.dK (kvI V.ref ps)))) a st := W13.hall.sameF fun x hx u e => n9 x (fun z => W13.ob (z ▸ hx)) u e
      have hbf : (upd H13 b (.frz od (.dK (kvI V.ref ps)))) b = some (.frz od (.dK (kvI V.ref ps))) := upd_same
      have nl : ∀ {x : Addr} {vs : List V}, H13 x = some (.lst vs) → x ≠ b := fun e => ne_of e W13.lb.at_ (by intro z; cases z)
      have LBf : LK (upd H13 b (.frz od (.dK (kvI V.ref ps)))) L11 Bs := ⟨n9 _ (nl LB13.at_) _ LB13.at_, fun r hr => n9 _ (nl (LB13.el r hr)) _ (LB13.el r hr)⟩
      have klen : (kvI V.ref ps).length = ps.length := by rw [len_kvI]
      generalize upd H13 b (.frz od (.dK (kvI V.ref ps))) = Hf at n9 HAf hbf LBf
      obtain ⟨dx, hh⟩ := HAf.ob
      refine ⟨_, rfl, b, od, rfl, Or.inl ⟨_, hbf, for_it walk_keys (fun i σ H14 => Same Hf H14 ∧ ∃ v4 v5 v6 v7 v14 v15, σ = [some (.ref S), some (.ref a.h), some (.ref b), some (.int (st.told : Int)), v4, v5, v6, v7, some (.ref fA), some (.ref fR), some (.ref p), some (.ref L11), some (.ref L9), some (.int (st.freeL.length : Nat)), v14, v15, none])
        ⟨Same.rfl, _, _, _, _, _, _, rfl⟩ (fun _ _ _ _ h => h.1 _ _ hbf) ?_ ?_⟩⟩
      · rintro i y σ H14 H15 hi ⟨s14, v4, v5, v6, v7, v14, v15, rfl⟩ ⟨rfl, kk, v, hk, rfl⟩
        obtain ⟨⟨x, px⟩, ex, rfl, rfl⟩ := kvI_at hk
        have hx : x ∈ st.linked := by rw [← W13.keys]; exact List.mem_map.mpr ⟨_, List.mem_of_getElem? ex, rfl⟩
        have LB14 := LBf.same s14
        dsimp only [gName, tSeq, tAsg, tCB, tCons]
        refine lc_same (K := K) gR (a := L11) (ns := Bs) (fun r => inV (V.int x) (r.2.map V.int)) gR (fun Q' q => ⟨_, rfl, q⟩) (SqL.of LB14.at_) (by omega) (fun x => by rfl) (fun r hr H16 s16 Q' q' => ?_) (fun r hr _ H16 s16 Q' q' => ⟨_, rfl, q' H16 Same.rfl⟩) (fun t16 H16 _ s16 h16 => ?_)
        · exact ⟨_, rfl, _, rfl, r.1, _, rfl, Or.inl (SqL.of (s16 _ _ (LB14.el r hr))), rfl, flat_ints _, _, rfl, q' H16 Same.rfl⟩
        refine ⟨t16, _, rfl, Or.inl (SqL.of h16), ?_⟩
        rw [List.length_map, cnt_is mB]
        have s1416 := s14.trans s16
        refine ⟨fun σ H17 => Same Hf H17 ∧ ∃ d : Str, d = (if st.cnt x = 0 then "no" else "some") ∧ σ = [some (.ref S), some (.ref a.h), some (.ref b), some (.int (st.told : Int)), v4, v5, some (.int x), v7, some (.ref fA), some (.ref fR), some (.ref p), some (.ref L11), some (.ref L9), some (.int (st.freeL.length : Nat)), some (.int (st.cnt x : Nat)), some (.str d), none], ?_, ?_⟩
        · refine ⟨_, rfl, rfl, _, rfl, ?_⟩
          rw [dec_eq_int]
          refine ite2 (fun z => ⟨s1416, _, ?_, rfl⟩) (fun z => ⟨s1416, _, ?_, rfl⟩)
          · have z := of_decide_eq_true z
            rw [if_pos (by omega)]
          · rw [if_neg fun e => z (decide_eq_true (by omega))]
        rintro σ H17 ⟨s17, d, ed, rfl⟩
        refine ⟨fun σ H18 => Same Hf H18 ∧ ∃ d : Str, d = FL.HS.stand st x ∧ σ = [some (.ref S), some (.ref a.h), some (.ref b), some (.int (st.told : Int)), v4, v5, some (.int x), v7, some (.ref fA), some (.ref fR), some (.ref p), some (.ref L11), some (.ref L9), some (.int (st.freeL.length : Nat)), some (.int (st.cnt x : Nat)), some (.str d), none], ?_, ?_⟩
        · have LB17 := LBf.same s17
          have el : Bs.length = st.best.length := by rw [← mB, List.length_map]
          refine ⟨_, rfl, _, rfl, L11, _, rfl, Or.inl (SqL.of LB17.at_), rfl, _, rfl, ?_⟩
          rw [dec_eq_int, List.length_map, el]
          refine ite2 (fun z => ⟨s17, _, ?_, rfl⟩) (fun z => ⟨s17, _, ?_, rfl⟩)
          · have z := of_decide_eq_true z
            rw [stand_due G hx, if_pos (by omega)]
          · rw [stand_due G hx, if_neg fun e => z (decide_eq_true (by omega)), ed]
        rintro σ H18 ⟨s18, d, ed, rfl⟩
        refine ⟨_, rfl, a.h, dx, _, rfl, s18 _ _ hh, fH_no ⟨by decide +kernel, by decide +kernel⟩, _, rfl, a, st, x, rfl, HAf.same s18, G, by omega, hx, fun H19 s19 => ⟨_, rfl, rfl, _, rfl, ?_⟩⟩
        rw [ed]
        refine ite2 (fun z => absurd z (by simp)) (fun _ => ?_)
        exact ⟨s18.trans s19, _, _, _, _, _, _, rfl⟩
      · rintro σ H14 ⟨s14, v4, v5, v6, v7, v14, v15, rfl⟩
        refine ⟨s14 _ _ hbf, ?_⟩
        have back : ∀ x u, H13 x = some u → (upd H14 b (.dK (kvI V.ref ps))) x = some u := fun x u e => by
          by_cases z : x = b
          · rw [z, W13.lb.at_] at e
            rw [z, upd_same]; exact e
          · rw [upd_ne z]; exact s14 _ _ (n9 x z u e)
        have We := W13.same back
        have LRe := LR13.same back
        generalize upd H14 b (.dK (kvI V.ref ps)) = H15 at We LRe
        dsimp only [gName, tSeq, tAsg, tCB, tCons]
        refine lc_same (K := K) gR (a := L9) (ns := Rs) (fun _ => true) (fun r => .int (r.2.length : Int)) (fun Q' q => ⟨_, rfl, q⟩) (SqL.of LRe.at_) (by omega) (fun x => by rfl) (fun r hr H16 s16 Q' q' => q' H16 Same.rfl) (fun r hr _ H16 s16 Q' q' => ?_) (fun t16 H16 _ s16 h16 => ?_)
        · refine ⟨_, rfl, r.1, _, rfl, Or.inl (SqL.of (s16 _ _ (LRe.el r hr))), ?_⟩
          rw [List.length_map]; exact q' H16 Same.rfl
        have rne : 0 < Rs.length := by
          have : FL.longest st.lies st.linked ∈ Rs.map (·.2) := by rw [mR]; exact FL.longest_mem G.po
          have := List.length_pos_iff.mpr (List.ne_nil_of_mem this)
          rwa [List.length_map] at this
        refine ⟨t16, Rs.map fun r => (r.2.length : Int), rfl, SqL.of (by rw [h16, filter_all, List.map_map]; rfl), by rw [List.length_map]; exact rne, fun m hm hx => ?_⟩
        have em := lens_max hm hx
        rw [mR, FL.rows_max G.po] at em
        subst em
        have W16 := We.same s16
        obtain ⟨dx, hh⟩ := W16.hall.ob
        refine ⟨_, rfl, a.h, dx, _, rfl, hh, fH_no ⟨by decide +kernel, by decide +kernel⟩, a, st, rfl, W16.hall, G, by omega, fun H17 t17 s17 _ h17 => ?_⟩
        refine ⟨t17, _, rfl, Or.inl (SqL.of h17), _, rfl, rfl, _, rfl, ?_⟩
        rw [dec_eq_int, List.length_map, longest_hgt G]
        refine ite2 (fun _ => ?_) (fun z => absurd (decide_eq_true rfl) z)
        have W17 := W16.same s17
        have hh17 := s17 _ _ hh
        refine ⟨_, rfl, a.h, dx, _, rfl, hh17, fH_no ⟨by decide +kernel, by decide +kernel⟩, a, st, rfl, W17.hall, G, by omega, fun H18 t18 as18 s18 LL => ?_⟩
        refine ⟨t18, _, rfl, Or.inl (SqL.of LL.at_), _, rfl, rfl, ?_⟩
        rw [dec_eq_int, List.length_map, LL.tt.len, FL.floors_len, decide_eq_true rfl]
        exact k H18
end
end FW

set_option maxHeartbeats 0
namespace FW
open PySem PySem.Spec PyProof.Rows L2
def d0 : He.DefD := ⟨("floor_of", none), "floor_of", "floor_of", defArgs s_floor_of, defBody s_floor_of, defScope s_floor_of, [], []⟩
def d1 : He.DefD := ⟨("floors_of", none), "floors_of", "floors_of", defArgs s_floors_of, defBody s_floors_of, defScope s_floors_of, [], []⟩
def d2 : He.DefD := ⟨("longest_of", none), "longest_of", "longest_of", defArgs s_longest_of, defBody s_longest_of, defScope s_longest_of, [], []⟩
def d3 : He.DefD := ⟨("bit_of", none), "bit_of", "bit_of", defArgs s_bit_of, defBody s_bit_of, defScope s_bit_of, [], []⟩
def d4 : He.DefD := ⟨("has", none), "has", "has", defArgs s_has, defBody s_has, defScope s_has, [], []⟩
def d5 : He.DefD := ⟨("without", none), "without", "without", defArgs s_without, defBody s_without, defScope s_without, [], []⟩
def d6 : He.DefD := ⟨("_law_mixed", none), "_law_mixed", "_law_mixed", defArgs s_w_mixed, defBody s_w_mixed, defScope s_w_mixed, [], []⟩
def d7 : He.DefD := ⟨("_law_some", none), "_law_some", "_law_some", defArgs s_w_some, defBody s_w_some, defScope s_w_some, [], []⟩
def d8 : He.DefD := ⟨("_law_grown", none), "_law_grown", "_law_grown", defArgs s_w_grown, defBody s_w_grown, defScope s_w_grown, [], []⟩
def d9 : He.DefD := ⟨("_law_fewer", none), "_law_fewer", "_law_fewer", defArgs s_w_fewer, defBody s_w_fewer, defScope s_w_fewer, [], []⟩
def d10 : He.DefD := ⟨("_law_apart", none), "_law_apart", "_law_apart", defArgs s_w_apart, defBody s_w_apart, defScope s_w_apart, [], []⟩
def d11 : He.DefD := ⟨("_law_is_free", none), "_law_is_free", "_law_is_free", defArgs s_w_is_free, defBody s_w_is_free, defScope s_w_is_free, [], []⟩
def d12 : He.DefD := ⟨("_law_sets", none), "_law_sets", "_law_sets", defArgs s_w_sets, defBody s_w_sets, defScope s_w_sets, [], []⟩
def d13 : He.DefD := ⟨("_law_all_by", none), "_law_all_by", "_law_all_by", defArgs s_w_all_by, defBody s_w_all_by, defScope s_w_all_by, [], []⟩
def d14 : He.DefD := ⟨("law", none), "law", "law", defArgs s_law, defBody s_law, defScope s_law, [], []⟩
def d15 : He.DefD := ⟨("Links", some "__init__"), "__init__", "Links.__init__", defArgs sL_init, defBody sL_init, defScope sL_init, [], []⟩
def d16 : He.DefD := ⟨("Links", some "link"), "link", "Links.link", defArgs sL_link, defBody sL_link, defScope sL_link, [], []⟩
def d17 : He.DefD := ⟨("Links", some "climbed"), "climbed", "Links.climbed", defArgs sL_climbed, defBody sL_climbed, defScope sL_climbed, [], []⟩
def d18 : He.DefD := ⟨("Links", some "joined"), "joined", "Links.joined", defArgs sL_joined, defBody sL_joined, defScope sL_joined, [], []⟩
def d19 : He.DefD := ⟨("Links", some "joined_all"), "joined_all", "Links.joined_all", defArgs sL_joined_all, defBody sL_joined_all, defScope sL_joined_all, [], []⟩
def d20 : He.DefD := ⟨("Links", some "add"), "add", "Links.add", defArgs sL_add, defBody sL_add, defScope sL_add, [], []⟩
def d21 : He.DefD := ⟨("Links", some "drop"), "drop", "Links.drop", defArgs sL_drop, defBody sL_drop, defScope sL_drop, [], []⟩
def d22 : He.DefD := ⟨("Links", some "ladders"), "ladders", "Links.ladders", defArgs sL_ladders, defBody sL_ladders, defScope sL_ladders, [], []⟩
def d23 : He.DefD := ⟨("Links", some "reached"), "reached", "Links.reached", defArgs sL_reached, defBody sL_reached, defScope sL_reached, [], []⟩
def d24 : He.DefD := ⟨("Links", some "free"), "free", "Links.free", defArgs sL_free, defBody sL_free, defScope sL_free, [], []⟩
def d25 : He.DefD := ⟨("Order", some "__init__"), "__init__", "Order.__init__", defArgs sO_init, defBody sO_init, defScope sO_init, [], []⟩
def d26 : He.DefD := ⟨("Order", some "is_thing"), "is_thing", "Order.is_thing", defArgs sO_is_thing, defBody sO_is_thing, defScope sO_is_thing, [], []⟩
def d27 : He.DefD := ⟨("Order", some "need_thing"), "need_thing", "Order.need_thing", defArgs sO_need_thing, defBody sO_need_thing, defScope sO_need_thing, [], []⟩
def d28 : He.DefD := ⟨("Order", some "need_things"), "need_things", "Order.need_things", defArgs sO_need_things, defBody sO_need_things, defScope sO_need_things, [], []⟩
def d29 : He.DefD := ⟨("Order", some "put"), "put", "Order.put", defArgs sO_put, defBody sO_put, defScope sO_put, [], []⟩
def d30 : He.DefD := ⟨("Order", some "take"), "take", "Order.take", defArgs sO_take, defBody sO_take, defScope sO_take, [], []⟩
def d31 : He.DefD := ⟨("Order", some "things"), "things", "Order.things", defArgs sO_things, defBody sO_things, defScope sO_things, [], []⟩
def d32 : He.DefD := ⟨("Order", some "lies_above"), "lies_above", "Order.lies_above", defArgs sO_lies_above, defBody sO_lies_above, defScope sO_lies_above, [], []⟩
def d33 : He.DefD := ⟨("Order", some "are_apart"), "are_apart", "Order.are_apart", defArgs sO_are_apart, defBody sO_are_apart, defScope sO_are_apart, [], []⟩
def d34 : He.DefD := ⟨("Hall", some "__init__"), "__init__", "Hall.__init__", defArgs sH_init, defBody sH_init, defScope sH_init, [], []⟩
def d35 : He.DefD := ⟨("Hall", some "put"), "put", "Hall.put", defArgs sH_put, defBody sH_put, defScope sH_put, [], []⟩
def d36 : He.DefD := ⟨("Hall", some "take"), "take", "Hall.take", defArgs sH_take, defBody sH_take, defScope sH_take, [], []⟩
def d37 : He.DefD := ⟨("Hall", some "things"), "things", "Hall.things", defArgs sH_things, defBody sH_things, defScope sH_things, [], []⟩
def d38 : He.DefD := ⟨("Hall", some "lies_above"), "lies_above", "Hall.lies_above", defArgs sH_lies_above, defBody sH_lies_above, defScope sH_lies_above, [], []⟩
def d39 : He.DefD := ⟨("Hall", some "ladders"), "ladders", "Hall.ladders", defArgs sH_ladders, defBody sH_ladders, defScope sH_ladders, [], []⟩
def d40 : He.DefD := ⟨("Hall", some "free"), "free", "Hall.free", defArgs sH_free, defBody sH_free, defScope sH_free, [], []⟩
def d41 : He.DefD := ⟨("Hall", some "floors"), "floors", "Hall.floors", defArgs sH_floors, defBody sH_floors, defScope sH_floors, [], []⟩
def d42 : He.DefD := ⟨("Hall", some "longest"), "longest", "Hall.longest", defArgs sH_longest, defBody sH_longest, defScope sH_longest, [], []⟩
def d43 : He.DefD := ⟨("Hall", some "parted"), "parted", "Hall.parted", defArgs sH_parted, defBody sH_parted, defScope sH_parted, [], []⟩
def d44 : He.DefD := ⟨("Hall", some "with_thing"), "with_thing", "Hall.with_thing", defArgs sH_with_thing, defBody sH_with_thing, defScope sH_with_thing, [], []⟩
def d45 : He.DefD := ⟨("Hall", some "without_thing"), "without_thing", "Hall.without_thing", defArgs sH_without_thing, defBody sH_without_thing, defScope sH_without_thing, [], []⟩
def d46 : He.DefD := ⟨("Hall", some "standing"), "standing", "Hall.standing", defArgs sH_standing, defBody sH_standing, defScope sH_standing, [], []⟩
def fnL : List He.DefD := [d0, d1, d2, d3, d4, d5, d6, d7, d8, d9, d10, d11, d12, d13, d14, d15, d16, d17, d18, d19, d20, d21, d22, d23, d24, d25, d26, d27, d28, d29, d30, d31, d32, d33, d34, d35, d36, d37, d38, d39, d40, d41, d42, d43, d44, d45, d46]
def faL : List He.Fa := [.glo "floor_of", .glo "floors_of", .glo "longest_of", .glo "bit_of", .glo "has", .glo "without", .glo "_law_mixed", .glo "_law_some", .glo "_law_grown", .glo "_law_fewer", .glo "_law_apart", .glo "_law_is_free", .glo "_law_sets", .glo "_law_all_by", .glo "law", .glo "Links", .cls "Links", .mkr "Links", .noat "Links" "above", .noat "Links" "beneath", .noat "Links" "linked", .noat "Links" "order", .meth "Links" "__init__", .meth "Links" "link", .meth "Links" "climbed", .meth "Links" "joined", .meth "Links" "joined_all", .meth "Links" "add", .meth "Links" "drop", .meth "Links" "ladders", .meth "Links" "reached", .meth "Links" "free", .glo "HallError", .exc "HallError", .glo "NoThing", .exc "NoThing", .glo "Twice", .exc "Twice", .glo "Full", .exc "Full", .glo "Order", .cls "Order", .mkr "Order", .noat "Order" "below", .noat "Order" "told", .meth "Order" "__init__", .meth "Order" "is_thing", .meth "Order" "need_thing", .meth "Order" "need_things", .meth "Order" "put", .meth "Order" "take", .meth "Order" "things", .meth "Order" "lies_above", .meth "Order" "are_apart", .glo "Hall", .cls "Hall", .mkr "Hall", .noat "Hall" "links", .noat "Hall" "order", .meth "Hall" "__init__", .meth "Hall" "put", .meth "Hall" "take", .meth "Hall" "things", .meth "Hall" "lies_above", .meth "Hall" "ladders", .meth "Hall" "free", .meth "Hall" "floors", .meth "Hall" "longest", .meth "Hall" "parted", .meth "Hall" "with_thing", .meth "Hall" "without_thing", .meth "Hall" "standing", .free "len", .free "sorted", .free "list", .free "isinstance", .free "set", .free "max", .free "dict", .free "int", .free "bool", .free "enumerate", .free "all", .free "reversed", .int "MOST_THINGS" 24]
abbrev R : PySem.W.OpenRow := PySem.W.OpenLaw.row PySem.Challenge.rw_fewladders_k08_whole_small_halls_tried
def tfL : List He.Defn := [("law", none)]
def exL (K : PySem.W.Frag) : Bool := true
abbrev hkL : PySem.W.Hook := He.hookX 4 faL fnL [] tfL exL
def obL (s : PySem.W.SharedT) : He.AlX := He.obsX 4 faL fnL [] tfL exL (HandSHeadRun.getT s)
theorem obL_eq (s : PySem.W.SharedT) : obL s = hkL.obs s.abs := He.obsX_eq (HandSHeadRun.getT_eq s)
def looseL : List PySem.Str := ["floor_of", "floors_of", "longest_of", "Links", "bit_of", "has", "without", "HallError", "NoThing", "Twice", "Full", "MOST_THINGS", "Order", "Hall", "_law_mixed", "_law_some", "_law_grown", "_law_fewer", "_law_apart", "_law_is_free", "_law_sets", "_law_all_by"]
theorem runL (w : World) : HandSHeadRun.RunEq R (PySem.W.view R.prog [29]) hkL obL 4000 looseL w := by
  intro os
  kernel_rfl
theorem facts {w : World} {K : PySem.W.Frag} {h : Heap} {mg : Str → Option Value} {f : Addr} (X : K.In h) (G : h.Ns mainGlobals mg) (hfa : mg ("law" : Str) = some (.ref f)) (cx : He.SaysX faL fnL [] tfL exL w h K) : LamX.LawAtS PySem.Challenge.rw_fewladders_k08_whole_small_halls_tried w K CX0 33 63 "_law_script" mg f h := by
  have c := cx.t.d
  obtain ⟨fd0, F0⟩ := c.def_ 0 (d := d0) rfl
  obtain ⟨fd1, F1⟩ := c.def_ 1 (d := d1) rfl
  obtain ⟨fd2, F2⟩ := c.def_ 2 (d := d2) rfl
  obtain ⟨fd3, F3⟩ := c.def_ 3 (d := d3) rfl
  obtain ⟨fd4, F4⟩ := c.def_ 4 (d := d4) rfl
  obtain ⟨fd5, F5⟩ := c.def_ 5 (d := d5) rfl
  obtain ⟨fd6, F6⟩ := c.def_ 6 (d := d6) rfl
  obtain ⟨fd7, F7⟩ := c.def_ 7 (d := d7) rfl
  obtain ⟨fd8, F8⟩ := c.def_ 8 (d := d8) rfl
  obtain ⟨fd9, F9⟩ := c.def_ 9 (d := d9) rfl
  obtain ⟨fd10, F10⟩ := c.def_ 10 (d := d10) rfl
  obtain ⟨fd11, F11⟩ := c.def_ 11 (d := d11) rfl
  obtain ⟨fd12, F12⟩ := c.def_ 12 (d := d12) rfl
  obtain ⟨fd13, F13⟩ := c.def_ 13 (d := d13) rfl
  obtain ⟨fd14, F14⟩ := c.def_ 14 (d := d14) rfl
  obtain ⟨fd15, F15⟩ := c.def_ 15 (d := d15) rfl
  obtain ⟨fd16, F16⟩ := c.def_ 16 (d := d16) rfl
  obtain ⟨fd17, F17⟩ := c.def_ 17 (d := d17) rfl
  obtain ⟨fd18, F18⟩ := c.def_ 18 (d := d18) rfl
  obtain ⟨fd19, F19⟩ := c.def_ 19 (d := d19) rfl
  obtain ⟨fd20, F20⟩ := c.def_ 20 (d := d20) rfl
  obtain ⟨fd21, F21⟩ := c.def_ 21 (d := d21) rfl
  obtain ⟨fd22, F22⟩ := c.def_ 22 (d := d22) rfl
  obtain ⟨fd23, F23⟩ := c.def_ 23 (d := d23) rfl
  obtain ⟨fd24, F24⟩ := c.def_ 24 (d := d24) rfl
  obtain ⟨fd25, F25⟩ := c.def_ 25 (d := d25) rfl
  obtain ⟨fd26, F26⟩ := c.def_ 26 (d := d26) rfl
  obtain ⟨fd27, F27⟩ := c.def_ 27 (d := d27) rfl
  obtain ⟨fd28, F28⟩ := c.def_ 28 (d := d28) rfl
  obtain ⟨fd29, F29⟩ := c.def_ 29 (d := d29) rfl
  obtain ⟨fd30, F30⟩ := c.def_ 30 (d := d30) rfl
  obtain ⟨fd31, F31⟩ := c.def_ 31 (d := d31) rfl
  obtain ⟨fd32, F32⟩ := c.def_ 32 (d := d32) rfl
  obtain ⟨fd33, F33⟩ := c.def_ 33 (d := d33) rfl
  obtain ⟨fd34, F34⟩ := c.def_ 34 (d := d34) rfl
  obtain ⟨fd35, F35⟩ := c.def_ 35 (d := d35) rfl
  obtain ⟨fd36, F36⟩ := c.def_ 36 (d := d36) rfl
  obtain ⟨fd37, F37⟩ := c.def_ 37 (d := d37) rfl
  obtain ⟨fd38, F38⟩ := c.def_ 38 (d := d38) rfl
  obtain ⟨fd39, F39⟩ := c.def_ 39 (d := d39) rfl
  obtain ⟨fd40, F40⟩ := c.def_ 40 (d := d40) rfl
  obtain ⟨fd41, F41⟩ := c.def_ 41 (d := d41) rfl
  obtain ⟨fd42, F42⟩ := c.def_ 42 (d := d42) rfl
  obtain ⟨fd43, F43⟩ := c.def_ 43 (d := d43) rfl
  obtain ⟨fd44, F44⟩ := c.def_ 44 (d := d44) rfl
  obtain ⟨fd45, F45⟩ := c.def_ 45 (d := d45) rfl
  obtain ⟨fd46, F46⟩ := c.def_ 46 (d := d46) rfl
  have e := hfa.symm.trans (He.glo_ok X G (c.fact 14 (f := .glo "law") rfl))
  cases e
  have b := FunD.bindsA (ps := ["_law_script"]) F14 fun _ _ _ _ _ _ us hl => match us, hl with | [_], _ => rfl
  let cc : CC := { H := He.ga K "Hall", O := He.ga K "Order", L := He.ga K "Links" }
  have T : Tx K mg cc := {
    clH := He.cls_ok (c.fact 55 (f := .cls "Hall") rfl)
    clO := He.cls_ok (c.fact 41 (f := .cls "Order") rfl)
    clL := He.cls_ok (c.fact 16 (f := .cls "Links") rfl)
    nHo := He.noat_ok (c.fact 58 (f := .noat "Hall" "order") rfl)
    nHl := He.noat_ok (c.fact 57 (f := .noat "Hall" "links") rfl)
    nOb := He.noat_ok (c.fact 43 (f := .noat "Order" "below") rfl)
    nOt := He.noat_ok (c.fact 44 (f := .noat "Order" "told") rfl)
    nLo := He.noat_ok (c.fact 21 (f := .noat "Links" "order") rfl)
    nLl := He.noat_ok (c.fact 20 (f := .noat "Links" "linked") rfl)
    nLa := He.noat_ok (c.fact 18 (f := .noat "Links" "above") rfl)
    nLb := He.noat_ok (c.fact 19 (f := .noat "Links" "beneath") rfl)
    mkH := (He.mkr_ok (c.fact 56 (f := .mkr "Hall") rfl)).makes
    kpH := (He.mkr_ok (c.fact 56 (f := .mkr "Hall") rfl)).kp
    gH := He.glo_ok X G (c.fact 54 (f := .glo "Hall") rfl)
    mkO := (He.mkr_ok (c.fact 42 (f := .mkr "Order") rfl)).makes
    kpO := (He.mkr_ok (c.fact 42 (f := .mkr "Order") rfl)).kp
    gO := He.glo_ok X G (c.fact 40 (f := .glo "Order") rfl)
    mkL := (He.mkr_ok (c.fact 17 (f := .mkr "Links") rfl)).makes
    kpL := (He.mkr_ok (c.fact 17 (f := .mkr "Links") rfl)).kp
    gL := He.glo_ok X G (c.fact 15 (f := .glo "Links") rfl)
    most := He.int_ok X G (c.fact 84 (f := .int "MOST_THINGS" 24) rfl)
    zLen := He.free_ok X G (c.fact 72 (f := .free "len") rfl)
    zSorted := He.free_ok X G (c.fact 73 (f := .free "sorted") rfl)
    zList := He.free_ok X G (c.fact 74 (f := .free "list") rfl)
    zIsi := He.free_ok X G (c.fact 75 (f := .free "isinstance") rfl)
    zInt := He.free_ok X G (c.fact 79 (f := .free "int") rfl)
    zBool := He.free_ok X G (c.fact 80 (f := .free "bool") rfl)
    zSet := He.free_ok X G (c.fact 76 (f := .free "set") rfl)
    zDict := He.free_ok X G (c.fact 78 (f := .free "dict") rfl)
    zMax := He.free_ok X G (c.fact 77 (f := .free "max") rfl)
    zRev := He.free_ok X G (c.fact 83 (f := .free "reversed") rfl) }
  have D0 : GD K mg "floor_of" s_floor_of := ⟨_, fd0, He.glo_ok X G (c.fact 0 (f := .glo "floor_of") rfl), F0⟩
  have D1 : GD K mg "floors_of" s_floors_of := ⟨_, fd1, He.glo_ok X G (c.fact 1 (f := .glo "floors_of") rfl), F1⟩
  have D2 : GD K mg "longest_of" s_longest_of := ⟨_, fd2, He.glo_ok X G (c.fact 2 (f := .glo "longest_of") rfl), F2⟩
  have D3 : GD K mg "bit_of" s_bit_of := ⟨_, fd3, He.glo_ok X G (c.fact 3 (f := .glo "bit_of") rfl), F3⟩
  have D4 : GD K mg "has" s_has := ⟨_, fd4, He.glo_ok X G (c.fact 4 (f := .glo "has") rfl), F4⟩
  have D5 : GD K mg "without" s_without := ⟨_, fd5, He.glo_ok X G (c.fact 5 (f := .glo "without") rfl), F5⟩
  have D6 : GD K mg "_law_mixed" s_w_mixed := ⟨_, fd6, He.glo_ok X G (c.fact 6 (f := .glo "_law_mixed") rfl), F6⟩
  have D7 : GD K mg "_law_some" s_w_some := ⟨_, fd7, He.glo_ok X G (c.fact 7 (f := .glo "_law_some") rfl), F7⟩
  have D8 : GD K mg "_law_grown" s_w_grown := ⟨_, fd8, He.glo_ok X G (c.fact 8 (f := .glo "_law_grown") rfl), F8⟩
  have D9 : GD K mg "_law_fewer" s_w_fewer := ⟨_, fd9, He.glo_ok X G (c.fact 9 (f := .glo "_law_fewer") rfl), F9⟩
  have D10 : GD K mg "_law_apart" s_w_apart := ⟨_, fd10, He.glo_ok X G (c.fact 10 (f := .glo "_law_apart") rfl), F10⟩
  have D11 : GD K mg "_law_is_free" s_w_is_free := ⟨_, fd11, He.glo_ok X G (c.fact 11 (f := .glo "_law_is_free") rfl), F11⟩
  have D12 : GD K mg "_law_sets" s_w_sets := ⟨_, fd12, He.glo_ok X G (c.fact 12 (f := .glo "_law_sets") rfl), F12⟩
  have D13 : GD K mg "_law_all_by" s_w_all_by := ⟨_, fd13, He.glo_ok X G (c.fact 13 (f := .glo "_law_all_by") rfl), F13⟩
  have D15 : MD K cc.L "__init__" "Links.__init__" sL_init := ⟨_, fd15, He.meth_ok (c.fact 22 (f := .meth "Links" "__init__") rfl), F15⟩
  have D16 : MD K cc.L "link" "Links.link" sL_link := ⟨_, fd16, He.meth_ok (c.fact 23 (f := .meth "Links" "link") rfl), F16⟩
  have D17 : MD K cc.L "climbed" "Links.climbed" sL_climbed := ⟨_, fd17, He.meth_ok (c.fact 24 (f := .meth "Links" "climbed") rfl), F17⟩
  have D18 : MD K cc.L "joined" "Links.joined" sL_joined := ⟨_, fd18, He.meth_ok (c.fact 25 (f := .meth "Links" "joined") rfl), F18⟩
  have D19 : MD K cc.L "joined_all" "Links.joined_all" sL_joined_all := ⟨_, fd19, He.meth_ok (c.fact 26 (f := .meth "Links" "joined_all") rfl), F19⟩
  have D20 : MD K cc.L "add" "Links.add" sL_add := ⟨_, fd20, He.meth_ok (c.fact 27 (f := .meth "Links" "add") rfl), F20⟩
  have D21 : MD K cc.L "drop" "Links.drop" sL_drop := ⟨_, fd21, He.meth_ok (c.fact 28 (f := .meth "Links" "drop") rfl), F21⟩
  have D22 : MD K cc.L "ladders" "Links.ladders" sL_ladders := ⟨_, fd22, He.meth_ok (c.fact 29 (f := .meth "Links" "ladders") rfl), F22⟩
  have D23 : MD K cc.L "reached" "Links.reached" sL_reached := ⟨_, fd23, He.meth_ok (c.fact 30 (f := .meth "Links" "reached") rfl), F23⟩
  have D24 : MD K cc.L "free" "Links.free" sL_free := ⟨_, fd24, He.meth_ok (c.fact 31 (f := .meth "Links" "free") rfl), F24⟩
  have D25 : MD K cc.O "__init__" "Order.__init__" sO_init := ⟨_, fd25, He.meth_ok (c.fact 45 (f := .meth "Order" "__init__") rfl), F25⟩
  have D26 : MD K cc.O "is_thing" "Order.is_thing" sO_is_thing := ⟨_, fd26, He.meth_ok (c.fact 46 (f := .meth "Order" "is_thing") rfl), F26⟩
  have D27 : MD K cc.O "need_thing" "Order.need_thing" sO_need_thing := ⟨_, fd27, He.meth_ok (c.fact 47 (f := .meth "Order" "need_thing") rfl), F27⟩
  have D28 : MD K cc.O "need_things" "Order.need_things" sO_need_things := ⟨_, fd28, He.meth_ok (c.fact 48 (f := .meth "Order" "need_things") rfl), F28⟩
  have D29 : MD K cc.O "put" "Order.put" sO_put := ⟨_, fd29, He.meth_ok (c.fact 49 (f := .meth "Order" "put") rfl), F29⟩
  have D30 : MD K cc.O "take" "Order.take" sO_take := ⟨_, fd30, He.meth_ok (c.fact 50 (f := .meth "Order" "take") rfl), F30⟩
  have D31 : MD K cc.O "things" "Order.things" sO_things := ⟨_, fd31, He.meth_ok (c.fact 51 (f := .meth "Order" "things") rfl), F31⟩
  have D32 : MD K cc.O "lies_above" "Order.lies_above" sO_lies_above := ⟨_, fd32, He.meth_ok (c.fact 52 (f := .meth "Order" "lies_above") rfl), F32⟩
  have D33 : MD K cc.O "are_apart" "Order.are_apart" sO_are_apart := ⟨_, fd33, He.meth_ok (c.fact 53 (f := .meth "Order" "are_apart") rfl), F33⟩
  have D34 : MD K cc.H "__init__" "Hall.__init__" sH_init := ⟨_, fd34, He.meth_ok (c.fact 59 (f := .meth "Hall" "__init__") rfl), F34⟩
  have D35 : MD K cc.H "put" "Hall.put" sH_put := ⟨_, fd35, He.meth_ok (c.fact 60 (f := .meth "Hall" "put") rfl), F35⟩
  have D36 : MD K cc.H "take" "Hall.take" sH_take := ⟨_, fd36, He.meth_ok (c.fact 61 (f := .meth "Hall" "take") rfl), F36⟩
  have D37 : MD K cc.H "things" "Hall.things" sH_things := ⟨_, fd37, He.meth_ok (c.fact 62 (f := .meth "Hall" "things") rfl), F37⟩
  have D38 : MD K cc.H "lies_above" "Hall.lies_above" sH_lies_above := ⟨_, fd38, He.meth_ok (c.fact 63 (f := .meth "Hall" "lies_above") rfl), F38⟩
  have D39 : MD K cc.H "ladders" "Hall.ladders" sH_ladders := ⟨_, fd39, He.meth_ok (c.fact 64 (f := .meth "Hall" "ladders") rfl), F39⟩
  have D40 : MD K cc.H "free" "Hall.free" sH_free := ⟨_, fd40, He.meth_ok (c.fact 65 (f := .meth "Hall" "free") rfl), F40⟩
  have D41 : MD K cc.H "floors" "Hall.floors" sH_floors := ⟨_, fd41, He.meth_ok (c.fact 66 (f := .meth "Hall" "floors") rfl), F41⟩
  have D42 : MD K cc.H "longest" "Hall.longest" sH_longest := ⟨_, fd42, He.meth_ok (c.fact 67 (f := .meth "Hall" "longest") rfl), F42⟩
  have D43 : MD K cc.H "parted" "Hall.parted" sH_parted := ⟨_, fd43, He.meth_ok (c.fact 68 (f := .meth "Hall" "parted") rfl), F43⟩
  have D44 : MD K cc.H "with_thing" "Hall.with_thing" sH_with_thing := ⟨_, fd44, He.meth_ok (c.fact 69 (f := .meth "Hall" "with_thing") rfl), F44⟩
  have D45 : MD K cc.H "without_thing" "Hall.without_thing" sH_without_thing := ⟨_, fd45, He.meth_ok (c.fact 70 (f := .meth "Hall" "without_thing") rfl), F45⟩
  have D46 : MD K cc.H "standing" "Hall.standing" sH_standing := ⟨_, fd46, He.meth_ok (c.fact 71 (f := .meth "Hall" "standing") rfl), F46⟩
  have hcd := code_ref (f := ("law", none)) F14
  refine ⟨fd14, [He.cT K ("law", none)], spLaw8 K (He.cT K ("law", none)).2, fun p hp => by rw [List.mem_singleton.mp hp]; exact cx.empty _ (List.mem_singleton.mpr rfl), fun p hp => by rw [List.mem_singleton.mp hp]; exact cx.out _ (List.mem_singleton.mpr rfl), fun p hp => by rw [List.mem_singleton.mp hp]; exact PySem.W.codeHd_of_K X (cx.hd _ (List.mem_singleton.mpr rfl)), fun s v => b s [v] rfl, fun H a ns hl _ ht hS => ⟨a, ns, rfl, hS, hl, ht _ (List.mem_singleton.mpr rfl), fun _ => rfl⟩, fun base _ _ TB => ?_⟩
  have g_bit := ok_bit (P := (PySem.Challenge.rw_fewladders_k08_whole_small_halls_tried).prog) (w := w) (base := base) D3
  have g_has := ok_has (P := (PySem.Challenge.rw_fewladders_k08_whole_small_halls_tried).prog) (w := w) (base := base) D4
  have g_wo := ok_without (P := (PySem.Challenge.rw_fewladders_k08_whole_small_halls_tried).prog) (w := w) (base := base) D5 g_has g_bit
  have o_init := ok_O_init (P := (PySem.Challenge.rw_fewladders_k08_whole_small_halls_tried).prog) (w := w) (base := base) T D25
  have o_is := ok_O_is (P := (PySem.Challenge.rw_fewladders_k08_whole_small_halls_tried).prog) (w := w) (base := base) T D26
  have o_need := ok_O_need (P := (PySem.Challenge.rw_fewladders_k08_whole_small_halls_tried).prog) (w := w) (base := base) T D27 o_is
  have o_needs := ok_O_needs (P := (PySem.Challenge.rw_fewladders_k08_whole_small_halls_tried).prog) (w := w) (base := base) T D28 o_need
  have o_put := ok_O_put (P := (PySem.Challenge.rw_fewladders_k08_whole_small_halls_tried).prog) (w := w) (base := base) T D29 o_needs g_bit
  have o_take := ok_O_take (P := (PySem.Challenge.rw_fewladders_k08_whole_small_halls_tried).prog) (w := w) (base := base) T D30 o_need g_wo
  have o_things := ok_O_things (P := (PySem.Challenge.rw_fewladders_k08_whole_small_halls_tried).prog) (w := w) (base := base) T D31
  have o_lies := ok_O_lies (P := (PySem.Challenge.rw_fewladders_k08_whole_small_halls_tried).prog) (w := w) (base := base) T D32 g_has
  have o_apart := ok_O_apart (P := (PySem.Challenge.rw_fewladders_k08_whole_small_halls_tried).prog) (w := w) (base := base) T D33 o_lies
  have l_init := ok_L_init (P := (PySem.Challenge.rw_fewladders_k08_whole_small_halls_tried).prog) (w := w) (base := base) T D15
  have l_link := ok_L_link (P := (PySem.Challenge.rw_fewladders_k08_whole_small_halls_tried).prog) (w := w) (base := base) T D16
  have l_climb := ok_L_climbed (P := (PySem.Challenge.rw_fewladders_k08_whole_small_halls_tried).prog) (w := w) (base := base) T D17 l_link o_lies 25
  have l_joined := ok_L_joined (P := (PySem.Challenge.rw_fewladders_k08_whole_small_halls_tried).prog) (w := w) (base := base) T D18 l_climb
  have l_jall := ok_L_jall (P := (PySem.Challenge.rw_fewladders_k08_whole_small_halls_tried).prog) (w := w) (base := base) T D19 l_joined
  have l_add := ok_L_add (P := (PySem.Challenge.rw_fewladders_k08_whole_small_halls_tried).prog) (w := w) (base := base) T D20
  have l_drop := ok_L_drop (P := (PySem.Challenge.rw_fewladders_k08_whole_small_halls_tried).prog) (w := w) (base := base) T D21 l_link
  have l_ladders := ok_L_ladders (P := (PySem.Challenge.rw_fewladders_k08_whole_small_halls_tried).prog) (w := w) (base := base) T D22
  have l_reached := ok_L_reached (P := (PySem.Challenge.rw_fewladders_k08_whole_small_halls_tried).prog) (w := w) (base := base) T D23 o_lies
  have l_free := ok_L_free (P := (PySem.Challenge.rw_fewladders_k08_whole_small_halls_tried).prog) (w := w) (base := base) T D24 l_reached
  have h_init := ok_H_init (P := (PySem.Challenge.rw_fewladders_k08_whole_small_halls_tried).prog) (w := w) (base := base) T D34 o_init l_init
  have h_put := ok_H_put (P := (PySem.Challenge.rw_fewladders_k08_whole_small_halls_tried).prog) (w := w) (base := base) T D35 o_put l_add l_joined
  have h_take := ok_H_take (P := (PySem.Challenge.rw_fewladders_k08_whole_small_halls_tried).prog) (w := w) (base := base) T D36 o_take l_drop l_joined
  have h_things := ok_H_things (P := (PySem.Challenge.rw_fewladders_k08_whole_small_halls_tried).prog) (w := w) (base := base) T D37 o_things
  have h_lies := ok_H_lies (P := (PySem.Challenge.rw_fewladders_k08_whole_small_halls_tried).prog) (w := w) (base := base) T D38 o_need o_lies
  have h_ladders := ok_H_ladders (P := (PySem.Challenge.rw_fewladders_k08_whole_small_halls_tried).prog) (w := w) (base := base) T D39 l_ladders
  have h_free := ok_H_free (P := (PySem.Challenge.rw_fewladders_k08_whole_small_halls_tried).prog) (w := w) (base := base) T D40 l_free
  have g_mixed := ok_mixed (P := (PySem.Challenge.rw_fewladders_k08_whole_small_halls_tried).prog) (w := w) (base := base) D6
  have g_some := ok_some (P := (PySem.Challenge.rw_fewladders_k08_whole_small_halls_tried).prog) (w := w) (base := base) (He.free_ok X G (c.fact 81 (f := .free "enumerate") rfl)) D7 g_mixed
  have g_grown := ok_grown (P := (PySem.Challenge.rw_fewladders_k08_whole_small_halls_tried).prog) (w := w) (base := base) T.zList T.zSet T.zSorted D8
  have g_fewer := ok_fewer (P := (PySem.Challenge.rw_fewladders_k08_whole_small_halls_tried).prog) (w := w) (base := base) T.zList D9
  have g_apart := ok_apart (P := (PySem.Challenge.rw_fewladders_k08_whole_small_halls_tried).prog) (w := w) (base := base) D10
  have g_isfree := ok_is_free (P := (PySem.Challenge.rw_fewladders_k08_whole_small_halls_tried).prog) (w := w) (base := base) T (He.free_ok X G (c.fact 82 (f := .free "all") rfl)) D11 g_apart
  have g_fl0 := ok_floor0 (P := (PySem.Challenge.rw_fewladders_k08_whole_small_halls_tried).prog) (w := w) (base := base) (c := cc) D0
  have g_fl1 := ok_floor (P := (PySem.Challenge.rw_fewladders_k08_whole_small_halls_tried).prog) (w := w) (base := base) T D0 o_things o_lies 0 2 (by decide) (g_fl0.mono (by decide))
  have g_fl2 := ok_floor (P := (PySem.Challenge.rw_fewladders_k08_whole_small_halls_tried).prog) (w := w) (base := base) T D0 o_things o_lies 1 3 (by decide) g_fl1
  have g_floors := ok_floors (P := (PySem.Challenge.rw_fewladders_k08_whole_small_halls_tried).prog) (w := w) (base := base) T D1 o_things g_fl2
  have g_longest := ok_longest (P := (PySem.Challenge.rw_fewladders_k08_whole_small_halls_tried).prog) (w := w) (base := base) T D2 o_lies g_floors
  have h_floors := ok_H_floors (P := (PySem.Challenge.rw_fewladders_k08_whole_small_halls_tried).prog) (w := w) (base := base) T D41 g_floors
  have h_longest := ok_H_longest (P := (PySem.Challenge.rw_fewladders_k08_whole_small_halls_tried).prog) (w := w) (base := base) T D42 g_longest
  have h_parted := ok_H_parted (P := (PySem.Challenge.rw_fewladders_k08_whole_small_halls_tried).prog) (w := w) (base := base) T D43 o_needs l_init l_jall l_ladders l_free
  have h_with := ok_H_with (P := (PySem.Challenge.rw_fewladders_k08_whole_small_halls_tried).prog) (w := w) (base := base) T D44 o_need h_parted h_things o_apart h_free
  have h_less := ok_H_less (P := (PySem.Challenge.rw_fewladders_k08_whole_small_halls_tried).prog) (w := w) (base := base) T D45 o_need h_parted h_things h_free
  have h_stand := ok_H_stand (P := (PySem.Challenge.rw_fewladders_k08_whole_small_halls_tried).prog) (w := w) (base := base) T D46 h_with h_less
  have g_sets := ok_sets (P := (PySem.Challenge.rw_fewladders_k08_whole_small_halls_tried).prog) (w := w) (base := base) D12
  have g_allby := ok_all_by (P := (PySem.Challenge.rw_fewladders_k08_whole_small_halls_tried).prog) (w := w) (base := base) (He.free_ok X G (c.fact 81 (f := .free "enumerate") rfl)) (He.free_ok X G (c.fact 82 (f := .free "all") rfl)) D13 g_apart
  exact ok_law08 T (He.free_ok X G (c.fact 81 (f := .free "enumerate") rfl)) (He.free_ok X G (c.fact 82 (f := .free "all") rfl)) F14 hcd (TB _ (List.mem_singleton.mpr rfl)) h_init h_put h_take h_ladders h_free h_floors h_longest h_stand g_mixed g_some g_grown g_fewer g_sets g_allby
end FW
open PySem PySem.W PySem.Calls PyProof.Rows
theorem PySem.Challenge.cw_fewladders_k08_whole_small_halls_tried_holds : PySem.Challenge.rw_fewladders_k08_whole_small_halls_tried.Holds := by
  w_on; o_law
  refine HandSHeadRun.head_any (r := OpenLaw.row PySem.Challenge.rw_fewladders_k08_whole_small_halls_tried) (q := view (OpenLaw.row PySem.Challenge.rw_fewladders_k08_whole_small_halls_tried).prog [29]) (H := FW.hkL) (ob := FW.obL) (M := 4000) (loose := FW.looseL) (d := HandSHeadRun.topDef (OpenLaw.row PySem.Challenge.rw_fewladders_k08_whole_small_halls_tried).prog 29) (kwd := []) FW.obL_eq
    (by kernel_rfl) (fun s => by kernel_rfl) FW.runL (by kernel_rfl) (by kernel_rfl) (by kernel_rfl) (by rfl) (by first | assumption | decide +kernel) (by decide +kernel) ⟨rfl, rfl, rfl, rfl, rfl, by decide +kernel⟩ ?hw ?hc
  case hw => w_witness2
  case hc =>
    refine LamX.walk_ofTsE (l := PySem.Challenge.rw_fewladders_k08_whole_small_halls_tried) (n := 63) (k := 33) (x := "_law_script") (CX := fun _ => L2.CX0) rfl (by decide) (by kernel_rfl) ⟨rfl, by decide, by decide⟩ ?F (fun _ _ _ _ _ z => z)
    intro w mg fa h Y G hmg0
    obtain ⟨K, KX, c⟩ := Y
    have hmg : mg ("law" : PySem.Str) = some (.ref fa) := by
      have e : (HandSHeadRun.topDef (OpenLaw.row PySem.Challenge.rw_fewladders_k08_whole_small_halls_tried).prog 29).name = ("law" : PySem.Str) := by kernel_rfl
      rw [← e]
      exact hmg0
    exact ⟨K, KX, FW.facts KX G hmg c⟩
