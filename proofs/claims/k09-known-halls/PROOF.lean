import PyProof.Rows.All
import Wide.All
import OpenK.AllK
import Wide.FinOn
import KE.KStateDown
import Lean
import HandS.ForMost
import HandS.Defaults
import HandS.Head0
import HandS.Head1
import HandS.Head2
import HandS.HeadEnd
import HandS.HeadHook1
import HandS.HeadHook2
import HandS.IsInst
import HandS.Zip
import HandS.Conv
import HandS.SetFor
import HandS.Strs
import HandS.SortInts
import HandS.Flow
import HandS.Rev
import HandS.ListEq
import HandS.Evl
import HandS.Steps
import HandS.Walk
import HandS.AnyAll
import HandS.Style
import PySem.Challenge.RW_fewladders_k09_known_halls
set_option Elab.async false
set_option linter.all false
set_option maxRecDepth 100000
set_option maxHeartbeats 4000000
/-! Fewladders, the mathematics 1: assoc lists, rows of pairs, the search (climb), its two ends. Core Lean only. -/
namespace FL

/-! ### a dict as a list of pairs -/
section
variable {β : Type}
def aget (d : List (Int × β)) (k : Int) : Option β := (d.find? fun p => decide (p.1 = k)).map (·.2)
def aput (d : List (Int × β)) (k : Int) (v : β) : List (Int × β) :=
  if (d.any fun p => decide (p.1 = k)) = true then d.map (fun p => if p.1 = k then (p.1, v) else p) else d ++ [(k, v)]
def adel (d : List (Int × β)) (k : Int) : List (Int × β) := d.filter fun p => decide (p.1 ≠ k)

theorem aget_nil (k : Int) : aget ([] : List (Int × β)) k = none := rfl
theorem aget_cons (p : Int × β) (r : List (Int × β)) (k : Int) : aget (p :: r) k = if p.1 = k then some p.2 else aget r k := by
  by_cases e : p.1 = k <;> simp [aget, e]
theorem aget_none_iff {d : List (Int × β)} {k : Int} : aget d k = none ↔ k ∉ d.map (·.1) := by
  induction d with
  | nil => simp [aget_nil]
  | cons p r ih =>
    rw [aget_cons]
    by_cases e : p.1 = k
    · simp [e]
    · rw [if_neg e, ih]
      simp only [List.map_cons, List.mem_cons, not_or]
      exact ⟨fun h => ⟨fun z => e z.symm, h⟩, fun h => h.2⟩
theorem aget_isSome_iff {d : List (Int × β)} {k : Int} : (aget d k).isSome = true ↔ k ∈ d.map (·.1) := by
  have := @aget_none_iff β d k
  cases h : aget d k with
  | none => simp [h] at this ⊢; exact this
  | some v =>
    simp only [Option.isSome_some, true_iff]
    refine Classical.byContradiction fun z => ?_
    rw [← aget_none_iff, h] at z
    cases z
theorem aget_mem {d : List (Int × β)} {k : Int} {v : β} (h : aget d k = some v) : (k, v) ∈ d := by
  induction d with
  | nil => cases h
  | cons p r ih =>
    rw [aget_cons] at h
    by_cases e : p.1 = k
    · rw [if_pos e] at h
      cases h
      subst e
      exact List.mem_cons_self
    · rw [if_neg e] at h
      exact List.mem_cons_of_mem _ (ih h)
theorem aget_key {d : List (Int × β)} {k : Int} {v : β} (h : aget d k = some v) : k ∈ d.map (·.1) := List.mem_map.mpr ⟨_, aget_mem h, rfl⟩
theorem any_key (d : List (Int × β)) (k : Int) : (d.any fun p => decide (p.1 = k)) = (aget d k).isSome := by
  induction d with
  | nil => rfl
  | cons p r ih =>
    rw [List.any_cons, aget_cons, ih]
    by_cases e : p.1 = k <;> simp [e]
theorem aget_map_put (k j : Int) (y : β) (d : List (Int × β)) : aget (d.map fun p => if p.1 = k then (p.1, y) else p) j = (aget d j).map fun x => if j = k then y else x := by
  induction d with
  | nil => rfl
  | cons p r ih =>
    rw [List.map_cons, aget_cons, aget_cons, ih]
    by_cases h : p.1 = k
    · rw [if_pos h]
      by_cases e : p.1 = j
      · simp [e, ← h]
      · simp [e]
    · rw [if_neg h]
      by_cases e : p.1 = j
      · rw [if_pos e, if_pos e, Option.map_some, if_neg (fun z => h (e.trans z))]
      · rw [if_neg e, if_neg e]
theorem aget_snoc (d : List (Int × β)) (k j : Int) (y : β) (h : aget d k = none) : aget (d ++ [(k, y)]) j = if j = k then some y else aget d j := by
  induction d with
  | nil =>
    rw [List.nil_append, aget_cons]
    by_cases e : k = j
    · simp [e]
    · rw [if_neg e, if_neg fun z => e z.symm]
  | cons p r ih =>
    rw [aget_cons] at h
    have hk : ¬ p.1 = k := fun z => by rw [if_pos z] at h; cases h
    rw [if_neg hk] at h
    rw [List.cons_append, aget_cons, aget_cons, ih h]
    by_cases e : p.1 = j
    · rw [if_pos e, if_pos e, if_neg fun z => hk (e.trans z)]
    · rw [if_neg e, if_neg e]
theorem aget_aput (d : List (Int × β)) (k j : Int) (y : β) : aget (aput d k y) j = if j = k then some y else aget d j := by
  unfold aput
  rw [any_key]
  cases h : aget d k with
  | none => simp only [Option.isSome_none, Bool.false_eq_true, if_false]; exact aget_snoc d k j y h
  | some v =>
    simp only [Option.isSome_some, if_true]
    rw [aget_map_put]
    by_cases e : j = k
    · subst e; simp [h]
    · simp only [if_neg e]; cases aget d j <;> rfl
theorem aget_adel (d : List (Int × β)) (k j : Int) : aget (adel d k) j = if j = k then none else aget d j := by
  unfold adel
  induction d with
  | nil => simp [aget_nil]
  | cons p r ih =>
    rw [List.filter_cons]
    by_cases e : p.1 = k
    · rw [if_neg (by simp [e]), ih, aget_cons]
      by_cases q : j = k
      · simp [q]
      · rw [if_neg q, if_neg q, if_neg fun z => q (z.symm.trans e)]
    · rw [if_pos (by simp [e]), aget_cons, aget_cons, ih]
      by_cases q : p.1 = j
      · rw [if_pos q, if_pos q, if_neg fun z => e (q.trans z)]
      · rw [if_neg q, if_neg q]
theorem aput_new {d : List (Int × β)} {k : Int} (v : β) (h : aget d k = none) : aput d k v = d ++ [(k, v)] := by
  unfold aput; rw [any_key, h]; rfl
theorem aput_keys_old {d : List (Int × β)} {k : Int} (v : β) (h : (aget d k).isSome = true) : (aput d k v).map (·.1) = d.map (·.1) := by
  unfold aput
  rw [any_key, if_pos h, List.map_map]
  refine List.map_congr_left fun p _ => ?_
  show (if p.1 = k then (p.1, v) else p).1 = p.1
  split <;> rfl
theorem aput_keys_mem {d : List (Int × β)} {k j : Int} {v : β} (h : j ∈ (aput d k v).map (·.1)) : j = k ∨ j ∈ d.map (·.1) := by
  rw [← aget_isSome_iff, aget_aput] at h
  by_cases e : j = k
  · exact .inl e
  · rw [if_neg e] at h; exact .inr (aget_isSome_iff.mp h)
theorem nodup_snoc {α : Type} {l : List α} {k : α} (h : l.Nodup) (hk : k ∉ l) : (l ++ [k]).Nodup := by
  rw [List.nodup_append]
  refine ⟨h, List.nodup_cons.mpr ⟨by simp, List.nodup_nil⟩, ?_⟩
  intro a ha b hb e
  rw [List.mem_singleton] at hb
  subst hb; subst e; exact hk ha
theorem aput_nodup {d : List (Int × β)} {k : Int} {v : β} (h : (d.map (·.1)).Nodup) : ((aput d k v).map (·.1)).Nodup := by
  cases e : aget d k with
  | none =>
    rw [aput_new v e, List.map_append]
    exact nodup_snoc h (aget_none_iff.mp e)
  | some x => rw [aput_keys_old v (by rw [e]; rfl)]; exact h
theorem adel_sub (d : List (Int × β)) (k : Int) : List.Sublist ((adel d k).map (·.1)) (d.map (·.1)) := by
  unfold adel
  exact List.Sublist.map _ (List.filter_sublist (l := d))
theorem adel_nodup {d : List (Int × β)} {k : Int} (h : (d.map (·.1)).Nodup) : ((adel d k).map (·.1)).Nodup := (adel_sub d k).nodup h
theorem adel_keys (d : List (Int × β)) (k : Int) : (adel d k).map (·.1) = (d.map (·.1)).filter fun x => decide (x ≠ k) := by
  unfold adel
  rw [List.filter_map]
  rfl
theorem adel_none {d : List (Int × β)} {k : Int} (h : aget d k = none) : adel d k = d := by
  unfold adel
  refine List.filter_eq_self.mpr fun p hp => ?_
  have : p.1 ≠ k := fun e => aget_none_iff.mp h (List.mem_map.mpr ⟨p, hp, e⟩)
  simp [this]
theorem aput_len_le (d : List (Int × β)) (k : Int) (v : β) : (aput d k v).length ≤ d.length + 1 := by
  unfold aput; split <;> simp
end

/-- no more different things than there are -/
theorem nodup_len_le {α : Type} [DecidableEq α] : ∀ {l m : List α}, l.Nodup → (∀ x ∈ l, x ∈ m) → l.length ≤ m.length
  | [], _, _, _ => Nat.zero_le _
  | a :: r, m, h, hs => by
    obtain ⟨h1, h2⟩ := List.nodup_cons.mp h
    have ha : a ∈ m := hs a List.mem_cons_self
    have ih := nodup_len_le (l := r) (m := m.erase a) h2 fun x hx => by
      have hne : x ≠ a := fun e => h1 (e ▸ hx)
      exact (List.mem_erase_of_ne hne).mpr (hs x (List.mem_cons_of_mem _ hx))
    rw [List.length_erase_of_mem ha] at ih
    have : 0 < m.length := List.length_pos_of_mem ha
    simp only [List.length_cons]; omega

/-! ### the search -/
abbrev Row := List (Int × Int)
/-- what the search changes: the thing right above, right beneath, what was seen -/
structure CS where
  ab : List (Int × Int)
  be : List (Int × Int)
  seen : List Int

def scan (rec : Int → CS → Row × CS) (lies : Int → Int → Bool) (high : Int) : List Int → CS → Row × CS
  | [], s => ([], s)
  | low :: rest, s =>
    if low ∈ s.seen ∨ lies high low = false then scan rec lies high rest s
    else match aget s.ab low with
      | none => ([(high, low)], ⟨aput s.ab low high, aput s.be high low, s.seen ++ [low]⟩)
      | some up =>
        let r := rec up ⟨s.ab, s.be, s.seen ++ [low]⟩
        if r.1 = [] then scan rec lies high rest r.2
        else ((high, low) :: r.1, ⟨aput r.2.ab low high, aput r.2.be high low, r.2.seen⟩)
def climb (lies : Int → Int → Bool) (L : List Int) : Nat → Int → CS → Row × CS
  | 0, _, s => ([], s)
  | n + 1, high, s => scan (climb lies L n) lies high L s

/-- how many are not seen yet -/
def unseen (L : List Int) (seen : List Int) : Nat := (L.filter fun x => decide (x ∉ seen)).length
theorem unseen_mono {L seen seen' : List Int} (h : ∀ x ∈ seen, x ∈ seen') : unseen L seen' ≤ unseen L seen := by
  induction L with
  | nil => exact Nat.le_refl _
  | cons a r ih =>
    unfold unseen at ih ⊢
    rw [List.filter_cons, List.filter_cons]
    by_cases h1 : a ∈ seen
    · rw [if_neg (by simp [h a h1]), if_neg (by simp [h1])]; exact ih
    · rw [if_pos (by simp [h1] : decide (a ∉ seen) = true)]
      split
      · simp only [List.length_cons]; omega
      · simp only [List.length_cons]; omega
theorem unseen_lt {L seen : List Int} {a : Int} (ha : a ∈ L) (hn : a ∉ seen) : unseen L (seen ++ [a]) < unseen L seen := by
  induction L with
  | nil => cases ha
  | cons b r ih =>
    unfold unseen at ih ⊢
    rw [List.filter_cons, List.filter_cons]
    by_cases hb : b = a
    · subst hb
      rw [if_neg (by simp), if_pos (by simp [hn])]
      have := @unseen_mono r seen (seen ++ [b]) fun x hx => List.mem_append_left _ hx
      unfold unseen at this
      simp only [List.length_cons]; omega
    · have ha' : a ∈ r := (List.mem_cons.mp ha).resolve_left fun e => hb e.symm
      have := ih ha'
      by_cases h1 : b ∈ seen
      · rw [if_neg (by simp [h1]), if_neg (by simp [h1])]; exact this
      · rw [if_pos (by simp [h1, hb]), if_pos (by simp [h1])]
        simp only [List.length_cons]; omega
theorem unseen_le (L seen : List Int) : unseen L seen ≤ L.length := List.length_filter_le _ _

/-- pair by pair from the last one: the upper stands right above the lower -/
def linkAll (row : Row) (ab be : List (Int × Int)) : List (Int × Int) × List (Int × Int) :=
  row.foldr (fun p s => (aput s.1 p.2 p.1, aput s.2 p.1 p.2)) (ab, be)
/-- a row of pairs from high on: until then the next pair's upper thing stood right above that lower one; above the last one's none stood -/
def Path (lies : Int → Int → Bool) (L : List Int) (ab : List (Int × Int)) : Int → Row → Prop
  | _, [] => False
  | high, [p] => p.1 = high ∧ p.2 ∈ L ∧ lies high p.2 = true ∧ aget ab p.2 = none
  | high, p :: q :: r => p.1 = high ∧ p.2 ∈ L ∧ lies high p.2 = true ∧ ∃ up, aget ab p.2 = some up ∧ Path lies L ab up (q :: r)

/-- what a search's end says -/
structure ClimbEnd (lies : Int → Int → Bool) (L : List Int) (high : Int) (todo : List Int) (s : CS) (r : Row × CS) : Prop where
  mono : ∀ x ∈ s.seen, x ∈ r.2.seen
  sub : ∀ x ∈ r.2.seen, x ∈ s.seen ∨ x ∈ L
  nd : s.seen.Nodup → r.2.seen.Nodup
  fail : r.1 = [] → r.2.ab = s.ab ∧ r.2.be = s.be ∧ (∀ l ∈ todo, lies high l = true → l ∈ r.2.seen) ∧
    ∀ l ∈ r.2.seen, l ∉ s.seen → ∃ up, aget s.ab l = some up ∧ ∀ l' ∈ L, lies up l' = true → l' ∈ r.2.seen
  done : r.1 ≠ [] → Path lies L s.ab high r.1 ∧ (r.2.ab, r.2.be) = linkAll r.1 s.ab s.be ∧ (r.1.map (·.2)).Nodup ∧ ∀ p ∈ r.1, p.2 ∉ s.seen

theorem scan_end {lies : Int → Int → Bool} {L : List Int} {n : Nat} {rec : Int → CS → Row × CS} (high : Int)
    (hrec : ∀ up s, unseen L s.seen < n → ClimbEnd lies L up L s (rec up s)) :
    ∀ (todo : List Int), (∀ x ∈ todo, x ∈ L) → ∀ s, unseen L s.seen < n + 1 → ClimbEnd lies L high todo s (scan rec lies high todo s) := by
  intro todo
  induction todo with
  | nil =>
    intro _ s _
    refine ⟨fun x hx => hx, fun x hx => .inl hx, fun h => h, fun _ => ⟨rfl, rfl, fun l hl => (nomatch hl), fun l h1 h2 => absurd h1 h2⟩, fun h => absurd rfl h⟩
  | cons low rest ih =>
    intro hL s hs
    have hL' : ∀ x ∈ rest, x ∈ L := fun x hx => hL x (List.mem_cons_of_mem _ hx)
    unfold scan
    by_cases hc : low ∈ s.seen ∨ lies high low = false
    · rw [if_pos hc]
      have e := ih hL' s hs
      refine ⟨e.mono, e.sub, e.nd, fun h => ?_, e.done⟩
      obtain ⟨h1, h2, h3, h4⟩ := e.fail h
      refine ⟨h1, h2, fun l hl hy => ?_, h4⟩
      rcases List.mem_cons.mp hl with rfl | hl
      · rcases hc with hc | hc
        · exact e.mono _ hc
        · rw [hc] at hy; cases hy
      · exact h3 l hl hy
    · rw [if_neg hc]
      have hn : low ∉ s.seen := fun z => hc (.inl z)
      have hy : lies high low = true := by
        cases q : lies high low with
        | true => rfl
        | false => exact absurd (.inr q) hc
      have hlow : low ∈ L := hL low List.mem_cons_self
      cases ha : aget s.ab low with
      | none =>
        simp only
        refine ⟨fun x hx => List.mem_append_left _ hx, fun x hx => ?_, fun h => nodup_snoc h hn, fun h => (nomatch h), fun _ => ⟨⟨rfl, hlow, hy, ha⟩, rfl, by simp, fun p hp => ?_⟩⟩
        · rcases List.mem_append.mp hx with hx | hx
          · exact .inl hx
          · rw [List.mem_singleton.mp hx]; exact .inr hlow
        · rw [List.mem_singleton.mp hp]; exact hn
      | some up =>
        simp only
        have hs1 : unseen L (s.seen ++ [low]) < n := by
          have := unseen_lt (L := L) hlow hn; omega
        have e := hrec up ⟨s.ab, s.be, s.seen ++ [low]⟩ hs1
        have sub1 : ∀ x ∈ s.seen, x ∈ (rec up ⟨s.ab, s.be, s.seen ++ [low]⟩).2.seen := fun x hx => e.mono x (List.mem_append_left _ hx)
        have low1 : low ∈ (rec up ⟨s.ab, s.be, s.seen ++ [low]⟩).2.seen := e.mono low (List.mem_append_right _ List.mem_cons_self)
        have e2 : ∀ x ∈ (rec up ⟨s.ab, s.be, s.seen ++ [low]⟩).2.seen, x ∈ s.seen ∨ x ∈ L := fun x hx => by
          rcases e.sub x hx with h | h
          · rcases List.mem_append.mp h with h | h
            · exact .inl h
            · rw [List.mem_singleton.mp h]; exact .inr hlow
          · exact .inr h
        by_cases hr : (rec up ⟨s.ab, s.be, s.seen ++ [low]⟩).1 = []
        · rw [if_pos hr]
          obtain ⟨f1, f2, f3, f4⟩ := e.fail hr
          have f1 : (rec up ⟨s.ab, s.be, s.seen ++ [low]⟩).2.ab = s.ab := f1
          have f2 : (rec up ⟨s.ab, s.be, s.seen ++ [low]⟩).2.be = s.be := f2
          have hs2 : unseen L (rec up ⟨s.ab, s.be, s.seen ++ [low]⟩).2.seen < n + 1 := by
            have := unseen_mono (L := L) e.mono; simp only at this; omega
          have e' := ih hL' _ hs2
          refine ⟨fun x hx => e'.mono x (sub1 x hx), fun x hx => ?_, fun h => e'.nd (e.nd (nodup_snoc h hn)), fun h => ?_, fun h => ?_⟩
          · rcases e'.sub x hx with h | h
            · exact e2 x h
            · exact .inr h
          · obtain ⟨g1, g2, g3, g4⟩ := e'.fail h
            refine ⟨g1.trans f1, g2.trans f2, fun l hl hyl => ?_, fun l hl hl' => ?_⟩
            · rcases List.mem_cons.mp hl with rfl | hl
              · exact e'.mono _ low1
              · exact g3 l hl hyl
            · by_cases q : l ∈ (rec up ⟨s.ab, s.be, s.seen ++ [low]⟩).2.seen
              · by_cases q2 : l = low
                · subst q2
                  exact ⟨up, ha, fun l' h1 h2 => e'.mono _ (f3 l' h1 h2)⟩
                · obtain ⟨u, hu, hc⟩ := f4 l q fun z => (List.mem_append.mp z).elim hl' fun z => q2 (List.mem_singleton.mp z)
                  exact ⟨u, hu, fun l' h1 h2 => e'.mono _ (hc l' h1 h2)⟩
              · obtain ⟨u, hu, hc⟩ := g4 l hl q
                exact ⟨u, by rw [← f1]; exact hu, hc⟩
          · obtain ⟨g1, g2, g3, g4⟩ := e'.done h
            rw [f1] at g1
            refine ⟨g1, ?_, g3, fun p hp => fun z => g4 p hp (sub1 _ z)⟩
            rw [g2, f1, f2]
        · rw [if_neg hr]
          obtain ⟨g1, g2, g3, g4⟩ := e.done hr
          have g1 : Path lies L s.ab up (rec up ⟨s.ab, s.be, s.seen ++ [low]⟩).1 := g1
          refine ⟨sub1, e2, fun h => e.nd (nodup_snoc h hn), fun h => (nomatch h), fun _ => ⟨?_, ?_, ?_, fun p hp => ?_⟩⟩
          · cases q : (rec up ⟨s.ab, s.be, s.seen ++ [low]⟩).1 with
            | nil => exact absurd q hr
            | cons a b => rw [q] at g1; exact ⟨rfl, hlow, hy, up, ha, g1⟩
          · have g2' : (rec up ⟨s.ab, s.be, s.seen ++ [low]⟩).2.ab = (linkAll (rec up ⟨s.ab, s.be, s.seen ++ [low]⟩).1 s.ab s.be).1 := congrArg Prod.fst g2
            have g2'' : (rec up ⟨s.ab, s.be, s.seen ++ [low]⟩).2.be = (linkAll (rec up ⟨s.ab, s.be, s.seen ++ [low]⟩).1 s.ab s.be).2 := congrArg Prod.snd g2
            show (aput _ low high, aput _ high low) = linkAll ((high, low) :: _) s.ab s.be
            rw [g2', g2'']
            rfl
          · rw [List.map_cons]
            refine List.nodup_cons.mpr ⟨fun z => ?_, g3⟩
            obtain ⟨p, hp, ep⟩ := List.mem_map.mp z
            have ep : p.2 = low := ep
            exact g4 p hp (by rw [ep]; exact List.mem_append_right _ List.mem_cons_self)
          · rcases List.mem_cons.mp hp with rfl | hp
            · exact hn
            · exact fun z => g4 p hp (List.mem_append_left _ z)

theorem climb_end {lies : Int → Int → Bool} {L : List Int} : ∀ (n : Nat) (high : Int) (s : CS), unseen L s.seen < n → ClimbEnd lies L high L s (climb lies L n high s)
  | 0, _, _, h => absurd h (Nat.not_lt_zero _)
  | n + 1, high, s, h => scan_end high (fun up s' h' => climb_end n up s' h') L (fun _ hx => hx) s h
/-- the fuel does not matter where it is enough -/
theorem scan_congr {lies : Int → Int → Bool} {L : List Int} {n : Nat} {r1 r2 : Int → CS → Row × CS} (high : Int)
    (h1 : ∀ up s, unseen L s.seen < n → r1 up s = r2 up s) (h2 : ∀ up s, unseen L s.seen < n → ClimbEnd lies L up L s (r2 up s)) :
    ∀ (todo : List Int), (∀ x ∈ todo, x ∈ L) → ∀ s, unseen L s.seen < n + 1 → scan r1 lies high todo s = scan r2 lies high todo s := by
  intro todo
  induction todo with
  | nil => intro _ s _; rfl
  | cons low rest ih =>
    intro hL s hs
    have hL' : ∀ x ∈ rest, x ∈ L := fun x hx => hL x (List.mem_cons_of_mem _ hx)
    unfold scan
    by_cases hc : low ∈ s.seen ∨ lies high low = false
    · rw [if_pos hc, if_pos hc]; exact ih hL' s hs
    · rw [if_neg hc, if_neg hc]
      have hn : low ∉ s.seen := fun z => hc (.inl z)
      cases ha : aget s.ab low with
      | none => rfl
      | some up =>
        simp only
        have hs1 : unseen L (s.seen ++ [low]) < n := by
          have := unseen_lt (L := L) (hL low List.mem_cons_self) hn; omega
        rw [h1 up ⟨s.ab, s.be, s.seen ++ [low]⟩ hs1]
        by_cases hr : (r2 up ⟨s.ab, s.be, s.seen ++ [low]⟩).1 = []
        · rw [if_pos hr, if_pos hr]
          refine ih hL' _ ?_
          have := unseen_mono (L := L) (h2 up ⟨s.ab, s.be, s.seen ++ [low]⟩ hs1).mono
          simp only at this; omega
        · rw [if_neg hr, if_neg hr]
theorem climb_fuel {lies : Int → Int → Bool} {L : List Int} : ∀ (n m : Nat) (high : Int) (s : CS), unseen L s.seen < n → unseen L s.seen < m → climb lies L n high s = climb lies L m high s
  | 0, _, _, _, h, _ => absurd h (Nat.not_lt_zero _)
  | _ + 1, 0, _, _, _, h => absurd h (Nat.not_lt_zero _)
  | n + 1, m + 1, high, s, h1, h2 => by
    show scan (climb lies L n) lies high L s = scan (climb lies L m) lies high L s
    refine scan_congr (n := min n m) high (fun up s' h' => climb_fuel n m up s' (by omega) (by omega)) (fun up s' h' => climb_end m up s' (by omega)) L (fun _ hx => hx) s (by omega)
end FL

/-! Fewladders, the mathematics 2: linked things as ladders, a row's end, the certificate. -/
namespace FL

structure Mt (lies : Int → Int → Bool) (L : List Int) (ab be : List (Int × Int)) : Prop where
  nda : (ab.map (·.1)).Nodup
  ndb : (be.map (·.1)).Nodup
  inv : ∀ l h, aget ab l = some h ↔ aget be h = some l
  inL : ∀ l h, aget ab l = some h → l ∈ L ∧ h ∈ L ∧ lies h l = true
structure Po (lies : Int → Int → Bool) (L : List Int) : Prop where
  srt : L.Pairwise (· < ·)
  lt : ∀ a ∈ L, ∀ b, lies a b = true → b < a
  tr : ∀ a b c, a ∈ L → b ∈ L → c ∈ L → lies a b = true → lies b c = true → lies a c = true
theorem Po.nd {lies : Int → Int → Bool} {L : List Int} (P : Po lies L) : L.Nodup := P.srt.imp fun h => Int.ne_of_lt h
theorem Mt.empty (lies : Int → Int → Bool) (L : List Int) : Mt lies L [] [] :=
  ⟨List.nodup_nil, List.nodup_nil, fun l h => by simp [aget_nil], fun l h e => by simp [aget_nil] at e⟩
theorem Mt.inj {lies : Int → Int → Bool} {L : List Int} {ab be : List (Int × Int)} (M : Mt lies L ab be) {l l' h : Int} (h1 : aget ab l = some h) (h2 : aget ab l' = some h) : l = l' := by
  have a := (M.inv l h).mp h1
  have b := (M.inv l' h).mp h2
  rw [a] at b; exact Option.some.inj b
theorem Mt.alen {lies : Int → Int → Bool} {L : List Int} {ab be : List (Int × Int)} (M : Mt lies L ab be) : ab.length ≤ L.length := by
  have := nodup_len_le M.nda (m := L) fun x hx => by
    cases e : aget ab x with
    | none => exact absurd hx (aget_none_iff.mp e)
    | some y => exact (M.inL x y e).1
  rwa [List.length_map] at this
theorem Mt.blen {lies : Int → Int → Bool} {L : List Int} {ab be : List (Int × Int)} (M : Mt lies L ab be) : be.length ≤ L.length := by
  have := nodup_len_le M.ndb (m := L) fun x hx => by
    cases e : aget be x with
    | none => exact absurd hx (aget_none_iff.mp e)
    | some y => exact (M.inL y x ((M.inv y x).mpr e)).2.1
  rwa [List.length_map] at this

/-! ### what a row links -/
def atLow (r : Row) (l : Int) : Option Int := (r.find? fun p => decide (p.2 = l)).map (·.1)
def atHigh (r : Row) (h : Int) : Option Int := (r.find? fun p => decide (p.1 = h)).map (·.2)
theorem linkAll_ab (r : Row) (ab be : List (Int × Int)) (l : Int) : aget (linkAll r ab be).1 l = (atLow r l).or (aget ab l) := by
  induction r with
  | nil => rfl
  | cons p r ih =>
    show aget (aput (linkAll r ab be).1 p.2 p.1) l = _
    rw [aget_aput, ih]
    unfold atLow
    rw [List.find?_cons]
    by_cases e : p.2 = l
    · simp [e]
    · rw [if_neg fun z => e z.symm]; simp [e]
theorem linkAll_be (r : Row) (ab be : List (Int × Int)) (h : Int) : aget (linkAll r ab be).2 h = (atHigh r h).or (aget be h) := by
  induction r with
  | nil => rfl
  | cons p r ih =>
    show aget (aput (linkAll r ab be).2 p.1 p.2) h = _
    rw [aget_aput, ih]
    unfold atHigh
    rw [List.find?_cons]
    by_cases e : p.1 = h
    · simp [e]
    · rw [if_neg fun z => e z.symm]; simp [e]
theorem linkAll_nd (r : Row) {ab be : List (Int × Int)} (h1 : (ab.map (·.1)).Nodup) (h2 : (be.map (·.1)).Nodup) : ((linkAll r ab be).1.map (·.1)).Nodup ∧ ((linkAll r ab be).2.map (·.1)).Nodup := by
  induction r with
  | nil => exact ⟨h1, h2⟩
  | cons p r ih => exact ⟨aput_nodup ih.1, aput_nodup ih.2⟩
theorem atLow_some {r : Row} {l h : Int} (e : atLow r l = some h) : (h, l) ∈ r := by
  unfold atLow at e
  obtain ⟨p, hp, e2⟩ := Option.map_eq_some_iff.mp e
  have m := List.mem_of_find?_eq_some hp
  have q := List.find?_some hp
  have q : p.2 = l := of_decide_eq_true q
  obtain ⟨a, b⟩ := p
  cases q; cases e2; exact m
theorem atHigh_some {r : Row} {l h : Int} (e : atHigh r h = some l) : (h, l) ∈ r := by
  unfold atHigh at e
  obtain ⟨p, hp, e2⟩ := Option.map_eq_some_iff.mp e
  have m := List.mem_of_find?_eq_some hp
  have q := List.find?_some hp
  have q : p.1 = h := of_decide_eq_true q
  obtain ⟨a, b⟩ := p
  cases q; cases e2; exact m
theorem atLow_none {r : Row} {l : Int} (e : atLow r l = none) : ∀ p ∈ r, p.2 ≠ l := fun p hp z => by
  unfold atLow at e
  have := List.find?_eq_none.mp (Option.map_eq_none_iff.mp e) p hp
  simp [z] at this
theorem atHigh_none {r : Row} {h : Int} (e : atHigh r h = none) : ∀ p ∈ r, p.1 ≠ h := fun p hp z => by
  unfold atHigh at e
  have := List.find?_eq_none.mp (Option.map_eq_none_iff.mp e) p hp
  simp [z] at this
theorem nd_eq {α β : Type} {f : α → β} : ∀ {r : List α}, (r.map f).Nodup → ∀ {p q : α}, p ∈ r → q ∈ r → f p = f q → p = q
  | [], _, _, _, hp, _, _ => nomatch hp
  | a :: r, h, p, q, hp, hq, e => by
    rw [List.map_cons] at h
    obtain ⟨h1, h2⟩ := List.nodup_cons.mp h
    rcases List.mem_cons.mp hp with ep | hp'
    · rcases List.mem_cons.mp hq with eq | hq'
      · rw [ep, eq]
      · exact absurd (List.mem_map.mpr ⟨q, hq', by rw [← e, ep]⟩) h1
    · rcases List.mem_cons.mp hq with eq | hq'
      · exact absurd (List.mem_map.mpr ⟨p, hp', by rw [e, eq]⟩) h1
      · exact nd_eq h2 hp' hq' e
theorem atLow_mem {r : Row} {l h : Int} (n : (r.map (·.2)).Nodup) (m : (h, l) ∈ r) : atLow r l = some h := by
  cases e : atLow r l with
  | none => exact absurd rfl (atLow_none e (h, l) m)
  | some h' =>
    have := nd_eq (f := (·.2)) n (atLow_some e) m rfl
    cases this; rfl
theorem atHigh_mem {r : Row} {l h : Int} (n : (r.map (·.1)).Nodup) (m : (h, l) ∈ r) : atHigh r h = some l := by
  cases e : atHigh r h with
  | none => exact absurd rfl (atHigh_none e (h, l) m)
  | some h' =>
    have := nd_eq (f := (·.1)) n (atHigh_some e) m rfl
    cases this; rfl

section
variable {lies : Int → Int → Bool} {L : List Int} {ab be : List (Int × Int)}
theorem Path.head : ∀ {high : Int} {r : Row}, Path lies L ab high r → ∃ l r', r = (high, l) :: r'
  | _, [], h => h.elim
  | _, [p], h => by obtain ⟨rfl, _⟩ := h; exact ⟨_, _, rfl⟩
  | _, p :: q :: r, h => by obtain ⟨rfl, _⟩ := h; exact ⟨_, _, rfl⟩
/-- each pair's upper thing is the first or stood above another pair's lower one -/
theorem Path.p1 : ∀ {high : Int} {r : Row}, Path lies L ab high r → ∀ p ∈ r, p.1 = high ∨ ∃ q ∈ r, aget ab q.2 = some p.1
  | _, [], h, _, _ => h.elim
  | _, [p], h, x, hx => by obtain ⟨rfl, _⟩ := h; rw [List.mem_singleton.mp hx]; exact .inl rfl
  | _, p :: q :: r, h, x, hx => by
    obtain ⟨e, _, _, up, hup, hr⟩ := h
    rcases List.mem_cons.mp hx with rfl | hx
    · exact .inl e
    · right
      rcases Path.p1 hr x hx with e | ⟨z, hz, ez⟩
      · exact ⟨p, List.mem_cons_self, by rw [e]; exact hup⟩
      · exact ⟨z, List.mem_cons_of_mem _ hz, ez⟩
theorem Path.p2 : ∀ {high : Int} {r : Row}, Path lies L ab high r → ∀ p ∈ r, aget ab p.2 = none ∨ ∃ q ∈ r, aget ab p.2 = some q.1
  | _, [], h, _, _ => h.elim
  | _, [p], h, x, hx => by obtain ⟨_, _, _, e⟩ := h; rw [List.mem_singleton.mp hx]; exact .inl e
  | _, p :: q :: r, h, x, hx => by
    obtain ⟨e, _, _, up, hup, hr⟩ := h
    rcases List.mem_cons.mp hx with rfl | hx
    · obtain ⟨l, r', er⟩ := hr.head
      right
      exact ⟨q, List.mem_cons_of_mem _ List.mem_cons_self, by rw [hup]; rw [List.cons.injEq] at er; rw [er.1]⟩
    · rcases Path.p2 hr x hx with e | ⟨z, hz, ez⟩
      · exact .inl e
      · exact .inr ⟨z, List.mem_cons_of_mem _ hz, ez⟩
theorem Path.p4 : ∀ {high : Int} {r : Row}, Path lies L ab high r → ∀ p ∈ r, p.2 ∈ L ∧ lies p.1 p.2 = true
  | _, [], h, _, _ => h.elim
  | _, [p], h, x, hx => by obtain ⟨rfl, h1, h2, _⟩ := h; rw [List.mem_singleton.mp hx]; exact ⟨h1, h2⟩
  | _, p :: q :: r, h, x, hx => by
    obtain ⟨rfl, h1, h2, up, hup, hr⟩ := h
    rcases List.mem_cons.mp hx with rfl | hx
    · exact ⟨h1, h2⟩
    · exact Path.p4 hr x hx
theorem Path.p3 (M : Mt lies L ab be) : ∀ {high : Int} {r : Row}, Path lies L ab high r → (r.map (·.2)).Nodup → (∀ p ∈ r, aget ab p.2 ≠ some high) → (r.map (·.1)).Nodup
  | _, [], h, _, _ => h.elim
  | _, [p], h, _, _ => by simp
  | high, p :: q :: r, h, n, hh => by
    obtain ⟨e, h1, h2, up, hup, hr⟩ := h
    rw [List.map_cons] at n
    obtain ⟨n1, n2⟩ := List.nodup_cons.mp n
    rw [List.map_cons]
    have nup : ∀ z ∈ q :: r, aget ab z.2 ≠ some up := fun z hz ez => by
      have := M.inj hup ez
      exact n1 (List.mem_map.mpr ⟨z, hz, this.symm⟩)
    refine List.nodup_cons.mpr ⟨fun z => ?_, Path.p3 M hr n2 nup⟩
    obtain ⟨y, hy, ey⟩ := List.mem_map.mp z
    have ey : y.1 = p.1 := ey
    rcases Path.p1 hr y hy with e' | ⟨x, hx, ex⟩
    · exact hh p List.mem_cons_self (by rw [hup, ← e', ey, e])
    · exact hh x (List.mem_cons_of_mem _ hx) (by rw [ex, ey, e])

/-- behind a row -/
theorem Mt.row (M : Mt lies L ab be) {high : Int} {r : Row} (hL : high ∈ L) (hb : aget be high = none) (p : Path lies L ab high r) (n : (r.map (·.2)).Nodup) :
    Mt lies L (linkAll r ab be).1 (linkAll r ab be).2 ∧ ∀ h, aget (linkAll r ab be).2 h = none ↔ aget be h = none ∧ h ≠ high := by
  have hno : ∀ l, aget ab l ≠ some high := fun l e => by rw [(M.inv l high).mp e] at hb; cases hb
  have n1 := p.p3 M n fun q _ => hno q.2
  refine ⟨⟨(linkAll_nd r M.nda M.ndb).1, (linkAll_nd r M.nda M.ndb).2, fun l h => ?_, fun l h e => ?_⟩, fun h => ?_⟩
  · rw [linkAll_ab, linkAll_be]
    constructor
    · intro e
      cases ea : atLow r l with
      | some h' =>
        rw [ea] at e
        have e : h' = h := Option.some.inj e
        subst e
        rw [atHigh_mem n1 (atLow_some ea)]; rfl
      | none =>
        rw [ea, Option.none_or] at e
        cases eb : atHigh r h with
        | none => rw [Option.none_or]; exact (M.inv l h).mp e
        | some l' =>
          rcases p.p1 _ (atHigh_some eb) with e' | ⟨q, hq, eq⟩
          · have e' : h = high := e'
            exact absurd (e' ▸ e) (hno l)
          · have := M.inj e eq
            exact absurd this.symm (atLow_none ea q hq)
    · intro e
      cases eb : atHigh r h with
      | some l' =>
        rw [eb] at e
        have e : l' = l := Option.some.inj e
        subst e
        rw [atLow_mem n (atHigh_some eb)]; rfl
      | none =>
        rw [eb, Option.none_or] at e
        have e2 := (M.inv l h).mpr e
        cases ea : atLow r l with
        | none => rw [Option.none_or]; exact e2
        | some h' =>
          rcases p.p2 _ (atLow_some ea) with e' | ⟨q, hq, eq⟩
          · have e' : aget ab l = none := e'
            rw [e2] at e'; cases e'
          · have eq : aget ab l = some q.1 := eq
            rw [e2] at eq
            exact absurd (Option.some.inj eq).symm (atHigh_none eb q hq)
  · rw [linkAll_ab] at e
    cases ea : atLow r l with
    | some h' =>
      rw [ea] at e
      have e : h' = h := Option.some.inj e
      subst e
      have m := atLow_some ea
      obtain ⟨q1, q2⟩ := p.p4 _ m
      refine ⟨q1, ?_, q2⟩
      rcases p.p1 _ m with e' | ⟨q, _, eq⟩
      · have e' : h' = high := e'
        rw [e']; exact hL
      · exact (M.inL _ _ eq).2.1
    | none => rw [ea, Option.none_or] at e; exact M.inL l h e
  · rw [linkAll_be]
    cases eb : atHigh r h with
    | some l' =>
      rw [Option.some_or]
      refine ⟨fun z => (nomatch z), fun ⟨z1, z2⟩ => ?_⟩
      rcases p.p1 _ (atHigh_some eb) with e' | ⟨q, _, eq⟩
      · exact absurd e' z2
      · have eq : aget ab q.2 = some h := eq
        rw [(M.inv _ _).mp eq] at z1; cases z1
    | none =>
      rw [Option.none_or]
      refine ⟨fun z => ⟨z, fun z2 => ?_⟩, fun z => z.1⟩
      obtain ⟨l, r', er⟩ := p.head
      exact atHigh_none eb (high, l) (by rw [er]; exact List.mem_cons_self) z2.symm
end

/-! ### ladders -/
def bots (L : List Int) (be : List (Int × Int)) : List Int := L.filter fun x => (aget be x).isNone
def up (ab : List (Int × Int)) : Nat → Int → List Int
  | 0, x => [x]
  | n + 1, x => match aget ab x with
    | none => [x]
    | some y => x :: up ab n y
def ladders (L : List Int) (ab be : List (Int × Int)) : List (List Int) := (bots L be).map (up ab L.length)
/-- how many stand higher -/
def above (L : List Int) (x : Int) : Nat := (L.filter fun y => decide (x < y)).length
theorem above_lt {L : List Int} {x y : Int} (hy : y ∈ L) (h : x < y) : above L y < above L x := by
  induction L with
  | nil => cases hy
  | cons a r ih =>
    unfold above at ih ⊢
    rw [List.filter_cons, List.filter_cons]
    rcases List.mem_cons.mp hy with rfl | hy'
    · rw [if_neg (by simp), if_pos (by simp [h])]
      have : (r.filter fun z => decide (y < z)).length ≤ (r.filter fun z => decide (x < z)).length := by
        clear ih hy
        induction r with
        | nil => exact Nat.le_refl _
        | cons b r ih =>
          rw [List.filter_cons, List.filter_cons]
          by_cases q : y < b
          · rw [if_pos (by simp [q]), if_pos (decide_eq_true (by omega))]; simp only [List.length_cons]; omega
          · rw [if_neg (by simp [q])]
            split
            · simp only [List.length_cons]; omega
            · exact ih
      simp only [List.length_cons]; omega
    · have := ih hy'
      by_cases q : y < a
      · rw [if_pos (by simp [q]), if_pos (by simp; omega)]; simp only [List.length_cons]; omega
      · rw [if_neg (by simp [q])]; split
        · simp only [List.length_cons]; omega
        · exact this
theorem above_le (L : List Int) (x : Int) : above L x ≤ L.length := List.length_filter_le _ _
section
variable {lies : Int → Int → Bool} {L : List Int} {ab be : List (Int × Int)}
theorem up_mem : ∀ (n : Nat) (x : Int), x ∈ up ab n x
  | 0, x => by simp [up]
  | n + 1, x => by
    unfold up
    cases aget ab x <;> simp
theorem up_ne (n : Nat) (x : Int) : up ab n x ≠ [] := List.ne_nil_of_mem (up_mem n x)
theorem up_head : ∀ (n : Nat) (x : Int), ∃ t, up ab n x = x :: t
  | 0, x => ⟨[], rfl⟩
  | n + 1, x => by
    unfold up
    cases aget ab x with
    | none => exact ⟨[], rfl⟩
    | some y => exact ⟨_, rfl⟩
theorem up_in (M : Mt lies L ab be) : ∀ (n : Nat) (x : Int), x ∈ L → ∀ y ∈ up ab n x, y ∈ L
  | 0, x, h, y, hy => by rw [List.mem_singleton.mp (show y ∈ [x] from hy)]; exact h
  | n + 1, x, h, y, hy => by
    unfold up at hy
    cases e : aget ab x with
    | none => rw [e] at hy; rw [List.mem_singleton.mp hy]; exact h
    | some z =>
      rw [e] at hy
      rcases List.mem_cons.mp hy with rfl | hy
      · exact h
      · exact up_in M n z (M.inL _ _ e).2.1 y hy
/-- each one above all ahead of it -/
theorem up_chain (P : Po lies L) (M : Mt lies L ab be) : ∀ (n : Nat) (x : Int), x ∈ L → (up ab n x).Pairwise fun a b => lies b a = true
  | 0, x, _ => List.pairwise_singleton _ _
  | n + 1, x, h => by
    unfold up
    cases e : aget ab x with
    | none => exact List.pairwise_singleton _ _
    | some z =>
      obtain ⟨_, hz, hl⟩ := M.inL _ _ e
      refine List.pairwise_cons.mpr ⟨fun y hy => ?_, up_chain P M n z hz⟩
      have hyL := up_in M n z hz y hy
      obtain ⟨t, et⟩ := up_head (ab := ab) n z
      rw [et] at hy
      rcases List.mem_cons.mp hy with rfl | hy
      · exact hl
      · have c := up_chain P M n z hz
        rw [et] at c
        exact P.tr y z x hyL hz h ((List.pairwise_cons.mp c).1 y hy) hl
theorem up_srt (P : Po lies L) (M : Mt lies L ab be) (n : Nat) {x : Int} (h : x ∈ L) : (up ab n x).Pairwise (· < ·) :=
  (up_chain P M n x h).imp_of_mem fun {_ b} _ hb hl => P.lt b (up_in M n x h b hb) _ hl
/-- the row goes on where it can -/
theorem up_next (P : Po lies L) (M : Mt lies L ab be) : ∀ (n : Nat) (x : Int), x ∈ L → above L x ≤ n → ∀ y ∈ up ab n x, ∀ z, aget ab y = some z → z ∈ up ab n x
  | 0, x, h, hn, y, hy, z, e => by
    rw [List.mem_singleton.mp (show y ∈ [x] from hy)] at e
    obtain ⟨_, hz, hl⟩ := M.inL _ _ e
    have := above_lt hz (P.lt z hz x hl)
    omega
  | n + 1, x, h, hn, y, hy, z, e => by
    unfold up at hy ⊢
    cases ex : aget ab x with
    | none => rw [ex] at hy; rw [List.mem_singleton.mp hy, ex] at e; cases e
    | some w =>
      rw [ex] at hy
      obtain ⟨_, hw, hl⟩ := M.inL _ _ ex
      have := above_lt hw (P.lt w hw x hl)
      rcases List.mem_cons.mp hy with rfl | hy
      · rw [ex] at e; cases e; exact List.mem_cons_of_mem _ (up_mem _ _)
      · exact List.mem_cons_of_mem _ (up_next P M n w hw (by omega) y hy z e)
/-- who is not the first stands right above one ahead -/
theorem up_prev : ∀ (n : Nat) (x y : Int), y ∈ up ab n x → y = x ∨ ∃ z ∈ up ab n x, aget ab z = some y
  | 0, x, y, hy => .inl (List.mem_singleton.mp (show y ∈ [x] from hy))
  | n + 1, x, y, hy => by
    unfold up at hy ⊢
    cases ex : aget ab x with
    | none => rw [ex] at hy; exact .inl (List.mem_singleton.mp hy)
    | some w =>
      rw [ex] at hy
      rcases List.mem_cons.mp hy with rfl | hy
      · exact .inl rfl
      · right
        rcases up_prev n w y hy with rfl | ⟨z, hz, ez⟩
        · exact ⟨x, List.mem_cons_self, ex⟩
        · exact ⟨z, List.mem_cons_of_mem _ hz, ez⟩
/-- one next above, not beyond -/
theorem up_step (P : Po lies L) (M : Mt lies L ab be) : ∀ (n : Nat) (x : Int), x ∈ L → ∀ y ∈ up ab n x, ∀ a ∈ up ab n x, y < a → ∃ z, aget ab y = some z ∧ z ∈ up ab n x ∧ z ≤ a
  | 0, x, h, y, hy, a, ha, hl => by
    rw [List.mem_singleton.mp (show y ∈ [x] from hy), List.mem_singleton.mp (show a ∈ [x] from ha)] at hl
    omega
  | n + 1, x, h, y, hy, a, ha, hl => by
    have c := up_srt P M (n + 1) h
    unfold up at hy ha c ⊢
    cases ex : aget ab x with
    | none =>
      rw [ex] at hy ha
      rw [List.mem_singleton.mp hy, List.mem_singleton.mp ha] at hl; omega
    | some w =>
      rw [ex] at hy ha c
      obtain ⟨_, hw, hwl⟩ := M.inL _ _ ex
      rcases List.mem_cons.mp hy with rfl | hy
      · refine ⟨w, ex, List.mem_cons_of_mem _ (up_mem _ _), ?_⟩
        rcases List.mem_cons.mp ha with rfl | ha
        · omega
        · obtain ⟨t, et⟩ := up_head (ab := ab) n w
          rw [et] at ha
          rcases List.mem_cons.mp ha with rfl | ha
          · exact Int.le_refl _
          · have c2 := (List.pairwise_cons.mp c).2
            rw [et] at c2
            exact Int.le_of_lt ((List.pairwise_cons.mp c2).1 a ha)
      · rcases List.mem_cons.mp ha with ea | ha
        · have q : y ∈ up ab n w := hy
          have := (List.pairwise_cons.mp c).1 y q; omega
        · obtain ⟨z, e1, e2, e3⟩ := up_step P M n w hw y hy a ha hl
          exact ⟨z, e1, List.mem_cons_of_mem _ e2, e3⟩

theorem mem_bots {x : Int} : x ∈ bots L be ↔ x ∈ L ∧ aget be x = none := by
  unfold bots
  rw [List.mem_filter, Option.isNone_iff_eq_none]
/-- each thing is on a ladder -/
theorem on_ladder (P : Po lies L) (M : Mt lies L ab be) : ∀ (k : Nat) (x : Int), (L.filter fun y => decide (y < x)).length ≤ k → x ∈ L → ∃ b ∈ bots L be, x ∈ up ab L.length b := by
  intro k
  induction k with
  | zero =>
    intro x hk hx
    cases e : aget be x with
    | none => exact ⟨x, mem_bots.mpr ⟨hx, e⟩, up_mem _ _⟩
    | some y =>
      obtain ⟨hy, _, hl⟩ := M.inL _ _ ((M.inv y x).mpr e)
      have : y ∈ L.filter fun z => decide (z < x) := List.mem_filter.mpr ⟨hy, by simp [P.lt x hx y hl]⟩
      have := List.length_pos_of_mem this
      omega
  | succ k ih =>
    intro x hk hx
    cases e : aget be x with
    | none => exact ⟨x, mem_bots.mpr ⟨hx, e⟩, up_mem _ _⟩
    | some y =>
      have ey := (M.inv y x).mpr e
      obtain ⟨hy, _, hl⟩ := M.inL _ _ ey
      have hyx := P.lt x hx y hl
      have hlen : (L.filter fun z => decide (z < y)).length < (L.filter fun z => decide (z < x)).length := by
        have hs : ((L.filter fun z => decide (z < y)) ++ [y]).length ≤ (L.filter fun z => decide (z < x)).length := by
          refine nodup_len_le (nodup_snoc (P.nd.sublist List.filter_sublist) fun z => ?_) fun z hz => ?_
          · have := (List.mem_filter.mp z).2; simp at this
          · rcases List.mem_append.mp hz with hz | hz
            · obtain ⟨h1, h2⟩ := List.mem_filter.mp hz
              have h2 : z < y := by simpa using h2
              exact List.mem_filter.mpr ⟨h1, decide_eq_true (by omega)⟩
            · rw [List.mem_singleton.mp hz]
              exact List.mem_filter.mpr ⟨hy, decide_eq_true (by omega)⟩
        rw [List.length_append, List.length_singleton] at hs
        omega
      obtain ⟨b, hb, hyb⟩ := ih y (by omega) hy
      exact ⟨b, hb, up_next P M L.length b (mem_bots.mp hb).1 (above_le _ _) y hyb x ey⟩
/-- .. on one alone -/
theorem one_ladder (P : Po lies L) (M : Mt lies L ab be) : ∀ (k : Nat) (x : Int), (L.filter fun y => decide (y < x)).length ≤ k → ∀ b ∈ bots L be, ∀ c ∈ bots L be, x ∈ up ab L.length b → x ∈ up ab L.length c → b = c := by
  intro k
  induction k with
  | zero =>
    intro x hk b hb c hc h1 h2
    have no : ∀ z, aget ab z ≠ some x := fun z e => by
      obtain ⟨hz, hx, hl⟩ := M.inL _ _ e
      have : z ∈ L.filter fun y => decide (y < x) := List.mem_filter.mpr ⟨hz, by simp [P.lt x hx z hl]⟩
      have := List.length_pos_of_mem this
      omega
    rcases up_prev _ _ _ h1 with e1 | ⟨z, _, ez⟩
    · rcases up_prev _ _ _ h2 with e2 | ⟨z, _, ez⟩
      · exact e1.symm.trans e2
      · exact absurd ez (no z)
    · exact absurd ez (no z)
  | succ k ih =>
    intro x hk b hb c hc h1 h2
    rcases up_prev _ _ _ h1 with e1 | ⟨z, hz, ez⟩
    · rcases up_prev _ _ _ h2 with e2 | ⟨z, _, ez⟩
      · exact e1.symm.trans e2
      · have := (mem_bots.mp hb).2
        rw [← e1, (M.inv _ _).mp ez] at this; cases this
    · rcases up_prev _ _ _ h2 with e2 | ⟨z', hz', ez'⟩
      · have := (mem_bots.mp hc).2
        rw [← e2, (M.inv _ _).mp ez] at this; cases this
      · have e : z = z' := M.inj ez ez'
        subst e
        obtain ⟨hzL, hx, hl⟩ := M.inL _ _ ez
        have hzx := P.lt x hx z hl
        refine ih z ?_ b hb c hc hz hz'
        have hs : ((L.filter fun y => decide (y < z)) ++ [z]).length ≤ (L.filter fun y => decide (y < x)).length := by
          refine nodup_len_le (nodup_snoc (P.nd.sublist List.filter_sublist) fun q => ?_) fun q hq => ?_
          · have := (List.mem_filter.mp q).2; simp at this
          · rcases List.mem_append.mp hq with hq | hq
            · obtain ⟨g1, g2⟩ := List.mem_filter.mp hq
              have g2 : q < z := by simpa using g2
              exact List.mem_filter.mpr ⟨g1, decide_eq_true (by omega)⟩
            · rw [List.mem_singleton.mp hq]
              exact List.mem_filter.mpr ⟨hzL, decide_eq_true (by omega)⟩
        rw [List.length_append, List.length_singleton] at hs
        omega
theorem bots_nd (P : Po lies L) : (bots L be).Nodup := P.nd.sublist List.filter_sublist
theorem ladders_perm (P : Po lies L) (M : Mt lies L ab be) : (ladders L ab be).flatten.Perm L := by
  refine (List.perm_ext_iff_of_nodup ?_ P.nd).mpr fun x => ?_
  · unfold ladders
    refine List.pairwise_flatten.mpr ⟨fun l hl => ?_, ?_⟩
    · obtain ⟨b, hb, rfl⟩ := List.mem_map.mp hl
      exact (up_srt P M L.length (mem_bots.mp hb).1).imp fun h => Int.ne_of_lt h
    · refine List.pairwise_map.mpr ((bots_nd (be := be) P).imp_of_mem fun {b c} hb hc ne x hx y hy e => ?_)
      subst e
      exact ne (one_ladder P M _ x (Nat.le_refl _) b hb c hc hx hy)
  · unfold ladders
    rw [List.mem_flatten]
    constructor
    · rintro ⟨l, hl, hx⟩
      obtain ⟨b, hb, rfl⟩ := List.mem_map.mp hl
      exact up_in M _ b (mem_bots.mp hb).1 x hx
    · intro hx
      obtain ⟨b, hb, h⟩ := on_ladder P M _ x (Nat.le_refl _) hx
      exact ⟨_, List.mem_map.mpr ⟨b, hb, rfl⟩, h⟩
theorem ladders_len : (ladders L ab be).length = (bots L be).length := by unfold ladders; rw [List.length_map]

/-! ### counting along the ladders -/
theorem count_ladders (P : Po lies L) (M : Mt lies L ab be) (p : Int → Bool) : (L.filter p).length = ((bots L be).map fun b => ((up ab L.length b).filter p).length).sum := by
  have h := (ladders_perm P M).filter p
  rw [← h.length_eq, List.filter_flatten, List.length_flatten, List.map_map]
  unfold ladders
  rw [List.map_map]
  rfl
theorem sum_le_len {f : Int → Nat} : ∀ {l : List Int}, (∀ x ∈ l, f x ≤ 1) → (l.map f).sum ≤ l.length
  | [], _ => Nat.le_refl _
  | a :: r, h => by
    have := sum_le_len (f := f) (l := r) fun x hx => h x (List.mem_cons_of_mem _ hx)
    have := h a List.mem_cons_self
    simp only [List.map_cons, List.sum_cons, List.length_cons]; omega
theorem len_le_sum {f : Int → Nat} : ∀ {l : List Int}, (∀ x ∈ l, 1 ≤ f x) → l.length ≤ (l.map f).sum
  | [], _ => Nat.le_refl _
  | a :: r, h => by
    have := len_le_sum (f := f) (l := r) fun x hx => h x (List.mem_cons_of_mem _ hx)
    have := h a List.mem_cons_self
    simp only [List.map_cons, List.sum_cons, List.length_cons]; omega
theorem all_one {f : Int → Nat} : ∀ {l : List Int}, (∀ x ∈ l, f x ≤ 1) → l.length ≤ (l.map f).sum → ∀ x ∈ l, f x = 1
  | [], _, _, _, h => nomatch h
  | a :: r, h, hs, x, hx => by
    have h1 := sum_le_len (f := f) (l := r) fun x hx => h x (List.mem_cons_of_mem _ hx)
    have h2 := h a List.mem_cons_self
    simp only [List.map_cons, List.sum_cons, List.length_cons] at hs
    rcases List.mem_cons.mp hx with rfl | hx
    · omega
    · exact all_one (fun x hx => h x (List.mem_cons_of_mem _ hx)) (by omega) x hx
/-- things of which none lies above another -/
def Anti (lies : Int → Int → Bool) (A : List Int) : Prop := ∀ x ∈ A, ∀ y ∈ A, lies x y = false
theorem anti_one (P : Po lies L) (M : Mt lies L ab be) {A : List Int} (hA : Anti lies A) {b : Int} (hb : b ∈ L) : ((up ab L.length b).filter fun x => decide (x ∈ A)).length ≤ 1 := by
  have c := (up_chain P M L.length b hb).sublist (List.filter_sublist (p := fun x => decide (x ∈ A)))
  cases e : (up ab L.length b).filter fun x => decide (x ∈ A) with
  | nil => exact Nat.zero_le _
  | cons x t =>
    cases t with
    | nil => exact Nat.le_refl _
    | cons y t =>
      rw [e] at c
      have hl := (List.pairwise_cons.mp c).1 y List.mem_cons_self
      have hx : x ∈ A := by
        have : x ∈ (up ab L.length b).filter fun x => decide (x ∈ A) := by rw [e]; exact List.mem_cons_self
        simpa using (List.mem_filter.mp this).2
      have hy : y ∈ A := by
        have : y ∈ (up ab L.length b).filter fun x => decide (x ∈ A) := by rw [e]; exact List.mem_cons_of_mem _ List.mem_cons_self
        simpa using (List.mem_filter.mp this).2
      rw [hA y hy x hx] at hl; cases hl
/-- no free set has more things than there are ladders -/
theorem anti_le (P : Po lies L) (M : Mt lies L ab be) {A : List Int} (hA : Anti lies A) (n : A.Nodup) (hL : ∀ x ∈ A, x ∈ L) : A.length ≤ (bots L be).length := by
  have h1 : A.length ≤ (L.filter fun x => decide (x ∈ A)).length := nodup_len_le n fun x hx => List.mem_filter.mpr ⟨hL x hx, by simp [hx]⟩
  rw [count_ladders P M] at h1
  exact Nat.le_trans h1 (sum_le_len fun b hb => anti_one P M hA (mem_bots.mp hb).1)

/-! ### no row: the certificate -/
/-- nothing more to be joined: a set of lower things that is closed -/
def NoAug (lies : Int → Int → Bool) (L : List Int) (ab be : List (Int × Int)) : Prop :=
  ∃ R : Int → Prop, (∀ h ∈ L, aget be h = none → ∀ l ∈ L, lies h l = true → R l) ∧ ∀ l, R l → ∃ u, aget ab l = some u ∧ ∀ l' ∈ L, lies u l' = true → R l'
/-- reached and not come to from above: one on each ladder -/
theorem closed_one (P : Po lies L) (M : Mt lies L ab be) {R T : Int → Prop} (h1 : ∀ l, R l → ∃ u, aget ab l = some u ∧ T u) :
    ∀ (n : Nat) (x : Int), x ∈ L → above L x ≤ n → T x → ∃ z ∈ up ab n x, T z ∧ ¬ R z
  | 0, x, hx, hn, ht => by
    refine ⟨x, up_mem _ _, ht, fun r => ?_⟩
    obtain ⟨u, e, _⟩ := h1 x r
    obtain ⟨_, hu, hl⟩ := M.inL _ _ e
    have := above_lt hu (P.lt u hu x hl); omega
  | n + 1, x, hx, hn, ht => by
    by_cases r : R x
    · obtain ⟨u, e, tu⟩ := h1 x r
      obtain ⟨_, hu, hl⟩ := M.inL _ _ e
      have := above_lt hu (P.lt u hu x hl)
      obtain ⟨z, hz, h⟩ := closed_one P M h1 n u hu (by omega) tu
      refine ⟨z, ?_, h⟩
      unfold up; rw [e]; exact List.mem_cons_of_mem _ hz
    · exact ⟨x, up_mem _ _, ht, r⟩
/-- a free set as great as the ladders are many -/
theorem closed_free (P : Po lies L) (M : Mt lies L ab be) {R T : Int → Prop} [DecidablePred R] [DecidablePred T] (h0 : ∀ b ∈ L, aget be b = none → T b) (h1 : ∀ l, R l → ∃ u, aget ab l = some u ∧ T u)
    (h2 : ∀ x ∈ L, T x → ∀ l ∈ L, lies x l = true → R l) :
    Anti lies (L.filter fun x => decide (T x ∧ ¬ R x)) ∧ (L.filter fun x => decide (T x ∧ ¬ R x)).length = (bots L be).length := by
  have an : Anti lies (L.filter fun x => decide (T x ∧ ¬ R x)) := fun x hx y hy => by
    obtain ⟨x1, x2⟩ := List.mem_filter.mp hx
    obtain ⟨y1, y2⟩ := List.mem_filter.mp hy
    have x2 := of_decide_eq_true x2
    have y2 := of_decide_eq_true y2
    cases e : lies x y with
    | false => rfl
    | true => exact absurd (h2 x x1 x2.1 y y1 e) y2.2
  refine ⟨an, Nat.le_antisymm (anti_le P M an (P.nd.sublist List.filter_sublist) fun x hx => (List.mem_filter.mp hx).1) ?_⟩
  rw [count_ladders P M]
  refine len_le_sum fun b hb => ?_
  obtain ⟨hbL, hbn⟩ := mem_bots.mp hb
  obtain ⟨z, hz, h⟩ := closed_one P M h1 L.length b hbL (above_le _ _) (h0 b hbL hbn)
  exact List.length_pos_of_mem (List.mem_filter.mpr ⟨hz, decide_eq_true h⟩)
theorem NoAug.cert (P : Po lies L) (M : Mt lies L ab be) (N : NoAug lies L ab be) : ∃ A : List Int, A.Nodup ∧ (∀ x ∈ A, x ∈ L) ∧ Anti lies A ∧ A.length = (bots L be).length := by
  obtain ⟨R, r1, r2⟩ := N
  classical
  obtain ⟨h1, h2⟩ := closed_free (R := R) (T := fun x => aget be x = none ∨ ∃ l, R l ∧ aget ab l = some x) P M (fun b _ e => .inl e) (fun l hl => by
      obtain ⟨u, e, _⟩ := r2 l hl
      exact ⟨u, e, .inr ⟨l, hl, e⟩⟩) (fun x hx t l hl e => by
      rcases t with t | ⟨l', hl', e'⟩
      · exact r1 x hx t l hl e
      · obtain ⟨u, e2, h⟩ := r2 l' hl'
        rw [e'] at e2; cases e2
        exact h l hl e)
  exact ⟨_, P.nd.sublist List.filter_sublist, fun x hx => (List.mem_filter.mp hx).1, h1, h2⟩
theorem NoAug.of_cert (P : Po lies L) (M : Mt lies L ab be) {A : List Int} (n : A.Nodup) (hL : ∀ x ∈ A, x ∈ L) (hA : Anti lies A) (hl : (bots L be).length ≤ A.length) : NoAug lies L ab be := by
  have h1 : A.length ≤ (L.filter fun x => decide (x ∈ A)).length := nodup_len_le n fun x hx => List.mem_filter.mpr ⟨hL x hx, by simp [hx]⟩
  rw [count_ladders P M] at h1
  have one := all_one (fun b hb => anti_one P M hA (mem_bots.mp hb).1) (Nat.le_trans hl h1)
  have ex : ∀ b ∈ bots L be, ∃ a ∈ A, a ∈ up ab L.length b := fun b hb => by
    have q := one b hb
    cases e : (up ab L.length b).filter fun x => decide (x ∈ A) with
    | nil => rw [e] at q; cases q
    | cons a t =>
      have : a ∈ (up ab L.length b).filter fun x => decide (x ∈ A) := by rw [e]; exact List.mem_cons_self
      obtain ⟨q1, q2⟩ := List.mem_filter.mp this
      exact ⟨a, by simpa using q2, q1⟩
  have cmp : ∀ b ∈ bots L be, ∀ x ∈ up ab L.length b, ∀ y ∈ up ab L.length b, x < y → lies y x = true := fun b hb x hx y hy h => by
    have c := up_chain P M L.length b (mem_bots.mp hb).1
    have s := up_srt P M L.length (mem_bots.mp hb).1
    have both := List.pairwise_and_iff.mpr ⟨c, s⟩
    generalize up ab L.length b = l at both hx hy
    clear c s one ex
    induction l with
    | nil => cases hx
    | cons a r ih =>
      obtain ⟨h1, h2⟩ := List.pairwise_cons.mp both
      rcases List.mem_cons.mp hx with ex | hx'
      · rcases List.mem_cons.mp hy with ey | hy'
        · omega
        · rw [ex]; exact (h1 y hy').1
      · rcases List.mem_cons.mp hy with ey | hy'
        · have := (h1 x hx').2; omega
        · exact ih h2 hx' hy'
  -- below the free set
  have key : ∀ b ∈ bots L be, ∀ a ∈ A, a ∈ up ab L.length b → ∀ x ∈ up ab L.length b, x ≤ a → ∀ l ∈ L, lies x l = true → ∃ c ∈ bots L be, ∃ a' ∈ A, a' ∈ up ab L.length c ∧ l ∈ up ab L.length c ∧ l < a' := by
    intro b hb a ha hab x hx hxa l hlL hxl
    obtain ⟨c, hc, hlc⟩ := on_ladder P M _ l (Nat.le_refl _) hlL
    obtain ⟨a', ha', hac⟩ := ex c hc
    refine ⟨c, hc, a', ha', hac, hlc, ?_⟩
    refine Classical.byContradiction fun z => ?_
    have xL := up_in M _ b (mem_bots.mp hb).1 x hx
    have hxa' : lies x a' = true := by
      by_cases e : l = a'
      · rw [← e]; exact hxl
      · exact P.tr x l a' xL hlL (hL a' ha') hxl (cmp c hc a' hac l hlc (by omega))
    have haa' : lies a a' = true := by
      by_cases e : x = a
      · rw [← e]; exact hxa'
      · exact P.tr a x a' (hL a ha) xL (hL a' ha') (cmp b hb x hx a hab (by omega)) hxa'
    rw [hA a ha a' ha'] at haa'; cases haa'
  refine ⟨fun l => ∃ c ∈ bots L be, ∃ a' ∈ A, a' ∈ up ab L.length c ∧ l ∈ up ab L.length c ∧ l < a', fun h hh hn l hlL hy => ?_, fun l hR => ?_⟩
  · have hb : h ∈ bots L be := mem_bots.mpr ⟨hh, hn⟩
    obtain ⟨a, ha, hab⟩ := ex h hb
    refine key h hb a ha hab h (up_mem _ _) ?_ l hlL hy
    obtain ⟨t, et⟩ := up_head (ab := ab) L.length h
    have s := up_srt P M L.length (x := h) hh
    rw [et] at hab s
    rcases List.mem_cons.mp hab with rfl | q
    · exact Int.le_refl _
    · exact Int.le_of_lt ((List.pairwise_cons.mp s).1 a q)
  · obtain ⟨c, hc, a, ha, hac, hlc, hla⟩ := hR
    obtain ⟨u, e, hu, hua⟩ := up_step P M L.length c (mem_bots.mp hc).1 l hlc a hac hla
    exact ⟨u, e, fun l' hl' hy => key c hc a ha hac u hu hua l' hl' hy⟩
end
end FL

/-! Fewladders, the mathematics 3: joined, joined_all, reached, free; the hall's state, put, take, and what they keep. -/
namespace FL

def joinScan (lies : Int → Int → Bool) (L : List Int) : List Int → List (Int × Int) → List (Int × Int) → Row × List (Int × Int) × List (Int × Int)
  | [], ab, be => ([], ab, be)
  | high :: rest, ab, be =>
    if (aget be high).isSome = true then joinScan lies L rest ab be
    else
      let r := climb lies L (L.length + 1) high ⟨ab, be, []⟩
      if r.1 = [] then joinScan lies L rest r.2.ab r.2.be else (r.1, r.2.ab, r.2.be)
def joined (lies : Int → Int → Bool) (L : List Int) (ab be : List (Int × Int)) := joinScan lies L L ab be

theorem unseen_nil (L : List Int) : unseen L [] = L.length := by unfold unseen; simp
structure JoinEnd (lies : Int → Int → Bool) (L todo : List Int) (ab be : List (Int × Int)) (r : Row × List (Int × Int) × List (Int × Int)) : Prop where
  fail : r.1 = [] → r.2 = (ab, be) ∧ ∀ h ∈ todo, aget be h = none → ∃ S : List Int, (∀ l ∈ L, lies h l = true → l ∈ S) ∧ ∀ l ∈ S, ∃ up, aget ab l = some up ∧ ∀ l' ∈ L, lies up l' = true → l' ∈ S
  done : r.1 ≠ [] → ∃ high ∈ todo, aget be high = none ∧ Path lies L ab high r.1 ∧ r.2 = linkAll r.1 ab be ∧ (r.1.map (·.2)).Nodup
theorem joinScan_end (lies : Int → Int → Bool) (L : List Int) (ab be : List (Int × Int)) : ∀ todo : List Int, JoinEnd lies L todo ab be (joinScan lies L todo ab be) := by
  intro todo
  induction todo with
  | nil => exact ⟨fun _ => ⟨rfl, fun h hh => (nomatch hh)⟩, fun h => absurd rfl h⟩
  | cons high rest ih =>
    unfold joinScan
    by_cases hb : (aget be high).isSome = true
    · rw [if_pos hb]
      refine ⟨fun h => ⟨(ih.fail h).1, fun x hx hn => ?_⟩, fun h => ?_⟩
      · rcases List.mem_cons.mp hx with rfl | hx
        · rw [hn] at hb; cases hb
        · exact (ih.fail h).2 x hx hn
      · obtain ⟨x, hx, g⟩ := ih.done h
        exact ⟨x, List.mem_cons_of_mem _ hx, g⟩
    · rw [if_neg hb]
      have hbn : aget be high = none := by
        cases e : aget be high with
        | none => rfl
        | some _ => rw [e] at hb; exact absurd rfl hb
      have e := climb_end (lies := lies) (L := L) (L.length + 1) high ⟨ab, be, []⟩ (by rw [unseen_nil]; omega)
      simp only
      by_cases hr : (climb lies L (L.length + 1) high ⟨ab, be, []⟩).1 = []
      · rw [if_pos hr]
        obtain ⟨f1, f2, f3, f4⟩ := e.fail hr
        have f1 : (climb lies L (L.length + 1) high ⟨ab, be, []⟩).2.ab = ab := f1
        have f2 : (climb lies L (L.length + 1) high ⟨ab, be, []⟩).2.be = be := f2
        rw [f1, f2]
        refine ⟨fun h => ⟨(ih.fail h).1, fun x hx hn => ?_⟩, fun h => ?_⟩
        · rcases List.mem_cons.mp hx with rfl | hx
          · exact ⟨_, f3, fun l hl => f4 l hl (by simp)⟩
          · exact (ih.fail h).2 x hx hn
        · obtain ⟨x, hx, g⟩ := ih.done h
          exact ⟨x, List.mem_cons_of_mem _ hx, g⟩
      · rw [if_neg hr]
        obtain ⟨g1, g2, g3, g4⟩ := e.done hr
        exact ⟨fun h => absurd h hr, fun _ => ⟨high, List.mem_cons_self, hbn, g1, g2, g3⟩⟩
section
variable {lies : Int → Int → Bool} {L : List Int} {ab be : List (Int × Int)}
theorem joined_none (h : (joined lies L ab be).1 = []) : (joined lies L ab be).2 = (ab, be) ∧ NoAug lies L ab be := by
  have e := joinScan_end lies L ab be L
  obtain ⟨e1, e2⟩ := e.fail h
  refine ⟨e1, fun l => ∃ h ∈ L, aget be h = none ∧ ∃ S : List Int, (∀ l ∈ L, lies h l = true → l ∈ S) ∧ (∀ l ∈ S, ∃ up, aget ab l = some up ∧ ∀ l' ∈ L, lies up l' = true → l' ∈ S) ∧ l ∈ S, fun x hx hn l hl hy => ?_, fun l hR => ?_⟩
  · obtain ⟨S, s1, s2⟩ := e2 x hx hn
    exact ⟨x, hx, hn, S, s1, s2, s1 l hl hy⟩
  · obtain ⟨x, hx, hn, S, s1, s2, hl⟩ := hR
    obtain ⟨up, eu, hc⟩ := s2 l hl
    exact ⟨up, eu, fun l' hl' hy => ⟨x, hx, hn, S, s1, s2, hc l' hl' hy⟩⟩
theorem bots_row (P : Po lies L) {high : Int} {be' : List (Int × Int)} (hL : high ∈ L) (hn : aget be high = none) (h : ∀ x, aget be' x = none ↔ aget be x = none ∧ x ≠ high) :
    (bots L be').length + 1 = (bots L be).length := by
  have e : bots L be' = (bots L be).erase high := by
    rw [(bots_nd P).erase_eq_filter]
    unfold bots
    rw [List.filter_filter]
    refine List.filter_congr fun x _ => ?_
    have := h x
    cases e1 : aget be' x with
    | none =>
      obtain ⟨q1, q2⟩ := this.mp e1
      simp [q1, q2]
    | some y =>
      cases e2 : aget be x with
      | none =>
        by_cases q : x = high
        · simp [q]
        · have := this.mpr ⟨e2, q⟩
          rw [e1] at this; cases this
      | some z => simp
  rw [e, List.length_erase_of_mem (mem_bots.mpr ⟨hL, hn⟩)]
  have := List.length_pos_of_mem (mem_bots.mpr ⟨hL, hn⟩)
  omega
theorem joined_some (P : Po lies L) (M : Mt lies L ab be) (h : (joined lies L ab be).1 ≠ []) :
    Mt lies L (joined lies L ab be).2.1 (joined lies L ab be).2.2 ∧ (bots L (joined lies L ab be).2.2).length + 1 = (bots L be).length := by
  obtain ⟨high, hL, hn, p, e, n⟩ := (joinScan_end lies L ab be L).done h
  have p : Path lies L ab high (joined lies L ab be).1 := p
  have e : (joined lies L ab be).2 = linkAll (joined lies L ab be).1 ab be := e
  obtain ⟨m1, m2⟩ := M.row hL hn p n
  rw [e]
  exact ⟨m1, bots_row P hL hn m2⟩
theorem joined_mt (P : Po lies L) (M : Mt lies L ab be) : Mt lies L (joined lies L ab be).2.1 (joined lies L ab be).2.2 := by
  by_cases h : (joined lies L ab be).1 = []
  · rw [(joined_none h).1]; exact M
  · exact (joined_some P M h).1
end

/-- as few as can be -/
def joinAll (lies : Int → Int → Bool) (L : List Int) : Nat → List (Int × Int) → List (Int × Int) → List (Int × Int) × List (Int × Int)
  | 0, ab, be => (ab, be)
  | n + 1, ab, be => if (joined lies L ab be).1 = [] then (joined lies L ab be).2 else joinAll lies L n (joined lies L ab be).2.1 (joined lies L ab be).2.2
theorem joinAll_end {lies : Int → Int → Bool} {L : List Int} (P : Po lies L) : ∀ (n : Nat) (ab be : List (Int × Int)), Mt lies L ab be → (bots L be).length < n →
    Mt lies L (joinAll lies L n ab be).1 (joinAll lies L n ab be).2 ∧ NoAug lies L (joinAll lies L n ab be).1 (joinAll lies L n ab be).2
  | 0, _, _, _, h => absurd h (Nat.not_lt_zero _)
  | n + 1, ab, be, M, h => by
    unfold joinAll
    by_cases e : (joined lies L ab be).1 = []
    · rw [if_pos e]
      obtain ⟨e1, e2⟩ := joined_none e
      rw [e1]; exact ⟨M, e2⟩
    · rw [if_neg e]
      obtain ⟨m, hb⟩ := joined_some P M e
      exact joinAll_end P n _ _ m (by omega)

/-! ### reached, free -/
structure RS where
  hs : List Int
  ls : List Int
  wt : List Int
def reachIn (lies : Int → Int → Bool) (ab : List (Int × Int)) (high : Int) : List Int → RS → RS
  | [], s => s
  | low :: rest, s =>
    if low ∉ s.ls ∧ lies high low = true then
      let a := (aget ab low).getD 0
      if a ∉ s.hs then reachIn lies ab high rest ⟨s.hs ++ [a], s.ls ++ [low], s.wt ++ [a]⟩
      else reachIn lies ab high rest ⟨s.hs, s.ls ++ [low], s.wt⟩
    else reachIn lies ab high rest s
def reach (lies : Int → Int → Bool) (L : List Int) (ab : List (Int × Int)) : Nat → RS → RS
  | 0, s => s
  | n + 1, s => match s.wt.getLast? with
    | none => s
    | some high => reach lies L ab n (reachIn lies ab high L ⟨s.hs, s.ls, s.wt.dropLast⟩)
def reachAll (lies : Int → Int → Bool) (L : List Int) (ab be : List (Int × Int)) : RS := reach lies L ab (L.length + 1) ⟨bots L be, [], bots L be⟩
def free (lies : Int → Int → Bool) (L : List Int) (ab be : List (Int × Int)) : List Int :=
  L.filter fun x => decide (x ∈ (reachAll lies L ab be).hs ∧ ¬ x ∈ (reachAll lies L ab be).ls)

/-- what holds on the way: R the certificate -/
structure RInv (lies : Int → Int → Bool) (L : List Int) (ab be : List (Int × Int)) (R : Int → Prop) (s : RS) : Prop where
  bot : ∀ b ∈ bots L be, b ∈ s.hs
  hL : ∀ h ∈ s.hs, h ∈ L
  hn : s.hs.Nodup
  lL : ∀ l ∈ s.ls, l ∈ L
  ln : s.ls.Nodup
  wh : ∀ h ∈ s.wt, h ∈ s.hs
  low : ∀ l ∈ s.ls, R l ∧ ∃ u, aget ab l = some u ∧ u ∈ s.hs
  hi : ∀ h ∈ s.hs, ∀ l ∈ L, lies h l = true → R l
/-- all that lies beneath a reached thing, but one that waits (or is at work), is come to -/
def RDone (lies : Int → Int → Bool) (L : List Int) (s : RS) (ex : Int → Prop) : Prop := ∀ h ∈ s.hs, h ∉ s.wt → ¬ ex h → ∀ l ∈ L, lies h l = true → l ∈ s.ls

section
variable {lies : Int → Int → Bool} {L : List Int} {ab be : List (Int × Int)} {R : Int → Prop}
theorem reachIn_end (M : Mt lies L ab be) (r2 : ∀ l, R l → ∃ u, aget ab l = some u ∧ ∀ l' ∈ L, lies u l' = true → R l') (high : Int) :
    ∀ (todo : List Int), (∀ x ∈ todo, x ∈ L) → ∀ s, high ∈ s.hs → RInv lies L ab be R s → RDone lies L s (· = high) →
      RInv lies L ab be R (reachIn lies ab high todo s) ∧ RDone lies L (reachIn lies ab high todo s) (· = high) ∧ (∀ l ∈ s.ls, l ∈ (reachIn lies ab high todo s).ls) ∧ (∀ l ∈ todo, lies high l = true → l ∈ (reachIn lies ab high todo s).ls) ∧
      (reachIn lies ab high todo s).wt.length + s.hs.length = s.wt.length + (reachIn lies ab high todo s).hs.length ∧ high ∈ (reachIn lies ab high todo s).hs := by
  intro todo
  induction todo with
  | nil => intro _ s hh I D; exact ⟨I, D, fun _ h => h, fun _ h => (nomatch h), rfl, hh⟩
  | cons low rest ih =>
    intro hL s hh I D
    have hL' : ∀ x ∈ rest, x ∈ L := fun x hx => hL x (List.mem_cons_of_mem _ hx)
    have lowL : low ∈ L := hL low List.mem_cons_self
    unfold reachIn
    by_cases c : low ∉ s.ls ∧ lies high low = true
    · rw [if_pos c]
      have Rl : R low := I.hi high hh low lowL c.2
      obtain ⟨u, eu, hc⟩ := r2 low Rl
      have uL : u ∈ L := (M.inL _ _ eu).2.1
      simp only [eu, Option.getD_some]
      by_cases hu : u ∉ s.hs
      · rw [if_pos hu]
        have I' : RInv lies L ab be R ⟨s.hs ++ [u], s.ls ++ [low], s.wt ++ [u]⟩ := by
          refine ⟨fun b hb => List.mem_append_left _ (I.bot b hb), fun h hx => ?_, nodup_snoc I.hn hu, fun l hl => ?_, nodup_snoc I.ln c.1, fun h hx => ?_, fun l hl => ?_, fun h hx => ?_⟩
          · rcases List.mem_append.mp hx with hx | hx
            · exact I.hL h hx
            · rw [List.mem_singleton.mp hx]; exact uL
          · rcases List.mem_append.mp hl with hl | hl
            · exact I.lL l hl
            · rw [List.mem_singleton.mp hl]; exact lowL
          · rcases List.mem_append.mp hx with hx | hx
            · exact List.mem_append_left _ (I.wh h hx)
            · exact List.mem_append_right _ hx
          · rcases List.mem_append.mp hl with hl | hl
            · obtain ⟨a, v, b, d⟩ := I.low l hl
              exact ⟨a, v, b, List.mem_append_left _ d⟩
            · rw [List.mem_singleton.mp hl]; exact ⟨Rl, u, eu, List.mem_append_right _ List.mem_cons_self⟩
          · rcases List.mem_append.mp hx with hx | hx
            · exact I.hi h hx
            · rw [List.mem_singleton.mp hx]; exact hc
        have D' : RDone lies L ⟨s.hs ++ [u], s.ls ++ [low], s.wt ++ [u]⟩ (· = high) := fun h hx hw he l hl hy => by
          rcases List.mem_append.mp hx with hx | hx
          · exact List.mem_append_left _ (D h hx (fun z => hw (List.mem_append_left _ z)) he l hl hy)
          · exact absurd (List.mem_append_right _ hx) hw
        obtain ⟨a1, a2, a3, a4, a5, a6⟩ := ih hL' _ (List.mem_append_left _ hh) I' D'
        refine ⟨a1, a2, fun l hl => a3 l (List.mem_append_left _ hl), fun l hl hy => ?_, ?_, a6⟩
        · rcases List.mem_cons.mp hl with e | hl
          · exact a3 l (by rw [e]; exact List.mem_append_right _ List.mem_cons_self)
          · exact a4 l hl hy
        · simp only [List.length_append, List.length_singleton] at a5; omega
      · rw [if_neg hu]
        have hu : u ∈ s.hs := Classical.not_not.mp hu
        have I' : RInv lies L ab be R ⟨s.hs, s.ls ++ [low], s.wt⟩ := by
          refine ⟨I.bot, I.hL, I.hn, fun l hl => ?_, nodup_snoc I.ln c.1, I.wh, fun l hl => ?_, I.hi⟩
          · rcases List.mem_append.mp hl with hl | hl
            · exact I.lL l hl
            · rw [List.mem_singleton.mp hl]; exact lowL
          · rcases List.mem_append.mp hl with hl | hl
            · exact I.low l hl
            · rw [List.mem_singleton.mp hl]; exact ⟨Rl, u, eu, hu⟩
        have D' : RDone lies L ⟨s.hs, s.ls ++ [low], s.wt⟩ (· = high) := fun h hx hw he l hl hy => List.mem_append_left _ (D h hx hw he l hl hy)
        obtain ⟨a1, a2, a3, a4, a5, a6⟩ := ih hL' ⟨s.hs, s.ls ++ [low], s.wt⟩ hh I' D'
        refine ⟨a1, a2, fun l hl => a3 l (List.mem_append_left _ hl), fun l hl hy => ?_, a5, a6⟩
        rcases List.mem_cons.mp hl with e | hl
        · exact a3 l (by rw [e]; exact List.mem_append_right _ List.mem_cons_self)
        · exact a4 l hl hy
    · rw [if_neg c]
      obtain ⟨a1, a2, a3, a4, a5, a6⟩ := ih hL' s hh I D
      refine ⟨a1, a2, a3, fun l hl hy => ?_, a5, a6⟩
      rcases List.mem_cons.mp hl with e | hl
      · subst e
        refine a3 _ (Classical.byContradiction fun z => c ⟨z, hy⟩)
      · exact a4 l hl hy
theorem mem_dropLast_or {l : List Int} {x y : Int} (h : l.getLast? = some y) (hx : x ∈ l) : x ∈ l.dropLast ∨ x = y := by
  have e : l = l.dropLast ++ [y] := by
    have hne : l ≠ [] := fun z => by rw [z] at h; cases h
    rw [List.getLast?_eq_some_getLast hne] at h
    have := List.dropLast_concat_getLast hne
    rw [Option.some.inj h] at this
    exact this.symm
  rw [e] at hx
  rcases List.mem_append.mp hx with hx | hx
  · exact .inl hx
  · exact .inr (List.mem_singleton.mp hx)
theorem len_dropLast {l : List Int} {y : Int} (h : l.getLast? = some y) : l.dropLast.length + 1 = l.length := by
  have hne : l ≠ [] := fun z => by rw [z] at h; cases h
  have := List.length_pos_iff.mpr hne
  rw [List.length_dropLast]; omega
theorem reach_end (M : Mt lies L ab be) (r2 : ∀ l, R l → ∃ u, aget ab l = some u ∧ ∀ l' ∈ L, lies u l' = true → R l') :
    ∀ (n : Nat) (s : RS), RInv lies L ab be R s → RDone lies L s (fun _ => False) → s.wt.length + L.length < n + s.hs.length →
      RInv lies L ab be R (reach lies L ab n s) ∧ RDone lies L (reach lies L ab n s) (fun _ => False) ∧ (reach lies L ab n s).wt = []
  | 0, s, I, D, h => by
    have := nodup_len_le I.hn I.hL; omega
  | n + 1, s, I, D, h => by
    unfold reach
    cases e : s.wt.getLast? with
    | none => exact ⟨I, D, List.getLast?_eq_none_iff.mp e⟩
    | some high =>
      simp only
      have hw : high ∈ s.wt := List.mem_of_getLast? e
      have hh := I.wh high hw
      have sub : ∀ x ∈ s.wt.dropLast, x ∈ s.wt := fun x hx => List.dropLast_subset _ hx
      have I1 : RInv lies L ab be R ⟨s.hs, s.ls, s.wt.dropLast⟩ := ⟨I.bot, I.hL, I.hn, I.lL, I.ln, fun x hx => I.wh x (sub x hx), I.low, I.hi⟩
      have D1 : RDone lies L ⟨s.hs, s.ls, s.wt.dropLast⟩ (· = high) := fun x hx hwx he l hl hy => D x hx (fun z => (mem_dropLast_or e z).elim hwx he) (fun z => z) l hl hy
      obtain ⟨a1, a2, a3, a4, a5, a6⟩ := reachIn_end M r2 high L (fun _ h => h) ⟨s.hs, s.ls, s.wt.dropLast⟩ hh I1 D1
      have hl := len_dropLast e
      simp only at a5
      refine reach_end M r2 n _ a1 (fun x hx hwx _ l hl hy => ?_) (by omega)
      by_cases q : x = high
      · rw [q] at hy; exact a4 l hl hy
      · exact a2 x hx hwx q l hl hy
theorem reachAll_end (P : Po lies L) (M : Mt lies L ab be) (r1 : ∀ h ∈ L, aget be h = none → ∀ l ∈ L, lies h l = true → R l)
    (r2 : ∀ l, R l → ∃ u, aget ab l = some u ∧ ∀ l' ∈ L, lies u l' = true → R l') :
    RInv lies L ab be R (reachAll lies L ab be) ∧ RDone lies L (reachAll lies L ab be) (fun _ => False) ∧ (reachAll lies L ab be).wt = [] := by
  unfold reachAll
  refine reach_end M r2 _ _ ⟨fun b hb => hb, fun h hh => (mem_bots.mp hh).1, bots_nd P, fun l hl => (nomatch hl), List.nodup_nil, fun h hh => hh, fun l hl => (nomatch hl), fun h hh => r1 h (mem_bots.mp hh).1 (mem_bots.mp hh).2⟩ (fun h hh hw => absurd hh hw) ?_
  simp only; omega
theorem free_end (P : Po lies L) (M : Mt lies L ab be) (N : NoAug lies L ab be) : Anti lies (free lies L ab be) ∧ (free lies L ab be).length = (bots L be).length := by
  obtain ⟨R, r1, r2⟩ := N
  obtain ⟨I, D, e⟩ := reachAll_end P M r1 r2
  exact closed_free (R := fun x => x ∈ (reachAll lies L ab be).ls) (T := fun x => x ∈ (reachAll lies L ab be).hs) P M (fun b hb hn => I.bot b (mem_bots.mpr ⟨hb, hn⟩)) (fun l hl => (I.low l hl).2)
    fun x _ hx l hl hy => D x hx (by rw [e]; simp) (fun z => z) l hl hy
theorem free_sub : List.Sublist (free lies L ab be) L := List.filter_sublist
end
end FL

/-! Fewladders, the mathematics 4: the hall's state; put and take keep it good; what the law keeps beside it. -/
namespace FL

structure HS where
  below : List (Int × Nat)
  told : Nat
  linked : List Int
  ab : List (Int × Int)
  be : List (Int × Int)

def liesB (B : List (Int × Nat)) (a b : Int) : Bool := ((aget B a).getD 0).testBit b.toNat
abbrev HS.lies (s : HS) : Int → Int → Bool := liesB s.below
def HS.empty : HS := ⟨[], 0, [], [], []⟩
def marksOf (B : List (Int × Nat)) (some : List Int) : Nat := some.foldl (fun m o => m ||| 2 ^ o.toNat ||| (aget B o).getD 0) 0
def clearBit (m : Nat) (t : Int) : Nat := if m.testBit t.toNat = true then m ^^^ 2 ^ t.toNat else m
def HS.put (s : HS) (some : List Int) : Row × HS :=
  let B := aput s.below s.told (marksOf s.below some)
  let L := s.linked ++ [(s.told : Int)]
  let r := joined (liesB B) L s.ab s.be
  (r.1, ⟨B, s.told + 1, L, r.2.1, r.2.2⟩)
def dropA (ab be : List (Int × Int)) (one : Int) : List (Int × Int) × List (Int × Int) :=
  let be1 := adel be one
  let ab1 := adel ab one
  let ab2 := match aget be one with
    | some l => adel ab1 l
    | none => ab1
  let be2 := match aget ab one with
    | some h => adel be1 h
    | none => be1
  match aget be one, aget ab one with
  | some l, some h => (aput ab2 l h, aput be2 h l)
  | _, _ => (ab2, be2)
def takeB (B : List (Int × Nat)) (one : Int) : List (Int × Nat) := (adel B one).map fun p => (p.1, clearBit p.2 one)
def HS.take (s : HS) (one : Int) : Row × HS :=
  let B := takeB s.below one
  let L := s.linked.filter fun x => decide (x ≠ one)
  let d := dropA s.ab s.be one
  let r := joined (liesB B) L d.1 d.2
  (r.1, ⟨B, s.told, L, r.2.1, r.2.2⟩)

/-! ### marks -/
theorem marksFold (B : List (Int × Nat)) (n : Nat) : ∀ (some : List Int) (m : Nat), (some.foldl (fun m o => m ||| 2 ^ o.toNat ||| (aget B o).getD 0) m).testBit n = (m.testBit n || some.any fun o => decide (o.toNat = n) || ((aget B o).getD 0).testBit n)
  | [], m => by simp
  | o :: r, m => by
    rw [List.foldl_cons, marksFold B n r, List.any_cons, Nat.testBit_or, Nat.testBit_or, Nat.testBit_two_pow]
    simp only [Bool.or_assoc]
theorem marks_bit (B : List (Int × Nat)) (some : List Int) (n : Nat) : (marksOf B some).testBit n = some.any fun o => decide (o.toNat = n) || ((aget B o).getD 0).testBit n := by
  unfold marksOf
  rw [marksFold, Nat.zero_testBit, Bool.false_or]
theorem clear_bit (m : Nat) (t : Int) (n : Nat) : (clearBit m t).testBit n = (m.testBit n && decide (n ≠ t.toNat)) := by
  unfold clearBit
  by_cases e : n = t.toNat
  · subst e
    split
    · rename_i h
      rw [Nat.testBit_xor, Nat.testBit_two_pow, h]; simp
    · rename_i h
      simp at h; simp [h]
  · split
    · rw [Nat.testBit_xor, Nat.testBit_two_pow, decide_eq_false (fun z => e z.symm)]; simp [e]
    · simp [e]
theorem aget_map (B : List (Int × Nat)) (f : Nat → Nat) (k : Int) : aget (B.map fun p => (p.1, f p.2)) k = (aget B k).map f := by
  induction B with
  | nil => rfl
  | cons p r ih =>
    rw [List.map_cons, aget_cons, aget_cons, ih]
    by_cases e : p.1 = k <;> simp [e]

/-! ### what holds between two deeds -/
structure Good (s : HS) : Prop where
  keys : s.below.map (·.1) = s.linked
  po : Po s.lies s.linked
  rng : ∀ x ∈ s.linked, 0 ≤ x ∧ x < s.told
  mlt : ∀ a m, aget s.below a = some m → ∀ n, m.testBit n = true → (n : Int) < a
  mt : Mt s.lies s.linked s.ab s.be
  na : NoAug s.lies s.linked s.ab s.be
theorem Good.empty : Good HS.empty where
  keys := rfl
  po := ⟨List.Pairwise.nil, fun a h => (nomatch h), fun a b c h => (nomatch h)⟩
  rng := fun x h => (nomatch h)
  mlt := fun a m h => by simp [HS.empty, aget_nil] at h
  mt := Mt.empty _ _
  na := ⟨fun _ => False, fun h hh => (nomatch hh), fun l hl => hl.elim⟩
theorem Good.mem (G : Good s) {x : Int} (h : x ∈ s.linked) : ∃ m, aget s.below x = some m := by
  rw [← G.keys, ← aget_isSome_iff] at h
  exact Option.isSome_iff_exists.mp h

theorem lies_lt {B : List (Int × Nat)} (mlt : ∀ a m, aget B a = some m → ∀ n, m.testBit n = true → (n : Int) < a) {a b : Int} (h : liesB B a b = true) : b < a := by
  unfold liesB at h
  cases e : aget B a with
  | none => rw [e] at h; simp at h
  | some m =>
    rw [e] at h
    have := mlt a m e b.toNat h
    omega

/-! ### put -/
section
variable {s : HS} {some : List Int}
theorem put_lies_old (G : Good s) (hs : ∀ o ∈ some, o ∈ s.linked) {a : Int} (ha : a ≠ (s.told : Int)) (b : Int) : (s.put some).2.lies a b = s.lies a b := by
  show liesB (aput s.below s.told (marksOf s.below some)) a b = liesB s.below a b
  unfold liesB
  rw [aget_aput, if_neg ha]
theorem put_lies_new (G : Good s) (hs : ∀ o ∈ some, o ∈ s.linked) {b : Int} (hb : 0 ≤ b) : (s.put some).2.lies s.told b = true ↔ b ∈ some ∨ ∃ o ∈ some, s.lies o b = true := by
  show liesB (aput s.below s.told (marksOf s.below some)) s.told b = true ↔ _
  unfold liesB
  rw [aget_aput, if_pos rfl, Option.getD_some, marks_bit, List.any_eq_true]
  constructor
  · rintro ⟨o, ho, h⟩
    rw [Bool.or_eq_true] at h
    rcases h with h | h
    · have h := of_decide_eq_true h
      have := (G.rng o (hs o ho)).1
      left
      have : o = b := by omega
      rw [← this]; exact ho
    · exact .inr ⟨o, ho, h⟩
  · rintro (h | ⟨o, ho, h⟩)
    · exact ⟨b, h, by simp⟩
    · exact ⟨o, ho, by rw [Bool.or_eq_true]; exact .inr h⟩
theorem told_new (G : Good s) : (s.told : Int) ∉ s.linked := fun h => by have := (G.rng _ h).2; omega
theorem put_keys (G : Good s) : (s.put some).2.below.map (·.1) = s.linked ++ [(s.told : Int)] := by
  show (aput s.below s.told (marksOf s.below some)).map (·.1) = _
  rw [aput_new _ (aget_none_iff.mpr (by rw [G.keys]; exact told_new G)), List.map_append, G.keys]
  rfl
theorem put_mlt (G : Good s) (hs : ∀ o ∈ some, o ∈ s.linked) : ∀ a m, aget (s.put some).2.below a = .some m → ∀ n, m.testBit n = true → (n : Int) < a := by
  intro a m h n hn
  have h : aget (aput s.below s.told (marksOf s.below some)) a = .some m := h
  rw [aget_aput] at h
  by_cases e : a = (s.told : Int)
  · rw [if_pos e] at h
    cases h
    rw [marks_bit, List.any_eq_true] at hn
    obtain ⟨o, ho, h⟩ := hn
    have ho2 := G.rng o (hs o ho)
    rw [Bool.or_eq_true] at h
    rcases h with h | h
    · have h := of_decide_eq_true h
      omega
    · obtain ⟨m', hm⟩ := G.mem (hs o ho)
      rw [hm] at h
      have := G.mlt o m' hm n h
      omega
  · rw [if_neg e] at h
    exact G.mlt a m h n hn
theorem put_po (G : Good s) (hs : ∀ o ∈ some, o ∈ s.linked) : Po (s.put some).2.lies (s.linked ++ [(s.told : Int)]) := by
  refine ⟨?_, fun a ha b h => lies_lt (put_mlt G hs) h, fun a b c ha hb hc h1 h2 => ?_⟩
  · rw [List.pairwise_append]
    refine ⟨G.po.srt, List.pairwise_singleton _ _, fun a ha b hb => ?_⟩
    rw [List.mem_singleton.mp hb]
    exact (G.rng a ha).2
  · have hba := lies_lt (put_mlt G hs) h1
    have hcb := lies_lt (put_mlt G hs) h2
    have up : ∀ x ∈ s.linked ++ [(s.told : Int)], x ≤ s.told := fun x hx => by
      rcases List.mem_append.mp hx with hx | hx
      · exact Int.le_of_lt (G.rng x hx).2
      · rw [List.mem_singleton.mp hx]; exact Int.le_refl _
    have old : ∀ x ∈ s.linked ++ [(s.told : Int)], x ≠ s.told → x ∈ s.linked := fun x hx hne => (List.mem_append.mp hx).resolve_right fun z => hne (List.mem_singleton.mp z)
    have hbL : b ∈ s.linked := old b hb (by have := up a ha; omega)
    have hcL : c ∈ s.linked := old c hc (by have := up a ha; omega)
    rw [put_lies_old G hs (by have := (G.rng b hbL).2; omega)] at h2
    by_cases e : a = (s.told : Int)
    · rw [e] at h1 ⊢
      rw [put_lies_new G hs (G.rng b hbL).1] at h1
      rw [put_lies_new G hs (G.rng c hcL).1]
      rcases h1 with h1 | ⟨o, ho, h1⟩
      · exact .inr ⟨b, h1, h2⟩
      · exact .inr ⟨o, ho, G.po.tr o b c (hs o ho) hbL hcL h1 h2⟩
    · rw [put_lies_old G hs e] at h1 ⊢
      exact G.po.tr a b c (old a ha e) hbL hcL h1 h2
theorem put_mt0 (G : Good s) (hs : ∀ o ∈ some, o ∈ s.linked) : Mt (s.put some).2.lies (s.linked ++ [(s.told : Int)]) s.ab s.be := by
  refine ⟨G.mt.nda, G.mt.ndb, G.mt.inv, fun l h e => ?_⟩
  obtain ⟨a, b, c⟩ := G.mt.inL l h e
  refine ⟨List.mem_append_left _ a, List.mem_append_left _ b, ?_⟩
  rw [put_lies_old G hs fun z => told_new G (z ▸ b)]
  exact c
theorem put_bots (G : Good s) : bots (s.linked ++ [(s.told : Int)]) s.be = bots s.linked s.be ++ [(s.told : Int)] := by
  unfold bots
  rw [List.filter_append]
  congr 1
  rw [List.filter_cons, if_pos]
  · rfl
  · cases e : aget s.be s.told with
    | none => rfl
    | some l => exact absurd (G.mt.inL _ _ ((G.mt.inv _ _).mpr e)).2.1 (told_new G)
theorem put_good (G : Good s) (hs : ∀ o ∈ some, o ∈ s.linked) : Good (s.put some).2 := by
  have P := put_po G hs
  have M0 := put_mt0 G hs
  have M := joined_mt P M0
  refine ⟨put_keys G, P, fun x hx => ?_, put_mlt G hs, M, ?_⟩
  · have hx : x ∈ s.linked ++ [(s.told : Int)] := hx
    show 0 ≤ x ∧ x < ((s.told + 1 : Nat) : Int)
    rcases List.mem_append.mp hx with hx | hx
    · have := G.rng x hx; omega
    · rw [List.mem_singleton.mp hx]; omega
  · show NoAug (s.put some).2.lies (s.linked ++ [(s.told : Int)]) (joined (s.put some).2.lies (s.linked ++ [(s.told : Int)]) s.ab s.be).2.1 (joined (s.put some).2.lies (s.linked ++ [(s.told : Int)]) s.ab s.be).2.2
    by_cases h : (joined (s.put some).2.lies (s.linked ++ [(s.told : Int)]) s.ab s.be).1 = []
    · obtain ⟨e, N⟩ := joined_none h
      rw [e]; exact N
    · obtain ⟨_, hb⟩ := joined_some P M0 h
      obtain ⟨A, a1, a2, a3, a4⟩ := G.na.cert G.po G.mt
      refine NoAug.of_cert P M a1 (fun x hx => List.mem_append_left _ (a2 x hx)) (fun x hx y hy => ?_) ?_
      · rw [put_lies_old G hs fun z => told_new G (z ▸ a2 x hx)]
        exact a3 x hx y hy
      · rw [put_bots G, List.length_append, List.length_singleton] at hb
        omega
end

/-! ### take -/
section
variable {s : HS} {one : Int}
theorem dropA_ab {ab be : List (Int × Int)} (h1 : ∀ l h, aget ab l = some h ↔ aget be h = some l) (h2 : ∀ l, aget ab l ≠ some l) (l : Int) :
    aget (dropA ab be one).1 l = if l = one then none else if aget ab l = some one then aget ab one else aget ab l := by
  unfold dropA
  cases eb : aget be one with
  | none =>
    have no : aget ab l ≠ some one := fun z => by rw [h1, eb] at z; cases z
    simp only
    rw [aget_adel, if_neg no]
  | some l0 =>
    have e0 := (h1 l0 one).mpr eb
    have ne : l0 ≠ one := fun z => h2 one (by rw [z] at e0; exact e0)
    cases ea : aget ab one with
    | none =>
      simp only
      rw [aget_adel, aget_adel]
      by_cases q : l = one
      · subst q; simp
      · rw [if_neg q, if_neg q]
        by_cases q2 : l = l0
        · subst q2; simp [e0]
        · rw [if_neg q2, if_neg]
          intro z
          rw [h1, eb] at z
          exact q2 (Option.some.inj z).symm
    | some h =>
      simp only
      rw [aget_aput, aget_adel, aget_adel]
      by_cases q2 : l = l0
      · subst q2
        rw [if_pos rfl, if_neg ne, if_pos e0]
      · rw [if_neg q2, if_neg q2]
        by_cases q : l = one
        · simp [q]
        · rw [if_neg q, if_neg q, if_neg]
          intro z
          rw [h1, eb] at z
          exact q2 (Option.some.inj z).symm
theorem dropA_swap (ab be : List (Int × Int)) (one : Int) : dropA be ab one = ((dropA ab be one).2, (dropA ab be one).1) := by
  unfold dropA
  cases aget be one <;> cases aget ab one <;> rfl
theorem dropA_be {ab be : List (Int × Int)} (h1 : ∀ l h, aget ab l = some h ↔ aget be h = some l) (h2 : ∀ l, aget ab l ≠ some l) (h : Int) :
    aget (dropA ab be one).2 h = if h = one then none else if aget be h = some one then aget be one else aget be h := by
  have := dropA_ab (ab := be) (be := ab) (one := one) (fun l h => (h1 h l).symm) (fun l z => h2 l ((h1 l l).mpr z)) h
  rw [dropA_swap] at this
  exact this
theorem dropA_nd {ab be : List (Int × Int)} (h1 : (ab.map (·.1)).Nodup) (h2 : (be.map (·.1)).Nodup) : ((dropA ab be one).1.map (·.1)).Nodup ∧ ((dropA ab be one).2.map (·.1)).Nodup := by
  unfold dropA
  cases aget be one <;> cases aget ab one <;> simp only
  · exact ⟨adel_nodup h1, adel_nodup h2⟩
  · exact ⟨adel_nodup h1, adel_nodup (adel_nodup h2)⟩
  · exact ⟨adel_nodup (adel_nodup h1), adel_nodup h2⟩
  · exact ⟨aput_nodup (adel_nodup (adel_nodup h1)), aput_nodup (adel_nodup (adel_nodup h2))⟩

theorem Good.irr (G : Good s) (l : Int) : aget s.ab l ≠ some l := fun z => by
  obtain ⟨a, b, c⟩ := G.mt.inL _ _ z
  have := G.po.lt l b l c
  omega
theorem takeB_get {B : List (Int × Nat)} (k : Int) : aget (takeB B one) k = if k = one then none else (aget B k).map fun m => clearBit m one := by
  unfold takeB
  rw [aget_map (adel B one) (fun m => clearBit m one), aget_adel]
  by_cases e : k = one <;> simp [e]
theorem take_lies (G : Good s) {a b : Int} (ha : a ∈ s.linked) (ha1 : a ≠ one) (hb : b ∈ s.linked) (hb1 : b ≠ one) (h1 : 0 ≤ one) : (s.take one).2.lies a b = s.lies a b := by
  show liesB (takeB s.below one) a b = liesB s.below a b
  unfold liesB
  rw [takeB_get, if_neg ha1]
  obtain ⟨m, hm⟩ := G.mem ha
  rw [hm, Option.map_some, Option.getD_some, Option.getD_some, clear_bit]
  have := (G.rng b hb).1
  have : b.toNat ≠ one.toNat := by omega
  simp [this]
theorem mem_take {x : Int} : x ∈ (s.take one).2.linked ↔ x ∈ s.linked ∧ x ≠ one := by
  show x ∈ s.linked.filter (fun x => decide (x ≠ one)) ↔ _
  rw [List.mem_filter, decide_eq_true_iff]
theorem take_keys (G : Good s) : (s.take one).2.below.map (·.1) = (s.take one).2.linked := by
  show (takeB s.below one).map (·.1) = s.linked.filter fun x => decide (x ≠ one)
  unfold takeB
  rw [List.map_map, ← G.keys, ← adel_keys]
  rfl
theorem take_mlt (G : Good s) : ∀ a m, aget (s.take one).2.below a = some m → ∀ n, m.testBit n = true → (n : Int) < a := by
  intro a m h n hn
  have h : aget (takeB s.below one) a = some m := h
  rw [takeB_get] at h
  by_cases e : a = one
  · rw [if_pos e] at h; cases h
  · rw [if_neg e] at h
    obtain ⟨m', hm, rfl⟩ := Option.map_eq_some_iff.mp h
    rw [clear_bit, Bool.and_eq_true] at hn
    exact G.mlt a m' hm n hn.1
theorem take_po (G : Good s) (h1 : 0 ≤ one) : Po (s.take one).2.lies (s.take one).2.linked := by
  refine ⟨G.po.srt.sublist List.filter_sublist, fun a _ b h => lies_lt (take_mlt G) h, fun a b c ha hb hc g1 g2 => ?_⟩
  obtain ⟨a1, a2⟩ := mem_take.mp ha
  obtain ⟨b1, b2⟩ := mem_take.mp hb
  obtain ⟨c1, c2⟩ := mem_take.mp hc
  rw [take_lies G a1 a2 b1 b2 h1] at g1
  rw [take_lies G b1 b2 c1 c2 h1] at g2
  rw [take_lies G a1 a2 c1 c2 h1]
  exact G.po.tr a b c a1 b1 c1 g1 g2
theorem drop_fwd {f g : Int → Option Int} (inv : ∀ l h, f l = some h ↔ g h = some l) (irr : ∀ l, f l ≠ some l) {l h : Int}
    (e : (if l = one then none else if f l = some one then f one else f l) = some h) : (if h = one then none else if g h = some one then g one else g h) = some l := by
  by_cases q : l = one
  · rw [if_pos q] at e; cases e
  · rw [if_neg q] at e
    by_cases q2 : f l = some one
    · rw [if_pos q2] at e
      have hne : h ≠ one := fun z => irr one (z ▸ e)
      rw [if_neg hne, if_pos ((inv one h).mp e)]
      exact (inv l one).mp q2
    · rw [if_neg q2] at e
      have hne : h ≠ one := fun z => q2 (z ▸ e)
      have ge := (inv l h).mp e
      rw [if_neg hne, if_neg, ge]
      rw [ge]
      exact fun z => q (Option.some.inj z)
theorem take_mt0 (G : Good s) (h1 : 0 ≤ one) : Mt (s.take one).2.lies (s.take one).2.linked (dropA s.ab s.be one).1 (dropA s.ab s.be one).2 := by
  have ea := dropA_ab (one := one) G.mt.inv G.irr
  have eb := dropA_be (one := one) G.mt.inv G.irr
  refine ⟨(dropA_nd G.mt.nda G.mt.ndb).1, (dropA_nd G.mt.nda G.mt.ndb).2, fun l h => ?_, fun l h e => ?_⟩
  · rw [ea, eb]
    exact ⟨drop_fwd G.mt.inv G.irr, drop_fwd (fun l h => (G.mt.inv h l).symm) (fun l z => G.irr l ((G.mt.inv l l).mpr z))⟩
  · rw [ea] at e
    by_cases q : l = one
    · rw [if_pos q] at e; cases e
    · rw [if_neg q] at e
      by_cases q2 : aget s.ab l = some one
      · rw [if_pos q2] at e
        obtain ⟨l1, o1, c1⟩ := G.mt.inL _ _ q2
        obtain ⟨_, h3, c2⟩ := G.mt.inL _ _ e
        have hne : h ≠ one := fun z => G.irr one (z ▸ e)
        refine ⟨mem_take.mpr ⟨l1, q⟩, mem_take.mpr ⟨h3, hne⟩, ?_⟩
        rw [take_lies G h3 hne l1 q h1]
        exact G.po.tr h one l h3 o1 l1 c2 c1
      · rw [if_neg q2] at e
        obtain ⟨l1, h3, c1⟩ := G.mt.inL _ _ e
        have hne : h ≠ one := fun z => q2 (z ▸ e)
        refine ⟨mem_take.mpr ⟨l1, q⟩, mem_take.mpr ⟨h3, hne⟩, ?_⟩
        rw [take_lies G h3 hne l1 q h1]
        exact c1
theorem take_bots (G : Good s) : (bots (s.take one).2.linked (dropA s.ab s.be one).2).length ≤ (bots s.linked s.be).length := by
  have eb := dropA_be (one := one) G.mt.inv G.irr
  have key : ((bots (s.take one).2.linked (dropA s.ab s.be one).2).map fun x => if aget s.be x = some one then one else x).length ≤ (bots s.linked s.be).length := by
    refine nodup_len_le ?_ fun y hy => ?_
    · have P0 : (bots (s.take one).2.linked (dropA s.ab s.be one).2).Nodup := (G.po.nd.sublist List.filter_sublist).sublist List.filter_sublist
      refine List.pairwise_map.mpr (P0.imp_of_mem fun {x y} hx hy ne e => ?_)
      have hx1 := (mem_take.mp (mem_bots.mp hx).1).2
      have hy1 := (mem_take.mp (mem_bots.mp hy).1).2
      by_cases qx : aget s.be x = some one
      · rw [if_pos qx] at e
        by_cases qy : aget s.be y = some one
        · have a := (G.mt.inv one x).mpr qx
          have b := (G.mt.inv one y).mpr qy
          rw [a] at b; exact ne (Option.some.inj b)
        · rw [if_neg qy] at e; exact hy1 e.symm
      · rw [if_neg qx] at e
        by_cases qy : aget s.be y = some one
        · rw [if_pos qy] at e; exact hx1 e
        · rw [if_neg qy] at e; exact ne e
    · obtain ⟨x, hx, rfl⟩ := List.mem_map.mp hy
      obtain ⟨h1, h2⟩ := mem_bots.mp hx
      obtain ⟨h3, h4⟩ := mem_take.mp h1
      rw [eb, if_neg h4] at h2
      by_cases q : aget s.be x = some one
      · rw [if_pos q] at h2 ⊢
        exact mem_bots.mpr ⟨(G.mt.inL _ _ ((G.mt.inv one x).mpr q)).1, h2⟩
      · rw [if_neg q] at h2 ⊢
        exact mem_bots.mpr ⟨h3, h2⟩
  rwa [List.length_map] at key
theorem take_good (G : Good s) (h1 : 0 ≤ one) : Good (s.take one).2 := by
  have P := take_po G h1
  have M0 := take_mt0 G h1
  have M := joined_mt P M0
  refine ⟨take_keys G, P, fun x hx => G.rng x (mem_take.mp hx).1, take_mlt G, M, ?_⟩
  show NoAug (s.take one).2.lies (s.take one).2.linked (joined (s.take one).2.lies (s.take one).2.linked (dropA s.ab s.be one).1 (dropA s.ab s.be one).2).2.1 (joined (s.take one).2.lies (s.take one).2.linked (dropA s.ab s.be one).1 (dropA s.ab s.be one).2).2.2
  by_cases h : (joined (s.take one).2.lies (s.take one).2.linked (dropA s.ab s.be one).1 (dropA s.ab s.be one).2).1 = []
  · obtain ⟨e, N⟩ := joined_none h
    rw [e]; exact N
  · obtain ⟨_, hb⟩ := joined_some P M0 h
    obtain ⟨A, a1, a2, a3, a4⟩ := G.na.cert G.po G.mt
    have hbt := take_bots (one := one) G
    refine NoAug.of_cert (A := A.erase one) P M (a1.erase one) (fun x hx => ?_) (fun x hx y hy => ?_) ?_
    · obtain ⟨q1, q2⟩ := (List.Nodup.mem_erase_iff a1).mp hx
      exact mem_take.mpr ⟨a2 x q2, q1⟩
    · obtain ⟨x1, x2⟩ := (List.Nodup.mem_erase_iff a1).mp hx
      obtain ⟨y1, y2⟩ := (List.Nodup.mem_erase_iff a1).mp hy
      rw [take_lies G (a2 x x2) x1 (a2 y y2) y1 h1]
      exact a3 x x2 y y2
    · have : A.length ≤ (A.erase one).length + 1 := by
        rw [List.length_erase]; split <;> omega
      omega
end

/-! ### what the law keeps beside it: for each thing all that it lies above -/
def HS.law (s : HS) : List (Int × List Int) := s.linked.map fun a => (a, s.linked.filter fun b => s.lies a b)
theorem law_get {s : HS} (G : Good s) {a : Int} (ha : a ∈ s.linked) : aget s.law a = some (s.linked.filter fun b => s.lies a b) := by
  unfold HS.law
  have : ∀ l : List Int, a ∈ l → aget (l.map fun a => (a, s.linked.filter fun b => s.lies a b)) a = some (s.linked.filter fun b => s.lies a b) := by
    intro l
    induction l with
    | nil => intro h; cases h
    | cons x r ih =>
      intro h
      rw [List.map_cons, aget_cons]
      by_cases e : x = a
      · rw [if_pos e, e]
      · rw [if_neg e]; exact ih ((List.mem_cons.mp h).resolve_left fun z => e z.symm)
  exact this _ ha
theorem law_keys (s : HS) : s.law.map (·.1) = s.linked := by
  unfold HS.law
  rw [List.map_map]
  exact List.map_id _
/-- two rising lists of the same things are one -/
theorem srt_ext : ∀ {l m : List Int}, l.Pairwise (· < ·) → m.Pairwise (· < ·) → (∀ x, x ∈ l ↔ x ∈ m) → l = m
  | [], [], _, _, _ => rfl
  | [], b :: m, _, _, h => by have := (h b).mpr List.mem_cons_self; cases this
  | a :: l, [], _, _, h => by have := (h a).mp List.mem_cons_self; cases this
  | a :: l, b :: m, h1, h2, h => by
    obtain ⟨a1, a2⟩ := List.pairwise_cons.mp h1
    obtain ⟨b1, b2⟩ := List.pairwise_cons.mp h2
    have e : a = b := by
      rcases List.mem_cons.mp ((h a).mp List.mem_cons_self) with e | e
      · exact e
      · rcases List.mem_cons.mp ((h b).mpr List.mem_cons_self) with e' | e'
        · exact e'.symm
        · have := a1 b e'; have := b1 a e; omega
    subst e
    rw [srt_ext a2 b2 fun x => ⟨fun hx => ?_, fun hx => ?_⟩]
    · rcases List.mem_cons.mp ((h x).mp (List.mem_cons_of_mem _ hx)) with e | e
      · have := a1 x hx; omega
      · exact e
    · rcases List.mem_cons.mp ((h x).mpr (List.mem_cons_of_mem _ hx)) with e | e
      · have := b1 x hx; omega
      · exact e
theorem law_put {s : HS} {some : List Int} (G : Good s) (hs : ∀ o ∈ some, o ∈ s.linked) {m : List Int} (hm : m.Pairwise (· < ·))
    (he : ∀ x, x ∈ m ↔ x ∈ some ∨ ∃ o ∈ some, x ∈ s.linked ∧ s.lies o x = true) : s.law ++ [((s.told : Int), m)] = (s.put some).2.law := by
  show _ = (s.linked ++ [(s.told : Int)]).map _
  rw [List.map_append]
  have low : ∀ a ∈ s.linked ++ [(s.told : Int)], (s.put some).2.lies a s.told = false := fun a ha => by
    cases e : (s.put some).2.lies a s.told with
    | false => rfl
    | true =>
      have := lies_lt (put_mlt G hs) e
      rcases List.mem_append.mp ha with h | h
      · have := (G.rng a h).2; omega
      · have := List.mem_singleton.mp h; omega
  congr 1
  · unfold HS.law
    refine List.map_congr_left fun a ha => ?_
    have hne : a ≠ (s.told : Int) := fun z => told_new G (z ▸ ha)
    show _ = (a, (s.linked ++ [(s.told : Int)]).filter fun b => (s.put some).2.lies a b)
    rw [List.filter_append, List.filter_cons, if_neg (by rw [low a (List.mem_append_left _ ha)]; exact Bool.false_ne_true), List.filter_nil, List.append_nil]
    congr 1
    exact List.filter_congr fun b _ => (put_lies_old G hs hne b).symm
  · show [((s.told : Int), m)] = [((s.told : Int), (s.linked ++ [(s.told : Int)]).filter fun b => (s.put some).2.lies s.told b)]
    congr 2
    refine srt_ext hm ((put_po G hs).srt.sublist List.filter_sublist) fun x => ?_
    rw [he, List.mem_filter]
    constructor
    · intro h
      have hx : x ∈ s.linked := by
        rcases h with h | ⟨o, _, h, _⟩
        · exact hs x h
        · exact h
      refine ⟨List.mem_append_left _ hx, (put_lies_new G hs (G.rng x hx).1).mpr ?_⟩
      rcases h with h | ⟨o, ho, _, h⟩
      · exact .inl h
      · exact .inr ⟨o, ho, h⟩
    · rintro ⟨h1, h2⟩
      have hx : x ∈ s.linked := (List.mem_append.mp h1).resolve_right fun z => by
        rw [List.mem_singleton.mp z, low _ (List.mem_append_right _ List.mem_cons_self)] at h2; cases h2
      rcases (put_lies_new G hs (G.rng x hx).1).mp h2 with h | ⟨o, ho, h⟩
      · exact .inl h
      · exact .inr ⟨o, ho, hx, h⟩
theorem law_take {s : HS} {one : Int} (G : Good s) (h1 : 0 ≤ one) : (adel s.law one).map (fun p => (p.1, p.2.filter fun b => decide (b ≠ one))) = (s.take one).2.law := by
  unfold HS.law adel
  rw [List.filter_map, List.map_map]
  show _ = (s.linked.filter fun x => decide (x ≠ one)).map _
  refine List.map_congr_left fun a ha => ?_
  obtain ⟨a1, a2⟩ := List.mem_filter.mp ha
  have a2 : a ≠ one := by simpa using a2
  show (a, (s.linked.filter fun b => s.lies a b).filter fun b => decide (b ≠ one)) = (a, (s.linked.filter fun x => decide (x ≠ one)).filter fun b => (s.take one).2.lies a b)
  rw [List.filter_filter, List.filter_filter]
  congr 1
  refine List.filter_congr fun b hb => ?_
  by_cases e : b = one
  · simp [e]
  · rw [take_lies G a1 a2 hb e h1]
    simp [e]
end FL

set_option maxHeartbeats 1000000
/-! Floors: how high a thing stands. -/
namespace FL
section
variable {lies : Int → Int → Bool} {L : List Int}
def maxi : List Nat → Nat
  | [] => 0
  | a :: l => max a (maxi l)
theorem maxi_le {l : List Nat} {y : Nat} (h : y ∈ l) : y ≤ maxi l := by
  induction l with
  | nil => cases h
  | cons a r ih =>
    unfold maxi
    rcases List.mem_cons.mp h with rfl | h
    · exact Nat.le_max_left _ _
    · exact Nat.le_trans (ih h) (Nat.le_max_right _ _)
theorem maxi_mem : ∀ {l : List Nat}, 0 < maxi l → maxi l ∈ l
  | [], h => absurd h (by unfold maxi; omega)
  | a :: r, h => by
    unfold maxi at h ⊢
    by_cases q : maxi r ≤ a
    · rw [Nat.max_eq_left q]; exact List.mem_cons_self
    · rw [Nat.max_eq_right (by omega)]
      exact List.mem_cons_of_mem _ (maxi_mem (by omega))
theorem maxi_lub {l : List Nat} {m : Nat} (h : ∀ y ∈ l, y ≤ m) : maxi l ≤ m := by
  induction l with
  | nil => exact Nat.zero_le _
  | cons a r ih =>
    unfold maxi
    exact Nat.max_le.mpr ⟨h a List.mem_cons_self, ih fun y hy => h y (List.mem_cons_of_mem _ hy)⟩
theorem maxi_append (l m : List Nat) : maxi (l ++ m) = max (maxi l) (maxi m) := by
  induction l with
  | nil => show maxi m = max 0 (maxi m); omega
  | cons a r ih =>
    show max a (maxi (r ++ m)) = max (max a (maxi r)) (maxi m)
    rw [ih]; omega
def flo (lies : Int → Int → Bool) (L : List Int) : Nat → Int → Nat
  | 0, _ => 0
  | n + 1, x => maxi ((L.filter (lies x)).map fun y => flo lies L n y + 1)
def under (L : List Int) (x : Int) : Nat := (L.filter fun y => decide (y < x)).length
theorem under_lt {x y : Int} (hy : y ∈ L) (h : y < x) : under L y < under L x := by
  unfold under
  have e : L.filter (fun z => decide (z < y)) = (L.filter fun z => decide (z < x)).filter fun z => decide (z < y) := by
    rw [List.filter_filter]
    refine List.filter_congr fun z _ => ?_
    by_cases q : z < y
    · rw [decide_eq_true q, decide_eq_true (by omega : z < x)]; rfl
    · rw [decide_eq_false q]; rfl
  rw [e]
  have m : y ∈ L.filter fun z => decide (z < x) := List.mem_filter.mpr ⟨hy, decide_eq_true h⟩
  refine Nat.lt_of_le_of_ne (List.length_filter_le _ _) fun z => ?_
  have := (List.length_filter_eq_length_iff.mp z) y m
  simp at this
theorem under_le (x : Int) : under L x ≤ L.length := List.length_filter_le _ _
theorem flo_eq (P : Po lies L) : ∀ (n m : Nat) (x : Int), x ∈ L → under L x < n → under L x < m → flo lies L n x = flo lies L m x
  | 0, _, _, _, h, _ => absurd h (by omega)
  | _ + 1, 0, _, _, _, h => absurd h (by omega)
  | n + 1, m + 1, x, hx, h1, h2 => by
    unfold flo
    congr 1
    refine List.map_congr_left fun y hy => ?_
    obtain ⟨m1, m2⟩ := List.mem_filter.mp hy
    have := under_lt m1 (P.lt x hx y m2)
    rw [flo_eq P n m y m1 (by omega) (by omega)]
/-- the floor of a thing -/
def fl (lies : Int → Int → Bool) (L : List Int) (x : Int) : Nat := flo lies L (L.length + 1) x
theorem fl_eq (P : Po lies L) {x : Int} (hx : x ∈ L) : fl lies L x = maxi ((L.filter (lies x)).map fun y => fl lies L y + 1) := by
  show maxi _ = _
  congr 1
  refine List.map_congr_left fun y hy => ?_
  obtain ⟨m1, m2⟩ := List.mem_filter.mp hy
  have h1 := under_lt m1 (P.lt x hx y m2)
  have h2 := under_le (L := L) x
  rw [flo_eq P L.length (L.length + 1) y m1 (by omega) (by omega)]; rfl
theorem max_fl (P : Po lies L) {x : Int} (hx : x ∈ L) {m : Int} (hm : m ∈ ((L.filter (lies x)).map fun y => (fl lies L y : Int)) ++ [-1]) (hmax : ∀ y ∈ ((L.filter (lies x)).map fun y => (fl lies L y : Int)) ++ [-1], y ≤ m) : 1 + m = (fl lies L x : Int) := by
  rw [fl_eq P hx]
  refine Int.le_antisymm ?_ ?_
  · rcases List.mem_append.mp hm with hm | hm
    · obtain ⟨y, hy, rfl⟩ := List.mem_map.mp hm
      have := maxi_le (List.mem_map.mpr ⟨y, hy, rfl⟩ : fl lies L y + 1 ∈ (L.filter (lies x)).map fun y => fl lies L y + 1)
      omega
    · rw [List.mem_singleton.mp hm]; omega
  · have h1 := hmax (-1) (List.mem_append_right _ (List.mem_singleton.mpr rfl))
    by_cases q : maxi ((L.filter (lies x)).map fun y => fl lies L y + 1) = 0
    · rw [q]; omega
    · obtain ⟨y, hy, e⟩ := List.mem_map.mp (maxi_mem (l := (L.filter (lies x)).map fun y => fl lies L y + 1) (by omega))
      have := hmax (fl lies L y : Int) (List.mem_append_left _ (List.mem_map.mpr ⟨y, hy, rfl⟩))
      rw [← e]; omega
theorem fl_lt (P : Po lies L) {x y : Int} (hx : x ∈ L) (hy : y ∈ L) (h : lies x y = true) : fl lies L y < fl lies L x := by
  rw [fl_eq P hx]
  exact maxi_le (List.mem_map.mpr ⟨y, List.mem_filter.mpr ⟨hy, h⟩, rfl⟩)
theorem fl_down (P : Po lies L) {x : Int} (hx : x ∈ L) (h : 0 < fl lies L x) : ∃ y ∈ L, lies x y = true ∧ fl lies L y + 1 = fl lies L x := by
  have h2 := h
  rw [fl_eq P hx] at h2
  obtain ⟨y, hy, e⟩ := List.mem_map.mp (maxi_mem h2)
  obtain ⟨m1, m2⟩ := List.mem_filter.mp hy
  exact ⟨y, m1, m2, by rw [fl_eq P hx]; exact e⟩
/-- how many floors there are of some things -/
def hgt (lies : Int → Int → Bool) (L l : List Int) : Nat := maxi (l.map fun x => fl lies L x + 1)
theorem hgt_lt {l : List Int} {x : Int} (h : x ∈ l) : fl lies L x < hgt lies L l := maxi_le (List.mem_map.mpr ⟨x, h, rfl⟩)
theorem hgt_snoc (l : List Int) (x : Int) : hgt lies L (l ++ [x]) = max (hgt lies L l) (fl lies L x + 1) := by
  unfold hgt
  rw [List.map_append, maxi_append]
  show max _ (max (fl lies L x + 1) 0) = _
  omega
theorem hgt_le (P : Po lies L) : ∀ {l : List Int}, (∀ x ∈ l, x ∈ L) → hgt lies L l ≤ L.length := fun {l} h => by
  refine maxi_lub fun y hy => ?_
  obtain ⟨x, hx, rfl⟩ := List.mem_map.mp hy
  have : ∀ (n : Nat) (x : Int), x ∈ L → under L x ≤ n → fl lies L x ≤ under L x := by
    intro n
    induction n with
    | zero =>
      intro x hx hn
      by_cases q : fl lies L x = 0
      · omega
      · obtain ⟨y, hy, h1, h2⟩ := fl_down P hx (by omega)
        have := under_lt hy (P.lt x hx y h1)
        omega
    | succ n ih =>
      intro x hx hn
      by_cases q : fl lies L x = 0
      · omega
      · obtain ⟨y, hy, h1, h2⟩ := fl_down P hx (by omega)
        have h3 := under_lt hy (P.lt x hx y h1)
        have := ih y hy (by omega)
        omega
  have h1 := this _ x (h x hx) (Nat.le_refl _)
  have h2 : under L x < L.length := by
    refine Nat.lt_of_le_of_ne (under_le x) fun z => ?_
    have := (List.length_filter_eq_length_iff.mp z) x (h x hx)
    simp at this
  omega
/-- the things of one floor; the floors -/
def floorAt (lies : Int → Int → Bool) (L l : List Int) (k : Nat) : List Int := l.filter fun x => decide (fl lies L x = k)
def floors (lies : Int → Int → Bool) (L l : List Int) : List (List Int) := (List.range (hgt lies L l)).map (floorAt lies L l)
theorem floors_len (l : List Int) : (floors lies L l).length = hgt lies L l := by unfold floors; rw [List.length_map, List.length_range]
theorem floors_get {l : List Int} {k : Nat} (h : k < hgt lies L l) : (floors lies L l)[k]? = some (floorAt lies L l k) := by
  unfold floors
  rw [List.getElem?_map, List.getElem?_range h]; rfl
/-- a thing more on its floor -/
theorem floors_snoc (l : List Int) (x : Int) (g : List (List Int)) (h1 : g.length = max (hgt lies L l) (fl lies L x + 1)) (h2 : ∀ k, k < hgt lies L l → g[k]? = some (floorAt lies L l k)) (h3 : ∀ k, hgt lies L l ≤ k → k < g.length → g[k]? = some []) :
    g.set (fl lies L x) ((g.getD (fl lies L x) []) ++ [x]) = floors lies L (l ++ [x]) := by
  have hall : ∀ k, k < g.length → g[k]? = some (floorAt lies L l k) := fun k hk => by
    by_cases q : k < hgt lies L l
    · exact h2 k q
    · rw [h3 k (by omega) hk]
      congr 1
      refine (List.filter_eq_nil_iff.mpr fun y hy => ?_).symm
      have := hgt_lt (lies := lies) (L := L) hy
      simp; omega
  have hf : fl lies L x < g.length := by omega
  refine List.ext_getElem? fun k => ?_
  by_cases hk : k < g.length
  · rw [floors_get (by rw [hgt_snoc]; omega), List.getElem?_set]
    unfold floorAt
    rw [List.filter_append]
    by_cases q : fl lies L x = k
    · subst q
      rw [if_pos rfl, if_pos hf]
      have e : g.getD (fl lies L x) [] = floorAt lies L l (fl lies L x) := by rw [List.getD_eq_getElem?_getD, hall _ hf]; rfl
      rw [e, List.filter_cons, if_pos (by simp)]; rfl
    · rw [if_neg q, hall k hk, List.filter_cons, if_neg (by simp [q]), List.filter_nil, List.append_nil]; rfl
  · rw [List.getElem?_eq_none (by rw [List.length_set]; omega), List.getElem?_eq_none (by rw [floors_len, hgt_snoc]; omega)]
/-! ### by the law's own going -/
theorem law_floor (P : Po lies L) (k : Nat) : (L.filter fun x => decide (k ≤ fl lies L x)).filter (fun x => !((L.filter fun y => lies x y).any fun y => decide (y ∈ L.filter fun z => decide (k ≤ fl lies L z)))) = floorAt lies L L k := by
  unfold floorAt
  rw [List.filter_filter]
  refine List.filter_congr fun x hx => ?_
  by_cases q : fl lies L x = k
  · rw [decide_eq_true q, decide_eq_true (by omega : k ≤ fl lies L x), Bool.and_true]
    rw [Bool.not_eq_true']
    refine List.any_eq_false.mpr fun y hy => ?_
    obtain ⟨m1, m2⟩ := List.mem_filter.mp hy
    have := fl_lt P hx m1 m2
    intro z
    have := (List.mem_filter.mp (of_decide_eq_true z)).2
    simp at this; omega
  · rw [decide_eq_false q]
    by_cases q2 : k ≤ fl lies L x
    · obtain ⟨y, hy, h1, h2⟩ := fl_down P hx (by omega)
      have : ((L.filter fun y => lies x y).any fun y => decide (y ∈ L.filter fun z => decide (k ≤ fl lies L z))) = true :=
        List.any_eq_true.mpr ⟨y, List.mem_filter.mpr ⟨hy, h1⟩, decide_eq_true (List.mem_filter.mpr ⟨hy, by simp; omega⟩)⟩
      rw [this]; rfl
    · rw [decide_eq_false q2, Bool.and_false]
theorem law_left (k : Nat) : (L.filter fun x => decide (k ≤ fl lies L x)).filter (fun x => decide (x ∉ floorAt lies L L k)) = L.filter fun x => decide (k + 1 ≤ fl lies L x) := by
  rw [List.filter_filter]
  refine List.filter_congr fun x hx => ?_
  have : (x ∈ floorAt lies L L k) ↔ fl lies L x = k := by
    unfold floorAt
    rw [List.mem_filter]
    simp [hx]
  rw [Bool.eq_iff_iff]
  simp [this]
  omega
theorem law_done (k : Nat) : (L.filter fun x => decide (k ≤ fl lies L x)) = [] ↔ hgt lies L L ≤ k := by
  constructor
  · intro h
    refine maxi_lub fun y hy => ?_
    obtain ⟨x, hx, rfl⟩ := List.mem_map.mp hy
    have := List.filter_eq_nil_iff.mp h x hx
    simp at this; omega
  · intro h
    refine List.filter_eq_nil_iff.mpr fun x hx => ?_
    have := hgt_lt (lies := lies) (L := L) hx
    simp; omega
theorem law_first : (L.filter fun x => decide (0 ≤ fl lies L x)) = L := List.filter_eq_self.mpr fun x _ => by simp
/-! ### the longest ladder -/
def pick (lies : Int → Int → Bool) (L : List Int) (k : Nat) (acc : List Int) : List Int := (floorAt lies L L k).filter fun x => decide (acc = []) || lies (acc.headD 0) x
def lgF (lies : Int → Int → Bool) (L : List Int) : Nat → List Int → List Int
  | 0, acc => acc
  | k + 1, acc => lgF lies L k ((pick lies L k acc).headD 0 :: acc)
def longest (lies : Int → Int → Bool) (L : List Int) : List Int := lgF lies L (hgt lies L L) []
structure LgOk (lies : Int → Int → Bool) (L : List Int) (k : Nat) (acc : List Int) : Prop where
  len : acc.length + k = hgt lies L L
  at_ : ∀ i x, acc[i]? = some x → x ∈ L ∧ fl lies L x = k + i
  ch : ∀ i x y, acc[i]? = some x → acc[i + 1]? = some y → lies y x = true
theorem LgOk.pick (P : Po lies L) {k : Nat} {acc : List Int} (h : LgOk lies L (k + 1) acc) : ∃ x t, pick lies L k acc = x :: t ∧ LgOk lies L k (x :: acc) := by
  have hne : FL.pick lies L k acc ≠ [] := by
    cases acc with
    | nil =>
      have hl := h.len
      have hm : hgt lies L L ∈ L.map fun x => fl lies L x + 1 := maxi_mem (by unfold hgt at hl; show 0 < maxi _; rw [← hl]; simp)
      obtain ⟨x, hx, e⟩ := List.mem_map.mp hm
      refine List.ne_nil_of_mem (a := x) (List.mem_filter.mpr ⟨List.mem_filter.mpr ⟨hx, ?_⟩, rfl⟩)
      simp at hl ⊢; omega
    | cons a r =>
      obtain ⟨ha, hf⟩ := h.at_ 0 a rfl
      obtain ⟨y, hy, h1, h2⟩ := fl_down P ha (by omega)
      refine List.ne_nil_of_mem (a := y) (List.mem_filter.mpr ⟨List.mem_filter.mpr ⟨hy, ?_⟩, ?_⟩)
      · simp; omega
      · show (decide (a :: r = []) || lies a y) = true
        rw [h1, Bool.or_true]
  obtain ⟨x, t, e⟩ := List.exists_cons_of_ne_nil hne
  refine ⟨x, t, e, ?_⟩
  have hx : x ∈ FL.pick lies L k acc := by rw [e]; exact List.mem_cons_self
  obtain ⟨m1, m2⟩ := List.mem_filter.mp hx
  obtain ⟨m3, m4⟩ := List.mem_filter.mp m1
  refine ⟨by rw [List.length_cons]; have := h.len; omega, fun i y hy => ?_, fun i y z hy hz => ?_⟩
  · cases i with
    | zero =>
      have : x = y := Option.some.inj hy
      subst this
      exact ⟨m3, of_decide_eq_true m4⟩
    | succ i =>
      obtain ⟨q1, q2⟩ := h.at_ i y hy
      exact ⟨q1, by omega⟩
  · cases i with
    | zero =>
      have : x = y := Option.some.inj hy
      subst this
      cases acc with
      | nil => cases hz
      | cons a r =>
        have : a = z := Option.some.inj hz
        subst this
        simpa using m2
    | succ i => exact h.ch i y z hy hz
theorem lgF_ok (P : Po lies L) : ∀ (k : Nat) (acc : List Int), LgOk lies L k acc → LgOk lies L 0 (lgF lies L k acc)
  | 0, _, h => h
  | k + 1, acc, h => by
    obtain ⟨x, t, e, h2⟩ := LgOk.pick P h
    unfold lgF
    rw [e]
    exact lgF_ok P k _ h2
theorem longest_ok (P : Po lies L) : LgOk lies L 0 (longest lies L) :=
  lgF_ok P _ _ ⟨by simp, fun i x h => by simp at h, fun i x y h => by simp at h⟩
end
end FL

set_option maxHeartbeats 1000000
/-! Some things alone: as few ladders, as many free ones. -/
namespace FL
section
variable {lies : Int → Int → Bool} {L l : List Int}
theorem Po.sub (P : Po lies L) (s : l.Pairwise (· < ·)) (h : ∀ x ∈ l, x ∈ L) : Po lies l :=
  ⟨s, fun a ha b hb => P.lt a (h a ha) b hb, fun a b c ha hb hc => P.tr a b c (h a ha) (h b hb) (h c hc)⟩
def jab (lies : Int → Int → Bool) (l : List Int) : List (Int × Int) × List (Int × Int) := joinAll lies l (l.length + 1) [] []
theorem jab_ok (P : Po lies l) : Mt lies l (jab lies l).1 (jab lies l).2 ∧ NoAug lies l (jab lies l).1 (jab lies l).2 :=
  joinAll_end P (l.length + 1) [] [] (Mt.empty lies l) (Nat.lt_succ_of_le (List.length_filter_le _ _))
def partL (lies : Int → Int → Bool) (l : List Int) : List (List Int) := ladders l (jab lies l).1 (jab lies l).2
def partF (lies : Int → Int → Bool) (l : List Int) : List Int := free lies l (jab lies l).1 (jab lies l).2
theorem partF_ok (P : Po lies l) : (partF lies l).Pairwise (· < ·) ∧ (∀ x ∈ partF lies l, x ∈ l) ∧ Anti lies (partF lies l) ∧ (partF lies l).length = (partL lies l).length ∧ (partF lies l).length ≤ l.length := by
  obtain ⟨M, N⟩ := jab_ok P
  have h := free_end P M N
  have hs := free_sub (lies := lies) (L := l) (ab := (jab lies l).1) (be := (jab lies l).2)
  exact ⟨P.srt.sublist hs, fun x hx => hs.subset hx, h.1, by unfold partF partL; rw [h.2, ladders_len], hs.length_le⟩
theorem part_max (P : Po lies l) {A : List Int} (hA : Anti lies A) (n : A.Nodup) (h : ∀ x ∈ A, x ∈ l) : A.length ≤ (partF lies l).length := by
  obtain ⟨M, N⟩ := jab_ok P
  have := anti_le P M hA n h
  unfold partF
  rw [(free_end P M N).2]; exact this
end
section
variable {s : HS}
def HS.freeL (s : HS) : List Int := free s.lies s.linked s.ab s.be
theorem free_max (G : Good s) {A : List Int} (hA : Anti s.lies A) (n : A.Nodup) (h : ∀ x ∈ A, x ∈ s.linked) : A.length ≤ s.freeL.length := by
  have := anti_le G.po G.mt hA n h
  unfold HS.freeL
  rw [(free_end G.po G.mt G.na).2]; exact this
theorem freeL_ok (G : Good s) : s.freeL.Pairwise (· < ·) ∧ (∀ x ∈ s.freeL, x ∈ s.linked) ∧ Anti s.lies s.freeL := by
  have h := free_end G.po G.mt G.na
  have hs := free_sub (lies := s.lies) (L := s.linked) (ab := s.ab) (be := s.be)
  exact ⟨G.po.srt.sublist hs, fun x hx => hs.subset hx, h.1⟩
/-- the things apart from one; all but one -/
def ap (lies : Int → Int → Bool) (x y : Int) : Bool := decide (x ≠ y) && (!lies x y && !lies y x)
def HS.near (s : HS) (x : Int) : List Int := s.linked.filter (ap s.lies x)
def HS.rest (s : HS) (x : Int) : List Int := s.linked.filter fun y => decide (y ≠ x)
theorem near_po (G : Good s) (x : Int) : Po s.lies (s.near x) := G.po.sub (G.po.srt.sublist List.filter_sublist) fun y h => (List.mem_filter.mp h).1
theorem rest_po (G : Good s) (x : Int) : Po s.lies (s.rest x) := G.po.sub (G.po.srt.sublist List.filter_sublist) fun y h => (List.mem_filter.mp h).1
def HS.withF (s : HS) (x : Int) : List Int := partF s.lies (s.near x)
def HS.lessF (s : HS) (x : Int) : List Int := partF s.lies (s.rest x)
/-- the told free set with a thing -/
def HS.withL (s : HS) (x : Int) : List Int := s.linked.filter fun y => decide (y ∈ s.withF x ∨ y = x)
theorem ap_of {lies : Int → Int → Bool} {x y : Int} (h : ap lies x y = true) : x ≠ y ∧ lies x y = false ∧ lies y x = false := by
  unfold ap at h
  simp at h
  exact ⟨h.1, h.2.1, h.2.2⟩
theorem Good.irrL (G : Good s) {x : Int} (hx : x ∈ s.linked) : s.lies x x = false := by
  cases h : s.lies x x with
  | false => rfl
  | true => have := G.po.lt x hx x h; omega
theorem withL_perm (G : Good s) {x : Int} (hx : x ∈ s.linked) : (s.withF x ++ [x]).Perm (s.withL x) := by
  obtain ⟨h1, h2, h3, _, _⟩ := partF_ok (near_po G x)
  have nx : x ∉ s.withF x := fun h => (ap_of (List.mem_filter.mp (h2 x h)).2).1 rfl
  refine (List.perm_ext_iff_of_nodup (nodup_snoc (h1.imp fun h => Int.ne_of_lt h) nx) (G.po.nd.sublist List.filter_sublist)).mpr fun y => ?_
  show y ∈ s.withF x ++ [x] ↔ y ∈ s.linked.filter fun y => decide (y ∈ s.withF x ∨ y = x)
  rw [List.mem_filter, List.mem_append, List.mem_singleton, decide_eq_true_iff]
  constructor
  · intro h
    refine ⟨?_, h⟩
    rcases h with h | rfl
    · exact (List.mem_filter.mp (h2 y h)).1
    · exact hx
  · exact fun h => h.2
theorem withL_len (G : Good s) {x : Int} (hx : x ∈ s.linked) : (s.withL x).length = (s.withF x).length + 1 := by
  rw [← (withL_perm G hx).length_eq, List.length_append]; rfl
theorem withL_ok (G : Good s) {x : Int} (hx : x ∈ s.linked) : (s.withL x).Pairwise (· < ·) ∧ (∀ y ∈ s.withL x, y ∈ s.linked) ∧ Anti s.lies (s.withL x) ∧ x ∈ s.withL x := by
  obtain ⟨h1, h2, h3, _, _⟩ := partF_ok (near_po G x)
  refine ⟨G.po.srt.sublist List.filter_sublist, fun y hy => (List.mem_filter.mp hy).1, fun a ha b hb => ?_, List.mem_filter.mpr ⟨hx, decide_eq_true (Or.inr rfl)⟩⟩
  have ha := of_decide_eq_true (List.mem_filter.mp ha).2
  have hb := of_decide_eq_true (List.mem_filter.mp hb).2
  rcases ha with ha | rfl
  · rcases hb with hb | rfl
    · exact h3 a ha b hb
    · exact (ap_of (List.mem_filter.mp (h2 a ha)).2).2.2
  · rcases hb with hb | rfl
    · exact (ap_of (List.mem_filter.mp (h2 b hb)).2).2.1
    · exact G.irrL hx
theorem with_le (G : Good s) {x : Int} (hx : x ∈ s.linked) : (s.withF x).length + 1 ≤ s.freeL.length := by
  obtain ⟨h1, h2, h3, _⟩ := withL_ok G hx
  rw [← withL_len G hx]
  exact free_max G h3 (h1.imp fun h => Int.ne_of_lt h) h2
theorem less_le (G : Good s) (x : Int) : (s.lessF x).length ≤ s.freeL.length := by
  obtain ⟨h1, h2, h3, _, _⟩ := partF_ok (rest_po G x)
  exact free_max G h3 (h1.imp fun h => Int.ne_of_lt h) fun y hy => (List.mem_filter.mp (h2 y hy)).1
theorem less_not (G : Good s) (x : Int) : x ∉ s.lessF x := fun h => by
  have := (List.mem_filter.mp ((partF_ok (rest_po G x)).2.1 x h)).2
  simp at this
/-- a greatest free set that has the thing: there is one told -/
theorem with_max (G : Good s) {x : Int} {A : List Int} (hA : Anti s.lies A) (n : A.Nodup) (h : ∀ y ∈ A, y ∈ s.linked) (hx : x ∈ A) : A.length ≤ (s.withF x).length + 1 := by
  have e : (A.filter fun y => decide (y ≠ x)).length + 1 = A.length := by
    have h1 : A.Perm (x :: A.filter fun y => decide (y ≠ x)) := by
      refine (List.perm_ext_iff_of_nodup n (List.nodup_cons.mpr ⟨fun z => ?_, n.sublist List.filter_sublist⟩)).mpr fun y => ?_
      · have := (List.mem_filter.mp z).2
        simp at this
      · rw [List.mem_cons, List.mem_filter]
        by_cases q : y = x
        · subst q; simp [hx]
        · simp [q]
    rw [h1.length_eq, List.length_cons]
  rw [← e]
  refine Nat.succ_le_succ (part_max (near_po G x) (fun a ha b hb => hA a (List.mem_filter.mp ha).1 b (List.mem_filter.mp hb).1) (n.sublist List.filter_sublist) fun y hy => ?_)
  obtain ⟨m1, m2⟩ := List.mem_filter.mp hy
  refine List.mem_filter.mpr ⟨h y m1, ?_⟩
  unfold ap
  rw [hA x hx y m1, hA y m1 x hx, decide_eq_true (show x ≠ y from fun z => of_decide_eq_true m2 z.symm)]; rfl
theorem less_max (G : Good s) {x : Int} {A : List Int} (hA : Anti s.lies A) (n : A.Nodup) (h : ∀ y ∈ A, y ∈ s.linked) (hx : x ∉ A) : A.length ≤ (s.lessF x).length :=
  part_max (rest_po G x) hA n fun y hy => List.mem_filter.mpr ⟨h y hy, decide_eq_true fun z => hx (z ▸ hy)⟩
theorem one_of (G : Good s) (x : Int) : s.freeL.length ≤ (s.withF x).length + 1 ∨ s.freeL.length ≤ (s.lessF x).length := by
  obtain ⟨h1, h2, h3⟩ := freeL_ok G
  by_cases q : x ∈ s.freeL
  · exact Or.inl (with_max G h3 (h1.imp fun h => Int.ne_of_lt h) h2 q)
  · exact Or.inr (less_max G h3 (h1.imp fun h => Int.ne_of_lt h) h2 q)
end
end FL

set_option maxHeartbeats 1000000
/-! Rows of change: what the law makes of a row. -/
namespace FL
theorem aget_of_mem {β : Type} : ∀ {d : List (Int × β)}, (d.map (·.1)).Nodup → ∀ {k : Int} {v : β}, (k, v) ∈ d → aget d k = some v
  | [], _, _, _, h => nomatch h
  | p :: r, n, k, v, h => by
    rw [List.map_cons] at n
    obtain ⟨n1, n2⟩ := List.nodup_cons.mp n
    rw [aget_cons]
    rcases List.mem_cons.mp h with e | h
    · rw [← e, if_pos rfl]
    · rw [if_neg fun z => n1 (by rw [z]; exact List.mem_map.mpr ⟨_, h, rfl⟩)]
      exact aget_of_mem n2 h
/-- the same as a map -/
def Eqm (d ab : List (Int × Int)) : Prop := (d.map (·.1)).Nodup ∧ ∀ k, aget d k = aget ab k
def chg (d : List (Int × Int)) (r : Row) : List (Int × Int) := r.foldl (fun d p => aput d p.2 p.1) d
theorem chg_snoc (d : List (Int × Int)) (r : Row) (p : Int × Int) : chg d (r ++ [p]) = aput (chg d r) p.2 p.1 := by unfold chg; rw [List.foldl_append]; rfl
theorem chg_nd {d : List (Int × Int)} (r : Row) (h : (d.map (·.1)).Nodup) : ((chg d r).map (·.1)).Nodup := by
  induction r generalizing d with
  | nil => exact h
  | cons p r ih => exact ih (aput_nodup h)
theorem chg_get {d : List (Int × Int)} : ∀ {r : Row}, (r.map (·.2)).Nodup → ∀ l, aget (chg d r) l = (atLow r l).or (aget d l) := by
  intro r
  induction r generalizing d with
  | nil => intro _ l; rfl
  | cons p r ih =>
    intro n l
    rw [List.map_cons] at n
    obtain ⟨n1, n2⟩ := List.nodup_cons.mp n
    show aget (chg (aput d p.2 p.1) r) l = _
    rw [ih n2, aget_aput]
    unfold atLow
    rw [List.find?_cons]
    by_cases e : l = p.2
    · subst e
      have hn : atLow r p.2 = none := by
        cases z : atLow r p.2 with
        | none => rfl
        | some h => exact absurd (List.mem_map.mpr ⟨_, atLow_some z, rfl⟩) n1
      unfold atLow at hn
      rw [hn]; simp
    · have : decide (p.2 = l) = false := decide_eq_false fun z => e z.symm
      rw [this, if_neg e]
section
variable {lies : Int → Int → Bool} {L : List Int} {ab be : List (Int × Int)}
/-- a row, place by place -/
structure RowAt (ab : List (Int × Int)) (high : Int) (r : Row) : Prop where
  first : ∀ p, r[0]? = some p → p.1 = high
  next : ∀ i p q, r[i]? = some p → r[i + 1]? = some q → aget ab p.2 = some q.1
  last : ∀ i p, r[i]? = some p → i + 1 = r.length → aget ab p.2 = none
theorem Path.at : ∀ {high : Int} {r : Row}, Path lies L ab high r → RowAt ab high r
  | _, [], h => h.elim
  | _, [p], h => by
    obtain ⟨rfl, _, _, e⟩ := h
    refine ⟨fun q hq => by cases hq; rfl, fun i q z h1 h2 => by simp at h2, fun i q h1 h2 => ?_⟩
    have : i = 0 := by simp at h2; omega
    subst this
    cases h1; exact e
  | _, p :: q :: r, h => by
    obtain ⟨rfl, _, _, up, hup, hr⟩ := h
    have ih := Path.at hr
    refine ⟨fun z hz => by cases hz; rfl, fun i x y h1 h2 => ?_, fun i x h1 h2 => ?_⟩
    · cases i with
      | zero =>
        cases h1
        have := ih.first y h2
        rw [this]; exact hup
      | succ i => exact ih.next i x y h1 h2
    · cases i with
      | zero => simp at h2
      | succ i => exact ih.last i x h1 (by simpa using h2)
/-- what a told row is: none, or a path from a thing without one beneath -/
structure RowOk (lies : Int → Int → Bool) (L : List Int) (ab be : List (Int × Int)) (r : Row) (ab' be' : List (Int × Int)) : Prop where
  none_ : r = [] → ab' = ab ∧ be' = be
  some_ : r ≠ [] → ∃ high ∈ L, aget be high = none ∧ Path lies L ab high r ∧ (r.map (·.2)).Nodup ∧ (ab', be') = linkAll r ab be
theorem joined_row (lies : Int → Int → Bool) (L : List Int) (ab be : List (Int × Int)) : RowOk lies L ab be (joined lies L ab be).1 (joined lies L ab be).2.1 (joined lies L ab be).2.2 := by
  have e := joinScan_end lies L ab be L
  refine ⟨fun h => ?_, fun h => ?_⟩
  · have := (e.fail h).1
    exact ⟨congrArg Prod.fst this, congrArg Prod.snd this⟩
  · obtain ⟨high, h1, h2, h3, h4, h5⟩ := e.done h
    exact ⟨high, h1, h2, h3, h5, h4⟩
theorem RowOk.nd {r : Row} {ab' be' : List (Int × Int)} (h : RowOk lies L ab be r ab' be') : (r.map (·.2)).Nodup := by
  by_cases q : r = []
  · subst q; exact List.nodup_nil
  · obtain ⟨_, _, _, _, n, _⟩ := h.some_ q
    exact n
theorem RowOk.eqm {r : Row} {ab' be' : List (Int × Int)} (h : RowOk lies L ab be r ab' be') {d : List (Int × Int)} (e : Eqm d ab) : Eqm (chg d r) ab' := by
  refine ⟨chg_nd r e.1, fun k => ?_⟩
  rw [chg_get h.nd, e.2]
  by_cases q : r = []
  · subst q
    rw [(h.none_ rfl).1]; rfl
  · obtain ⟨_, _, _, _, _, e2⟩ := h.some_ q
    have e3 : ab' = (linkAll r ab be).1 := congrArg Prod.fst e2
    rw [e3, linkAll_ab]
theorem RowOk.mem {r : Row} {ab' be' : List (Int × Int)} (M : Mt lies L ab be) (h : RowOk lies L ab be r ab' be') : ∀ p ∈ r, p.1 ∈ L ∧ p.2 ∈ L := fun p hp => by
  obtain ⟨high, h1, h2, h3, h4, h5⟩ := h.some_ (List.ne_nil_of_mem hp)
  refine ⟨?_, (h3.p4 p hp).1⟩
  rcases h3.p1 p hp with e | ⟨q, hq, e⟩
  · rw [e]; exact h1
  · exact (M.inL _ _ e).2.1
/-- before the i-th pair's store, its lower thing's own one is as it was -/
theorem chg_before {d : List (Int × Int)} {r : Row} (n : (r.map (·.2)).Nodup) {i : Nat} {p : Int × Int} (hp : r[i]? = some p) : aget (chg d (r.take i)) p.2 = aget d p.2 := by
  have n2 : ((r.take i).map (·.2)).Nodup := n.sublist ((List.take_sublist i r).map _)
  rw [chg_get n2]
  have : atLow (r.take i) p.2 = none := by
    cases z : atLow (r.take i) p.2 with
    | none => rfl
    | some h =>
      have m := atLow_some z
      obtain ⟨j, hj, ej⟩ := List.mem_take_iff_getElem.mp m
      obtain ⟨hi, ei⟩ := List.getElem?_eq_some_iff.mp hp
      have := List.pairwise_iff_getElem.mp n j i (by rw [List.length_map]; omega) (by rw [List.length_map]; exact hi) (by omega)
      rw [List.getElem_map, List.getElem_map, ej, ei] at this
      exact absurd rfl this
  rw [this]; rfl
theorem no_value {d : List (Int × Int)} (e : Eqm d ab) (M : Mt lies L ab be) {h : Int} : h ∉ d.map (·.2) ↔ aget be h = none := by
  constructor
  · intro hn
    cases z : aget be h with
    | none => rfl
    | some l =>
      have := (M.inv l h).mpr z
      rw [← e.2] at this
      exact absurd (List.mem_map.mpr ⟨_, aget_mem this, rfl⟩) hn
  · intro hn hm
    obtain ⟨⟨l, h'⟩, hp, rfl⟩ := List.mem_map.mp hm
    have : aget d l = some h' := aget_of_mem e.1 hp
    rw [e.2] at this
    rw [(M.inv l h').mp this] at hn
    cases hn
/-! ### the ladders by the law's own map -/
theorem up_congr {d ab : List (Int × Int)} (e : ∀ k, aget d k = aget ab k) : ∀ (n : Nat) (x : Int), up d n x = up ab n x
  | 0, _ => rfl
  | n + 1, x => by
    unfold up
    rw [e x]
    cases aget ab x with
    | none => rfl
    | some y =>
      show x :: up d n y = x :: up ab n y
      rw [up_congr e n y]
/-! ### a thing taken -/
def takeD (d : List (Int × Int)) (one : Int) : List (Int × Int) :=
  (((adel d one).filter fun p => decide (p.2 = one)).map (·.1)).foldl (fun d' l => match aget d one with | some h => aput (adel d' l) l h | none => adel d' l) (adel d one)
end
section
variable {s : HS}
theorem take_eqm (G : Good s) {d : List (Int × Int)} (e : Eqm d s.ab) (one : Int) : Eqm (takeD d one) (dropA s.ab s.be one).1 ∧ ((((adel d one).filter fun p => decide (p.2 = one)).map (·.1)).length ≤ 1) := by
  have nd1 : ((adel d one).map (·.1)).Nodup := adel_nodup e.1
  have keys : ∀ l, l ∈ ((adel d one).filter fun p => decide (p.2 = one)).map (·.1) ↔ aget s.ab l = some one := fun l => by
    constructor
    · intro h
      obtain ⟨⟨l', h'⟩, hp, rfl⟩ := List.mem_map.mp h
      obtain ⟨m1, m2⟩ := List.mem_filter.mp hp
      have m2 : h' = one := of_decide_eq_true m2
      have := aget_of_mem nd1 m1
      rw [aget_adel] at this
      by_cases q : l' = one
      · rw [if_pos q] at this; cases this
      · rw [if_neg q, e.2] at this
        rw [← m2]; exact this
    · intro h
      have ne : l ≠ one := fun z => G.irr l (by rw [h, z])
      have h1 : aget (adel d one) l = some one := by rw [aget_adel, if_neg ne, e.2]; exact h
      exact List.mem_map.mpr ⟨_, List.mem_filter.mpr ⟨aget_mem h1, decide_eq_true rfl⟩, rfl⟩
  have ndK : (((adel d one).filter fun p => decide (p.2 = one)).map (·.1)).Nodup := nd1.sublist (List.Sublist.map (fun (p : Int × Int) => p.1) List.filter_sublist)
  have dr := dropA_ab (one := one) G.mt.inv G.irr
  unfold takeD
  generalize ((adel d one).filter fun p => decide (p.2 = one)).map (·.1) = K at keys ndK
  cases K with
  | nil =>
    refine ⟨⟨nd1, fun l => ?_⟩, Nat.zero_le _⟩
    show aget (adel d one) l = _
    rw [dr l, aget_adel]
    by_cases q : l = one
    · rw [if_pos q, if_pos q]
    · rw [if_neg q, if_neg q, if_neg fun z => (nomatch (keys l).mpr z), e.2]
  | cons l0 r =>
    have er : r = [] := by
      cases r with
      | nil => rfl
      | cons l1 r =>
        have a := (keys l0).mp List.mem_cons_self
        have b := (keys l1).mp (List.mem_cons_of_mem _ List.mem_cons_self)
        have := G.mt.inj a b
        exact absurd (this ▸ List.mem_cons_self) (List.nodup_cons.mp ndK).1
    subst er
    have hl0 := (keys l0).mp List.mem_cons_self
    have ne0 : l0 ≠ one := fun z => G.irr l0 (by rw [hl0, z])
    have oth : ∀ l, l ≠ l0 → aget s.ab l ≠ some one := fun l hl z => hl (G.mt.inj z hl0)
    refine ⟨⟨?_, fun l => ?_⟩, Nat.le_refl _⟩
    · show ((match aget d one with | some h => aput (adel (adel d one) l0) l0 h | none => adel (adel d one) l0).map (fun (p : Int × Int) => p.1)).Nodup
      cases aget d one with
      | none => exact adel_nodup nd1
      | some h => exact aput_nodup (adel_nodup nd1)
    · show aget (match aget d one with | some h => aput (adel (adel d one) l0) l0 h | none => adel (adel d one) l0) l = _
      rw [dr l]
      have e1 := e.2 one
      cases z : aget d one with
      | none =>
        show aget (adel (adel d one) l0) l = _
        rw [z] at e1
        rw [aget_adel, aget_adel, e.2]
        by_cases q : l = l0
        · subst q
          rw [if_pos rfl, if_neg ne0, if_pos hl0]; exact e1
        · rw [if_neg q, if_neg (oth l q)]
      | some h =>
        show aget (aput (adel (adel d one) l0) l0 h) l = _
        rw [z] at e1
        rw [aget_aput, aget_adel, aget_adel, e.2]
        by_cases q : l = l0
        · subst q
          rw [if_pos rfl, if_neg ne0, if_pos hl0]; exact e1
        · rw [if_neg q, if_neg q, if_neg (oth l q)]
theorem take_row (s : HS) (one : Int) : RowOk (s.take one).2.lies (s.take one).2.linked (dropA s.ab s.be one).1 (dropA s.ab s.be one).2 (s.take one).1 (s.take one).2.ab (s.take one).2.be := joined_row _ _ _ _
theorem put_row (s : HS) (some : List Int) : RowOk (s.put some).2.lies (s.put some).2.linked s.ab s.be (s.put some).1 (s.put some).2.ab (s.put some).2.be := joined_row _ _ _ _
theorem path_closed {lies : Int → Int → Bool} {L : List Int} {ab : List (Int × Int)} {R : Int → Prop} (hR : ∀ l, R l → ∃ u, aget ab l = some u ∧ ∀ l' ∈ L, lies u l' = true → R l') : ∀ {high : Int} {r : Row}, Path lies L ab high r → (∀ l ∈ L, lies high l = true → R l) → False
  | _, [], h, _ => h.elim
  | _, [p], h, k => by
    obtain ⟨rfl, h1, h2, e⟩ := h
    obtain ⟨u, hu, _⟩ := hR _ (k _ h1 h2)
    rw [e] at hu; cases hu
  | _, p :: q :: r, h, k => by
    obtain ⟨rfl, h1, h2, up, hup, hr⟩ := h
    obtain ⟨u, hu, hk⟩ := hR _ (k _ h1 h2)
    rw [hup] at hu
    cases hu
    exact path_closed hR hr hk
/-- a row behind a thing put in begins with that thing -/
theorem put_first (G : Good s) {some : List Int} (hs : ∀ o ∈ some, o ∈ s.linked) (hne : (s.put some).1 ≠ []) : ∃ p r, (s.put some).1 = p :: r ∧ p.1 = (s.told : Int) := by
  obtain ⟨high, h1, h2, h3, h4, h5⟩ := (put_row s some).some_ hne
  obtain ⟨l, r, er⟩ := h3.head
  refine ⟨(high, l), r, er, ?_⟩
  show high = (s.told : Int)
  have h1 : high ∈ s.linked ++ [(s.told : Int)] := h1
  rcases List.mem_append.mp h1 with h1 | h1
  · exfalso
    obtain ⟨R, r1, r2⟩ := G.na
    have old : ∀ {u l : Int}, u ∈ s.linked → l ∈ s.linked ++ [(s.told : Int)] → (s.put some).2.lies u l = true → l ∈ s.linked ∧ s.lies u l = true := fun {u l} hu hl h => by
      rw [put_lies_old G hs (fun z => told_new G (z ▸ hu))] at h
      rcases List.mem_append.mp hl with hl | hl
      · exact ⟨hl, h⟩
      · rw [List.mem_singleton.mp hl] at h
        have a := G.po.lt u hu _ h
        have b := (G.rng u hu).2
        omega
    refine path_closed (R := R) (L := s.linked ++ [(s.told : Int)]) (fun l hl => ?_) h3 fun l hl h => ?_
    · obtain ⟨u, hu, hk⟩ := r2 l hl
      refine ⟨u, hu, fun l' hl' h' => ?_⟩
      have huL := (G.mt.inL l u hu).2.1
      obtain ⟨m1, m2⟩ := old huL hl' h'
      exact hk l' m1 m2
    · obtain ⟨m1, m2⟩ := old h1 hl h
      exact r1 high h1 h2 l m1 m2
  · exact List.mem_singleton.mp h1
end
end FL

/-! Plain law 8: halls whose ladders and floors are known, by what tells them. -/
namespace FL
/-- what is reached from a thing by the rows of what lies beneath -/
inductive Reach (rows : List (List Nat)) : Nat → Nat → Prop
  | one {k l : Nat} : l ∈ rows.getD k [] → Reach rows k l
  | more {k z l : Nat} : z ∈ rows.getD k [] → Reach rows z l → Reach rows k l
def rowIn (rows : List (List Nat)) (nm : List (Int × Int)) (k : Nat) : Prop := ∀ l ∈ rows.getD k [], ∃ u, aget nm (l : Int) = some u
structure PutIn (rows : List (List Nat)) (st : HS) (nm : List (Int × Int)) : Prop where
  good : Good st
  len : nm.length = st.linked.length
  tlen : st.told = st.linked.length
  keys : ∀ k v, aget nm k = some v → (∃ j : Nat, k = (j : Int) ∧ j < rows.length) ∧ v ∈ st.linked
  inj : ∀ k k' v, aget nm k = some v → aget nm k' = some v → k = k'
  onto : ∀ v ∈ st.linked, ∃ k, aget nm k = some v
  nd : (nm.map (·.1)).Nodup
  row : ∀ (k : Nat) v, aget nm (k : Int) = some v → rowIn rows nm k
  lies : ∀ (k l : Nat) v u, aget nm (k : Int) = some v → aget nm (l : Int) = some u → (st.lies v u = true ↔ Reach rows k l)
theorem PutIn.start (rows : List (List Nat)) : PutIn rows HS.empty [] :=
  ⟨Good.empty, rfl, rfl, fun k v h => (nomatch h), fun k k' v h => (nomatch h), fun v h => (nomatch h), .nil, fun k v h => (nomatch h), fun k l v u h => (nomatch h)⟩
section
variable {rows : List (List Nat)} {st : HS} {nm : List (Int × Int)}
theorem PutIn.reach (h : PutIn rows st nm) {k l : Nat} (r : Reach rows k l) : ∀ {v}, aget nm (k : Int) = some v → ∃ u, aget nm (l : Int) = some u := by
  induction r with
  | one hl => intro v e; exact h.row _ v e _ hl
  | more hz _ ih =>
    intro v e
    obtain ⟨u, hu⟩ := h.row _ v e _ hz
    exact ih hu
/-- the numbers of the things that stand in a row -/
def numsOf (nm : List (Int × Int)) (row : List Nat) : List Int := row.map fun l : Nat => (aget nm (l : Int)).getD 0
theorem PutIn.nums (h : PutIn rows st nm) {k : Nat} (hr : rowIn rows nm k) : (∀ x ∈ numsOf nm (rows.getD k []), x ∈ st.linked) ∧ ((rows.getD k []).Nodup → (numsOf nm (rows.getD k [])).Nodup) := by
  refine ⟨fun x hx => ?_, fun n => ?_⟩
  · obtain ⟨l, hl, rfl⟩ := List.mem_map.mp hx
    obtain ⟨u, hu⟩ := hr l hl
    rw [hu]; exact (h.keys _ _ hu).2
  · unfold numsOf
    refine List.pairwise_map.mpr (List.Pairwise.imp_of_mem (fun {a b} ha hb ne e => ne ?_) n)
    obtain ⟨u, hu⟩ := hr a ha
    obtain ⟨w, hw⟩ := hr b hb
    rw [hu, hw] at e
    have e : u = w := e
    have := h.inj _ _ _ hu (e ▸ hw)
    omega
theorem PutIn.put (h : PutIn rows st nm) {k : Nat} (hk : k < rows.length) (hn : aget nm (k : Int) = none) (hr : rowIn rows nm k) :
    PutIn rows (st.put (numsOf nm (rows.getD k []))).2 (aput nm (k : Int) (st.told : Int)) := by
  have G := h.good
  have hs := (h.nums hr).1
  have hlk : (st.put (numsOf nm (rows.getD k []))).2.linked = st.linked ++ [(st.told : Int)] := rfl
  have old : ∀ {j v}, aget nm j = some v → aget (aput nm (k : Int) (st.told : Int)) j = some v := fun {j v} e => by
    rw [aget_aput, if_neg (fun z => by rw [z, hn] at e; cases e)]; exact e
  have split : ∀ {j v}, aget (aput nm (k : Int) (st.told : Int)) j = some v → (j = (k : Int) ∧ v = (st.told : Int)) ∨ (j ≠ (k : Int) ∧ aget nm j = some v) := fun {j v} e => by
    rw [aget_aput] at e
    by_cases q : j = (k : Int)
    · rw [if_pos q] at e; cases e; exact Or.inl ⟨q, rfl⟩
    · rw [if_neg q] at e; exact Or.inr ⟨q, e⟩
  have nT : ∀ {j v}, aget nm j = some v → v ≠ (st.told : Int) := fun {j v} e z => told_new G (z ▸ (h.keys _ _ e).2)
  have rk : ∀ {j}, Reach rows j k → ∀ {v}, aget nm (j : Int) = some v → False := fun {j} r {v} e => by
    obtain ⟨u, hu⟩ := h.reach r e
    rw [hn] at hu; cases hu
  refine ⟨put_good G hs, ?_, ?_, fun j v e => ?_, fun j j' v e e' => ?_, fun v hv => ?_, ?_, fun j v e => ?_, fun j l v u ej el => ?_⟩
  · rw [aput_new _ hn, hlk, List.length_append, List.length_append, h.len]; rfl
  · show st.told + 1 = (st.linked ++ [(st.told : Int)]).length
    rw [List.length_append, ← h.tlen]; rfl
  · rw [hlk]
    rcases split e with ⟨rfl, rfl⟩ | ⟨_, e⟩
    · exact ⟨⟨k, rfl, hk⟩, List.mem_append_right _ List.mem_cons_self⟩
    · exact ⟨(h.keys _ _ e).1, List.mem_append_left _ (h.keys _ _ e).2⟩
  · rcases split e with ⟨rfl, rfl⟩ | ⟨_, e⟩
    · rcases split e' with ⟨rfl, _⟩ | ⟨_, e'⟩
      · rfl
      · exact absurd rfl (nT e')
    · rcases split e' with ⟨rfl, rfl⟩ | ⟨_, e'⟩
      · exact absurd rfl (nT e)
      · exact h.inj _ _ _ e e'
  · rw [hlk] at hv
    rcases List.mem_append.mp hv with hv | hv
    · obtain ⟨j, e⟩ := h.onto v hv
      exact ⟨j, old e⟩
    · rw [List.mem_singleton.mp hv]
      exact ⟨k, by rw [aget_aput, if_pos rfl]⟩
  · exact aput_nodup h.nd
  · intro l hl
    rcases split e with ⟨q, _⟩ | ⟨_, e⟩
    · have q : j = k := by omega
      subst q
      obtain ⟨u, hu⟩ := hr l hl
      exact ⟨u, old hu⟩
    · obtain ⟨u, hu⟩ := h.row j v e l hl
      exact ⟨u, old hu⟩
  · rcases split ej with ⟨qj, rfl⟩ | ⟨_, ej2⟩
    · have qj : j = k := by omega
      subst qj
      rcases split el with ⟨ql, rfl⟩ | ⟨_, el2⟩
      · have ql : l = j := by omega
        subst ql
        constructor
        · intro z
          have := lies_lt (put_mlt G hs) z
          omega
        · intro r
          cases r with
          | one hl => obtain ⟨u, hu⟩ := hr _ hl; rw [hn] at hu; cases hu
          | more hz r => obtain ⟨u, hu⟩ := hr _ hz; exact (rk r hu).elim
      · have hu0 := (G.rng u (h.keys _ _ el2).2).1
        rw [put_lies_new G hs hu0]
        constructor
        · rintro (q | ⟨o, ho, q⟩)
          · obtain ⟨z, hz, e⟩ := List.mem_map.mp q
            obtain ⟨w, hw⟩ := hr z hz
            rw [hw] at e
            have e : w = u := e
            have := h.inj _ _ _ hw (e ▸ el2)
            have : z = l := by omega
            exact this ▸ .one hz
          · obtain ⟨z, hz, e⟩ := List.mem_map.mp ho
            obtain ⟨w, hw⟩ := hr z hz
            rw [hw] at e
            have e : w = o := e
            rw [← e] at q
            exact .more hz ((h.lies z l w u hw el2).mp q)
        · intro r
          cases r with
          | one hl => exact Or.inl (List.mem_map.mpr ⟨l, hl, by rw [el2]; rfl⟩)
          | @more _ z _ hz r =>
            obtain ⟨w, hw⟩ := hr z hz
            exact Or.inr ⟨w, List.mem_map.mpr ⟨z, hz, by rw [hw]; rfl⟩, (h.lies z l w u hw el2).mpr r⟩
    · rw [put_lies_old G hs (nT ej2)]
      rcases split el with ⟨ql, rfl⟩ | ⟨_, el2⟩
      · have ql : l = k := by omega
        subst ql
        constructor
        · intro z
          have := lies_lt G.mlt z
          have := (G.rng v (h.keys _ _ ej2).2).2
          omega
        · intro r; exact (rk r ej2).elim
      · exact h.lies j l v u ej2 el2
theorem PutIn.full (h : PutIn rows st nm) (e : nm.length = rows.length) {k : Nat} (hk : k < rows.length) : ∃ v, aget nm (k : Int) = some v := by
  cases q : aget nm (k : Int) with
  | some v => exact ⟨v, rfl⟩
  | none =>
    exfalso
    have nk : (k : Int) ∉ nm.map (·.1) := aget_none_iff.mp q
    have sub : ∀ x ∈ (k : Int) :: nm.map (·.1), x ∈ (List.range rows.length).map fun j : Nat => (j : Int) := fun x hx => by
      rcases List.mem_cons.mp hx with rfl | hx
      · exact List.mem_map.mpr ⟨k, List.mem_range.mpr hk, rfl⟩
      · obtain ⟨v, hv⟩ := Option.isSome_iff_exists.mp (aget_isSome_iff.mpr hx)
        obtain ⟨j, ej, hj⟩ := (h.keys _ _ hv).1
        exact List.mem_map.mpr ⟨j, List.mem_range.mpr hj, ej.symm⟩
    have := nodup_len_le (List.nodup_cons.mpr ⟨nk, h.nd⟩) sub
    rw [List.length_cons, List.length_map, List.length_map, List.length_range] at this
    omega
/-! what tells the numbers: the closure, things apart, chains, a rank, a long chain -/
def marksN (cl : List Nat) (row : List Nat) : Nat := row.foldl (fun m l => m ||| 2 ^ l ||| cl.getD l 0) 0
theorem marksN_fold (cl : List Nat) (n : Nat) : ∀ (row : List Nat) (m : Nat), (row.foldl (fun m l => m ||| 2 ^ l ||| cl.getD l 0) m).testBit n = (m.testBit n || row.any fun l => decide (l = n) || (cl.getD l 0).testBit n)
  | [], m => by simp
  | l :: r, m => by
    rw [List.foldl_cons, marksN_fold cl n r, List.any_cons, Nat.testBit_or, Nat.testBit_or, Nat.testBit_two_pow]
    cases m.testBit n <;> cases decide (l = n) <;> cases (cl.getD l 0).testBit n <;> simp
theorem marksN_bit (cl row : List Nat) (n : Nat) : (marksN cl row).testBit n = row.any fun l => decide (l = n) || (cl.getD l 0).testBit n := by
  unfold marksN
  rw [marksN_fold, Nat.zero_testBit, Bool.false_or]
def clOf (rows : List (List Nat)) : List Nat := rows.foldl (fun cl row => cl ++ [marksN cl row]) []
def pairs (p : Nat → Nat → Bool) : List Nat → Bool
  | [] => true
  | a :: r => r.all (p a) && pairs p r
theorem pairs_iff {p : Nat → Nat → Bool} : ∀ {l : List Nat}, pairs p l = true → l.Pairwise fun a b => p a b = true
  | [], _ => .nil
  | a :: r, h => by
    unfold pairs at h
    rw [Bool.and_eq_true, List.all_eq_true] at h
    exact .cons h.1 (pairs_iff h.2)
structure Cert where
  anti : List Nat
  chains : List (List Nat)
  rank : List Nat
  top : List Nat
/-- all of it holds -/
def holds (rows : List (List Nat)) (W F : Nat) (c : Cert) : Bool :=
  let n := rows.length
  let cl := clOf rows
  ((List.range n).all fun k => let row := rows.getD k []
    row.all (fun z => decide (z < k) && decide (c.rank.getD z 0 < c.rank.getD k 0)) && pairs (fun a b => decide (a ≠ b)) row && decide (cl.getD k 0 = marksN cl row) && decide (c.rank.getD k 0 < F) && c.chains.any (fun C => C.contains k))
  && decide (c.anti.length = W) && c.anti.all (fun a => decide (a < n) && c.anti.all fun b => !(cl.getD a 0).testBit b) && pairs (fun a b => decide (a ≠ b)) c.anti
  && decide (c.chains.length = W) && c.chains.all (fun C => C.all (fun k => decide (k < n)) && pairs (fun a b => (cl.getD b 0).testBit a) C)
  && decide (c.top.length = F) && c.top.all (fun k => decide (k < n)) && pairs (fun a b => (cl.getD b 0).testBit a) c.top && decide (n ≤ 24)
structure Holds (rows : List (List Nat)) (W F : Nat) (c : Cert) (cl : List Nat) : Prop where
  low : ∀ k, k < rows.length → ∀ z ∈ rows.getD k [], z < k ∧ c.rank.getD z 0 < c.rank.getD k 0
  nd : ∀ k, k < rows.length → (rows.getD k []).Nodup
  clE : ∀ k, k < rows.length → cl.getD k 0 = marksN cl (rows.getD k [])
  rk : ∀ k, k < rows.length → c.rank.getD k 0 < F
  cov : ∀ k, k < rows.length → ∃ C ∈ c.chains, k ∈ C
  al : c.anti.length = W
  an : ∀ a ∈ c.anti, a < rows.length ∧ ∀ b ∈ c.anti, (cl.getD a 0).testBit b = false
  ad : c.anti.Nodup
  chl : c.chains.length = W
  ch : ∀ C ∈ c.chains, (∀ k ∈ C, k < rows.length) ∧ C.Pairwise fun a b => (cl.getD b 0).testBit a = true
  tl : c.top.length = F
  tp : (∀ k ∈ c.top, k < rows.length) ∧ c.top.Pairwise fun a b => (cl.getD b 0).testBit a = true
  small : rows.length ≤ 24
theorem nd_pairs {l : List Nat} (h : pairs (fun a b => decide (a ≠ b)) l = true) : l.Nodup := (pairs_iff h).imp fun q => of_decide_eq_true q
theorem holds_of {W F : Nat} {c : Cert} (h : holds rows W F c = true) : Holds rows W F c (clOf rows) := by
  unfold holds at h
  simp only [Bool.and_eq_true, List.all_eq_true, List.any_eq_true, decide_eq_true_eq, List.mem_range, List.contains_iff_mem, Bool.not_eq_true'] at h
  obtain ⟨⟨⟨⟨⟨⟨⟨⟨⟨h1, h2⟩, h3⟩, h4⟩, h5⟩, h6⟩, h7⟩, h8⟩, h9⟩, h10⟩ := h
  refine ⟨fun k hk => (h1 k hk).1.1.1.1, fun k hk => nd_pairs (h1 k hk).1.1.1.2, fun k hk => (h1 k hk).1.1.2, fun k hk => (h1 k hk).1.2, fun k hk => (h1 k hk).2, h2, h3, nd_pairs h4, h5, fun C hC => ⟨(h6 C hC).1, pairs_iff (h6 C hC).2⟩, h7, ⟨h8, pairs_iff h9⟩, h10⟩
variable {W F : Nat} {c : Cert} {cl : List Nat}
theorem Holds.bit (H : Holds rows W F c cl) : ∀ k, k < rows.length → ∀ l, (cl.getD k 0).testBit l = true ↔ Reach rows k l := by
  intro k
  induction k using Nat.strongRecOn with
  | ind k ih =>
    intro hk l
    rw [H.clE k hk, marksN_bit, List.any_eq_true]
    constructor
    · rintro ⟨z, hz, q⟩
      rw [Bool.or_eq_true] at q
      rcases q with q | q
      · have := of_decide_eq_true q
        subst this
        exact .one hz
      · have := (H.low k hk z hz).1
        exact .more hz ((ih z this (by omega) l).mp q)
    · intro r
      cases r with
      | one hl => exact ⟨l, hl, by simp⟩
      | @more _ z _ hz r =>
        have := (H.low k hk z hz).1
        exact ⟨z, hz, by rw [(ih z this (by omega) l).mpr r, Bool.or_true]⟩
theorem Holds.reach (H : Holds rows W F c cl) {k l : Nat} (r : Reach rows k l) : k < rows.length → c.rank.getD l 0 < c.rank.getD k 0 ∧ l < k := by
  induction r with
  | one hl => intro hk; exact ⟨(H.low _ hk _ hl).2, (H.low _ hk _ hl).1⟩
  | more hz _ ih =>
    intro hk
    have h1 := H.low _ hk _ hz
    have h2 := ih (by omega)
    omega
/-- no more than there are chains -/
theorem pigeon {α : Type} {R : α → Nat → Prop} {n : Nat} {l : List α} (h : ∀ x ∈ l, ∃ i, i < n ∧ R x i) (u : ∀ x ∈ l, ∀ y ∈ l, ∀ i, R x i → R y i → x = y) (nd : l.Nodup) : l.length ≤ n := by
  have h' : ∀ x : α, ∃ i, x ∈ l → i < n ∧ R x i := fun x => by
    by_cases q : x ∈ l
    · obtain ⟨i, hi⟩ := h x q
      exact ⟨i, fun _ => hi⟩
    · exact ⟨0, fun z => absurd z q⟩
  obtain ⟨g, hg⟩ := Classical.axiomOfChoice h'
  have e : (l.map g).Nodup := List.pairwise_map.mpr (List.Pairwise.imp_of_mem (fun {a b} ha hb ne e => ne (u a ha b hb (g a) (hg a ha).2 (e ▸ (hg b hb).2))) nd)
  have := nodup_len_le e (m := List.range n) fun x hx => by
    obtain ⟨y, hy, rfl⟩ := List.mem_map.mp hx
    exact List.mem_range.mpr (hg y hy).1
  rwa [List.length_map, List.length_range] at this
theorem known_free (P : PutIn rows st nm) (e : nm.length = rows.length) (H : Holds rows W F c cl) : st.freeL.length = W := by
  have G := P.good
  refine Nat.le_antisymm ?_ ?_
  · obtain ⟨f1, f2, f3⟩ := freeL_ok G
    rw [← H.chl]
    refine pigeon (R := fun x i => ∃ C k, c.chains[i]? = some C ∧ k ∈ C ∧ aget nm (k : Int) = some x) (fun x hx => ?_) (fun x hx y hy i => ?_) (f1.imp fun h => Int.ne_of_lt h)
    · obtain ⟨k, hk⟩ := P.onto x (f2 x hx)
      obtain ⟨⟨j, rfl, hj⟩, _⟩ := P.keys _ _ hk
      obtain ⟨C, hC, hjC⟩ := H.cov j hj
      obtain ⟨i, hi⟩ := List.mem_iff_getElem?.mp hC
      exact ⟨i, (List.getElem?_eq_some_iff.mp hi).1, C, j, hi, hjC, hk⟩
    · rintro ⟨C, k, hC, hk, ex⟩ ⟨C', k', hC', hk', ey⟩
      rw [hC] at hC'; cases hC'
      obtain ⟨h1, h2⟩ := H.ch C (List.mem_of_getElem? hC)
      obtain ⟨a, ha⟩ := List.mem_iff_getElem?.mp hk
      obtain ⟨b, hb⟩ := List.mem_iff_getElem?.mp hk'
      obtain ⟨ha1, ha2⟩ := List.getElem?_eq_some_iff.mp ha
      obtain ⟨hb1, hb2⟩ := List.getElem?_eq_some_iff.mp hb
      have hp := List.pairwise_iff_getElem.mp h2
      rcases Nat.lt_trichotomy a b with q | q | q
      · have := hp a b ha1 hb1 q
        rw [ha2, hb2] at this
        have := (P.lies k' k y x ey ex).mpr ((H.bit k' (h1 k' hk') k).mp this)
        rw [f3 y hy x hx] at this; cases this
      · subst q
        rw [ha] at hb; cases hb
        rw [ex] at ey; cases ey; rfl
      · have := hp b a hb1 ha1 q
        rw [ha2, hb2] at this
        have := (P.lies k k' x y ex ey).mpr ((H.bit k (h1 k hk) k').mp this)
        rw [f3 x hx y hy] at this; cases this
  · have full : ∀ a ∈ c.anti, ∃ v, aget nm (a : Int) = some v := fun a ha => P.full e (H.an a ha).1
    have ge : ∀ a ∈ c.anti, aget nm (a : Int) = some ((aget nm (a : Int)).getD 0) := fun a ha => by obtain ⟨v, hv⟩ := full a ha; rw [hv]; rfl
    rw [← H.al, ← List.length_map (f := fun a : Nat => (aget nm (a : Int)).getD 0) (as := c.anti)]
    have ndA : (c.anti.map fun a : Nat => (aget nm (a : Int)).getD 0).Nodup := List.pairwise_map.mpr (List.Pairwise.imp_of_mem (fun {a b} ha hb ne q => ne (by have := P.inj _ _ _ (ge a ha) (q ▸ ge b hb); omega)) H.ad)
    refine free_max G (fun x hx y hy => ?_) ndA fun x hx => ?_
    · obtain ⟨a, ha, rfl⟩ := List.mem_map.mp hx
      obtain ⟨b, hb, rfl⟩ := List.mem_map.mp hy
      cases q : st.lies ((aget nm (a : Int)).getD 0) ((aget nm (b : Int)).getD 0) with
      | false => rfl
      | true =>
        have := (H.bit a (H.an a ha).1 b).mpr ((P.lies a b _ _ (ge a ha) (ge b hb)).mp q)
        rw [(H.an a ha).2 b hb] at this; cases this
    · obtain ⟨a, ha, rfl⟩ := List.mem_map.mp hx
      exact (P.keys _ _ (ge a ha)).2
theorem known_hgt (P : PutIn rows st nm) (e : nm.length = rows.length) (H : Holds rows W F c cl) : hgt st.lies st.linked st.linked = F := by
  have G := P.good
  have Po := G.po
  refine Nat.le_antisymm (maxi_lub fun y hy => ?_) ?_
  · obtain ⟨x, hx, rfl⟩ := List.mem_map.mp hy
    have key : ∀ n k x, k < rows.length → c.rank.getD k 0 ≤ n → aget nm (k : Int) = some x → fl st.lies st.linked x ≤ c.rank.getD k 0 := by
      intro n
      induction n with
      | zero =>
        intro k x hk hn ex
        by_cases q : fl st.lies st.linked x = 0
        · omega
        · obtain ⟨y, hy, h1, h2⟩ := fl_down Po (P.keys _ _ ex).2 (by omega)
          obtain ⟨j, ej⟩ := P.onto y hy
          obtain ⟨⟨j, rfl, hj⟩, _⟩ := P.keys _ _ ej
          have := (H.reach ((P.lies k j x y ex ej).mp h1) hk).1
          omega
      | succ n ih =>
        intro k x hk hn ex
        by_cases q : fl st.lies st.linked x = 0
        · omega
        · obtain ⟨y, hy, h1, h2⟩ := fl_down Po (P.keys _ _ ex).2 (by omega)
          obtain ⟨j, ej⟩ := P.onto y hy
          obtain ⟨⟨j, rfl, hj⟩, _⟩ := P.keys _ _ ej
          have h3 := (H.reach ((P.lies k j x y ex ej).mp h1) hk).1
          have := ih j y hj (by omega) ej
          omega
    obtain ⟨k, ek⟩ := P.onto x hx
    obtain ⟨⟨k, rfl, hk⟩, _⟩ := P.keys _ _ ek
    have h1 := key _ k x hk (Nat.le_refl _) ek
    have h2 := H.rk k hk
    show fl st.lies st.linked x + 1 ≤ F
    omega
  · rw [← H.tl]
    have step : ∀ i k : Nat, c.top[i]? = some k → ∃ x, aget nm (k : Int) = some x ∧ i ≤ fl st.lies st.linked x := by
      intro i
      induction i with
      | zero =>
        intro k hk
        obtain ⟨x, hx⟩ := P.full e (H.tp.1 k (List.mem_of_getElem? hk))
        exact ⟨x, hx, Nat.zero_le _⟩
      | succ i ih =>
        intro k hk
        obtain ⟨hi, ei⟩ := List.getElem?_eq_some_iff.mp hk
        obtain ⟨x, hx⟩ := P.full e (H.tp.1 k (List.mem_of_getElem? hk))
        obtain ⟨y, hy, hle⟩ := ih c.top[i] (List.getElem?_eq_getElem (by omega))
        have := List.pairwise_iff_getElem.mp H.tp.2 i (i + 1) (by omega) hi (Nat.lt_succ_self i)
        rw [ei] at this
        have h1 := (P.lies k c.top[i] x y hx hy).mpr ((H.bit k (H.tp.1 k (List.mem_of_getElem? hk)) _).mp this)
        have := fl_lt Po (P.keys _ _ hx).2 (P.keys _ _ hy).2 h1
        exact ⟨x, hx, by omega⟩
    by_cases q : c.top.length = 0
    · omega
    · obtain ⟨x, hx, hle⟩ := step (c.top.length - 1) c.top[c.top.length - 1] (List.getElem?_eq_getElem (by omega))
      have := hgt_lt (lies := st.lies) (L := st.linked) (P.keys _ _ hx).2
      omega
end
end FL

/-! Plain law 9: the four kinds of known halls; each is looked at. -/
namespace FL
def boxRow (b k : Nat) : List Nat := (if b ≤ k then [k - b] else []) ++ (if 0 < k % b then [k - 1] else [])
def boxRows (a b : Nat) : List (List Nat) := (List.range (a * b)).map (boxRow b)
def layStep (s : List (List Nat) × List Nat) (size : Nat) : List (List Nat) × List Nat := (s.1 ++ List.replicate size s.2, (List.range size).map fun k => s.1.length + k)
def layRows (sizes : List Nat) : List (List Nat) := (sizes.foldl layStep ([], [])).1
def sideStep (rows : List (List Nat)) (size : Nat) : List (List Nat) := rows ++ (List.range size).map fun k => if 0 < k then [rows.length + k - 1] else []
def sideRows (sizes : List Nat) : List (List Nat) := sizes.foldl sideStep []
def crownRows (n : Nat) : List (List Nat) := (List.range n).map (fun _ => []) ++ (List.range n).map fun k => (List.range n).filter fun l => decide (l ≠ k)
def maxN (l : List Nat) : Nat := l.foldl max 0
def offs : Nat → List Nat → List (Nat × Nat)
  | _, [] => []
  | o, s :: r => (o, s) :: offs (o + s) r
def boxCert (a b : Nat) : Cert := {
  anti := if a ≤ b then (List.range a).map fun i => i * b + (a - 1 - i) else (List.range b).map fun j => (b - 1 - j) * b + j
  chains := if a ≤ b then (List.range a).map fun i => (List.range b).map fun j => i * b + j else (List.range b).map fun j => (List.range a).map fun i => i * b + j
  rank := (List.range (a * b)).map fun k => k / b + k % b
  top := List.range b ++ (List.range (a - 1)).map fun i => (i + 2) * b - 1 }
def layCert (sizes : List Nat) : Cert :=
  let os := offs 0 sizes
  let W := maxN sizes
  { anti := match os.find? fun p => decide (p.2 = W) with
      | some p => (List.range p.2).map fun k => p.1 + k
      | none => []
    chains := (List.range W).map fun c => (os.filter fun p => decide (c < p.2)).map fun p => p.1 + c
    rank := ((List.range sizes.length).map fun i => List.replicate (sizes.getD i 0) i).flatten
    top := os.map (·.1) }
def sideCert (sizes : List Nat) : Cert :=
  let os := offs 0 sizes
  let F := maxN sizes
  { anti := os.map (·.1)
    chains := os.map fun p => (List.range p.2).map fun k => p.1 + k
    rank := (os.map fun p => List.range p.2).flatten
    top := match os.find? fun p => decide (p.2 = F) with
      | some p => (List.range p.2).map fun k => p.1 + k
      | none => [] }
def crownCert (n : Nat) : Cert := {
  anti := List.range n
  chains := (List.range n).map fun k => [k, n + (k + 1) % n]
  rank := (List.range n).map (fun _ => 0) ++ (List.range n).map fun _ => 1
  top := [1, n] }
def lists : Nat → List (List Nat)
  | 0 => [[]]
  | n + 1 => ((List.range 5).map fun k => (lists n).map fun l => (k + 1) :: l).flatten
theorem lists_mem : ∀ {n : Nat} {l : List Nat}, l.length = n → (∀ x ∈ l, 1 ≤ x ∧ x ≤ 5) → l ∈ lists n
  | 0, [], _, _ => List.mem_singleton.mpr rfl
  | n + 1, x :: r, hl, hx => by
    have h := hx x List.mem_cons_self
    refine List.mem_flatten.mpr ⟨(lists n).map fun l => (x - 1 + 1) :: l, List.mem_map.mpr ⟨x - 1, List.mem_range.mpr (by omega), rfl⟩, ?_⟩
    refine List.mem_map.mpr ⟨r, lists_mem (by simpa using hl) fun y hy => hx y (List.mem_cons_of_mem _ hy), ?_⟩
    rw [Nat.sub_add_cancel h.1]
theorem box_all : ((List.range 4).all fun a => (List.range 6).all fun b => holds (boxRows (a + 1) (b + 1)) (min (a + 1) (b + 1)) (a + 1 + (b + 1) - 1) (boxCert (a + 1) (b + 1))) = true := by decide +kernel
theorem crown_all : ((List.range 11).all fun n => holds (crownRows (n + 2)) (n + 2) 2 (crownCert (n + 2))) = true := by decide +kernel
theorem lay_all1 : ((List.range 4).all fun n => (lists (n + 1)).all fun s => holds (layRows s) (maxN s) s.length (layCert s)) = true := by decide +kernel
theorem side_all1 : ((List.range 4).all fun n => (lists (n + 1)).all fun s => holds (sideRows s) s.length (maxN s) (sideCert s)) = true := by decide +kernel
theorem box_holds {a b : Nat} (h1 : 1 ≤ a) (h2 : a ≤ 4) (h3 : 1 ≤ b) (h4 : b ≤ 6) : holds (boxRows a b) (min a b) (a + b - 1) (boxCert a b) = true := by
  have h := box_all
  rw [List.all_eq_true] at h
  have h := h (a - 1) (List.mem_range.mpr (by omega))
  rw [List.all_eq_true] at h
  have h := h (b - 1) (List.mem_range.mpr (by omega))
  rw [Nat.sub_add_cancel h1, Nat.sub_add_cancel h3] at h
  exact h
theorem crown_holds {n : Nat} (h1 : 2 ≤ n) (h2 : n ≤ 12) : holds (crownRows n) n 2 (crownCert n) = true := by
  have h := crown_all
  rw [List.all_eq_true] at h
  have h := h (n - 2) (List.mem_range.mpr (by omega))
  rw [Nat.sub_add_cancel h1] at h
  exact h
theorem lay_holds {s : List Nat} (h1 : 1 ≤ s.length) (h2 : s.length ≤ 4) (h : ∀ x ∈ s, 1 ≤ x ∧ x ≤ 5) : holds (layRows s) (maxN s) s.length (layCert s) = true := by
  have h0 := lay_all1
  rw [List.all_eq_true] at h0
  have h0 := h0 (s.length - 1) (List.mem_range.mpr (by omega))
  rw [Nat.sub_add_cancel h1, List.all_eq_true] at h0
  exact h0 s (lists_mem rfl h)
theorem side_holds {s : List Nat} (h1 : 1 ≤ s.length) (h2 : s.length ≤ 4) (h : ∀ x ∈ s, 1 ≤ x ∧ x ≤ 5) : holds (sideRows s) s.length (maxN s) (sideCert s) = true := by
  have h0 := side_all1
  rw [List.all_eq_true] at h0
  have h0 := h0 (s.length - 1) (List.mem_range.mpr (by omega))
  rw [Nat.sub_add_cancel h1, List.all_eq_true] at h0
  exact h0 s (lists_mem rfl h)
end FL

set_option maxHeartbeats 4000000
/-! set(xs) of a list of whole numbers, as the set that sorted and len take. -/
namespace SL
open PySem PySem.Spec PyProof.Rows L2
section
variable {P : Program} {w : World} {A : Around} {E : Value → Shared → Prop} {s : Shared}
/-- the fresh set object -/
abbrev fresh0 (w : World) : Obj := { cls := .type "set", dict := none, data := .set #[] 0 (.fresh 0 0 (!w.params.followText "set-order")) }
theorem ints_at {items : Array Value} {ns : List Int} (hit : IntsAre items.toList ns) {i : Nat} {v : Value} (hv : items[i]? = some v) : ∃ k t, ns[i]? = some k ∧ v = .int k t := by
  have hsz : items.size = ns.length := by
    have q := IntsAre.length hit
    simpa using q
  have hi : i < ns.length := hsz ▸ (Array.getElem?_eq_some_iff.mp hv).1
  obtain ⟨t, e⟩ := PyProof.Rows.IntsAre.int_at hit i v (by rw [Array.getElem?_toList]; exact hv)
  exact ⟨ns[i], t, List.getElem?_eq_getElem hi, by rw [e, List.getD_eq_getElem?_getD, List.getElem?_eq_getElem hi]; rfl⟩
set_option maxHeartbeats 8000000 in
theorem call_setL {l : Addr} {items : Array Value} (ns : List Int) {Q : Value → Shared → Prop} (hh : A.handled = none) (hl : s.heap.IsList l items) (hit : IntsAre items.toList ns) (hb : ns.length + 1 < scanBound)
    (h : ∀ (h' : Heap) (tk n : Nat), SetR w h' s.heap.objs.size (fun j => decide (j ∈ ns)) n → n ≤ ns.length → (∀ b o, s.heap.get? b = some o → h'.get? b = some o) → Q (.ref s.heap.objs.size) { s with heap := h', toks := tk }) :
    wpAny (model P w) A (call (.type "set") [.ref l]) Q E s := by
  have hsz : items.size = ns.length := by
    have q := IntsAre.length hit
    simpa using q
  obtain ⟨cc, tl, hmro⟩ := F.called_set.mro
  have q1 := F.called_set.made
  have q2 := F.called_set.sub
  have q3 := F.called_set.notType
  have q4 := F.called_set.canCreate
  have q5 := F.typeCall_set_1 (.ref l)
  refine wpAny_call (codeAny_of_tree ?_)
  show wpAny _ _ (callAny (.type "set") _) _ _ _
  refine wpAny_pure ⟨Code.quiet_builtin _ (by decide +kernel), codeAny_builtin F.entry_type_call ?_⟩
  rw [Around.under_plain (weight_type_call_type "set" [.ref l] []) rfl]
  repeat (any_goals (first | assumption | wp_step))
  refine codeAny_mono (code_set_led1 (.ref l) (E := E) (Q₁ := fun obj s₁ => obj = .ref s.heap.objs.size ∧ s₁ = { s with heap := s.heap.push (fresh0 w) }) ⟨rfl, rfl⟩) fun r s₁ hr => ?_
  rcases r with e | fl
  · exact hr
  cases fl with
  | ret obj =>
    obtain ⟨rfl, rfl⟩ := hr
    have hS : (s.heap.push (fresh0 w)).get? s.heap.objs.size = some (fresh0 w) := Heap.get?_push_size _ rfl
    have hT : Shared.TypeIs { s with heap := s.heap.push (fresh0 w) } (.ref s.heap.objs.size) "set" := ⟨_, hS, rfl⟩
    have q6 := F.called_set.init.lookup
    have q7 := F.called_set.init.bind (.ref s.heap.objs.size)
    repeat (any_goals (first | assumption | wp_step))
    refine codeAny_mono (codeAny_call_builtin (R := wants (fun r s₂ => r = .none ∧ ∃ h' tk n, s₂ = { s with heap := h', toks := tk } ∧ SetR w h' s.heap.objs.size (fun j => decide (j ∈ ns)) n ∧ n ≤ ns.length ∧ ∀ b o, s.heap.get? b = some o → h'.get? b = some o) E)
      F.called_set.init.plain F.entry_set_init (check_set_init_1 hT ?_)) fun r₂ s₂ hr₂ => ?_
    · obtain ⟨⟨oc, od, dt, osl⟩, hol, rfl, nl, rfl⟩ := hl
      have hl1 : (s.heap.push (fresh0 w)).IsList l items := ⟨_, Heap.get?_push_of_some _ hol, rfl, nl, rfl⟩
      have hol' : (s.heap.push (fresh0 w)).get? l = some { cls := .type "list", dict := od, data := .seq items nl, slots := osl } := Heap.get?_push_of_some _ hol
      have q8 := F.sub_list_set
      have q9 := F.sub_list_frozenset
      have q0 : (Value.type "list" == Value.type "dict") = false := by decide
      unfold Builtin.«set.__init__» noKeywords Builtin.Frozenset.updateFrom
      generalize hPI : pyIter = PI
      wp_walk
      subst hPI
      refine wpAny_pyIter_list hl1 ?_
      refine wpAny_bind (wpAny_runValue ?_)
      have hlS : l < s.heap.objs.size := Heap.lt_size hol
      have hz : (s.heap.push (fresh0 w)).objs.size = s.heap.objs.size + 1 := Heap.size_push ..
      have nI : l ≠ (s.heap.push (fresh0 w)).objs.size := by rw [hz]; exact Nat.ne_of_lt (Nat.lt_succ_of_lt hlS)
      have nS : s.heap.objs.size ∉ [(s.heap.push (fresh0 w)).objs.size, l] := by
        rw [hz]
        intro m
        rcases List.mem_cons.mp m with e | m
        · exact absurd e (Nat.ne_of_lt (Nat.lt_succ_self _))
        · exact absurd (List.mem_singleton.mp m) (Nat.ne_of_gt hlS)
      refine set_update_ints ((Walks.list (by simp [hh]) _ l nI items).toS) s.heap.objs.size nS ns hsz hb (fun i v hv => ints_at hit hv) (items.size - 0) 0 _ (by omega) (Nat.zero_le _)
        ⟨⟨_, Heap.get?_push_size _ rfl, rfl, rfl⟩, (hl1.push _)⟩ ⟨0, Nat.le_refl 0, setR_new_at (Heap.get?_push_of_some _ hS)⟩ fun s' n hm hn hS' => ?_
      obtain ⟨h', g2, d', tk', os'⟩ := s'
      obtain rfl : g2 = s.gens := hm.gens
      obtain rfl : d' = s.drawn := hm.drawn
      obtain rfl : os' = s.os := hm.os
      show wpAny _ _ _ _ _ _
      refine wpAny_pure ?_
      show wpAny _ _ (ret Value.none) _ _ _
      refine wpAny_pure ⟨rfl, h', tk', n, rfl, hS', hsz ▸ hn, fun b o e => ?_⟩
      have hb0 : b < s.heap.objs.size := Heap.lt_size e
      refine hm.heap b o (fun m => ?_) (Heap.get?_push_of_some _ (Heap.get?_push_of_some _ e))
      rcases List.mem_cons.mp m with e1 | m
      · exact absurd e1 (Nat.ne_of_lt hb0)
      · have e1 := List.mem_singleton.mp m
        rw [hz] at e1
        exact absurd e1 (Nat.ne_of_lt (Nat.lt_succ_of_lt hb0))
    · rcases r₂ with e | fl₂
      · exact hr₂
      cases fl₂ with
      | ret r =>
        obtain ⟨rfl, h', tk, n, rfl, hS', hn', hk'⟩ := hr₂
        repeat (any_goals (first | assumption | wp_step))
        exact h _ _ n hS' hn' hk'
      | _ => exact hr₂.elim
  | _ => exact hr.elim
end
/-- its members, each once, are as many as it says -/
theorem setR_out {w : World} {h : Heap} {a : Addr} {S : Int → Bool} {n : Nat} (R : SetR w h a S n) : ∃ out : List Int, out.Nodup ∧ (∀ k, k ∈ out ↔ S k = true) ∧ out.length = n := by
  obtain ⟨o, es, ep, t, _, _, _, _, nd, hm, _, _, hn, _⟩ := R
  exact ⟨es.toList.map keyOf, nd, fun k => (hm k).symm, by rw [List.length_map, Array.length_toList]; exact hn⟩
/-- set(xs), the set tracked -/
def rSetL (K : PySem.W.Frag) (w : World) : List V → Hp → VK → Prop := fun xs H Q => ∃ (l : Addr) (ns : List Int), xs = [V.ref l] ∧ SqL K H l (ns.map V.int) ∧ ns.length ≤ 4000 ∧ ∀ p n, (∃ out : List Int, out.Nodup ∧ (∀ k, k ∈ out ↔ k ∈ ns) ∧ out.length = n) → H p = none → Q (.ref p) (upd H p (SetO w p (fun j => decide (j ∈ ns)) n))
theorem cr_setL {X : Cx} (hc : X.calm = true) : CallR X (.type "set") (rSetL X.K X.w) := by
  intro pins s σ H xs us Q I r h
  obtain ⟨l, ns, rfl, hq, hn, q⟩ := h
  obtain ⟨u, rfl, rx⟩ := vals1 r
  cases rx
  obtain ⟨its, rv, pl, hz⟩ := I.list hq
  refine call_setL ns (I.ok.hd hc) pl.isList (by simpa using Vals.ints rv) (by unfold scanBound; omega) fun h' tk n hS hle hk => ?_
  have hn : H s.heap.objs.size = none := I.hok.fresh (Nat.le_refl _)
  exact ⟨.ref s.heap.objs.size, upd H s.heap.objs.size (SetO X.w s.heap.objs.size (fun j => decide (j ∈ ns)) n), I.laid (t' := tk) hk (Nat.le_refl _) (setO_new hS), rfl, q _ n (by
    obtain ⟨out, o1, o2, o3⟩ := setR_out hS
    exact ⟨out, o1, fun k => (o2 k).trans decide_eq_true_iff, o3⟩) hn⟩
end SL

namespace FW
open PySem PySem.Spec PyProof.Rows L2
def top (i : Nat) : Stmt := PySem.Challenge.pw_fewladders_k09_known_halls.main.body.getD i (.Pass ⟨0, 0, 0, 0⟩)
abbrev s_floor_of : Stmt := top 2
abbrev s_floors_of : Stmt := top 3
abbrev s_longest_of : Stmt := top 4
abbrev s_bit_of : Stmt := top 8
abbrev s_has : Stmt := top 9
abbrev s_w_mixed : Stmt := top 21
abbrev s_w_some : Stmt := top 22
abbrev s_w_grown : Stmt := top 23
abbrev s_w_fewer : Stmt := top 24
abbrev s_w_apart : Stmt := top 25
abbrev s_w_is_free : Stmt := top 26
abbrev s_w_box : Stmt := top 27
abbrev s_w_layers : Stmt := top 28
abbrev s_w_side : Stmt := top 29
abbrev s_w_crown : Stmt := top 30
abbrev s_w_put_in : Stmt := top 31
abbrev s_law : Stmt := top 32
abbrev sL_init : Stmt := inClass (top 6) 0
abbrev sL_link : Stmt := inClass (top 6) 1
abbrev sL_climbed : Stmt := inClass (top 6) 2
abbrev sL_joined : Stmt := inClass (top 6) 3
abbrev sL_add : Stmt := inClass (top 6) 5
abbrev sL_ladders : Stmt := inClass (top 6) 7
abbrev sL_reached : Stmt := inClass (top 6) 8
abbrev sL_free : Stmt := inClass (top 6) 9
abbrev sO_init : Stmt := inClass (top 17) 0
abbrev sO_is_thing : Stmt := inClass (top 17) 1
abbrev sO_need_thing : Stmt := inClass (top 17) 2
abbrev sO_need_things : Stmt := inClass (top 17) 3
abbrev sO_put : Stmt := inClass (top 17) 4
abbrev sO_things : Stmt := inClass (top 17) 6
abbrev sO_lies_above : Stmt := inClass (top 17) 7
abbrev sH_init : Stmt := inClass (top 19) 0
abbrev sH_put : Stmt := inClass (top 19) 1
abbrev sH_things : Stmt := inClass (top 19) 3
abbrev sH_lies_above : Stmt := inClass (top 19) 4
abbrev sH_ladders : Stmt := inClass (top 19) 5
abbrev sH_free : Stmt := inClass (top 19) 6
abbrev sH_floors : Stmt := inClass (top 19) 7
abbrev sH_longest : Stmt := inClass (top 19) 8
end FW
set_option maxHeartbeats 4000000
/-! The walk 0: what stands in the heap; small words. -/
namespace FW
open PySem PySem.Spec PyProof.Rows L2

/-! ### dicts with whole numbers as keys -/
def kvI {β : Type} (f : β → V) (d : List (Int × β)) : List (Key × V) := d.map fun p => (Sum.inl p.1, f p.2)
section
variable {β : Type} {f : β → V} {d : List (Int × β)} {k : Int}
theorem valV_kvI : valV (kvI f d) (Sum.inl k : Key) = (FL.aget d k).map f := by
  induction d with
  | nil => rfl
  | cons p r ih =>
    show valV ((Sum.inl p.1, f p.2) :: kvI f r) (Sum.inl k : Key) = _
    rw [FL.aget_cons]
    by_cases e : p.1 = k
    · rw [valV_pos (by rw [e]), if_pos e]; rfl
    · rw [valV_neg (fun z => e (Sum.inl.inj z)), if_neg e, ih]
theorem putK_kvI {v : β} : putK (kvI f d) (Sum.inl k : Key) (f v) = kvI f (FL.aput d k v) := by
  unfold putK FL.aput
  rw [valV_any, valV_kvI, FL.any_key, Option.isSome_map]
  split
  · unfold kvI
    rw [List.map_map, List.map_map]
    refine List.map_congr_left fun p _ => ?_
    show (if (Sum.inl p.1 : Key) = Sum.inl k then ((Sum.inl p.1 : Key), f v) else (Sum.inl p.1, f p.2)) = _
    by_cases e : p.1 = k
    · rw [if_pos (by rw [e])]
      show _ = (Sum.inl (if p.1 = k then (p.1, v) else p).1, f (if p.1 = k then (p.1, v) else p).2)
      rw [if_pos e]
    · rw [if_neg fun z => e (Sum.inl.inj z)]
      show _ = (Sum.inl (if p.1 = k then (p.1, v) else p).1, f (if p.1 = k then (p.1, v) else p).2)
      rw [if_neg e]
  · unfold kvI
    rw [List.map_append]; rfl
theorem dropK_kvI : dropK (kvI f d) (Sum.inl k : Key) = kvI f (FL.adel d k) := by
  unfold dropK FL.adel kvI
  rw [List.filter_map]
  congr 1
  refine List.filter_congr fun p _ => ?_
  show decide ((Sum.inl p.1 : Key) ≠ Sum.inl k) = decide (p.1 ≠ k)
  by_cases e : p.1 = k
  · simp [e]
  · have e2 : (Sum.inl p.1 : Key) ≠ Sum.inl k := fun z => e (Sum.inl.inj z)
    exact (decide_eq_true e2).trans (decide_eq_true e).symm
theorem len_kvI : (kvI f d).length = d.length := by unfold kvI; rw [List.length_map]
end
/-- a dict from numbers to numbers; to marks; of things seen -/
abbrev dII (d : List (Int × Int)) : HO := .dK (kvI V.int d)
abbrev dIN (d : List (Int × Nat)) : HO := .dK (kvI (fun m : Nat => V.int (m : Int)) d)
def tr1 (l : List Int) : List (Int × Unit) := l.map fun x => (x, ())
abbrev dS (l : List Int) : HO := .dK (kvI (fun _ => V.bl true) (tr1 l))
abbrev lI (l : List Int) : HO := .lst (l.map V.int)
theorem tr1_get {l : List Int} {k : Int} : (FL.aget (tr1 l) k).isSome = decide (k ∈ l) := by
  have h := @FL.aget_isSome_iff Unit (tr1 l) k
  have e : (tr1 l).map (·.1) = l := by
    unfold tr1
    rw [List.map_map]
    exact List.map_id _
  rw [e] at h
  by_cases q : k ∈ l
  · rw [h.mpr q, decide_eq_true q]
  · rw [decide_eq_false q]
    cases z : (FL.aget (tr1 l) k).isSome with
    | false => rfl
    | true => exact absurd (h.mp z) q
theorem tr1_put {l : List Int} {k : Int} (h : k ∉ l) : FL.aput (tr1 l) k () = tr1 (l ++ [k]) := by
  rw [FL.aput_new]
  · unfold tr1; rw [List.map_append]; rfl
  · cases e : FL.aget (tr1 l) k with
    | none => rfl
    | some u =>
      have := @tr1_get l k
      rw [e, decide_eq_false h] at this
      cases this
theorem tr1_len {l : List Int} : (tr1 l).length = l.length := by unfold tr1; rw [List.length_map]

/-! ### fields -/
theorem lk {a b : Str} {v : V} {r : List (Str × V)} : List.lookup a ((b, v) :: r) = if a = b then some v else List.lookup a r := by
  by_cases h : a = b
  · rw [if_pos h]; simp [List.lookup, beq_iff_eq.mpr h]
  · rw [if_neg h]; simp [List.lookup, beq_eq_false_iff_ne.mpr h]
def fO (B : Addr) (told : Nat) : List (Str × V) := [("below", .ref B), ("told", .int (told : Int))]
def fL (o L A E : Addr) : List (Str × V) := [("order", .ref o), ("linked", .ref L), ("above", .ref A), ("beneath", .ref E)]
def fH (o l : Addr) : List (Str × V) := [("order", .ref o), ("links", .ref l)]
theorem n_tb : ¬ (("told" : Str) = "below") := by decide +kernel
theorem n_bt : ¬ (("below" : Str) = "told") := by decide +kernel
theorem n_lo : ¬ (("linked" : Str) = "order") := by decide +kernel
theorem n_ao : ¬ (("above" : Str) = "order") := by decide +kernel
theorem n_al : ¬ (("above" : Str) = "linked") := by decide +kernel
theorem n_eo : ¬ (("beneath" : Str) = "order") := by decide +kernel
theorem n_el : ¬ (("beneath" : Str) = "linked") := by decide +kernel
theorem n_ea : ¬ (("beneath" : Str) = "above") := by decide +kernel
theorem n_ol : ¬ (("order" : Str) = "linked") := by decide +kernel
theorem n_oa : ¬ (("order" : Str) = "above") := by decide +kernel
theorem n_la : ¬ (("linked" : Str) = "above") := by decide +kernel
theorem n_oe : ¬ (("order" : Str) = "beneath") := by decide +kernel
theorem n_le : ¬ (("linked" : Str) = "beneath") := by decide +kernel
theorem n_ae : ¬ (("above" : Str) = "beneath") := by decide +kernel
theorem n_ko : ¬ (("links" : Str) = "order") := by decide +kernel
theorem n_ok : ¬ (("order" : Str) = "links") := by decide +kernel
section
variable {B o L A E l : Addr} {t : Nat}
theorem fO_below : (fO B t).lookup ("below" : Str) = some (.ref B) := by unfold fO; rw [lk, if_pos rfl]
theorem fO_told : (fO B t).lookup ("told" : Str) = some (.int (t : Int)) := by unfold fO; rw [lk, if_neg n_tb, lk, if_pos rfl]
theorem fO_no {m : Str} (h : ¬ m = "below" ∧ ¬ m = "told") : (fO B t).lookup m = none := by unfold fO; rw [lk, if_neg h.1, lk, if_neg h.2]; rfl
theorem fO_put {t' : Nat} : putF ("told" : Str) (.int (t' : Int)) (fO B t) = fO B t' := by
  unfold fO putF
  rw [if_neg n_bt]
  unfold putF
  rw [if_pos rfl]
theorem fO_mk : putF ("told" : Str) (.int (t : Int)) (putF ("below" : Str) (.ref B) []) = fO B t := by
  show (if ("below" : Str) = "told" then [(("below" : Str), V.int (t : Int))] else (("below" : Str), V.ref B) :: putF ("told" : Str) (V.int (t : Int)) []) = _
  rw [if_neg n_bt]; rfl
theorem fL_order : (fL o L A E).lookup ("order" : Str) = some (.ref o) := by unfold fL; rw [lk, if_pos rfl]
theorem fL_linked : (fL o L A E).lookup ("linked" : Str) = some (.ref L) := by unfold fL; rw [lk, if_neg n_lo, lk, if_pos rfl]
theorem fL_above : (fL o L A E).lookup ("above" : Str) = some (.ref A) := by unfold fL; rw [lk, if_neg n_ao, lk, if_neg n_al, lk, if_pos rfl]
theorem fL_beneath : (fL o L A E).lookup ("beneath" : Str) = some (.ref E) := by unfold fL; rw [lk, if_neg n_eo, lk, if_neg n_el, lk, if_neg n_ea, lk, if_pos rfl]
theorem fL_no {m : Str} (h : ¬ m = "order" ∧ ¬ m = "linked" ∧ ¬ m = "above" ∧ ¬ m = "beneath") : (fL o L A E).lookup m = none := by
  unfold fL; rw [lk, if_neg h.1, lk, if_neg h.2.1, lk, if_neg h.2.2.1, lk, if_neg h.2.2.2]; rfl
theorem fL_put {L' : Addr} : putF ("linked" : Str) (.ref L') (fL o L A E) = fL o L' A E := by
  unfold fL putF
  rw [if_neg n_ol]
  unfold putF
  rw [if_pos rfl]
theorem fL_mk : putF ("beneath" : Str) (.ref E) (putF ("above" : Str) (.ref A) (putF ("linked" : Str) (.ref L) (putF ("order" : Str) (.ref o) []))) = fL o L A E := by
  have e1 : putF ("linked" : Str) (.ref L) (putF ("order" : Str) (.ref o) []) = [(("order" : Str), V.ref o), (("linked" : Str), V.ref L)] := by
    show (if ("order" : Str) = "linked" then _ else (("order" : Str), V.ref o) :: putF ("linked" : Str) (V.ref L) []) = _
    rw [if_neg n_ol]; rfl
  have e2 : putF ("above" : Str) (.ref A) [(("order" : Str), V.ref o), (("linked" : Str), V.ref L)] = [(("order" : Str), V.ref o), (("linked" : Str), V.ref L), (("above" : Str), V.ref A)] := by
    show (if ("order" : Str) = "above" then _ else (("order" : Str), V.ref o) :: (if ("linked" : Str) = "above" then _ else (("linked" : Str), V.ref L) :: putF ("above" : Str) (V.ref A) [])) = _
    rw [if_neg n_oa, if_neg n_la]; rfl
  rw [e1, e2]
  show (if ("order" : Str) = "beneath" then _ else (("order" : Str), V.ref o) :: (if ("linked" : Str) = "beneath" then _ else (("linked" : Str), V.ref L) :: (if ("above" : Str) = "beneath" then _ else (("above" : Str), V.ref A) :: putF ("beneath" : Str) (V.ref E) []))) = _
  rw [if_neg n_oe, if_neg n_le, if_neg n_ae]; rfl
theorem fH_order : (fH o l).lookup ("order" : Str) = some (.ref o) := by unfold fH; rw [lk, if_pos rfl]
theorem fH_links : (fH o l).lookup ("links" : Str) = some (.ref l) := by unfold fH; rw [lk, if_neg n_ko, lk, if_pos rfl]
theorem fH_no {m : Str} (h : ¬ m = "order" ∧ ¬ m = "links") : (fH o l).lookup m = none := by unfold fH; rw [lk, if_neg h.1, lk, if_neg h.2]; rfl
theorem fH_mk : putF ("links" : Str) (.ref l) (putF ("order" : Str) (.ref o) []) = fH o l := by
  show (if ("order" : Str) = "links" then _ else (("order" : Str), V.ref o) :: putF ("links" : Str) (V.ref l) []) = _
  rw [if_neg n_ok]; rfl
end

/-! ### what the program's objects look like -/
/-- the classes' addresses -/
structure CC where
  H : Addr
  O : Addr
  L : Addr
/-- an Order at o whose dict is at B -/
structure OrdAt (c : CC) (H : Hp) (o B : Addr) (bel : List (Int × Nat)) (told : Nat) : Prop where
  ob : ∃ dx, H o = some (.ins c.O dx (fO B told))
  dc : H B = some (dIN bel)
structure LA where
  o : Addr
  l : Addr
  L : Addr
  A : Addr
  E : Addr
/-- a Links at a.l -/
structure LnkAt (c : CC) (H : Hp) (a : LA) (L : List Int) (ab be : List (Int × Int)) : Prop where
  ob : ∃ dx, H a.l = some (.ins c.L dx (fL a.o a.L a.A a.E))
  ls : H a.L = some (lI L)
  da : H a.A = some (dII ab)
  de : H a.E = some (dII be)
  nAE : a.A ≠ a.E
theorem OrdAt.same {c : CC} {H H' : Hp} {o B : Addr} {bel : List (Int × Nat)} {told : Nat} (h : OrdAt c H o B bel told) (s : ∀ x u, (x = o ∨ x = B) → H x = some u → H' x = some u) : OrdAt c H' o B bel told := by
  obtain ⟨⟨dx, h1⟩, h2⟩ := h
  exact ⟨⟨dx, s _ _ (.inl rfl) h1⟩, s _ _ (.inr rfl) h2⟩
theorem LnkAt.same {c : CC} {H H' : Hp} {a : LA} {L : List Int} {ab be : List (Int × Int)} (h : LnkAt c H a L ab be) (s : ∀ x u, H x = some u → H' x = some u) : LnkAt c H' a L ab be := by
  obtain ⟨⟨dx, h1⟩, h2, h3, h4, h5⟩ := h
  exact ⟨⟨dx, s _ _ h1⟩, s _ _ h2, s _ _ h3, s _ _ h4, h5⟩
theorem mapI_inj : ∀ {l m : List Int}, l.map V.int = m.map V.int → l = m
  | [], [], _ => rfl
  | [], b :: m, h => by cases h
  | a :: l, [], h => by cases h
  | a :: l, b :: m, h => by
    rw [List.map_cons, List.map_cons, List.cons.injEq] at h
    rw [V.int.inj h.1, mapI_inj h.2]

/-! ### defs as they stand, their promises -/
section
variable (P : Program) (w : World) (K : PySem.W.Frag) (mg : Str → Option Value) (base : Heap)
/-- the class C's method m stands, and is st -/
def MD (C : Addr) (m qual : Str) (st : Stmt) : Prop := ∃ f fd, Meth K C m f ∧ FunD K m qual (defArgs st) (defBody st) (defScope st) [] [] f fd
def GD (x : Str) (st : Stmt) : Prop := ∃ f fd, mg x = some (.ref f) ∧ FunD K x x (defArgs st) (defBody st) (defScope st) [] [] f fd
/-- the method m keeps sp -/
def MOk (CX : CXT) (C : Addr) (m : Str) (ps : List Str) (k : Nat) (sp : Sp) : Prop := ∃ f fd, Meth K C m f ∧ Binds K fd ps [] ∧ FnOk P w K mg base CX k f fd ps sp
def GOk (CX : CXT) (x : Str) (ps : List Str) (k : Nat) (sp : Sp) : Prop := ∃ f fd, mg x = some (.ref f) ∧ PySem.W.keepIn K (.ref f) = true ∧ Binds K fd ps [] ∧ FnOk P w K mg base CX k f fd ps sp
end
section
variable {P : Program} {w : World} {K : PySem.W.Frag} {mg : Str → Option Value} {base : Heap} {C : Addr} {m x qual : Str} {st : Stmt} {ps N : List Str} {k : Nat} {sp : Sp} {CX : CXT}
theorem MOk.mono {j : Nat} (h : MOk P w K mg base CX C m ps j sp) (e : j ≤ k) : MOk P w K mg base CX C m ps k sp := by
  obtain ⟨f, fd, a, b, F⟩ := h
  exact ⟨f, fd, a, b, F.mono e⟩
theorem GOk.mono {j : Nat} (h : GOk P w K mg base CX x ps j sp) (e : j ≤ k) : GOk P w K mg base CX x ps k sp := by
  obtain ⟨f, fd, a, b, c, F⟩ := h
  exact ⟨f, fd, a, b, c, F.mono e⟩
theorem MOk.imp {sp' : Sp} (h : MOk P w K mg base CX C m ps k sp) (e : ∀ vs H Q E, sp' vs H Q E → sp vs H Q E) : MOk P w K mg base CX C m ps k sp' := by
  obtain ⟨f, fd, a, b, F⟩ := h
  exact ⟨f, fd, a, b, F.imp e⟩
theorem GOk.imp {sp' : Sp} (h : GOk P w K mg base CX x ps k sp) (e : ∀ vs H Q E, sp' vs H Q E → sp vs H Q E) : GOk P w K mg base CX x ps k sp' := by
  obtain ⟨f, fd, a, b, c, F⟩ := h
  exact ⟨f, fd, a, b, c, F.imp e⟩
/-- THE RULE for a method that lets nothing out -/
theorem MD.ok (D : MD K C m qual st) (S : FnScope N ps (defScope st))
    (hb : ∀ (kV doc pm : Value) (an : Option Addr) (cdv ct : Value) (us : List Value), us.length = ps.length → bindArgs (PySem.W.fnOf m qual (defArgs st) (defBody st) (defScope st) .none kV doc pm an cdv ct) ⟨us, []⟩ = pure (ps.zip us))
    (len : ∀ vs H Q E, sp vs H Q E → vs.length = ps.length)
    (hbody : ∀ (f : Addr) (cdv : Value) (A : Around) (outer : List Env) (s : Shared) (H : Hp) (vs : List V) (Q : VK) (E : XK), Room k (A.deeper (envOfC qual (defScope st) s.heap.objs.size f cdv)) → sp vs H Q E →
      ∃ t, PSs (cxOf CX0 P w K mg base N qual (defScope st) f cdv A outer s H E).nox (defBody st) t ∧ t { nx := fun _ H' => Q .non H', rt := Q } (start N vs) H) : MOk P w K mg base CX0 C m ps (k + 1) sp := by
  obtain ⟨f, fd, a, F⟩ := D
  refine ⟨f, fd, a, F.bindsN hb, F.ok S len fun cdv A outer s H vs Q E hr h => ?_⟩
  obtain ⟨t, h, q⟩ := hbody f cdv A outer s H vs Q E hr h
  exact ⟨t, h.nox, q⟩
theorem GD.ok (D : GD K mg x st) (S : FnScope N ps (defScope st))
    (hb : ∀ (kV doc pm : Value) (an : Option Addr) (cdv ct : Value) (us : List Value), us.length = ps.length → bindArgs (PySem.W.fnOf x x (defArgs st) (defBody st) (defScope st) .none kV doc pm an cdv ct) ⟨us, []⟩ = pure (ps.zip us))
    (len : ∀ vs H Q E, sp vs H Q E → vs.length = ps.length)
    (hbody : ∀ (f : Addr) (cdv : Value) (A : Around) (outer : List Env) (s : Shared) (H : Hp) (vs : List V) (Q : VK) (E : XK), Room k (A.deeper (envOfC x (defScope st) s.heap.objs.size f cdv)) → sp vs H Q E →
      ∃ t, PSs (cxOf CX0 P w K mg base N x (defScope st) f cdv A outer s H E).nox (defBody st) t ∧ t { nx := fun _ H' => Q .non H', rt := Q } (start N vs) H) : GOk P w K mg base CX0 x ps (k + 1) sp := by
  obtain ⟨f, fd, a, F⟩ := D
  refine ⟨f, fd, a, F.kp, F.bindsN hb, F.ok S len fun cdv A outer s H vs Q E hr h => ?_⟩
  obtain ⟨t, h, q⟩ := hbody f cdv A outer s H vs Q E hr h
  exact ⟨t, h.nox, q⟩
/-- .. for a method that may raise -/
theorem MD.okX (D : MD K C m qual st) (S : FnScope N ps (defScope st))
    (hb : ∀ (kV doc pm : Value) (an : Option Addr) (cdv ct : Value) (us : List Value), us.length = ps.length → bindArgs (PySem.W.fnOf m qual (defArgs st) (defBody st) (defScope st) .none kV doc pm an cdv ct) ⟨us, []⟩ = pure (ps.zip us))
    (len : ∀ vs H Q E, sp vs H Q E → vs.length = ps.length)
    (hbody : ∀ (f : Addr) (cdv : Value) (A : Around) (outer : List Env) (s : Shared) (H : Hp) (vs : List V) (Q : VK) (E : XK), Room k (A.deeper (envOfC qual (defScope st) s.heap.objs.size f cdv)) → sp vs H Q E →
      ∃ t, PSs (cxOf (L2.CX P w) P w K mg base N qual (defScope st) f cdv A outer s H E) (defBody st) t ∧ t { nx := fun _ H' => Q .non H', rt := Q } (start N vs) H) : MOk P w K mg base (L2.CX P w) C m ps (k + 1) sp := by
  obtain ⟨f, fd, a, F⟩ := D
  exact ⟨f, fd, a, F.bindsN hb, F.ok S len fun cdv A outer s H vs Q E hr h => hbody f cdv A outer s H vs Q E hr h⟩
end
end FW

set_option maxHeartbeats 4000000
/-! The walk 1: bits, Order. -/
namespace FW
open PySem PySem.Spec PyProof.Rows L2

/-- what the walk asks of the classes and names as the top has made them -/
structure Tx (K : PySem.W.Frag) (mg : Str → Option Value) (c : CC) : Prop where
  clH : Cls K c.H
  clO : Cls K c.O
  clL : Cls K c.L
  nHo : NoAttr K c.H "order"
  nHl : NoAttr K c.H "links"
  nOb : NoAttr K c.O "below"
  nOt : NoAttr K c.O "told"
  nLo : NoAttr K c.L "order"
  nLl : NoAttr K c.L "linked"
  nLa : NoAttr K c.L "above"
  nLb : NoAttr K c.L "beneath"
  mkH : PySem.W.makesIn K c.H = true
  mkO : PySem.W.makesIn K c.O = true
  mkL : PySem.W.makesIn K c.L = true
  kpH : PySem.W.keepIn K (.ref c.H) = true
  kpO : PySem.W.keepIn K (.ref c.O) = true
  kpL : PySem.W.keepIn K (.ref c.L) = true
  gH : mg "Hall" = some (.ref c.H)
  gO : mg "Order" = some (.ref c.O)
  gL : mg "Links" = some (.ref c.L)
  most : ∃ t, mg "MOST_THINGS" = some (.int 24 t)
  zLen : mg "len" = none
  zSorted : mg "sorted" = none
  zList : mg "list" = none
  zIsi : mg "isinstance" = none
  zInt : mg "int" = none
  zBool : mg "bool" = none
  zSet : mg "set" = none
  zDict : mg "dict" = none
  zMax : mg "max" = none
  zRev : mg "reversed" = none

section
variable {P : Program} {w : World} {K : PySem.W.Frag} {mg : Str → Option Value} {base : Heap} {c : CC}

/-! ### bits -/
def spBit : Sp := fun vs H Q _ => ∃ t : Int, vs = [.int t] ∧ 0 ≤ t ∧ t ≤ 100000 ∧ Q (.int ((2 ^ t.toNat : Nat) : Int)) H
def spHas : Sp := fun vs H Q _ => ∃ (m : Nat) (t : Int), vs = [.int (m : Int), .int t] ∧ 0 ≤ t ∧ Q (.bl (m.testBit t.toNat)) H
def spWithout : Sp := fun vs H Q _ => ∃ (m : Nat) (t : Int), vs = [.int (m : Int), .int t] ∧ 0 ≤ t ∧ t ≤ 100000 ∧ Q (.int (FL.clearBit m t : Nat)) H
theorem ok_bit (D : GD K mg "bit_of" s_bit_of) : GOk P w K mg base CX0 "bit_of" ["thing"] 1 spBit := by
  refine D.ok (N := ["thing"]) ⟨rfl, rfl, rfl, by decide +kernel, rfl, by decide +kernel, by decide +kernel⟩ (fun _ _ _ _ _ _ us hl => match us, hl with | [_], _ => rfl) (fun vs H Q E h => ?_) (fun f cdv A outer s H vs Q E hr h => ?_)
  · obtain ⟨t, rfl, _⟩ := h; rfl
  · obtain ⟨t, rfl, h0, h1, q⟩ := h
    refine ⟨_, pss_one (ps_ret (pe_op op_shl pe_int (pv 0))), ?_⟩
    refine ⟨_, rfl, _, _, rfl, rfl, ⟨h0, by omega, by decide⟩, ?_⟩
    have e : (1 : Int) * 2 ^ t.toNat = ((2 ^ t.toNat : Nat) : Int) := by
      rw [Int.one_mul]; exact (Int.natCast_pow 2 t.toNat).symm
    show Q (.int ((1 : Int) * 2 ^ t.toNat)) H
    rw [e]; exact q
theorem shr_nat (m k : Nat) : ((m : Int) / 2 ^ k : Int) = ((m / 2 ^ k : Nat) : Int) := by
  rw [show ((2 : Int) ^ k) = ((2 ^ k : Nat) : Int) from (Int.natCast_pow 2 k).symm]; rfl
theorem ok_has (D : GD K mg "has" s_has) : GOk P w K mg base CX0 "has" ["marks", "thing"] 1 spHas := by
  refine D.ok (N := ["marks", "thing"]) ⟨rfl, rfl, rfl, by decide +kernel, rfl, by decide +kernel, by decide +kernel⟩ (fun _ _ _ _ _ _ us hl => match us, hl with | [_, _], _ => rfl) (fun vs H Q E h => ?_) (fun f cdv A outer s H vs Q E hr h => ?_)
  · obtain ⟨m, t, rfl, _⟩ := h; rfl
  · obtain ⟨m, t, rfl, h0, q⟩ := h
    refine ⟨_, pss_one (ps_ret (pe_cmpR op_eq (pe_op op_and (pe_op op_shr (pv 0) (pv 1)) pe_int) pe_int (nomark _))), ?_⟩
    refine ⟨_, rfl, _, rfl, _, _, rfl, rfl, h0, _, _, rfl, rfl, rfl, ?_⟩
    have e : Builtin.bitAnd ((m : Int) / 2 ^ t.toNat) 1 = ((m.testBit t.toNat).toNat : Int) := by
      rw [shr_nat, bitAnd_pp (Int.natCast_nonneg _) (by omega), Int.toNat_natCast]
      show (((m / 2 ^ t.toNat) &&& 1 : Nat) : Int) = _
      rw [Nat.and_one_is_mod, Nat.testBit_eq_decide_div_mod_eq]
      have h2 := Nat.mod_two_eq_zero_or_one (m / 2 ^ t.toNat)
      rcases h2 with h2 | h2 <;> simp [h2]
    show Q (.bl (decide (V.int (Builtin.bitAnd ((m : Int) / 2 ^ t.toNat) 1) = V.int 1))) H
    rw [e]
    have e2 : decide (V.int ((m.testBit t.toNat).toNat : Int) = V.int 1) = m.testBit t.toNat := by
      cases m.testBit t.toNat <;> rfl
    rw [e2]; exact q
/-! ### Order -/
def spO_init (c : CC) : Sp := fun vs H Q _ => ∃ (p dx : Addr), vs = [.ref p] ∧ H p = some (.ins c.O dx []) ∧
  ∀ (B : Addr) (H' : Hp), H B = none → OrdAt c H' p B [] 0 → (∀ b o, H b = some o → b ≠ p → H' b = some o) → Q .non H'
theorem ok_O_init (T : Tx K mg c) (D : MD K c.O "__init__" "Order.__init__" sO_init) : MOk P w K mg base CX0 c.O "__init__" ["self"] 1 (spO_init c) := by
  refine D.ok (N := ["self"]) ⟨rfl, rfl, rfl, by decide +kernel, rfl, by decide +kernel, by decide +kernel⟩ (fun _ _ _ _ _ _ us hl => match us, hl with | [_], _ => rfl) (fun vs H Q E h => ?_) (fun f cdv A outer s H vs Q E hr h => ?_)
  · obtain ⟨p, dx, rfl, _⟩ := h; rfl
  · obtain ⟨p, dx, rfl, hp, k⟩ := h
    refine ⟨_, pss_cons (ps_fld (pv 0) pe_dnewK rfl) (pss_one (ps_fld (pv 0) pe_int rfl)), ?_⟩
    intro B hB
    have ne : p ≠ B := ne_of_none hp hB
    refine ⟨_, rfl, p, c.O, dx, [], rfl, (by rw [upd_ne ne]; exact hp), T.clO, T.nOb, (by show 0 < 1000; decide), _, rfl, p, c.O, dx, _, rfl, upd_same, T.clO, T.nOt, (by show 1 < 1000; decide), ?_⟩
    refine k B _ hB ⟨⟨dx, ?_⟩, by rw [upd_ne ne.symm, upd_ne ne.symm, upd_same]; rfl⟩ fun b o e hb => ?_
    · rw [upd_same]
      exact congrArg (fun l => some (HO.ins c.O dx l)) (fO_mk (t := 0))
    · rw [upd_ne hb, upd_ne hb, upd_ne (ne_of_none e hB)]
      exact e

def spO_is (c : CC) : Sp := fun vs H Q _ => ∃ (o B : Addr) (bel : List (Int × Nat)) (told : Nat) (x : Int), vs = [.ref o, .int x] ∧ OrdAt c H o B bel told ∧ Q (.bl (FL.aget bel x).isSome) H
theorem ok_O_is (T : Tx K mg c) (D : MD K c.O "is_thing" "Order.is_thing" sO_is_thing) : MOk P w K mg base CX0 c.O "is_thing" ["self", "one"] 1 (spO_is c) := by
  refine D.ok (N := ["self", "one"]) ⟨rfl, rfl, rfl, by decide +kernel, rfl, by decide +kernel, by decide +kernel⟩ (fun _ _ _ _ _ _ us hl => match us, hl with | [_, _], _ => rfl) (fun vs H Q E h => ?_) (fun f cdv A outer s H vs Q E hr h => ?_)
  · obtain ⟨o, B, bel, told, x, rfl, _⟩ := h; rfl
  · obtain ⟨o, B, bel, told, x, rfl, ⟨⟨dx, ho⟩, hB⟩, q⟩ := h
    have hu := hu_of hr
    refine ⟨_, pss_one (ps_ret (pe_and (pe_callB call_isi (by rfl) T.zIsi PyProof.Rows.boot_isinstance (pa_cons (pv 1) (pa_cons (pe_bltn (by rfl) T.zInt (by decide +kernel) (v := .ty "int") rfl) pa_nil)))
      (pe_and (pe_not (pe_callB call_isi (by rfl) T.zIsi PyProof.Rows.boot_isinstance (pa_cons (pv 1) (pa_cons (pe_bltn (by rfl) T.zBool (by decide +kernel) (v := .ty "bool") rfl) pa_nil)))) (pe_one (pe_cmp (pc_din hu (pv 1) (pe_fld (pv 0) rfl)) rfl))))), ?_⟩
    refine ⟨_, rfl, _, _, .type "int", .type "int", true, rfl, .ty "int", .base (.int x), kit_ty (by decide +kernel), true, rfl, iteT ?_⟩
    refine ⟨_, rfl, _, _, .type "int", .type "bool", false, rfl, .ty "bool", .base (.int x), kit_ty (by decide +kernel), false, rfl, true, rfl, iteT ?_⟩
    refine ⟨_, rfl, _, rfl, o, c.O, dx, _, _, rfl, ho, T.clO, T.nOb, fO_below, B, _, rfl, DGet.k (k := Sum.inl x) hB, ?_⟩
    rw [valV_kvI, Option.isSome_map]
    exact q
/-- a thing that is there -/
def spO_need (c : CC) : Sp := fun vs H Q _ => ∃ (o B : Addr) (bel : List (Int × Nat)) (told : Nat) (x : Int), vs = [.ref o, .int x] ∧ OrdAt c H o B bel told ∧ (FL.aget bel x).isSome = true ∧ Q .non H
theorem ok_O_need (T : Tx K mg c) (D : MD K c.O "need_thing" "Order.need_thing" sO_need_thing) (M : MOk P w K mg base CX0 c.O "is_thing" ["self", "one"] 1 (spO_is c)) : MOk P w K mg base CX0 c.O "need_thing" ["self", "one"] 2 (spO_need c) := by
  obtain ⟨f1, fd1, m1, b1, F1⟩ := M
  refine D.ok (N := ["self", "one"]) ⟨rfl, rfl, rfl, by decide +kernel, rfl, by decide +kernel, by decide +kernel⟩ (fun _ _ _ _ _ _ us hl => match us, hl with | [_, _], _ => rfl) (fun vs H Q E h => ?_) (fun f cdv A outer s H vs Q E hr h => ?_)
  · obtain ⟨o, B, bel, told, x, rfl, _⟩ := h; rfl
  · obtain ⟨o, B, bel, told, x, rfl, O, hx, q⟩ := h
    obtain ⟨dx, ho⟩ := O.ob
    refine ⟨_, pss_one (ps_if (pt_not (pt_val (pe_meth (pv 0) T.clO m1 F1 hr b1 .nil pass0 (pa_cons (pv 1) pa_nil)))) (pss_one ps_never) pss_nil), ?_⟩
    refine ⟨_, rfl, o, dx, _, rfl, ho, fO_no ⟨by decide +kernel, by decide +kernel⟩, _, rfl, o, B, bel, told, x, rfl, O, _, rfl, ?_⟩
    rw [hx]
    exact iteF q
end
end FW

set_option maxHeartbeats 4000000
/-! The walk 2: Order, the rest. -/
namespace FW
open PySem PySem.Spec PyProof.Rows L2
section
variable {P : Program} {w : World} {K : PySem.W.Frag} {mg : Str → Option Value} {base : Heap} {c : CC}

theorem itemI {ns : List Int} {i : Nat} {x : V} (h : (ns.map V.int)[i]? = some x) : ∃ z, x = .int z ∧ ns[i]? = some z := by
  rw [List.getElem?_map] at h
  cases e : ns[i]? with
  | none => rw [e] at h; cases h
  | some z => rw [e] at h; exact ⟨z, (Option.some.inj h).symm, rfl⟩
theorem memI {ns : List Int} {i : Nat} {z : Int} (h : ns[i]? = some z) : z ∈ ns := List.mem_of_getElem? h
theorem srt_perm {l m : List Int} (p : l.Perm m) (h1 : l.Pairwise (· ≤ ·)) (h2 : m.Pairwise (· < ·)) : l = m := by
  have nd : l.Nodup := p.nodup_iff.mpr (h2.imp fun h => Int.ne_of_lt h)
  refine FL.srt_ext ?_ h2 fun x => p.mem_iff
  exact (List.pairwise_and_iff.mpr ⟨h1, nd⟩).imp fun h => by have := h.1; have := h.2; omega

def spO_needs (c : CC) : Sp := fun vs H Q _ => ∃ (o B q : Addr) (bel : List (Int × Nat)) (told : Nat) (some_ : List Int), vs = [.ref o, .ref q] ∧ OrdAt c H o B bel told ∧ H q = some (lI some_) ∧
  some_.Nodup ∧ some_.length ≤ 4000 ∧ (∀ x ∈ some_, (FL.aget bel x).isSome = true) ∧ Q .non H
theorem ok_O_needs (T : Tx K mg c) (D : MD K c.O "need_things" "Order.need_things" sO_need_things) (M : MOk P w K mg base CX0 c.O "need_thing" ["self", "one"] 2 (spO_need c)) : MOk P w K mg base CX0 c.O "need_things" ["self", "some"] 3 (spO_needs c) := by
  obtain ⟨f1, fd1, m1, b1, F1⟩ := M
  have sc : FnScope ["self", "some", "one"] ["self", "some"] (defScope sO_need_things) := ⟨rfl, rfl, rfl, by decide +kernel, rfl, by decide +kernel, by decide +kernel⟩
  refine D.ok sc (fun _ _ _ _ _ _ us hl => match us, hl with | [_, _], _ => rfl) (fun vs H Q E h => ?_) (fun f cdv A outer s H vs Q E hr h => ?_)
  · obtain ⟨o, B, q, bel, told, some_, rfl, _⟩ := h; rfl
  · obtain ⟨o, B, q, bel, told, ns, rfl, O, hq, nd, hl, hx, k⟩ := h
    obtain ⟨dx, ho⟩ := O.ob
    refine ⟨_, pss_cons (ps_if (pt_not (pt_val (pe_callB call_isi (by rfl) T.zIsi PyProof.Rows.boot_isinstance (pa_cons (pv 1) (pa_cons (pe_bltn (by rfl) T.zList (by decide +kernel) (v := .ty "list") rfl) pa_nil))))) (pss_one ps_never) pss_nil)
      (pss_cons (ps_for PassesOwn.never rfl (pi_list (pv 1)) (pg_name (i := 2) sc.nd rfl (Or.inl rfl)) (pss_one (ps_expr (pe_meth (pv 0) T.clO m1 F1 hr b1 .nil pass0 (pa_cons (pv 2) pa_nil)))))
      (pss_one (ps_if (pt_cmpR op_lt (RZ.pe_lenSetI (by rfl) T.zLen (by rfl) T.zSet (pv 1)) (pe_callB call_len_seq (by rfl) T.zLen PySem.boot_len (pa_cons (pv 1) pa_nil)) (nomark _)) (pss_one ps_never) pss_nil))), ?_⟩
    refine ⟨_, rfl, _, _, .type "list", .type "list", true, rfl, .ty "list", .base (.lst hq), kit_ty (by decide +kernel), true, rfl, ?_⟩
    refine iteF ?_
    refine ⟨_, rfl, q, rfl, ⟨_, SqL.of hq⟩, for_list (K := K) (a := q) (xs := ns.map V.int) (fun i σ H2 => H2 = H ∧ ∃ v : Option V, σ = [some (.ref o), some (.ref q), v]) ⟨rfl, none, rfl⟩ (fun i σ H2 _ ⟨e, _⟩ => e ▸ SqL.of hq) ?_ ?_⟩
    · rintro i y σ H2 hi ⟨rfl, v, rfl⟩
      obtain ⟨z, rfl, hz⟩ := itemI hi
      refine ⟨_, rfl, o, dx, _, rfl, ho, fO_no ⟨by decide +kernel, by decide +kernel⟩, _, rfl, o, B, bel, told, z, rfl, O, hx z (memI hz), ?_⟩
      exact ⟨rfl, _, rfl⟩
    · rintro σ H2 ⟨rfl, v, rfl⟩
      refine ⟨_, rfl, q, ns, rfl, SqL.of hq, nd, hl, _, rfl, q, _, rfl, Or.inl (SqL.of hq), _, _, rfl, rfl, _, rfl, ?_⟩
      rw [List.length_map, decide_eq_false (Int.lt_irrefl _)]
      exact iteF k

def spO_put (c : CC) : Sp := fun vs H Q _ => ∃ (o B q : Addr) (bel : List (Int × Nat)) (told : Nat) (some_ : List Int), vs = [.ref o, .ref q] ∧ OrdAt c H o B bel told ∧ H q = some (lI some_) ∧
  some_.Nodup ∧ (∀ x ∈ some_, (FL.aget bel x).isSome = true) ∧ (∀ x ∈ some_, 0 ≤ x ∧ x ≤ 100000) ∧ some_.length ≤ 4000 ∧ bel.length < 24 ∧
  ∀ H', OrdAt c H' o B (FL.aput bel told (FL.marksOf bel some_)) (told + 1) → (∀ b u, b ≠ o → b ≠ B → H b = some u → H' b = some u) → Q (.int (told : Int)) H'
theorem ok_O_put (T : Tx K mg c) (D : MD K c.O "put" "Order.put" sO_put) (M : MOk P w K mg base CX0 c.O "need_things" ["self", "some"] 3 (spO_needs c)) (G : GOk P w K mg base CX0 "bit_of" ["thing"] 1 spBit) : MOk P w K mg base CX0 c.O "put" ["self", "some"] 4 (spO_put c) := by
  obtain ⟨f1, fd1, m1, b1, F1⟩ := M
  obtain ⟨f2, fd2, g2, k2, b2, F2⟩ := G
  obtain ⟨t24, mt⟩ := T.most
  have sc : FnScope ["self", "some", "marks", "one"] ["self", "some"] (defScope sO_put) := ⟨rfl, rfl, rfl, by decide +kernel, rfl, by decide +kernel, by decide +kernel⟩
  refine D.ok sc (fun _ _ _ _ _ _ us hl => match us, hl with | [_, _], _ => rfl) (fun vs H Q E h => ?_) (fun f cdv A outer s H vs Q E hr h => ?_)
  · obtain ⟨o, B, q, bel, told, some_, rfl, _⟩ := h; rfl
  · obtain ⟨o, B, q, bel, told, ns, rfl, O, hq, nd, hx, hrng, hl4, hl, k⟩ := h
    obtain ⟨⟨dx, ho⟩, hB⟩ := id O
    have hu := hu_of hr
    have hr1 : Room 1 _ := hr.mono (by decide)
    have noB : o ≠ B := ne_of ho hB (by intro z; cases z)
    refine ⟨_, pss_cons (ps_expr (pe_meth (pv 0) T.clO m1 F1 hr b1 .nil pass0 (pa_cons (pv 1) pa_nil)))
      (pss_cons (ps_if (pt_cmpR op_ge (pe_callB call_lenD (by rfl) T.zLen PySem.boot_len (pa_cons (pe_fld (pv 0) rfl) pa_nil)) (pe_glob (by rfl) mt (v := .int 24) ⟨t24, rfl⟩) (nomark _)) (pss_one ps_never) pss_nil)
      (pss_cons (ps_set (i := 2) sc.nd rfl (Or.inl rfl) pe_int)
      (pss_cons (ps_for PassesOwn.never rfl (pi_list (pv 1)) (pg_name (i := 3) sc.nd rfl (Or.inl rfl))
        (pss_one (ps_set (i := 2) sc.nd rfl (Or.inl rfl) (pe_op op_or (pe_op op_or (pv 2) (pe_call F2 hr1 (by rfl) g2 k2 b2 .nil pass0 (pa_cons (pv 3) pa_nil))) (pe_dget hu (pe_fld (pv 0) rfl) (pv 3) (fun _ _ => rfl))))))
      (pss_cons (ps_dput hu (pe_fld (pv 0) rfl) (pe_fld (pv 0) rfl) (pv 2) rfl)
      (pss_cons (ps_fld (pv 0) (pe_op op_add (pe_fld (pv 0) rfl) pe_int) rfl)
      (pss_one (ps_ret (pe_op op_sub (pe_fld (pv 0) rfl) pe_int)))))))), ?_⟩
    refine ⟨_, rfl, o, dx, _, rfl, ho, fO_no ⟨by decide +kernel, by decide +kernel⟩, _, rfl, o, B, q, bel, told, ns, rfl, O, hq, nd, hl4, hx, ?_⟩
    refine ⟨_, rfl, o, c.O, dx, _, _, rfl, ho, T.clO, T.nOb, fO_below, B, _, rfl, hB, _, _, rfl, rfl, _, rfl, ?_⟩
    rw [len_kvI, decide_eq_false (by omega)]
    refine iteF ?_
    refine ⟨_, rfl, q, rfl, ⟨_, SqL.of hq⟩, for_list (K := K) (a := q) (xs := ns.map V.int) (fun i σ H2 => H2 = H ∧ ∃ v : Option V, σ = [some (.ref o), some (.ref q), some (.int (FL.marksOf bel (ns.take i) : Nat)), v]) ⟨rfl, none, rfl⟩ (fun i σ H2 _ ⟨e, _⟩ => e ▸ SqL.of hq) ?_ ?_⟩
    · rintro i y σ H2 hi ⟨rfl, v, rfl⟩
      obtain ⟨z, rfl, hz⟩ := itemI hi
      obtain ⟨m, hm⟩ := Option.isSome_iff_exists.mp (hx z (memI hz))
      obtain ⟨z0, z1⟩ := hrng z (memI hz)
      refine ⟨_, rfl, _, rfl, z, rfl, z0, z1, _, _, rfl, rfl, _, rfl, o, c.O, dx, _, _, rfl, ho, T.clO, T.nOb, fO_below, _, rfl, B, .int (m : Int), rfl, ?_, _, _, rfl, rfl, ?_⟩
      · have g := DGet.k (k := Sum.inl z) hB
        rw [valV_kvI, hm] at g
        exact g
      · refine ⟨rfl, some (.int z), ?_⟩
        have e : FL.marksOf bel (ns.take (i + 1)) = FL.marksOf bel (ns.take i) ||| 2 ^ z.toNat ||| m := by
          unfold FL.marksOf
          rw [List.take_add_one, hz]
          show List.foldl _ 0 (ns.take i ++ [z]) = _
          rw [List.foldl_append, List.foldl_cons, List.foldl_nil, hm, Option.getD_some]
        show [some (V.ref o), some (V.ref q), some (V.int (Builtin.bitOr (Builtin.bitOr (FL.marksOf bel (ns.take i) : Nat) ((2 ^ z.toNat : Nat) : Int)) (m : Int))), some (V.int z)] = _
        rw [Bits.bitOr_pp (Int.natCast_nonneg _) (Int.natCast_nonneg _), Bits.bitOr_pp (Int.natCast_nonneg _) (Int.natCast_nonneg _), Int.toNat_natCast, Int.toNat_natCast, Int.toNat_natCast, Int.toNat_natCast, ← e]
    · rintro σ H2 ⟨rfl, v, rfl⟩
      rw [List.length_map, List.take_length]
      refine ⟨_, rfl, _, rfl, o, c.O, dx, _, _, rfl, ho, T.clO, T.nOb, fO_below, _, rfl, o, c.O, dx, _, _, rfl, ho, T.clO, T.nOt, fO_told, B, _, rfl, DPut.k (k := Sum.inl (told : Int)) hB (by rw [len_kvI]; exact small1000 (by omega)), ?_⟩
      rw [show (V.int (FL.marksOf bel ns : Nat)) = (fun m : Nat => V.int (m : Int)) (FL.marksOf bel ns) from rfl, putK_kvI]
      have ho' : ∀ u, (upd H2 B u) o = some (.ins c.O dx (fO B told)) := fun u => by rw [upd_ne noB]; exact ho
      refine ⟨_, rfl, o, c.O, dx, _, _, rfl, ho' _, T.clO, T.nOt, fO_told, _, _, rfl, rfl, _, rfl, o, c.O, dx, _, rfl, ho' _, T.clO, T.nOt, (by show 2 < 1000; decide), ?_⟩
      have e1 : putF ("told" : Str) (V.int ((told : Int) + 1)) (fO B told) = fO B (told + 1) := by
        rw [show ((told : Int) + 1) = ((told + 1 : Nat) : Int) from rfl]; exact fO_put
      rw [e1]
      refine ⟨_, rfl, o, c.O, dx, _, _, rfl, upd_same, T.clO, T.nOt, fO_told, _, _, rfl, rfl, ?_⟩
      have e2 : (((told + 1 : Nat) : Int) - 1) = (told : Int) := by omega
      show Q (.int (((told + 1 : Nat) : Int) - 1)) _
      rw [e2]
      refine k _ ⟨⟨dx, upd_same⟩, by rw [upd_ne noB.symm, upd_same]⟩ fun b u n1 n2 e => ?_
      rw [upd_ne n1, upd_ne n2]; exact e
end
end FW

set_option maxHeartbeats 4000000
/-! The walk 3: Order: take, things, lies_above, are_apart. -/
namespace FW
open PySem PySem.Spec PyProof.Rows L2
section
variable {P : Program} {w : World} {K : PySem.W.Frag} {mg : Str → Option Value} {base : Heap} {c : CC}

theorem kvI_keys {β : Type} {f : β → V} {d : List (Int × β)} : (kvI f d).map (fun kv => kV kv.1) = (d.map (·.1)).map V.int := by
  unfold kvI
  rw [List.map_map, List.map_map]; rfl
theorem kvI_keyS {β : Type} {f : β → V} {d : List (Int × β)} : (kvI f d).map (·.1) = (d.map (·.1)).map Sum.inl := by
  unfold kvI
  rw [List.map_map, List.map_map]; rfl
/-- d[k] = v where the i-th entry has the key k -/
theorem aput_at {β : Type} {l1 l2 : List (Int × β)} {k : Int} {x v : β} (h : ((l1 ++ (k, x) :: l2).map (·.1)).Nodup) : FL.aput (l1 ++ (k, x) :: l2) k v = l1 ++ (k, v) :: l2 := by
  rw [List.map_append, List.map_cons, List.nodup_append] at h
  obtain ⟨h1, h2, h3⟩ := h
  obtain ⟨h4, _⟩ := List.nodup_cons.mp h2
  have m1 : ∀ p ∈ l1, p.1 ≠ k := fun p hp e => h3 p.1 (List.mem_map.mpr ⟨p, hp, rfl⟩) k (List.mem_cons_self) e
  have m2 : ∀ p ∈ l2, p.1 ≠ k := fun p hp e => h4 (List.mem_map.mpr ⟨p, hp, e⟩)
  unfold FL.aput
  rw [if_pos (by rw [List.any_append, List.any_cons]; simp)]
  rw [List.map_append, List.map_cons]
  congr 1
  · refine (List.map_congr_left fun p hp => ?_).trans (List.map_id _)
    show (if p.1 = k then (p.1, v) else p) = p
    rw [if_neg (m1 p hp)]
  · congr 1
    · show (if k = k then (k, v) else (k, x)) = _
      rw [if_pos rfl]
    · refine (List.map_congr_left fun p hp => ?_).trans (List.map_id _)
      show (if p.1 = k then (p.1, v) else p) = p
      rw [if_neg (m2 p hp)]
theorem take_drop_map {α : Type} {f : α → α} {d : List α} {i : Nat} {p : α} (h : d[i]? = some p) : (d.take i).map f ++ d.drop i = (d.take i).map f ++ p :: d.drop (i + 1) ∧ (d.take (i + 1)).map f ++ d.drop (i + 1) = (d.take i).map f ++ f p :: d.drop (i + 1) := by
  obtain ⟨hi, e⟩ := List.getElem?_eq_some_iff.mp h
  refine ⟨by rw [List.drop_eq_getElem_cons hi, e], ?_⟩
  rw [List.take_add_one, h]
  show (d.take i ++ [p]).map f ++ _ = _
  rw [List.map_append, List.append_assoc]; rfl

def spO_take (c : CC) : Sp := fun vs H Q _ => ∃ (o B : Addr) (bel : List (Int × Nat)) (told : Nat) (x : Int), vs = [.ref o, .int x] ∧ OrdAt c H o B bel told ∧ (FL.aget bel x).isSome = true ∧ (bel.map (·.1)).Nodup ∧
  0 ≤ x ∧ x ≤ 100000 ∧ bel.length ≤ 1000 ∧ ∀ H', OrdAt c H' o B (FL.takeB bel x) told → (∀ b u, b ≠ B → H b = some u → H' b = some u) → Q .non H'
def spO_things (c : CC) : Sp := fun vs H Q _ => ∃ (o B : Addr) (bel : List (Int × Nat)) (told : Nat), vs = [.ref o] ∧ OrdAt c H o B bel told ∧ (bel.map (·.1)).Pairwise (· < ·) ∧ bel.length < 64 ∧
  ∀ p, H p = none → Q (.ref p) (upd H p (lI (bel.map (·.1))))
theorem ok_O_things (T : Tx K mg c) (D : MD K c.O "things" "Order.things" sO_things) : MOk P w K mg base CX0 c.O "things" ["self"] 1 (spO_things c) := by
  refine D.ok (N := ["self"]) ⟨rfl, rfl, rfl, by decide +kernel, rfl, by decide +kernel, by decide +kernel⟩ (fun _ _ _ _ _ _ us hl => match us, hl with | [_], _ => rfl) (fun vs H Q E h => ?_) (fun f cdv A outer s H vs Q E hr h => ?_)
  · obtain ⟨o, B, bel, told, rfl, _⟩ := h; rfl
  · obtain ⟨o, B, bel, told, rfl, ⟨⟨dx, ho⟩, hB⟩, hs, hl, k⟩ := h
    refine ⟨_, pss_one (ps_ret (pe_callB (call_sortedDI rfl) (by rfl) T.zSorted PyProof.Rows.boot_sorted (pa_cons (pe_fld (pv 0) rfl) pa_nil))), ?_⟩
    refine ⟨_, rfl, o, c.O, dx, _, _, rfl, ho, T.clO, T.nOb, fO_below, B, _, bel.map (·.1), rfl, Or.inl hB, kvI_keyS, by rw [List.length_map]; exact hl, fun ys p hp hy hn => ?_⟩
    rw [srt_perm hp hy hs]
    exact k p hn
def spO_lies (c : CC) : Sp := fun vs H Q _ => ∃ (o B : Addr) (bel : List (Int × Nat)) (told : Nat) (x y : Int), vs = [.ref o, .int x, .int y] ∧ OrdAt c H o B bel told ∧ (FL.aget bel x).isSome = true ∧ 0 ≤ y ∧ Q (.bl (FL.liesB bel x y)) H
theorem ok_O_lies (T : Tx K mg c) (D : MD K c.O "lies_above" "Order.lies_above" sO_lies_above) (G : GOk P w K mg base CX0 "has" ["marks", "thing"] 1 spHas) : MOk P w K mg base CX0 c.O "lies_above" ["self", "one", "other"] 2 (spO_lies c) := by
  obtain ⟨f2, fd2, g2, k2, b2, F2⟩ := G
  refine D.ok (N := ["self", "one", "other"]) ⟨rfl, rfl, rfl, by decide +kernel, rfl, by decide +kernel, by decide +kernel⟩ (fun _ _ _ _ _ _ us hl => match us, hl with | [_, _, _], _ => rfl) (fun vs H Q E h => ?_) (fun f cdv A outer s H vs Q E hr h => ?_)
  · obtain ⟨o, B, bel, told, x, y, rfl, _⟩ := h; rfl
  · obtain ⟨o, B, bel, told, x, y, rfl, ⟨⟨dx, ho⟩, hB⟩, hx, hy, k⟩ := h
    have hu := hu_of hr
    obtain ⟨m, hm⟩ := Option.isSome_iff_exists.mp hx
    refine ⟨_, pss_one (ps_ret (pe_call F2 hr (by rfl) g2 k2 b2 .nil pass0 (pa_cons (pe_dget hu (pe_fld (pv 0) rfl) (pv 1) (fun _ _ => rfl)) (pa_cons (pv 2) pa_nil)))), ?_⟩
    refine ⟨_, rfl, o, c.O, dx, _, _, rfl, ho, T.clO, T.nOb, fO_below, _, rfl, B, .int (m : Int), rfl, ?_, _, rfl, m, y, rfl, hy, ?_⟩
    · have g := DGet.k (k := Sum.inl x) hB
      rw [valV_kvI, hm] at g
      exact g
    · unfold FL.liesB at k
      rw [hm] at k
      exact k
def spO_apart (c : CC) : Sp := fun vs H Q _ => ∃ (o B : Addr) (bel : List (Int × Nat)) (told : Nat) (x y : Int), vs = [.ref o, .int x, .int y] ∧ OrdAt c H o B bel told ∧ (FL.aget bel x).isSome = true ∧ (FL.aget bel y).isSome = true ∧ 0 ≤ x ∧ 0 ≤ y ∧
  Q (.bl (decide (x ≠ y) && (!FL.liesB bel x y && !FL.liesB bel y x))) H
end
end FW

set_option maxHeartbeats 4000000
/-! The walk 4: lists of lists and rows of pairs as data; Links: made, link, climbed. -/
namespace FW
open PySem PySem.Spec PyProof.Rows L2

/-! ### data -/
def iD (l : List Int) : PyData := .list (l.map .int)
def iiD (ll : List (List Int)) : PyData := .list (ll.map iD)
def pD (p : Int × Int) : PyData := .tuple [.int p.1, .int p.2]
def rowD (r : FL.Row) : PyData := .list (r.map pD)
theorem lay_all {l : List PyData} (h : ∀ d ∈ l, d.canLay0 = true) : PyData.canLayAll0 l = true := by
  induction l with
  | nil => rfl
  | cons a r ih =>
    unfold PyData.canLayAll0
    rw [h a List.mem_cons_self, ih fun d hd => h d (List.mem_cons_of_mem _ hd)]; rfl
theorem depth_all {l : List PyData} {n : Nat} (h : ∀ d ∈ l, d.depth ≤ n) : PyData.depthAll l ≤ n := by
  induction l with
  | nil => exact Nat.zero_le _
  | cons a r ih =>
    unfold PyData.depthAll
    exact Nat.max_le.mpr ⟨h a List.mem_cons_self, ih fun d hd => h d (List.mem_cons_of_mem _ hd)⟩
theorem shaped_of {d : PyData} (h1 : d.canLay0 = true) (h2 : d.depth ≤ 64) : SeqAt.shaped d = true := by
  unfold SeqAt.shaped
  rw [h1, decide_eq_true h2]; rfl
theorem lay_list {l : List PyData} (h : ∀ d ∈ l, d.canLay0 = true) : (PyData.list l).canLay0 = true := by
  unfold PyData.canLay0; exact lay_all h
theorem lay_tuple {l : List PyData} (h : ∀ d ∈ l, d.canLay0 = true) : (PyData.tuple l).canLay0 = true := by
  unfold PyData.canLay0; exact lay_all h
theorem depth_list {l : List PyData} {n : Nat} (h : ∀ d ∈ l, d.depth ≤ n) : (PyData.list l).depth ≤ n + 1 := by
  unfold PyData.depth; exact Nat.succ_le_succ (depth_all h)
theorem depth_tuple {l : List PyData} {n : Nat} (h : ∀ d ∈ l, d.depth ≤ n) : (PyData.tuple l).depth ≤ n + 1 := by
  unfold PyData.depth; exact Nat.succ_le_succ (depth_all h)
theorem int_lay (i : Int) : (PyData.int i).canLay0 = true := by unfold PyData.canLay0; rfl
theorem int_depth (i : Int) : (PyData.int i).depth ≤ 0 := by unfold PyData.depth; exact Nat.le_refl _
theorem iD_ok (l : List Int) : (iD l).canLay0 = true ∧ (iD l).depth ≤ 1 :=
  ⟨lay_list fun d hd => by obtain ⟨i, _, rfl⟩ := List.mem_map.mp hd; exact int_lay i, depth_list fun d hd => by obtain ⟨i, _, rfl⟩ := List.mem_map.mp hd; exact int_depth i⟩
theorem pD_ok (p : Int × Int) : (pD p).canLay0 = true ∧ (pD p).depth ≤ 1 := by
  refine ⟨lay_tuple fun d hd => ?_, depth_tuple fun d hd => ?_⟩
  · rcases List.mem_cons.mp hd with rfl | hd
    · exact int_lay _
    · rw [List.mem_singleton.mp hd]; exact int_lay _
  · rcases List.mem_cons.mp hd with rfl | hd
    · exact int_depth _
    · rw [List.mem_singleton.mp hd]; exact int_depth _
theorem iiD_ok (l : List (List Int)) : (iiD l).canLay0 = true ∧ (iiD l).depth ≤ 2 :=
  ⟨lay_list fun d hd => by obtain ⟨i, _, rfl⟩ := List.mem_map.mp hd; exact (iD_ok i).1, depth_list fun d hd => by obtain ⟨i, _, rfl⟩ := List.mem_map.mp hd; exact (iD_ok i).2⟩
theorem rowD_ok (l : FL.Row) : (rowD l).canLay0 = true ∧ (rowD l).depth ≤ 2 :=
  ⟨lay_list fun d hd => by obtain ⟨i, _, rfl⟩ := List.mem_map.mp hd; exact (pD_ok i).1, depth_list fun d hd => by obtain ⟨i, _, rfl⟩ := List.mem_map.mp hd; exact (pD_ok i).2⟩
theorem iD_sh (l : List Int) : SeqAt.shaped (iD l) = true := shaped_of (iD_ok l).1 (Nat.le_trans (iD_ok l).2 (by decide))
theorem iiD_sh (l : List (List Int)) : SeqAt.shaped (iiD l) = true := shaped_of (iiD_ok l).1 (Nat.le_trans (iiD_ok l).2 (by decide))
theorem rowD_sh (l : FL.Row) : SeqAt.shaped (rowD l) = true := shaped_of (rowD_ok l).1 (Nat.le_trans (rowD_ok l).2 (by decide))
theorem eqvAll_map {α : Type} {f : α → PyData} (hf : ∀ a b, PyData.eqv (f a) (f b) = true ↔ a = b) : ∀ {l m : List α}, PyData.eqvAll (l.map f) (m.map f) = true ↔ l = m
  | [], [] => by unfold PyData.eqvAll; simp
  | [], b :: m => by rw [List.map_nil, List.map_cons]; unfold PyData.eqvAll; simp
  | a :: l, [] => by rw [List.map_nil, List.map_cons]; unfold PyData.eqvAll; simp
  | a :: l, b :: m => by
    rw [List.map_cons, List.map_cons]; unfold PyData.eqvAll
    rw [Bool.and_eq_true, hf a b, eqvAll_map hf, List.cons.injEq]
theorem eqv_int (a b : Int) : PyData.eqv (.int a) (.int b) = true ↔ a = b := by unfold PyData.eqv; exact beq_iff_eq
theorem eqv_iD (a b : List Int) : PyData.eqv (iD a) (iD b) = true ↔ a = b := by unfold iD PyData.eqv; exact eqvAll_map eqv_int
theorem eqv_iiD (a b : List (List Int)) : PyData.eqv (iiD a) (iiD b) = true ↔ a = b := by unfold iiD PyData.eqv; exact eqvAll_map eqv_iD
theorem eqv_pD (a b : Int × Int) : PyData.eqv (pD a) (pD b) = true ↔ a = b := by
  unfold pD PyData.eqv PyData.eqvAll PyData.eqvAll PyData.eqvAll
  rw [Bool.and_true, Bool.and_eq_true, eqv_int, eqv_int, Prod.ext_iff]
theorem eqv_rowD (a b : FL.Row) : PyData.eqv (rowD a) (rowD b) = true ↔ a = b := by unfold rowD PyData.eqv; exact eqvAll_map eqv_pD
theorem eqv_dec {α : Type} [DecidableEq α] {f : α → PyData} (hf : ∀ a b, PyData.eqv (f a) (f b) = true ↔ a = b) (a b : α) : PyData.eqv (f a) (f b) = decide (a = b) := by
  by_cases e : a = b
  · rw [(hf a b).mpr e, decide_eq_true e]
  · rw [decide_eq_false e]
    cases q : PyData.eqv (f a) (f b) with
    | false => rfl
    | true => exact absurd ((hf a b).mp q) e

/-- a list of numbers at p; a list of such lists; a list of pairs -/
def RowT (H : Hp) : List Addr → FL.Row → Prop
  | [], [] => True
  | t :: ts, p :: r => H t = some (.tup [.int p.1, .int p.2]) ∧ RowT H ts r
  | _, _ => False
def RowAt (H : Hp) (p : Addr) (r : FL.Row) : Prop := ∃ ts : List Addr, H p = some (.lst (ts.map V.ref)) ∧ RowT H ts r
theorem RowT.same {H H' : Hp} (s : ∀ b xs, H b = some (.tup xs) → H' b = some (.tup xs)) : ∀ {ts : List Addr} {r : FL.Row}, RowT H ts r → RowT H' ts r
  | [], [], _ => trivial
  | t :: ts, p :: r, h => ⟨s _ _ h.1, RowT.same s h.2⟩
  | [], _ :: _, h => h.elim
  | _ :: _, [], h => h.elim
theorem RowT.len {H : Hp} : ∀ {ts : List Addr} {r : FL.Row}, RowT H ts r → ts.length = r.length
  | [], [], _ => rfl
  | t :: ts, p :: r, h => by rw [List.length_cons, List.length_cons, RowT.len h.2]
  | [], _ :: _, h => h.elim
  | _ :: _, [], h => h.elim
theorem dp_ints {K : PySem.W.Frag} {H : Hp} : ∀ l : List Int, DpAll K H (l.map V.int) (l.map PyData.int)
  | [] => .nil
  | a :: l => .cons (.int a) (dp_ints l)
theorem dp_iD {K : PySem.W.Frag} {H : Hp} {p : Addr} {l : List Int} (h : SqL K H p (l.map V.int)) : Dp K H (.ref p) (iD l) := .lst h (dp_ints l)
theorem dp_rowT {K : PySem.W.Frag} {H : Hp} : ∀ {ts : List Addr} {r : FL.Row}, RowT H ts r → DpAll K H (ts.map V.ref) (r.map pD)
  | [], [], _ => .nil
  | t :: ts, p :: r, h => .cons (.tup (SqT.of h.1) (.cons (.int _) (.cons (.int _) .nil))) (dp_rowT h.2)
  | [], _ :: _, h => h.elim
  | _ :: _, [], h => h.elim
theorem dp_row {K : PySem.W.Frag} {H : Hp} {p : Addr} {r : FL.Row} (h : RowAt H p r) : Dp K H (.ref p) (rowD r) := by
  obtain ⟨ts, h1, h2⟩ := h
  exact .lst (SqL.of h1) (dp_rowT h2)
theorem dp_nil {K : PySem.W.Frag} {H : Hp} {p : Addr} (h : H p = some (.lst [])) : Dp K H (.ref p) (.list []) := .lst (SqL.of h) .nil
theorem row_nil {r : FL.Row} : PyData.eqv (rowD r) (.list []) = decide (r = []) := eqv_dec eqv_rowD r []

section
variable {P : Program} {w : World} {K : PySem.W.Frag} {mg : Str → Option Value} {base : Heap} {c : CC}

def spL_init (c : CC) : Sp := fun vs H Q _ => ∃ (l dx o q : Addr) (ns : List Int), vs = [.ref l, .ref o, .ref q] ∧ H l = some (.ins c.L dx []) ∧ H q = some (lI ns) ∧ ns.length ≤ 1000 ∧
  ∀ (L A E : Addr) (H' : Hp), H L = none → H A = none → H E = none → LnkAt c H' ⟨o, l, L, A, E⟩ ns [] [] → (∀ b u, b ≠ l → H b = some u → H' b = some u) → Q .non H'
theorem ok_L_init (T : Tx K mg c) (D : MD K c.L "__init__" "Links.__init__" sL_init) : MOk P w K mg base CX0 c.L "__init__" ["self", "order", "things"] 1 (spL_init c) := by
  refine D.ok (N := ["self", "order", "things"]) ⟨rfl, rfl, rfl, by decide +kernel, rfl, by decide +kernel, by decide +kernel⟩ (fun _ _ _ _ _ _ us hl => match us, hl with | [_, _, _], _ => rfl) (fun vs H Q E h => ?_) (fun f cdv A outer s H vs Q E hr h => ?_)
  · obtain ⟨l, dx, o, q, ns, rfl, _⟩ := h; rfl
  · obtain ⟨l, dx, o, q, ns, rfl, hl, hq, hn, k⟩ := h
    refine ⟨_, pss_cons (ps_fld (pv 0) (pv 1) rfl) (pss_cons (ps_fld (pv 0) (pe_callTy call_list_of (by rfl) T.zList PyProof.Rows.boot_list (pa_cons (pv 2) pa_nil)) rfl)
      (pss_cons (ps_fld (pv 0) pe_dnewK rfl) (pss_one (ps_fld (pv 0) pe_dnewK rfl)))), ?_⟩
    have nlq : q ≠ l := ne_of hq hl (by intro z; cases z)
    refine ⟨_, rfl, _, rfl, l, c.L, dx, _, rfl, hl, T.clL, T.nLo, (by show 0 < 1000; decide), ?_⟩
    refine ⟨_, rfl, q, _, rfl, Or.inl (SqL.of (by rw [upd_ne nlq]; exact hq)), fun L hL => ?_⟩
    have nL : L ≠ l := fun e => by rw [e, upd_same] at hL; cases hL
    have hL0 : H L = none := by rw [upd_ne nL] at hL; exact hL
    refine ⟨_, rfl, l, c.L, dx, _, rfl, (by rw [upd_ne nL.symm, upd_same]), T.clL, T.nLl, (by show 1 < 1000; decide), ?_⟩
    intro A hA
    have nA : A ≠ l := fun e => by rw [e, upd_same] at hA; cases hA
    rw [upd_ne nA] at hA
    have nAL : A ≠ L := fun e => by rw [e, upd_same] at hA; cases hA
    rw [upd_ne nAL, upd_ne nA] at hA
    refine ⟨_, rfl, l, c.L, dx, _, rfl, (by rw [upd_ne nA.symm, upd_same]), T.clL, T.nLa, (by show 2 < 1000; decide), ?_⟩
    intro E' hE
    have nE : E' ≠ l := fun e => by rw [e, upd_same] at hE; cases hE
    rw [upd_ne nE] at hE
    have nEA : E' ≠ A := fun e => by rw [e, upd_same] at hE; cases hE
    rw [upd_ne nEA, upd_ne nE] at hE
    have nEL : E' ≠ L := fun e => by rw [e, upd_same] at hE; cases hE
    rw [upd_ne nEL, upd_ne nE] at hE
    refine ⟨_, rfl, l, c.L, dx, _, rfl, (by rw [upd_ne nE.symm, upd_same]), T.clL, T.nLb, (by show 3 < 1000; decide), ?_⟩
    refine k L A E' _ hL0 hA hE ⟨⟨dx, ?_⟩, ?_, ?_, ?_, nEA.symm⟩ fun b u n e => ?_
    · rw [upd_same]
      exact congrArg (fun z => some (HO.ins c.L dx z)) fL_mk
    · show upd _ l _ L = _
      rw [upd_ne nL, upd_ne nEL.symm, upd_ne nL, upd_ne nAL.symm, upd_ne nL, upd_same]
    · show upd _ l _ A = _
      rw [upd_ne nA, upd_ne nEA.symm, upd_ne nA, upd_same]; rfl
    · show upd _ l _ E' = _
      rw [upd_ne nE, upd_same]; rfl
    · rw [upd_ne n, upd_ne (ne_of_none e hE), upd_ne n, upd_ne (ne_of_none e hA), upd_ne n, upd_ne (ne_of_none e hL0), upd_ne n]; exact e

def spL_link (c : CC) : Sp := fun vs H Q _ => ∃ (a : LA) (L : List Int) (ab be : List (Int × Int)) (high low : Int), vs = [.ref a.l, .int high, .int low] ∧ LnkAt c H a L ab be ∧ ab.length ≤ 1000 ∧ be.length ≤ 1000 ∧
  ∀ H', LnkAt c H' a L (FL.aput ab low high) (FL.aput be high low) → (∀ b u, b ≠ a.A → b ≠ a.E → H b = some u → H' b = some u) → Q .non H'
theorem ok_L_link (T : Tx K mg c) (D : MD K c.L "link" "Links.link" sL_link) : MOk P w K mg base CX0 c.L "link" ["self", "high", "low"] 1 (spL_link c) := by
  refine D.ok (N := ["self", "high", "low"]) ⟨rfl, rfl, rfl, by decide +kernel, rfl, by decide +kernel, by decide +kernel⟩ (fun _ _ _ _ _ _ us hl => match us, hl with | [_, _, _], _ => rfl) (fun vs H Q E h => ?_) (fun f cdv A outer s H vs Q E hr h => ?_)
  · obtain ⟨a, L, ab, be, high, low, rfl, _⟩ := h; rfl
  · obtain ⟨a, L, ab, be, high, low, rfl, ⟨⟨dx, hl⟩, hL, hA, hE, nAE⟩, z1, z2, k⟩ := h
    have hu := hu_of hr
    have nlA : a.l ≠ a.A := ne_of hl hA (by intro z; cases z)
    have nlE : a.l ≠ a.E := ne_of hl hE (by intro z; cases z)
    have nLA : a.L ≠ a.A := ne_of hL hA (by intro z; cases z)
    have nLE : a.L ≠ a.E := ne_of hL hE (by intro z; cases z)
    refine ⟨_, pss_cons (ps_dput hu (pe_fld (pv 0) rfl) (pv 2) (pv 1) rfl) (pss_one (ps_dput hu (pe_fld (pv 0) rfl) (pv 1) (pv 2) rfl)), ?_⟩
    refine ⟨_, rfl, _, rfl, a.l, c.L, dx, _, _, rfl, hl, T.clL, T.nLa, fL_above, _, rfl, a.A, _, rfl, DPut.k (k := Sum.inl low) hA (by rw [len_kvI]; exact small1000 z1), ?_⟩
    rw [putK_kvI]
    refine ⟨_, rfl, _, rfl, a.l, c.L, dx, _, _, rfl, (by rw [upd_ne nlA]; exact hl), T.clL, T.nLb, fL_beneath, _, rfl, a.E, _, rfl, DPut.k (k := Sum.inl high) (by rw [upd_ne nAE.symm]; exact hE) (by rw [len_kvI]; exact small1000 z2), ?_⟩
    rw [putK_kvI]
    refine k _ ⟨⟨dx, by rw [upd_ne nlE, upd_ne nlA]; exact hl⟩, by rw [upd_ne nLE, upd_ne nLA]; exact hL, by rw [upd_ne nAE, upd_same], upd_same, nAE⟩ fun b u n1 n2 e => ?_
    rw [upd_ne n2, upd_ne n1]; exact e
end
end FW

set_option maxHeartbeats 4000000
/-! The walk 5: Links: climbed. -/
namespace FW
open PySem PySem.Spec PyProof.Rows L2

theorem sc_len {rec : Int → FL.CS → FL.Row × FL.CS} {lies : Int → Int → Bool} {high : Int} {n : Nat} (hrec : ∀ up s, (rec up s).2.ab.length ≤ s.ab.length + n ∧ (rec up s).2.be.length ≤ s.be.length + n) :
    ∀ (todo : List Int) (s : FL.CS), (FL.scan rec lies high todo s).1 ≠ [] → (∀ up s, (rec up s).1 = [] → (rec up s).2.ab = s.ab ∧ (rec up s).2.be = s.be) →
      (FL.scan rec lies high todo s).2.ab.length ≤ s.ab.length + (n + 1) ∧ (FL.scan rec lies high todo s).2.be.length ≤ s.be.length + (n + 1) := by
  intro todo
  induction todo with
  | nil => intro s h; exact absurd rfl h
  | cons low rest ih =>
    intro s
    unfold FL.scan
    by_cases hc : low ∈ s.seen ∨ lies high low = false
    · rw [if_pos hc]; exact ih s
    · rw [if_neg hc]
      cases FL.aget s.ab low with
      | none =>
        intro _ _
        have h1 := FL.aput_len_le s.ab low high
        have h2 := FL.aput_len_le s.be high low
        simp only; omega
      | some up =>
        simp only
        by_cases hr : (rec up ⟨s.ab, s.be, s.seen ++ [low]⟩).1 = []
        · rw [if_pos hr]
          intro h f
          obtain ⟨f1, f2⟩ := f up _ hr
          have := ih _ h f
          rw [f1, f2] at this
          exact this
        · rw [if_neg hr]
          intro _ _
          have h0 := hrec up ⟨s.ab, s.be, s.seen ++ [low]⟩
          simp only at h0
          have h1 := FL.aput_len_le (rec up ⟨s.ab, s.be, s.seen ++ [low]⟩).2.ab low high
          have h2 := FL.aput_len_le (rec up ⟨s.ab, s.be, s.seen ++ [low]⟩).2.be high low
          simp only; omega
theorem sc_keep {rec : Int → FL.CS → FL.Row × FL.CS} {lies : Int → Int → Bool} {high : Int} (f : ∀ up s, (rec up s).1 = [] → (rec up s).2.ab = s.ab ∧ (rec up s).2.be = s.be) :
    ∀ (todo : List Int) (s : FL.CS), (FL.scan rec lies high todo s).1 = [] → (FL.scan rec lies high todo s).2.ab = s.ab ∧ (FL.scan rec lies high todo s).2.be = s.be := by
  intro todo
  induction todo with
  | nil => intro s _; exact ⟨rfl, rfl⟩
  | cons low rest ih =>
    intro s
    unfold FL.scan
    by_cases hc : low ∈ s.seen ∨ lies high low = false
    · rw [if_pos hc]; exact ih s
    · rw [if_neg hc]
      cases FL.aget s.ab low with
      | none => intro h; exact nomatch h
      | some up =>
        simp only
        by_cases hr : (rec up ⟨s.ab, s.be, s.seen ++ [low]⟩).1 = []
        · rw [if_pos hr]
          intro h
          obtain ⟨f1, f2⟩ := f up _ hr
          have := ih _ h
          rw [f1, f2] at this
          exact this
        · rw [if_neg hr]
          intro h; exact nomatch h
theorem cl_keep {lies : Int → Int → Bool} {L : List Int} : ∀ (n : Nat) (high : Int) (s : FL.CS), (FL.climb lies L n high s).1 = [] → (FL.climb lies L n high s).2.ab = s.ab ∧ (FL.climb lies L n high s).2.be = s.be
  | 0, _, _, _ => ⟨rfl, rfl⟩
  | n + 1, high, s, h => sc_keep (fun up s => cl_keep n up s) L s h
theorem cl_len {lies : Int → Int → Bool} {L : List Int} : ∀ (n : Nat) (high : Int) (s : FL.CS), (FL.climb lies L n high s).2.ab.length ≤ s.ab.length + n ∧ (FL.climb lies L n high s).2.be.length ≤ s.be.length + n
  | 0, _, _ => ⟨Nat.le_refl _, Nat.le_refl _⟩
  | n + 1, high, s => by
    by_cases h : (FL.climb lies L (n + 1) high s).1 = []
    · obtain ⟨h1, h2⟩ := cl_keep _ _ _ h
      rw [h1, h2]; omega
    · exact sc_len (fun up s => cl_len n up s) L s h (fun up s => cl_keep n up s)

structure ClPre (c : CC) (H : Hp) (a : LA) (B : Addr) (bel : List (Int × Nat)) (told : Nat) (L : List Int) (ab be : List (Int × Int)) (S : Addr) (seen : List Int) (n : Nat) : Prop where
  O : OrdAt c H a.o B bel told
  N : LnkAt c H a L ab be
  hS : H S = some (dS seen)
  nSA : S ≠ a.A
  nSE : S ≠ a.E
  nSB : S ≠ B
  nBA : B ≠ a.A
  nBE : B ≠ a.E
  hk : ∀ x ∈ L, (FL.aget bel x).isSome = true ∧ 0 ≤ x
  hab : ∀ l h, FL.aget ab l = some h → h ∈ L
  z1 : ab.length + n ≤ 900
  z2 : be.length + n ≤ 900
  z3 : L.length ≤ 100
  nd : seen.Nodup
  sub : ∀ x ∈ seen, x ∈ L
  us : FL.unseen L seen < n
def Keep3 (x y z : Addr) (H H' : Hp) : Prop := ∀ b u, b ≠ x → b ≠ y → b ≠ z → H b = some u → H' b = some u

def spClimb (c : CC) (n : Nat) : Sp := fun vs H Q _ => ∃ (a : LA) (B : Addr) (bel : List (Int × Nat)) (told : Nat) (L : List Int) (ab be : List (Int × Int)) (S : Addr) (seen : List Int) (high : Int),
  vs = [.ref a.l, .int high, .ref S] ∧ ClPre c H a B bel told L ab be S seen n ∧ high ∈ L ∧
  ∀ H' p, H p = none → RowAt H' p (FL.climb (FL.liesB bel) L n high ⟨ab, be, seen⟩).1 →
    LnkAt c H' a L (FL.climb (FL.liesB bel) L n high ⟨ab, be, seen⟩).2.ab (FL.climb (FL.liesB bel) L n high ⟨ab, be, seen⟩).2.be → H' S = some (dS (FL.climb (FL.liesB bel) L n high ⟨ab, be, seen⟩).2.seen) →
    Keep3 a.A a.E S H H' → Q (.ref p) H'

section
variable {P : Program} {w : World} {K : PySem.W.Frag} {mg : Str → Option Value} {base : Heap} {c : CC}
theorem OrdAt.keep {H H' : Hp} {o B x y z : Addr} {bel : List (Int × Nat)} {told : Nat} (O : OrdAt c H o B bel told) (k : Keep3 x y z H H') (h1 : o ≠ x ∧ o ≠ y ∧ o ≠ z) (h2 : B ≠ x ∧ B ≠ y ∧ B ≠ z) : OrdAt c H' o B bel told := by
  obtain ⟨⟨dx, ho⟩, hB⟩ := O
  exact ⟨⟨dx, k _ _ h1.1 h1.2.1 h1.2.2 ho⟩, k _ _ h2.1 h2.2.1 h2.2.2 hB⟩
theorem ok_L_climbed (T : Tx K mg c) (D : MD K c.L "climbed" "Links.climbed" sL_climbed) (ML : MOk P w K mg base CX0 c.L "link" ["self", "high", "low"] 1 (spL_link c)) (MO : MOk P w K mg base CX0 c.O "lies_above" ["self", "one", "other"] 2 (spO_lies c)) :
    ∀ n, MOk P w K mg base CX0 c.L "climbed" ["self", "high", "seen"] (n + 2) (spClimb c n) := by
  have sc : FnScope ["self", "high", "seen", "low", "rest"] ["self", "high", "seen"] (defScope sL_climbed) := ⟨rfl, rfl, rfl, by decide +kernel, rfl, by decide +kernel, by decide +kernel⟩
  intro n
  induction n with
  | zero =>
    refine D.ok sc (fun _ _ _ _ _ _ us hl => match us, hl with | [_, _, _], _ => rfl) (fun vs H Q E h => ?_) (fun f cdv A outer s H vs Q E hr h => ?_)
    · obtain ⟨a, B, bel, told, L, ab, be, S, seen, high, rfl, _⟩ := h; rfl
    · obtain ⟨a, B, bel, told, L, ab, be, S, seen, high, rfl, p, _⟩ := h
      exact absurd p.us (Nat.not_lt_zero _)
  | succ n ih =>
    obtain ⟨f1, fd1, m1, b1, F1⟩ := ML
    obtain ⟨f2, fd2, m2, b2, F2⟩ := MO
    obtain ⟨f3, fd3, m3, b3, F3⟩ := ih
    refine D.ok sc (fun _ _ _ _ _ _ us hl => match us, hl with | [_, _, _], _ => rfl) (fun vs H Q E h => ?_) (fun f cdv A outer s H vs Q E hr h => ?_)
    · obtain ⟨a, B, bel, told, L, ab, be, S, seen, high, rfl, _⟩ := h; rfl
    · obtain ⟨a, B, bel, told, L, ab, be, S, seen, high, rfl, p, hh, k⟩ := h
      have hu := hu_of hr
      have hr1 : Room 1 _ := hr.mono (by omega)
      have hr2 : Room 2 _ := hr.mono (by omega)
      refine ⟨_, pss_cons (ps_for PassesOwn.never rfl (pi_list (pe_fld (pv 0) rfl)) (pg_name (i := 3) sc.nd rfl (Or.inl rfl))
        (pss_cons (ps_if (PW.pt (pw_or (pt_cmp (pc_din hu (pv 3) (pv 2))) (pw_or1 (pt_not (pt_val (pe_meth (pe_fld (pv 0) rfl) T.clO m2 F2 hr2 b2 .nil pass0 (pa_cons (pv 1) (pa_cons (pv 3) pa_nil)))))))) (pss_one ps_continue) pss_nil)
        (pss_cons (ps_dput hu (pv 2) (pv 3) pe_bl rfl)
        (pss_cons (ps_if (pt_cmp (pc_dnotin hu (pv 3) (pe_fld (pv 0) rfl)))
          (pss_cons (ps_expr (pe_meth (pv 0) T.clL m1 F1 hr1 b1 .nil pass0 (pa_cons (pv 1) (pa_cons (pv 3) pa_nil)))) (pss_one (ps_ret (pe_lst (pa_cons (pe_tup (pa_cons (pv 1) (pa_cons (pv 3) pa_nil))) pa_nil))))) pss_nil)
        (pss_cons (ps_set (i := 4) sc.nd rfl (Or.inl rfl) (pe_meth (pv 0) T.clL m3 F3 hr b3 .nil pass0 (pa_cons (pe_dget hu (pe_fld (pv 0) rfl) (pv 3) (fun _ _ => rfl)) (pa_cons (pv 2) pa_nil))))
        (pss_one (ps_if (pt_cmpR (op_neD hr.units) (pv 4) (pe_lst pa_nil) (nomark _))
          (pss_cons (ps_expr (pe_meth (pv 0) T.clL m1 F1 hr1 b1 .nil pass0 (pa_cons (pv 1) (pa_cons (pv 3) pa_nil)))) (pss_one (ps_ret (pe_op op_cat (pe_lst (pa_cons (pe_tup (pa_cons (pv 1) (pa_cons (pv 3) pa_nil))) pa_nil)) (pv 4))))) pss_nil)))))))
        (pss_one (ps_ret (pe_lst pa_nil))), ?_⟩
      obtain ⟨dl, hl⟩ := p.N.ob
      obtain ⟨dO, hO⟩ := p.O.ob
      have nlA : a.l ≠ a.A := ne_of hl p.N.da (by intro z; cases z)
      have nlE : a.l ≠ a.E := ne_of hl p.N.de (by intro z; cases z)
      have nlS : a.l ≠ S := ne_of hl p.hS (by intro z; cases z)
      have noA : a.o ≠ a.A := ne_of hO p.N.da (by intro z; cases z)
      have noE : a.o ≠ a.E := ne_of hO p.N.de (by intro z; cases z)
      have noS : a.o ≠ S := ne_of hO p.hS (by intro z; cases z)
      have nLA : a.L ≠ a.A := ne_of p.N.ls p.N.da (by intro z; cases z)
      have nLE : a.L ≠ a.E := ne_of p.N.ls p.N.de (by intro z; cases z)
      have nLS : a.L ≠ S := ne_of p.N.ls p.hS (by intro z; cases z)
      refine ⟨_, rfl, a.l, c.L, dl, _, _, rfl, hl, T.clL, T.nLl, fL_linked, a.L, rfl, ⟨_, SqL.of p.N.ls⟩, for_list (K := K) (a := a.L) (xs := L.map V.int)
        (fun i σ H2 => ∃ (sn : List Int) (v r : Option V), σ = [some (.ref a.l), some (.int high), some (.ref S), v, r] ∧ ClPre c H2 a B bel told L ab be S sn (n + 1) ∧ Keep3 a.A a.E S H H2 ∧ (∀ b, H2 b = none → H b = none) ∧
          FL.climb (FL.liesB bel) L (n + 1) high ⟨ab, be, seen⟩ = FL.scan (FL.climb (FL.liesB bel) L n) (FL.liesB bel) high (L.drop i) ⟨ab, be, sn⟩)
        ⟨seen, none, none, rfl, p, fun b u _ _ _ e => e, fun b e => e, rfl⟩ (fun i σ H2 _ ⟨_, _, _, _, q, _⟩ => SqL.of q.N.ls) ?_ ?_⟩
      · rintro i y σ H2 hi ⟨sn, v, r, rfl, q, kp, fr, ec⟩
        obtain ⟨low, rfl, hlow⟩ := itemI hi
        have lowL := memI hlow
        obtain ⟨hil, ei⟩ := List.getElem?_eq_some_iff.mp hlow
        rw [List.drop_eq_getElem_cons hil, ei] at ec
        unfold FL.scan at ec
        obtain ⟨dl2, hl2⟩ := q.N.ob
        refine ⟨_, rfl, _, rfl, S, _, rfl, DGet.k (k := Sum.inl low) q.hS, _, rfl, ?_⟩
        rw [valV_kvI, Option.isSome_map, tr1_get]
        -- the way of continue
        have cont : (low ∈ sn ∨ FL.liesB bel high low = false) → ∃ (sn' : List Int) (v' r' : Option V), [some (V.ref a.l), some (V.int high), some (V.ref S), some (V.int low), r] = [some (.ref a.l), some (.int high), some (.ref S), v', r'] ∧ ClPre c H2 a B bel told L ab be S sn' (n + 1) ∧ Keep3 a.A a.E S H H2 ∧ (∀ b, H2 b = none → H b = none) ∧
            FL.climb (FL.liesB bel) L (n + 1) high ⟨ab, be, seen⟩ = FL.scan (FL.climb (FL.liesB bel) L n) (FL.liesB bel) high (L.drop (i + 1)) ⟨ab, be, sn'⟩ := fun hc => by
          rw [if_pos hc] at ec
          exact ⟨sn, _, _, rfl, q, kp, fr, ec⟩
        by_cases hin : low ∈ sn
        · rw [decide_eq_true hin]
          exact iteT (cont (.inl hin))
        rw [decide_eq_false hin]
        refine iteF ?_
        refine ⟨_, rfl, a.l, c.L, dl2, _, _, rfl, hl2, T.clL, T.nLo, fL_order, a.o, _, _, rfl, q.O.ob.choose_spec, fO_no ⟨by decide +kernel, by decide +kernel⟩, _, rfl, _, rfl, a.o, B, bel, told, high, low, rfl, q.O, (p.hk high hh).1, (p.hk low lowL).2, _, rfl, ?_⟩
        cases hy : FL.liesB bel high low with
        | false => exact iteT (cont (.inr hy))
        | true =>
        refine iteF ?_
        rw [if_neg (by rw [hy]; intro z; rcases z with z | z; exact hin z; cases z)] at ec
        -- seen[low] = True
        refine ⟨_, rfl, _, rfl, S, _, rfl, DPut.k (k := Sum.inl low) q.hS (by rw [len_kvI, tr1_len]; exact small1000 (Nat.le_trans (FL.nodup_len_le q.nd q.sub) (Nat.le_trans q.z3 (by decide)))), ?_⟩
        have eS : putK (kvI (fun _ => V.bl true) (tr1 sn)) (Sum.inl low : Key) (V.bl true) = kvI (fun _ => V.bl true) (tr1 (sn ++ [low])) := by
          rw [← tr1_put hin]; exact putK_kvI (v := ())
        rw [eS]
        have nAS := q.nSA.symm
        have nES := q.nSE.symm
        have N3 : LnkAt c (upd H2 S (dS (sn ++ [low]))) a L ab be := ⟨⟨dl2, by rw [upd_ne nlS]; exact hl2⟩, by rw [upd_ne nLS]; exact q.N.ls, by rw [upd_ne nAS]; exact q.N.da, by rw [upd_ne nES]; exact q.N.de, q.N.nAE⟩
        have O3 : OrdAt c (upd H2 S (dS (sn ++ [low]))) a.o B bel told := by
          obtain ⟨⟨dO2, h1⟩, h2⟩ := q.O
          exact ⟨⟨dO2, by rw [upd_ne noS]; exact h1⟩, by rw [upd_ne q.nSB.symm]; exact h2⟩
        have kp3 : Keep3 a.A a.E S H (upd H2 S (dS (sn ++ [low]))) := fun b u n1 n2 n3 e => by rw [upd_ne n3]; exact kp b u n1 n2 n3 e
        have fr3 : ∀ b, (upd H2 S (dS (sn ++ [low]))) b = none → H b = none := fun b e => by
          by_cases z : b = S
          · rw [z, upd_same] at e; cases e
          · rw [upd_ne z] at e; exact fr b e
        refine ⟨_, rfl, _, rfl, a.l, c.L, dl2, _, _, rfl, (by rw [upd_ne nlS]; exact hl2), T.clL, T.nLa, fL_above, a.A, _, rfl, DGet.k (k := Sum.inl low) N3.da, _, rfl, ?_⟩
        rw [valV_kvI, Option.isSome_map]
        cases ha : FL.aget ab low with
        | none =>
          rw [ha] at ec
          simp only at ec
          refine iteT ?_
          refine ⟨_, rfl, a.l, dl2, _, rfl, (by rw [upd_ne nlS]; exact hl2), fL_no ⟨by decide +kernel, by decide +kernel, by decide +kernel, by decide +kernel⟩, _, rfl, _, rfl, a, L, ab, be, high, low, rfl, N3, by have := q.z1; omega, by have := q.z2; omega, fun H4 N4 k4 => ?_⟩
          refine ⟨_, rfl, _, rfl, by show 2 ≤ sizeLine; decide, fun t ht => ⟨by show 1 ≤ sizeLine; decide, fun pp hp => ?_⟩⟩
          have ntp : pp ≠ t := fun e => by rw [e, upd_same] at hp; cases hp
          have hp4 : H4 pp = none := by rw [upd_ne ntp] at hp; exact hp
          have s4 : ∀ b u, H4 b = some u → (upd (upd H4 t (.tup [.int high, .int low])) pp (.lst [.ref t])) b = some u := fun b u e => by
            rw [upd_ne (ne_of_none e hp4), upd_ne (ne_of_none e ht)]; exact e
          have back4 : ∀ b, H4 b = none → H b = none := fun b e => by
            refine fr3 b ?_
            cases z : (upd H2 S (dS (sn ++ [low]))) b with
            | none => rfl
            | some u =>
              by_cases z1 : b = a.A
              · rw [z1, N4.da] at e; cases e
              · by_cases z2 : b = a.E
                · rw [z2, N4.de] at e; cases e
                · rw [k4 b u z1 z2 z] at e; cases e
          refine k _ pp (back4 _ hp4) ?_ ?_ ?_ fun b u n1 n2 n3 e => s4 b u (k4 b u n1 n2 (kp3 b u n1 n2 n3 e))
          · rw [ec]
            exact ⟨[t], upd_same, by rw [upd_ne ntp.symm, upd_same], trivial⟩
          · rw [ec]; exact N4.same s4
          · rw [ec]
            exact s4 _ _ (k4 _ _ q.nSA q.nSE upd_same)
        | some up =>
          rw [ha] at ec
          simp only at ec
          refine iteF ?_
          -- rest = self.climbed(self.above[low], seen)
          have g := DGet.k (k := Sum.inl low) N3.da
          rw [valV_kvI, ha] at g
          have hup : up ∈ L := p.hab _ _ ha
          have us3 : FL.unseen L (sn ++ [low]) < n := by
            have := FL.unseen_lt (L := L) lowL hin
            have := q.us; omega
          have pre3 : ClPre c (upd H2 S (dS (sn ++ [low]))) a B bel told L ab be S (sn ++ [low]) n :=
            ⟨O3, N3, upd_same, q.nSA, q.nSE, q.nSB, q.nBA, q.nBE, q.hk, q.hab, by have := q.z1; omega, by have := q.z2; omega, q.z3, FL.nodup_snoc q.nd hin, fun x hx => by
              rcases List.mem_append.mp hx with hx | hx
              · exact q.sub x hx
              · rw [List.mem_singleton.mp hx]; exact lowL, us3⟩
          have hl3 : (upd H2 S (dS (sn ++ [low]))) a.l = some (.ins c.L dl2 (fL a.o a.L a.A a.E)) := by rw [upd_ne nlS]; exact hl2
          refine ⟨_, rfl, a.l, dl2, _, rfl, hl3, fL_no ⟨by decide +kernel, by decide +kernel, by decide +kernel, by decide +kernel⟩, _, rfl, a.l, c.L, dl2, _, _, rfl, hl3, T.clL, T.nLa, fL_above, _, rfl, a.A, .int up, rfl, g, _, rfl,
            a, B, bel, told, L, ab, be, S, sn ++ [low], up, rfl, pre3, hup, fun H4 pr hpr R4 N4 S4 k4 => ?_⟩
          have ce := FL.climb_end (lies := FL.liesB bel) n up ⟨ab, be, sn ++ [low]⟩ us3
          obtain ⟨cl1, cl2⟩ := cl_len (lies := FL.liesB bel) (L := L) n up ⟨ab, be, sn ++ [low]⟩
          have ck := cl_keep (lies := FL.liesB bel) (L := L) n up ⟨ab, be, sn ++ [low]⟩
          generalize hcr : FL.climb (FL.liesB bel) L n up ⟨ab, be, sn ++ [low]⟩ = cr at ec R4 N4 S4 ce cl1 cl2 ck
          obtain ⟨row, ⟨ab4, be4, sn4⟩⟩ := cr
          simp only at ec R4 N4 S4 ce cl1 cl2 ck
          have O4 : OrdAt c H4 a.o B bel told := O3.keep k4 ⟨noA, noE, noS⟩ ⟨q.nBA, q.nBE, q.nSB.symm⟩
          have kp4 : Keep3 a.A a.E S H H4 := fun b u n1 n2 n3 e => k4 b u n1 n2 n3 (kp3 b u n1 n2 n3 e)
          have back4 : ∀ b, H4 b = none → H b = none := fun b e => by
            refine fr3 b ?_
            cases z : (upd H2 S (dS (sn ++ [low]))) b with
            | none => rfl
            | some u =>
              by_cases z1 : b = a.A
              · rw [z1, N4.da] at e; cases e
              · by_cases z2 : b = a.E
                · rw [z2, N4.de] at e; cases e
                · by_cases z3 : b = S
                  · rw [z3, S4] at e; cases e
                  · rw [k4 b u z1 z2 z3 z] at e; cases e
          obtain ⟨ts, hts, tts⟩ := R4
          refine ⟨_, rfl, by show 0 ≤ sizeLine; decide, fun e0 he0 => ?_⟩
          have s5 : ∀ b u, H4 b = some u → (upd H4 e0 (.lst [])) b = some u := fun b u e => by rw [upd_ne (ne_of_none e he0)]; exact e
          refine ⟨rowD row, .list [], dp_row ⟨ts, s5 _ _ hts, tts.same fun b xs e => s5 b _ e⟩, dp_nil upd_same, rowD_sh row, by exact rowD_sh [], _, rfl, ?_⟩
          rw [row_nil]
          have back5 : ∀ b, (upd H4 e0 (.lst [])) b = none → H b = none := fun b e => by
            by_cases z : b = e0
            · rw [z, upd_same] at e; cases e
            · rw [upd_ne z] at e; exact back4 b e
          by_cases er : row = []
          · rw [decide_eq_true er]
            refine iteF ?_
            rw [if_pos er] at ec
            obtain ⟨c1, c2⟩ := ck er
            subst c1 c2
            refine ⟨sn4, _, _, rfl, ⟨O4.same fun b u _ e => s5 b u e, N4.same s5, s5 _ _ S4, q.nSA, q.nSE, q.nSB, q.nBA, q.nBE, q.hk, q.hab, q.z1, q.z2, q.z3, ce.nd (FL.nodup_snoc q.nd hin), fun x hx => ?_, ?_⟩, fun b u n1 n2 n3 e => s5 b u (kp4 b u n1 n2 n3 e), back5, ec⟩
            · rcases ce.sub x hx with h | h
              · exact pre3.sub x h
              · exact h
            · have := FL.unseen_mono (L := L) ce.mono
              simp only at this; omega
          · rw [decide_eq_false er]
            refine iteT ?_
            rw [if_neg er] at ec
            have N5 := N4.same s5
            obtain ⟨dl5, hl5⟩ := N5.ob
            refine ⟨_, rfl, a.l, dl5, _, rfl, hl5, fL_no ⟨by decide +kernel, by decide +kernel, by decide +kernel, by decide +kernel⟩, _, rfl, _, rfl, a, L, ab4, be4, high, low, rfl, N5, by have := q.z1; omega, by have := q.z2; omega, fun H6 N6 k6 => ?_⟩
            have nprA : pr ≠ a.A := ne_of hts N4.da (by intro z; cases z)
            have nprE : pr ≠ a.E := ne_of hts N4.de (by intro z; cases z)
            have hts6 : H6 pr = some (.lst (ts.map V.ref)) := k6 _ _ nprA nprE (s5 _ _ hts)
            refine ⟨_, rfl, _, rfl, by show 2 ≤ sizeLine; decide, fun t ht => ⟨by show 1 ≤ sizeLine; decide, fun q1 hq1 => ?_⟩⟩
            have nq1 : q1 ≠ t := fun e => by rw [e, upd_same] at hq1; cases hq1
            have hq16 : H6 q1 = none := by rw [upd_ne nq1] at hq1; exact hq1
            have s7 : ∀ b u, H6 b = some u → (upd (upd H6 t (.tup [.int high, .int low])) q1 (.lst [.ref t])) b = some u := fun b u e => by
              rw [upd_ne (ne_of_none e hq16), upd_ne (ne_of_none e ht)]; exact e
            have back6 : ∀ b, H6 b = none → H b = none := fun b e => by
              refine back5 b ?_
              cases z : (upd H4 e0 (.lst [])) b with
              | none => rfl
              | some u =>
                by_cases z1 : b = a.A
                · rw [z1, N6.da] at e; cases e
                · by_cases z2 : b = a.E
                  · rw [z2, N6.de] at e; cases e
                  · rw [k6 b u z1 z2 z] at e; cases e
            have lrow : ts.length ≤ 200 := by
              have h1 : ts.length = row.length := tts.len
              have h2 := (ce.done er).2.2.1
              have h3 : (row.map (·.2)).length ≤ L.length := FL.nodup_len_le h2 fun x hx => by
                obtain ⟨pp, hpp, rfl⟩ := List.mem_map.mp hx
                exact ((ce.done er).1.p4 pp hpp).1
              rw [List.length_map] at h3
              have := q.z3; omega
            refine ⟨_, rfl, q1, pr, _, _, rfl, rfl, upd_same, s7 _ _ hts6, by show 1 + (ts.map V.ref).length ≤ sizeLine; rw [List.length_map]; exact Nat.le_trans (Nat.add_le_add_left lrow 1) (by decide), fun pp hpp => ?_⟩
            have s8 : ∀ b u, H6 b = some u → (upd (upd (upd H6 t (.tup [.int high, .int low])) q1 (.lst [.ref t])) pp (.lst ([.ref t] ++ ts.map V.ref))) b = some u := fun b u e => by
              rw [upd_ne (ne_of_none (s7 b u e) hpp)]; exact s7 b u e
            have npt : pp ≠ t := fun e => by rw [e, upd_ne nq1.symm, upd_same] at hpp; cases hpp
            have npq : pp ≠ q1 := fun e => by rw [e, upd_same] at hpp; cases hpp
            have hpp6 : H6 pp = none := by rw [upd_ne npq, upd_ne npt] at hpp; exact hpp
            refine k _ pp (back6 _ hpp6) ?_ ?_ ?_ fun b u n1 n2 n3 e => s8 b u (k6 b u n1 n2 (s5 b u (kp4 b u n1 n2 n3 e)))
            · rw [ec]
              refine ⟨t :: ts, upd_same, ?_, tts.same fun b xs e => s8 b _ (k6 b _ (ne_of (s5 _ _ e) N5.da (by intro z; cases z)) (ne_of (s5 _ _ e) N5.de (by intro z; cases z)) (s5 _ _ e))⟩
              rw [upd_ne npt.symm, upd_ne nq1.symm, upd_same]
            · rw [ec]; exact N6.same s8
            · rw [ec]
              exact s8 _ _ (k6 _ _ q.nSA q.nSE (s5 _ _ S4))
      · rintro σ H2 ⟨sn, v, r, rfl, q, kp, fr, ec⟩
        rw [List.length_map, List.drop_length] at ec
        refine ⟨by show 0 ≤ sizeLine; decide, fun pp hp => ?_⟩
        have s3 : ∀ b u, H2 b = some u → (upd H2 pp (.lst [])) b = some u := fun b u e => by rw [upd_ne (ne_of_none e hp)]; exact e
        refine k _ pp (fr _ hp) ?_ ?_ ?_ fun b u n1 n2 n3 e => s3 b u (kp b u n1 n2 n3 e)
        · rw [ec]; exact ⟨[], upd_same, trivial⟩
        · rw [ec]; exact q.N.same s3
        · rw [ec]; exact s3 _ _ q.hS
end
end FW

set_option maxHeartbeats 4000000
/-! The walk 6: Links: joined, joined_all, add, drop, ladders. -/
namespace FW
open PySem PySem.Spec PyProof.Rows L2

structure JPre (c : CC) (H : Hp) (a : LA) (B : Addr) (bel : List (Int × Nat)) (told : Nat) (L : List Int) (ab be : List (Int × Int)) : Prop where
  O : OrdAt c H a.o B bel told
  N : LnkAt c H a L ab be
  nBA : B ≠ a.A
  nBE : B ≠ a.E
  hk : ∀ x ∈ L, (FL.aget bel x).isSome = true ∧ 0 ≤ x
  M : FL.Mt (FL.liesB bel) L ab be
  hL : L.length ≤ 24
def Keep2 (x y : Addr) (H H' : Hp) : Prop := ∀ b u, b ≠ x → b ≠ y → H b = some u → H' b = some u
theorem ne_of_back {H H' : Hp} {b x : Addr} {u : HO} (h : H x = some u) (e : H b = none) : x ≠ b := ne_of_none h e

def spJoined (c : CC) : Sp := fun vs H Q _ => ∃ (a : LA) (B : Addr) (bel : List (Int × Nat)) (told : Nat) (L : List Int) (ab be : List (Int × Int)), vs = [.ref a.l] ∧ JPre c H a B bel told L ab be ∧
  ∀ H' p, H p = none → RowAt H' p (FL.joined (FL.liesB bel) L ab be).1 → LnkAt c H' a L (FL.joined (FL.liesB bel) L ab be).2.1 (FL.joined (FL.liesB bel) L ab be).2.2 → Keep2 a.A a.E H H' → Q (.ref p) H'
section
variable {P : Program} {w : World} {K : PySem.W.Frag} {mg : Str → Option Value} {base : Heap} {c : CC}
theorem climb25 {lies : Int → Int → Bool} {L : List Int} (hL : L.length ≤ 24) (high : Int) (ab be : List (Int × Int)) : FL.climb lies L (L.length + 1) high ⟨ab, be, []⟩ = FL.climb lies L 25 high ⟨ab, be, []⟩ :=
  FL.climb_fuel _ _ _ _ (by rw [FL.unseen_nil]; omega) (by rw [FL.unseen_nil]; omega)
theorem ok_L_joined (T : Tx K mg c) (D : MD K c.L "joined" "Links.joined" sL_joined) (MC : MOk P w K mg base CX0 c.L "climbed" ["self", "high", "seen"] 27 (spClimb c 25)) : MOk P w K mg base CX0 c.L "joined" ["self"] 28 (spJoined c) := by
  obtain ⟨f1, fd1, m1, b1, F1⟩ := MC
  have sc : FnScope ["self", "high", "row"] ["self"] (defScope sL_joined) := ⟨rfl, rfl, rfl, by decide +kernel, rfl, by decide +kernel, by decide +kernel⟩
  refine D.ok sc (fun _ _ _ _ _ _ us hl => match us, hl with | [_], _ => rfl) (fun vs H Q E h => ?_) (fun f cdv A outer s H vs Q E hr h => ?_)
  · obtain ⟨a, B, bel, told, L, ab, be, rfl, _⟩ := h; rfl
  · obtain ⟨a, B, bel, told, L, ab, be, rfl, p, k⟩ := h
    have hu := hu_of hr
    refine ⟨_, pss_cons (ps_for PassesOwn.never rfl (pi_list (pe_fld (pv 0) rfl)) (pg_name (i := 1) sc.nd rfl (Or.inl rfl))
      (pss_one (ps_if (pt_cmp (pc_dnotin hu (pv 1) (pe_fld (pv 0) rfl)))
        (pss_cons (ps_set (i := 2) sc.nd rfl (Or.inl rfl) (pe_meth (pv 0) T.clL m1 F1 hr b1 .nil pass0 (pa_cons (pv 1) (pa_cons pe_dnewK pa_nil))))
        (pss_one (ps_if (pt_cmpR (op_neD hr.units) (pv 2) (pe_lst pa_nil) (nomark _)) (pss_one (ps_ret (pv 2))) pss_nil))) pss_nil)))
      (pss_one (ps_ret (pe_lst pa_nil))), ?_⟩
    obtain ⟨dl, hl⟩ := p.N.ob
    refine ⟨_, rfl, a.l, c.L, dl, _, _, rfl, hl, T.clL, T.nLl, fL_linked, a.L, rfl, ⟨_, SqL.of p.N.ls⟩, for_list (K := K) (a := a.L) (xs := L.map V.int)
      (fun i σ H2 => ∃ (v r : Option V), σ = [some (.ref a.l), v, r] ∧ JPre c H2 a B bel told L ab be ∧ Keep2 a.A a.E H H2 ∧ (∀ b, H2 b = none → H b = none) ∧
        FL.joined (FL.liesB bel) L ab be = FL.joinScan (FL.liesB bel) L (L.drop i) ab be)
      ⟨none, none, rfl, p, fun b u _ _ e => e, fun b e => e, rfl⟩ (fun i σ H2 _ ⟨_, _, _, q, _⟩ => SqL.of q.N.ls) ?_ ?_⟩
    · rintro i y σ H2 hi ⟨v, r, rfl, q, kp, fr, ec⟩
      obtain ⟨high, rfl, hhi⟩ := itemI hi
      have highL := memI hhi
      obtain ⟨hil, ei⟩ := List.getElem?_eq_some_iff.mp hhi
      rw [List.drop_eq_getElem_cons hil, ei] at ec
      unfold FL.joinScan at ec
      rw [climb25 q.hL] at ec
      obtain ⟨dl2, hl2⟩ := q.N.ob
      refine ⟨_, rfl, _, rfl, a.l, c.L, dl2, _, _, rfl, hl2, T.clL, T.nLb, fL_beneath, a.E, _, rfl, DGet.k (k := Sum.inl high) q.N.de, _, rfl, ?_⟩
      rw [valV_kvI, Option.isSome_map]
      cases hb : FL.aget be high with
      | some lo =>
        rw [hb] at ec
        rw [if_pos (show (some lo).isSome = true from rfl)] at ec
        exact iteF ⟨_, _, rfl, q, kp, fr, ec⟩
      | none =>
        rw [hb] at ec
        rw [if_neg (show ¬ (none : Option Int).isSome = true by simp)] at ec
        simp only at ec
        refine iteT ?_
        refine ⟨_, rfl, a.l, dl2, _, rfl, hl2, fL_no ⟨by decide +kernel, by decide +kernel, by decide +kernel, by decide +kernel⟩, _, rfl, fun S hS => ?_⟩
        have s3 : ∀ b u, H2 b = some u → (upd H2 S (.dK [])) b = some u := fun b u e => by rw [upd_ne (ne_of_none e hS)]; exact e
        have N3 := q.N.same s3
        have O3 := q.O.same fun b u _ e => s3 b u e
        have pre3 : ClPre c (upd H2 S (.dK [])) a B bel told L ab be S [] 25 :=
          ⟨O3, N3, upd_same, (ne_of_none q.N.da hS).symm, (ne_of_none q.N.de hS).symm, (ne_of_none q.O.dc hS).symm, q.nBA, q.nBE, q.hk, fun l h e => (q.M.inL l h e).2.1, by have := q.M.alen; have := q.hL; omega,
            by have := q.M.blen; have := q.hL; omega, Nat.le_trans q.hL (by decide), List.nodup_nil, fun x hx => (nomatch hx), by rw [FL.unseen_nil]; have := q.hL; omega⟩
        refine ⟨a, B, bel, told, L, ab, be, S, [], high, rfl, pre3, highL, fun H4 pr hpr R4 N4 S4 k4 => ?_⟩
        have ck := cl_keep (lies := FL.liesB bel) (L := L) 25 high ⟨ab, be, []⟩
        generalize hcr : FL.climb (FL.liesB bel) L 25 high ⟨ab, be, []⟩ = cr at ec R4 N4 S4 ck
        obtain ⟨row, ⟨ab4, be4, sn4⟩⟩ := cr
        simp only at ec R4 N4 S4 ck
        have back4 : ∀ b, H4 b = none → H b = none := fun b e => by
          refine fr b ?_
          cases z : H2 b with
          | none => rfl
          | some u =>
            by_cases z1 : b = a.A
            · rw [z1, N4.da] at e; cases e
            · by_cases z2 : b = a.E
              · rw [z2, N4.de] at e; cases e
              · rw [k4 b u z1 z2 (ne_of_none z hS) (s3 b u z)] at e; cases e
        have kp4 : Keep2 a.A a.E H H4 := fun b u n1 n2 e => k4 b u n1 n2 (ne_of_none (kp b u n1 n2 e) hS) (s3 b u (kp b u n1 n2 e))
        have hpr0 : H pr = none := by
          refine fr pr ?_
          cases z : H2 pr with
          | none => rfl
          | some u => rw [s3 _ _ z] at hpr; cases hpr
        refine ⟨_, rfl, by show 0 ≤ sizeLine; decide, fun e0 he0 => ?_⟩
        have s5 : ∀ b u, H4 b = some u → (upd H4 e0 (.lst [])) b = some u := fun b u e => by rw [upd_ne (ne_of_none e he0)]; exact e
        obtain ⟨ts, hts, tts⟩ := R4
        have R5 : RowAt (upd H4 e0 (.lst [])) pr row := ⟨ts, s5 _ _ hts, tts.same fun b xs e => s5 b _ e⟩
        refine ⟨rowD row, .list [], dp_row R5, dp_nil upd_same, rowD_sh row, by exact rowD_sh [], _, rfl, ?_⟩
        rw [row_nil]
        by_cases er : row = []
        · rw [decide_eq_true er]
          refine iteF ?_
          rw [if_pos er] at ec
          obtain ⟨c1, c2⟩ := ck er
          subst c1 c2
          have O4 : OrdAt c H4 a.o B bel told := by
            obtain ⟨⟨dO, h1⟩, h2⟩ := O3
            have nS : S ≠ a.o := (ne_of_none q.O.ob.choose_spec hS).symm
            exact ⟨⟨dO, k4 _ _ (ne_of h1 N3.da (by intro z; cases z)) (ne_of h1 N3.de (by intro z; cases z)) nS.symm h1⟩, k4 _ _ q.nBA q.nBE (ne_of_none q.O.dc hS) h2⟩
          exact ⟨_, _, rfl, ⟨O4.same fun b u _ e => s5 b u e, N4.same s5, q.nBA, q.nBE, q.hk, q.M, q.hL⟩, fun b u n1 n2 e => s5 b u (kp4 b u n1 n2 e), fun b e => by
            by_cases z : b = e0
            · rw [z, upd_same] at e; cases e
            · rw [upd_ne z] at e; exact back4 b e, ec⟩
        · rw [decide_eq_false er]
          refine iteT ?_
          rw [if_neg er] at ec
          refine ⟨_, rfl, k _ pr hpr0 (by rw [ec]; exact R5) (by rw [ec]; exact N4.same s5) fun b u n1 n2 e => s5 b u (kp4 b u n1 n2 e)⟩
    · rintro σ H2 ⟨v, r, rfl, q, kp, fr, ec⟩
      rw [List.length_map, List.drop_length] at ec
      refine ⟨by show 0 ≤ sizeLine; decide, fun pp hp => ?_⟩
      have s3 : ∀ b u, H2 b = some u → (upd H2 pp (.lst [])) b = some u := fun b u e => by rw [upd_ne (ne_of_none e hp)]; exact e
      refine k _ pp (fr _ hp) ?_ ?_ fun b u n1 n2 e => s3 b u (kp b u n1 n2 e)
      · rw [ec]; exact ⟨[], upd_same, trivial⟩
      · rw [ec]; exact q.N.same s3

def spJAll (c : CC) : Sp := fun vs H Q _ => ∃ (a : LA) (B : Addr) (bel : List (Int × Nat)) (told : Nat) (L : List Int) (ab be : List (Int × Int)), vs = [.ref a.l] ∧ JPre c H a B bel told L ab be ∧ FL.Po (FL.liesB bel) L ∧
  ∀ H', LnkAt c H' a L (FL.joinAll (FL.liesB bel) L (L.length + 1) ab be).1 (FL.joinAll (FL.liesB bel) L (L.length + 1) ab be).2 → Keep2 a.A a.E H H' → Q .non H'
def spAdd (c : CC) : Sp := fun vs H Q _ => ∃ (a : LA) (L : List Int) (ab be : List (Int × Int)) (one : Int), vs = [.ref a.l, .int one] ∧ LnkAt c H a L ab be ∧ (L ++ [one]).Pairwise (· < ·) ∧ L.length ≤ 60 ∧
  ∀ H' L', H L' = none → LnkAt c H' { a with L := L' } (L ++ [one]) ab be → (∀ b u, b ≠ a.l → H b = some u → H' b = some u) → Q .non H'
theorem ok_L_add (T : Tx K mg c) (D : MD K c.L "add" "Links.add" sL_add) : MOk P w K mg base CX0 c.L "add" ["self", "one"] 1 (spAdd c) := by
  refine D.ok (N := ["self", "one"]) ⟨rfl, rfl, rfl, by decide +kernel, rfl, by decide +kernel, by decide +kernel⟩ (fun _ _ _ _ _ _ us hl => match us, hl with | [_, _], _ => rfl) (fun vs H Q E h => ?_) (fun f cdv A outer s H vs Q E hr h => ?_)
  · obtain ⟨a, L, ab, be, one, rfl, _⟩ := h; rfl
  · obtain ⟨a, L, ab, be, one, rfl, N, hs, hl, k⟩ := h
    obtain ⟨⟨dl, hal⟩, hL, hA, hE, nAE⟩ := id N
    refine ⟨_, pss_one (ps_fld (pv 0) (pe_callB cr_sorted (by rfl) T.zSorted PyProof.Rows.boot_sorted (pa_cons (pe_op op_cat (pe_fld (pv 0) rfl) (pe_lst (pa_cons (pv 1) pa_nil))) pa_nil)) rfl), ?_⟩
    refine ⟨_, rfl, a.l, c.L, dl, _, _, rfl, hal, T.clL, T.nLl, fL_linked, _, rfl, by show 1 ≤ sizeLine; decide, fun q hq => ?_⟩
    have s1 : ∀ b u, H b = some u → (upd H q (.lst [.int one])) b = some u := fun b u e => by rw [upd_ne (ne_of_none e hq)]; exact e
    refine ⟨a.L, q, _, _, rfl, rfl, s1 _ _ hL, upd_same, by rw [List.length_map]; exact Nat.le_trans (Nat.add_le_add_right hl 1) (by decide), fun r hr' => ?_⟩
    have s2 : ∀ b u, H b = some u → (upd (upd H q (.lst [.int one])) r (.lst (L.map V.int ++ [.int one]))) b = some u := fun b u e => by rw [upd_ne (ne_of_none (s1 b u e) hr')]; exact s1 b u e
    refine ⟨r, L ++ [one], rfl, SqL.of (by rw [upd_same, List.map_append]; rfl), by rw [List.length_append, List.length_singleton]; omega, fun ns' t hp hy ht => ?_⟩
    have e : ns' = L ++ [one] := srt_perm hp hy hs
    subst e
    have s3 : ∀ b u, H b = some u → (upd (upd (upd H q (.lst [.int one])) r (.lst (L.map V.int ++ [.int one]))) t (lI (L ++ [one]))) b = some u := fun b u e => by rw [upd_ne (ne_of_none (s2 b u e) ht)]; exact s2 b u e
    have ht0 : H t = none := by
      cases z : H t with
      | none => rfl
      | some u => rw [s2 _ _ z] at ht; cases ht
    refine ⟨_, rfl, a.l, c.L, dl, _, rfl, s3 _ _ hal, T.clL, T.nLl, (by show 4 < 1000; decide), ?_⟩
    rw [fL_put]
    have ntl : t ≠ a.l := (ne_of_none hal ht0).symm
    refine k _ t ht0 ⟨⟨dl, upd_same⟩, by show upd _ a.l _ t = _; rw [upd_ne ntl, upd_same], by show upd _ a.l _ a.A = _; rw [upd_ne (ne_of hA hal (by intro z; cases z))]; exact s3 _ _ hA, by show upd _ a.l _ a.E = _; rw [upd_ne (ne_of hE hal (by intro z; cases z))]; exact s3 _ _ hE, nAE⟩ fun b u n e => ?_
    rw [upd_ne n]; exact s3 b u e
end
end FW

set_option maxHeartbeats 4000000
/-! The walk 7: Links: drop, ladders. -/
namespace FW
open PySem PySem.Spec PyProof.Rows L2
section
variable {P : Program} {w : World} {K : PySem.W.Frag} {mg : Str → Option Value} {base : Heap} {c : CC}
theorem erase_at : ∀ {L : List Int} {j : Nat} {x : Int}, L.Nodup → L[j]? = some x → L.eraseIdx j = L.filter fun y => decide (y ≠ x)
  | [], j, x, _, h => by simp at h
  | a :: r, 0, x, nd, h => by
    have e : a = x := Option.some.inj h
    subst e
    obtain ⟨h1, _⟩ := List.nodup_cons.mp nd
    rw [List.eraseIdx_cons_zero, List.filter_cons, if_neg (by simp)]
    exact (List.filter_eq_self.mpr fun y hy => by
      have : y ≠ a := fun e => h1 (e ▸ hy)
      simp [this]).symm
  | a :: r, j + 1, x, nd, h => by
    obtain ⟨h1, h2⟩ := List.nodup_cons.mp nd
    have h' : r[j]? = some x := h
    rw [List.eraseIdx_cons_succ, List.filter_cons, if_pos (by
      have : a ≠ x := fun e => h1 (e ▸ List.mem_of_getElem? h')
      simp [this]), erase_at h2 h']
def optV : Option Int → V
  | none => .non
  | some x => .int x
def spDrop (c : CC) : Sp := fun vs H Q _ => ∃ (a : LA) (L : List Int) (ab be : List (Int × Int)) (one : Int), vs = [.ref a.l, .int one] ∧ LnkAt c H a L ab be ∧ L.Nodup ∧ one ∈ L ∧ ab.length ≤ 900 ∧ be.length ≤ 900 ∧
  (∀ l h, FL.aget ab l = some h ↔ FL.aget be h = some l) ∧ (∀ l, FL.aget ab l ≠ some l) ∧
  ∀ H', LnkAt c H' a (L.filter fun y => decide (y ≠ one)) (FL.dropA ab be one).1 (FL.dropA ab be one).2 → Keep3 a.L a.A a.E H H' → Q .non H'
end
end FW

set_option maxHeartbeats 4000000
/-! The walk 8: a filtering comprehension; Links: ladders, reached, free. -/
namespace FW
open PySem PySem.Spec PyProof.Rows L2
section
variable {P : Program} {w : World} {K : PySem.W.Frag} {mg : Str → Option Value} {base : Heap} {c : CC}

/-- [f(x) for x in xs if p(x)] where neither test nor element changes anything -/
theorem lc_filt {a : Addr} {ns : List Int} {tl : TE} {tt : TT} {te : TE} {j : Nat} {vs : List Nat} {σ : L2.St} {H : Hp} {Q : VK} (p : Int → Bool) (f : Int → V)
    (htl : ∀ Q' : VK, Q' (.ref a) H → tl σ H Q') (hS : SqL K H a (ns.map V.int)) (hn : ns.length ≤ 1000) (hw : ∀ x, wipe ((wipe σ vs).set j (some x)) vs = wipe σ vs)
    (ht : ∀ z ∈ ns, ∀ H1, Same H H1 → ∀ Q' : Bool → Hp → Prop, Q' (p z) H1 → tt ((wipe σ vs).set j (some (.int z))) H1 Q')
    (he : ∀ z ∈ ns, p z = true → ∀ H1, Same H H1 → ∀ Q' : VK, Q' (f z) H1 → te ((wipe σ vs).set j (some (.int z))) H1 Q')
    (k : ∀ D, H D = none → Q (.ref D) (upd H D (.lst ((ns.filter p).map f)))) : tLc (iList K tl) (gName j) tt te vs σ H Q := by
  refine htl _ ⟨a, rfl, ⟨_, hS⟩, fun D hD => lc_list (K := K) (a := a) (xs := ns.map V.int) (fun i H2 => H2 = upd H D (.lst (((ns.take i).filter p).map f))) rfl (fun i H2 _ e => ?_) (fun i x H2 hi e => ?_) (fun H2 e => ?_)⟩
  · subst e
    exact Same.seq (fun b o e => by rw [upd_ne (ne_of_none e hD)]; exact e) hS
  · subst e
    obtain ⟨z, rfl, hz⟩ := itemI hi
    have s1 : Same H (upd H D (.lst (((ns.take i).filter p).map f))) := fun b o e => by rw [upd_ne (ne_of_none e hD)]; exact e
    refine ⟨hw _, ht z (memI hz) _ s1 _ ?_⟩
    have et : ns.take (i + 1) = ns.take i ++ [z] := by rw [List.take_add_one, hz]; rfl
    cases hp : p z with
    | true =>
      rw [if_pos rfl]
      refine he z (memI hz) hp _ s1 _ ⟨_, upd_same, ?_, ?_⟩
      · rw [List.length_map]
        refine small1000 (Nat.le_trans (List.length_filter_le _ _) (Nat.le_trans (List.length_take_le _ _) ?_))
        exact Nat.le_of_lt (Nat.lt_of_lt_of_le (List.getElem?_eq_some_iff.mp hz).1 hn)
      · rw [upd_upd, et, List.filter_append, List.map_append, List.filter_cons, if_pos hp]; rfl
    | false =>
      rw [if_neg Bool.false_ne_true, et, List.filter_append, List.filter_cons, if_neg (by rw [hp]; exact Bool.false_ne_true), List.filter_nil, List.append_nil]
  · subst e
    rw [List.length_map, List.take_length]
    exact k D hD

/-! ### lists of lists -/
def LLT (H : Hp) : List Addr → List (List Int) → Prop
  | [], [] => True
  | t :: ts, l :: r => H t = some (lI l) ∧ LLT H ts r
  | _, _ => False
theorem LLT.same {H H' : Hp} (s : ∀ b xs, H b = some (.lst xs) → H' b = some (.lst xs)) : ∀ {ts : List Addr} {r : List (List Int)}, LLT H ts r → LLT H' ts r
  | [], [], _ => trivial
  | t :: ts, p :: r, h => ⟨s _ _ h.1, LLT.same s h.2⟩
  | [], _ :: _, h => h.elim
  | _ :: _, [], h => h.elim
theorem LLT.sameM {H H' : Hp} : ∀ {ts : List Addr} {r : List (List Int)}, (∀ b ∈ ts, ∀ u, H b = some u → H' b = some u) → LLT H ts r → LLT H' ts r
  | [], [], _, _ => trivial
  | t :: ts, p :: r, s, h => ⟨s t List.mem_cons_self _ h.1, LLT.sameM (fun b hb => s b (List.mem_cons_of_mem _ hb)) h.2⟩
  | [], _ :: _, _, h => h.elim
  | _ :: _, [], _, h => h.elim
theorem LLT.snoc {H : Hp} {t : Addr} {l : List Int} (h : H t = some (lI l)) : ∀ {ts : List Addr} {r : List (List Int)}, LLT H ts r → LLT H (ts ++ [t]) (r ++ [l])
  | [], [], _ => ⟨h, trivial⟩
  | _ :: ts, _ :: r, q => ⟨q.1, LLT.snoc h q.2⟩
  | [], _ :: _, q => q.elim
  | _ :: _, [], q => q.elim
theorem LLT.len {H : Hp} : ∀ {ts : List Addr} {r : List (List Int)}, LLT H ts r → ts.length = r.length
  | [], [], _ => rfl
  | t :: ts, p :: r, h => by rw [List.length_cons, List.length_cons, LLT.len h.2]
  | [], _ :: _, h => h.elim
  | _ :: _, [], h => h.elim
theorem LLT.is {H : Hp} : ∀ {ts : List Addr} {r : List (List Int)}, LLT H ts r → ∀ t ∈ ts, ∃ l, H t = some (lI l)
  | [], [], _, t, ht => nomatch ht
  | _ :: ts, _ :: r, h, t, ht => by
    rcases List.mem_cons.mp ht with e | ht
    · exact ⟨_, e ▸ h.1⟩
    · exact LLT.is h.2 t ht
  | [], _ :: _, h, _, _ => h.elim
  | _ :: _, [], h, _, _ => h.elim
theorem LLT.get {H : Hp} : ∀ {ts : List Addr} {r : List (List Int)} {i : Nat} {t : Addr}, LLT H ts r → ts[i]? = some t → ∃ l, r[i]? = some l ∧ H t = some (lI l)
  | [], [], i, t, _, ht => by simp at ht
  | _ :: ts, _ :: r, 0, t, h, ht => ⟨_, rfl, Option.some.inj ht ▸ h.1⟩
  | t0 :: ts, l0 :: r, i + 1, t, h, ht => LLT.get (i := i) (r := r) (ts := ts) h.2 (show ts[i]? = some t from ht)
  | [], _ :: _, _, _, h, _ => h.elim
  | _ :: _, [], _, _, h, _ => h.elim
theorem dp_llT {H : Hp} : ∀ {ts : List Addr} {r : List (List Int)}, LLT H ts r → DpAll K H (ts.map V.ref) (r.map iD)
  | [], [], _ => .nil
  | t :: ts, p :: r, h => .cons (dp_iD (SqL.of h.1)) (dp_llT h.2)
  | [], _ :: _, h => h.elim
  | _ :: _, [], h => h.elim
/-- a new list of new lists at p; H0: the heap ahead -/
structure LLAt (H0 H : Hp) (p : Addr) (ps : List Addr) (ll : List (List Int)) : Prop where
  at_ : H p = some (.lst (ps.map V.ref))
  tt : LLT H ps ll
  nd : (p :: ps).Nodup
  new : ∀ q ∈ p :: ps, H0 q = none
theorem LLAt.dp {H0 H : Hp} {p : Addr} {ps : List Addr} {ll : List (List Int)} (h : LLAt H0 H p ps ll) : Dp K H (.ref p) (iiD ll) := .lst (SqL.of h.at_) (dp_llT h.tt)

/-! ### ladders -/
def spLadders (c : CC) : Sp := fun vs H Q _ => ∃ (a : LA) (L : List Int) (ab be : List (Int × Int)) (lies : Int → Int → Bool), vs = [.ref a.l] ∧ LnkAt c H a L ab be ∧ FL.Mt lies L ab be ∧ FL.Po lies L ∧ L.length ≤ 24 ∧
  ∀ H' p ps, Same H H' → LLAt H H' p ps (FL.ladders L ab be) → Q (.ref p) H'
theorem ok_L_ladders (T : Tx K mg c) (D : MD K c.L "ladders" "Links.ladders" sL_ladders) : MOk P w K mg base CX0 c.L "ladders" ["self"] 1 (spLadders c) := by
  have sc : FnScope ["self", "found", "one", "ladder"] ["self"] (defScope sL_ladders) := ⟨rfl, rfl, rfl, by decide +kernel, rfl, by decide +kernel, by decide +kernel⟩
  refine D.ok sc (fun _ _ _ _ _ _ us hl => match us, hl with | [_], _ => rfl) (fun vs H Q E h => ?_) (fun f cdv A outer s H vs Q E hr h => ?_)
  · obtain ⟨a, L, ab, be, lies, rfl, _⟩ := h; rfl
  · obtain ⟨a, L, ab, be, lies, rfl, N, M, Po, hL24, k⟩ := h
    have hu := hu_of hr
    obtain ⟨⟨dl, hal⟩, hL, hA, hE, nAE⟩ := id N
    refine ⟨_, pss_cons (ps_set (i := 1) sc.nd rfl (Or.inl rfl) (pe_lst pa_nil))
      (pss_cons (ps_for PassesOwn.never rfl (pi_list (pe_fld (pv 0) rfl)) (pg_name (i := 2) sc.nd rfl (Or.inl rfl))
        (pss_one (ps_if (pt_cmp (pc_dnotin hu (pv 2) (pe_fld (pv 0) rfl)))
          (pss_cons (ps_set (i := 3) sc.nd rfl (Or.inl rfl) (pe_lst (pa_cons (pv 2) pa_nil)))
          (pss_cons (ps_while PassesOwn.never (pt_cmp (pc_din hu (pe_ix ix_list (pv 3) (pe_un un_neg pe_int) (fun _ _ => rfl)) (pe_fld (pv 0) rfl)))
            (pss_one (ps_expr (pe_bm PySem.F.plainAttrs_list PySem.F.slot_list_append PySem.F.type_list_append mt_append (pv 3) (pa_cons (pe_dget hu (pe_fld (pv 0) rfl) (pe_ix ix_list (pv 3) (pe_un un_neg pe_int) (fun _ _ => rfl)) (fun _ _ => rfl)) pa_nil)))))
          (pss_one (ps_expr (pe_bm PySem.F.plainAttrs_list PySem.F.slot_list_append PySem.F.type_list_append mt_append (pv 1) (pa_cons (pv 3) pa_nil)))))) pss_nil)))
      (pss_one (ps_ret (pv 1)))), ?_⟩
    refine ⟨Nat.zero_le _, fun q hq => ?_⟩
    have s0 : Same H (upd H q (.lst [])) := fun b o e => by rw [upd_ne (ne_of_none e hq)]; exact e
    refine ⟨_, rfl, a.l, c.L, dl, _, _, rfl, s0 _ _ hal, T.clL, T.nLl, fL_linked, a.L, rfl, ⟨_, SqL.of (s0 _ _ hL)⟩, for_list (K := K) (a := a.L) (xs := L.map V.int)
      (fun i σ H2 => ∃ (ps : List Addr) (v r : Option V), σ = [some (.ref a.l), some (.ref q), v, r] ∧ Same H H2 ∧ LLAt H H2 q ps ((FL.bots (L.take i) be).map (FL.up ab L.length)))
      ⟨[], none, none, rfl, s0, upd_same, trivial, by simp, fun z hz => by rw [List.mem_singleton.mp hz]; exact hq⟩ (fun i σ H2 _ ⟨_, _, _, _, s2, _⟩ => SqL.of (s2 _ _ hL)) ?_ ?_⟩
    · rintro i y σ H2 hi ⟨ps, v, r, rfl, s2, A2⟩
      obtain ⟨one, rfl, hone⟩ := itemI hi
      have oneL := memI hone
      have hal2 := s2 _ _ hal
      have et : FL.bots (L.take (i + 1)) be = FL.bots (L.take i) be ++ (if (FL.aget be one).isNone = true then [one] else []) := by
        unfold FL.bots
        rw [List.take_add_one, hone]
        show List.filter _ (L.take i ++ [one]) = _
        rw [List.filter_append, List.filter_cons]
        split <;> rfl
      refine ⟨_, rfl, _, rfl, a.l, c.L, dl, _, _, rfl, hal2, T.clL, T.nLb, fL_beneath, a.E, _, rfl, DGet.k (k := Sum.inl one) (s2 _ _ hE), _, rfl, ?_⟩
      rw [valV_kvI, Option.isSome_map]
      cases hb : FL.aget be one with
      | some lo =>
        refine iteF ⟨ps, _, _, rfl, s2, ?_⟩
        rw [et, hb, if_neg (by simp), List.append_nil]; exact A2
      | none =>
        refine iteT ?_
        rw [hb, if_pos (by rfl)] at et
        refine ⟨_, rfl, by show 1 ≤ sizeLine; decide, fun r1 hr1 => ?_⟩
        have s3 : ∀ b u, H2 b = some u → (upd H2 r1 (.lst [.int one])) b = some u := fun b u e => by rw [upd_ne (ne_of_none e hr1)]; exact e
        have hr10 : H r1 = none := by
          cases z : H r1 with
          | none => rfl
          | some u => rw [s2 _ _ z] at hr1; cases hr1
        -- while ladder[-1] in self.above
        refine ⟨fun m σ H4 => σ = [some (.ref a.l), some (.ref q), some (.int one), some (.ref r1)] ∧ (∀ b u, b ≠ r1 → H2 b = some u → H4 b = some u) ∧
          ∃ (xs : List Int) (x : Int) (n : Nat), H4 r1 = some (lI (xs ++ [x])) ∧ x ∈ L ∧ xs ++ FL.up ab n x = FL.up ab L.length one ∧ FL.above L x ≤ n ∧ m = FL.above L x ∧ xs.length + FL.above L x ≤ 24,
          ⟨FL.above L one, rfl, fun b u n e => by rw [upd_ne n]; exact e, [], one, L.length, upd_same, oneL, rfl, FL.above_le _ _, rfl, by rw [List.length_nil, Nat.zero_add]; exact Nat.le_trans (FL.above_le _ _) hL24⟩, ?_⟩
        rintro m σ H4 ⟨rfl, k4, xs, x, n, h4, xL, eu, hn, rfl, hlen⟩
        have nlr : a.l ≠ r1 := ne_of_none hal2 hr1
        have nAr : a.A ≠ r1 := ne_of_none (s2 _ _ hA) hr1
        have hal4 := k4 _ _ nlr hal2
        have hA4 := k4 _ _ nAr (s2 _ _ hA)
        have ixq : atI ((xs ++ [x]).map V.int) (-1) = some (V.int x) := by rw [List.map_append]; exact atI_last _ _
        refine ⟨_, rfl, _, rfl, r1, _, _, _, rfl, rfl, SqL.of h4, ixq, _, rfl, a.l, c.L, dl, _, _, rfl, hal4, T.clL, T.nLa, fL_above, a.A, _, rfl, DGet.k (k := Sum.inl x) hA4, _, rfl, ?_⟩
        rw [valV_kvI, Option.isSome_map]
        cases ha : FL.aget ab x with
        | some y =>
          refine iteT ⟨_, fun σ' H' z => z, ?_⟩
          obtain ⟨_, yL, hy⟩ := M.inL _ _ ha
          have hab := FL.above_lt yL (Po.lt y yL x hy)
          have g := DGet.k (k := Sum.inl x) hA4
          rw [valV_kvI, ha] at g
          refine ⟨_, rfl, Or.inl ⟨rfl, _, SqL.of h4⟩, _, rfl, a.l, c.L, dl, _, _, rfl, hal4, T.clL, T.nLa, fL_above, _, rfl, _, rfl, r1, _, _, _, rfl, rfl, SqL.of h4, ixq, a.A, .int y, rfl, g, r1, _, _, rfl, rfl, h4, ?_, ?_⟩
          · rw [List.length_map, List.length_append, List.length_singleton]; exact small1000 (by omega)
          · refine ⟨FL.above L y, hab, rfl, fun b u n e => by rw [upd_ne n]; exact k4 b u n e, xs ++ [x], y, n - 1, ?_, yL, ?_, by omega, rfl, by rw [List.length_append, List.length_singleton]; omega⟩
            · rw [upd_same]
              show _ = some (HO.lst ((xs ++ [x] ++ [y]).map V.int))
              rw [List.map_append (l₁ := xs ++ [x])]; rfl
            · obtain ⟨n', rfl⟩ : ∃ n', n = n' + 1 := ⟨n - 1, by omega⟩
              rw [← eu]
              show (xs ++ [x]) ++ FL.up ab n' y = xs ++ FL.up ab (n' + 1) x
              rw [List.append_assoc]
              congr 1
              show x :: FL.up ab n' y = _
              conv => rhs; unfold FL.up
              rw [ha]
        | none =>
          refine iteF ?_
          have eu' : xs ++ [x] = FL.up ab L.length one := by
            rw [← eu]
            congr 1
            cases n with
            | zero => rfl
            | succ n => unfold FL.up; rw [ha]
          have nqr : q ≠ r1 := ne_of_none A2.at_ hr1
          refine ⟨_, rfl, Or.inl ⟨rfl, _, SqL.of (k4 _ _ nqr A2.at_)⟩, _, rfl, q, _, _, rfl, rfl, k4 _ _ nqr A2.at_, ?_, ?_⟩
          · rw [List.length_map, A2.tt.len, List.length_map]
            refine small1000 (Nat.le_trans (List.length_filter_le _ _) (Nat.le_trans (List.length_take_le _ _) ?_))
            have := (List.getElem?_eq_some_iff.mp hone).1
            omega
          · have nps : ∀ t ∈ ps, t ≠ r1 ∧ t ≠ q := fun t ht => by
              obtain ⟨l, hl⟩ := A2.tt.is t ht
              refine ⟨ne_of_none hl hr1, fun e => ?_⟩
              exact (List.nodup_cons.mp A2.nd).1 (e ▸ ht)
            refine ⟨ps ++ [r1], _, _, rfl, fun b u e => ?_, ?_, ?_, ?_, fun t ht => ?_⟩
            · rw [upd_ne (ne_of_none e hq)]
              exact k4 b u (ne_of_none e hr10) (s2 b u e)
            · rw [upd_same, List.map_append]; rfl
            · rw [et, List.map_append]
              refine LLT.snoc ?_ (A2.tt.sameM fun t ht u e => by rw [upd_ne (nps t ht).2]; exact k4 t u (nps t ht).1 e)
              rw [upd_ne nqr.symm, ← eu']; exact h4
            · refine List.nodup_cons.mpr ⟨fun z => ?_, FL.nodup_snoc (List.nodup_cons.mp A2.nd).2 fun z => (nps r1 z).1 rfl⟩
              rcases List.mem_append.mp z with z | z
              · exact (List.nodup_cons.mp A2.nd).1 z
              · exact nqr (List.mem_singleton.mp z)
            · rcases List.mem_cons.mp ht with rfl | ht
              · exact hq
              · rcases List.mem_append.mp ht with ht | ht
                · exact A2.new t (List.mem_cons_of_mem _ ht)
                · rw [List.mem_singleton.mp ht]; exact hr10
    · rintro σ H2 ⟨ps, v, r, rfl, s2, A2⟩
      rw [List.length_map, List.take_length] at A2
      exact ⟨_, rfl, k H2 q ps s2 A2⟩
end
end FW

set_option maxHeartbeats 4000000
/-! The walk 9: Links: reached, free. -/
namespace FW
open PySem PySem.Spec PyProof.Rows L2

theorem reachIn_cons (lies : Int → Int → Bool) (ab : List (Int × Int)) (high x : Int) (r : List Int) (s : FL.RS) : FL.reachIn lies ab high (x :: r) s = FL.reachIn lies ab high r (FL.reachIn lies ab high [x] s) := by
  simp only [FL.reachIn]
  split
  · split <;> rfl
  · rfl
theorem reachIn_app (lies : Int → Int → Bool) (ab : List (Int × Int)) (high : Int) : ∀ (l1 l2 : List Int) (s : FL.RS), FL.reachIn lies ab high (l1 ++ l2) s = FL.reachIn lies ab high l2 (FL.reachIn lies ab high l1 s)
  | [], _, _ => rfl
  | x :: l1, l2, s => by rw [List.cons_append, reachIn_cons, reachIn_app lies ab high l1 l2, ← reachIn_cons]
theorem merge_nd : ∀ (more acc : List (Key × V)), ((acc ++ more).map (·.1)).Nodup → mergeK acc more = acc ++ more
  | [], acc, _ => by rw [List.append_nil]; rfl
  | p :: r, acc, h => by
    have hk : valV acc p.1 = none := by
      cases e : valV acc p.1 with
      | none => rfl
      | some v =>
        have m := valV_in e
        rw [List.map_append, List.map_cons, List.nodup_append] at h
        exact absurd rfl (h.2.2 p.1 m p.1 List.mem_cons_self)
    show mergeK (putK acc p.1 p.2) r = _
    rw [putK_new _ hk, merge_nd r (acc ++ [(p.1, p.2)]) (by rw [List.append_assoc]; exact h), List.append_assoc]; rfl

/-- a field read, the written part by its own name (within a comprehension) -/
theorem pfK {X : Cx} {e : Expr} {f : Str} {pos : Pos} {ta : TE} (K : PySem.W.Frag) (he : PE X e ta) (hK : X.K = K := by rfl) (hb : attributeBase e f X.env (eval e X.env) = eval e X.env := by rfl) : PE X (.Attribute e f pos) (tFld K ta f) := by
  subst hK
  exact pe_fld he hb
theorem paired_map {H : Hp} {K : PySem.W.Frag} : ∀ {ts : List Addr} {bl : List Int}, Paired (fun t x => H t = some (.tup [.int x, .bl true])) ts bl → Paired (fun p kv => SqT K H p [kV kv.1, kv.2]) ts (kvI (fun _ => V.bl true) (tr1 bl))
  | _, _, .nil => .nil
  | _, _, .cons h t => .cons (SqT.of h) (paired_map t)
theorem tr1_keys (l : List Int) : (tr1 l).map (·.1) = l := by
  unfold tr1
  rw [List.map_map]; exact List.map_id _
theorem inl_nd {l : List Int} (h : l.Nodup) : (l.map (Sum.inl : Int → Key)).Nodup := List.pairwise_map.mpr (h.imp fun h e => h (Sum.inl.inj e))
section
variable {P : Program} {w : World} {K : PySem.W.Frag} {mg : Str → Option Value} {base : Heap} {c : CC}
def spReached (c : CC) : Sp := fun vs H Q _ => ∃ (a : LA) (B : Addr) (bel : List (Int × Nat)) (told : Nat) (L : List Int) (ab be : List (Int × Int)), vs = [.ref a.l] ∧ JPre c H a B bel told L ab be ∧ FL.Po (FL.liesB bel) L ∧ FL.NoAug (FL.liesB bel) L ab be ∧
  ∀ H' t hs ls, Same H H' → H t = none → H' t = some (.tup [.ref hs, .ref ls]) → H' hs = some (dS (FL.reachAll (FL.liesB bel) L ab be).hs) → H' ls = some (dS (FL.reachAll (FL.liesB bel) L ab be).ls) → Q (.ref t) H'
theorem ok_L_reached (T : Tx K mg c) (D : MD K c.L "reached" "Links.reached" sL_reached) (MO : MOk P w K mg base CX0 c.O "lies_above" ["self", "one", "other"] 2 (spO_lies c)) : MOk P w K mg base CX0 c.L "reached" ["self"] 3 (spReached c) := by
  obtain ⟨f2, fd2, m2, b2, F2⟩ := MO
  have sc : FnScope ["self", "highs", "lows", "waiting", "high", "low", "one"] ["self"] (defScope sL_reached) := ⟨rfl, rfl, rfl, by decide +kernel, rfl, by decide +kernel, by decide +kernel⟩
  refine D.ok sc (fun _ _ _ _ _ _ us hl => match us, hl with | [_], _ => rfl) (fun vs H Q E h => ?_) (fun f cdv A outer s H vs Q E hr h => ?_)
  · obtain ⟨a, B, bel, told, L, ab, be, rfl, _⟩ := h; rfl
  · obtain ⟨a, B, bel, told, L, ab, be, rfl, p, hP, ⟨R, r1, r2⟩, k⟩ := h
    have hu := hu_of hr
    obtain ⟨⟨dl, hal⟩, hL, hA, hE, nAE⟩ := id p.N
    obtain ⟨⟨dO, hO⟩, hB⟩ := id p.O
    refine ⟨_, pss_cons (ps_set (i := 1) sc.nd rfl (Or.inl rfl) (pe_callTy (call_dictP rfl) (by rfl) T.zDict PyProof.Rows.boot_dict (pa_cons
        (pe_lc (own := [("one", 6)]) (g := gName 6) rfl sc.nd (pi_list (pe_fld (pv 0) rfl)) (blkOk_by (own := [("one", 6)]) (N := ["self", "highs", "lows", "waiting", "high", "low", "one"]) (sc := defScope sL_reached) (by decide +kernel)) (fun _ _ _ _ _ => pg_name (i := 6) sc.nd rfl (Or.inl rfl))
          (fun _ _ _ _ _ => pts_one (pt_cmp (pc_dnotin hu (pv 6) (pfK K (pv 0))))) (fun _ _ _ _ _ => pe_tup (pa_cons (pv 6) (pa_cons pe_bl pa_nil)))) pa_nil)))
      (pss_cons (ps_set (i := 2) sc.nd rfl (Or.inl rfl) pe_dnewK)
      (pss_cons (ps_set (i := 3) sc.nd rfl (Or.inl rfl) (pe_callTy (call_listD rfl) (by rfl) T.zList PyProof.Rows.boot_list (pa_cons (pv 1) pa_nil)))
      (pss_cons (ps_while PassesOwn.never (pt_cmpR (op_neD hr.units) (pv 3) (pe_lst pa_nil) (nomark _))
        (pss_cons (ps_set (i := 4) sc.nd rfl (Or.inl rfl) (pe_bm0 PySem.F.plainAttrs_list PySem.F.slot_list_pop PySem.F.type_list_pop mt_pop (pv 3)))
        (pss_one (ps_for PassesOwn.never rfl (pi_list (pe_fld (pv 0) rfl)) (pg_name (i := 5) sc.nd rfl (Or.inl rfl))
          (pss_one (ps_if (PW.pt (pw_and (pt_cmp (pc_dnotin hu (pv 5) (pv 2))) (pw_and1 (pt_val (pe_meth (pe_fld (pv 0) rfl) T.clO m2 F2 hr b2 .nil pass0 (pa_cons (pv 4) (pa_cons (pv 5) pa_nil)))))))
            (pss_cons (ps_dput hu (pv 2) (pv 5) pe_bl rfl)
            (pss_one (ps_if (pt_cmp (pc_dnotin hu (pe_dget hu (pe_fld (pv 0) rfl) (pv 5) (fun _ _ => rfl)) (pv 1)))
              (pss_cons (ps_dput hu (pv 1) (pe_dget hu (pe_fld (pv 0) rfl) (pv 5) (fun _ _ => rfl)) pe_bl rfl)
              (pss_one (ps_expr (pe_bm PySem.F.plainAttrs_list PySem.F.slot_list_append PySem.F.type_list_append mt_append (pv 3) (pa_cons (pe_dget hu (pe_fld (pv 0) rfl) (pv 5) (fun _ _ => rfl)) pa_nil))))) pss_nil))) pss_nil))))))
      (pss_one (ps_ret (pe_tup (pa_cons (pv 1) (pa_cons (pv 2) pa_nil)))))))), ?_⟩
    -- highs = dict([(one, True) ..])
    refine ⟨_, rfl, a.l, c.L, dl, _, _, rfl, hal, T.clL, T.nLl, fL_linked, a.L, rfl, ⟨_, SqL.of hL⟩, fun d hd => lc_list (K := K) (a := a.L) (xs := L.map V.int)
      (fun i H2 => ∃ ts : List Addr, Same H H2 ∧ H2 d = some (.lst (ts.map V.ref)) ∧ Paired (fun t x => H2 t = some (.tup [.int x, .bl true])) ts (FL.bots (L.take i) be) ∧ ts.length ≤ i)
      ⟨[], fun b o e => by rw [upd_ne (ne_of_none e hd)]; exact e, upd_same, .nil, Nat.le_refl _⟩ (fun i H2 _ ⟨_, s2, _⟩ => SqL.of (s2 _ _ hL)) ?_ ?_⟩
    · rintro i y H2 hi ⟨ts, s2, h2, pr, lt⟩
      obtain ⟨one, rfl, hone⟩ := itemI hi
      have et : FL.bots (L.take (i + 1)) be = FL.bots (L.take i) be ++ (if (FL.aget be one).isNone = true then [one] else []) := by
        unfold FL.bots
        rw [List.take_add_one, hone]
        show List.filter _ (L.take i ++ [one]) = _
        rw [List.filter_append, List.filter_cons]
        split <;> rfl
      refine ⟨rfl, _, rfl, _, rfl, a.l, c.L, dl, _, _, rfl, s2 _ _ hal, T.clL, T.nLb, fL_beneath, a.E, _, rfl, DGet.k (k := Sum.inl one) (s2 _ _ hE), _, rfl, ?_⟩
      rw [valV_kvI, Option.isSome_map]
      cases hb : FL.aget be one with
      | some lo =>
        refine iteF ⟨ts, s2, h2, ?_, Nat.le_succ_of_le lt⟩
        rw [et, hb, if_neg (by simp), List.append_nil]; exact pr
      | none =>
        refine iteT ⟨_, rfl, by show 2 ≤ sizeLine; decide, fun t ht => ⟨_, (by rw [upd_ne (ne_of_none h2 ht)]; exact h2), ?_, ts ++ [t], fun b o e => ?_, ?_, ?_, ?_⟩⟩
        · rw [List.length_map]
          have := (List.getElem?_eq_some_iff.mp hone).1
          have := p.hL
          exact small1000 (by omega)
        · rw [upd_ne (ne_of_none e hd), upd_ne (ne_of_none (s2 _ _ e) ht)]; exact s2 _ _ e
        · rw [upd_same, List.map_append]; rfl
        · rw [et, hb, if_pos (by rfl)]
          have ntd : ∀ x o, (upd H2 t (.tup [.int one, .bl true])) x = some (HO.tup o) → (upd (upd H2 t (.tup [.int one, .bl true])) d (.lst (ts.map V.ref ++ [.ref t]))) x = some (HO.tup o) := fun x o e => by
            rw [upd_ne]
            · exact e
            · intro z
              rw [z, upd_ne (ne_of_none h2 ht), h2] at e; cases e
          refine Paired.snoc (Paired.mapP pr fun x y e => ntd _ _ (by rw [upd_ne (ne_of_none e ht)]; exact e)) (ntd _ _ upd_same)
        · rw [List.length_append, List.length_singleton]; omega
    rintro H2 ⟨ts, s2, h2, pr, lt⟩
    rw [List.length_map, List.take_length] at pr
    have bn : (FL.bots L be).Nodup := FL.bots_nd hP
    refine ⟨d, ts, kvI (fun _ => V.bl true) (tr1 (FL.bots L be)), rfl, SqL.of h2, ?_, fun hs hhs => ?_⟩
    · exact paired_map pr
    rw [merge_nd (kvI (fun _ => V.bl true) (tr1 (FL.bots L be))) [] (by rw [List.nil_append, kvI_keyS, tr1_keys]; exact inl_nd bn), List.nil_append]
    -- lows = {}; waiting = list(highs)
    intro ls hls
    have nls : hs ≠ ls := fun e => by rw [← e, upd_same] at hls; cases hls
    refine ⟨_, rfl, hs, _, rfl, Or.inl (by rw [upd_ne nls]; exact upd_same), fun wt hwt => ?_⟩
    rw [kvI_keys, tr1_keys]
    have nwl : wt ≠ ls := fun e => by rw [e, upd_same] at hwt; cases hwt
    rw [upd_ne nwl] at hwt
    have nwh : wt ≠ hs := fun e => by rw [e, upd_same] at hwt; cases hwt
    rw [upd_ne nwh] at hwt
    have hls2 : H2 ls = none := by rw [upd_ne nls.symm] at hls; exact hls
    have s5 : Same H (upd (upd (upd H2 hs (dS (FL.bots L be))) ls (.dK [])) wt (lI (FL.bots L be))) := fun b o e => by
      have e2 := s2 b o e
      rw [upd_ne (ne_of_none e2 hwt), upd_ne (ne_of_none e2 hls2), upd_ne (ne_of_none e2 hhs)]; exact e2
    have n1 : ∀ b o, H b = some o → b ≠ hs ∧ b ≠ ls ∧ b ≠ wt := fun b o e => ⟨ne_of_none (s2 b o e) hhs, ne_of_none (s2 b o e) hls2, ne_of_none (s2 b o e) hwt⟩
    have I0 : FL.RInv (FL.liesB bel) L ab be R ⟨FL.bots L be, [], FL.bots L be⟩ := ⟨fun b hb => hb, fun h hh => (FL.mem_bots.mp hh).1, bn, fun l hl => (nomatch hl), List.nodup_nil, fun h hh => hh, fun l hl => (nomatch hl), fun h hh => r1 h (FL.mem_bots.mp hh).1 (FL.mem_bots.mp hh).2⟩
    have D0 : FL.RDone (FL.liesB bel) L ⟨FL.bots L be, [], FL.bots L be⟩ (fun _ => False) := fun h hh hw => absurd hh hw
    refine ⟨fun m σ H3 => ∃ (st : FL.RS) (v1 v2 v3 : Option V), σ = [some (.ref a.l), some (.ref hs), some (.ref ls), some (.ref wt), v1, v2, v3] ∧ Same H H3 ∧ H3 hs = some (dS st.hs) ∧ H3 ls = some (dS st.ls) ∧ H3 wt = some (lI st.wt) ∧
      FL.RInv (FL.liesB bel) L ab be R st ∧ FL.RDone (FL.liesB bel) L st (fun _ => False) ∧ st.wt.length + L.length < m + st.hs.length ∧ st.wt.length ≤ st.hs.length ∧ FL.reachAll (FL.liesB bel) L ab be = FL.reach (FL.liesB bel) L ab m st,
      ⟨L.length + 1, _, none, none, none, rfl, s5, by rw [upd_ne nwh.symm, upd_ne nls, upd_same], by rw [upd_ne nwl.symm, upd_same]; rfl, upd_same, I0, D0, by simp only; omega, Nat.le_refl _, rfl⟩, ?_⟩
    rintro m σ H3 ⟨st, v1, v2, v3, rfl, s3, h3h, h3l, h3w, I, RD, hm, hwh, ec⟩
    refine ⟨_, rfl, Nat.zero_le _, fun e0 he0 => ?_⟩
    have t3 : ∀ b o, H3 b = some o → (upd H3 e0 (.lst [])) b = some o := fun b o e => by rw [upd_ne (ne_of_none e he0)]; exact e
    refine ⟨iD st.wt, .list [], dp_iD (SqL.of (t3 _ _ h3w)), dp_nil upd_same, iD_sh _, by exact iD_sh [], _, rfl, ?_⟩
    rw [show PyData.eqv (iD st.wt) (.list []) = decide (st.wt = []) from eqv_dec eqv_iD st.wt []]
    generalize upd H3 e0 (.lst []) = H4 at t3
    have s4 : Same H H4 := fun b o e => t3 b o (s3 b o e)
    have h4h := t3 _ _ h3h
    have h4l := t3 _ _ h3l
    have h4w := t3 _ _ h3w
    clear t3 he0
    cases m with
    | zero => have := FL.nodup_len_le I.hn I.hL; omega
    | succ m =>
    unfold FL.reach at ec
    cases eg : st.wt.getLast? with
    | none =>
      have ew : st.wt = [] := List.getLast?_eq_none_iff.mp eg
      rw [decide_eq_true ew]
      refine iteF ?_
      rw [eg] at ec
      simp only at ec
      refine ⟨_, rfl, _, rfl, by show 2 ≤ sizeLine; decide, fun t ht => ?_⟩
      refine k _ t hs ls (fun b o e => by rw [upd_ne (ne_of_none (s4 b o e) ht)]; exact s4 b o e) ?_ upd_same ?_ ?_
      · cases z : H t with
        | none => rfl
        | some o => rw [s4 _ _ z] at ht; cases ht
      · rw [upd_ne (ne_of_none h4h ht), ec]; exact h4h
      · rw [upd_ne (ne_of_none h4l ht), ec]; exact h4l
    | some high =>
      have ew : st.wt ≠ [] := fun e => by rw [e] at eg; cases eg
      rw [decide_eq_false ew]
      rw [eg] at ec
      simp only at ec
      have hw : high ∈ st.wt := List.mem_of_getLast? eg
      have hh := I.wh high hw
      have highL := I.hL high hh
      refine iteT ⟨_, fun σ' H' z => z, ?_⟩
      have iw : (st.wt.map V.int)[(st.wt.map V.int).length - 1]? = some (V.int high) := by
        rw [← List.getLast?_eq_getElem?, List.getLast?_map, eg]; rfl
      refine ⟨_, rfl, Or.inl ⟨rfl, _, SqL.of h4w⟩, wt, _, _, rfl, rfl, h4w, iw, ?_⟩
      rw [show ((st.wt.map V.int).dropLast) = st.wt.dropLast.map V.int from List.map_dropLast.symm]
      have hal4 := s4 _ _ hal
      have nwal := (n1 _ _ hal).2.2
      have sub : ∀ x ∈ st.wt.dropLast, x ∈ st.wt := fun x hx => List.dropLast_subset _ hx
      have I1 : FL.RInv (FL.liesB bel) L ab be R ⟨st.hs, st.ls, st.wt.dropLast⟩ := ⟨I.bot, I.hL, I.hn, I.lL, I.ln, fun x hx => I.wh x (sub x hx), I.low, I.hi⟩
      have D1 : FL.RDone (FL.liesB bel) L ⟨st.hs, st.ls, st.wt.dropLast⟩ (· = high) := fun x hx hwx he l hl hy => RD x hx (fun z => (FL.mem_dropLast_or eg z).elim hwx he) (fun z => z) l hl hy
      refine ⟨_, rfl, a.l, c.L, dl, _, _, rfl, (by rw [upd_ne nwal]; exact hal4), T.clL, T.nLl, fL_linked, a.L, rfl, ⟨_, SqL.of (by rw [upd_ne (n1 _ _ hL).2.2]; exact s4 _ _ hL)⟩, for_list (K := K) (a := a.L) (xs := L.map V.int)
        (fun i σ H5 => ∃ (v2 v3 : Option V), σ = [some (.ref a.l), some (.ref hs), some (.ref ls), some (.ref wt), some (.int high), v2, v3] ∧ Same H H5 ∧ H5 hs = some (dS (FL.reachIn (FL.liesB bel) ab high (L.take i) ⟨st.hs, st.ls, st.wt.dropLast⟩).hs) ∧
          H5 ls = some (dS (FL.reachIn (FL.liesB bel) ab high (L.take i) ⟨st.hs, st.ls, st.wt.dropLast⟩).ls) ∧ H5 wt = some (lI (FL.reachIn (FL.liesB bel) ab high (L.take i) ⟨st.hs, st.ls, st.wt.dropLast⟩).wt))
        ⟨v2, v3, rfl, fun b o e => by rw [upd_ne (n1 b o e).2.2]; exact s4 b o e, by rw [upd_ne nwh.symm]; exact h4h, by rw [upd_ne nwl.symm]; exact h4l, upd_same⟩ (fun i σ H5 _ ⟨_, _, _, q, _⟩ => SqL.of (q _ _ hL)) ?_ ?_⟩
      · rintro i y σ H5 hi ⟨w2, w3, rfl, s6, q1, q2, q3⟩
        obtain ⟨low, rfl, hlow⟩ := itemI hi
        have lowL := memI hlow
        have et : L.take (i + 1) = L.take i ++ [low] := by rw [List.take_add_one, hlow]; rfl
        obtain ⟨Ii, _, _, _, h5, hhi⟩ := FL.reachIn_end p.M r2 high (L.take i) (fun x hx => List.mem_of_mem_take hx) ⟨st.hs, st.ls, st.wt.dropLast⟩ hh I1 D1
        rw [et, reachIn_app]
        generalize FL.reachIn (FL.liesB bel) ab high (L.take i) ⟨st.hs, st.ls, st.wt.dropLast⟩ = si at q1 q2 q3 Ii hhi h5
        obtain ⟨shs, sls, swt⟩ := si
        simp only at q1 q2 q3 hhi
        have bh : shs.length ≤ 24 := Nat.le_trans (FL.nodup_len_le Ii.hn Ii.hL) p.hL
        have bl : sls.length ≤ 24 := Nat.le_trans (FL.nodup_len_le Ii.ln Ii.lL) p.hL
        refine ⟨_, rfl, _, rfl, ls, _, rfl, DGet.k (k := Sum.inl low) q2, _, rfl, ?_⟩
        rw [valV_kvI, Option.isSome_map, tr1_get]
        by_cases hin : low ∈ sls
        · rw [decide_eq_true hin]
          refine iteF (iteF ⟨_, _, rfl, s6, ?_⟩)
          simp only [FL.reachIn]
          rw [if_neg fun z => z.1 hin]
          exact ⟨q1, q2, q3⟩
        rw [decide_eq_false hin]
        refine iteT ?_
        have hal6 := s6 _ _ hal
        have O6 : OrdAt c H5 a.o B bel told := p.O.same fun b u _ e => s6 b u e
        refine ⟨_, rfl, a.l, c.L, dl, _, _, rfl, hal6, T.clL, T.nLo, fL_order, a.o, dO, _, rfl, s6 _ _ hO, fO_no ⟨by decide +kernel, by decide +kernel⟩, _, rfl, _, rfl, a.o, B, bel, told, high, low, rfl, O6, (p.hk high highL).1, (p.hk low lowL).2, _, rfl, ?_⟩
        cases hy : FL.liesB bel high low with
        | false =>
          refine iteF ⟨_, _, rfl, s6, ?_⟩
          simp only [FL.reachIn]
          rw [if_neg fun z => by rw [hy] at z; exact nomatch z.2]
          exact ⟨q1, q2, q3⟩
        | true =>
        refine iteT ?_
        obtain ⟨u, eu, _⟩ := r2 low (Ii.hi high hhi low lowL hy)
        -- lows[low] = True
        refine ⟨_, rfl, _, rfl, ls, _, rfl, DPut.k (k := Sum.inl low) q2 (by rw [len_kvI, tr1_len]; exact small1000 (Nat.le_trans bl (by decide))), ?_⟩
        have eS : ∀ (l : List Int) (x : Int), x ∉ l → putK (kvI (fun _ => V.bl true) (tr1 l)) (Sum.inl x : Key) (V.bl true) = kvI (fun _ => V.bl true) (tr1 (l ++ [x])) := fun l x hx => by
          rw [← tr1_put hx]; exact putK_kvI (v := ())
        rw [eS _ _ hin]
        have s7 : Same H (upd H5 ls (dS (sls ++ [low]))) := fun b o e => by rw [upd_ne (n1 b o e).2.1]; exact s6 b o e
        have g := DGet.k (k := Sum.inl low) (s7 _ _ hA)
        rw [valV_kvI, eu] at g
        have q17 : (upd H5 ls (dS (sls ++ [low]))) hs = some (dS shs) := by rw [upd_ne nls]; exact q1
        refine ⟨_, rfl, a.l, c.L, dl, _, _, rfl, s7 _ _ hal, T.clL, T.nLa, fL_above, _, rfl, a.A, .int u, rfl, g, _, rfl, hs, _, rfl, DGet.k (k := Sum.inl u) q17, _, rfl, ?_⟩
        rw [valV_kvI, Option.isSome_map, tr1_get]
        by_cases hu2 : u ∈ shs
        · rw [decide_eq_true hu2]
          refine iteF ⟨_, _, rfl, s7, ?_⟩
          simp only [FL.reachIn]
          rw [if_pos ⟨hin, hy⟩, eu, Option.getD_some, if_neg (fun z => z hu2)]
          exact ⟨q17, upd_same, by rw [upd_ne nwl]; exact q3⟩
        · rw [decide_eq_false hu2]
          refine iteT ?_
          refine ⟨_, rfl, _, rfl, a.l, c.L, dl, _, _, rfl, s7 _ _ hal, T.clL, T.nLa, fL_above, _, rfl, a.A, .int u, rfl, g, hs, _, rfl, DPut.k (k := Sum.inl u) q17 (by rw [len_kvI, tr1_len]; exact small1000 (Nat.le_trans bh (by decide))), ?_⟩
          rw [eS _ _ hu2]
          have s8 : Same H (upd (upd H5 ls (dS (sls ++ [low]))) hs (dS (shs ++ [u]))) := fun b o e => by rw [upd_ne (n1 b o e).1]; exact s7 b o e
          have g8 := DGet.k (k := Sum.inl low) (s8 _ _ hA)
          rw [valV_kvI, eu] at g8
          have q38 : (upd (upd H5 ls (dS (sls ++ [low]))) hs (dS (shs ++ [u]))) wt = some (lI swt) := by rw [upd_ne nwh, upd_ne nwl]; exact q3
          refine ⟨_, rfl, Or.inl ⟨rfl, _, SqL.of q38⟩, _, rfl, a.l, c.L, dl, _, _, rfl, s8 _ _ hal, T.clL, T.nLa, fL_above, _, rfl, a.A, .int u, rfl, g8, wt, _, _, rfl, rfl, q38, ?_, ?_⟩
          · rw [List.length_map]
            have hdl := FL.len_dropLast eg
            simp only at h5
            exact small1000 (by omega)
          · refine ⟨_, _, rfl, fun b o e => by rw [upd_ne (n1 b o e).2.2]; exact s8 b o e, ?_⟩
            simp only [FL.reachIn]
            rw [if_pos ⟨hin, hy⟩, eu, Option.getD_some, if_pos hu2]
            refine ⟨by rw [upd_ne nwh.symm, upd_same], by rw [upd_ne nwl.symm, upd_ne nls.symm, upd_same], ?_⟩
            rw [upd_same]
            show _ = some (HO.lst ((swt ++ [u]).map V.int))
            rw [List.map_append]; rfl
      · rintro σ H5 ⟨w2, w3, rfl, s6, q1, q2, q3⟩
        rw [List.length_map, List.take_length] at q1 q2 q3
        obtain ⟨a1, a2, a3, a4, a5, a6⟩ := FL.reachIn_end p.M r2 high L (fun _ h => h) ⟨st.hs, st.ls, st.wt.dropLast⟩ hh I1 D1
        have hl := FL.len_dropLast eg
        simp only at a5
        refine ⟨m, Nat.lt_succ_self m, _, _, _, _, rfl, s6, q1, q2, q3, a1, fun x hx hwx _ l hl hy => ?_, by omega, by omega, ec⟩
        by_cases q : x = high
        · rw [q] at hy; exact a4 l hl hy
        · exact a2 x hx hwx q l hl hy
end
end FW

set_option maxHeartbeats 4000000
/-! The walk 10: Links: free. -/
namespace FW
open PySem PySem.Spec PyProof.Rows L2
section
variable {P : Program} {w : World} {K : PySem.W.Frag} {mg : Str → Option Value} {base : Heap} {c : CC}
def spLFree (c : CC) : Sp := fun vs H Q _ => ∃ (a : LA) (B : Addr) (bel : List (Int × Nat)) (told : Nat) (L : List Int) (ab be : List (Int × Int)), vs = [.ref a.l] ∧ JPre c H a B bel told L ab be ∧ FL.Po (FL.liesB bel) L ∧ FL.NoAug (FL.liesB bel) L ab be ∧
  ∀ H' t, Same H H' → H t = none → H' t = some (lI (FL.free (FL.liesB bel) L ab be)) → Q (.ref t) H'
theorem ok_L_free (T : Tx K mg c) (D : MD K c.L "free" "Links.free" sL_free) (MR : MOk P w K mg base CX0 c.L "reached" ["self"] 3 (spReached c)) : MOk P w K mg base CX0 c.L "free" ["self"] 4 (spLFree c) := by
  obtain ⟨f1, fd1, m1, b1, F1⟩ := MR
  have sc : FnScope ["self", "highs", "lows", "one"] ["self"] (defScope sL_free) := ⟨rfl, rfl, rfl, by decide +kernel, rfl, by decide +kernel, by decide +kernel⟩
  refine D.ok sc (fun _ _ _ _ _ _ us hl => match us, hl with | [_], _ => rfl) (fun vs H Q E h => ?_) (fun f cdv A outer s H vs Q E hr h => ?_)
  · obtain ⟨a, B, bel, told, L, ab, be, rfl, _⟩ := h; rfl
  · obtain ⟨a, B, bel, told, L, ab, be, rfl, p, hP, hN, k⟩ := h
    have hu := hu_of hr
    obtain ⟨⟨dl, hal⟩, hL, hA, hE, nAE⟩ := id p.N
    refine ⟨_, pss_cons (ps_asg (pe_meth0 (pv 0) T.clL m1 F1 hr b1 .nil pass0) (pg_tup (by rfl) (pgs_cons (pg_name (i := 1) sc.nd rfl (Or.inr rfl)) (pgs_cons (pg_name (i := 2) sc.nd rfl (Or.inr rfl)) pgs_nil))))
      (pss_one (ps_ret (pe_lc (own := [("one", 3)]) (g := gName 3) rfl sc.nd (pi_list (pe_fld (pv 0) rfl)) (blkOk_by (own := [("one", 3)]) (N := ["self", "highs", "lows", "one"]) (sc := defScope sL_free) (by decide +kernel)) (fun _ _ _ _ _ => pg_name (i := 3) sc.nd rfl (Or.inl rfl))
          (fun _ _ _ _ _ => pts_one (PW.pt (pw_and (pt_cmp (pc_din hu (pv 3) (pv 1))) (pw_and1 (pt_cmp (pc_dnotin hu (pv 3) (pv 2))))))) (fun _ _ _ _ _ => pv 3)))), ?_⟩
    refine ⟨_, rfl, a.l, dl, _, rfl, hal, fL_no ⟨by decide +kernel, by decide +kernel, by decide +kernel, by decide +kernel⟩, a, B, bel, told, L, ab, be, rfl, p, hP, hN, fun H2 t hs ls s2 ht ht2 hh hl => ?_⟩
    refine ⟨t, _, rfl, SqT.of ht2, rfl, _, _, rfl, _, _, rfl, rfl, ?_⟩
    dsimp only [tRet]
    refine lc_filt (K := K) (a := a.L) (ns := L) (fun x => decide (x ∈ (FL.reachAll (FL.liesB bel) L ab be).hs ∧ ¬ x ∈ (FL.reachAll (FL.liesB bel) L ab be).ls)) V.int (fun Q' q => ?_) (SqL.of (s2 _ _ hL)) (Nat.le_trans p.hL (by decide)) (fun x => by rfl) (fun z hz H3 s3 Q' q => ?_) (fun z hz hp H3 s3 Q' q => ?_) (fun D hD => ?_)
    · exact ⟨_, rfl, a.l, c.L, dl, _, _, rfl, s2 _ _ hal, T.clL, T.nLl, fL_linked, q⟩
    · refine ⟨_, rfl, _, rfl, hs, _, rfl, DGet.k (k := Sum.inl z) (s3 _ _ hh), _, rfl, ?_⟩
      rw [valV_kvI, Option.isSome_map, tr1_get]
      by_cases h1 : z ∈ (FL.reachAll (FL.liesB bel) L ab be).hs
      · rw [decide_eq_true h1]
        refine iteT ⟨_, rfl, _, rfl, ls, _, rfl, DGet.k (k := Sum.inl z) (s3 _ _ hl), _, rfl, ?_⟩
        rw [valV_kvI, Option.isSome_map, tr1_get]
        by_cases h2 : z ∈ (FL.reachAll (FL.liesB bel) L ab be).ls
        · rw [decide_eq_false (fun z => z.2 h2)] at q
          rw [decide_eq_true h2]; exact q
        · rw [decide_eq_true ⟨h1, h2⟩] at q
          rw [decide_eq_false h2]; exact q
      · rw [decide_eq_false (fun z => h1 z.1)] at q
        rw [decide_eq_false h1]; exact iteF q
    · exact ⟨_, rfl, q⟩
    · refine k _ D (fun b o e => by rw [upd_ne (ne_of_none (s2 b o e) hD)]; exact s2 b o e) ?_ upd_same
      cases z : H D with
      | none => rfl
      | some o => rw [s2 _ _ z] at hD; cases hD
end
end FW

set_option maxHeartbeats 4000000
/-! The walk 11: Hall: made, put, take, things, lies_above, ladders, free. -/
namespace FW
open PySem PySem.Spec PyProof.Rows L2

structure HA where
  h : Addr
  la : LA
  B : Addr
def HA.fp (a : HA) : List Addr := [a.h, a.la.o, a.la.l, a.la.L, a.la.A, a.la.E, a.B]
structure HallAt (c : CC) (H : Hp) (a : HA) (s : FL.HS) : Prop where
  ob : ∃ dx, H a.h = some (.ins c.H dx (fH a.la.o a.la.l))
  O : OrdAt c H a.la.o a.B s.below s.told
  N : LnkAt c H a.la s.linked s.ab s.be
  nBA : a.B ≠ a.la.A
  nBE : a.B ≠ a.la.E
structure Frame (H : Hp) (a : HA) (H' : Hp) (a' : HA) : Prop where
  keep : ∀ b u, b ∉ a.fp → H b = some u → H' b = some u
  own : ∀ b ∈ a'.fp, b ∈ a.fp ∨ H b = none
theorem HallAt.same {c : CC} {H H' : Hp} {a : HA} {s : FL.HS} (h : HallAt c H a s) (e : Same H H') : HallAt c H' a s := by
  obtain ⟨⟨dx, h1⟩, h2, h3, h4, h5⟩ := h
  exact ⟨⟨dx, e _ _ h1⟩, h2.same fun b u _ => e b u, h3.same e, h4, h5⟩
theorem HallAt.there {c : CC} {H : Hp} {a : HA} {s : FL.HS} (h : HallAt c H a s) : ∀ b ∈ a.fp, ∃ u, H b = some u := by
  obtain ⟨⟨dx, h1⟩, ⟨⟨dO, h2⟩, h3⟩, ⟨⟨dl, h4⟩, h5, h6, h7, _⟩, _, _⟩ := h
  intro b hb
  unfold HA.fp at hb
  simp only [List.mem_cons, List.not_mem_nil, or_false] at hb
  rcases hb with rfl | rfl | rfl | rfl | rfl | rfl | rfl
  · exact ⟨_, h1⟩
  · exact ⟨_, h2⟩
  · exact ⟨_, h4⟩
  · exact ⟨_, h5⟩
  · exact ⟨_, h6⟩
  · exact ⟨_, h7⟩
  · exact ⟨_, h3⟩
theorem HallAt.new {c : CC} {H : Hp} {a : HA} {s : FL.HS} (h : HallAt c H a s) {b : Addr} (e : H b = none) : b ∉ a.fp := fun hb => by
  obtain ⟨u, hu⟩ := h.there b hb
  rw [hu] at e; cases e
/-- what stands outside the hall stands outside behind a deed -/
theorem Frame.out {H H' : Hp} {a a' : HA} (f : Frame H a H' a') {b : Addr} {u : HO} (hb : b ∉ a.fp) (e : H b = some u) : b ∉ a'.fp ∧ H' b = some u := by
  refine ⟨fun z => ?_, f.keep b u hb e⟩
  rcases f.own b z with q | q
  · exact hb q
  · rw [e] at q; cases q
theorem HallAt.jpre {c : CC} {H : Hp} {a : HA} {s : FL.HS} (h : HallAt c H a s) (G : FL.Good s) (hl : s.linked.length ≤ 24) : JPre c H a.la a.B s.below s.told s.linked s.ab s.be :=
  ⟨h.O, h.N, h.nBA, h.nBE, fun x hx => by
    obtain ⟨m, hm⟩ := G.mem hx
    exact ⟨by rw [hm]; rfl, (G.rng x hx).1⟩, G.mt, hl⟩

section
variable {P : Program} {w : World} {K : PySem.W.Frag} {mg : Str → Option Value} {base : Heap} {c : CC}
def spH_init (c : CC) : Sp := fun vs H Q _ => ∃ (h dx : Addr), vs = [.ref h] ∧ H h = some (.ins c.H dx []) ∧
  ∀ a H', a.h = h → HallAt c H' a FL.HS.empty → (∀ b ∈ a.fp, b = h ∨ H b = none) → (∀ b u, b ≠ h → H b = some u → H' b = some u) → Q .non H'
theorem ok_H_init (T : Tx K mg c) (D : MD K c.H "__init__" "Hall.__init__" sH_init) (MO : MOk P w K mg base CX0 c.O "__init__" ["self"] 1 (spO_init c)) (ML : MOk P w K mg base CX0 c.L "__init__" ["self", "order", "things"] 1 (spL_init c)) : MOk P w K mg base CX0 c.H "__init__" ["self"] 3 (spH_init c) := by
  obtain ⟨f1, fd1, m1, b1, F1⟩ := MO
  obtain ⟨f2, fd2, m2, b2, F2⟩ := ML
  refine D.ok (N := ["self"]) ⟨rfl, rfl, rfl, by decide +kernel, rfl, by decide +kernel, by decide +kernel⟩ (fun _ _ _ _ _ _ us hl => match us, hl with | [_], _ => rfl) (fun vs H Q E h => ?_) (fun f cdv A outer s H vs Q E hr h => ?_)
  · obtain ⟨h, dx, rfl, _⟩ := h; rfl
  · obtain ⟨h, dx, rfl, hh, k⟩ := h
    have M1 : Mk K c.O f1 := ⟨T.mkO, m1.at_, m1.fn, T.kpO⟩
    have M2 : Mk K c.L f2 := ⟨T.mkL, m2.at_, m2.fn, T.kpL⟩
    refine ⟨_, pss_cons (ps_fld (pv 0) (pe_make0 M1 F1 hr (by rfl) T.gO b1 .nil pass0) rfl) (pss_one (ps_fld (pv 0) (pe_make M2 F2 hr (by rfl) T.gL b2 .nil pass0 (pa_cons (pe_fld (pv 0) rfl) (pa_cons (pe_lst pa_nil) pa_nil))) rfl)), ?_⟩
    intro o dO no ndO neO
    have s0 : Same H (upd (upd H dO (.own o)) o (.ins c.O dO [])) := fun b u e => by rw [upd_ne (ne_of_none e no), upd_ne (ne_of_none e ndO)]; exact e
    refine ⟨o, dO, rfl, upd_same, fun B H1 hB O1 k1 => ⟨rfl, ?_⟩⟩
    have s1 : Same H H1 := fun b u e => k1 b u (s0 b u e) (ne_of_none e no)
    have hB0 : H B = none := by
      cases z : H B with
      | none => rfl
      | some u => rw [s0 _ _ z] at hB; cases hB
    have hh1 := s1 _ _ hh
    have nho : o ≠ h := (ne_of_none hh no).symm
    have nhB : B ≠ h := (ne_of_none hh hB0).symm
    refine ⟨_, rfl, h, c.H, dx, [], rfl, hh1, T.clH, T.nHo, by show 0 < 1000; decide, ?_⟩
    have O2 : OrdAt c (upd H1 h (.ins c.H dx (putF "order" (.ref o) []))) o B [] 0 := O1.same fun b u hb e => by
      rw [upd_ne (by rcases hb with rfl | rfl; exact nho; exact nhB)]; exact e
    generalize eH2 : upd H1 h (.ins c.H dx (putF "order" (.ref o) [])) = H2 at O2
    have hh2 : H2 h = some (.ins c.H dx (putF "order" (.ref o) [])) := by rw [← eH2, upd_same]
    have s2 : ∀ b u, b ≠ h → H1 b = some u → H2 b = some u := fun b u n e => by rw [← eH2, upd_ne n]; exact e
    -- self.links = Links(self.order, [])
    refine ⟨_, rfl, h, c.H, dx, _, _, rfl, hh2, T.clH, T.nHo, (by rw [lookup_putF, if_pos rfl]), ?_⟩
    refine ⟨Nat.zero_le _, fun q hq => ?_⟩
    have s3 : ∀ b u, H2 b = some u → (upd H2 q (.lst [])) b = some u := fun b u e => by rw [upd_ne (ne_of_none e hq)]; exact e
    intro l dl nl ndl nel
    have s4 : ∀ b u, H2 b = some u → (upd (upd (upd H2 q (.lst [])) dl (.own l)) l (.ins c.L dl [])) b = some u := fun b u e => by
      rw [upd_ne (ne_of_none (s3 b u e) nl), upd_ne (ne_of_none (s3 b u e) ndl)]; exact s3 b u e
    have ql : q ≠ l := fun e => by rw [← e, upd_same] at nl; cases nl
    have qd : q ≠ dl := fun e => by rw [← e, upd_same] at ndl; cases ndl
    refine ⟨l, dl, o, q, [], rfl, upd_same, by rw [upd_ne ql, upd_ne qd, upd_same]; rfl, Nat.zero_le _, fun L A E' H5 hL hA hE N5 k5 => ⟨rfl, ?_⟩⟩
    have s5 : ∀ b u, H2 b = some u → H5 b = some u := fun b u e => k5 b u (ne_of_none (s3 b u e) nl) (s4 b u e)
    have free2 : ∀ x, (upd (upd (upd H2 q (.lst [])) dl (.own l)) l (.ins c.L dl [])) x = none → H x = none := fun x e => by
      cases z : H x with
      | none => rfl
      | some u =>
        by_cases q1 : x = h
        · rw [q1, s4 _ _ hh2] at e; cases e
        · rw [s4 x u (s2 x u q1 (s1 x u z))] at e; cases e
    have hl0 : H l = none := by
      cases z : H l with
      | none => rfl
      | some u =>
        by_cases q1 : l = h
        · rw [q1, s3 _ _ hh2] at nl; cases nl
        · rw [s3 _ _ (s2 _ _ q1 (s1 _ _ z))] at nl; cases nl
    have hh5 := s5 _ _ hh2
    have nlh : l ≠ h := (ne_of_none hh hl0).symm
    have nLh : L ≠ h := (ne_of_none hh (free2 _ hL)).symm
    have nAh : A ≠ h := (ne_of_none hh (free2 _ hA)).symm
    have nEh : E' ≠ h := (ne_of_none hh (free2 _ hE)).symm
    have nBA : B ≠ A := fun e => by rw [← e, s4 _ _ O2.dc] at hA; cases hA
    have nBE : B ≠ E' := fun e => by rw [← e, s4 _ _ O2.dc] at hE; cases hE
    refine ⟨_, rfl, h, c.H, dx, _, rfl, hh5, T.clH, T.nHl, by show 1 < 1000; decide, ?_⟩
    refine k ⟨h, ⟨o, l, L, A, E'⟩, B⟩ _ rfl ⟨⟨dx, ?_⟩, ?_, ?_, nBA, nBE⟩ ?_ fun b u n e => ?_
    · show upd _ h _ h = _
      rw [upd_same]
      exact congrArg (fun z => some (HO.ins c.H dx z)) fH_mk
    · exact (O2.same fun b u _ e => s5 b u e).same fun b u hb e => by
        rw [upd_ne (by rcases hb with rfl | rfl; exact nho; exact nhB)]; exact e
    · obtain ⟨⟨d5, q1⟩, q2, q3, q4, q5⟩ := N5
      exact ⟨⟨d5, by show upd _ h _ l = _; rw [upd_ne nlh]; exact q1⟩, by show upd _ h _ L = _; rw [upd_ne nLh]; exact q2, by show upd _ h _ A = _; rw [upd_ne nAh]; exact q3, by show upd _ h _ E' = _; rw [upd_ne nEh]; exact q4, q5⟩
    · intro b hb
      unfold HA.fp at hb
      simp only [List.mem_cons, List.not_mem_nil, or_false] at hb
      rcases hb with rfl | rfl | rfl | rfl | rfl | rfl | rfl
      · exact .inl rfl
      · exact .inr no
      · exact .inr hl0
      · exact .inr (free2 _ hL)
      · exact .inr (free2 _ hA)
      · exact .inr (free2 _ hE)
      · exact .inr hB0
    · rw [upd_ne n]; exact s5 _ _ (s2 _ _ n (s1 _ _ e))

def spH_put (c : CC) : Sp := fun vs H Q _ => ∃ (a : HA) (s : FL.HS) (q : Addr) (some_ : List Int), vs = [.ref a.h, .ref q] ∧ HallAt c H a s ∧ FL.Good s ∧ H q = some (lI some_) ∧ some_.Nodup ∧ (∀ x ∈ some_, x ∈ s.linked) ∧ s.told ≤ 1000 ∧ s.linked.length < 24 ∧
  ∀ H' a' t r, HallAt c H' a' (s.put some_).2 → Frame H a H' a' → a'.h = a.h → H t = none → H' t = some (.tup [.int (s.told : Int), .ref r]) → H r = none → RowAt H' r (s.put some_).1 → r ∉ a'.fp → t ∉ a'.fp → Q (.ref t) H'
theorem ok_H_put (T : Tx K mg c) (D : MD K c.H "put" "Hall.put" sH_put) (MP : MOk P w K mg base CX0 c.O "put" ["self", "some"] 4 (spO_put c)) (MA : MOk P w K mg base CX0 c.L "add" ["self", "one"] 1 (spAdd c)) (MJ : MOk P w K mg base CX0 c.L "joined" ["self"] 28 (spJoined c)) :
    MOk P w K mg base CX0 c.H "put" ["self", "some"] 29 (spH_put c) := by
  obtain ⟨f1, fd1, m1, b1, F1⟩ := MP
  obtain ⟨f2, fd2, m2, b2, F2⟩ := MA
  obtain ⟨f3, fd3, m3, b3, F3⟩ := MJ
  have sc : FnScope ["self", "some", "one"] ["self", "some"] (defScope sH_put) := ⟨rfl, rfl, rfl, by decide +kernel, rfl, by decide +kernel, by decide +kernel⟩
  refine D.ok sc (fun _ _ _ _ _ _ us hl => match us, hl with | [_, _], _ => rfl) (fun vs H Q E h => ?_) (fun f cdv A outer s H vs Q E hr h => ?_)
  · obtain ⟨a, st, q, some_, rfl, _⟩ := h; rfl
  · obtain ⟨a, st, q, ns, rfl, HA0, G, hq, nd, hs, ht, hl, k⟩ := h
    have hr4 : Room 4 _ := hr.mono (by decide)
    have hr1 : Room 1 _ := hr.mono (by decide)
    obtain ⟨⟨dx, hh⟩, O, N, nBA, nBE⟩ := id HA0
    obtain ⟨dO, hO⟩ := O.ob
    obtain ⟨dl, hal⟩ := N.ob
    refine ⟨_, pss_cons (ps_set (i := 2) sc.nd rfl (Or.inl rfl) (pe_meth (pe_fld (pv 0) rfl) T.clO m1 F1 hr4 b1 .nil pass0 (pa_cons (pv 1) pa_nil)))
      (pss_cons (ps_expr (pe_meth (pe_fld (pv 0) rfl) T.clL m2 F2 hr1 b2 .nil pass0 (pa_cons (pv 2) pa_nil)))
      (pss_one (ps_ret (pe_tup (pa_cons (pv 2) (pa_cons (pe_meth0 (pe_fld (pv 0) rfl) T.clL m3 F3 hr b3 .nil pass0) pa_nil)))))), ?_⟩
    have rng : ∀ x ∈ ns, 0 ≤ x ∧ x ≤ 100000 := fun x hx => by have := G.rng x (hs x hx); omega
    have nl : ns.length ≤ 24 := Nat.le_trans (FL.nodup_len_le nd hs) (Nat.le_of_lt hl)
    have bl : st.below.length = st.linked.length := by rw [← G.keys, List.length_map]
    -- one = self.order.put(some)
    refine ⟨_, rfl, a.h, c.H, dx, _, _, rfl, hh, T.clH, T.nHo, fH_order, a.la.o, dO, _, rfl, hO, fO_no ⟨by decide +kernel, by decide +kernel⟩, _, rfl, a.la.o, a.B, q, st.below, st.told, ns, rfl, O, hq, nd,
      fun x hx => by obtain ⟨m, hm⟩ := G.mem (hs x hx); rw [hm]; rfl, rng, Nat.le_trans nl (by decide), by omega, fun H1 O1 k1 => ?_⟩
    have no : ∀ x u, H x = some u → x ≠ a.la.o → x ≠ a.B → H1 x = some u := fun x u e n1 n2 => k1 x u n1 n2 e
    have nho : a.h ≠ a.la.o := fun e => by rw [e, hO] at hh; have := Option.some.inj hh; injection this with e1 e2 e3; exact absurd (congrArg (fun l => (l.map (·.1)).length) e3) (by unfold fO fH; intro z; exact absurd (congrArg (fun l => l.lookup ("links" : Str)) e3) (by rw [fO_no ⟨by decide +kernel, by decide +kernel⟩, fH_links]; intro z; cases z))
    have nhB : a.h ≠ a.B := ne_of hh O.dc (by intro z; cases z)
    have nloB : a.la.l ≠ a.B := ne_of hal O.dc (by intro z; cases z)
    have nlo : a.la.l ≠ a.la.o := fun e => by
      rw [e, hO] at hal
      have := Option.some.inj hal
      injection this with e1 e2 e3
      exact absurd (congrArg (fun l => l.lookup ("linked" : Str)) e3) (by rw [fO_no ⟨by decide +kernel, by decide +kernel⟩, fL_linked]; intro z; cases z)
    have nLo : a.la.L ≠ a.la.o := ne_of N.ls hO (by intro z; cases z)
    have nLB : a.la.L ≠ a.B := ne_of N.ls O.dc (by intro z; cases z)
    have nAo : a.la.A ≠ a.la.o := ne_of N.da hO (by intro z; cases z)
    have nEo : a.la.E ≠ a.la.o := ne_of N.de hO (by intro z; cases z)
    have hh1 := no _ _ hh nho nhB
    have N1 : LnkAt c H1 a.la st.linked st.ab st.be := ⟨⟨dl, no _ _ hal nlo nloB⟩, no _ _ N.ls nLo nLB, no _ _ N.da nAo nBA.symm, no _ _ N.de nEo nBE.symm, N.nAE⟩
    -- self.links.add(one)
    refine ⟨_, rfl, a.h, c.H, dx, _, _, rfl, hh1, T.clH, T.nHl, fH_links, a.la.l, dl, _, rfl, no _ _ hal nlo nloB, fL_no ⟨by decide +kernel, by decide +kernel, by decide +kernel, by decide +kernel⟩, _, rfl, a.la, _, _, _, (st.told : Int), rfl, N1, (FL.put_po G hs).srt, by omega, fun H2 L' hL' N2 k2 => ?_⟩
    have nhl : a.h ≠ a.la.l := fun e => by
      rw [e, hal] at hh
      have := Option.some.inj hh
      injection this with e1 e2 e3
      exact absurd (congrArg (fun l => l.lookup ("linked" : Str)) e3) (by rw [fH_no ⟨by decide +kernel, by decide +kernel⟩, fL_linked]; intro z; cases z)
    have hh2 := k2 _ _ nhl hh1
    have O2 : OrdAt c H2 a.la.o a.B (FL.aput st.below st.told (FL.marksOf st.below ns)) (st.told + 1) := O1.same fun b u hb e => k2 b u (by rcases hb with rfl | rfl; exact nlo.symm; exact nloB.symm) e
    have keys := FL.put_keys (s := st) (some := ns) G
    have J2 : JPre c H2 { a.la with L := L' } a.B (FL.aput st.below st.told (FL.marksOf st.below ns)) (st.told + 1) (st.linked ++ [(st.told : Int)]) st.ab st.be := by
      refine ⟨O2, N2, nBA, nBE, fun x hx => ⟨?_, ?_⟩, FL.put_mt0 G hs, by rw [List.length_append, List.length_singleton]; omega⟩
      · exact FL.aget_isSome_iff.mpr (by rw [show (FL.aput st.below st.told (FL.marksOf st.below ns)).map (·.1) = _ from keys]; exact hx)
      · rcases List.mem_append.mp hx with hx | hx
        · exact (G.rng x hx).1
        · rw [List.mem_singleton.mp hx]; omega
    obtain ⟨dl2, hal2⟩ := N2.ob
    -- (one, self.links.joined())
    refine ⟨_, rfl, _, rfl, a.h, c.H, dx, _, _, rfl, hh2, T.clH, T.nHl, fH_links, a.la.l, dl2, _, rfl, hal2, fL_no ⟨by decide +kernel, by decide +kernel, by decide +kernel, by decide +kernel⟩, { a.la with L := L' }, a.B, _, _, _, _, _, rfl, J2, fun H3 r hr3 R3 N3 k3 => ?_⟩
    refine ⟨by show 2 ≤ sizeLine; decide, fun t htt => ?_⟩
    have s4 : ∀ b u, H3 b = some u → (upd H3 t (.tup [.int (st.told : Int), .ref r])) b = some u := fun b u e => by rw [upd_ne (ne_of_none e htt)]; exact e
    have all : ∀ b u, H b = some u → b ∉ a.fp → H3 b = some u := fun b u e hb => by
      unfold HA.fp at hb
      simp only [List.mem_cons, List.not_mem_nil, or_false, not_or] at hb
      obtain ⟨n1, n2, n3, n4, n5, n6, n7⟩ := hb
      exact k3 b u n5 n6 (k2 b u n3 (k1 b u n2 n7 e))
    have A3 : HallAt c (upd H3 t (.tup [.int (st.told : Int), .ref r])) { a with la := { a.la with L := L' } } (st.put ns).2 := by
      refine ⟨⟨dx, s4 _ _ (k3 _ _ (ne_of hh N.da (by intro z; cases z)) (ne_of hh N.de (by intro z; cases z)) hh2)⟩, (O2.same fun b u hb e => ?_), N3.same s4, nBA, nBE⟩
      rcases hb with rfl | rfl
      · exact s4 _ _ (k3 _ _ nAo.symm nEo.symm e)
      · exact s4 _ _ (k3 _ _ nBA nBE e)
    have nrfp : ∀ b ∈ ({ a with la := { a.la with L := L' } } : HA).fp, ∃ u, H2 b = some u := by
      intro b hb
      unfold HA.fp at hb
      simp only [List.mem_cons, List.not_mem_nil, or_false] at hb
      rcases hb with rfl | rfl | rfl | rfl | rfl | rfl | rfl
      · exact ⟨_, hh2⟩
      · exact ⟨_, O2.ob.choose_spec⟩
      · exact ⟨_, hal2⟩
      · exact ⟨_, N2.ls⟩
      · exact ⟨_, N2.da⟩
      · exact ⟨_, N2.de⟩
      · exact ⟨_, O2.dc⟩
    have hL'0 : H L' = none := by
      cases z : H L' with
      | none => rfl
      | some u =>
        by_cases n1 : L' = a.la.o
        · rw [n1, O1.ob.choose_spec] at hL'; cases hL'
        · by_cases n2 : L' = a.B
          · rw [n2, O1.dc] at hL'; cases hL'
          · rw [k1 _ _ n1 n2 z] at hL'; cases hL'
    have back : ∀ x, H3 x = none → H x = none := fun x e => by
      cases z : H x with
      | none => rfl
      | some u =>
        by_cases hf : x ∈ a.fp
        · exfalso
          unfold HA.fp at hf
          simp only [List.mem_cons, List.not_mem_nil, or_false] at hf
          rcases hf with rfl | rfl | rfl | rfl | rfl | rfl | rfl
          · rw [k3 _ _ (ne_of hh N.da (by intro z; cases z)) (ne_of hh N.de (by intro z; cases z)) hh2] at e; cases e
          · rw [k3 _ _ nAo.symm nEo.symm O2.ob.choose_spec] at e; cases e
          · rw [N3.ob.choose_spec] at e; cases e
          · have q1 := k1 _ _ nLo nLB N.ls
            have q2 := k2 _ _ (ne_of N.ls hal (by intro z; cases z)) q1
            rw [k3 _ _ (ne_of N.ls N.da (by intro z; cases z)) (ne_of N.ls N.de (by intro z; cases z)) q2] at e; cases e
          · rw [N3.da] at e; cases e
          · rw [N3.de] at e; cases e
          · rw [k3 _ _ nBA nBE O2.dc] at e; cases e
        · rw [all x u z hf] at e; cases e
    have hr0 : H r = none := by
      cases z : H r with
      | none => rfl
      | some u =>
        exfalso
        by_cases hf : r ∈ a.fp
        · unfold HA.fp at hf
          simp only [List.mem_cons, List.not_mem_nil, or_false] at hf
          rcases hf with e | e | e | e | e | e | e
          · rw [e, hh2] at hr3; cases hr3
          · rw [e, O2.ob.choose_spec] at hr3; cases hr3
          · rw [e, hal2] at hr3; cases hr3
          · rw [e, k2 _ _ (ne_of N.ls hal (by intro z; cases z)) (k1 _ _ nLo nLB N.ls)] at hr3; cases hr3
          · rw [e, show H2 a.la.A = _ from N2.da] at hr3; cases hr3
          · rw [e, show H2 a.la.E = _ from N2.de] at hr3; cases hr3
          · rw [e, O2.dc] at hr3; cases hr3
        · unfold HA.fp at hf
          simp only [List.mem_cons, List.not_mem_nil, or_false, not_or] at hf
          obtain ⟨n1, n2, n3, n4, n5, n6, n7⟩ := hf
          rw [k2 _ _ n3 (k1 _ _ n2 n7 z)] at hr3; cases hr3
    obtain ⟨ts, hts, tts⟩ := R3
    refine k _ _ t r A3 ⟨fun b u hb e => s4 _ _ (all b u e hb), fun b hb => ?_⟩ rfl (back _ htt) upd_same hr0 ⟨ts, s4 _ _ hts, tts.same fun b xs e => s4 b _ e⟩ (fun z => ?_) (fun z => ?_)
    · unfold HA.fp at hb ⊢
      simp only [List.mem_cons, List.not_mem_nil, or_false] at hb ⊢
      rcases hb with h1 | h1 | h1 | h1 | h1 | h1 | h1
      · exact .inl (.inl h1)
      · exact .inl (.inr (.inl h1))
      · exact .inl (.inr (.inr (.inl h1)))
      · exact .inr (h1 ▸ hL'0)
      · exact .inl (.inr (.inr (.inr (.inr (.inl h1)))))
      · exact .inl (.inr (.inr (.inr (.inr (.inr (.inl h1))))))
      · exact .inl (.inr (.inr (.inr (.inr (.inr (.inr h1))))))
    · obtain ⟨u, hu⟩ := nrfp r z
      rw [hu] at hr3; cases hr3
    · obtain ⟨u, hu⟩ := A3.there t z
      have : H3 t = none := htt
      obtain ⟨u, hu⟩ := nrfp t z
      by_cases e1 : t = a.la.A
      · rw [e1, show H3 a.la.A = _ from N3.da] at htt; cases htt
      · by_cases e2 : t = a.la.E
        · rw [e2, show H3 a.la.E = _ from N3.de] at htt; cases htt
        · rw [k3 _ _ e1 e2 hu] at htt; cases htt
end
end FW

set_option maxHeartbeats 4000000
/-! The walk 12: Hall: take, things, lies_above, ladders, free. -/
namespace FW
open PySem PySem.Spec PyProof.Rows L2
section
variable {P : Program} {w : World} {K : PySem.W.Frag} {mg : Str → Option Value} {base : Heap} {c : CC}
/-- all that differs among a hall's addresses -/
structure Sep (a : HA) : Prop where
  ho : a.h ≠ a.la.o
  hl : a.h ≠ a.la.l
  hL : a.h ≠ a.la.L
  hA : a.h ≠ a.la.A
  hE : a.h ≠ a.la.E
  hB : a.h ≠ a.B
  ol : a.la.o ≠ a.la.l
  oL : a.la.o ≠ a.la.L
  oA : a.la.o ≠ a.la.A
  oE : a.la.o ≠ a.la.E
  oB : a.la.o ≠ a.B
  lL : a.la.l ≠ a.la.L
  lA : a.la.l ≠ a.la.A
  lE : a.la.l ≠ a.la.E
  lB : a.la.l ≠ a.B
  LA : a.la.L ≠ a.la.A
  LE : a.la.L ≠ a.la.E
  LB : a.la.L ≠ a.B
  AE : a.la.A ≠ a.la.E
  AB : a.la.A ≠ a.B
  EB : a.la.E ≠ a.B
theorem ins_ne {H : Hp} {x y C1 d1 C2 d2 : Addr} {f1 f2 : List (Str × V)} (k : Str) (h1 : H x = some (.ins C1 d1 f1)) (h2 : H y = some (.ins C2 d2 f2)) (n1 : f1.lookup k = none) (n2 : f2.lookup k ≠ none) : x ≠ y := fun e => by
  rw [e, h2] at h1
  have := Option.some.inj h1
  injection this with _ _ e3
  rw [e3] at n2
  exact n2 n1
theorem HallAt.sep {H : Hp} {a : HA} {s : FL.HS} (h : HallAt c H a s) : Sep a := by
  obtain ⟨⟨dx, hh⟩, ⟨⟨dO, hO⟩, hB⟩, ⟨⟨dl, hl⟩, hL, hA, hE, nAE⟩, nBA, nBE⟩ := h
  have k1 : (fO a.B s.told).lookup ("links" : Str) = none := fO_no ⟨by decide +kernel, by decide +kernel⟩
  have k2 : (fH a.la.o a.la.l).lookup ("links" : Str) ≠ none := by rw [fH_links]; intro z; cases z
  have k3 : (fH a.la.o a.la.l).lookup ("linked" : Str) = none := fH_no ⟨by decide +kernel, by decide +kernel⟩
  have k4 : (fL a.la.o a.la.L a.la.A a.la.E).lookup ("linked" : Str) ≠ none := by rw [fL_linked]; intro z; cases z
  have k5 : (fO a.B s.told).lookup ("linked" : Str) = none := fO_no ⟨by decide +kernel, by decide +kernel⟩
  exact ⟨(ins_ne _ hO hh k1 k2).symm, ins_ne _ hh hl k3 k4, ne_of hh hL (by intro z; cases z), ne_of hh hA (by intro z; cases z), ne_of hh hE (by intro z; cases z), ne_of hh hB (by intro z; cases z),
    ins_ne _ hO hl k5 k4, ne_of hO hL (by intro z; cases z), ne_of hO hA (by intro z; cases z), ne_of hO hE (by intro z; cases z), ne_of hO hB (by intro z; cases z),
    ne_of hl hL (by intro z; cases z), ne_of hl hA (by intro z; cases z), ne_of hl hE (by intro z; cases z), ne_of hl hB (by intro z; cases z),
    ne_of hL hA (by intro z; cases z), ne_of hL hE (by intro z; cases z), ne_of hL hB (by intro z; cases z), nAE, nBA.symm, nBE.symm⟩

def spH_take (c : CC) : Sp := fun vs H Q _ => ∃ (a : HA) (s : FL.HS) (one : Int), vs = [.ref a.h, .int one] ∧ HallAt c H a s ∧ FL.Good s ∧ one ∈ s.linked ∧ s.told ≤ 1000 ∧ s.linked.length ≤ 24 ∧
  ∀ H' r, HallAt c H' a (s.take one).2 → Frame H a H' a → H r = none → RowAt H' r (s.take one).1 → r ∉ a.fp → Q (.ref r) H'
def spH_things (c : CC) : Sp := fun vs H Q _ => ∃ (a : HA) (s : FL.HS), vs = [.ref a.h] ∧ HallAt c H a s ∧ FL.Good s ∧ s.linked.length ≤ 24 ∧ ∀ p, H p = none → Q (.ref p) (upd H p (lI s.linked))
theorem ok_H_things (T : Tx K mg c) (D : MD K c.H "things" "Hall.things" sH_things) (MT : MOk P w K mg base CX0 c.O "things" ["self"] 1 (spO_things c)) : MOk P w K mg base CX0 c.H "things" ["self"] 2 (spH_things c) := by
  obtain ⟨f1, fd1, m1, b1, F1⟩ := MT
  refine D.ok (N := ["self"]) ⟨rfl, rfl, rfl, by decide +kernel, rfl, by decide +kernel, by decide +kernel⟩ (fun _ _ _ _ _ _ us hl => match us, hl with | [_], _ => rfl) (fun vs H Q E h => ?_) (fun f cdv A outer s H vs Q E hr h => ?_)
  · obtain ⟨a, st, rfl, _⟩ := h; rfl
  · obtain ⟨a, st, rfl, HA0, G, hl, k⟩ := h
    obtain ⟨⟨dx, hh⟩, O, N, nBA, nBE⟩ := id HA0
    obtain ⟨dO, hO⟩ := O.ob
    have bl : st.below.length = st.linked.length := by rw [← G.keys, List.length_map]
    refine ⟨_, pss_one (ps_ret (pe_meth0 (pe_fld (pv 0) rfl) T.clO m1 F1 hr b1 .nil pass0)), ?_⟩
    refine ⟨_, rfl, a.h, c.H, dx, _, _, rfl, hh, T.clH, T.nHo, fH_order, a.la.o, dO, _, rfl, hO, fO_no ⟨by decide +kernel, by decide +kernel⟩, a.la.o, a.B, st.below, st.told, rfl, O, by rw [G.keys]; exact G.po.srt, by omega, fun p hp => ?_⟩
    rw [G.keys]; exact k p hp
def spH_lies (c : CC) : Sp := fun vs H Q _ => ∃ (a : HA) (s : FL.HS) (x y : Int), vs = [.ref a.h, .int x, .int y] ∧ HallAt c H a s ∧ FL.Good s ∧ x ∈ s.linked ∧ y ∈ s.linked ∧ Q (.bl (s.lies x y)) H
theorem ok_H_lies (T : Tx K mg c) (D : MD K c.H "lies_above" "Hall.lies_above" sH_lies_above) (MN : MOk P w K mg base CX0 c.O "need_thing" ["self", "one"] 2 (spO_need c)) (MO : MOk P w K mg base CX0 c.O "lies_above" ["self", "one", "other"] 2 (spO_lies c)) : MOk P w K mg base CX0 c.H "lies_above" ["self", "one", "other"] 3 (spH_lies c) := by
  obtain ⟨f1, fd1, m1, b1, F1⟩ := MN
  obtain ⟨f2, fd2, m2, b2, F2⟩ := MO
  refine D.ok (N := ["self", "one", "other"]) ⟨rfl, rfl, rfl, by decide +kernel, rfl, by decide +kernel, by decide +kernel⟩ (fun _ _ _ _ _ _ us hl => match us, hl with | [_, _, _], _ => rfl) (fun vs H Q E h => ?_) (fun f cdv A outer s H vs Q E hr h => ?_)
  · obtain ⟨a, st, x, y, rfl, _⟩ := h; rfl
  · obtain ⟨a, st, x, y, rfl, HA0, G, hx, hy, k⟩ := h
    obtain ⟨⟨dx, hh⟩, O, N, nBA, nBE⟩ := id HA0
    obtain ⟨dO, hO⟩ := O.ob
    obtain ⟨m1', e1⟩ := G.mem hx
    obtain ⟨m2', e2⟩ := G.mem hy
    refine ⟨_, pss_cons (ps_expr (pe_meth (pe_fld (pv 0) rfl) T.clO m1 F1 hr b1 .nil pass0 (pa_cons (pv 1) pa_nil))) (pss_cons (ps_expr (pe_meth (pe_fld (pv 0) rfl) T.clO m1 F1 hr b1 .nil pass0 (pa_cons (pv 2) pa_nil)))
      (pss_one (ps_ret (pe_meth (pe_fld (pv 0) rfl) T.clO m2 F2 hr b2 .nil pass0 (pa_cons (pv 1) (pa_cons (pv 2) pa_nil)))))), ?_⟩
    refine ⟨_, rfl, a.h, c.H, dx, _, _, rfl, hh, T.clH, T.nHo, fH_order, a.la.o, dO, _, rfl, hO, fO_no ⟨by decide +kernel, by decide +kernel⟩, _, rfl, a.la.o, a.B, st.below, st.told, x, rfl, O, by rw [e1]; rfl, ?_⟩
    refine ⟨_, rfl, a.h, c.H, dx, _, _, rfl, hh, T.clH, T.nHo, fH_order, a.la.o, dO, _, rfl, hO, fO_no ⟨by decide +kernel, by decide +kernel⟩, _, rfl, a.la.o, a.B, st.below, st.told, y, rfl, O, by rw [e2]; rfl, ?_⟩
    exact ⟨_, rfl, a.h, c.H, dx, _, _, rfl, hh, T.clH, T.nHo, fH_order, a.la.o, dO, _, rfl, hO, fO_no ⟨by decide +kernel, by decide +kernel⟩, _, rfl, _, rfl, a.la.o, a.B, st.below, st.told, x, y, rfl, O, by rw [e1]; rfl, (G.rng y hy).1, k⟩
def spH_ladders (c : CC) : Sp := fun vs H Q _ => ∃ (a : HA) (s : FL.HS), vs = [.ref a.h] ∧ HallAt c H a s ∧ FL.Good s ∧ s.linked.length ≤ 24 ∧ ∀ H' p ps, Same H H' → LLAt H H' p ps (FL.ladders s.linked s.ab s.be) → Q (.ref p) H'
theorem ok_H_ladders (T : Tx K mg c) (D : MD K c.H "ladders" "Hall.ladders" sH_ladders) (ML : MOk P w K mg base CX0 c.L "ladders" ["self"] 1 (spLadders c)) : MOk P w K mg base CX0 c.H "ladders" ["self"] 2 (spH_ladders c) := by
  obtain ⟨f1, fd1, m1, b1, F1⟩ := ML
  refine D.ok (N := ["self"]) ⟨rfl, rfl, rfl, by decide +kernel, rfl, by decide +kernel, by decide +kernel⟩ (fun _ _ _ _ _ _ us hl => match us, hl with | [_], _ => rfl) (fun vs H Q E h => ?_) (fun f cdv A outer s H vs Q E hr h => ?_)
  · obtain ⟨a, st, rfl, _⟩ := h; rfl
  · obtain ⟨a, st, rfl, HA0, G, hl, k⟩ := h
    obtain ⟨⟨dx, hh⟩, O, N, nBA, nBE⟩ := id HA0
    obtain ⟨dl, hal⟩ := N.ob
    refine ⟨_, pss_one (ps_ret (pe_meth0 (pe_fld (pv 0) rfl) T.clL m1 F1 hr b1 .nil pass0)), ?_⟩
    exact ⟨_, rfl, a.h, c.H, dx, _, _, rfl, hh, T.clH, T.nHl, fH_links, a.la.l, dl, _, rfl, hal, fL_no ⟨by decide +kernel, by decide +kernel, by decide +kernel, by decide +kernel⟩, a.la, _, _, _, _, rfl, N, G.mt, G.po, hl, k⟩
def spH_free (c : CC) : Sp := fun vs H Q _ => ∃ (a : HA) (s : FL.HS), vs = [.ref a.h] ∧ HallAt c H a s ∧ FL.Good s ∧ s.linked.length ≤ 24 ∧ ∀ H' t, Same H H' → H t = none → H' t = some (lI (FL.free s.lies s.linked s.ab s.be)) → Q (.ref t) H'
theorem ok_H_free (T : Tx K mg c) (D : MD K c.H "free" "Hall.free" sH_free) (MF : MOk P w K mg base CX0 c.L "free" ["self"] 4 (spLFree c)) : MOk P w K mg base CX0 c.H "free" ["self"] 5 (spH_free c) := by
  obtain ⟨f1, fd1, m1, b1, F1⟩ := MF
  refine D.ok (N := ["self"]) ⟨rfl, rfl, rfl, by decide +kernel, rfl, by decide +kernel, by decide +kernel⟩ (fun _ _ _ _ _ _ us hl => match us, hl with | [_], _ => rfl) (fun vs H Q E h => ?_) (fun f cdv A outer s H vs Q E hr h => ?_)
  · obtain ⟨a, st, rfl, _⟩ := h; rfl
  · obtain ⟨a, st, rfl, HA0, G, hl, k⟩ := h
    obtain ⟨⟨dx, hh⟩, O, N, nBA, nBE⟩ := id HA0
    obtain ⟨dl, hal⟩ := N.ob
    refine ⟨_, pss_one (ps_ret (pe_meth0 (pe_fld (pv 0) rfl) T.clL m1 F1 hr b1 .nil pass0)), ?_⟩
    exact ⟨_, rfl, a.h, c.H, dx, _, _, rfl, hh, T.clH, T.nHl, fH_links, a.la.l, dl, _, rfl, hal, fL_no ⟨by decide +kernel, by decide +kernel, by decide +kernel, by decide +kernel⟩, a.la, a.B, _, _, _, _, _, rfl, HA0.jpre G hl, G.po, G.na, k⟩
end
end FW

set_option maxHeartbeats 4000000
/-! The law's helpers 1: mixed, some, grown, fewer. -/
namespace FW
open PySem PySem.Spec PyProof.Rows L2

def mixedI (x k : Int) : Int := (x % 2147483647 * 48271 + 7919 * k * k + 31) % 1000003
theorem mixed_lo (x k : Int) : 0 ≤ mixedI x k := Int.emod_nonneg _ (by decide)
theorem mixed_hi (x k : Int) : mixedI x k < 1000003 := Int.emod_lt_of_pos _ (by decide)
theorem pgT {X : Cx} {es : List Expr} {k : Nat} {pos : Pos} {t : TGs} {n : Nat} (K : PySem.W.Frag) (h : PGs X es t) (hc : X.calm = true := by rfl) (hK : X.K = K := by rfl)
    (hn : (assignEach es X.env).length = n := by rfl) (hst : (assignEach es X.env).findIdx? (·.1) = none := by rfl) : PG X (.Tuple es k pos) (gTup K n t) := by
  subst hK
  exact pg_tup hc h hn hst
section
variable {P : Program} {w : World} {K : PySem.W.Frag} {mg : Str → Option Value} {base : Heap} {c : CC}
def spMixed : Sp := fun vs H Q _ => ∃ x k : Int, vs = [.int x, .int k] ∧ -1000000 ≤ k ∧ k ≤ 1000000 ∧ Q (.int (mixedI x k)) H
theorem ok_mixed (D : GD K mg "_law_mixed" s_w_mixed) : GOk P w K mg base CX0 "_law_mixed" ["_law_cell", "_law_k"] 1 spMixed := by
  refine D.ok (N := ["_law_cell", "_law_k"]) ⟨rfl, rfl, rfl, by decide +kernel, rfl, by decide +kernel, by decide +kernel⟩ (fun _ _ _ _ _ _ us hl => match us, hl with | [_, _], _ => rfl) (fun vs H Q E h => ?_) (fun f cdv A outer s H vs Q E hr h => ?_)
  · obtain ⟨x, k, rfl, _⟩ := h; rfl
  · obtain ⟨x, k, rfl, k0, k1, q⟩ := h
    refine ⟨_, pss_one (ps_ret (pe_op op_mod (pe_op op_add (pe_op op_add (pe_op op_mul (pe_op op_mod (pv 0) pe_int) pe_int) (pe_op op_mul (pe_op op_mul pe_int (pv 1)) (pv 1))) pe_int) pe_int)), ?_⟩
    have b0 : 0 ≤ x % 2147483647 := Int.emod_nonneg _ (by decide)
    have b1 : x % 2147483647 < 2147483647 := Int.emod_lt_of_pos _ (by decide)
    exact ⟨_, rfl, _, _, rfl, rfl, (by show (0 : Int) < 2147483647; decide), _, _, rfl, rfl, .inl ⟨by omega, by omega⟩, _, rfl, _, _, rfl, rfl, .inl ⟨by decide, by decide⟩, _, rfl, _, _, rfl, rfl, .inl ⟨by omega, by omega⟩, _, _, rfl, rfl, _, _, rfl, rfl, _, _, rfl, rfl, (by show (0 : Int) < 1000003; decide), q⟩

/-- some of the things, in this order or turned round -/
def spSome (K : PySem.W.Frag) : Sp := fun vs H Q _ => ∃ (q : Addr) (ns : List Int) (x : Int), vs = [.ref q, .int x] ∧ SqL K H q (ns.map V.int) ∧ ns.length ≤ 100 ∧ ns.Nodup ∧
  ∀ H' r l, Same H H' → H r = none → H' r = some (lI l) → l.Nodup → (∀ y ∈ l, y ∈ ns) → l.length ≤ ns.length → Q (.ref r) H'
theorem ok_some (zE : mg "enumerate" = none) (D : GD K mg "_law_some" s_w_some) (G : GOk P w K mg base CX0 "_law_mixed" ["_law_cell", "_law_k"] 1 spMixed) : GOk P w K mg base CX0 "_law_some" ["_law_things", "_law_cell"] 2 (spSome K) := by
  obtain ⟨f1, fd1, g1, k1, b1, F1⟩ := G
  have sc : FnScope ["_law_things", "_law_cell", "_law_part", "_law_some_here", "_law_k", "_law_one"] ["_law_things", "_law_cell"] (defScope s_w_some) := ⟨rfl, rfl, rfl, by decide +kernel, rfl, by decide +kernel, by decide +kernel⟩
  refine D.ok sc (fun _ _ _ _ _ _ us hl => match us, hl with | [_, _], _ => rfl) (fun vs H Q E h => ?_) (fun f cdv A outer s H vs Q E hr h => ?_)
  · obtain ⟨q, ns, x, rfl, _⟩ := h; rfl
  · obtain ⟨q, ns, x, rfl, hq, hn, nd, k⟩ := h
    refine ⟨_, pss_cons (ps_set (i := 2) sc.nd rfl (Or.inr rfl) (pe_op op_add pe_int (pe_op op_mod (pv 1) pe_int)))
      (pss_cons (ps_setLc (i := 3) (own := [("_law_k", 4), ("_law_one", 5)]) rfl sc.nd rfl rfl (sw_true rfl rfl rfl (by decide +kernel)) (pi_enum (by rfl) zE (pa_cons (pv 0) pa_nil))
          (blkOk_by (own := [("_law_k", 4), ("_law_one", 5)]) (N := ["_law_things", "_law_cell", "_law_part", "_law_some_here", "_law_k", "_law_one"]) (sc := defScope s_w_some) (by decide +kernel))
          (fun _ _ _ _ _ => pgT (n := 2) K (pgs_cons (pg_name (i := 4) sc.nd rfl (Or.inl rfl)) (pgs_cons (pg_name (i := 5) sc.nd rfl (Or.inl rfl)) pgs_nil)))
          (fun _ _ _ _ _ => pts_one (pt_cmpR op_eq (pe_op op_mod (pe_op op_fdiv (pe_call F1 hr (by rfl) g1 k1 b1 .nil pass0 (pa_cons (pv 1) (pa_cons (pv 4) pa_nil))) pe_int) (pv 2)) pe_int (nomark _)))
          (fun _ _ _ _ _ => pv 5))
      (pss_cons (ps_if (pt_cmpR op_eq (pe_op op_mod (pe_op op_fdiv (pe_call F1 hr (by rfl) g1 k1 b1 .nil pass0 (pa_cons (pv 1) (pa_cons pe_int pa_nil))) pe_int) pe_int) pe_int (nomark _))
        (pss_one (ps_set (i := 3) sc.nd rfl (Or.inl rfl) (pe_revL (pv 3)))) pss_nil)
      (pss_one (ps_ret (pv 3))))), ?_⟩
    have b0 : 0 ≤ x % 5 := Int.emod_nonneg _ (by decide)
    refine ⟨_, rfl, _, _, rfl, rfl, (by show (0 : Int) < 5; decide), _, _, rfl, rfl, ?_⟩
    refine ⟨_, rfl, q, _, rfl, hq, fun d hd => lc_it (walk_enum (K := K) (a := q) (xs := ns.map V.int))
      (fun i H2 => Same H H2 ∧ ∃ l : List Int, H2 d = some (lI l) ∧ l.Sublist (ns.take i)) ⟨fun b o e => by rw [upd_ne (ne_of_none e hd)]; exact e, [], upd_same, List.nil_sublist _⟩ (fun i H2 _ h => h.1.seq hq) ?_ ?_⟩
    · rintro i y H2 H3 hi ⟨s2, l, hl, sub⟩ ⟨t, u, z, rfl, ht, rfl, eu, ez⟩
      have eu : V.int (i : Nat) = u := Option.some.inj eu
      subst eu
      obtain ⟨z, rfl, hz⟩ := itemI ez
      have s3 : Same H (upd H2 t (.tup [.int (i : Nat), .int z])) := fun b o e => by rw [upd_ne (ne_of_none (s2 b o e) ht)]; exact s2 b o e
      have hl3 : (upd H2 t (.tup [.int (i : Nat), .int z])) d = some (lI l) := by rw [upd_ne (ne_of_none hl ht)]; exact hl
      have et : ns.take (i + 1) = ns.take i ++ [z] := by rw [List.take_add_one, hz]; rfl
      have hil := (List.getElem?_eq_some_iff.mp hz).1
      refine ⟨t, _, rfl, SqT.of upd_same, rfl, _, _, rfl, _, _, rfl, rfl, rfl, ?_⟩
      refine ⟨_, rfl, _, rfl, x, _, rfl, by omega, by omega, _, _, rfl, rfl, ⟨by decide, by decide⟩, _, rfl, _, _, rfl, rfl, (by show (0 : Int) < 2 + x % 5; omega), rfl, _, rfl, ?_⟩
      refine ite2 (fun _ => ?_) (fun _ => ?_)
      · refine ⟨_, rfl, _, hl3, by rw [List.length_map]; exact small1000 (Nat.le_trans sub.length_le (Nat.le_trans (List.length_take_le _ _) (by omega))), fun b o e => by rw [upd_ne (ne_of_none e hd)]; exact s3 b o e, l ++ [z], ?_, ?_⟩
        · rw [upd_same]
          show _ = some (HO.lst ((l ++ [z]).map V.int))
          rw [List.map_append]; rfl
        · rw [et]; exact sub.append (List.Sublist.refl _)
      · exact ⟨s3, l, hl3, by rw [et]; exact sub.trans (List.sublist_append_left _ _)⟩
    · rintro H2 ⟨s2, l, hl, sub⟩
      rw [List.length_map, List.take_length] at sub
      refine ⟨_, rfl, x, 99, rfl, by decide, by decide, _, _, rfl, rfl, ⟨by decide, by decide⟩, _, _, rfl, rfl, (by show (0 : Int) < 2; decide), rfl, _, rfl, ?_⟩
      refine ite2 (fun _ => ?_) (fun _ => ?_)
      · refine ⟨_, rfl, d, _, rfl, SqL.of hl, fun p hp => ⟨_, rfl, ?_⟩⟩
        rw [← List.map_reverse]
        refine k _ p l.reverse (fun b o e => by rw [upd_ne (ne_of_none (s2 b o e) hp)]; exact s2 b o e) ?_ upd_same (List.pairwise_reverse.mpr ((sub.nodup nd).imp Ne.symm)) (fun y hy => sub.subset (List.mem_reverse.mp hy)) (by rw [List.length_reverse]; exact sub.length_le)
        cases z : H p with
        | none => rfl
        | some o => rw [s2 _ _ z] at hp; cases hp
      · exact ⟨_, rfl, k _ d l s2 hd hl (sub.nodup nd) (fun y hy => sub.subset hy) sub.length_le⟩

/-! ### what the law keeps beside the hall: a dict of lists -/
def LBT (H : Hp) : List (Int × Addr) → List (Int × List Int) → Prop := Paired fun p q => p.1 = q.1 ∧ H p.2 = some (lI q.2)
structure LB (H : Hp) (b : Addr) (ps : List (Int × Addr)) (d : List (Int × List Int)) : Prop where
  at_ : H b = some (.dK (kvI V.ref ps))
  tt : LBT H ps d
theorem LBT.same {H H' : Hp} {ps : List (Int × Addr)} {d : List (Int × List Int)} (h : LBT H ps d) (s : ∀ p ∈ ps, ∀ u, H p.2 = some u → H' p.2 = some u) : LBT H' ps d := by
  unfold LBT at h ⊢
  induction h with
  | nil => exact .nil
  | cons h t ih => exact .cons ⟨h.1, s _ List.mem_cons_self _ h.2⟩ (ih fun p hp => s p (List.mem_cons_of_mem _ hp))
theorem LBT.keys {H : Hp} {ps : List (Int × Addr)} {d : List (Int × List Int)} (h : LBT H ps d) : ps.map (·.1) = d.map (·.1) := by
  unfold LBT at h
  induction h with
  | nil => rfl
  | cons h t ih => rw [List.map_cons, List.map_cons, ih, h.1]
theorem LBT.get {H : Hp} {ps : List (Int × Addr)} {d : List (Int × List Int)} (h : LBT H ps d) {k : Int} {l : List Int} (e : FL.aget d k = some l) : ∃ a, FL.aget ps k = some a ∧ H a = some (lI l) := by
  unfold LBT at h
  induction h with
  | nil => cases e
  | @cons p q ps ds h t ih =>
    rw [FL.aget_cons] at e
    by_cases e2 : q.1 = k
    · rw [if_pos e2] at e
      cases e
      exact ⟨p.2, by rw [FL.aget_cons, if_pos (h.1.trans e2)], h.2⟩
    · rw [if_neg e2] at e
      obtain ⟨a, ea, ha⟩ := ih e
      exact ⟨a, by rw [FL.aget_cons, if_neg fun z => e2 (h.1.symm.trans z)]; exact ea, ha⟩
theorem LBT.snoc {H : Hp} {ps : List (Int × Addr)} {d : List (Int × List Int)} (h : LBT H ps d) {k : Int} {a : Addr} {l : List Int} (e : H a = some (lI l)) : LBT H (ps ++ [(k, a)]) (d ++ [(k, l)]) := Paired.snoc h ⟨rfl, e⟩
theorem LBT.is {H : Hp} {ps : List (Int × Addr)} {d : List (Int × List Int)} (h : LBT H ps d) : ∀ p ∈ ps, ∃ l, H p.2 = some (lI l) := by
  unfold LBT at h
  induction h with
  | nil => intro p hp; cases hp
  | cons h t ih =>
    intro p hp
    rcases List.mem_cons.mp hp with e | hp
    · exact ⟨_, e ▸ h.2⟩
    · exact ih p hp
theorem LB.same {H H' : Hp} {b : Addr} {ps : List (Int × Addr)} {d : List (Int × List Int)} (h : LB H b ps d) (s : Same H H') : LB H' b ps d := ⟨s _ _ h.at_, h.tt.same fun p _ u e => s _ _ e⟩
theorem LBT.len {H : Hp} {ps : List (Int × Addr)} {d : List (Int × List Int)} (h : LBT H ps d) : ps.length = d.length := Paired.length h

def spGrown (K : PySem.W.Frag) : Sp := fun vs H Q _ => ∃ (b q : Addr) (one : Int) (ns : List Int) (ps : List (Int × Addr)) (d : List (Int × List Int)) (all : List Int), vs = [.ref b, .int one, .ref q] ∧ LB H b ps d ∧ SqL K H q (ns.map V.int) ∧
  (∀ o ∈ ns, ∃ l, FL.aget d o = some l) ∧ ns.length ≤ 60 ∧ (∀ o l, FL.aget d o = some l → l.length ≤ 60 ∧ ∀ x ∈ l, x ∈ all) ∧ (∀ x ∈ ns, x ∈ all) ∧ all.length ≤ 60 ∧ FL.aget d one = none ∧ d.length ≤ 900 ∧
  ∀ H' t m, m.Pairwise (· < ·) → (∀ x, x ∈ m ↔ x ∈ ns ∨ ∃ o ∈ ns, ∃ l, FL.aget d o = some l ∧ x ∈ l) → H t = none → LB H' b (ps ++ [(one, t)]) (d ++ [(one, m)]) → (∀ x u, x ≠ b → H x = some u → H' x = some u) → Q .non H'
theorem ok_grown (zL : mg "list" = none) (zS : mg "set" = none) (zO : mg "sorted" = none) (D : GD K mg "_law_grown" s_w_grown) : GOk P w K mg base CX0 "_law_grown" ["_law_below", "_law_one", "_law_some_here"] 1 (spGrown K) := by
  have sc : FnScope ["_law_below", "_law_one", "_law_some_here", "_law_found", "_law_other"] ["_law_below", "_law_one", "_law_some_here"] (defScope s_w_grown) := ⟨rfl, rfl, rfl, by decide +kernel, rfl, by decide +kernel, by decide +kernel⟩
  refine D.ok sc (fun _ _ _ _ _ _ us hl => match us, hl with | [_, _, _], _ => rfl) (fun vs H Q E h => ?_) (fun f cdv A outer s H vs Q E hr h => ?_)
  · obtain ⟨b, q, one, ns, ps, d, all, rfl, _⟩ := h; rfl
  · obtain ⟨b, q, one, ns, ps, d, all, rfl, B, hq, hns, hn, hd, hna, hal, hone, hdl, k⟩ := h
    have hu := hu_of hr
    refine ⟨_, pss_cons (ps_set (i := 3) sc.nd rfl (Or.inl rfl) (pe_callTy call_list_of (by rfl) zL PyProof.Rows.boot_list (pa_cons (pv 2) pa_nil)))
      (pss_cons (ps_for PassesOwn.never rfl (pi_list (pv 2)) (pg_name (i := 4) sc.nd rfl (Or.inl rfl))
        (pss_one (ps_expr (pe_bm PySem.F.plainAttrs_list PySem.F.slot_list_extend PySem.F.type_list_extend mt_extend (pv 3) (pa_cons (pe_dget hu (pv 0) (pv 4) (fun _ _ => rfl)) pa_nil)))))
      (pss_one (ps_dput hu (pv 0) (pv 1) (pe_callB (cr_sortedSet rfl) (by rfl) zO PyProof.Rows.boot_sorted (pa_cons (pe_callTy (SL.cr_setL rfl) (by rfl) zS PyProof.Rows.boot_set (pa_cons (pv 3) pa_nil)) pa_nil)) rfl))), ?_⟩
    refine ⟨_, rfl, q, _, rfl, Or.inl hq, fun f1 hf1 => ?_⟩
    have s1 : Same H (upd H f1 (lI ns)) := fun x u e => by rw [upd_ne (ne_of_none e hf1)]; exact e
    let F : Nat → List Int := fun i => ns ++ ((ns.take i).map fun o => (FL.aget d o).getD []).flatten
    have Fs : ∀ i o, ns[i]? = some o → F (i + 1) = F i ++ (FL.aget d o).getD [] := fun i o e => by
      show ns ++ _ = (ns ++ _) ++ _
      rw [List.take_add_one, e]
      show ns ++ ((ns.take i ++ [o]).map _).flatten = _
      rw [List.map_append, List.flatten_append, ← List.append_assoc]
      simp
    have Flen : ∀ i, i ≤ ns.length → (F i).length ≤ 60 + 60 * i := by
      intro i
      induction i with
      | zero => intro _; show (ns ++ []).length ≤ _; rw [List.append_nil]; omega
      | succ i ih =>
        intro hi
        obtain ⟨o, ho⟩ : ∃ o, ns[i]? = some o := ⟨ns[i], List.getElem?_eq_getElem hi⟩
        rw [Fs i o ho, List.length_append]
        obtain ⟨l, hl⟩ := hns o (memI ho)
        have := (hd o l hl).1
        have := ih (by omega)
        rw [hl, Option.getD_some]; omega
    refine ⟨_, rfl, q, rfl, ⟨_, s1.seq hq⟩, for_list (K := K) (a := q) (xs := ns.map V.int)
      (fun i σ H2 => ∃ v : Option V, σ = [some (.ref b), some (.int one), some (.ref q), some (.ref f1), v] ∧ Same H H2 ∧ H2 f1 = some (lI (F i)))
      ⟨none, rfl, s1, by show (upd H f1 (lI ns)) f1 = some (lI (ns ++ [])); rw [upd_same, List.append_nil]⟩ (fun i σ H2 _ ⟨_, _, s2, _⟩ => s2.seq hq) ?_ ?_⟩
    · rintro i y σ H2 hi ⟨v, rfl, s2, h2⟩
      obtain ⟨o, rfl, ho⟩ := itemI hi
      obtain ⟨l, hl⟩ := hns o (memI ho)
      obtain ⟨a, ea, ha⟩ := B.tt.get hl
      have g := DGet.k (k := Sum.inl o) (s2 _ _ B.at_)
      rw [valV_kvI, ea] at g
      have hi' := (List.getElem?_eq_some_iff.mp ho).1
      have := (hd o l hl).1
      have := Flen i (by omega)
      refine ⟨_, rfl, Or.inl ⟨rfl, _, SqL.of h2⟩, _, rfl, _, rfl, b, .ref a, rfl, g, f1, a, _, _, rfl, rfl, h2, s2 _ _ ha, by rw [List.length_map, List.length_map]; exact Nat.le_trans (m := 5000) (by omega) (by decide), ?_⟩
      refine ⟨_, rfl, fun x u e => by rw [upd_ne (ne_of_none e hf1)]; exact s2 x u e, ?_⟩
      rw [upd_same, Fs i o ho, hl, ← List.map_append]; rfl
    · rintro σ H2 ⟨v, rfl, s2, h2⟩
      rw [List.length_map] at h2
      have hF : ∀ x, x ∈ F ns.length ↔ x ∈ ns ∨ ∃ o ∈ ns, ∃ l, FL.aget d o = some l ∧ x ∈ l := fun x => by
        show x ∈ ns ++ _ ↔ _
        rw [List.take_length, List.mem_append, List.mem_flatten]
        refine or_congr Iff.rfl ⟨fun ⟨l, hl, hx⟩ => ?_, fun ⟨o, ho, l, hl, hx⟩ => ?_⟩
        · obtain ⟨o, ho, rfl⟩ := List.mem_map.mp hl
          obtain ⟨l, hl'⟩ := hns o ho
          rw [hl', Option.getD_some] at hx
          exact ⟨o, ho, l, hl', hx⟩
        · exact ⟨l, List.mem_map.mpr ⟨o, ho, by rw [hl]; rfl⟩, hx⟩
      have := Flen ns.length (Nat.le_refl _)
      refine ⟨_, rfl, f1, F ns.length, rfl, SqL.of h2, by omega, fun st n hn hst => ?_⟩
      obtain ⟨out, o1, o2, o3⟩ := hn
      have hn64 : n < 64 := by
        have h1 : out.length ≤ all.length := FL.nodup_len_le o1 fun x hx => by
          rcases (hF x).mp ((o2 x).mp hx) with h | ⟨o, ho, l, hl, h⟩
          · exact hna x h
          · exact (hd o l hl).2 x h
        omega
      refine ⟨st, _, n, rfl, upd_same, hn64, fun m t hm hmem hml ht => ?_⟩
      have s3 : Same H (upd (upd H2 st (SetO w st (fun j => decide (j ∈ F ns.length)) n)) t (lI m)) := fun x u e => by
        have e2 := s2 x u e
        have e3 : (upd H2 st (SetO w st (fun j => decide (j ∈ F ns.length)) n)) x = some u := by rw [upd_ne (ne_of_none e2 hst)]; exact e2
        rw [upd_ne (ne_of_none e3 ht)]; exact e3
      have ht0 : H t = none := by
        cases z : H t with
        | none => rfl
        | some u =>
          have e2 := s2 t u z
          rw [upd_ne (ne_of_none e2 hst), e2] at ht; cases ht
      have ekn : FL.aget ps one = none := by
        cases z : FL.aget ps one with
        | none => rfl
        | some u =>
          have h1 := FL.aget_key z
          rw [B.tt.keys] at h1
          exact absurd h1 (FL.aget_none_iff.mp hone)
      have ntb : t ≠ b := (ne_of_none B.at_ ht0).symm
      refine ⟨_, rfl, _, rfl, b, _, rfl, DPut.k (k := Sum.inl one) (s3 _ _ B.at_) (by rw [len_kvI, B.tt.len]; exact small1000 (by omega)), ?_⟩
      rw [putK_kvI, FL.aput_new _ ekn]
      refine k _ t m hm (fun x => ?_) ht0 ⟨upd_same, LBT.snoc (B.tt.same fun p hp u e => ?_) (by rw [upd_ne ntb, upd_same])⟩ fun x u n e => by rw [upd_ne n]; exact s3 x u e
      · rw [hmem x, decide_eq_true_iff]; exact hF x
      · obtain ⟨l, hl⟩ := B.tt.is p hp
        rw [upd_ne (ne_of hl B.at_ (by intro z; cases z))]; exact s3 _ _ e

def spFewer : Sp := fun vs H Q _ => ∃ (b : Addr) (one : Int) (ps : List (Int × Addr)) (d : List (Int × List Int)), vs = [.ref b, .int one] ∧ LB H b ps d ∧ (d.map (·.1)).Nodup ∧ (∃ l, FL.aget d one = some l) ∧ d.length ≤ 900 ∧ (∀ o l, FL.aget d o = some l → l.length ≤ 900) ∧
  ∀ H' ps', LB H' b ps' ((FL.adel d one).map fun p => (p.1, p.2.filter fun x => decide (x ≠ one))) → (∀ p ∈ ps', H p.2 = none) → (∀ x u, x ≠ b → H x = some u → H' x = some u) → Q .non H'
theorem aget_at {β : Type} {l1 l2 : List (Int × β)} {k : Int} {x : β} (h : ((l1 ++ (k, x) :: l2).map (·.1)).Nodup) : FL.aget (l1 ++ (k, x) :: l2) k = some x := by
  have := FL.aget_aput (l1 ++ (k, x) :: l2) k k x
  rw [aput_at h, if_pos rfl] at this
  exact this
theorem LBT.at {H : Hp} {ps : List (Int × Addr)} {d : List (Int × List Int)} (h : LBT H ps d) {i : Nat} {p : Int × Addr} (e : ps[i]? = some p) : ∃ l, d[i]? = some (p.1, l) ∧ H p.2 = some (lI l) := by
  unfold LBT at h
  induction h generalizing i with
  | nil => simp at e
  | @cons a b ps ds h t ih =>
    cases i with
    | zero =>
      have e : a = p := Option.some.inj e
      subst e
      exact ⟨b.2, by show some b = _; rw [h.1], h.2⟩
    | succ i => exact ih (i := i) e
theorem LBT.del {H : Hp} {ps : List (Int × Addr)} {d : List (Int × List Int)} (h : LBT H ps d) (k : Int) : LBT H (FL.adel ps k) (FL.adel d k) := by
  unfold LBT at h ⊢
  unfold FL.adel
  induction h with
  | nil => exact .nil
  | @cons a b ps ds h t ih =>
    rw [List.filter_cons, List.filter_cons, h.1]
    by_cases e : b.1 = k
    · rw [if_neg (by simp [e]), if_neg (by simp [e])]; exact ih
    · rw [if_pos (by simp [e]), if_pos (by simp [e])]; exact .cons h ih
theorem ok_fewer (zL : mg "list" = none) (D : GD K mg "_law_fewer" s_w_fewer) : GOk P w K mg base CX0 "_law_fewer" ["_law_below", "_law_one"] 1 spFewer := by
  have sc : FnScope ["_law_below", "_law_one", "_law_other", "_law_low"] ["_law_below", "_law_one"] (defScope s_w_fewer) := ⟨rfl, rfl, rfl, by decide +kernel, rfl, by decide +kernel, by decide +kernel⟩
  refine D.ok sc (fun _ _ _ _ _ _ us hl => match us, hl with | [_, _], _ => rfl) (fun vs H Q E h => ?_) (fun f cdv A outer s H vs Q E hr h => ?_)
  · obtain ⟨b, one, ps, d, rfl, _⟩ := h; rfl
  · obtain ⟨b, one, ps, d, rfl, B, nd, ⟨l0, hl0⟩, hdl, hll, k⟩ := h
    have hu := hu_of hr
    refine ⟨_, pss_cons (ps_expr (pe_dpop1 (pv 0) (pv 1) ⟨by rfl, by rfl, by rfl, by rfl⟩))
      (pss_one (ps_for PassesOwn.never rfl (pi_list (pe_callTy (call_listD rfl) (by rfl) zL PyProof.Rows.boot_list (pa_cons (pv 0) pa_nil))) (pg_name (i := 2) sc.nd rfl (Or.inl rfl))
        (pss_one (ps_dput hu (pv 0) (pv 2) (pe_lc (own := [("_law_low", 3)]) (g := gName 3) rfl sc.nd (pi_list (pe_dget hu (pv 0) (pv 2) (fun _ _ => rfl))) (blkOk_by (own := [("_law_low", 3)]) (N := ["_law_below", "_law_one", "_law_other", "_law_low"]) (sc := defScope s_w_fewer) (by decide +kernel))
          (fun _ _ _ _ _ => pg_name (i := 3) sc.nd rfl (Or.inl rfl)) (fun _ _ _ _ _ => pts_one (pt_cmpR op_ne (pv 3) (pv 1) (nomark _))) (fun _ _ _ _ _ => pv 3)) rfl)))), ?_⟩
    obtain ⟨a0, ea0, ha0⟩ := B.tt.get hl0
    refine ⟨_, rfl, b, rfl, Or.inl ⟨_, Or.inl B.at_⟩, _, rfl, _, Sum.inl one, .ref a0, B.at_, rfl, by rw [valV_kvI, ea0]; rfl, ?_⟩
    rw [dropK_kvI]
    have T0 := B.tt.del one
    have len0 : (FL.adel d one).length ≤ 900 := Nat.le_trans (List.length_filter_le _ _) hdl
    have nd0 : ((FL.adel ps one).map (·.1)).Nodup := FL.adel_nodup (by rw [B.tt.keys]; exact nd)
    generalize eps : FL.adel ps one = ps0 at T0 nd0
    have hd0 : ∀ o l, FL.aget (FL.adel d one) o = some l → l.length ≤ 900 := fun o l e => by
      rw [FL.aget_adel] at e
      by_cases q : o = one
      · rw [if_pos q] at e; cases e
      · rw [if_neg q] at e; exact hll o l e
    have ndd : ((FL.adel d one).map (·.1)).Nodup := FL.adel_nodup nd
    generalize FL.adel d one = d0 at T0 len0 k hd0 ndd
    refine ⟨_, rfl, b, _, rfl, Or.inl upd_same, fun p hp => ?_⟩
    rw [kvI_keys]
    have npb : p ≠ b := fun e => by rw [e, upd_same] at hp; cases hp
    have hp0 : H p = none := by rw [upd_ne npb] at hp; exact hp
    have s0 : ∀ x u, x ≠ b → H x = some u → (upd (upd H b (.dK (kvI V.ref ps0))) p (lI (ps0.map (·.1)))) x = some u := fun x u n e => by rw [upd_ne (ne_of_none e hp0), upd_ne n]; exact e
    refine ⟨p, rfl, ⟨_, SqL.of upd_same⟩, for_list (K := K) (a := p) (xs := (ps0.map (·.1)).map V.int)
      (fun i σ H2 => ∃ (v : Option V) (qs : List (Int × Addr)), σ = [some (.ref b), some (.int one), v, none] ∧ (∀ x u, x ≠ b → H x = some u → H2 x = some u) ∧ H2 p = some (lI (ps0.map (·.1))) ∧ H2 b = some (.dK (kvI V.ref (qs ++ ps0.drop i))) ∧ qs.length = i ∧
        LBT H2 qs ((d0.take i).map fun p => (p.1, p.2.filter fun x => decide (x ≠ one))) ∧ ∀ q ∈ qs, H q.2 = none)
      ⟨none, [], rfl, s0, upd_same, by rw [upd_ne npb.symm, upd_same]; rfl, rfl, .nil, fun q hq => (nomatch hq)⟩ (fun i σ H2 _ ⟨_, _, _, _, e, _⟩ => SqL.of e) ?_ ?_⟩
    · rintro i y σ H2 hi ⟨v, qs, rfl, s2, hpp, hb, hqi, tq, nq⟩
      obtain ⟨z, rfl, hz⟩ := itemI hi
      rw [List.getElem?_map] at hz
      obtain ⟨⟨z', a⟩, hpa, ez⟩ := Option.map_eq_some_iff.mp hz
      have ez : z' = z := ez
      subst ez
      obtain ⟨l, hdl', hal⟩ := T0.at hpa
      obtain ⟨hil, eil⟩ := List.getElem?_eq_some_iff.mp hpa
      have hil2 : i < d0.length := (List.getElem?_eq_some_iff.mp hdl').1
      rw [List.drop_eq_getElem_cons hil, eil] at hb
      have keyq : qs.map (·.1) = (ps0.take i).map (·.1) := by
        rw [tq.keys, List.map_map]
        show (d0.take i).map (·.1) = _
        rw [List.map_take, List.map_take, T0.keys]
      have nd2 : ((qs ++ (z', a) :: ps0.drop (i + 1)).map (·.1)).Nodup := by
        rw [List.map_append, keyq, List.map_cons]
        have : (ps0.take i).map (·.1) ++ z' :: (ps0.drop (i + 1)).map (·.1) = ps0.map (·.1) := by
          conv => rhs; rw [← List.take_append_drop i ps0, List.drop_eq_getElem_cons hil, eil]
          rw [List.map_append, List.map_cons]
        rw [this]; exact nd0
      have g := DGet.k (k := Sum.inl z') hb
      rw [valV_kvI, aget_at nd2] at g
      have hanb : a ≠ b := ne_of hal B.at_ (by intro z; cases z)
      have ha2 := s2 a _ hanb hal
      have hlen : l.length ≤ 900 := by
        refine hd0 z' l ?_
        have hd1 : d0 = d0.take i ++ (z', l) :: d0.drop (i + 1) := by
          conv => lhs; rw [← List.take_append_drop i d0, List.drop_eq_getElem_cons hil2, (List.getElem?_eq_some_iff.mp hdl').2]
        rw [hd1]
        exact aget_at (by rw [← hd1]; exact ndd)
      dsimp only [gName, sDPut]
      refine lc_filt (K := K) (a := a) (ns := l) (fun x => decide (x ≠ one)) V.int (fun Q' q => ?_) (SqL.of ha2) (Nat.le_trans hlen (by decide)) (fun x => by rfl) (fun x hx H3 s3 Q' q => ?_) (fun x hx hp H3 s3 Q' q => ?_) (fun t ht => ?_)
      · exact ⟨_, rfl, _, rfl, b, .ref a, rfl, g, q⟩
      · refine ⟨_, rfl, _, rfl, rfl, _, rfl, ?_⟩
        have e : (!decide (V.int x = V.int one)) = decide (x ≠ one) := by
          by_cases q : x = one
          · simp [q]
          · have : V.int x ≠ V.int one := fun z => q (V.int.inj z)
            simp [q, this]
        rw [e]; exact q
      · exact ⟨_, rfl, q⟩
      · have hb4 : (upd H2 t (.lst ((l.filter fun x => decide (x ≠ one)).map V.int))) b = some (.dK (kvI V.ref (qs ++ (z', a) :: ps0.drop (i + 1)))) := by rw [upd_ne (ne_of_none hb ht)]; exact hb
        refine ⟨_, rfl, _, rfl, b, _, rfl, DPut.k (k := Sum.inl z') hb4 ?_, ?_⟩
        · rw [len_kvI]
          have h1 : (qs ++ (z', a) :: ps0.drop (i + 1)).length = ps0.length := by
            rw [List.length_append, List.length_cons, List.length_drop, hqi]; omega
          rw [h1, T0.len]; exact small1000 (by omega)
        rw [putK_kvI, aput_at nd2]
        have ht0 : H t = none := by
          cases z : H t with
          | none => rfl
          | some u =>
            by_cases q : t = b
            · rw [q, hb] at ht; cases ht
            · rw [s2 _ _ q z] at ht; cases ht
        have ntb : t ≠ b := (ne_of_none B.at_ ht0).symm
        have ntp : p ≠ t := ne_of_none hpp ht
        refine ⟨_, qs ++ [(z', t)], rfl, fun x u n e => ?_, ?_, ?_, by rw [List.length_append, hqi]; rfl, ?_, fun q hq => ?_⟩
        · rw [upd_ne n, upd_ne (ne_of_none (s2 x u n e) ht)]; exact s2 x u n e
        · rw [upd_ne npb, upd_ne ntp]; exact hpp
        · rw [upd_same, List.append_assoc]; rfl
        · rw [List.take_add_one, hdl']
          show LBT _ _ ((d0.take i ++ [(z', l)]).map _)
          rw [List.map_append]
          refine LBT.snoc (tq.same fun q hq u e => ?_) (by rw [upd_ne ntb, upd_same])
          obtain ⟨l', hl'⟩ := tq.is q hq
          rw [upd_ne (ne_of hl' hb (by intro z; cases z)), upd_ne (ne_of_none e ht)]; exact e
        · rcases List.mem_append.mp hq with hq | hq
          · exact nq q hq
          · rw [List.mem_singleton.mp hq]; exact ht0
    · rintro σ H2 ⟨v, qs, rfl, s2, hpp, hb, hqi, tq, nq⟩
      rw [List.length_map, List.length_map] at hqi hb tq
      rw [List.drop_length, List.append_nil] at hb
      rw [T0.len, List.take_length] at tq
      exact k H2 qs ⟨hb, tq⟩ nq s2
end
end FW

set_option maxHeartbeats 4000000
/-! The law's helpers 2: the hall and what the law keeps beside it, over a deed. -/
namespace FW
open PySem PySem.Spec PyProof.Rows L2
section
variable {c : CC}
theorem HallAt.sameF {H H' : Hp} {a : HA} {s : FL.HS} (h : HallAt c H a s) (e : ∀ b ∈ a.fp, ∀ u, H b = some u → H' b = some u) : HallAt c H' a s := by
  obtain ⟨⟨dx, h1⟩, ⟨⟨dO, h2⟩, h3⟩, ⟨⟨dl, h4⟩, h5, h6, h7, h8⟩, h9, h10⟩ := h
  have m : ∀ x, x ∈ [a.h, a.la.o, a.la.l, a.la.L, a.la.A, a.la.E, a.B] → x ∈ a.fp := fun x hx => hx
  exact ⟨⟨dx, e _ (m _ (by simp)) _ h1⟩, ⟨⟨dO, e _ (m _ (by simp)) _ h2⟩, e _ (m _ (by simp)) _ h3⟩, ⟨⟨dl, e _ (m _ (by simp)) _ h4⟩, e _ (m _ (by simp)) _ h5, e _ (m _ (by simp)) _ h6, e _ (m _ (by simp)) _ h7, h8⟩, h9, h10⟩
structure WAt (c : CC) (H : Hp) (a : HA) (s : FL.HS) (b : Addr) (ps : List (Int × Addr)) : Prop where
  hall : HallAt c H a s
  good : FL.Good s
  lb : LB H b ps s.law
  ob : b ∉ a.fp
  ops : ∀ p ∈ ps, p.2 ∉ a.fp
theorem WAt.same {H H' : Hp} {a : HA} {s : FL.HS} {b : Addr} {ps : List (Int × Addr)} (h : WAt c H a s b ps) (e : Same H H') : WAt c H' a s b ps := ⟨h.hall.same e, h.good, h.lb.same e, h.ob, h.ops⟩
theorem WAt.keys {H : Hp} {a : HA} {s : FL.HS} {b : Addr} {ps : List (Int × Addr)} (h : WAt c H a s b ps) : ps.map (·.1) = s.linked := by rw [h.lb.tt.keys]; exact FL.law_keys s
theorem WAt.hasnt {H : Hp} {a : HA} {s : FL.HS} {b : Addr} {ps : List (Int × Addr)} (h : WAt c H a s b ps) : ∀ p ∈ ps, p.2 ≠ b := fun p hp e => by
  obtain ⟨l, hl⟩ := h.lb.tt.is p hp
  rw [e, h.lb.at_] at hl; cases hl
/-- what stands but in the hall and the dict -/
def WOut (a : HA) (b : Addr) (x : Addr) : Prop := x ∉ a.fp ∧ x ≠ b
theorem WAt.put {H H1 H2 : Hp} {a a1 : HA} {s : FL.HS} {b t : Addr} {ps : List (Int × Addr)} {some_ m : List Int} (h : WAt c H a s b ps) (hs : ∀ x ∈ some_, x ∈ s.linked)
    (h1 : HallAt c H1 a1 (s.put some_).2) (f : Frame H a H1 a1) (hm : m.Pairwise (· < ·)) (hmem : ∀ x, x ∈ m ↔ x ∈ some_ ∨ ∃ o ∈ some_, ∃ l, FL.aget s.law o = some l ∧ x ∈ l)
    (h2 : LB H2 b (ps ++ [((s.told : Int), t)]) (s.law ++ [((s.told : Int), m)])) (k : ∀ x ∈ a1.fp, ∀ u, x ≠ b → H1 x = some u → H2 x = some u) (ht : H1 t = none) : WAt c H2 a1 (s.put some_).2 b (ps ++ [((s.told : Int), t)]) := by
  have e : s.law ++ [((s.told : Int), m)] = (s.put some_).2.law := by
    refine FL.law_put h.good hs hm fun x => ?_
    rw [hmem x]
    refine or_congr Iff.rfl ⟨fun ⟨o, ho, l, hl, hx⟩ => ?_, fun ⟨o, ho, hx, hy⟩ => ?_⟩
    · rw [FL.law_get h.good (hs o ho)] at hl
      cases hl
      obtain ⟨q1, q2⟩ := List.mem_filter.mp hx
      exact ⟨o, ho, q1, q2⟩
    · exact ⟨o, ho, _, FL.law_get h.good (hs o ho), List.mem_filter.mpr ⟨hx, hy⟩⟩
  have ob := (f.out h.ob h.lb.at_).1
  refine ⟨h1.sameF fun x hx u e => k x hx u (fun z => ob (z ▸ hx)) e, FL.put_good h.good hs, e ▸ h2, ob, fun p hp => ?_⟩
  rcases List.mem_append.mp hp with hp | hp
  · obtain ⟨l, hl⟩ := h.lb.tt.is p hp
    exact (f.out (h.ops p hp) hl).1
  · rw [List.mem_singleton.mp hp]; exact h1.new ht
theorem WAt.take {H H1 H2 : Hp} {a : HA} {s : FL.HS} {b : Addr} {ps ps' : List (Int × Addr)} {one : Int} (h : WAt c H a s b ps) (ho : one ∈ s.linked)
    (h1 : HallAt c H1 a (s.take one).2) (f : Frame H a H1 a) (h2 : LB H2 b ps' ((FL.adel s.law one).map fun p => (p.1, p.2.filter fun x => decide (x ≠ one)))) (k : ∀ x u, x ≠ b → H1 x = some u → H2 x = some u)
    (hn : ∀ p ∈ ps', H1 p.2 = none) : WAt c H2 a (s.take one).2 b ps' := by
  have r0 := (h.good.rng one ho).1
  rw [FL.law_take h.good r0] at h2
  exact ⟨h1.sameF fun x hx u e => k x u (fun z => h.ob (z ▸ hx)) e, FL.take_good h.good r0, h2, h.ob, fun p hp => h1.new (hn p hp)⟩
/-- the dict of lists behind the hall's deed -/
theorem WAt.lbF {H H1 : Hp} {a a1 : HA} {s : FL.HS} {b : Addr} {ps : List (Int × Addr)} (h : WAt c H a s b ps) (f : Frame H a H1 a1) : LB H1 b ps s.law :=
  ⟨f.keep _ _ h.ob h.lb.at_, h.lb.tt.same fun p hp u e => f.keep _ _ (h.ops p hp) e⟩
theorem law_len {s : FL.HS} (G : FL.Good s) {o : Int} {l : List Int} (e : FL.aget s.law o = some l) : l.length ≤ s.linked.length ∧ ∀ x ∈ l, x ∈ s.linked := by
  have ho : o ∈ s.linked := by rw [← FL.law_keys s]; exact FL.aget_key e
  rw [FL.law_get G ho] at e
  cases e
  exact ⟨List.length_filter_le _ _, fun x hx => (List.mem_filter.mp hx).1⟩
theorem law_len0 (s : FL.HS) : s.law.length = s.linked.length := by rw [← FL.law_keys s, List.length_map]
theorem put_told {s : FL.HS} {l : List Int} : (s.put l).2.told = s.told + 1 := rfl
theorem put_len {s : FL.HS} {l : List Int} : (s.put l).2.linked.length = s.linked.length + 1 := by
  show (s.linked ++ [(s.told : Int)]).length = _
  rw [List.length_append]; rfl
theorem take_told {s : FL.HS} {x : Int} : (s.take x).2.told = s.told := rfl
theorem take_len {s : FL.HS} {x : Int} : (s.take x).2.linked.length ≤ s.linked.length := List.length_filter_le _ _
theorem WAt.start {H : Hp} {a : HA} {b : Addr} (h : HallAt c H a FL.HS.empty) (hb : H b = none) : WAt c (upd H b (.dK [])) a FL.HS.empty b [] :=
  ⟨h.same fun x u e => by rw [upd_ne (ne_of_none e hb)]; exact e, FL.Good.empty, ⟨upd_same, .nil⟩, h.new hb, fun p hp => nomatch hp⟩
end
end FW

set_option maxHeartbeats 4000000
/-! The law's helpers 3: small words for the laws' own defs. -/
namespace FW
open PySem PySem.Spec PyProof.Rows L2
theorem cut_to (ns : List Int) (k : Nat) : cutV (ns.map V.int) none (some (k : Int)) = (ns.take k).map V.int := by
  unfold cutV
  rw [HT.sIx_none, HT.sIx_nat, Nat.sub_zero, List.drop_zero, List.length_map, List.map_take]
  by_cases h : k ≤ ns.length
  · rw [Nat.min_eq_left h]
  · rw [Nat.min_eq_right (by omega), List.take_of_length_le (by rw [List.length_map]; omega), List.take_of_length_le (by rw [List.length_map]; omega)]
/-- an item at a drawn place -/
theorem drawn_at {ns : List Int} {x : Int} (h : ns ≠ []) (hx : 0 ≤ x) : ∃ z ∈ ns, atI (ns.map V.int) (x % (ns.length : Int)) = some (V.int z) := by
  have hp : 0 < ns.length := List.length_pos_iff.mpr h
  have h0 : 0 ≤ x % (ns.length : Int) := Int.emod_nonneg _ (by omega)
  have h1 : x % (ns.length : Int) < ns.length := Int.emod_lt_of_pos _ (by omega)
  obtain ⟨j, hj⟩ : ∃ j : Nat, x % (ns.length : Int) = (j : Int) := ⟨(x % (ns.length : Int)).toNat, by omega⟩
  have hjl : j < ns.length := by omega
  refine ⟨ns[j], List.getElem_mem _, ?_⟩
  rw [hj]
  exact atI_nat (by rw [List.getElem?_map, List.getElem?_eq_getElem hjl]; rfl)
theorem fdiv5_nn {x : Int} (h : 0 ≤ x) : 0 ≤ x / 5 := Int.ediv_nonneg h (by decide)
theorem dec_ne_int {x y : Int} : (!decide (V.int x = V.int y)) = decide (x ≠ y) := by
  by_cases q : x = y
  · simp [q]
  · have : V.int x ≠ V.int y := fun z => q (V.int.inj z)
    simp [q, this]
theorem dec_eq_int {x y : Int} : decide (V.int x = V.int y) = decide (x = y) := by
  by_cases q : x = y
  · simp [q]
  · have : V.int x ≠ V.int y := fun z => q (V.int.inj z)
    simp [q, this]
theorem dec_bl {x y : Bool} : decide (V.bl x = V.bl y) = decide (x = y) := by cases x <;> cases y <;> rfl
theorem inV_int : ∀ (l : List Int) (x : Int), inV (V.int x) (l.map V.int) = decide (x ∈ l)
  | [], x => rfl
  | a :: r, x => by
    show (eqV (V.int a) (V.int x) || inV (V.int x) (r.map V.int)) = _
    rw [inV_int r x]
    show ((a == x) || _) = _
    by_cases q : x = a
    · subst q; simp
    · have h1 : (a == x) = false := beq_eq_false_iff_ne.mpr fun z => q z.symm
      rw [h1, Bool.false_or]
      by_cases h : x ∈ r
      · rw [decide_eq_true h, decide_eq_true (List.mem_cons_of_mem _ h)]
      · rw [decide_eq_false h, decide_eq_false fun z => (List.mem_cons.mp z).elim q h]
theorem flat_ints (l : List Int) : (l.map V.int).all flatV = true := by
  rw [List.all_map]
  exact List.all_eq_true.mpr fun _ _ => rfl
theorem nil_D {l : List Int} : PyData.eqv (iD l) (.list []) = decide (l = []) := eqv_dec eqv_iD l []
end FW

set_option maxHeartbeats 4000000
/-! The law's helpers 4: sorted(below), a deed. -/
namespace FW
open PySem PySem.Spec PyProof.Rows L2
theorem perm_srt {ys l : List Int} (h : ys.Perm l) (s : ys.Pairwise (· ≤ ·)) (t : l.Pairwise (· < ·)) : ys = l := by
  have nd : ys.Nodup := h.nodup_iff.mpr (t.imp fun h => Int.ne_of_lt h)
  have s2 : ys.Pairwise (· < ·) := (List.pairwise_and_iff.mpr ⟨s, nd⟩).imp fun h => Int.lt_iff_le_and_ne.mpr h
  exact FL.srt_ext s2 t fun x => h.mem_iff
abbrev FD (K : PySem.W.Frag) (x : Str) (st : Stmt) (f : Addr) (fd : FuncData) : Prop := FunD K x x (defArgs st) (defBody st) (defScope st) [] [] f fd
theorem fd_ok {P : Program} {w : World} {K : PySem.W.Frag} {mg : Str → Option Value} {base : Heap} {x : Str} {st : Stmt} {ps N : List Str} {k : Nat} {sp : Sp} {f : Addr} {fd : FuncData} (F : FD K x st f fd) (S : FnScope N ps (defScope st))
    (len : ∀ vs H Q E, sp vs H Q E → vs.length = ps.length)
    (hbody : ∀ (f : Addr) (cdv : Value) (A : Around) (outer : List Env) (s : Shared) (H : Hp) (vs : List V) (Q : VK) (E : XK), Room k (A.deeper (envOfC x (defScope st) s.heap.objs.size f cdv)) → sp vs H Q E →
      ∃ t, PSs (cxOf CX0 P w K mg base N x (defScope st) f cdv A outer s H E).nox (defBody st) t ∧ t { nx := fun _ H' => Q .non H', rt := Q } (start N vs) H) : FnOk P w K mg base CX0 (k + 1) f fd ps sp := by
  refine F.ok S len fun cdv A outer s H vs Q E hr h => ?_
  obtain ⟨t, h, q⟩ := hbody f cdv A outer s H vs Q E hr h
  exact ⟨t, h.nox, q⟩
section
variable {X : Cx}
/-- a test, with a word behind it: what follows is shown once for each answer -/
def tWord (t : TT) : TT := fun σ H Q => ∃ M : Bool → Hp → Prop, t σ H M ∧ ∀ b H', M b H' → Q b H'
theorem pt_word {e : Expr} {t : TT} (h : PT X e t) : PT X e (tWord t) := by
  refine ⟨fun pins s σ H Q I q => ?_⟩
  obtain ⟨M, hm, hk⟩ := q
  exact thn (h.run pins s σ H M I hm) fun b s1 ⟨H', I', q⟩ => ⟨H', I', hk b H' q⟩
/-- a value, with a word behind it -/
def eWord (t : TE) : TE := fun σ H Q => ∃ M : V → Hp → Prop, t σ H M ∧ ∀ x H', M x H' → Q x H'
theorem pe_word {e : Expr} {t : TE} (h : PE X e t) : PE X e (eWord t) := by
  refine ⟨fun pins s σ H Q I q => ?_⟩
  obtain ⟨M, hm, hk⟩ := q
  exact thn (h.run pins s σ H M I hm) fun b s1 ⟨v, H', I', r, q⟩ => ⟨v, H', I', r, hk v H' q⟩
end
section
variable {c : CC}
theorem WAt.srt {H : Hp} {a : HA} {st : FL.HS} {b : Addr} {ps : List (Int × Addr)} (W : WAt c H a st b ps) : st.linked.Pairwise (· < ·) := W.good.po.srt
theorem WAt.srtd {H : Hp} {a : HA} {st : FL.HS} {b : Addr} {ps : List (Int × Addr)} (W : WAt c H a st b ps) : Rd H b (.dK (kvI V.ref ps)) ∧ (kvI V.ref ps).map (·.1) = st.linked.map Sum.inl := by
  refine ⟨Or.inl W.lb.at_, ?_⟩
  rw [← W.keys]
  show (ps.map fun p => ((Sum.inl p.1 : Key), V.ref p.2)).map (·.1) = _
  rw [List.map_map, List.map_map]; rfl
theorem LB.keep {H H' : Hp} {b : Addr} {ps : List (Int × Addr)} {d : List (Int × List Int)} (B : LB H b ps d) (k : ∀ x, (x = b ∨ ∃ p ∈ ps, p.2 = x) → ∀ u, H x = some u → H' x = some u) : LB H' b ps d :=
  ⟨k _ (Or.inl rfl) _ B.at_, B.tt.same fun p hp u e => k _ (Or.inr ⟨p, hp, rfl⟩) u e⟩
theorem LB.there {H : Hp} {b : Addr} {ps : List (Int × Addr)} {d : List (Int × List Int)} (B : LB H b ps d) (x : Addr) (h : x = b ∨ ∃ p ∈ ps, p.2 = x) : ∃ u, H x = some u := by
  rcases h with rfl | ⟨p, hp, rfl⟩
  · exact ⟨_, B.at_⟩
  · obtain ⟨l, e⟩ := B.tt.is p hp
    exact ⟨_, e⟩
theorem law_no {st : FL.HS} (G : FL.Good st) : FL.aget st.law (st.told : Int) = none := by
  refine FL.aget_none_iff.mpr fun h => ?_
  rw [FL.law_keys] at h
  have := (G.rng _ h).2
  omega
theorem kvI_at {β : Type} {f : β → V} {d : List (Int × β)} {i : Nat} {k : Key} {v : V} (h : (kvI f d)[i]? = some (k, v)) : ∃ p, d[i]? = some p ∧ k = Sum.inl p.1 ∧ v = f p.2 := by
  unfold kvI at h
  rw [List.getElem?_map] at h
  obtain ⟨p, e, h⟩ := Option.map_eq_some_iff.mp h
  exact ⟨p, e, (Prod.mk.inj h).1.symm, (Prod.mk.inj h).2.symm⟩
theorem upd_back {H : Hp} {b x : Addr} {u v w : HO} (h : H b = some u) (e : H x = some w) : (upd (upd H b v) b u) x = some w := by
  by_cases q : x = b
  · subst q; rw [upd_same, ← h]; exact e
  · rw [upd_ne q, upd_ne q]; exact e
theorem lies_in {st : FL.HS} (G : FL.Good st) {x y : Int} (hy : y ∈ st.linked) : inV (V.int y) ((st.linked.filter fun z => st.lies x z).map V.int) = st.lies x y := by
  rw [inV_int]
  cases h : st.lies x y with
  | true => exact decide_eq_true (List.mem_filter.mpr ⟨hy, h⟩)
  | false => exact decide_eq_false fun z => by rw [(List.mem_filter.mp z).2] at h; cases h
/-- the law's dict told by its keys -/
theorem WAt.get {H : Hp} {a : HA} {st : FL.HS} {b : Addr} {ps : List (Int × Addr)} (W : WAt c H a st b ps) {x : Int} (hx : x ∈ st.linked) : ∃ p, FL.aget ps x = some p ∧ H p = some (lI (st.linked.filter fun y => st.lies x y)) := by
  obtain ⟨p, e, h⟩ := W.lb.tt.get (FL.law_get W.good hx)
  exact ⟨p, e, h⟩
end
end FW

set_option maxHeartbeats 4000000
/-! The law's helpers 5: apart, is_free; comprehensions whose turns lay new things. -/
namespace FW
open PySem PySem.Spec PyProof.Rows L2
theorem itemG {α : Type} {g : α → V} {ns : List α} {i : Nat} {x : V} (h : (ns.map g)[i]? = some x) : ∃ z, x = g z ∧ ns[i]? = some z := by
  rw [List.getElem?_map] at h
  obtain ⟨z, e, h⟩ := Option.map_eq_some_iff.mp h
  exact ⟨z, h.symm, e⟩
theorem Same.trans {H1 H2 H3 : Hp} (a : Same H1 H2) (b : Same H2 H3) : Same H1 H3 := fun x u e => b x u (a x u e)
theorem Same.new {H : Hp} {p : Addr} {o : HO} (h : H p = none) : Same H (upd H p o) := fun x u e => by rw [upd_ne (ne_of_none e h)]; exact e
theorem Same.rfl {H : Hp} : Same H H := fun _ _ e => e
section
variable {K : PySem.W.Frag}
theorem lc_same {α : Type} (g : α → V) {a : Addr} {ns : List α} {tl : TE} {tt : TT} {te : TE} {j : Nat} {vs : List Nat} {σ : L2.St} {H : Hp} {Q : VK} (p : α → Bool) (f : α → V)
    (htl : ∀ Q' : VK, Q' (.ref a) H → tl σ H Q') (hS : SqL K H a (ns.map g)) (hn : ns.length ≤ 1000) (hw : ∀ x, wipe ((wipe σ vs).set j (some x)) vs = wipe σ vs)
    (ht : ∀ z ∈ ns, ∀ H1, Same H H1 → ∀ Q' : Bool → Hp → Prop, (∀ H2, Same H1 H2 → Q' (p z) H2) → tt ((wipe σ vs).set j (some (g z))) H1 Q')
    (he : ∀ z ∈ ns, p z = true → ∀ H1, Same H H1 → ∀ Q' : VK, (∀ H2, Same H1 H2 → Q' (f z) H2) → te ((wipe σ vs).set j (some (g z))) H1 Q')
    (k : ∀ D H', H D = none → Same H H' → H' D = some (.lst ((ns.filter p).map f)) → Q (.ref D) H') : tLc (iList K tl) (gName j) tt te vs σ H Q := by
  refine htl _ ⟨a, rfl, ⟨_, hS⟩, fun D hD => lc_list (K := K) (a := a) (xs := ns.map g) (fun i H2 => Same H H2 ∧ H2 D = some (.lst (((ns.take i).filter p).map f))) ⟨Same.new hD, upd_same⟩ (fun i H2 _ e => e.1.seq hS) (fun i x H2 hi e => ?_) (fun H2 e => ?_)⟩
  · obtain ⟨s1, e1⟩ := e
    obtain ⟨z, rfl, hz⟩ := itemG hi
    refine ⟨hw _, ht z (List.mem_of_getElem? hz) _ s1 _ fun H3 s3 => ?_⟩
    have e3 := s3 _ _ e1
    have et : ns.take (i + 1) = ns.take i ++ [z] := by rw [List.take_add_one, hz]; rfl
    cases hp : p z with
    | true =>
      rw [if_pos rfl]
      refine he z (List.mem_of_getElem? hz) hp _ (s1.trans s3) _ fun H4 s4 => ⟨_, s4 _ _ e3, ?_, fun x u e => ?_, ?_⟩
      · rw [List.length_map]
        refine small1000 (Nat.le_trans (List.length_filter_le _ _) (Nat.le_trans (List.length_take_le _ _) ?_))
        exact Nat.le_of_lt (Nat.lt_of_lt_of_le (List.getElem?_eq_some_iff.mp hz).1 hn)
      · rw [upd_ne (ne_of_none e hD)]; exact s4 _ _ (s3 _ _ (s1 _ _ e))
      · rw [upd_same, et, List.filter_append, List.map_append, List.filter_cons, if_pos hp]; rfl
    | false =>
      rw [if_neg Bool.false_ne_true]
      refine ⟨s1.trans s3, ?_⟩
      rw [et, List.filter_append, List.filter_cons, if_neg (by rw [hp]; exact Bool.false_ne_true), List.filter_nil, List.append_nil]
      exact e3
  · rw [List.length_map, List.take_length] at e
    exact k D H2 hD e.1 e.2
theorem map_true {α : Type} (ns : List α) (b : α → Bool) (h : ∀ x ∈ ns, b x = true) : ((ns.map b).all id) = true := by
  rw [List.all_map]
  exact List.all_eq_true.mpr h
theorem filter_all {α : Type} (ns : List α) : ns.filter (fun _ => true) = ns := List.filter_eq_self.mpr fun _ _ => rfl
end
/-- the law's dict, plain or in a loop -/
def LBR (H : Hp) (b : Addr) (ps : List (Int × Addr)) (d : List (Int × List Int)) : Prop := Rd H b (.dK (kvI V.ref ps)) ∧ LBT H ps d
theorem LB.r {H : Hp} {b : Addr} {ps : List (Int × Addr)} {d : List (Int × List Int)} (h : LB H b ps d) : LBR H b ps d := ⟨Or.inl h.at_, h.tt⟩
theorem LBR.same {H H' : Hp} {b : Addr} {ps : List (Int × Addr)} {d : List (Int × List Int)} (h : LBR H b ps d) (s : Same H H') : LBR H' b ps d := by
  refine ⟨?_, h.2.same fun p _ u e => s _ _ e⟩
  rcases h.1 with e | ⟨o, e⟩
  · exact Or.inl (s _ _ e)
  · exact Or.inr ⟨o, s _ _ e⟩
theorem LBR.get {H : Hp} {b : Addr} {ps : List (Int × Addr)} {d : List (Int × List Int)} (h : LBR H b ps d) {x : Int} {l : List Int} (e : FL.aget d x = some l) : ∃ p, DGet H b (.int x) (some (.ref p)) ∧ H p = some (lI l) := by
  obtain ⟨p, ep, hp⟩ := h.2.get e
  refine ⟨p, ?_, hp⟩
  exact Or.inl ⟨_, Sum.inl x, h.1, rfl, by rw [valV_kvI, ep]; rfl⟩
end FW
namespace FL
def apart (lies : Int → Int → Bool) (x y : Int) : Bool := decide (x ≠ y) && !lies x y && !lies y x
end FL
namespace FW
open PySem PySem.Spec PyProof.Rows L2
section
variable {P : Program} {w : World} {K : PySem.W.Frag} {mg : Str → Option Value} {base : Heap} {c : CC}
def spApart : Sp := fun vs H Q _ => ∃ (b : Addr) (x y : Int) (ps : List (Int × Addr)) (st : FL.HS), vs = [.ref b, .int x, .int y] ∧ LBR H b ps st.law ∧ FL.Good st ∧ x ∈ st.linked ∧ y ∈ st.linked ∧ Q (.bl (FL.apart st.lies x y)) H
theorem ok_apart (D : GD K mg "_law_apart" s_w_apart) : GOk P w K mg base CX0 "_law_apart" ["_law_below", "_law_one", "_law_other"] 1 spApart := by
  refine D.ok (N := ["_law_below", "_law_one", "_law_other"]) ⟨rfl, rfl, rfl, by decide +kernel, rfl, by decide +kernel, by decide +kernel⟩ (fun _ _ _ _ _ _ us hl => match us, hl with | [_, _, _], _ => rfl) (fun vs H Q E h => ?_) (fun f cdv A outer s H vs Q E hr h => ?_)
  · obtain ⟨b, x, y, ps, st, rfl, _⟩ := h; rfl
  · obtain ⟨b, x, y, ps, st, rfl, B, G, hx, hy, k⟩ := h
    have hu := hu_of hr
    refine ⟨_, pss_one (ps_ret (pe_and (pe_cmpR op_ne (pv 1) (pv 2) (nomark _)) (pe_and (pe_cmpR op_notIn_seq (pv 2) (pe_dget hu (pv 0) (pv 1) (fun _ _ => rfl)) (by rfl)) (pe_one (pe_cmpR op_notIn_seq (pv 1) (pe_dget hu (pv 0) (pv 2) (fun _ _ => rfl)) (by rfl)))))), ?_⟩
    obtain ⟨p, gp, hp⟩ := B.get (FL.law_get G hx)
    obtain ⟨q, gq, hq⟩ := B.get (FL.law_get G hy)
    refine ⟨_, rfl, _, rfl, rfl, _, rfl, ?_⟩
    rw [dec_ne_int]
    unfold FL.apart at k
    refine ite2 (fun z => ?_) (fun z => ?_)
    · rw [z, Bool.true_and] at k
      refine ⟨_, rfl, _, rfl, _, rfl, b, .ref p, rfl, gp, p, _, rfl, Or.inl (SqL.of hp), rfl, flat_ints _, _, rfl, ?_⟩
      have e1 : inV (V.int y) ((st.linked.filter fun z => st.lies x z).map V.int) = st.lies x y := lies_in G hy
      have e2 : inV (V.int x) ((st.linked.filter fun z => st.lies y z).map V.int) = st.lies y x := lies_in G hx
      refine ite2 (fun z => ?_) (fun z => ?_)
      · have z : (!inV (V.int y) ((st.linked.filter fun z => st.lies x z).map V.int)) = true := z
        rw [e1] at z
        rw [z, Bool.true_and] at k
        refine ⟨_, rfl, _, rfl, _, rfl, b, .ref q, rfl, gq, q, _, rfl, Or.inl (SqL.of hq), rfl, flat_ints _, ?_⟩
        show Q (.bl (!inV (V.int x) ((st.linked.filter fun z => st.lies y z).map V.int))) H
        rw [e2]; exact k
      · have z : ¬ (!inV (V.int y) ((st.linked.filter fun z => st.lies x z).map V.int)) = true := z
        rw [e1] at z
        rw [Bool.eq_false_iff.mpr z, Bool.false_and] at k
        exact k
    · rw [Bool.eq_false_iff.mpr z, Bool.false_and, Bool.false_and] at k
      exact k
/-- things that are apart two by two, rising -/
def spIsFree : Sp := fun vs H Q _ => ∃ (b q : Addr) (l : List Int) (ps : List (Int × Addr)) (st : FL.HS), vs = [.ref b, .ref q] ∧ LB H b ps st.law ∧ FL.Good st ∧ H q = some (lI l) ∧ l.Pairwise (· < ·) ∧ (∀ x ∈ l, x ∈ st.linked) ∧ FL.Anti st.lies l ∧ l.length ≤ 1000 ∧
  ∀ H', Same H H' → Q (.bl true) H'
theorem ok_is_free (T : Tx K mg c) (zA : mg "all" = none) (D : GD K mg "_law_is_free" s_w_is_free) (G1 : GOk P w K mg base CX0 "_law_apart" ["_law_below", "_law_one", "_law_other"] 1 spApart) : GOk P w K mg base CX0 "_law_is_free" ["_law_below", "_law_some_here"] 2 spIsFree := by
  obtain ⟨f1, fd1, g1, k1, b1, F1⟩ := G1
  have sc : FnScope ["_law_below", "_law_some_here", "_law_one", "_law_other"] ["_law_below", "_law_some_here"] (defScope s_w_is_free) := ⟨rfl, rfl, rfl, by decide +kernel, rfl, by decide +kernel, by decide +kernel⟩
  refine D.ok sc (fun _ _ _ _ _ _ us hl => match us, hl with | [_, _], _ => rfl) (fun vs H Q E h => ?_) (fun f cdv A outer s H vs Q E hr h => ?_)
  · obtain ⟨b, q, l, ps, st, rfl, _⟩ := h; rfl
  · obtain ⟨b, q, l, ps, st, rfl, B, G, hq, hs, hm, ha, hn, k⟩ := h
    have hu := hu_of hr
    refine ⟨_, pss_cons (ps_if (PW.pt (pw_or (pt_not (pt_val (pe_callB call_isi (by rfl) T.zIsi PyProof.Rows.boot_isinstance (pa_cons (pv 1) (pa_cons (pe_bltn (by rfl) T.zList (by decide +kernel) (v := .ty "list") rfl) pa_nil)))))
        (pw_or (pt_cmpR (op_neD hr.units) (pv 1) (pe_callB cr_sortedI (by rfl) T.zSorted PyProof.Rows.boot_sorted (pa_cons (pv 1) pa_nil)) (nomark _))
        (pw_or1 (pt_cmpR op_lt (RZ.pe_lenSetI (by rfl) T.zLen (by rfl) T.zSet (pv 1)) (pe_callB call_len_seq (by rfl) T.zLen PySem.boot_len (pa_cons (pv 1) pa_nil)) (nomark _)))))) (pss_one (ps_ret pe_bl)) pss_nil)
      (pss_cons (ps_for PassesOwn.never rfl (pi_list (pv 1)) (pg_name (i := 2) sc.nd rfl (Or.inr rfl))
        (pss_one (ps_if (pt_not (pt_val (pe_callB (cr_all rfl) (by rfl) zA (by decide +kernel) (pa_cons (pe_lc (own := [("_law_other", 3)]) (g := gName 3) rfl sc.nd (pi_list (pv 1)) (blkOk_by (own := [("_law_other", 3)]) (N := ["_law_below", "_law_some_here", "_law_one", "_law_other"]) (sc := defScope s_w_is_free) (by decide +kernel))
          (fun _ _ _ _ _ => pg_name (i := 3) sc.nd rfl (Or.inl rfl)) (fun _ _ _ _ _ => pts_nil)
          (fun _ _ _ _ _ => pe_or (pe_cmpR op_eq (pv 2) (pv 3) (nomark _)) (pe_one (pe_call F1 hr (by rfl) g1 k1 b1 .nil pass0 (pa_cons (pv 0) (pa_cons (pv 2) (pa_cons (pv 3) pa_nil))))))) pa_nil)))) (pss_one (ps_ret pe_bl)) pss_nil)))
      (pss_one (ps_ret pe_bl))), ?_⟩
    refine ⟨_, rfl, _, _, .type "list", .type "list", true, rfl, .ty "list", .base (.lst hq), kit_ty (by decide +kernel), true, rfl, ?_⟩
    refine ite2 (fun z => absurd z (by decide)) (fun _ => ?_)
    refine ⟨_, rfl, _, rfl, q, l, rfl, SqL.of hq, fun ys p y1 y2 hp => ?_⟩
    rw [perm_srt y1 y2 hs]
    have s1 : Same H (upd H p (lI l)) := Same.new hp
    have ee : PyData.eqv (iD l) (iD l) = true := (eqv_iD _ _).mpr rfl
    refine ⟨iD l, iD l, dp_iD (SqL.of (s1 _ _ hq)), dp_iD (SqL.of upd_same), iD_sh _, iD_sh _, _, rfl, ?_⟩
    rw [ee]
    refine ite2 (fun z => absurd z (by decide)) (fun _ => ?_)
    refine ⟨_, rfl, q, l, rfl, SqL.of (s1 _ _ hq), hs.imp fun h => Int.ne_of_lt h, by omega, _, rfl, q, _, rfl, Or.inl (SqL.of (s1 _ _ hq)), _, _, rfl, rfl, _, rfl, ?_⟩
    rw [List.length_map]
    refine ite2 (fun z => absurd (of_decide_eq_true z) (Int.lt_irrefl _)) (fun _ => ?_)
    refine ⟨_, rfl, q, rfl, ⟨_, SqL.of (s1 _ _ hq)⟩, for_list (K := K) (a := q) (xs := l.map V.int)
      (fun i σ H2 => Same H H2 ∧ ∃ v, σ = [some (.ref b), some (.ref q), v, none]) ⟨s1, none, rfl⟩ (fun i σ H2 _ e => SqL.of (e.1 _ _ hq)) ?_ ?_⟩
    · rintro i y σ H2 hi ⟨s2, v, rfl⟩
      obtain ⟨x, rfl, hx⟩ := itemI hi
      have hxl := List.mem_of_getElem? hx
      dsimp only [gName, tIfS, tNot, tB, tCB, tCons]
      refine lc_same (K := K) V.int (a := q) (ns := l) (fun _ => true) (fun _ => .bl true) (fun Q' q => ⟨_, rfl, q⟩) (SqL.of (s2 _ _ hq)) hn (fun x => by rfl) (fun z hz H3 s3 Q' q => q H3 Same.rfl) (fun z hz hp H3 s3 Q' q => ?_) (fun t H3 ht s3 h3 => ?_)
      · refine ⟨_, rfl, _, rfl, rfl, _, rfl, ?_⟩
        rw [dec_eq_int]
        refine ite2 (fun e => q H3 Same.rfl) (fun e => ?_)
        have e : x ≠ z := fun y => e (decide_eq_true y)
        refine ⟨_, rfl, _, rfl, _, rfl, b, x, z, ps, st, rfl, (B.r.same s2).same s3, G, hm x hxl, hm z hz, ?_⟩
        have : FL.apart st.lies x z = true := by
          unfold FL.apart
          rw [ha x hxl z hz, ha z hz x hxl, decide_eq_true e]; rfl
        rw [this]; exact q H3 Same.rfl
      · refine ⟨t, l.map fun _ => true, rfl, SqL.of (by rw [h3, filter_all, List.map_map]; rfl), _, rfl, ?_⟩
        rw [map_true _ _ fun _ _ => rfl]
        refine ite2 (fun z => absurd z (by decide)) (fun _ => ?_)
        exact ⟨s2.trans s3, _, rfl⟩
    · rintro σ H2 ⟨s2, v, rfl⟩
      exact k H2 s2
end
end FW

set_option maxHeartbeats 4000000
/-! The law's helpers 6: a deed. -/
namespace FW
open PySem PySem.Spec PyProof.Rows L2
section
variable {P : Program} {w : World} {K : PySem.W.Frag} {mg : Str → Option Value} {base : Heap} {c : CC}
theorem RowT.via {H H' : Hp} (k : ∀ x xs, H x = some (.tup xs) → H' x = some (.tup xs)) : ∀ {ts : List Addr} {r : FL.Row}, RowT H ts r → RowT H' ts r
  | [], [], _ => trivial
  | [], _ :: _, h => h.elim
  | _ :: _, [], h => h.elim
  | _ :: _, _ :: _, h => ⟨k _ _ h.1, RowT.via k h.2⟩
theorem RowAt.via {H H' : Hp} {p : Addr} {r : FL.Row} (h : RowAt H p r) (hp : ∀ u, H p = some u → H' p = some u) (k : ∀ x xs, H x = some (.tup xs) → H' x = some (.tup xs)) : RowAt H' p r := by
  obtain ⟨ts, e, t⟩ := h
  exact ⟨ts, hp _ e, t.via k⟩
theorem back_none {H H' : Hp} (s : Same H H') {x : Addr} (h : H' x = none) : H x = none := by
  cases e : H x with
  | none => rfl
  | some u => rw [s _ _ e] at h; cases h
/-- the ends of a deed: the hall's next state, what was told -/
structure Deed (c : CC) (H : Hp) (a : HA) (st : FL.HS) (b : Addr) (H' : Hp) (a' : HA) (st' : FL.HS) (ps' : List (Int × Addr)) (t1 : Addr) : Prop where
  wat : WAt c H' a' st' b ps'
  hh : a'.h = a.h
  keep : ∀ x u, x ∉ a.fp → x ≠ b → H x = some u → H' x = some u
  own : ∀ x ∈ a'.fp, x ∈ a.fp ∨ H x = none
  told : st'.told ≤ st.told + 1
  len : st'.linked.length ≤ 13
  from_ : ∀ p ∈ ps', (∃ k kvs, H b = some (.dK kvs) ∧ (k, V.ref p.2) ∈ kvs) ∨ ∀ y u, y ∉ a.fp → y ≠ b → H y = some u → y ≠ p.2
  said : (∃ (l : List Int) (tu r : Addr), st' = (st.put l).2 ∧ (∀ y ∈ l, y ∈ st.linked) ∧ l.Nodup ∧ st.linked.length ≤ 12 ∧ H' t1 = some (.tup [.str "put", .int (st.told : Int), .ref tu]) ∧ H' tu = some (.tup [.int (st.told : Int), .ref r]) ∧
      RowAt H' r (st.put l).1 ∧ H r = none ∧ r ∉ a'.fp ∧ ∀ p ∈ ps', p.2 ≠ r) ∨
    ∃ (z : Int) (r : Addr), z ∈ st.linked ∧ st' = (st.take z).2 ∧ H' t1 = some (.tup [.str "take", .int z, .ref r]) ∧ RowAt H' r (st.take z).1 ∧ H r = none ∧ r ∉ a'.fp ∧ ∀ p ∈ ps', p.2 ≠ r
def spDeed (c : CC) : Sp := fun vs H Q _ => ∃ (a : HA) (st : FL.HS) (b : Addr) (ps : List (Int × Addr)) (x : Int), vs = [.ref a.h, .ref b, .int (st.told : Int), .int x] ∧ WAt c H a st b ps ∧ st.told ≤ 100 ∧ st.linked.length ≤ 13 ∧
  ∀ H' a' st' ps' t t1, Deed c H a st b H' a' st' ps' t1 → H' t = some (.tup [.ref t1, .int (st'.told : Int)]) → Q (.ref t) H'
def SlD (h b : Addr) (st : FL.HS) (x : Int) : L2.St := [some (.ref h), some (.ref b), some (.int (st.told : Int)), some (.int x)]
end
end FW

set_option maxHeartbeats 4000000
/-! The law's helpers 7: are_ladders. -/
namespace FW
open PySem PySem.Spec PyProof.Rows L2
theorem perm_eq {ys zs : List Int} (h : ys.Perm zs) (s : ys.Pairwise (· ≤ ·)) (t : zs.Pairwise (· ≤ ·)) (n : zs.Nodup) : ys = zs :=
  perm_srt h s ((List.pairwise_and_iff.mpr ⟨t, n⟩).imp fun h => Int.lt_iff_le_and_ne.mpr h)
theorem cut_from (ns : List Int) (k : Nat) : cutV (ns.map V.int) (some (k : Int)) none = (ns.drop k).map V.int := by
  unfold cutV
  rw [HT.sIx_none, HT.sIx_nat, List.length_map, List.take_of_length_le (by rw [List.length_drop, List.length_map]; omega), ← List.map_drop]
  by_cases h : k ≤ ns.length
  · rw [Nat.min_eq_left h]
  · rw [Nat.min_eq_right (by omega), List.drop_of_length_le (Nat.le_refl _), List.drop_of_length_le (by omega)]
section
variable {X : Cx}
theorem opneK (K : PySem.W.Frag) (hu : X.A.units + 64 < cLine) (h : X.K = K := by rfl) : OpR X (compareOp .NotEq) (rNeD K) := by subst h; exact op_neD hu
theorem ixK (K : PySem.W.Frag) (h : X.K = K := by rfl) : IxR X (rIxL K) := by subst h; exact ix_list
theorem isiK (K : PySem.W.Frag) (h : X.K = K := by rfl) : CallR X (.builtin "isinstance") (rIsi K) := by subst h; exact call_isi
end
theorem LLT.zip {H : Hp} : ∀ {ts : List Addr} {r : List (List Int)}, LLT H ts r → (∀ z ∈ ts.zip r, H z.1 = some (lI z.2)) ∧ (ts.zip r).map (fun z => V.ref z.1) = ts.map V.ref ∧ (ts.zip r).map (·.2) = r
  | [], [], _ => ⟨fun z hz => (nomatch hz), rfl, rfl⟩
  | t :: ts, l :: r, h => by
    obtain ⟨h1, h2, h3⟩ := LLT.zip h.2
    refine ⟨fun z hz => ?_, ?_, ?_⟩
    · rcases List.mem_cons.mp hz with rfl | hz
      · exact h.1
      · exact h1 z hz
    · show V.ref t :: (ts.zip r).map (fun z => V.ref z.1) = V.ref t :: ts.map V.ref
      rw [h2]
    · show l :: (ts.zip r).map (·.2) = l :: r
      rw [h3]
  | [], _ :: _, h => h.elim
  | _ :: _, [], h => h.elim
/-- ladders over the things ts, by the order of st -/
structure LadR (st : FL.HS) (ts : List Int) (ll : List (List Int)) : Prop where
  perm : ll.flatten.Perm ts
  ne : ∀ l ∈ ll, l ≠ []
  ch : ∀ l ∈ ll, l.Pairwise fun a b => st.lies b a = true
  mem : ∀ x ∈ ts, x ∈ st.linked
  hd : (ll.map fun l => l.headD 0).Pairwise (· < ·)
theorem head_at {l : List Int} (h : l ≠ []) : (l.map V.int)[0]? = some (V.int (l.headD 0)) := by
  cases l with
  | nil => exact absurd rfl h
  | cons a r => rfl
theorem head_at' {l : List Int} (h : l ≠ []) : atI (l.map V.int) 0 = some (V.int (l.headD 0)) := atI_nat (j := 0) (head_at h)
section
variable {P : Program} {w : World} {K : PySem.W.Frag} {mg : Str → Option Value} {base : Heap} {c : CC}
def spAreLad (K : PySem.W.Frag) : Sp := fun vs H Q _ => ∃ (b t p : Addr) (ts : List Int) (as : List Addr) (ll : List (List Int)) (ps : List (Int × Addr)) (st : FL.HS), vs = [.ref b, .ref t, .ref p] ∧ LB H b ps st.law ∧ FL.Good st ∧ SqL K H t (ts.map V.int) ∧ ts.Nodup ∧
  H p = some (.lst (as.map V.ref)) ∧ LLT H as ll ∧ LadR st ts ll ∧ ts.length ≤ 100 ∧ ∀ H', Same H H' → Q (.bl true) H'
theorem flat_len {ll : List (List Int)} (h : ∀ l ∈ ll, l ≠ []) : ll.length ≤ ll.flatten.length := by
  induction ll with
  | nil => exact Nat.le_refl _
  | cons a r ih =>
    rw [List.length_cons, List.flatten_cons, List.length_append]
    have := ih fun l hl => h l (List.mem_cons_of_mem _ hl)
    have : 0 < a.length := List.length_pos_iff.mpr (h a List.mem_cons_self)
    omega
theorem flat_one {ll : List (List Int)} {l : List Int} (h : l ∈ ll) : l.length ≤ ll.flatten.length := by
  induction ll with
  | nil => cases h
  | cons a r ih =>
    rw [List.flatten_cons, List.length_append]
    rcases List.mem_cons.mp h with rfl | h
    · omega
    · have := ih h; omega
theorem flat_take {ll : List (List Int)} (i : Nat) : (ll.take i).flatten.length ≤ ll.flatten.length := by
  conv => rhs; rw [← List.take_append_drop i ll, List.flatten_append, List.length_append]
  omega
end
end FW

set_option maxHeartbeats 4000000
/-! The law's helpers 8: what the hall tells is right by the law's words. -/
namespace FW
open PySem PySem.Spec PyProof.Rows L2
theorem vref {a b : Addr} (h : a = b) : V.ref b = V.ref a := by rw [h]
theorem vs1 {a b : Addr} (h : a = b) (l : List V) : V.ref b :: l = V.ref a :: l := by rw [h]
theorem lad_of {st : FL.HS} (G : FL.Good st) : LadR st st.linked (FL.ladders st.linked st.ab st.be) where
  perm := FL.ladders_perm G.po G.mt
  ne := fun l hl => by
    obtain ⟨x, _, rfl⟩ := List.mem_map.mp hl
    exact FL.up_ne _ _
  ch := fun l hl => by
    obtain ⟨x, hx, rfl⟩ := List.mem_map.mp hl
    exact FL.up_chain G.po G.mt _ _ (FL.mem_bots.mp hx).1
  mem := fun x h => h
  hd := by
    have e : (FL.ladders st.linked st.ab st.be).map (fun l => l.headD 0) = FL.bots st.linked st.be := by
      unfold FL.ladders
      rw [List.map_map]
      conv => rhs; rw [← List.map_id (FL.bots st.linked st.be)]
      refine List.map_congr_left fun x _ => ?_
      obtain ⟨t, ht⟩ := FL.up_head (ab := st.ab) st.linked.length x
      show (FL.up st.ab st.linked.length x).headD 0 = x
      rw [ht]; rfl
    rw [e]
    exact G.po.srt.sublist List.filter_sublist
theorem free_of {st : FL.HS} (G : FL.Good st) : let l := FL.free st.lies st.linked st.ab st.be
    l.Pairwise (· < ·) ∧ (∀ x ∈ l, x ∈ st.linked) ∧ FL.Anti st.lies l ∧ l.length = (FL.ladders st.linked st.ab st.be).length ∧ l.length ≤ st.linked.length := by
  have h := FL.free_end G.po G.mt G.na
  have hs := FL.free_sub (lies := st.lies) (L := st.linked) (ab := st.ab) (be := st.be)
  exact ⟨G.po.srt.sublist hs, fun x hx => hs.subset hx, h.1, by rw [h.2, FL.ladders_len], hs.length_le⟩
theorem kvI_keysL {H : Hp} {c : CC} {a : HA} {st : FL.HS} {b : Addr} {ps : List (Int × Addr)} (W : WAt c H a st b ps) : ((kvI V.ref ps).map fun kv => kV kv.1) = st.linked.map V.int := by
  rw [← W.keys, List.map_map]
  show (ps.map fun p => ((Sum.inl p.1 : Key), V.ref p.2)).map _ = _
  rw [List.map_map]; rfl
theorem back_no {H H' : Hp} (s : Same H H') {x : Addr} (h : H' x = none) : H x = none := by
  cases e : H x with
  | none => rfl
  | some u => rw [s _ _ e] at h; cases h
section
variable {K : PySem.W.Frag}
/-- a comprehension over a list that may be laid for it; its turns may lay new things -/
theorem lc_new {α : Type} (g : α → V) {ns : List α} {tl : TE} {tt : TT} {te : TE} {j : Nat} {vs : List Nat} {σ : L2.St} {H : Hp} {Q : VK} (p : α → Bool) (f : α → V)
    (htl : ∀ Q' : VK, (∀ a H1, Same H H1 → SqL K H1 a (ns.map g) → Q' (.ref a) H1) → tl σ H Q') (hn : ns.length ≤ 1000) (hw : ∀ x, wipe ((wipe σ vs).set j (some x)) vs = wipe σ vs)
    (ht : ∀ z ∈ ns, ∀ H1, Same H H1 → ∀ Q' : Bool → Hp → Prop, (∀ H2, Same H1 H2 → Q' (p z) H2) → tt ((wipe σ vs).set j (some (g z))) H1 Q')
    (he : ∀ z ∈ ns, p z = true → ∀ H1, Same H H1 → ∀ Q' : VK, (∀ H2, Same H1 H2 → Q' (f z) H2) → te ((wipe σ vs).set j (some (g z))) H1 Q')
    (k : ∀ D H', H D = none → Same H H' → H' D = some (.lst ((ns.filter p).map f)) → Q (.ref D) H') : tLc (iList K tl) (gName j) tt te vs σ H Q := by
  refine htl _ fun a H0 s0 hS => ⟨a, rfl, ⟨_, hS⟩, fun D hD => lc_list (K := K) (a := a) (xs := ns.map g) (fun i H2 => Same H0 H2 ∧ H2 D = some (.lst (((ns.take i).filter p).map f))) ⟨Same.new hD, upd_same⟩ (fun i H2 _ e => e.1.seq hS) (fun i x H2 hi e => ?_) (fun H2 e => ?_)⟩
  · obtain ⟨s1, e1⟩ := e
    obtain ⟨z, rfl, hz⟩ := itemG hi
    refine ⟨hw _, ht z (List.mem_of_getElem? hz) _ (s0.trans s1) _ fun H3 s3 => ?_⟩
    have e3 := s3 _ _ e1
    have et : ns.take (i + 1) = ns.take i ++ [z] := by rw [List.take_add_one, hz]; rfl
    cases hp : p z with
    | true =>
      rw [if_pos rfl]
      refine he z (List.mem_of_getElem? hz) hp _ (s0.trans (s1.trans s3)) _ fun H4 s4 => ⟨_, s4 _ _ e3, ?_, fun x u e => ?_, ?_⟩
      · rw [List.length_map]
        refine small1000 (Nat.le_trans (List.length_filter_le _ _) (Nat.le_trans (List.length_take_le _ _) ?_))
        exact Nat.le_of_lt (Nat.lt_of_lt_of_le (List.getElem?_eq_some_iff.mp hz).1 hn)
      · rw [upd_ne (ne_of_none e hD)]; exact s4 _ _ (s3 _ _ (s1 _ _ e))
      · rw [upd_same, et, List.filter_append, List.map_append, List.filter_cons, if_pos hp]; rfl
    | false =>
      rw [if_neg Bool.false_ne_true]
      refine ⟨s1.trans s3, ?_⟩
      rw [et, List.filter_append, List.filter_cons, if_neg (by rw [hp]; exact Bool.false_ne_true), List.filter_nil, List.append_nil]
      exact e3
  · rw [List.length_map, List.take_length] at e
    exact k D H2 (back_no s0 hD) (s0.trans e.1) e.2
end
end FW

set_option maxHeartbeats 4000000
/-! The walk 13: floor_of, floors_of, longest_of, Hall.floors, Hall.longest. -/
namespace FW
open PySem PySem.Spec PyProof.Rows L2
section
variable {P : Program} {w : World} {K : PySem.W.Frag} {mg : Str → Option Value} {base : Heap} {c : CC}
/-- an Order and its things, as floors want them -/
structure OPre (c : CC) (H : Hp) (o B : Addr) (bel : List (Int × Nat)) (told : Nat) : Prop where
  O : OrdAt c H o B bel told
  P : FL.Po (FL.liesB bel) (bel.map (·.1))
  nn : ∀ z ∈ bel.map (·.1), 0 ≤ z
  len : bel.length ≤ 24
theorem OPre.same {H H' : Hp} {o B : Addr} {bel : List (Int × Nat)} {told : Nat} (h : OPre c H o B bel told) (s : Same H H') : OPre c H' o B bel told :=
  ⟨h.O.same fun b u _ e => s b u e, h.P, h.nn, h.len⟩
theorem isS {bel : List (Int × Nat)} {x : Int} (h : x ∈ bel.map (·.1)) : (FL.aget bel x).isSome = true := by
  cases e : FL.aget bel x with
  | none => exact absurd h (FL.aget_none_iff.mp e)
  | some m => rfl
def knF (bel : List (Int × Nat)) (pre : List Int) : List (Int × Nat) := pre.map fun y => (y, FL.fl (FL.liesB bel) (bel.map (·.1)) y)
def kNat (n : Nat) : V := .int (n : Int)
theorem knF_get {bel : List (Int × Nat)} {pre : List Int} {x : Int} : FL.aget (knF bel pre) x = if x ∈ pre then some (FL.fl (FL.liesB bel) (bel.map (·.1)) x) else none := by
  induction pre with
  | nil => rfl
  | cons a r ih =>
    show FL.aget ((a, FL.fl (FL.liesB bel) (bel.map (·.1)) a) :: knF bel r) x = _
    rw [FL.aget_cons, ih]
    by_cases q : a = x
    · subst q; rw [if_pos rfl, if_pos List.mem_cons_self]
    · rw [if_neg q]
      by_cases z : x ∈ r
      · rw [if_pos z, if_pos (List.mem_cons_of_mem _ z)]
      · rw [if_neg z, if_neg fun h => (List.mem_cons.mp h).elim (fun e => q e.symm) z]
/-- the floor of a thing; n = 0: it is known -/
def spFloor (c : CC) (n : Nat) : Sp := fun vs H Q _ => ∃ (o B kn : Addr) (bel : List (Int × Nat)) (told : Nat) (x : Int) (pre : List Int), vs = [.ref o, .int x, .ref kn] ∧ OPre c H o B bel told ∧ H kn = some (.dK (kvI kNat (knF bel pre))) ∧ x ∈ bel.map (·.1) ∧
  (∀ y ∈ bel.map (·.1), FL.liesB bel x y = true → y ∈ pre) ∧ pre.length ≤ 24 ∧ (x ∈ pre ∨ n = 1) ∧ (x ∈ pre → Q (.int (FL.fl (FL.liesB bel) (bel.map (·.1)) x : Nat)) H) ∧
  (x ∉ pre → ∀ H', (∀ z u, z ≠ kn → H z = some u → H' z = some u) → H' kn = some (.dK (kvI kNat (knF bel (pre ++ [x])))) → Q (.int (FL.fl (FL.liesB bel) (bel.map (·.1)) x : Nat)) H')
def spFloorP (c : CC) : Nat → Sp
  | 0 => fun _ _ _ _ => False
  | _ + 1 => spFloor c 0
theorem ok_floor0 (D : GD K mg "floor_of" s_floor_of) : GOk P w K mg base CX0 "floor_of" ["order", "one", "known"] 1 (spFloorP c 0) :=
  D.ok (N := ["order", "one", "known", "lower", "other"]) ⟨rfl, rfl, rfl, by decide +kernel, rfl, by decide +kernel, by decide +kernel⟩ (fun _ _ _ _ _ _ us hl => match us, hl with | [_, _, _], _ => rfl) (fun vs H Q E h => h.elim) (fun f cdv A outer s H vs Q E hr h => h.elim)
theorem ok_floor (T : Tx K mg c) (D : GD K mg "floor_of" s_floor_of) (MT : MOk P w K mg base CX0 c.O "things" ["self"] 1 (spO_things c)) (ML : MOk P w K mg base CX0 c.O "lies_above" ["self", "one", "other"] 2 (spO_lies c)) (n k : Nat) (hk : 2 ≤ k)
    (G0 : GOk P w K mg base CX0 "floor_of" ["order", "one", "known"] k (spFloorP c n)) : GOk P w K mg base CX0 "floor_of" ["order", "one", "known"] (k + 1) (spFloor c n) := by
  obtain ⟨f1, fd1, mTh, bTh, FTh⟩ := MT
  obtain ⟨f2, fd2, mLi, bLi, FLi⟩ := ML
  obtain ⟨f3, fd3, g3, k3, b3, F3⟩ := G0
  have sc : FnScope ["order", "one", "known", "lower", "other"] ["order", "one", "known"] (defScope s_floor_of) := ⟨rfl, rfl, rfl, by decide +kernel, rfl, by decide +kernel, by decide +kernel⟩
  refine D.ok sc (fun _ _ _ _ _ _ us hl => match us, hl with | [_, _, _], _ => rfl) (fun vs H Q E h => ?_) (fun f cdv A outer s H vs Q E hr h => ?_)
  · obtain ⟨o, B, kn, bel, told, x, pre, rfl, _⟩ := h; rfl
  · obtain ⟨o, B, kn, bel, told, x, pre, rfl, p, hkn, hx, hlow, hpl, hc, q1, q2⟩ := h
    have hr1 : Room 1 _ := hr.mono (by omega)
    have hr2 : Room 2 _ := hr.mono hk
    have hu := hu_of hr
    refine' ⟨_, (pss_cons (ps_if (pt_cmp (pc_dnotin hu (pv 1) (pv 2))) (pss_cons (ps_setLc (i := 3) (own := [("other", 4)]) rfl sc.nd rfl rfl (sw_true rfl rfl rfl (by decide +kernel)) (pi_list (pe_meth0 (pv 0) T.clO mTh FTh hr1 bTh .nil pass0)) (blkOk_by (own := [("other", 4)]) (N := ["order", "one", "known", "lower", "other"]) (sc := defScope s_floor_of) (by decide +kernel)) (fun _ _ _ _ _ => pg_name (i := 4) sc.nd rfl (Or.inl rfl)) (fun _ _ _ _ _ => pts_one (pt_val (pe_meth (pv 0) T.clO mLi FLi hr2 bLi .nil pass0 (pa_cons (pv 1) (pa_cons (pv 4) pa_nil))))) (fun _ _ _ _ _ => pe_call F3 hr (by rfl) g3 k3 b3 .nil pass0 (pa_cons (pv 0) (pa_cons (pv 4) (pa_cons (pv 2) pa_nil))))) (pss_one (ps_dput hu (pv 2) (pv 1) (pe_op op_add pe_int (pe_callB (cr_max rfl) (by rfl) T.zMax (by decide +kernel) (pa_cons (pe_op op_cat (pv 3) (pe_lst (pa_cons (pe_un un_neg pe_int) pa_nil))) pa_nil))) rfl))) pss_nil) (pss_one (ps_ret (pe_dget hu (pv 2) (pv 1) (fun _ _ => rfl))))), ?_⟩
    refine ⟨_, rfl, _, rfl, kn, _, rfl, DGet.k (k := Sum.inl x) hkn, _, rfl, ?_⟩
    rw [valV_kvI, Option.isSome_map, knF_get]
    have hxnn : ∀ z ∈ bel.map (·.1), 0 ≤ z := p.nn
    obtain ⟨⟨dO, ho⟩, hB⟩ := id p.O
    by_cases hp : x ∈ pre
    · rw [if_pos hp]
      refine iteF ?_
      have g := DGet.k (k := Sum.inl x) hkn
      rw [valV_kvI, knF_get, if_pos hp] at g
      exact ⟨_, rfl, _, rfl, kn, _, rfl, g, q1 hp⟩
    · rw [if_neg hp]
      obtain rfl : n = 1 := hc.resolve_left hp
      refine iteT ?_
      dsimp only [tAsg, tSeq]
      refine lc_new (K := K) V.int (ns := bel.map (·.1)) (FL.liesB bel x) (fun y => .int (FL.fl (FL.liesB bel) (bel.map (·.1)) y : Nat)) (fun Q' q => ?_) (by rw [List.length_map]; have := p.len; omega) (fun x => by rfl) (fun z hz H3 s3 Q' q => ?_) (fun z hz hl H3 s3 Q' q => ?_) (fun D H' hD s1 h1 => ?_)
      · exact ⟨_, rfl, o, dO, _, rfl, ho, fO_no ⟨by decide +kernel, by decide +kernel⟩, o, B, bel, told, rfl, p.O, p.P.srt, by have := p.len; omega, fun t ht => q t _ (Same.new ht) (SqL.of upd_same)⟩
      · exact ⟨_, rfl, o, dO, _, rfl, s3 _ _ ho, fO_no ⟨by decide +kernel, by decide +kernel⟩, _, rfl, _, rfl, o, B, bel, told, x, z, rfl, (p.same s3).O, isS hx, hxnn z hz, _, rfl, q H3 Same.rfl⟩
      · exact ⟨_, rfl, _, rfl, _, rfl, o, B, kn, bel, told, z, pre, rfl, p.same s3, s3 _ _ hkn, hz, fun y hy e => hlow y hy (p.P.tr x z y hx hz hy hl e), hpl, Or.inl (hlow z hz hl), fun _ => q H3 Same.rfl, fun h => absurd (hlow z hz hl) h⟩
      · refine ⟨_, rfl, _, rfl, (by show 1 ≤ sizeLine; decide), fun r hr0 => ?_⟩
        have s2 := Same.new (o := .lst [V.int (-1)]) hr0
        have h2 : (upd H' r (.lst [V.int (-1)])) r = some (.lst [V.int (-1)]) := upd_same
        generalize upd H' r (.lst [V.int (-1)]) = H2 at s2 h2
        refine ⟨D, r, _, _, rfl, rfl, s2 _ _ h1, h2, ?_, fun t ht => ?_⟩
        · rw [List.length_map]
          have h3 : ((bel.map (·.1)).filter (FL.liesB bel x)).length ≤ 24 := Nat.le_trans (List.length_filter_le _ _) (by rw [List.length_map]; exact p.len)
          exact Nat.le_trans (m := 1000) (by show _ + 1 ≤ 1000; omega) (by decide)
        have s3 := Same.new (o := .lst ((((bel.map (·.1)).filter (FL.liesB bel x)).map fun y => V.int (FL.fl (FL.liesB bel) (bel.map (·.1)) y : Nat)) ++ [V.int (-1)])) ht
        have h3 : (upd H2 t (.lst ((((bel.map (·.1)).filter (FL.liesB bel x)).map fun y => V.int (FL.fl (FL.liesB bel) (bel.map (·.1)) y : Nat)) ++ [V.int (-1)]))) t = some (lI ((((bel.map (·.1)).filter (FL.liesB bel x)).map fun y => (FL.fl (FL.liesB bel) (bel.map (·.1)) y : Int)) ++ [-1])) := by
          rw [upd_same]
          show _ = some (HO.lst (List.map V.int _))
          rw [List.map_append, List.map_map]; rfl
        generalize upd H2 t (.lst ((((bel.map (·.1)).filter (FL.liesB bel x)).map fun y => V.int (FL.fl (FL.liesB bel) (bel.map (·.1)) y : Nat)) ++ [V.int (-1)])) = H3 at s3 h3
        refine ⟨t, _, rfl, SqL.of h3, by rw [List.length_append, List.length_singleton]; omega, fun m hm hmax => ⟨_, _, rfl, rfl, ?_⟩⟩
        have em := FL.max_fl p.P hx hm hmax
        have s03 : Same H H3 := s1.trans (s2.trans s3)
        have hkn3 := s03 _ _ hkn
        refine ⟨_, rfl, _, rfl, kn, _, rfl, DPut.k (k := Sum.inl x) hkn3 (by rw [len_kvI]; unfold knF; rw [List.length_map]; exact small1000 (by omega)), ?_⟩
        have ep : putK (kvI kNat (knF bel pre)) (Sum.inl x) (V.int (1 + m)) = kvI kNat (knF bel (pre ++ [x])) := by
          rw [em]
          have e1 : putK (kvI kNat (knF bel pre)) (Sum.inl x) (kNat (FL.fl (FL.liesB bel) (bel.map (·.1)) x)) = kvI kNat (FL.aput (knF bel pre) x (FL.fl (FL.liesB bel) (bel.map (·.1)) x)) := putK_kvI
          rw [FL.aput_new _ (by rw [knF_get, if_neg hp])] at e1
          refine e1.trans ?_
          unfold knF
          rw [List.map_append]; rfl
        rw [ep]
        have hk4 : (upd H3 kn (.dK (kvI kNat (knF bel (pre ++ [x]))))) kn = some (.dK (kvI kNat (knF bel (pre ++ [x])))) := upd_same
        have g := DGet.k (k := Sum.inl x) hk4
        rw [valV_kvI, knF_get, if_pos (List.mem_append_right _ (List.mem_singleton.mpr rfl))] at g
        exact ⟨_, rfl, _, rfl, kn, _, rfl, g, q2 hp _ (fun z u n e => by rw [upd_ne n]; exact s03 _ _ e) hk4⟩
end
end FW

set_option maxHeartbeats 4000000
/-! The walk 14: floors_of, Hall.floors. -/
namespace FW
open PySem PySem.Spec PyProof.Rows L2
theorem LLT.set {H : Hp} {t : Addr} {l : List Int} : ∀ {k : Nat} {as : List Addr} {g : List (List Int)}, LLT H as g → as.Nodup → as[k]? = some t → LLT (upd H t (lI l)) as (g.set k l)
  | 0, t0 :: ts, l0 :: r, h, n, e => by
    have e : t0 = t := Option.some.inj e
    subst e
    refine ⟨upd_same, LLT.sameM (fun b hb u e => ?_) h.2⟩
    rw [upd_ne (fun (z : b = t0) => (List.nodup_cons.mp n).1 (z ▸ hb))]; exact e
  | k + 1, t0 :: ts, l0 :: r, h, n, e => by
    have e : ts[k]? = some t := e
    refine ⟨?_, LLT.set h.2 (List.nodup_cons.mp n).2 e⟩
    rw [upd_ne (fun (z : t0 = t) => (List.nodup_cons.mp n).1 (z ▸ List.mem_of_getElem? e))]; exact h.1
  | _, [], _, _, _, e => by simp at e
  | _, _ :: _, [], h, _, _ => h.elim
theorem mem_take_lt {L : List Int} (s : L.Pairwise (· < ·)) {i : Nat} {x y : Int} (hx : L[i]? = some x) (hy : y ∈ L) (h : y < x) : y ∈ L.take i := by
  obtain ⟨hi, e⟩ := List.getElem?_eq_some_iff.mp hx
  obtain ⟨j, hj, ej⟩ := List.mem_iff_getElem.mp hy
  have : j < i := by
    rcases Nat.lt_trichotomy j i with q | q | q
    · exact q
    · subst q; rw [e] at ej; omega
    · have := List.pairwise_iff_getElem.mp s i j hi hj q
      omega
  rw [← ej]
  exact List.mem_take_iff_getElem.mpr ⟨j, by omega, rfl⟩
theorem not_take {L : List Int} (s : L.Pairwise (· < ·)) {i : Nat} {x : Int} (hx : L[i]? = some x) : x ∉ L.take i := fun h => by
  obtain ⟨hi, e⟩ := List.getElem?_eq_some_iff.mp hx
  obtain ⟨j, hj, ej⟩ := List.mem_take_iff_getElem.mp h
  have := List.pairwise_iff_getElem.mp s j i (by omega) hi (by omega)
  omega
section
variable {P : Program} {w : World} {K : PySem.W.Frag} {mg : Str → Option Value} {base : Heap} {c : CC}
def spFloors (c : CC) : Sp := fun vs H Q _ => ∃ (o B : Addr) (bel : List (Int × Nat)) (told : Nat), vs = [.ref o] ∧ OPre c H o B bel told ∧
  ∀ H' p as, Same H H' → LLAt H H' p as (FL.floors (FL.liesB bel) (bel.map (·.1)) (bel.map (·.1))) → Q (.ref p) H'
theorem ok_floors (T : Tx K mg c) (D : GD K mg "floors_of" s_floors_of) (MT : MOk P w K mg base CX0 c.O "things" ["self"] 1 (spO_things c)) (G0 : GOk P w K mg base CX0 "floor_of" ["order", "one", "known"] 4 (spFloor c 1)) : GOk P w K mg base CX0 "floors_of" ["order"] 5 (spFloors c) := by
  obtain ⟨f1, fd1, mTh, bTh, FTh⟩ := MT
  obtain ⟨f3, fd3, g3, k3, b3, F3⟩ := G0
  have sc : FnScope ["order", "known", "found", "one", "floor"] ["order"] (defScope s_floors_of) := ⟨rfl, rfl, rfl, by decide +kernel, rfl, by decide +kernel, by decide +kernel⟩
  refine D.ok sc (fun _ _ _ _ _ _ us hl => match us, hl with | [_], _ => rfl) (fun vs H Q E h => ?_) (fun f cdv A outer s H vs Q E hr h => ?_)
  · obtain ⟨o, B, bel, told, rfl, _⟩ := h; rfl
  · obtain ⟨o, B, bel, told, rfl, p, k⟩ := h
    have hr1 : Room 1 _ := hr.mono (by decide)
    have hu := hu_of hr
    refine' ⟨_, (pss_cons (ps_set (i := 1) sc.nd rfl (Or.inl rfl) (pe_dnewK)) (pss_cons (ps_set (i := 2) sc.nd rfl (Or.inl rfl) (pe_lst pa_nil)) (pss_cons (ps_for PassesOwn.never rfl (pi_list (pe_meth0 (pv 0) T.clO mTh FTh hr1 bTh .nil pass0)) (pg_name (i := 3) sc.nd rfl (Or.inl rfl)) (pss_cons (ps_set (i := 4) sc.nd rfl (Or.inl rfl) ((pe_call F3 hr (by rfl) g3 k3 b3 .nil pass0 (pa_cons (pv 0) (pa_cons (pv 3) (pa_cons (pv 1) pa_nil)))))) (Evl.pss_cut (ps_while PassesOwn.never (pt_cmpR op_le (pe_callB call_len_seq (by rfl) T.zLen PySem.boot_len (pa_cons (pv 2) pa_nil)) (pv 4) (nomark _)) (pss_one (ps_expr (pe_bm PySem.F.plainAttrs_list PySem.F.slot_list_append PySem.F.type_list_append mt_append (pv 2) (pa_cons (pe_lst pa_nil) pa_nil))))) (pss_one (ps_expr (pe_bm PySem.F.plainAttrs_list PySem.F.slot_list_append PySem.F.type_list_append mt_append (pe_ix ix_list (pv 2) (pv 4) (fun _ _ => rfl)) (pa_cons (pv 3) pa_nil))))))) (pss_one (ps_ret (pv 2)))))), ?_⟩
    intro kn hkn
    have s1 := Same.new (o := .dK []) hkn
    have k1 : (upd H kn (.dK [])) kn = some (.dK []) := upd_same
    refine ⟨Nat.zero_le _, fun fd hfd => ?_⟩
    have s2 := s1.trans (Same.new (o := .lst []) hfd)
    have k2 : (upd (upd H kn (.dK [])) fd (.lst [])) kn = some (.dK []) := by rw [upd_ne (ne_of_none k1 hfd)]; exact k1
    have f2 : (upd (upd H kn (.dK [])) fd (.lst [])) fd = some (.lst []) := upd_same
    have nfd : H fd = none := back_no s1 hfd
    generalize upd (upd H kn (.dK [])) fd (.lst []) = H2 at s2 k2 f2
    have p2 := p.same s2
    obtain ⟨⟨dO, ho⟩, hB⟩ := id p2.O
    generalize eL : bel.map (·.1) = L at k
    have hs : L.Pairwise (· < ·) := eL ▸ p.P.srt
    have hl24 : L.length ≤ 24 := by rw [← eL, List.length_map]; exact p.len
    refine ⟨_, rfl, o, dO, _, rfl, ho, fO_no ⟨by decide +kernel, by decide +kernel⟩, o, B, bel, told, rfl, p2.O, p.P.srt, by have := p.len; omega, fun tp htp => ?_⟩
    rw [eL]
    have s3 := Same.new (o := lI L) htp
    refine ⟨tp, rfl, ⟨_, SqL.of upd_same⟩, for_list (K := K) (a := tp) (xs := L.map V.int)
      (fun i σ H3 => ∃ (as : List Addr) (v3 v4 : Option V), σ = [some (.ref o), some (.ref kn), some (.ref fd), v3, v4] ∧ Same H H3 ∧ H3 kn = some (.dK (kvI kNat (knF bel (L.take i)))) ∧ LLAt H H3 fd as (FL.floors (FL.liesB bel) L (L.take i)) ∧ H3 tp = some (lI L) ∧ tp ∉ fd :: as)
      ⟨[], _, _, rfl, s2.trans s3, s3 _ _ k2, ⟨s3 _ _ f2, trivial, by simp, fun z hz => by rw [List.mem_singleton.mp hz]; exact nfd⟩, upd_same, fun z => by rw [List.mem_singleton.mp z, f2] at htp; cases htp⟩ (fun i σ H3 _ ⟨_, _, _, _, _, _, _, e, _⟩ => SqL.of e) ?_ ?_⟩
    · rintro i y σ H3 hi ⟨as, v3, v4, rfl, s4, hk4, A4, ht4, ntp⟩
      obtain ⟨x, rfl, hx⟩ := itemI hi
      have hxL := memI hx
      have htk : (L.take i).length ≤ 24 := Nat.le_trans (List.length_take_le _ _) (by have := (List.getElem?_eq_some_iff.mp hx).1; omega)
      refine ⟨_, rfl, _, rfl, _, rfl, o, B, kn, bel, told, x, L.take i, rfl, p.same s4, hk4, eL ▸ hxL, fun y hy hl => mem_take_lt hs hx (eL ▸ hy) (p.P.lt x (eL ▸ hxL) y hl), htk, Or.inr rfl, fun h => absurd h (not_take hs hx), fun _ H5 k5 hk5 => ?_⟩
      rw [eL]
      have et : L.take i ++ [x] = L.take (i + 1) := by rw [List.take_add_one, hx]; rfl
      have nk : ∀ q ∈ fd :: as, q ≠ kn := fun q hq => by
        rcases List.mem_cons.mp hq with rfl | hq
        · exact ne_of A4.at_ hk4 (by intro z; cases z)
        · obtain ⟨l, e⟩ := A4.tt.is q hq
          exact ne_of e hk4 (by intro z; cases z)
      have ntk : tp ≠ kn := ne_of ht4 hk4 (by intro z; cases z)
      have s5 : Same H H5 := fun z u e => k5 z u (ne_of_none e hkn) (s4 z u e)
      have A5 : LLAt H H5 fd as (FL.floors (FL.liesB bel) L (L.take i)) := ⟨k5 _ _ (nk fd List.mem_cons_self) A4.at_, A4.tt.sameM fun q hq u e => k5 _ _ (nk q (List.mem_cons_of_mem _ hq)) e, A4.nd, A4.new⟩
      have ht5 := k5 _ _ ntk ht4
      rw [et] at hk5
      -- the floors grow
      generalize efx : FL.fl (FL.liesB bel) L x = fx
      have hfx : fx ≤ 24 := by
        rw [← efx]
        have h1 := FL.hgt_lt (lies := FL.liesB bel) (L := L) hxL
        have h2 := FL.hgt_le (lies := FL.liesB bel) (L := L) (eL ▸ p.P) (l := L) (fun _ h => h)
        omega
      have hhg : FL.hgt (FL.liesB bel) L (L.take i) ≤ 24 := Nat.le_trans (FL.hgt_le (eL ▸ p.P) fun y hy => List.mem_of_mem_take hy) hl24
      let St : Nat → List (List Int) → L2.St → Hp → Prop := fun m g σ H6 => ∃ as' : List Addr, σ = [some (.ref o), some (.ref kn), some (.ref fd), some (.int x), some (.int (fx : Nat))] ∧ Same H H6 ∧ H6 kn = some (.dK (kvI kNat (knF bel (L.take (i + 1))))) ∧ LLAt H H6 fd as' g ∧ (H6 tp = some (lI L) ∧ tp ∉ fd :: as') ∧
        FL.hgt (FL.liesB bel) L (L.take i) ≤ g.length ∧ g.length ≤ max (FL.hgt (FL.liesB bel) L (L.take i)) (fx + 1) ∧ m = fx + 1 - g.length ∧ (∀ k, k < FL.hgt (FL.liesB bel) L (L.take i) → g[k]? = some (FL.floorAt (FL.liesB bel) L (L.take i) k)) ∧ (∀ k, FL.hgt (FL.liesB bel) L (L.take i) ≤ k → k < g.length → g[k]? = some [])
      refine ⟨fun σ H6 => ∃ g, St 0 g σ H6, ?_, ?_⟩
      · refine ⟨fun m σ H6 => ∃ g, St m g σ H6, ⟨_, FL.floors (FL.liesB bel) L (L.take i), as, rfl, s5, hk5, A5, ⟨ht5, ntp⟩, by rw [FL.floors_len]; exact Nat.le_refl _, by rw [FL.floors_len]; exact Nat.le_max_left _ _, rfl, fun k hk => FL.floors_get hk, fun k h1 h2 => by rw [FL.floors_len] at h2; omega⟩, ?_⟩
        rintro m σ H6 ⟨g, as', rfl, s6, hk6, A6, ⟨ht6, ntp6⟩, g1, g2, rfl, g3, g4⟩
        refine ⟨_, rfl, fd, _, rfl, Or.inl (SqL.of A6.at_), _, rfl, _, _, rfl, rfl, _, rfl, ?_⟩
        rw [List.length_map, A6.tt.len]
        refine ite2 (fun z => ?_) (fun z => ?_)
        · have z := of_decide_eq_true z
          have z : g.length ≤ fx := by omega
          refine ⟨_, fun σ' H' z => z, ?_⟩
          refine ⟨_, rfl, Or.inl ⟨rfl, _, SqL.of A6.at_⟩, Nat.zero_le _, fun r hr0 => ?_⟩
          have s7 := Same.new (o := .lst []) hr0
          have hr7 : (upd H6 r (.lst [])) r = some (lI []) := upd_same
          generalize upd H6 r (.lst []) = H7 at s7 hr7
          have nrH : H r = none := back_no s6 hr0
          have nrfd : fd ≠ r := ne_of_none A6.at_ hr0
          refine ⟨fd, _, _, rfl, rfl, s7 _ _ A6.at_, by rw [List.length_map, A6.tt.len]; exact Nat.le_trans (m := 1000) (by omega) (by decide), ?_⟩
          have nra : ∀ q ∈ as', q ≠ fd := fun q hq e => (List.nodup_cons.mp A6.nd).1 (e ▸ hq)
          refine ⟨fx + 1 - (g ++ [[]]).length, by rw [List.length_append, List.length_singleton]; omega, g ++ [[]], as' ++ [r], rfl, fun z u e => ?_, ?_, ⟨?_, ?_, ?_, fun q hq => ?_⟩, ⟨?_, ?_⟩, by rw [List.length_append]; omega, by rw [List.length_append, List.length_singleton]; omega, rfl, fun k hk => ?_, fun k h1 h2 => ?_⟩
          · rw [upd_ne (ne_of_none e nfd)]; exact s7 _ _ (s6 _ _ e)
          · rw [upd_ne (ne_of hk6 A6.at_ (by intro z; cases z))]; exact s7 _ _ hk6
          · rw [upd_same, List.map_append]; rfl
          · refine LLT.snoc (by rw [upd_ne nrfd.symm]; exact hr7) (A6.tt.sameM fun q hq u e => ?_)
            rw [upd_ne (nra q hq)]; exact s7 _ _ e
          · refine List.nodup_cons.mpr ⟨fun z => ?_, FL.nodup_snoc (List.nodup_cons.mp A6.nd).2 fun z => ?_⟩
            · rcases List.mem_append.mp z with z | z
              · exact (List.nodup_cons.mp A6.nd).1 z
              · exact nrfd (List.mem_singleton.mp z)
            · obtain ⟨l, e⟩ := A6.tt.is r z
              rw [hr0] at e; cases e
          · rcases List.mem_cons.mp hq with rfl | hq
            · exact nfd
            · rcases List.mem_append.mp hq with hq | hq
              · exact A6.new q (List.mem_cons_of_mem _ hq)
              · rw [List.mem_singleton.mp hq]; exact nrH
          · rw [upd_ne (fun (z : tp = fd) => ntp6 (z ▸ List.mem_cons_self))]; exact s7 _ _ ht6
          · intro z
            rcases List.mem_cons.mp z with z | z
            · exact ntp6 (z ▸ List.mem_cons_self)
            · rcases List.mem_append.mp z with z | z
              · exact ntp6 (List.mem_cons_of_mem _ z)
              · rw [List.mem_singleton.mp z, hr0] at ht6; cases ht6
          · rw [List.getElem?_append_left (by omega)]; exact g3 k hk
          · by_cases q : k < g.length
            · rw [List.getElem?_append_left q]; exact g4 k h1 q
            · rw [List.length_append, List.length_singleton] at h2
              have : k = g.length := by omega
              subst this
              rw [List.getElem?_append_right (Nat.le_refl _), Nat.sub_self]; rfl
        · have z : ¬ (g.length : Int) ≤ (fx : Int) := fun y => z (decide_eq_true y)
          exact ⟨g, as', rfl, s6, hk6, A6, ⟨ht6, ntp6⟩, g1, g2, by omega, g3, g4⟩
      · rintro σ H6 ⟨g, as', rfl, s6, hk6, A6, ⟨ht6, ntp6⟩, g1, g2, hm, g3, g4⟩
        have gl : g.length = max (FL.hgt (FL.liesB bel) L (L.take i)) (fx + 1) := by omega
        have hfl : fx < as'.length := by rw [A6.tt.len]; omega
        obtain ⟨l, el, hl⟩ := A6.tt.get (List.getElem?_eq_getElem hfl)
        have nra : ∀ q ∈ as', q ≠ fd := fun q hq e => (List.nodup_cons.mp A6.nd).1 (e ▸ hq)
        have hta : as'[fx] ∈ as' := List.getElem_mem _
        have tn : H as'[fx] = none := A6.new _ (List.mem_cons_of_mem _ hta)
        have eg := FL.floors_snoc (lies := FL.liesB bel) (L := L) (L.take i) x g (by rw [efx]; exact gl) g3 g4
        rw [efx, et] at eg
        have egd : g.getD fx [] = l := by rw [List.getD_eq_getElem?_getD, el]; rfl
        rw [egd] at eg
        have hll : l.length ≤ 24 := by
          by_cases q : fx < FL.hgt (FL.liesB bel) L (L.take i)
          · have := g3 fx q
            rw [el] at this
            rw [Option.some.inj this]
            exact Nat.le_trans (List.length_filter_le _ _) htk
          · have := g4 fx (by omega) (by omega)
            rw [el] at this
            rw [Option.some.inj this]
            exact Nat.zero_le _
        refine ⟨_, rfl, _, rfl, fd, _, (fx : Int), .ref as'[fx], rfl, rfl, SqL.of A6.at_, atI_nat (by rw [List.getElem?_map, List.getElem?_eq_getElem hfl]; rfl), Or.inl ⟨rfl, _, SqL.of hl⟩, _, rfl, as'[fx], _, _, rfl, rfl, hl, by rw [List.length_map]; exact Nat.le_trans (m := 1000) (by omega) (by decide), ?_⟩
        refine ⟨as', _, _, rfl, fun z u e => by rw [upd_ne (ne_of_none e tn)]; exact s6 _ _ e, by rw [upd_ne (ne_of hk6 hl (by intro z; cases z))]; exact hk6, ⟨by rw [upd_ne (nra _ hta).symm]; exact A6.at_, ?_, A6.nd, A6.new⟩, ?_, ntp6⟩
        · have := LLT.set (l := l ++ [x]) A6.tt (List.nodup_cons.mp A6.nd).2 (List.getElem?_eq_getElem hfl)
          rw [eg] at this
          have e2 : (HO.lst (l.map V.int ++ [V.int x])) = lI (l ++ [x]) := by
            show _ = HO.lst (List.map V.int _)
            rw [List.map_append]; rfl
          rw [e2]
          exact this
        · rw [upd_ne (fun (z : tp = as'[fx]) => ntp6 (List.mem_cons_of_mem _ (z ▸ hta)))]; exact ht6
    · rintro σ H3 ⟨as, v3, v4, rfl, s4, hk4, A4, ht4, ntp⟩
      rw [List.length_map, List.take_length] at A4
      exact ⟨_, rfl, k _ _ as s4 A4⟩
end
end FW

set_option maxHeartbeats 4000000
/-! The walk 15: longest_of, Hall.floors, Hall.longest. -/
namespace FW
open PySem PySem.Spec PyProof.Rows L2
section
variable {X : Cx}
theorem opeqK (K : PySem.W.Frag) (hu : X.A.units + 64 < cLine) (h : X.K = K := by rfl) : OpR X (compareOp .Eq) (rEqD K) := by subst h; exact op_eqD hu
end
section
variable {P : Program} {w : World} {K : PySem.W.Frag} {mg : Str → Option Value} {base : Heap} {c : CC}
def spLongest (c : CC) : Sp := fun vs H Q _ => ∃ (o B : Addr) (bel : List (Int × Nat)) (told : Nat), vs = [.ref o] ∧ OPre c H o B bel told ∧
  ∀ H' t, Same H H' → H t = none → H' t = some (lI (FL.longest (FL.liesB bel) (bel.map (·.1)))) → Q (.ref t) H'
theorem ok_longest (T : Tx K mg c) (D : GD K mg "longest_of" s_longest_of) (ML : MOk P w K mg base CX0 c.O "lies_above" ["self", "one", "other"] 2 (spO_lies c)) (G0 : GOk P w K mg base CX0 "floors_of" ["order"] 5 (spFloors c)) : GOk P w K mg base CX0 "longest_of" ["order"] 6 (spLongest c) := by
  obtain ⟨f1, fd1, mLi, bLi, FLi⟩ := ML
  obtain ⟨f3, fd3, g3, k3, b3, F3⟩ := G0
  have sc : FnScope ["order", "found", "floor", "fits", "one"] ["order"] (defScope s_longest_of) := ⟨rfl, rfl, rfl, by decide +kernel, rfl, by decide +kernel, by decide +kernel⟩
  refine D.ok sc (fun _ _ _ _ _ _ us hl => match us, hl with | [_], _ => rfl) (fun vs H Q E h => ?_) (fun f cdv A outer s H vs Q E hr h => ?_)
  · obtain ⟨o, B, bel, told, rfl, _⟩ := h; rfl
  · obtain ⟨o, B, bel, told, rfl, p, k⟩ := h
    have hr2 : Room 2 _ := hr.mono (by decide)
    have hu := hu_of hr
    refine' ⟨_, (pss_cons (ps_set (i := 1) sc.nd rfl (Or.inr rfl) (pe_lst pa_nil)) (pss_cons (ps_for PassesOwn.never rfl (pi_reversed (by rfl) T.zRev (pa_cons ((pe_call F3 hr (by rfl) g3 k3 b3 .nil pass0 (pa_cons (pv 0) pa_nil))) pa_nil)) (pg_name (i := 2) sc.nd rfl (Or.inl rfl)) (pss_cons (ps_setLc (i := 3) (own := [("one", 4)]) rfl sc.nd rfl rfl (sw_true rfl rfl rfl (by decide +kernel)) (pi_list (pv 2)) (blkOk_by (own := [("one", 4)]) (N := ["order", "found", "floor", "fits", "one"]) (sc := defScope s_longest_of) (by decide +kernel)) (fun _ _ _ _ _ => pg_name (i := 4) sc.nd rfl (Or.inl rfl)) (fun _ _ _ _ _ => pts_one (PW.pt (pw_or (pt_cmpR (opeqK K hr.units) (pv 1) (pe_lst pa_nil) (nomark _)) (pw_or1 (pt_val (pe_meth (pv 0) T.clO mLi FLi hr2 bLi .nil pass0 (pa_cons (pe_ix (ixK K) (pv 1) pe_int (fun _ _ => rfl)) (pa_cons (pv 4) pa_nil)))))))) (fun _ _ _ _ _ => pv 4)) (pss_one (ps_set (i := 1) sc.nd rfl (Or.inr rfl) (pe_op op_cat (pe_lst (pa_cons (pe_ix ix_list (pv 3) pe_int (fun _ _ => rfl)) pa_nil)) (pv 1)))))) (pss_one (ps_ret (pv 1))))), ?_⟩
    refine ⟨Nat.zero_le _, fun fd hfd => ?_⟩
    have s1 := Same.new (o := .lst []) hfd
    have f1 : (upd H fd (.lst [])) fd = some (lI []) := upd_same
    generalize upd H fd (.lst []) = H1 at s1 f1
    refine ⟨_, rfl, o, B, bel, told, rfl, p.same s1, fun H2 q as s2 A2 => ?_⟩
    have P2 := p.P
    have hnn := p.nn
    generalize eL : bel.map (·.1) = L at k A2 P2 hnn
    have elen : (as.map V.ref).length = FL.hgt (FL.liesB bel) L L := by rw [List.length_map, A2.tt.len, FL.floors_len]
    have hh24 : FL.hgt (FL.liesB bel) L L ≤ 24 := Nat.le_trans (FL.hgt_le P2 fun _ h => h) (by rw [← eL, List.length_map]; exact p.len)
    refine ⟨q, as.map V.ref, rfl, SqL.of A2.at_, for_it walk_rev
      (fun i σ H3 => ∃ (t : Addr) (acc : List Int) (v2 v3 : Option V), σ = [some (.ref o), some (.ref t), v2, v3, none] ∧ Same H2 H3 ∧ H t = none ∧ H3 t = some (lI acc) ∧ i ≤ FL.hgt (FL.liesB bel) L L ∧ FL.LgOk (FL.liesB bel) L (FL.hgt (FL.liesB bel) L L - i) acc ∧ FL.lgF (FL.liesB bel) L (FL.hgt (FL.liesB bel) L L - i) acc = FL.longest (FL.liesB bel) L)
      ⟨fd, [], _, _, rfl, Same.rfl, hfd, s2 _ _ f1, Nat.zero_le _, ⟨by simp, fun i x h => by simp at h, fun i x y h => by simp at h⟩, rfl⟩ (fun i σ H3 _ ⟨_, _, _, _, _, s3, _⟩ => SqL.of (s3 _ _ A2.at_)) ?_ ?_⟩
    · rintro i y σ H3 H4 hi ⟨t, acc, v2, v3, rfl, s3, ht0, ht, hil, lg, eg⟩ ⟨rfl, hy⟩
      rw [elen] at hi
      rw [elen] at hy
      obtain ⟨kf, ek⟩ : ∃ kf, FL.hgt (FL.liesB bel) L L - i = kf + 1 := ⟨FL.hgt (FL.liesB bel) L L - i - 1, by omega⟩
      have ekf : FL.hgt (FL.liesB bel) L L - 1 - i = kf := by omega
      rw [ekf] at hy
      obtain ⟨fa, rfl, hfa⟩ := itemG hy
      obtain ⟨l, el, hl⟩ := A2.tt.get hfa
      rw [FL.floors_get (by omega)] at el
      have el := Option.some.inj el
      subst el
      rw [ek] at lg eg
      obtain ⟨x, tl, epk, lg2⟩ := FL.LgOk.pick P2 lg
      have hlen : (FL.floorAt (FL.liesB bel) L L kf).length ≤ 24 := Nat.le_trans (List.length_filter_le _ _) (by rw [← eL, List.length_map]; exact p.len)
      have acl : acc.length ≤ 24 := by have := lg.len; omega
      obtain ⟨⟨dO, ho⟩, hB⟩ := id p.O
      have sH4 : Same H H4 := s1.trans (s2.trans s3)
      have hfa4 := s3 _ _ hl
      dsimp only [gName, tSeq, tAsg]
      refine lc_same (K := K) V.int (a := fa) (ns := FL.floorAt (FL.liesB bel) L L kf) (fun x => decide (acc = []) || FL.liesB bel (acc.headD 0) x) V.int (fun Q' q => ⟨_, rfl, q⟩) (SqL.of hfa4) (by omega) (fun x => by rfl) (fun z hz H5 s5 Q' q => ?_) (fun z hz _ H5 s5 Q' q => ⟨_, rfl, q H5 Same.rfl⟩) (fun r H5 hr5 s5 h5 => ?_)
      · have zL : z ∈ L := (List.mem_filter.mp hz).1
        refine ⟨_, rfl, Nat.zero_le _, fun e he => ?_⟩
        have s6 := Same.new (o := .lst []) he
        refine ⟨iD acc, .list [], dp_iD (SqL.of (s6 _ _ (s5 _ _ ht))), dp_nil upd_same, iD_sh _, iD_sh [], _, rfl, ?_⟩
        rw [nil_D]
        refine ite2 (fun d => ?_) (fun d => ?_)
        · rw [d, Bool.true_or] at q
          exact q _ s6
        · rw [Bool.eq_false_iff.mpr d, Bool.false_or] at q
          have na : acc ≠ [] := fun e => d (decide_eq_true e)
          have hmem : acc.headD 0 ∈ L := by
            cases acc with
            | nil => exact absurd rfl na
            | cons a r => exact (lg.at_ 0 a rfl).1
          refine ⟨_, rfl, o, dO, _, rfl, s6 _ _ (s5 _ _ (sH4 _ _ ho)), fO_no ⟨by decide +kernel, by decide +kernel⟩, _, rfl, t, _, _, _, rfl, rfl, SqL.of (s6 _ _ (s5 _ _ ht)), head_at' na, _, rfl, o, B, bel, told, acc.headD 0, z, rfl, (p.same (sH4.trans (s5.trans s6))).O, isS (eL ▸ hmem), hnn z zL, _, rfl, q _ s6⟩
      · have h5' : H5 r = some (lI (x :: tl)) := by
          rw [h5]
          have : (FL.floorAt (FL.liesB bel) L L kf).filter (fun x => decide (acc = []) || FL.liesB bel (acc.headD 0) x) = x :: tl := epk
          rw [this]
        have hx0 : atI ((x :: tl).map V.int) 0 = some (V.int x) := atI_nat (j := 0) rfl
        refine ⟨_, rfl, r, _, _, _, rfl, rfl, SqL.of h5', hx0, (by show 1 ≤ sizeLine; decide), fun e he => ?_⟩
        have s6 := Same.new (o := .lst [V.int x]) he
        have h6 : (upd H5 e (.lst [V.int x])) e = some (.lst [V.int x]) := upd_same
        have ht6 := s6 _ _ (s5 _ _ ht)
        generalize upd H5 e (.lst [V.int x]) = H6 at s6 h6 ht6
        refine ⟨_, rfl, e, t, _, _, rfl, rfl, h6, ht6, by rw [List.length_map]; exact Nat.le_trans (m := 1000) (by show 1 + acc.length ≤ 1000; omega) (by decide), fun u hu0 => ?_⟩
        have s7 := Same.new (o := .lst ([V.int x] ++ acc.map V.int)) hu0
        have s27 : Same H2 (upd H6 u (.lst ([V.int x] ++ acc.map V.int))) := s3.trans (s5.trans (s6.trans s7))
        refine ⟨u, x :: acc, _, _, rfl, s27, back_no (sH4.trans (s5.trans s6)) hu0, upd_same, by omega, ?_, ?_⟩
        · rw [show FL.hgt (FL.liesB bel) L L - (i + 1) = kf by omega]; exact lg2
        · rw [show FL.hgt (FL.liesB bel) L L - (i + 1) = kf by omega, ← eg]
          conv => rhs; unfold FL.lgF
          rw [epk]; rfl
    · rintro σ H3 ⟨t, acc, v2, v3, rfl, s3, ht0, ht, hil, lg, eg⟩
      rw [elen, Nat.sub_self] at eg
      have eg : acc = FL.longest (FL.liesB bel) L := eg
      exact ⟨_, rfl, k _ t (s1.trans (s2.trans s3)) ht0 (eg ▸ ht)⟩
theorem HallAt.opre {H : Hp} {a : HA} {st : FL.HS} (h : HallAt c H a st) (G : FL.Good st) (hl : st.linked.length ≤ 24) : OPre c H a.la.o a.B st.below st.told :=
  ⟨h.O, by rw [G.keys]; exact G.po, by rw [G.keys]; exact fun z hz => (G.rng z hz).1, by rw [← G.keys, List.length_map] at hl; exact hl⟩
def spH_floors (c : CC) : Sp := fun vs H Q _ => ∃ (a : HA) (s : FL.HS), vs = [.ref a.h] ∧ HallAt c H a s ∧ FL.Good s ∧ s.linked.length ≤ 24 ∧ ∀ H' p ps, Same H H' → LLAt H H' p ps (FL.floors s.lies s.linked s.linked) → Q (.ref p) H'
theorem ok_H_floors (T : Tx K mg c) (D : MD K c.H "floors" "Hall.floors" sH_floors) (G1 : GOk P w K mg base CX0 "floors_of" ["order"] 5 (spFloors c)) : MOk P w K mg base CX0 c.H "floors" ["self"] 6 (spH_floors c) := by
  obtain ⟨f1, fd1, g1, k1, b1, F1⟩ := G1
  refine D.ok (N := ["self"]) ⟨rfl, rfl, rfl, by decide +kernel, rfl, by decide +kernel, by decide +kernel⟩ (fun _ _ _ _ _ _ us hl => match us, hl with | [_], _ => rfl) (fun vs H Q E h => ?_) (fun f cdv A outer s H vs Q E hr h => ?_)
  · obtain ⟨a, st, rfl, _⟩ := h; rfl
  · obtain ⟨a, st, rfl, HA0, G, hl, k⟩ := h
    obtain ⟨⟨dx, hh⟩, O, N, nBA, nBE⟩ := id HA0
    refine' ⟨_, (pss_one (ps_ret ((pe_call F1 hr (by rfl) g1 k1 b1 .nil pass0 (pa_cons (pe_fld (pv 0) rfl) pa_nil))))), ?_⟩
    refine ⟨_, rfl, a.h, c.H, dx, _, _, rfl, hh, T.clH, T.nHo, fH_order, a.la.o, a.B, st.below, st.told, rfl, HA0.opre G hl, fun H' p ps s L => ?_⟩
    rw [G.keys] at L
    exact k H' p ps s L
def spH_longest (c : CC) : Sp := fun vs H Q _ => ∃ (a : HA) (s : FL.HS), vs = [.ref a.h] ∧ HallAt c H a s ∧ FL.Good s ∧ s.linked.length ≤ 24 ∧ ∀ H' t, Same H H' → H t = none → H' t = some (lI (FL.longest s.lies s.linked)) → Q (.ref t) H'
theorem ok_H_longest (T : Tx K mg c) (D : MD K c.H "longest" "Hall.longest" sH_longest) (G1 : GOk P w K mg base CX0 "longest_of" ["order"] 6 (spLongest c)) : MOk P w K mg base CX0 c.H "longest" ["self"] 7 (spH_longest c) := by
  obtain ⟨f1, fd1, g1, k1, b1, F1⟩ := G1
  refine D.ok (N := ["self"]) ⟨rfl, rfl, rfl, by decide +kernel, rfl, by decide +kernel, by decide +kernel⟩ (fun _ _ _ _ _ _ us hl => match us, hl with | [_], _ => rfl) (fun vs H Q E h => ?_) (fun f cdv A outer s H vs Q E hr h => ?_)
  · obtain ⟨a, st, rfl, _⟩ := h; rfl
  · obtain ⟨a, st, rfl, HA0, G, hl, k⟩ := h
    obtain ⟨⟨dx, hh⟩, O, N, nBA, nBE⟩ := id HA0
    refine' ⟨_, (pss_one (ps_ret ((pe_call F1 hr (by rfl) g1 k1 b1 .nil pass0 (pa_cons (pe_fld (pv 0) rfl) pa_nil))))), ?_⟩
    refine ⟨_, rfl, a.h, c.H, dx, _, _, rfl, hh, T.clH, T.nHo, fH_order, a.la.o, a.B, st.below, st.told, rfl, HA0.opre G hl, fun H' t s n e => ?_⟩
    rw [G.keys] at e
    exact k H' t s n e
end
end FW

set_option maxHeartbeats 4000000
/-! The law's helpers 9: floors by the law's own going. -/
namespace FW
open PySem PySem.Spec PyProof.Rows L2
section
variable {X : Cx}
theorem listK (K : PySem.W.Frag) {tg l : Expr} {tl : TE} (h : PE X l tl) (e : X.K = K := by rfl) : PI X tg l (iList K tl) := by subst e; exact pi_list h
theorem inK (K : PySem.W.Frag) (e : X.K = K := by rfl) : OpR X (compareOp .In) (rIn K false) := by subst e; exact op_in_seq
theorem notInK (K : PySem.W.Frag) (e : X.K = K := by rfl) : OpR X (compareOp .NotIn) (rIn K true) := by subst e; exact op_notIn_seq
theorem anyK (K : PySem.W.Frag) (hc : X.calm = true) (e : X.K = K := by rfl) : CallR X (.builtin "any") (rAny K) := by subst e; exact cr_any hc
theorem allK (K : PySem.W.Frag) (hc : X.calm = true) (e : X.K = K := by rfl) : CallR X (.builtin "all") (rAll K) := by subst e; exact cr_all hc
theorem lenK (K : PySem.W.Frag) (e : X.K = K := by rfl) : CallR X (.builtin "len") (fun xs H Q => ∃ p ys, xs = [.ref p] ∧ (SqL K H p ys ∨ SqT K H p ys) ∧ Q (.int (ys.length : Nat)) H) := by subst e; exact call_len_seq
end
/-- the scope of a comprehension that stands in the text -/
def wBody : Stmt → List Stmt
  | .While _ b _ _ => b
  | .For _ _ b _ _ => b
  | _ => []
def asE : Stmt → Option Expr
  | .Assign _ e _ => some e
  | .Return (some e) _ => some e
  | _ => none
def lcSc : Option Expr → Scope → Scope
  | some (.ListComp _ _ sc _), _ => sc
  | _, d => d
/-- .. as it runs within a def: what it takes from the def's cells -/
def relab (o i : Scope) : Scope := { i with names := i.names.map fun q => if (q.2 == NameKind.free && o.kind == .function && o.names.lookup q.1 == some .cell) then (q.1, NameKind.cell) else (q.1, q.2) }
section
variable {P : Program} {w : World} {K : PySem.W.Frag} {mg : Str → Option Value} {base : Heap} {c : CC}
def spWFloors : Sp := fun vs H Q _ => ∃ (b : Addr) (ps : List (Int × Addr)) (st : FL.HS) (a : HA) (c : CC), vs = [.ref b] ∧ WAt c H a st b ps ∧ st.linked.length ≤ 24 ∧
  ∀ H' p as, Same H H' → LLAt H H' p as (FL.floors st.lies st.linked st.linked) → Q (.ref p) H'
end
end FW

set_option maxHeartbeats 4000000
/-! The law's helpers 22: the rows of known halls. -/
namespace FW
open PySem PySem.Spec PyProof.Rows L2
def cI (r : List Nat) : List Int := r.map fun k : Nat => (k : Int)
def iR (rows : List (List Nat)) : List (List Int) := rows.map cI
structure RAt (H : Hp) (r : Addr) (as : List Addr) (rows : List (List Nat)) : Prop where
  at_ : H r = some (.lst (as.map V.ref))
  tt : LLT H as (iR rows)
theorem RAt.same {H H' : Hp} {r : Addr} {as : List Addr} {rows : List (List Nat)} (h : RAt H r as rows) (s : Same H H') : RAt H' r as rows := ⟨s _ _ h.at_, h.tt.sameM fun b _ u e => s b u e⟩
theorem RAt.len {H : Hp} {r : Addr} {as : List Addr} {rows : List (List Nat)} (h : RAt H r as rows) : as.length = rows.length := by rw [h.tt.len]; unfold iR; rw [List.length_map]
/-- a row more -/
theorem RAt.app {H H0 H' : Hp} {r : Addr} {as : List Addr} {rows : List (List Nat)} (h : RAt H r as rows) (s : Same H H') {a : Addr} {row : List Nat} (ha : H' a = some (lI (cI row))) (hn : H a = none) (hr : H0 r = none) (s0 : Same H0 H) :
    RAt (upd H' r (.lst (as.map V.ref ++ [.ref a]))) r (as ++ [a]) (rows ++ [row]) ∧ Same H0 (upd H' r (.lst (as.map V.ref ++ [.ref a]))) := by
  have ra : a ≠ r := fun z => by rw [z, h.at_] at hn; cases hn
  have kp : ∀ b u, b ≠ r → H' b = some u → (upd H' r (.lst (as.map V.ref ++ [.ref a]))) b = some u := fun b u n e => by rw [upd_ne n]; exact e
  have hr' := s _ _ h.at_
  refine ⟨⟨by rw [upd_same, List.map_append]; rfl, ?_⟩, fun b u e => kp b u (ne_of_none e hr) (s _ _ (s0 _ _ e))⟩
  have e1 : iR (rows ++ [row]) = iR rows ++ [cI row] := by unfold iR; rw [List.map_append]; rfl
  rw [e1]
  refine LLT.snoc (kp a _ ra ha) ((h.tt.sameM fun b _ u e => s b u e).sameM fun b hb u e => ?_)
  by_cases z : b = r
  · exfalso
    obtain ⟨l, hl⟩ := h.tt.is b hb
    rw [z, h.at_] at hl
    have hl : as.map V.ref = l.map V.int := HO.lst.inj (Option.some.inj hl)
    cases as with
    | nil => exact nomatch hb
    | cons x xs => cases l with
      | nil => exact nomatch hl
      | cons y ys => exact nomatch (List.cons.inj hl).1
  · exact kp b u z e
theorem RAt.start {H : Hp} {r : Addr} (h : H r = some (.lst [])) : RAt H r [] [] := ⟨h, trivial⟩
/-- the row, how many ladders, how many floors -/
structure TAt (H H' : Hp) (t : Addr) (rows : List (List Nat)) (W F : Nat) : Prop where
  sm : Same H H'
  ex : ∃ r as, H' t = some (.tup [.ref r, .int (W : Int), .int (F : Int)]) ∧ RAt H' r as rows
theorem rep_if {b : Bool} {x : V} : (List.replicate (if b = true then (1 : Int) else 0).toNat [x]).flatten = if b = true then [x] else [] := by
  cases b <;> rfl
def spBox : Sp := fun vs H Q _ => ∃ a b : Nat, vs = [.int (a : Int), .int (b : Int)] ∧ 1 ≤ a ∧ a ≤ 4 ∧ 1 ≤ b ∧ b ≤ 6 ∧ ∀ H' t, TAt H H' t (FL.boxRows a b) (min a b) (a + b - 1) → Q (.ref t) H'
section
variable {P : Program} {w : World} {K : PySem.W.Frag} {mg : Str → Option Value} {base : Heap} {c : CC}
theorem ok_box (T : Tx K mg c) (zR : mg "range" = none) (zM : mg "min" = none) (D : GD K mg "_law_box" s_w_box) : GOk P w K mg base CX0 "_law_box" ["_law_a", "_law_b"] 1 spBox := by
  have sc : FnScope ["_law_a", "_law_b", "_law_rows", "_law_k"] ["_law_a", "_law_b"] (defScope s_w_box) := ⟨rfl, rfl, rfl, by decide +kernel, rfl, by decide +kernel, by decide +kernel⟩
  refine D.ok sc (fun _ _ _ _ _ _ us hl => match us, hl with | [_, _], _ => rfl) (fun vs H Q E h => ?_) (fun f cdv A outer s H vs Q E hr h => ?_)
  · obtain ⟨a, b, rfl, _⟩ := h; rfl
  · obtain ⟨a, b, rfl, a1, a2, b1, b2, k⟩ := h
    refine' ⟨_, (pss_cons (ps_set (i := 2) sc.nd rfl (Or.inl rfl) (pe_lst pa_nil)) (pss_cons (ps_for PassesOwn.never rfl (pi_range1 (by rfl) zR (pa_cons (pe_op op_mul (pv 0) (pv 1)) pa_nil)) (pg_name (i := 3) sc.nd rfl (Or.inl rfl)) (pss_one (ps_expr (pe_bm PySem.F.plainAttrs_list PySem.F.slot_list_append PySem.F.type_list_append mt_append (pv 2) (pa_cons (pe_op op_cat
          (pe_op op_rep (pe_lst (pa_cons (pe_op op_sub (pv 3) (pv 1)) pa_nil)) (pe_callTy call_int1 (by rfl) T.zInt PyProof.Rows.boot_int (pa_cons (pe_cmpR op_ge (pv 3) (pv 1) (nomark _)) pa_nil)))
          (pe_op op_rep (pe_lst (pa_cons (pe_op op_sub (pv 3) pe_int) pa_nil)) (pe_callTy call_int1 (by rfl) T.zInt PyProof.Rows.boot_int (pa_cons (pe_cmpR op_gt (pe_op op_mod (pv 3) (pv 1)) pe_int (nomark _)) pa_nil)))) pa_nil))))) (pss_one (ps_ret (pe_tup (pa_cons (pv 2) (pa_cons (pe_callB (call_min2 rfl) (by rfl) zM PyProof.Rows.boot_min (pa_cons (pv 0) (pa_cons (pv 1) pa_nil))) (pa_cons (pe_op op_sub (pe_op op_add (pv 0) (pv 1)) pe_int) pa_nil)))))))), ?_⟩
    refine ⟨Nat.zero_le _, fun r hr0 => ?_⟩
    have hab : a * b ≤ 24 := Nat.le_trans (Nat.mul_le_mul a2 b2) (by decide)
    have hab2 : (a : Int) * (b : Int) = ((a * b : Nat) : Int) := by rw [Int.natCast_mul]
    refine ⟨_, rfl, _, rfl, _, _, rfl, rfl, Or.inl ⟨by omega, by omega⟩, ?_⟩
    have t62 : (2 : Int) ^ 62 = 4611686018427387904 := by decide
    have m0 : 0 ≤ (a : Int) * (b : Int) := by rw [hab2]; omega
    have m1 : (a : Int) * (b : Int) ≤ 24 := by rw [hab2]; omega
    refine ⟨(a : Int) * (b : Int), rfl, Int.le_trans (by decide) m0, Int.lt_of_le_of_lt m1 (by decide), ?_⟩
    rw [hab2, Int.toNat_natCast]
    refine for_it (walk_range (lo := 0) (n := a * b)) (fun i σ H2 => ∃ as v3, σ = [some (.int (a : Int)), some (.int (b : Int)), some (.ref r), v3] ∧ RAt H2 r as ((List.range i).map (FL.boxRow b)) ∧ Same H H2)
      ⟨[], _, rfl, .start upd_same, Same.new hr0⟩ (fun _ _ _ _ _ => trivial) ?_ ?_
    · rintro i x σ H2 H2' hi ⟨as, v3, rfl, R, s2⟩ ⟨rfl, rfl⟩
      have hin : i < 24 := Nat.lt_of_lt_of_le hi hab
      refine ⟨_, rfl, Or.inl ⟨rfl, _, SqL.of R.at_⟩, ?_⟩
      refine ⟨_, rfl, _, rfl, _, _, rfl, rfl, (by show 1 ≤ sizeLine; decide), fun l1 hl1 => ?_⟩
      have s3 := Same.new (o := .lst [V.int (0 + (i : Int) - (b : Int))]) hl1
      have h1 : (upd H2' l1 (.lst [V.int (0 + (i : Int) - (b : Int))])) l1 = some (.lst [V.int (0 + (i : Int) - (b : Int))]) := upd_same
      generalize upd H2' l1 (.lst [V.int (0 + (i : Int) - (b : Int))]) = H3 at s3 h1
      refine ⟨_, rfl, _, rfl, _, _, rfl, rfl, Or.inr ⟨_, rfl, ?_⟩⟩
      refine ⟨l1, _, _, rfl, rfl, h1, (by split <;> decide), (by split <;> decide), (by split <;> first | exact (by decide : 1 ≤ sizeLine) | exact Nat.zero_le _), fun l2 hl2 => ?_⟩
      rw [rep_if]
      have s4 := Same.new (o := .lst (if decide ((b : Int) ≤ 0 + (i : Int)) = true then [V.int (0 + (i : Int) - (b : Int))] else [])) hl2
      have h2 : (upd H3 l2 (.lst (if decide ((b : Int) ≤ 0 + (i : Int)) = true then [V.int (0 + (i : Int) - (b : Int))] else []))) l2 = some (.lst (if decide ((b : Int) ≤ 0 + (i : Int)) = true then [V.int (0 + (i : Int) - (b : Int))] else [])) := upd_same
      generalize upd H3 l2 (.lst (if decide ((b : Int) ≤ 0 + (i : Int)) = true then [V.int (0 + (i : Int) - (b : Int))] else [])) = H4 at s4 h2
      refine ⟨_, rfl, _, _, rfl, rfl, (by show 1 ≤ sizeLine; decide), fun l3 hl3 => ?_⟩
      have s5 := Same.new (o := .lst [V.int (0 + (i : Int) - 1)]) hl3
      have h3 : (upd H4 l3 (.lst [V.int (0 + (i : Int) - 1)])) l3 = some (.lst [V.int (0 + (i : Int) - 1)]) := upd_same
      generalize upd H4 l3 (.lst [V.int (0 + (i : Int) - 1)]) = H5 at s5 h3
      refine ⟨_, rfl, _, rfl, _, _, rfl, rfl, (by show (0 : Int) < (b : Int); omega), _, _, rfl, rfl, Or.inr ⟨_, rfl, ?_⟩⟩
      refine ⟨l3, _, _, rfl, rfl, h3, (by split <;> decide), (by split <;> decide), (by split <;> first | exact (by decide : 1 ≤ sizeLine) | exact Nat.zero_le _), fun l4 hl4 => ?_⟩
      rw [rep_if]
      have s6 := Same.new (o := .lst (if decide (0 < (0 + (i : Int)) % (b : Int)) = true then [V.int (0 + (i : Int) - 1)] else [])) hl4
      have h4 : (upd H5 l4 (.lst (if decide (0 < (0 + (i : Int)) % (b : Int)) = true then [V.int (0 + (i : Int) - 1)] else []))) l4 = some (.lst (if decide (0 < (0 + (i : Int)) % (b : Int)) = true then [V.int (0 + (i : Int) - 1)] else [])) := upd_same
      generalize upd H5 l4 (.lst (if decide (0 < (0 + (i : Int)) % (b : Int)) = true then [V.int (0 + (i : Int) - 1)] else [])) = H6 at s6 h4
      have s46 := s5.trans s6
      refine ⟨l2, l4, _, _, rfl, rfl, s46 _ _ h2, h4, (by split <;> split <;> first | exact (by decide : 2 ≤ sizeLine) | exact (by decide : 1 ≤ sizeLine) | exact Nat.zero_le _), fun l5 hl5 => ?_⟩
      have em : (0 + (i : Int)) % (b : Int) = ((i % b : Nat) : Int) := by rw [Int.zero_add, Int.natCast_emod]
      have e2 : ((if decide ((b : Int) ≤ 0 + (i : Int)) = true then [V.int (0 + (i : Int) - (b : Int))] else []) ++ if decide (0 < (0 + (i : Int)) % (b : Int)) = true then [V.int (0 + (i : Int) - 1)] else []) = (cI (FL.boxRow b i)).map V.int := by
        unfold FL.boxRow cI
        rw [List.map_append, List.map_append, em]
        congr 1
        · by_cases q : b ≤ i
          · rw [if_pos q, if_pos (decide_eq_true (by omega : (b : Int) ≤ 0 + (i : Int)))]
            show [V.int _] = [V.int ((i - b : Nat) : Int)]
            rw [show (0 + (i : Int) - (b : Int)) = ((i - b : Nat) : Int) by omega]
          · rw [if_neg q, if_neg (fun z => q (by have := of_decide_eq_true z; omega))]; rfl
        · by_cases q : 0 < i % b
          · have : 0 < i := Nat.pos_of_ne_zero fun z => by rw [z, Nat.zero_mod] at q; exact absurd q (by decide)
            rw [if_pos q, if_pos (decide_eq_true (by omega : (0 : Int) < ((i % b : Nat) : Int)))]
            show [V.int _] = [V.int ((i - 1 : Nat) : Int)]
            rw [show (0 + (i : Int) - 1) = ((i - 1 : Nat) : Int) by omega]
          · rw [if_neg q, if_neg (fun z => q (by have := of_decide_eq_true z; omega))]; rfl
      rw [e2]
      have s7 := Same.new (o := lI (cI (FL.boxRow b i))) hl5
      have s27 := s3.trans (s4.trans (s46.trans s7))
      have h5 : (upd H6 l5 (lI (cI (FL.boxRow b i)))) l5 = some (lI (cI (FL.boxRow b i))) := upd_same
      generalize upd H6 l5 (lI (cI (FL.boxRow b i))) = H7 at s27 h5
      have n5 : H2' l5 = none := back_no (s3.trans (s4.trans s46)) hl5
      refine ⟨r, _, _, rfl, rfl, s27 _ _ R.at_, (by rw [List.length_map, R.len, List.length_map, List.length_range]; exact small1000 (by omega)), ?_⟩
      obtain ⟨R', s'⟩ := R.app s27 h5 n5 hr0 s2
      refine ⟨as ++ [l5], _, rfl, ?_, s'⟩
      rw [List.range_succ, List.map_append]
      exact R'
    · rintro σ H2 ⟨as, v3, rfl, R, s2⟩
      refine ⟨_, rfl, _, rfl, _, rfl, _, _, rfl, _, rfl, _, rfl, _, _, rfl, rfl, _, _, rfl, rfl, (by show 3 ≤ sizeLine; decide), fun t ht => ?_⟩
      have e1 : (if (b : Int) < (a : Int) then (b : Int) else (a : Int)) = ((min a b : Nat) : Int) := by
        split <;> omega
      have e2 : (a : Int) + (b : Int) - 1 = ((a + b - 1 : Nat) : Int) := by omega
      dsimp only
      rw [e1, e2]
      exact k _ t ⟨s2.trans (Same.new ht), r, as, upd_same, R.same (Same.new ht)⟩
end
end FW

set_option maxHeartbeats 4000000
/-! The law's helpers 23: the rows of known halls, further. -/
namespace FW
open PySem PySem.Spec PyProof.Rows L2
section
variable {K : PySem.W.Frag}
theorem lc_rng {wi : TI} {n : Nat} {tt : TT} {te : TE} {j : Nat} {vs : List Nat} {σ : L2.St} {H : Hp} {Q : VK} (p : Nat → Bool) (f : Nat → V)
    (htl : ∀ R : It → Hp → Prop, R (Itr 0 n) H → wi σ H R) (hn : n ≤ 1000) (hw : ∀ x, wipe ((wipe σ vs).set j (some x)) vs = wipe σ vs)
    (ht : ∀ z, z < n → ∀ H1, Same H H1 → ∀ Q' : Bool → Hp → Prop, (∀ H2, Same H1 H2 → Q' (p z) H2) → tt ((wipe σ vs).set j (some (.int (0 + (z : Int))))) H1 Q')
    (he : ∀ z, z < n → p z = true → ∀ H1, Same H H1 → ∀ Q' : VK, (∀ H2, Same H1 H2 → Q' (f z) H2) → te ((wipe σ vs).set j (some (.int (0 + (z : Int))))) H1 Q')
    (k : ∀ D H', H D = none → Same H H' → H' D = some (.lst (((List.range n).filter p).map f)) → Q (.ref D) H') : tLc wi (gName j) tt te vs σ H Q := by
  refine htl _ fun D hD => lc_it (walk_range (lo := 0) (n := n)) (fun i H2 => Same H H2 ∧ H2 D = some (.lst (((List.range i).filter p).map f))) ⟨Same.new hD, upd_same⟩ (fun _ _ _ _ => trivial) (fun i x H2 H2' hi e hy => ?_) (fun H2 e => k D H2 hD e.1 e.2)
  obtain ⟨rfl, rfl⟩ := hy
  obtain ⟨s1, e1⟩ := e
  refine ⟨hw _, ht i hi _ s1 _ fun H3 s3 => ?_⟩
  have e3 := s3 _ _ e1
  cases hp : p i with
  | true =>
    rw [if_pos rfl]
    refine he i hi hp _ (s1.trans s3) _ fun H4 s4 => ⟨_, s4 _ _ e3, ?_, fun x u e => ?_, ?_⟩
    · rw [List.length_map]
      refine small1000 (Nat.le_trans (List.length_filter_le _ _) ?_)
      rw [List.length_range]; omega
    · rw [upd_ne (ne_of_none e hD)]; exact s4 _ _ (s3 _ _ (s1 _ _ e))
    · rw [upd_same, List.range_succ, List.filter_append, List.map_append, List.filter_cons, if_pos hp]; rfl
  | false =>
    rw [if_neg Bool.false_ne_true]
    refine ⟨s1.trans s3, ?_⟩
    rw [List.range_succ, List.filter_append, List.filter_cons, if_neg (by rw [hp]; exact Bool.false_ne_true), List.filter_nil, List.append_nil]
    exact e3
theorem lc_rngR {wi : TI} {n : Nat} {te : TE} {j : Nat} {vs : List Nat} {σ : L2.St} {H : Hp} {Q : VK} (row : Nat → List Nat)
    (htl : ∀ R : It → Hp → Prop, R (Itr 0 n) H → wi σ H R) (hn : n ≤ 1000) (hw : ∀ x, wipe ((wipe σ vs).set j (some x)) vs = wipe σ vs)
    (he : ∀ z, z < n → ∀ H1, Same H H1 → ∀ Q' : VK, (∀ H2 a, Same H1 H2 → H1 a = none → H2 a = some (lI (cI (row z))) → Q' (.ref a) H2) → te ((wipe σ vs).set j (some (.int (0 + (z : Int))))) H1 Q')
    (k : ∀ D H' as, H D = none → Same H H' → RAt H' D as ((List.range n).map row) → Q (.ref D) H') : tLc wi (gName j) tYes te vs σ H Q := by
  refine htl _ fun D hD => lc_it (walk_range (lo := 0) (n := n)) (fun i H2 => Same H H2 ∧ ∃ as, RAt H2 D as ((List.range i).map row)) ⟨Same.new hD, [], .start upd_same⟩ (fun _ _ _ _ => trivial) (fun i x H2 H2' hi e hy => ?_) (fun H2 e => ?_)
  · obtain ⟨rfl, rfl⟩ := hy
    obtain ⟨s1, as, R⟩ := e
    refine ⟨hw _, ?_⟩
    dsimp only [tYes]
    rw [if_pos rfl]
    refine he i hi _ s1 _ fun H3 a s3 na ha => ⟨_, s3 _ _ R.at_, (by rw [List.length_map, R.len, List.length_map, List.length_range]; exact small1000 (by omega)), ?_⟩
    obtain ⟨R', s'⟩ := R.app s3 ha na hD s1
    refine ⟨s', as ++ [a], ?_⟩
    rw [List.range_succ, List.map_append]
    exact R'
  · obtain ⟨s1, as, R⟩ := e
    exact k D H2 as hD s1 R
end
theorem maxN_fold : ∀ (l : List Nat) (m : Nat), (∀ x ∈ l, x ≤ l.foldl max m) ∧ m ≤ l.foldl max m ∧ (l.foldl max m = m ∨ l.foldl max m ∈ l)
  | [], m => ⟨fun x h => (nomatch h), Nat.le_refl _, Or.inl rfl⟩
  | a :: r, m => by
    obtain ⟨h1, h2, h3⟩ := maxN_fold r (max m a)
    rw [List.foldl_cons]
    refine ⟨fun x hx => ?_, by omega, ?_⟩
    · rcases List.mem_cons.mp hx with rfl | hx
      · omega
      · exact h1 x hx
    · rcases h3 with h | h
      · rw [h]
        by_cases q : m ≤ a
        · right; rw [Nat.max_eq_right q]; exact List.mem_cons_self
        · left; omega
      · exact Or.inr (List.mem_cons_of_mem _ h)
theorem maxN_is {l : List Nat} {m : Int} (h : m ∈ cI l) (u : ∀ y ∈ cI l, y ≤ m) : m = ((FL.maxN l : Nat) : Int) := by
  obtain ⟨h1, h2, h3⟩ := maxN_fold l 0
  obtain ⟨k, hk, rfl⟩ := List.mem_map.mp h
  have hk := h1 k hk
  unfold FL.maxN
  rcases h3 with h | h
  · omega
  · have := u _ (List.mem_map.mpr ⟨_, h, rfl⟩)
    omega
def spSizes (K : PySem.W.Frag) (rows : List Nat → List (List Nat)) (W F : List Nat → Nat) : Sp := fun vs H Q _ => ∃ (q : Addr) (sizes : List Nat), vs = [.ref q] ∧ SqL K H q ((cI sizes).map V.int) ∧ 1 ≤ sizes.length ∧ sizes.length ≤ 4 ∧ (∀ x ∈ sizes, 1 ≤ x ∧ x ≤ 5) ∧
  ∀ H' t, TAt H H' t (rows sizes) (W sizes) (F sizes) → Q (.ref t) H'
theorem itemN {l : List Nat} {i : Nat} {x : V} (h : ((cI l).map V.int)[i]? = some x) : ∃ z : Nat, x = V.int (z : Int) ∧ l[i]? = some z := by
  obtain ⟨y, rfl, hy⟩ := itemI h
  unfold cI at hy
  rw [List.getElem?_map] at hy
  obtain ⟨z, e, rfl⟩ := Option.map_eq_some_iff.mp hy
  exact ⟨z, rfl, e⟩
theorem cI_len (l : List Nat) : ((cI l).map V.int).length = l.length := by unfold cI; rw [List.length_map, List.length_map]
theorem rgV_cI (a n : Nat) : rgV (a : Int) ((a + n : Nat) : Int) = (cI ((List.range n).map fun k => a + k)).map V.int := by
  unfold rgV cI
  rw [List.map_map, List.map_map, show (((a + n : Nat) : Int) - (a : Int)).toNat = n by omega]
  refine List.map_congr_left fun k _ => ?_
  show V.int ((a : Int) + (k : Int)) = V.int ((a + k : Nat) : Int)
  rw [Int.natCast_add]
theorem foldl_take {α β : Type} (f : β → α → β) (b : β) (l : List α) {i : Nat} {x : α} (h : l[i]? = some x) : (l.take (i + 1)).foldl f b = f ((l.take i).foldl f b) x := by
  rw [List.take_add_one, h]
  show (l.take i ++ [x]).foldl f b = _
  rw [List.foldl_append]; rfl
section
variable {P : Program} {w : World} {K : PySem.W.Frag} {mg : Str → Option Value} {base : Heap} {c : CC}
theorem ok_layers (T : Tx K mg c) (zR : mg "range" = none) (zM : mg "max" = none) (D : GD K mg "_law_layers" s_w_layers) : GOk P w K mg base CX0 "_law_layers" ["_law_sizes"] 1 (spSizes K FL.layRows FL.maxN List.length) := by
  have sc : FnScope ["_law_sizes", "_law_rows", "_law_under", "_law_size", "_law_first", "_law_k"] ["_law_sizes"] (defScope s_w_layers) := ⟨rfl, rfl, rfl, by decide +kernel, rfl, by decide +kernel, by decide +kernel⟩
  refine D.ok sc (fun _ _ _ _ _ _ us hl => match us, hl with | [_], _ => rfl) (fun vs H Q E h => ?_) (fun f cdv A outer s H vs Q E hr h => ?_)
  · obtain ⟨q, sizes, rfl, _⟩ := h; rfl
  · obtain ⟨q, sizes, rfl, hq, l1, l4, hx, k⟩ := h
    refine' ⟨_, (pss_cons (ps_set (i := 1) sc.nd rfl (Or.inl rfl) (pe_lst pa_nil)) (pss_cons (ps_set (i := 2) sc.nd rfl (Or.inl rfl) (pe_lst pa_nil)) (pss_cons (ps_for PassesOwn.never rfl (pi_list (pv 0)) (pg_name (i := 3) sc.nd rfl (Or.inl rfl)) (pss_cons (ps_set (i := 4) sc.nd rfl (Or.inl rfl) ((pe_callB call_len_seq (by rfl) T.zLen PySem.boot_len (pa_cons (pv 1) pa_nil)))) (pss_cons (ps_for PassesOwn.never rfl (pi_range1 (by rfl) zR (pa_cons (pv 3) pa_nil)) (pg_name (i := 5) sc.nd rfl (Or.inl rfl)) (pss_one (ps_expr (pe_bm PySem.F.plainAttrs_list PySem.F.slot_list_append PySem.F.type_list_append mt_append (pv 1) (pa_cons ((pe_callTy call_list_of (by rfl) T.zList PyProof.Rows.boot_list (pa_cons (pv 2) pa_nil))) pa_nil))))) (pss_one (ps_set (i := 2) sc.nd rfl (Or.inl rfl) (pe_listRg rfl (by rfl) T.zList (prg_2 (by rfl) zR (pv 4) (pe_callB call_len_seq (by rfl) T.zLen PySem.boot_len (pa_cons (pv 1) pa_nil))))))))) (pss_one (ps_ret (pe_tup (pa_cons (pv 1) (pa_cons (pe_callB (cr_max rfl) (by rfl) zM PyProof.Rows.boot_max (pa_cons (pv 0) pa_nil)) (pa_cons ((pe_callB call_len_seq (by rfl) T.zLen PySem.boot_len (pa_cons (pv 0) pa_nil))) pa_nil))))))))), ?_⟩
    refine ⟨Nat.zero_le _, fun r hr0 => ?_⟩
    have s1 := Same.new (o := .lst []) hr0
    have r1 : (upd H r (.lst [])) r = some (.lst []) := upd_same
    generalize upd H r (.lst []) = H1 at s1 r1
    refine ⟨Nat.zero_le _, fun u0 hu0 => ?_⟩
    have s2 := s1.trans (Same.new (o := .lst []) hu0)
    have u2 : (upd H1 u0 (.lst [])) u0 = some (lI (cI [])) := upd_same
    have r2 := (Same.new (o := .lst []) hu0) _ _ r1
    have nur : u0 ≠ r := fun z => by rw [z, r1] at hu0; cases hu0
    generalize upd H1 u0 (.lst []) = H2 at s2 u2 r2
    refine ⟨_, rfl, q, rfl, ⟨_, s2.seq hq⟩, for_list (K := K) (a := q) (xs := (cI sizes).map V.int)
      (fun i σ H3 => ∃ as u v3 v4 v5, σ = [some (.ref q), some (.ref r), some (.ref u), v3, v4, v5] ∧ RAt H3 r as ((sizes.take i).foldl FL.layStep ([], [])).1 ∧ H3 u = some (lI (cI ((sizes.take i).foldl FL.layStep ([], [])).2)) ∧ Same H H3 ∧ ((sizes.take i).foldl FL.layStep ([], [])).1.length ≤ 5 * i ∧ u ≠ r)
      ⟨[], u0, _, _, _, rfl, .start r2, u2, s2, Nat.le_refl _, nur⟩ (fun i σ H3 _ ⟨_, _, _, _, _, _, _, _, s3, _⟩ => s3.seq hq) ?_ ?_⟩
    · rintro i x σ H3 hi ⟨as, u, v3, v4, v5, rfl, R, hu, s3, hle, nur⟩
      obtain ⟨z, rfl, hz⟩ := itemN hi
      have hz5 := hx z (List.mem_of_getElem? hz)
      have hi4 : i < 4 := Nat.lt_of_lt_of_le (List.getElem?_eq_some_iff.mp hz).1 l4
      rw [foldl_take FL.layStep _ _ hz]
      generalize (sizes.take i).foldl FL.layStep ([], []) = st at R hu hle
      have eas : (as.map V.ref).length = st.1.length := by rw [List.length_map, R.len]
      refine ⟨_, rfl, r, _, rfl, Or.inl (SqL.of R.at_), ?_⟩
      rw [eas]
      refine ⟨_, rfl, (z : Int), rfl, by omega, by omega, ?_⟩
      rw [Int.toNat_natCast]
      refine for_it (walk_range (lo := 0) (n := z)) (fun j σ H4 => ∃ as v5, σ = [some (.ref q), some (.ref r), some (.ref u), some (.int (z : Int)), some (.int (st.1.length : Int)), v5] ∧ RAt H4 r as (st.1 ++ List.replicate j st.2) ∧ H4 u = some (lI (cI st.2)) ∧ Same H H4)
        ⟨as, _, rfl, by rw [List.replicate_zero, List.append_nil]; exact R, hu, s3⟩ (fun _ _ _ _ _ => trivial) ?_ ?_
      · rintro j x σ H4 H4' hj ⟨as, v5, rfl, R4, hu4, s4⟩ ⟨rfl, rfl⟩
        refine ⟨_, rfl, Or.inl ⟨rfl, _, SqL.of R4.at_⟩, ?_⟩
        refine ⟨_, rfl, u, _, rfl, Or.inl (SqL.of hu4), fun l hl => ?_⟩
        have s5 := Same.new (o := lI (cI st.2)) hl
        have h5 : (upd H4' l (lI (cI st.2))) l = some (lI (cI st.2)) := upd_same
        generalize upd H4' l (lI (cI st.2)) = H5 at s5 h5
        refine ⟨r, _, _, rfl, rfl, s5 _ _ R4.at_, (by rw [List.length_map, R4.len, List.length_append, List.length_replicate]; exact small1000 (by omega)), ?_⟩
        obtain ⟨R', s'⟩ := R4.app s5 h5 hl hr0 s4
        refine ⟨as ++ [l], _, rfl, ?_, ?_, s'⟩
        · rw [List.replicate_succ', ← List.append_assoc]; exact R'
        · rw [upd_ne nur]; exact s5 _ _ hu4
      · rintro σ H4 ⟨as, v5, rfl, R4, hu4, s4⟩
        have e4 : (as.map V.ref).length = st.1.length + z := by rw [List.length_map, R4.len, List.length_append, List.length_replicate]
        refine ⟨_, rfl, _, rfl, r, _, rfl, Or.inl (SqL.of R4.at_), ?_⟩
        rw [e4]
        refine ⟨_, _, rfl, rfl, .of_le (by omega) (by omega) (by omega) (by omega), fun u' hu' => ?_⟩
        rw [rgV_cI]
        have s5 := Same.new (o := .lst ((cI ((List.range z).map fun k => st.1.length + k)).map V.int)) hu'
        refine ⟨as, u', _, _, _, rfl, R4.same s5, upd_same, s4.trans s5, ?_, fun e => by rw [e, R4.at_] at hu'; cases hu'⟩
        show (st.1 ++ List.replicate z st.2).length ≤ _
        rw [List.length_append, List.length_replicate]; omega
    · rintro σ H3 ⟨as, u, v3, v4, v5, rfl, R, hu, s3, hle, nur⟩
      rw [cI_len, List.take_length] at R
      refine ⟨_, rfl, _, rfl, q, cI sizes, rfl, s3.seq hq, (by unfold cI; rw [List.length_map]; omega), fun m hm hu => ?_⟩
      rw [maxN_is hm hu]
      refine ⟨_, rfl, q, _, rfl, Or.inl (s3.seq hq), (by show 3 ≤ sizeLine; decide), fun t ht => ?_⟩
      rw [cI_len]
      exact k _ t ⟨s3.trans (Same.new ht), r, as, upd_same, R.same (Same.new ht)⟩
theorem ok_side (T : Tx K mg c) (zR : mg "range" = none) (zM : mg "max" = none) (D : GD K mg "_law_side" s_w_side) : GOk P w K mg base CX0 "_law_side" ["_law_sizes"] 1 (spSizes K FL.sideRows List.length FL.maxN) := by
  have sc : FnScope ["_law_sizes", "_law_rows", "_law_size", "_law_k"] ["_law_sizes"] (defScope s_w_side) := ⟨rfl, rfl, rfl, by decide +kernel, rfl, by decide +kernel, by decide +kernel⟩
  refine D.ok sc (fun _ _ _ _ _ _ us hl => match us, hl with | [_], _ => rfl) (fun vs H Q E h => ?_) (fun f cdv A outer s H vs Q E hr h => ?_)
  · obtain ⟨q, sizes, rfl, _⟩ := h; rfl
  · obtain ⟨q, sizes, rfl, hq, l1, l4, hx, k⟩ := h
    refine' ⟨_, (pss_cons (ps_set (i := 1) sc.nd rfl (Or.inl rfl) (pe_lst pa_nil)) (pss_cons (ps_for PassesOwn.never rfl (pi_list (pv 0)) (pg_name (i := 2) sc.nd rfl (Or.inl rfl)) (pss_one (ps_for PassesOwn.never rfl (pi_range1 (by rfl) zR (pa_cons (pv 2) pa_nil)) (pg_name (i := 3) sc.nd rfl (Or.inl rfl)) (pss_one (ps_expr (pe_bm PySem.F.plainAttrs_list PySem.F.slot_list_append PySem.F.type_list_append mt_append (pv 1) (pa_cons (pe_op op_rep (pe_lst (pa_cons (pe_op op_sub (pe_callB call_len_seq (by rfl) T.zLen PySem.boot_len (pa_cons (pv 1) pa_nil)) pe_int) pa_nil)) (pe_callTy call_int1 (by rfl) T.zInt PyProof.Rows.boot_int (pa_cons (pe_cmpR op_gt (pv 3) pe_int (nomark _)) pa_nil))) pa_nil))))))) (pss_one (ps_ret (pe_tup (pa_cons (pv 1) (pa_cons ((pe_callB call_len_seq (by rfl) T.zLen PySem.boot_len (pa_cons (pv 0) pa_nil))) (pa_cons (pe_callB (cr_max rfl) (by rfl) zM PyProof.Rows.boot_max (pa_cons (pv 0) pa_nil)) pa_nil)))))))), ?_⟩
    refine ⟨Nat.zero_le _, fun r hr0 => ?_⟩
    have s1 := Same.new (o := .lst []) hr0
    have r1 : (upd H r (.lst [])) r = some (.lst []) := upd_same
    generalize upd H r (.lst []) = H1 at s1 r1
    refine ⟨_, rfl, q, rfl, ⟨_, s1.seq hq⟩, for_list (K := K) (a := q) (xs := (cI sizes).map V.int)
      (fun i σ H3 => ∃ as v2 v3, σ = [some (.ref q), some (.ref r), v2, v3] ∧ RAt H3 r as ((sizes.take i).foldl FL.sideStep []) ∧ Same H H3 ∧ ((sizes.take i).foldl FL.sideStep []).length ≤ 5 * i)
      ⟨[], _, _, rfl, .start r1, s1, Nat.le_refl _⟩ (fun i σ H3 _ ⟨_, _, _, _, _, s3, _⟩ => s3.seq hq) ?_ ?_⟩
    · rintro i x σ H3 hi ⟨as, v2, v3, rfl, R, s3, hle⟩
      obtain ⟨z, rfl, hz⟩ := itemN hi
      have hz5 := hx z (List.mem_of_getElem? hz)
      have hi4 : i < 4 := Nat.lt_of_lt_of_le (List.getElem?_eq_some_iff.mp hz).1 l4
      rw [foldl_take FL.sideStep _ _ hz]
      generalize (sizes.take i).foldl FL.sideStep [] = st at R hle
      refine ⟨_, rfl, (z : Int), rfl, by omega, by omega, ?_⟩
      rw [Int.toNat_natCast]
      refine for_it (walk_range (lo := 0) (n := z)) (fun j σ H4 => ∃ as v3, σ = [some (.ref q), some (.ref r), some (.int (z : Int)), v3] ∧ RAt H4 r as (st ++ (List.range j).map fun k => if 0 < k then [st.length + k - 1] else []) ∧ Same H H4)
        ⟨as, _, rfl, by rw [List.range_zero, List.map_nil, List.append_nil]; exact R, s3⟩ (fun _ _ _ _ _ => trivial) ?_ ?_
      · rintro j x σ H4 H4' hj ⟨as, v3, rfl, R4, s4⟩ ⟨rfl, rfl⟩
        have e4 : (as.map V.ref).length = st.length + j := by rw [List.length_map, R4.len, List.length_append, List.length_map, List.length_range]
        refine ⟨_, rfl, Or.inl ⟨rfl, _, SqL.of R4.at_⟩, ?_⟩
        refine ⟨_, rfl, r, _, rfl, Or.inl (SqL.of R4.at_), ?_⟩
        rw [e4]
        refine ⟨_, _, rfl, rfl, (by show 1 ≤ sizeLine; decide), fun l1 hl1 => ?_⟩
        have s5 := Same.new (o := .lst [V.int (((st.length + j : Nat) : Int) - 1)]) hl1
        have h5 : (upd H4' l1 (.lst [V.int (((st.length + j : Nat) : Int) - 1)])) l1 = some (.lst [V.int (((st.length + j : Nat) : Int) - 1)]) := upd_same
        generalize upd H4' l1 (.lst [V.int (((st.length + j : Nat) : Int) - 1)]) = H5 at s5 h5
        refine ⟨_, rfl, _, _, rfl, rfl, Or.inr ⟨_, rfl, ?_⟩⟩
        refine ⟨l1, _, _, rfl, rfl, h5, (by split <;> decide), (by split <;> decide), (by split <;> first | exact (by decide : 1 ≤ sizeLine) | exact Nat.zero_le _), fun l2 hl2 => ?_⟩
        rw [rep_if]
        have e2 : (if decide (0 < 0 + (j : Int)) = true then [V.int (((st.length + j : Nat) : Int) - 1)] else []) = (cI (if 0 < j then [st.length + j - 1] else [])).map V.int := by
          by_cases q : 0 < j
          · rw [if_pos q, if_pos (decide_eq_true (by omega : (0 : Int) < 0 + (j : Int)))]
            show [V.int _] = [V.int ((st.length + j - 1 : Nat) : Int)]
            rw [show (((st.length + j : Nat) : Int) - 1) = ((st.length + j - 1 : Nat) : Int) by omega]
          · rw [if_neg q, if_neg (fun z => q (by have := of_decide_eq_true z; omega))]; rfl
        rw [e2]
        have s6 := s5.trans (Same.new (o := lI (cI (if 0 < j then [st.length + j - 1] else []))) hl2)
        have h6 : (upd H5 l2 (lI (cI (if 0 < j then [st.length + j - 1] else [])))) l2 = some (lI (cI (if 0 < j then [st.length + j - 1] else []))) := upd_same
        generalize upd H5 l2 (lI (cI (if 0 < j then [st.length + j - 1] else []))) = H6 at s6 h6
        refine ⟨r, _, _, rfl, rfl, s6 _ _ R4.at_, (by rw [e4]; exact small1000 (by omega)), ?_⟩
        obtain ⟨R', s'⟩ := R4.app s6 h6 (back_no s5 hl2) hr0 s4
        refine ⟨as ++ [l2], _, rfl, ?_, s'⟩
        rw [List.range_succ, List.map_append, ← List.append_assoc]
        exact R'
      · rintro σ H4 ⟨as, v3, rfl, R4, s4⟩
        refine ⟨as, _, _, rfl, R4, s4, ?_⟩
        show (st ++ _).length ≤ _
        rw [List.length_append, List.length_map, List.length_range]; omega
    · rintro σ H3 ⟨as, v2, v3, rfl, R, s3, hle⟩
      rw [cI_len, List.take_length] at R
      refine ⟨_, rfl, _, rfl, q, _, rfl, Or.inl (s3.seq hq), _, rfl, q, cI sizes, rfl, s3.seq hq, (by unfold cI; rw [List.length_map]; omega), fun m hm hu => ?_⟩
      rw [maxN_is hm hu, cI_len]
      refine ⟨(by show 3 ≤ sizeLine; decide), fun t ht => ?_⟩
      exact k _ t ⟨s3.trans (Same.new ht), r, as, upd_same, R.same (Same.new ht)⟩
def spCrown : Sp := fun vs H Q _ => ∃ n : Nat, vs = [.int (n : Int)] ∧ 2 ≤ n ∧ n ≤ 12 ∧ ∀ H' t, TAt H H' t (FL.crownRows n) n 2 → Q (.ref t) H'
theorem ok_crown (T : Tx K mg c) (zR : mg "range" = none) (D : GD K mg "_law_crown" s_w_crown) : GOk P w K mg base CX0 "_law_crown" ["_law_n"] 1 spCrown := by
  have sc : FnScope ["_law_n", "_law_rows", "_law_k", "_law_one"] ["_law_n"] (defScope s_w_crown) := ⟨rfl, rfl, rfl, by decide +kernel, rfl, by decide +kernel, by decide +kernel⟩
  refine D.ok sc (fun _ _ _ _ _ _ us hl => match us, hl with | [_], _ => rfl) (fun vs H Q E h => ?_) (fun f cdv A outer s H vs Q E hr h => ?_)
  · obtain ⟨n, rfl, _⟩ := h; rfl
  · obtain ⟨n, rfl, n2, n12, k⟩ := h
    refine' ⟨_, (pss_cons (ps_setLc (i := 1) (own := [("_law_k", 2)]) rfl sc.nd rfl rfl (sw_true rfl rfl rfl (by decide +kernel)) (pi_range1 (by rfl) zR (pa_cons (pv 0) pa_nil)) (blkOk_by (own := [("_law_k", 2)]) (N := ["_law_n", "_law_rows", "_law_k", "_law_one"]) (sc := defScope s_w_crown) (by decide +kernel)) (fun _ _ _ _ _ => pg_name (i := 2) sc.nd rfl (Or.inl rfl)) (fun _ _ _ _ _ => pts_nil) (fun _ _ _ _ _ => pe_lst pa_nil)) (pss_cons (ps_for PassesOwn.never rfl (pi_range1 (by rfl) zR (pa_cons (pv 0) pa_nil)) (pg_name (i := 2) sc.nd rfl (Or.inr rfl)) (pss_one (ps_expr (pe_bm PySem.F.plainAttrs_list PySem.F.slot_list_append PySem.F.type_list_append mt_append (pv 1) (pa_cons (pe_lc (own := [("_law_one", 3)]) (g := gName 3) rfl sc.nd (pi_range1 (by rfl) zR (pa_cons (pv 0) pa_nil)) (blkOk_by (own := [("_law_one", 3)]) (N := ["_law_n", "_law_rows", "_law_k", "_law_one"]) (sc := defScope s_w_crown) (by decide +kernel)) (fun _ _ _ _ _ => pg_name (i := 3) sc.nd rfl (Or.inl rfl)) (fun _ _ _ _ _ => pts_one (pt_cmpR op_ne (pv 3) (pv 2) (nomark _))) (fun _ _ _ _ _ => pv 3)) pa_nil))))) (pss_one (ps_ret (pe_tup (pa_cons (pv 1) (pa_cons (pv 0) (pa_cons (pe_int) pa_nil)))))))), ?_⟩
    have rg : ∀ (H1 : Hp) (σ : L2.St) (R : It → Hp → Prop), σ[0]? = some (some (.int (n : Int))) → R (Itr 0 n) H1 → iRng1 (tCons (tVar 0) tNil) σ H1 R := fun H1 σ R e q => ⟨_, e, (n : Int), rfl, by omega, by omega, by rw [Int.toNat_natCast]; exact q⟩
    dsimp only [tSeq]
    refine lc_rngR (fun _ => []) (fun R q => rg _ _ R rfl q) (by omega) (fun x => by rfl) (fun z hz H1 s1 Q' qq => ⟨Nat.zero_le _, fun a ha => qq _ a (Same.new ha) ha upd_same⟩) fun r H1 as hr0 s1 R => ?_
    refine ⟨_, rfl, (n : Int), rfl, by omega, by omega, ?_⟩
    rw [Int.toNat_natCast]
    refine for_it (walk_range (lo := 0) (n := n)) (fun j σ H4 => ∃ as v2 v3, σ = [some (.int (n : Int)), some (.ref r), v2, v3] ∧ RAt H4 r as ((List.range n).map (fun _ => []) ++ (List.range j).map fun k => (List.range n).filter fun l => decide (l ≠ k)) ∧ Same H H4)
      ⟨as, _, _, rfl, by rw [List.range_zero, List.map_nil, List.append_nil]; exact R, s1⟩ (fun _ _ _ _ _ => trivial) ?_ ?_
    · rintro j x σ H4 H4' hj ⟨as, v2, v3, rfl, R4, s4⟩ ⟨rfl, rfl⟩
      refine ⟨_, rfl, Or.inl ⟨rfl, _, SqL.of R4.at_⟩, ?_⟩
      dsimp only [tCons]
      refine lc_rng (fun l => decide (l ≠ j)) (fun l => .int (l : Int)) (fun R q => rg _ _ R rfl q) (by omega) (fun x => by rfl) (fun z hz H5 s5 Q' qq => ?_) (fun z hz hp H5 s5 Q' qq => ⟨_, rfl, by rw [Int.zero_add]; exact qq H5 Same.rfl⟩) fun l H5 hl s5 h5 => ?_
      · refine ⟨_, rfl, _, rfl, rfl, _, rfl, ?_⟩
        rw [dec_ne_int]
        have e : decide (0 + (z : Int) ≠ 0 + (j : Int)) = decide (z ≠ j) := by
          by_cases q : z = j
          · subst q; simp
          · rw [decide_eq_true q, decide_eq_true (by omega)]
        rw [e]
        exact qq H5 Same.rfl
      · have h5 : H5 l = some (lI (cI ((List.range n).filter fun l => decide (l ≠ j)))) := by rw [h5]; show _ = some (HO.lst ((cI _).map V.int)); unfold cI; rw [List.map_map]; rfl
        refine ⟨r, _, _, rfl, rfl, s5 _ _ R4.at_, (by rw [List.length_map, R4.len, List.length_append, List.length_map, List.length_map, List.length_range, List.length_range]; exact small1000 (by omega)), ?_⟩
        obtain ⟨R', s'⟩ := R4.app s5 h5 hl hr0 s4
        refine ⟨as ++ [l], _, _, rfl, ?_, s'⟩
        rw [List.range_succ, List.map_append, ← List.append_assoc]
        exact R'
    · rintro σ H4 ⟨as, v2, v3, rfl, R4, s4⟩
      refine ⟨_, rfl, _, rfl, (by show 3 ≤ sizeLine; decide), fun t ht => ?_⟩
      exact k _ t ⟨s4.trans (Same.new ht), r, as, upd_same, R4.same (Same.new ht)⟩
end
end FW

set_option maxHeartbeats 8000000
/-! The law's helpers 24: put in, what is beneath first. -/
namespace FW
open PySem PySem.Spec PyProof.Rows L2
/-- what may go in now -/
def fitP (rows : List (List Nat)) (nm : List (Int × Int)) (k : Nat) : Bool := !(FL.aget nm (k : Int)).isSome && (rows.getD k []).all fun l => (FL.aget nm (l : Int)).isSome
theorem fit_some {rows : List (List Nat)} {st : FL.HS} {nm : List (Int × Int)} (P : FL.PutIn rows st nm) (low : ∀ k, k < rows.length → ∀ z ∈ rows.getD k [], z < k) (h : nm.length < rows.length) : (List.range rows.length).filter (fitP rows nm) ≠ [] := by
  intro e
  have no : ∀ k, k < rows.length → fitP rows nm k = false := fun k hk => by
    cases q : fitP rows nm k with
    | false => rfl
    | true => exact nomatch (e ▸ List.mem_filter.mpr ⟨List.mem_range.mpr hk, q⟩ : k ∈ ([] : List Nat))
  have all : ∀ k, k < rows.length → (FL.aget nm (k : Int)).isSome = true := by
    intro k
    induction k using Nat.strongRecOn with
    | ind k ih =>
      intro hk
      have h1 := no k hk
      unfold fitP at h1
      cases q : (FL.aget nm (k : Int)).isSome with
      | true => rfl
      | false =>
        rw [q] at h1
        have h2 : ((rows.getD k []).all fun l => (FL.aget nm (l : Int)).isSome) = true := List.all_eq_true.mpr fun z hz => by
          have := low k hk z hz
          exact ih z this (by omega)
        rw [h2] at h1; exact nomatch h1
  have := FL.nodup_len_le (l := (List.range rows.length).map fun j : Nat => (j : Int)) (m := nm.map (·.1)) (List.pairwise_map.mpr (List.Pairwise.imp (fun {a b} (ne : a ≠ b) q => ne (Int.ofNat.inj q)) List.nodup_range)) fun x hx => by
    obtain ⟨k, hk, rfl⟩ := List.mem_map.mp hx
    exact FL.aget_isSome_iff.mp (all k (List.mem_range.mp hk))
  rw [List.length_map, List.length_map, List.length_range] at this
  omega
theorem RAt.get {H : Hp} {r : Addr} {as : List Addr} {rows : List (List Nat)} (h : RAt H r as rows) {k : Nat} (hk : k < rows.length) : ∃ a, as[k]? = some a ∧ a ∈ as ∧ H a = some (lI (cI (rows.getD k []))) := by
  have hl : k < as.length := by rw [h.len]; exact hk
  refine ⟨as[k], List.getElem?_eq_getElem hl, List.getElem_mem _, ?_⟩
  obtain ⟨l, e1, e2⟩ := h.tt.get (List.getElem?_eq_getElem hl)
  have e3 : (iR rows)[k]? = some (cI (rows.getD k [])) := by
    unfold iR
    rw [List.getElem?_map, List.getElem?_eq_getElem hk, List.getD_eq_getElem?_getD, List.getElem?_eq_getElem hk]; rfl
  rw [e3] at e1
  cases e1
  exact e2
theorem cI_map (l : List Nat) : (cI l).map V.int = l.map fun k : Nat => V.int (k : Int) := by
  unfold cI; rw [List.map_map]; rfl
theorem row_len {row : List Nat} {n : Nat} (nd : row.Nodup) (h : ∀ z ∈ row, z < n) : row.length ≤ n := by
  have := FL.nodup_len_le nd (m := List.range n) fun x hx => List.mem_range.mpr (h x hx)
  rwa [List.length_range] at this
section
variable {P : Program} {w : World} {K : PySem.W.Frag} {mg : Str → Option Value} {base : Heap} {c : CC}
structure PPre (c : CC) (K : PySem.W.Frag) (H : Hp) (a : HA) (r : Addr) (as : List Addr) (rows : List (List Nat)) (q : Addr) (ns : List Int) : Prop where
  hall : HallAt c H a FL.HS.empty
  R : RAt H r as rows
  hq : SqL K H q (ns.map V.int)
  hn : ns.length ≤ 63
  low : ∀ k, k < rows.length → ∀ z ∈ rows.getD k [], z < k
  nd : ∀ k, k < rows.length → (rows.getD k []).Nodup
  small : rows.length ≤ 24
  nr : r ∉ a.fp
  na : ∀ x ∈ as, x ∉ a.fp
  kq : ∀ H', (∀ x u, x ∉ a.fp → H x = some u → H' x = some u) → SqL K H' q (ns.map V.int)
def spPutIn (c : CC) (K : PySem.W.Frag) : Sp := fun vs H Q _ => ∃ (a : HA) (r : Addr) (as : List Addr) (rows : List (List Nat)) (q : Addr) (ns : List Int), vs = [.ref a.h, .ref r, .ref q] ∧ PPre c K H a r as rows q ns ∧
  ∀ H' a' st nm, HallAt c H' a' st → FL.PutIn rows st nm → nm.length = rows.length → a'.h = a.h → (∀ x u, x ∉ a.fp → H x = some u → H' x = some u) → (∀ x ∈ a'.fp, x ∈ a.fp ∨ H x = none) → Q .non H'
abbrev scPi : Scope := relab (defScope s_w_put_in) <| lcSc (((wBody ((defBody s_w_put_in).getD 2 (.Pass ⟨0, 0, 0, 0⟩)))[0]?).bind asE) (defScope s_w_put_in)
theorem ok_putin (T : Tx K mg c) (zR : mg "range" = none) (zA : mg "all" = none) (D : GD K mg "_law_put_in" s_w_put_in) (MP : MOk P w K mg base CX0 c.H "put" ["self", "some"] 29 (spH_put c)) (GM : GOk P w K mg base CX0 "_law_mixed" ["_law_cell", "_law_k"] 1 spMixed) :
    GOk P w K mg base CX0 "_law_put_in" ["_law_hall", "_law_rows", "_law_cells"] 30 (spPutIn c K) := by
  obtain ⟨fPu, fdPu, mPu, bPu, FPu⟩ := MP
  obtain ⟨f1, fd1, g1, k1, b1, F1⟩ := GM
  have sc : FnScope ["_law_hall", "_law_rows", "_law_cells", "_law_numbers", "_law_step", "_law_fits", "_law_k", "_law_low", "_law_cell", "_law_one"] ["_law_hall", "_law_rows", "_law_cells"] (defScope s_w_put_in) := ⟨rfl, rfl, rfl, by decide +kernel, rfl, by decide +kernel, by decide +kernel⟩
  refine D.ok sc (fun _ _ _ _ _ _ us hl => match us, hl with | [_, _, _], _ => rfl) (fun vs H Q E h => ?_) (fun f cdv A outer s H vs Q E hr h => ?_)
  · obtain ⟨a, r, as, rows, q, ns, rfl, _⟩ := h; rfl
  · obtain ⟨a0, r, as, rows, q, ns, rfl, p, k⟩ := h
    have hr29 : Room 29 _ := hr.mono (by decide)
    have hr1 : Room 1 _ := hr.mono (by decide)
    have hu := hu_of hr
    refine' ⟨_, (pss_cons (ps_set (i := 3) sc.nd rfl (Or.inr rfl) (pe_dnewK)) (pss_cons (ps_set (i := 4) sc.nd rfl (Or.inl rfl) (pe_int)) (pss_one (ps_while PassesOwn.never (pt_cmpR op_lt (pe_callB call_lenD (by rfl) T.zLen PySem.boot_len (pa_cons (pv 3) pa_nil)) (pe_callB call_len_seq (by rfl) T.zLen PySem.boot_len (pa_cons (pv 1) pa_nil)) (nomark _)) (pss_cons (ps_setLc (i := 5) (own := [("_law_k", 6)]) rfl sc.nd rfl rfl (sw_true rfl rfl rfl (by decide +kernel)) (pi_range1 (by rfl) zR (pa_cons ((pe_callB call_len_seq (by rfl) T.zLen PySem.boot_len (pa_cons (pv 1) pa_nil))) pa_nil)) (blkOk_by (own := [("_law_k", 6)]) (N := ["_law_hall", "_law_rows", "_law_cells", "_law_numbers", "_law_step", "_law_fits", "_law_k", "_law_low", "_law_cell", "_law_one"]) (sc := defScope s_w_put_in) (by decide +kernel)) (fun _ _ _ _ _ => pg_name (i := 6) sc.nd rfl (Or.inl rfl))
          (fun _ _ _ _ _ => pts_one (PW.pt (pw_and (pt_cmp (pc_dnotin hu (pv 6) (pv 3))) (pw_and1 (pt_val (pe_callB (allK K rfl) (by rfl) zA (by decide +kernel) (pa_cons ((pe_lc (own := [("_law_low", 7)]) (g := gName 7) rfl sc.nd (listK K (pe_ix (ixK K) (pv 1) (pv 6) (fun _ _ => rfl))) (by refine blkOk_by (own := [("_law_low", 7)]) (N := ["_law_hall", "_law_rows", "_law_cells", "_law_numbers", "_law_step", "_law_fits", "_law_k", "_law_low", "_law_cell", "_law_one"]) (sc := scPi) ?_; decide +kernel) (fun _ _ _ _ _ => pg_name (i := 7) sc.nd rfl (Or.inl rfl)) (fun _ _ _ _ _ => pts_nil) (fun _ _ _ _ _ => pe_cmp (pc_din hu (pv 7) (pv 3)) (by rfl)))) pa_nil))))))) (fun _ _ _ _ _ => pv 6)) (pss_cons (ps_set (i := 8) sc.nd rfl (Or.inl rfl) (pe_int)) (Evl.pss_cut (ps_if (pt_cmpR (op_neD hr.units) (pv 2) (pe_lst pa_nil) (nomark _)) (pss_one (ps_set (i := 8) sc.nd rfl (Or.inl rfl) (pe_ix ix_list (pv 2) (pe_op op_mod (pv 4) (pe_callB call_len_seq (by rfl) T.zLen PySem.boot_len (pa_cons (pv 2) pa_nil))) (fun _ _ => rfl)))) pss_nil) (pss_cons (ps_set (i := 9) sc.nd rfl (Or.inl rfl) (pe_ix ix_list (pv 5) (pe_op op_mod (pe_op op_fdiv (pe_call F1 hr1 (by rfl) g1 k1 b1 .nil pass0 (pa_cons (pv 8) (pa_cons (pv 4) pa_nil))) pe_int) (pe_callB call_len_seq (by rfl) T.zLen PySem.boot_len (pa_cons (pv 5) pa_nil))) (fun _ _ => rfl))) (pss_cons (ps_dput hu (pv 3) (pv 9) (pe_ix ix_tup (pe_meth (pv 0) T.clH mPu FPu hr29 bPu .nil pass0 (pa_cons ((pe_lc (own := [("_law_low", 7)]) (g := gName 7) rfl sc.nd (pi_list (pe_ix ix_list (pv 1) (pv 9) (fun _ _ => rfl))) (blkOk_by (own := [("_law_low", 7)]) (N := ["_law_hall", "_law_rows", "_law_cells", "_law_numbers", "_law_step", "_law_fits", "_law_k", "_law_low", "_law_cell", "_law_one"]) (sc := defScope s_w_put_in) (by decide +kernel)) (fun _ _ _ _ _ => pg_name (i := 7) sc.nd rfl (Or.inl rfl)) (fun _ _ _ _ _ => pts_nil) (fun _ _ _ _ _ => pe_dget hu (pv 3) (pv 7) (fun _ _ => rfl)))) pa_nil)) pe_int (fun _ _ => rfl)) rfl) (pss_one (ps_set (i := 4) sc.nd rfl (Or.inl rfl) (pe_op op_add (pv 4) pe_int)))))))))))), ?_⟩
    intro d hd
    have s1 := Same.new (o := .dK []) hd
    have d1 : (upd H d (.dK [])) d = some (dII []) := upd_same
    have hall1 := p.hall.same s1
    have nda := p.hall.new hd
    have k1 : ∀ x u, x ∉ a0.fp → H x = some u → (upd H d (.dK [])) x = some u := fun x u _ e => s1 x u e
    generalize upd H d (.dK []) = H1 at d1 hall1 k1
    refine ⟨fun m σ H2 => ∃ (a : HA) (st : FL.HS) (nm : List (Int × Int)) (v5 v8 v9 : Option V), m = rows.length - nm.length ∧ σ = [some (.ref a0.h), some (.ref r), some (.ref q), some (.ref d), some (.int (nm.length : Int)), v5, none, none, v8, v9] ∧ HallAt c H2 a st ∧ FL.PutIn rows st nm ∧ a.h = a0.h ∧ nm.length ≤ rows.length ∧
      H2 d = some (dII nm) ∧ d ∉ a.fp ∧ (∀ x u, x ∉ a0.fp → H x = some u → H2 x = some u) ∧ (∀ x ∈ a.fp, x ∈ a0.fp ∨ H x = none), ⟨_, a0, FL.HS.empty, [], _, _, _, rfl, rfl, hall1, .start rows, rfl, Nat.zero_le _, d1, nda, k1, fun x hx => Or.inl hx⟩, ?_⟩
    rintro m σ H2 ⟨a, st, nm, v5, v8, v9, rfl, rfl, HA, PI, ea, hle, hd2, nd2, k2, o2⟩
    have R2 : RAt H2 r as rows := ⟨k2 _ _ p.nr p.R.at_, p.R.tt.sameM fun b hb u e => k2 b u (p.na b hb) e⟩
    have small := p.small
    have elr : (as.map V.ref).length = rows.length := by rw [List.length_map, R2.len]
    refine ⟨_, rfl, d, _, rfl, hd2, _, rfl, r, _, rfl, Or.inl (SqL.of R2.at_), _, _, rfl, rfl, _, rfl, ?_⟩
    rw [elr, len_kvI]
    by_cases hlt : nm.length < rows.length
    rotate_left
    · rw [decide_eq_false (by omega : ¬ ((nm.length : Int) < (rows.length : Int)))]
      refine iteF ?_
      exact k H2 a st nm HA PI (by omega) ea k2 o2
    rw [decide_eq_true (by omega : (nm.length : Int) < (rows.length : Int))]
    refine iteT ⟨_, fun σ' H' z => z, ?_⟩
    have G := PI.good
    have hget : ∀ {H' : Hp} (k : Nat), H' d = some (dII nm) → DGet H' d (.int (k : Int)) ((FL.aget nm (k : Int)).map V.int) := fun {H'} k e => Or.inl ⟨_, Sum.inl (k : Int), Or.inl e, rfl, by rw [valV_kvI]⟩
    have rlen : ∀ k, k < rows.length → (rows.getD k []).length ≤ 24 := fun k hk => Nat.le_trans (row_len (p.nd k hk) fun z hz => p.low k hk z hz) (by omega)
    dsimp only [tSeq]
    refine lc_rng (fitP rows nm) (fun k => .int (k : Int)) (fun R q => ⟨_, rfl, r, _, rfl, Or.inl (SqL.of R2.at_), _, rfl, by rw [elr]; omega, by rw [elr]; omega, by rw [elr, Int.toNat_natCast]; exact q⟩) (by omega) (fun x => by rfl) (fun z hz H3 s3 Q' qq => ?_) (fun z hz hp H3 s3 Q' qq => ⟨_, rfl, by rw [Int.zero_add]; exact qq H3 Same.rfl⟩) fun fl H3 hfl s3 h3 => ?_
    · have e0 : (0 + (z : Int)) = (z : Int) := Int.zero_add _
      rw [e0]
      refine ⟨_, rfl, _, rfl, d, _, rfl, hget z (s3 _ _ hd2), _, rfl, ?_⟩
      rw [Option.isSome_map]
      cases hg : (FL.aget nm (z : Int)).isSome with
      | true =>
        have e : fitP rows nm z = false := by unfold fitP; rw [hg]; rfl
        rw [e] at qq
        exact qq H3 Same.rfl
      | false =>
        have R3 := R2.same s3
        obtain ⟨ak, e1, _, e2⟩ := R3.get hz
        refine iteT ?_
        dsimp only [tNot, tB, tCB, tCons]
        refine lc_same (K := K) (fun l : Nat => V.int (l : Int)) (a := ak) (ns := rows.getD z []) (fun _ => true) (fun l => .bl (FL.aget nm (l : Int)).isSome) (fun Q' q => ⟨_, rfl, _, rfl, r, _, _, V.ref ak, rfl, rfl, SqL.of R3.at_, atI_nat (by rw [List.getElem?_map, e1]; rfl), q⟩) (SqL.of (by rw [e2]; show some (HO.lst ((cI _).map V.int)) = _; rw [cI_map])) (Nat.le_trans (rlen z hz) (by decide)) (fun x => by rfl) (fun y hy H4 s4 Q' q => q H4 Same.rfl) (fun y hy _ H4 s4 Q' q => ?_) (fun t H4 ht s4 h4 => ?_)
        · refine ⟨_, rfl, _, rfl, d, _, rfl, hget y (s4 _ _ (s3 _ _ hd2)), ?_⟩
          rw [Option.isSome_map]
          exact q H4 Same.rfl
        · rw [filter_all] at h4
          refine ⟨t, (rows.getD z []).map fun l : Nat => (FL.aget nm (l : Int)).isSome, rfl, SqL.of (by rw [h4, List.map_map]; rfl), _, rfl, ?_⟩
          have e : fitP rows nm z = ((rows.getD z []).map fun l : Nat => (FL.aget nm (l : Int)).isSome).all id := by
            unfold fitP; rw [hg, List.all_map]; rfl
          rw [← e]
          exact qq H4 s4
    have hfit := fit_some PI p.low hlt
    have hfm : ∀ z ∈ (List.range rows.length).filter (fitP rows nm), z < rows.length ∧ fitP rows nm z = true := fun z hz => ⟨List.mem_range.mp (List.mem_filter.mp hz).1, (List.mem_filter.mp hz).2⟩
    have hfl24 : ((List.range rows.length).filter (fitP rows nm)).length ≤ 24 := Nat.le_trans (List.length_filter_le _ _) (by rw [List.length_range]; exact small)
    generalize (List.range rows.length).filter (fitP rows nm) = fits at hfit hfm h3 hfl24
    have h3 : H3 fl = some (lI (cI fits)) := by rw [h3]; show _ = some (HO.lst ((cI _).map V.int)); rw [cI_map]
    have HA3 := HA.same s3
    have hd3 := s3 _ _ hd2
    have R3 := R2.same s3
    have k3 : ∀ x u, x ∉ a0.fp → H x = some u → H3 x = some u := fun x u n e => s3 _ _ (k2 x u n e)
    have nf3 : fl ∉ a.fp := HA.new hfl
    -- the cell
    refine ⟨fun σ H4 => ∃ y : Int, σ = [some (.ref a0.h), some (.ref r), some (.ref q), some (.ref d), some (.int (nm.length : Int)), some (.ref fl), none, none, some (.int y), v9] ∧ Same H3 H4, ?_, ?_⟩
    · refine ⟨_, rfl, Nat.zero_le _, fun e he => ?_⟩
      have s4 := Same.new (o := .lst []) he
      have hq4 := p.kq _ fun x u n e => s4 _ _ (k3 x u n e)
      refine ⟨iD ns, .list [], dp_iD hq4, dp_nil upd_same, iD_sh _, iD_sh [], _, rfl, ?_⟩
      rw [nil_D]
      generalize upd H3 e (.lst []) = H4 at s4 hq4
      refine ite2 (fun z => ?_) (fun _ => ⟨0, rfl, s4⟩)
      have hne : ns ≠ [] := fun e => by simp [e] at z
      obtain ⟨y, _, ey⟩ := drawn_at hne (x := (nm.length : Int)) (by omega)
      have elen : (ns.map V.int).length = ns.length := List.length_map _
      refine ⟨_, rfl, _, rfl, _, rfl, q, _, rfl, Or.inl hq4, _, _, rfl, rfl, ?_, q, _, _, V.int y, rfl, rfl, hq4, by rw [elen]; exact ey, y, rfl, s4⟩
      show (0 : Int) < ((ns.map V.int).length : Int)
      rw [elen]
      have := List.length_pos_iff.mpr hne
      omega
    rintro σ H4 ⟨y, rfl, s4⟩
    have h4 := s4 _ _ h3
    have hcne : cI fits ≠ [] := fun e => hfit (by unfold cI at e; exact List.map_eq_nil_iff.mp e)
    obtain ⟨z', hz', ez'⟩ := drawn_at hcne (x := mixedI y (nm.length : Int) / 5) (fdiv5_nn (mixed_lo y _))
    obtain ⟨z, hz, rfl⟩ := List.mem_map.mp hz'
    obtain ⟨hzn, hzf⟩ := hfm z hz
    have elen : ((cI fits).map V.int).length = (cI fits).length := List.length_map _
    refine ⟨_, rfl, _, rfl, _, rfl, y, (nm.length : Int), rfl, by omega, by omega, _, _, rfl, rfl, ⟨by decide, by decide⟩, _, rfl, fl, _, rfl, Or.inl (SqL.of h4), _, _, rfl, rfl, ?_, fl, _, _, V.int (z : Int), rfl, rfl, SqL.of h4, by rw [elen]; exact ez', ?_⟩
    · show (0 : Int) < (((cI fits).map V.int).length : Int)
      rw [elen]
      have := List.length_pos_iff.mpr hcne
      omega
    have hzn2 : FL.aget nm (z : Int) = none := by
      unfold fitP at hzf
      cases q : FL.aget nm (z : Int) with
      | none => rfl
      | some v => rw [q] at hzf; exact nomatch hzf
    have hrow : FL.rowIn rows nm z := fun l hl => by
      unfold fitP at hzf
      rw [Bool.and_eq_true, List.all_eq_true] at hzf
      exact Option.isSome_iff_exists.mp (hzf.2 l hl)
    obtain ⟨ns1, ns2⟩ := PI.nums hrow
    have HA4 := HA3.same s4
    have hd4 := s4 _ _ hd3
    have R4 := R3.same s4
    obtain ⟨ak, e1, _, e2⟩ := R4.get hzn
    obtain ⟨dx, hh⟩ := HA4.ob
    refine ⟨_, rfl, a.h, dx, _, vref ea, hh, fH_no ⟨by decide +kernel, by decide +kernel⟩, ?_⟩
    dsimp only [tCons]
    refine lc_same (K := K) (fun l : Nat => V.int (l : Int)) (a := ak) (ns := rows.getD z []) (fun _ => true) (fun l => .int ((FL.aget nm (l : Int)).getD 0)) (fun Q' q => ⟨_, rfl, _, rfl, r, _, _, V.ref ak, rfl, rfl, SqL.of R4.at_, atI_nat (by rw [List.getElem?_map, e1]; rfl), q⟩) (SqL.of (by rw [e2]; show some (HO.lst ((cI _).map V.int)) = _; rw [cI_map])) (Nat.le_trans (rlen z hzn) (by decide)) (fun x => by rfl) (fun y hy H4 s4 Q' q => q H4 Same.rfl) (fun l hl _ H5 s5 Q' q => ?_) (fun t H5 ht s5 h5 => ?_)
    · obtain ⟨u, hu⟩ := hrow l hl
      have g := hget l (s5 _ _ hd4)
      rw [hu] at g q
      exact ⟨_, rfl, _, rfl, d, .int u, rfl, g, q H5 Same.rfl⟩
    rw [filter_all] at h5
    have h5 : H5 t = some (lI (FL.numsOf nm (rows.getD z []))) := by rw [h5]; show _ = some (HO.lst ((FL.numsOf _ _).map V.int)); unfold FL.numsOf; rw [List.map_map]; rfl
    have s25 := s3.trans (s4.trans s5)
    refine ⟨a, st, t, FL.numsOf nm (rows.getD z []), vs1 ea _, HA4.same s5, G, h5, ns2 (p.nd z hzn), ns1, by rw [PI.tlen, ← PI.len]; omega, by rw [← PI.len]; omega, fun H6 a' tu rw HA6 f6 eh6 ht6 ht6' hrw6 R6 nrw ntu => ?_⟩
    refine ⟨tu, _, 0, _, rfl, rfl, SqT.of ht6', rfl, ?_⟩
    have hd6 := f6.out nd2 (s25 _ _ hd2)
    refine ⟨_, rfl, _, rfl, d, _, rfl, DPut.k (k := Sum.inl (z : Int)) hd6.2 (by rw [len_kvI]; exact small1000 (by omega)), ?_⟩
    rw [putK_kvI]
    refine ⟨_, rfl, _, _, rfl, rfl, ?_⟩
    have hnew : FL.aput nm (z : Int) (st.told : Int) = nm ++ [((z : Int), (st.told : Int))] := FL.aput_new _ hzn2
    have hl1 : (FL.aput nm (z : Int) (st.told : Int)).length = nm.length + 1 := by rw [hnew, List.length_append]; rfl
    refine ⟨rows.length - (nm.length + 1), by omega, a', _, FL.aput nm (z : Int) (st.told : Int), some (.ref fl), some (.int y), some (.int (z : Int)), by rw [hl1], ?_, HA6.sameF (fun b hb u e => by rw [upd_ne (fun (q : b = d) => hd6.1 (q ▸ hb))]; exact e), PI.put hzn hzn2 hrow, eh6.trans ea, by omega, upd_same, hd6.1, fun x u n e => ?_, fun x hx => ?_⟩
    · rw [hl1]; rfl
    · rw [upd_ne (ne_of_none e hd)]
      refine f6.keep _ _ (fun z => ?_) (s25 _ _ (k2 _ _ n e))
      rcases o2 x z with z | z
      · exact n z
      · rw [e] at z; cases z
    · by_cases q : x ∈ a0.fp
      · exact Or.inl q
      · rcases f6.own x hx with z | z
        · exact o2 x z
        · refine Or.inr ?_
          cases hx' : H x with
          | none => rfl
          | some u => rw [s25 _ _ (k2 _ _ q hx')] at z; cases z
end
end FW

set_option maxHeartbeats 8000000
/-! The law k09. -/
namespace FW
open PySem PySem.Spec PyProof.Rows L2
def rCatQ (K : PySem.W.Frag) : R2 := fun x y H Q => ∃ a b xs ys, x = .ref a ∧ y = .ref b ∧ SqL K H a xs ∧ SqL K H b ys ∧ xs.length + ys.length ≤ sizeLine ∧ ∀ p, H p = none → Q (.ref p) (upd H p (.lst (xs ++ ys)))
theorem op_catQ {X : Cx} : OpR X (binaryOp .Add) (rCatQ X.K) := by
  intro pins s σ H x y v u Q I rx ry h
  obtain ⟨a, b, xs, ys, rfl, rfl, ha, hb, hz, q⟩ := h
  cases rx
  cases ry
  obtain ⟨its, r1, p1, z1⟩ := I.list ha
  obtain ⟨its2, r2, p2, z2⟩ := I.list hb
  have l1 := r1.length
  have l2 := r2.length
  obtain ⟨⟨cls, dd, data, sl⟩, ho, hc, n, hd⟩ := id p1.isList
  obtain ⟨⟨cls2, dd2, data2, sl2⟩, ho2, hc2, n2, hd2⟩ := id p2.isList
  simp only at hc hd hc2 hd2
  subst hc hd hc2 hd2
  refine concat_meets ⟨_, ho, rfl⟩ ⟨_, ho2, rfl⟩ noFill_list_add seq_list_add PySem.F.slot_list_add PySem.F.entry_list_add (PySem.F.args_list_add_2 _ _) (list_addW a b its.toArray its2.toArray n n2 dd dd2 sl sl2 (by rw [List.size_toArray, List.size_toArray]; omega)) ⟨ho, ho2, ?_⟩
  have ea : its.toArray ++ its2.toArray = (its ++ its2).toArray := by simp
  rw [ea]
  exact ⟨.ref _, _, I.lnew (t' := s.toks) (r1.append r2) (by rw [List.length_append]; omega), rfl, q _ I.fresh⟩
/-- a kind of hall, told -/
def KindAt (H : Hp) (v : V) : Prop := ∃ t r as rows W F c, v = .ref t ∧ H t = some (.tup [.ref r, .int ((W : Nat) : Int), .int ((F : Nat) : Int)]) ∧ RAt H r as rows ∧ FL.Holds rows W F c (FL.clOf rows)
theorem KindAt.same {H H' : Hp} {v : V} (h : KindAt H v) (s : Same H H') : KindAt H' v := by
  obtain ⟨t, r, as, rows, W, F, c, e, ht, R, Hd⟩ := h
  exact ⟨t, r, as, rows, W, F, c, e, s _ _ ht, R.same s, Hd⟩
theorem TAt.kind {H H' : Hp} {t : Addr} {rows : List (List Nat)} {W F : Nat} {c : FL.Cert} (h : TAt H H' t rows W F) (q : FL.holds rows W F c = true) : KindAt H' (.ref t) := by
  obtain ⟨r, as, e, R⟩ := h.ex
  exact ⟨t, r, as, rows, W, F, c, rfl, e, R, FL.holds_of q⟩
section
variable {P : Program} {w : World} {K : PySem.W.Frag} {mg : Str → Option Value} {base : Heap} {c : CC}
def spLaw (K : PySem.W.Frag) : Sp := fun vs H Q _ => ∃ (a : Addr) (ns : List Int), vs = [.ref a] ∧ SqL K H a (ns.map V.int) ∧ ns.length ≤ 63 ∧ ∀ H', Q (.bl true) H'
theorem nat_of {f d m : Int} (hm : 0 < m) (b : Nat) (hb : m = (b : Int)) (e : Nat) : ∃ A : Nat, (e : Int) + f / d % m = (A : Int) ∧ e ≤ A ∧ A < e + b := by
  have h0 := Int.emod_nonneg (f / d) (show m ≠ 0 by omega)
  have h1 := Int.emod_lt_of_pos (f / d) hm
  exact ⟨e + (f / d % m).toNat, by omega, by omega, by omega⟩
theorem sq_keep {H H' : Hp} {q : Addr} {xs : List V} (h : SqL K H q xs) (e : ∀ u, H q = some u → H' q = some u) : SqL K H' q xs :=
  h.elim (fun h => .inl (h.elim (fun h => .inl (e _ h)) fun ⟨o, h⟩ => .inr ⟨o, e _ h⟩)) fun h => .inr h
theorem ok_law09 (T : Tx K mg c) (zR : mg "range" = none) {fl : Addr} {fdl : FuncData} (D : FD K "law" s_law fl fdl) (MI : MOk P w K mg base CX0 c.H "__init__" ["self"] 3 (spH_init c))
    (MLd : MOk P w K mg base CX0 c.H "ladders" ["self"] 2 (spH_ladders c)) (MFr : MOk P w K mg base CX0 c.H "free" ["self"] 5 (spH_free c)) (MFl : MOk P w K mg base CX0 c.H "floors" ["self"] 6 (spH_floors c)) (MLg : MOk P w K mg base CX0 c.H "longest" ["self"] 7 (spH_longest c))
    (GM : GOk P w K mg base CX0 "_law_mixed" ["_law_cell", "_law_k"] 1 spMixed) (GB : GOk P w K mg base CX0 "_law_box" ["_law_a", "_law_b"] 1 spBox) (GL : GOk P w K mg base CX0 "_law_layers" ["_law_sizes"] 1 (spSizes K FL.layRows FL.maxN List.length)) (GS : GOk P w K mg base CX0 "_law_side" ["_law_sizes"] 1 (spSizes K FL.sideRows List.length FL.maxN))
    (GC : GOk P w K mg base CX0 "_law_crown" ["_law_n"] 1 spCrown) (GP : GOk P w K mg base CX0 "_law_put_in" ["_law_hall", "_law_rows", "_law_cells"] 30 (spPutIn c K)) : FnOk P w K mg base CX0 31 fl fdl ["_law_script"] (spLaw K) := by
  obtain ⟨fI, fdI, mI, bI, FI⟩ := MI
  obtain ⟨fLd, fdLd, mLd, bLd, FLd⟩ := MLd
  obtain ⟨fFr, fdFr, mFr, bFr, FFr⟩ := MFr
  obtain ⟨fFl, fdFl, mFl, bFl, FFl⟩ := MFl
  obtain ⟨fLg, fdLg, mLg, bLg, FLg⟩ := MLg
  obtain ⟨f1, fd1, g1, k1, b1, F1⟩ := GM
  obtain ⟨f2, fd2, g2, k2, b2, F2⟩ := GB
  obtain ⟨f3, fd3, g3, k3, b3, F3⟩ := GL
  obtain ⟨f4, fd4, g4, k4, b4, F4⟩ := GS
  obtain ⟨f5, fd5, g5, k5, b5, F5⟩ := GC
  obtain ⟨f6, fd6, g6, k6, b6, F6⟩ := GP
  have sc : FnScope ["_law_script", "_law_first", "_law_sizes", "_law_k", "_law_a", "_law_kinds", "_law_turn", "_law_rows", "_law_ladders", "_law_floors", "_law_hall"] ["_law_script"] (defScope s_law) := ⟨rfl, rfl, rfl, by decide +kernel, rfl, by decide +kernel, by decide +kernel⟩
  refine fd_ok D sc (fun vs H Q E h => ?_) (fun f cdv A outer s H vs Q E hr h => ?_)
  · obtain ⟨S, ns, rfl, _⟩ := h; rfl
  · obtain ⟨S, ns, rfl, hS, hn, k⟩ := h
    have MkH : Mk K c.H fI := ⟨T.mkH, mI.at_, mI.fn, T.kpH⟩
    have hr30 : Room 30 _ := hr.mono (by decide)
    have hr7 : Room 7 _ := hr.mono (by decide)
    have hr6 : Room 6 _ := hr.mono (by decide)
    have hr5 : Room 5 _ := hr.mono (by decide)
    have hr4 : Room 4 _ := hr.mono (by decide)
    have hr2 : Room 2 _ := hr.mono (by decide)
    have hr1 : Room 1 _ := hr.mono (by decide)
    have hu := hu_of hr
    refine' ⟨_, (pss_cons (ps_set (i := 1) sc.nd rfl (Or.inr rfl) (pe_op op_fdiv (pe_call F1 hr1 (by rfl) g1 k1 b1 .nil pass0 (pa_cons (pe_ix ix_list (pe_op op_catQ (pv 0) (pe_lst (pa_cons (pe_int) pa_nil))) pe_int (fun _ _ => rfl)) (pa_cons (pe_int) pa_nil))) pe_int)) (pss_cons (ps_setLc (i := 2) (own := [("_law_k", 3)]) rfl sc.nd rfl rfl (sw_true rfl rfl rfl (by decide +kernel)) (pi_range1 (by rfl) zR (pa_cons (pe_op op_add pe_int (pe_op op_mod (pe_op op_fdiv (pv 1) pe_int) pe_int)) pa_nil)) (blkOk_by (own := [("_law_k", 3)]) (N := ["_law_script", "_law_first", "_law_sizes", "_law_k", "_law_a", "_law_kinds", "_law_turn", "_law_rows", "_law_ladders", "_law_floors", "_law_hall"]) (sc := defScope s_law) (by decide +kernel)) (fun _ _ _ _ _ => pg_name (i := 3) sc.nd rfl (Or.inl rfl)) (fun _ _ _ _ _ => pts_nil)
        (fun _ _ _ _ _ => pe_op op_add pe_int (pe_op op_mod (pe_op op_fdiv (pe_call F1 hr1 (by rfl) g1 k1 b1 .nil pass0 (pa_cons (pv 1) (pa_cons (pv 3) pa_nil))) pe_int) pe_int))) (pss_cons (ps_set (i := 4) sc.nd rfl (Or.inl rfl) (pe_op op_add pe_int (pe_op op_mod (pe_op op_fdiv (pv 1) pe_int) pe_int))) (pss_cons (ps_set (i := 5) sc.nd rfl (Or.inl rfl) (pe_lst (pa_cons ((pe_call F2 hr1 (by rfl) g2 k2 b2 .nil pass0 (pa_cons (pv 4) (pa_cons (pe_op op_add pe_int (pe_op op_mod (pe_op op_fdiv (pv 1) pe_int) pe_int)) pa_nil)))) (pa_cons ((pe_call F3 hr1 (by rfl) g3 k3 b3 .nil pass0 (pa_cons (pv 2) pa_nil))) (pa_cons ((pe_call F4 hr1 (by rfl) g4 k4 b4 .nil pass0 (pa_cons (pv 2) pa_nil))) (pa_cons ((pe_call F5 hr1 (by rfl) g5 k5 b5 .nil pass0 (pa_cons (pe_op op_add pe_int (pe_op op_mod (pe_op op_fdiv (pv 1) pe_int) pe_int)) pa_nil))) pa_nil)))))) (pss_cons (ps_for PassesOwn.never rfl (pi_range1 (by rfl) zR (pa_cons (pe_int) pa_nil)) (pg_name (i := 6) sc.nd rfl (Or.inl rfl)) (pss_cons (ps_asg (pe_ix ix_list (pv 5) (pe_op op_mod (pe_op op_add (pv 1) (pv 6)) pe_int) (fun _ _ => rfl)) (pg_tup (by rfl) (pgs_cons (pg_name (i := 7) sc.nd rfl (Or.inl rfl)) (pgs_cons (pg_name (i := 8) sc.nd rfl (Or.inl rfl)) (pgs_cons (pg_name (i := 9) sc.nd rfl (Or.inl rfl)) pgs_nil))))) (pss_cons (ps_set (i := 10) sc.nd rfl (Or.inl rfl) (pe_make0 MkH FI hr4 (by rfl) T.gH bI .nil pass0)) (pss_cons (ps_expr (pe_call F6 hr30 (by rfl) g6 k6 b6 .nil pass0 (pa_cons (pv 10) (pa_cons (pv 7) (pa_cons (pv 0) pa_nil))))) (pss_cons (ps_if ((PW.pt (pw_or (pt_cmpR op_ne (pe_callB call_len_seq (by rfl) T.zLen PySem.boot_len (pa_cons ((pe_meth0 (pv 10) T.clH mLd FLd hr2 bLd .nil pass0)) pa_nil)) (pv 8) (nomark _)) (pw_or1 (pt_cmpR op_ne (pe_callB call_len_seq (by rfl) T.zLen PySem.boot_len (pa_cons ((pe_meth0 (pv 10) T.clH mFr FFr hr5 bFr .nil pass0)) pa_nil)) (pv 8) (nomark _)))))) (pss_one (ps_ret pe_bl)) pss_nil) (pss_one (ps_if ((PW.pt (pw_or (pt_cmpR op_ne (pe_callB call_len_seq (by rfl) T.zLen PySem.boot_len (pa_cons ((pe_meth0 (pv 10) T.clH mFl FFl hr6 bFl .nil pass0)) pa_nil)) (pv 9) (nomark _)) (pw_or1 (pt_cmpR op_ne (pe_callB call_len_seq (by rfl) T.zLen PySem.boot_len (pa_cons ((pe_meth0 (pv 10) T.clH mLg FLg hr7 bLg .nil pass0)) pa_nil)) (pv 9) (nomark _)))))) (pss_one (ps_ret pe_bl)) pss_nil))))))) (pss_one (ps_ret (pe_bl)))))))), ?_⟩
    -- the first number
    obtain ⟨x0, hx0⟩ : ∃ x0, atI (ns.map V.int ++ [V.int 0]) 0 = some (V.int x0) := by
      cases ns with
      | nil => exact ⟨0, atI_nat (j := 0) rfl⟩
      | cons x r => exact ⟨x, atI_nat (j := 0) rfl⟩
    refine ⟨_, rfl, (by show 1 ≤ sizeLine; decide), fun z0 hz0 => ?_⟩
    have s1 := Same.new (o := .lst [V.int 0]) hz0
    have z1 : (upd H z0 (.lst [V.int 0])) z0 = some (.lst [V.int 0]) := upd_same
    generalize upd H z0 (.lst [V.int 0]) = H1 at s1 z1
    refine ⟨S, z0, _, _, rfl, rfl, s1.seq hS, SqL.of z1, (by rw [List.length_map]; show ns.length + 1 ≤ _; exact Nat.le_trans (m := 64) (by omega) (by decide)), fun p0 hp0 => ?_⟩
    have s2 := s1.trans (Same.new (o := .lst (ns.map V.int ++ [V.int 0])) hp0)
    have p2 : (upd H1 p0 (.lst (ns.map V.int ++ [V.int 0]))) p0 = some (.lst (ns.map V.int ++ [V.int 0])) := upd_same
    generalize upd H1 p0 (.lst (ns.map V.int ++ [V.int 0])) = H2 at s2 p2
    refine ⟨p0, _, 0, _, rfl, rfl, SqL.of p2, hx0, x0, 1, rfl, by decide, by decide, _, _, rfl, rfl, ⟨by decide, by decide⟩, ?_⟩
    have hf0 : 0 ≤ mixedI x0 1 / 4 := Int.ediv_nonneg (mixed_lo _ _) (by decide)
    dsimp only [tSeq, tAsg, gName]
    generalize mixedI x0 1 / 4 = f at hf0

    obtain ⟨n, en, n1, n4⟩ := nat_of (f := f) (d := 5) (m := 4) (by decide) 4 rfl 1
    have t62 : (2 : Int) ^ 62 = 4611686018427387904 := by decide
    refine lc_rng (fun _ => true) (fun z => .int (1 + mixedI f (0 + (z : Int)) / 3 % 5)) (fun R q => ⟨_, rfl, _, _, rfl, rfl, ⟨by decide, by decide⟩, _, _, rfl, rfl, (by show (0 : Int) < 4; decide), _, _, rfl, rfl, 1 + f / 5 % 4, rfl, by have : (1 : Int) + f / 5 % 4 = (n : Int) := en; omega, by have : (1 : Int) + f / 5 % 4 = (n : Int) := en; omega, by rw [show (1 : Int) + f / 5 % 4 = (n : Int) from en, Int.toNat_natCast]; exact q⟩)
      (by omega) (fun x => by rfl) (fun z hz H3 s3 Q' qq => qq H3 Same.rfl) (fun z hz _ H3 s3 Q' qq => ⟨_, rfl, _, rfl, f, 0 + (z : Int), rfl, by omega, by omega, _, _, rfl, rfl, ⟨by decide, by decide⟩, _, _, rfl, rfl, (by show (0 : Int) < 5; decide), _, _, rfl, rfl, qq H3 Same.rfl⟩) fun sq H3 hsq s3 h3 => ?_
    obtain ⟨sz, esz, lsz, xsz⟩ : ∃ sz : List Nat, ((List.range n).filter fun _ => true).map (fun z : Nat => V.int (1 + mixedI f (0 + (z : Int)) / 3 % 5)) = (cI sz).map V.int ∧ sz.length = n ∧ ∀ x ∈ sz, 1 ≤ x ∧ x ≤ 5 := by
      refine ⟨(List.range n).map fun z : Nat => (1 + mixedI f (0 + (z : Int)) / 3 % 5).toNat, ?_, by rw [List.length_map, List.length_range], fun x hx => ?_⟩
      · rw [filter_all, cI_map, List.map_map]
        refine List.map_congr_left fun z _ => ?_
        have h0 := Int.emod_nonneg (mixedI f (0 + (z : Int)) / 3) (show (5 : Int) ≠ 0 by decide)
        show V.int _ = V.int ((_ : Nat) : Int)
        rw [Int.toNat_of_nonneg (by omega)]
      · obtain ⟨z, _, rfl⟩ := List.mem_map.mp hx
        have h0 := Int.emod_nonneg (mixedI f (0 + (z : Int)) / 3) (show (5 : Int) ≠ 0 by decide)
        have h1 := Int.emod_lt_of_pos (mixedI f (0 + (z : Int)) / 3) (show (0 : Int) < 5 by decide)
        omega
    rw [esz] at h3
    have s3 := s2.trans s3
    -- the four kinds
    obtain ⟨A, eA, A1, A4⟩ := nat_of (f := f) (d := 60) (m := 4) (by decide) 4 rfl 1
    obtain ⟨B, eB, B1, B6⟩ := nat_of (f := f) (d := 240) (m := 6) (by decide) 6 rfl 1
    obtain ⟨C, eC, C2, C12⟩ := nat_of (f := f) (d := 5) (m := 11) (by decide) 11 rfl 2
    have eA : (1 : Int) + f / 60 % 4 = (A : Int) := eA
    have eB : (1 : Int) + f / 240 % 6 = (B : Int) := eB
    have eC : (2 : Int) + f / 5 % 11 = (C : Int) := eC
    refine ⟨_, rfl, _, _, rfl, rfl, ⟨by decide, by decide⟩, _, _, rfl, rfl, (by show (0 : Int) < 4; decide), _, _, rfl, rfl, ?_⟩
    refine ⟨_, rfl, _, rfl, _, _, rfl, rfl, ⟨by decide, by decide⟩, _, _, rfl, rfl, (by show (0 : Int) < 6; decide), _, _, rfl, rfl, A, B, (by show [V.int (1 + f / 60 % 4), V.int (1 + f / 240 % 6)] = _; rw [eA, eB]), A1, by omega, B1, by omega, fun H4 t1 K1 => ?_⟩
    have s4 := s3.trans K1.sm
    refine ⟨_, rfl, sq, sz, rfl, SqL.of (K1.sm _ _ h3), by omega, by omega, xsz, fun H5 t2 K2 => ?_⟩
    have s5 := s4.trans K2.sm
    refine ⟨_, rfl, sq, sz, rfl, SqL.of (K2.sm _ _ (K1.sm _ _ h3)), by omega, by omega, xsz, fun H6 t3 K3 => ?_⟩
    have s6 := s5.trans K3.sm
    refine ⟨_, rfl, _, _, rfl, rfl, ⟨by decide, by decide⟩, _, _, rfl, rfl, (by show (0 : Int) < 11; decide), _, _, rfl, rfl, C, (by show [V.int (2 + f / 5 % 11)] = _; rw [eC]), C2, by omega, fun H7 t4 K4 => ?_⟩
    have s7 := s6.trans K4.sm
    refine ⟨(by show 4 ≤ sizeLine; decide), fun kd hkd => ?_⟩
    have s8 := Same.new (o := .lst [.ref t1, .ref t2, .ref t3, .ref t4]) hkd
    have h8 : (upd H7 kd (.lst [.ref t1, .ref t2, .ref t3, .ref t4])) kd = some (.lst [.ref t1, .ref t2, .ref t3, .ref t4]) := upd_same
    have kinds : ∀ v ∈ [V.ref t1, .ref t2, .ref t3, .ref t4], KindAt (upd H7 kd (.lst [.ref t1, .ref t2, .ref t3, .ref t4])) v := fun v hv => by
      simp only [List.mem_cons, List.not_mem_nil, or_false] at hv
      rcases hv with rfl | rfl | rfl | rfl
      · exact (K1.kind (FL.box_holds A1 (by omega) B1 (by omega))).same (K2.sm.trans (K3.sm.trans (K4.sm.trans s8)))
      · exact (K2.kind (FL.lay_holds (by omega) (by omega) xsz)).same (K3.sm.trans (K4.sm.trans s8))
      · exact (K3.kind (FL.side_holds (by omega) (by omega) xsz)).same (K4.sm.trans s8)
      · exact (K4.kind (FL.crown_holds C2 (by omega))).same s8
    have s08 := s7.trans s8
    generalize upd H7 kd (.lst [.ref t1, .ref t2, .ref t3, .ref t4]) = H8 at s08 h8 kinds
    refine ⟨2, rfl, by decide, by decide, for_it (walk_range (lo := 0) (n := 2)) (fun i σ H9 => ∃ v4 v6 v7 v8 v9 v10, σ = [some (.ref S), some (.int f), some (.ref sq), none, v4, some (.ref kd), v6, v7, v8, v9, v10] ∧ Same H8 H9)
      ⟨_, _, _, _, _, _, rfl, Same.rfl⟩ (fun _ _ _ _ _ => trivial) ?_ ?_⟩
    · rintro i x σ H9 H9' hi ⟨v4, v6, v7, v8, v9, v10, rfl, s9⟩ ⟨rfl, rfl⟩
      have m0 := Int.emod_nonneg (f + (0 + (i : Int))) (show (4 : Int) ≠ 0 by decide)
      have m1 := Int.emod_lt_of_pos (f + (0 + (i : Int))) (show (0 : Int) < 4 by decide)
      obtain ⟨v, hv, ev⟩ : ∃ v ∈ [V.ref t1, .ref t2, .ref t3, .ref t4], atI [V.ref t1, .ref t2, .ref t3, .ref t4] ((f + (0 + (i : Int))) % 4) = some v := by
        obtain ⟨j, ej⟩ : ∃ j : Nat, (f + (0 + (i : Int))) % 4 = (j : Int) := ⟨((f + (0 + (i : Int))) % 4).toNat, by omega⟩
        have hj : j < [V.ref t1, .ref t2, .ref t3, .ref t4].length := by show j < 4; omega
        exact ⟨_, List.getElem_mem hj, by rw [ej]; exact atI_nat (List.getElem?_eq_getElem hj)⟩
      obtain ⟨t, r, as, rows, W, F, ct, rfl, ht, R, Hd⟩ := (kinds v hv).same s9
      refine ⟨_, rfl, _, rfl, _, rfl, _, _, rfl, rfl, _, _, rfl, rfl, (by show (0 : Int) < 4; decide), kd, _, _, _, rfl, rfl, SqL.of (s9 _ _ h8), ev, ?_⟩
      refine ⟨t, _, rfl, SqT.of ht, rfl, _, _, rfl, _, _, rfl, _, _, rfl, rfl, ?_⟩
      intro o dO no ndO neO
      refine ⟨o, dO, rfl, upd_same, fun a0 H10 eh HA0 fa kp => ⟨rfl, ?_⟩⟩
      have sS : Same H9' (upd (upd H9' dO (.own o)) o (.ins c.H dO [])) := fun x u e => by rw [upd_ne (ne_of_none e no), upd_ne (ne_of_none e ndO)]; exact e
      have s10 : Same H9' H10 := fun x u e => kp x u (ne_of_none e no) (sS x u e)
      subst eh
      have fpn : ∀ x ∈ a0.fp, H9' x = none := fun x hx => by
        rcases fa x hx with rfl | e
        · exact no
        · exact back_no sS e
      have out : ∀ {x u}, H9' x = some u → x ∉ a0.fp := fun {x u} e z => by rw [fpn x z] at e; cases e
      have hS9 : SqL K H9' S (ns.map V.int) := (s08.trans s9).seq hS
      refine ⟨_, rfl, _, rfl, _, rfl, a0, r, as, rows, S, ns, rfl, ⟨HA0, R.same s10, s10.seq hS9, hn, fun k hk z hz => (Hd.low k hk z hz).1, Hd.nd, Hd.small, out R.at_, fun x hx => (by obtain ⟨l, hl⟩ := R.tt.is x hx; exact out hl), fun H' q => sq_keep hS9 fun u e => q _ _ (out e) (s10 _ _ e)⟩, fun H11 a' st nm HA PI el ea kk oo => ?_⟩
      have s11 : Same H9' H11 := fun x u e => kk x u (out e) (s10 _ _ e)
      have G := PI.good
      have hl24 : st.linked.length ≤ 24 := by rw [← PI.len, el]; exact Hd.small
      have kf := FL.known_free PI el Hd
      have kh := FL.known_hgt PI el Hd
      obtain ⟨dx, hh⟩ := HA.ob
      refine ⟨_, rfl, a'.h, dx, _, vref ea, hh, fH_no ⟨by decide +kernel, by decide +kernel⟩, a', st, vs1 ea _, HA, G, hl24, fun H12 p6 as6 s12 LL => ?_⟩
      have e6 : (as6.map V.ref).length = W := by rw [List.length_map, LL.tt.len, ← (free_of G).2.2.2.1]; exact kf
      refine ⟨p6, _, rfl, Or.inl (SqL.of LL.at_), _, rfl, rfl, _, rfl, ?_⟩
      rw [e6, dec_ne_int]
      refine ite2 (fun z => absurd rfl (of_decide_eq_true z)) (fun _ => ?_)
      refine ⟨_, rfl, a'.h, dx, _, vref ea, s12 _ _ hh, fH_no ⟨by decide +kernel, by decide +kernel⟩, a', st, vs1 ea _, HA.same s12, G, hl24, fun H13 t7 s13 ht7 h7 => ?_⟩
      have e7 : ((FL.free st.lies st.linked st.ab st.be).map V.int).length = W := by rw [List.length_map]; exact kf
      refine ⟨t7, _, rfl, Or.inl (SqL.of h7), _, rfl, rfl, _, rfl, ?_⟩
      rw [e7, dec_ne_int]
      refine ite2 (fun z => absurd rfl (of_decide_eq_true z)) (fun _ => ?_)
      have s113 := s12.trans s13
      refine ⟨_, rfl, a'.h, dx, _, vref ea, s113 _ _ hh, fH_no ⟨by decide +kernel, by decide +kernel⟩, a', st, vs1 ea _, HA.same s113, G, hl24, fun H14 p8 as8 s14 LL8 => ?_⟩
      have e8 : (as8.map V.ref).length = F := by rw [List.length_map, LL8.tt.len, FL.floors_len]; exact kh
      refine ⟨p8, _, rfl, Or.inl (SqL.of LL8.at_), _, rfl, rfl, _, rfl, ?_⟩
      rw [e8, dec_ne_int]
      refine ite2 (fun z => absurd rfl (of_decide_eq_true z)) (fun _ => ?_)
      have s114 := s113.trans s14
      refine ⟨_, rfl, a'.h, dx, _, vref ea, s114 _ _ hh, fH_no ⟨by decide +kernel, by decide +kernel⟩, a', st, vs1 ea _, HA.same s114, G, hl24, fun H15 t9 s15 ht9 h9 => ?_⟩
      have e9 : ((FL.longest st.lies st.linked).map V.int).length = F := by
        have := (FL.longest_ok G.po).len
        rw [List.length_map]; omega
      refine ⟨t9, _, rfl, Or.inl (SqL.of h9), _, rfl, rfl, _, rfl, ?_⟩
      rw [e9, dec_ne_int]
      refine ite2 (fun z => absurd rfl (of_decide_eq_true z)) (fun _ => ?_)
      exact ⟨_, _, _, _, _, _, rfl, s9.trans (s11.trans (s114.trans s15))⟩
    · rintro σ H9 ⟨v4, v6, v7, v8, v9, v10, rfl, s9⟩
      exact k _
end
end FW

set_option maxHeartbeats 0
namespace FW
open PySem PySem.Spec PyProof.Rows L2
def d0 : He.DefD := ⟨("floor_of", none), "floor_of", "floor_of", defArgs s_floor_of, defBody s_floor_of, defScope s_floor_of, [], []⟩
def d1 : He.DefD := ⟨("floors_of", none), "floors_of", "floors_of", defArgs s_floors_of, defBody s_floors_of, defScope s_floors_of, [], []⟩
def d2 : He.DefD := ⟨("longest_of", none), "longest_of", "longest_of", defArgs s_longest_of, defBody s_longest_of, defScope s_longest_of, [], []⟩
def d3 : He.DefD := ⟨("bit_of", none), "bit_of", "bit_of", defArgs s_bit_of, defBody s_bit_of, defScope s_bit_of, [], []⟩
def d4 : He.DefD := ⟨("has", none), "has", "has", defArgs s_has, defBody s_has, defScope s_has, [], []⟩
def d5 : He.DefD := ⟨("_law_mixed", none), "_law_mixed", "_law_mixed", defArgs s_w_mixed, defBody s_w_mixed, defScope s_w_mixed, [], []⟩
def d6 : He.DefD := ⟨("_law_some", none), "_law_some", "_law_some", defArgs s_w_some, defBody s_w_some, defScope s_w_some, [], []⟩
def d7 : He.DefD := ⟨("_law_grown", none), "_law_grown", "_law_grown", defArgs s_w_grown, defBody s_w_grown, defScope s_w_grown, [], []⟩
def d8 : He.DefD := ⟨("_law_fewer", none), "_law_fewer", "_law_fewer", defArgs s_w_fewer, defBody s_w_fewer, defScope s_w_fewer, [], []⟩
def d9 : He.DefD := ⟨("_law_apart", none), "_law_apart", "_law_apart", defArgs s_w_apart, defBody s_w_apart, defScope s_w_apart, [], []⟩
def d10 : He.DefD := ⟨("_law_is_free", none), "_law_is_free", "_law_is_free", defArgs s_w_is_free, defBody s_w_is_free, defScope s_w_is_free, [], []⟩
def d11 : He.DefD := ⟨("_law_box", none), "_law_box", "_law_box", defArgs s_w_box, defBody s_w_box, defScope s_w_box, [], []⟩
def d12 : He.DefD := ⟨("_law_layers", none), "_law_layers", "_law_layers", defArgs s_w_layers, defBody s_w_layers, defScope s_w_layers, [], []⟩
def d13 : He.DefD := ⟨("_law_side", none), "_law_side", "_law_side", defArgs s_w_side, defBody s_w_side, defScope s_w_side, [], []⟩
def d14 : He.DefD := ⟨("_law_crown", none), "_law_crown", "_law_crown", defArgs s_w_crown, defBody s_w_crown, defScope s_w_crown, [], []⟩
def d15 : He.DefD := ⟨("_law_put_in", none), "_law_put_in", "_law_put_in", defArgs s_w_put_in, defBody s_w_put_in, defScope s_w_put_in, [], []⟩
def d16 : He.DefD := ⟨("law", none), "law", "law", defArgs s_law, defBody s_law, defScope s_law, [], []⟩
def d17 : He.DefD := ⟨("Links", some "__init__"), "__init__", "Links.__init__", defArgs sL_init, defBody sL_init, defScope sL_init, [], []⟩
def d18 : He.DefD := ⟨("Links", some "link"), "link", "Links.link", defArgs sL_link, defBody sL_link, defScope sL_link, [], []⟩
def d19 : He.DefD := ⟨("Links", some "climbed"), "climbed", "Links.climbed", defArgs sL_climbed, defBody sL_climbed, defScope sL_climbed, [], []⟩
def d20 : He.DefD := ⟨("Links", some "joined"), "joined", "Links.joined", defArgs sL_joined, defBody sL_joined, defScope sL_joined, [], []⟩
def d21 : He.DefD := ⟨("Links", some "add"), "add", "Links.add", defArgs sL_add, defBody sL_add, defScope sL_add, [], []⟩
def d22 : He.DefD := ⟨("Links", some "ladders"), "ladders", "Links.ladders", defArgs sL_ladders, defBody sL_ladders, defScope sL_ladders, [], []⟩
def d23 : He.DefD := ⟨("Links", some "reached"), "reached", "Links.reached", defArgs sL_reached, defBody sL_reached, defScope sL_reached, [], []⟩
def d24 : He.DefD := ⟨("Links", some "free"), "free", "Links.free", defArgs sL_free, defBody sL_free, defScope sL_free, [], []⟩
def d25 : He.DefD := ⟨("Order", some "__init__"), "__init__", "Order.__init__", defArgs sO_init, defBody sO_init, defScope sO_init, [], []⟩
def d26 : He.DefD := ⟨("Order", some "is_thing"), "is_thing", "Order.is_thing", defArgs sO_is_thing, defBody sO_is_thing, defScope sO_is_thing, [], []⟩
def d27 : He.DefD := ⟨("Order", some "need_thing"), "need_thing", "Order.need_thing", defArgs sO_need_thing, defBody sO_need_thing, defScope sO_need_thing, [], []⟩
def d28 : He.DefD := ⟨("Order", some "need_things"), "need_things", "Order.need_things", defArgs sO_need_things, defBody sO_need_things, defScope sO_need_things, [], []⟩
def d29 : He.DefD := ⟨("Order", some "put"), "put", "Order.put", defArgs sO_put, defBody sO_put, defScope sO_put, [], []⟩
def d30 : He.DefD := ⟨("Order", some "things"), "things", "Order.things", defArgs sO_things, defBody sO_things, defScope sO_things, [], []⟩
def d31 : He.DefD := ⟨("Order", some "lies_above"), "lies_above", "Order.lies_above", defArgs sO_lies_above, defBody sO_lies_above, defScope sO_lies_above, [], []⟩
def d32 : He.DefD := ⟨("Hall", some "__init__"), "__init__", "Hall.__init__", defArgs sH_init, defBody sH_init, defScope sH_init, [], []⟩
def d33 : He.DefD := ⟨("Hall", some "put"), "put", "Hall.put", defArgs sH_put, defBody sH_put, defScope sH_put, [], []⟩
def d34 : He.DefD := ⟨("Hall", some "things"), "things", "Hall.things", defArgs sH_things, defBody sH_things, defScope sH_things, [], []⟩
def d35 : He.DefD := ⟨("Hall", some "lies_above"), "lies_above", "Hall.lies_above", defArgs sH_lies_above, defBody sH_lies_above, defScope sH_lies_above, [], []⟩
def d36 : He.DefD := ⟨("Hall", some "ladders"), "ladders", "Hall.ladders", defArgs sH_ladders, defBody sH_ladders, defScope sH_ladders, [], []⟩
def d37 : He.DefD := ⟨("Hall", some "free"), "free", "Hall.free", defArgs sH_free, defBody sH_free, defScope sH_free, [], []⟩
def d38 : He.DefD := ⟨("Hall", some "floors"), "floors", "Hall.floors", defArgs sH_floors, defBody sH_floors, defScope sH_floors, [], []⟩
def d39 : He.DefD := ⟨("Hall", some "longest"), "longest", "Hall.longest", defArgs sH_longest, defBody sH_longest, defScope sH_longest, [], []⟩
def fnL : List He.DefD := [d0, d1, d2, d3, d4, d5, d6, d7, d8, d9, d10, d11, d12, d13, d14, d15, d16, d17, d18, d19, d20, d21, d22, d23, d24, d25, d26, d27, d28, d29, d30, d31, d32, d33, d34, d35, d36, d37, d38, d39]
def faL : List He.Fa := [.glo "floor_of", .glo "floors_of", .glo "longest_of", .glo "bit_of", .glo "has", .glo "_law_mixed", .glo "_law_some", .glo "_law_grown", .glo "_law_fewer", .glo "_law_apart", .glo "_law_is_free", .glo "_law_box", .glo "_law_layers", .glo "_law_side", .glo "_law_crown", .glo "_law_put_in", .glo "law", .glo "Links", .cls "Links", .mkr "Links", .noat "Links" "above", .noat "Links" "beneath", .noat "Links" "linked", .noat "Links" "order", .meth "Links" "__init__", .meth "Links" "link", .meth "Links" "climbed", .meth "Links" "joined", .meth "Links" "add", .meth "Links" "ladders", .meth "Links" "reached", .meth "Links" "free", .glo "HallError", .exc "HallError", .glo "NoThing", .exc "NoThing", .glo "Twice", .exc "Twice", .glo "Full", .exc "Full", .glo "Order", .cls "Order", .mkr "Order", .noat "Order" "below", .noat "Order" "told", .meth "Order" "__init__", .meth "Order" "is_thing", .meth "Order" "need_thing", .meth "Order" "need_things", .meth "Order" "put", .meth "Order" "things", .meth "Order" "lies_above", .glo "Hall", .cls "Hall", .mkr "Hall", .noat "Hall" "links", .noat "Hall" "order", .meth "Hall" "__init__", .meth "Hall" "put", .meth "Hall" "things", .meth "Hall" "lies_above", .meth "Hall" "ladders", .meth "Hall" "free", .meth "Hall" "floors", .meth "Hall" "longest", .free "len", .free "sorted", .free "list", .free "isinstance", .free "set", .free "max", .free "min", .free "dict", .free "int", .free "bool", .free "range", .free "enumerate", .free "all", .free "reversed", .int "MOST_THINGS" 24]
abbrev R : PySem.W.OpenRow := PySem.W.OpenLaw.row PySem.Challenge.rw_fewladders_k09_known_halls
abbrev hkL : PySem.W.Hook := He.hookD 4 faL fnL
def obL (s : PySem.W.SharedT) : He.AlD := He.obsDG 4 faL fnL (HandSHeadRun.getT s)
theorem obL_eq (s : PySem.W.SharedT) : obL s = hkL.obs s.abs := He.obsDG_eq (HandSHeadRun.getT_eq s)
def looseL : List PySem.Str := ["_wall", "floor_of", "floors_of", "longest_of", "Links", "bit_of", "has", "HallError", "NoThing", "Twice", "Full", "MOST_THINGS", "Order", "Hall", "_law_mixed", "_law_some", "_law_grown", "_law_fewer", "_law_apart", "_law_is_free", "_law_box", "_law_layers", "_law_side", "_law_crown", "_law_put_in"]
theorem runL (w : World) : HandSHeadRun.RunEq R (PySem.W.view R.prog [32]) hkL obL 4000 looseL w := by
  intro os
  kernel_rfl
theorem facts {P : Program} {w : World} {K : PySem.W.Frag} {h : Heap} {mg : Str → Option Value} {f : Addr} (X : K.In h) (G : h.Ns mainGlobals mg) (hfa : mg ("law" : Str) = some (.ref f)) (c : He.SaysD faL fnL K) :
    ∃ fd : FuncData, (∀ (s : Shared) (v : Value), BindsTo s fd ⟨[v], []⟩ [("_law_script", v)]) ∧ ∀ base : Heap, K.In base → base.Ns mainGlobals mg → FnOk P w K mg base CX0 31 f fd ["_law_script"] (spLaw K) := by
  obtain ⟨fd0, F0⟩ := c.def_ 0 (d := d0) rfl
  obtain ⟨fd1, F1⟩ := c.def_ 1 (d := d1) rfl
  obtain ⟨fd2, F2⟩ := c.def_ 2 (d := d2) rfl
  obtain ⟨fd3, F3⟩ := c.def_ 3 (d := d3) rfl
  obtain ⟨fd4, F4⟩ := c.def_ 4 (d := d4) rfl
  obtain ⟨fd5, F5⟩ := c.def_ 5 (d := d5) rfl
  obtain ⟨fd6, F6⟩ := c.def_ 6 (d := d6) rfl
  obtain ⟨fd7, F7⟩ := c.def_ 7 (d := d7) rfl
  obtain ⟨fd8, F8⟩ := c.def_ 8 (d := d8) rfl
  obtain ⟨fd9, F9⟩ := c.def_ 9 (d := d9) rfl
  obtain ⟨fd10, F10⟩ := c.def_ 10 (d := d10) rfl
  obtain ⟨fd11, F11⟩ := c.def_ 11 (d := d11) rfl
  obtain ⟨fd12, F12⟩ := c.def_ 12 (d := d12) rfl
  obtain ⟨fd13, F13⟩ := c.def_ 13 (d := d13) rfl
  obtain ⟨fd14, F14⟩ := c.def_ 14 (d := d14) rfl
  obtain ⟨fd15, F15⟩ := c.def_ 15 (d := d15) rfl
  obtain ⟨fd16, F16⟩ := c.def_ 16 (d := d16) rfl
  obtain ⟨fd17, F17⟩ := c.def_ 17 (d := d17) rfl
  obtain ⟨fd18, F18⟩ := c.def_ 18 (d := d18) rfl
  obtain ⟨fd19, F19⟩ := c.def_ 19 (d := d19) rfl
  obtain ⟨fd20, F20⟩ := c.def_ 20 (d := d20) rfl
  obtain ⟨fd21, F21⟩ := c.def_ 21 (d := d21) rfl
  obtain ⟨fd22, F22⟩ := c.def_ 22 (d := d22) rfl
  obtain ⟨fd23, F23⟩ := c.def_ 23 (d := d23) rfl
  obtain ⟨fd24, F24⟩ := c.def_ 24 (d := d24) rfl
  obtain ⟨fd25, F25⟩ := c.def_ 25 (d := d25) rfl
  obtain ⟨fd26, F26⟩ := c.def_ 26 (d := d26) rfl
  obtain ⟨fd27, F27⟩ := c.def_ 27 (d := d27) rfl
  obtain ⟨fd28, F28⟩ := c.def_ 28 (d := d28) rfl
  obtain ⟨fd29, F29⟩ := c.def_ 29 (d := d29) rfl
  obtain ⟨fd30, F30⟩ := c.def_ 30 (d := d30) rfl
  obtain ⟨fd31, F31⟩ := c.def_ 31 (d := d31) rfl
  obtain ⟨fd32, F32⟩ := c.def_ 32 (d := d32) rfl
  obtain ⟨fd33, F33⟩ := c.def_ 33 (d := d33) rfl
  obtain ⟨fd34, F34⟩ := c.def_ 34 (d := d34) rfl
  obtain ⟨fd35, F35⟩ := c.def_ 35 (d := d35) rfl
  obtain ⟨fd36, F36⟩ := c.def_ 36 (d := d36) rfl
  obtain ⟨fd37, F37⟩ := c.def_ 37 (d := d37) rfl
  obtain ⟨fd38, F38⟩ := c.def_ 38 (d := d38) rfl
  obtain ⟨fd39, F39⟩ := c.def_ 39 (d := d39) rfl
  have e := hfa.symm.trans (He.glo_ok X G (c.fact 16 (f := .glo "law") rfl))
  cases e
  have b := FunD.bindsA (ps := ["_law_script"]) F16 fun _ _ _ _ _ _ us hl => match us, hl with | [_], _ => rfl
  let cc : CC := { H := He.ga K "Hall", O := He.ga K "Order", L := He.ga K "Links" }
  have T : Tx K mg cc := {
    clH := He.cls_ok (c.fact 53 (f := .cls "Hall") rfl)
    clO := He.cls_ok (c.fact 41 (f := .cls "Order") rfl)
    clL := He.cls_ok (c.fact 18 (f := .cls "Links") rfl)
    nHo := He.noat_ok (c.fact 56 (f := .noat "Hall" "order") rfl)
    nHl := He.noat_ok (c.fact 55 (f := .noat "Hall" "links") rfl)
    nOb := He.noat_ok (c.fact 43 (f := .noat "Order" "below") rfl)
    nOt := He.noat_ok (c.fact 44 (f := .noat "Order" "told") rfl)
    nLo := He.noat_ok (c.fact 23 (f := .noat "Links" "order") rfl)
    nLl := He.noat_ok (c.fact 22 (f := .noat "Links" "linked") rfl)
    nLa := He.noat_ok (c.fact 20 (f := .noat "Links" "above") rfl)
    nLb := He.noat_ok (c.fact 21 (f := .noat "Links" "beneath") rfl)
    mkH := (He.mkr_ok (c.fact 54 (f := .mkr "Hall") rfl)).makes
    kpH := (He.mkr_ok (c.fact 54 (f := .mkr "Hall") rfl)).kp
    gH := He.glo_ok X G (c.fact 52 (f := .glo "Hall") rfl)
    mkO := (He.mkr_ok (c.fact 42 (f := .mkr "Order") rfl)).makes
    kpO := (He.mkr_ok (c.fact 42 (f := .mkr "Order") rfl)).kp
    gO := He.glo_ok X G (c.fact 40 (f := .glo "Order") rfl)
    mkL := (He.mkr_ok (c.fact 19 (f := .mkr "Links") rfl)).makes
    kpL := (He.mkr_ok (c.fact 19 (f := .mkr "Links") rfl)).kp
    gL := He.glo_ok X G (c.fact 17 (f := .glo "Links") rfl)
    most := He.int_ok X G (c.fact 79 (f := .int "MOST_THINGS" 24) rfl)
    zLen := He.free_ok X G (c.fact 65 (f := .free "len") rfl)
    zSorted := He.free_ok X G (c.fact 66 (f := .free "sorted") rfl)
    zList := He.free_ok X G (c.fact 67 (f := .free "list") rfl)
    zIsi := He.free_ok X G (c.fact 68 (f := .free "isinstance") rfl)
    zInt := He.free_ok X G (c.fact 73 (f := .free "int") rfl)
    zBool := He.free_ok X G (c.fact 74 (f := .free "bool") rfl)
    zSet := He.free_ok X G (c.fact 69 (f := .free "set") rfl)
    zDict := He.free_ok X G (c.fact 72 (f := .free "dict") rfl)
    zMax := He.free_ok X G (c.fact 70 (f := .free "max") rfl)
    zRev := He.free_ok X G (c.fact 78 (f := .free "reversed") rfl) }
  have D0 : GD K mg "floor_of" s_floor_of := ⟨_, fd0, He.glo_ok X G (c.fact 0 (f := .glo "floor_of") rfl), F0⟩
  have D1 : GD K mg "floors_of" s_floors_of := ⟨_, fd1, He.glo_ok X G (c.fact 1 (f := .glo "floors_of") rfl), F1⟩
  have D2 : GD K mg "longest_of" s_longest_of := ⟨_, fd2, He.glo_ok X G (c.fact 2 (f := .glo "longest_of") rfl), F2⟩
  have D3 : GD K mg "bit_of" s_bit_of := ⟨_, fd3, He.glo_ok X G (c.fact 3 (f := .glo "bit_of") rfl), F3⟩
  have D4 : GD K mg "has" s_has := ⟨_, fd4, He.glo_ok X G (c.fact 4 (f := .glo "has") rfl), F4⟩
  have D5 : GD K mg "_law_mixed" s_w_mixed := ⟨_, fd5, He.glo_ok X G (c.fact 5 (f := .glo "_law_mixed") rfl), F5⟩
  have D6 : GD K mg "_law_some" s_w_some := ⟨_, fd6, He.glo_ok X G (c.fact 6 (f := .glo "_law_some") rfl), F6⟩
  have D7 : GD K mg "_law_grown" s_w_grown := ⟨_, fd7, He.glo_ok X G (c.fact 7 (f := .glo "_law_grown") rfl), F7⟩
  have D8 : GD K mg "_law_fewer" s_w_fewer := ⟨_, fd8, He.glo_ok X G (c.fact 8 (f := .glo "_law_fewer") rfl), F8⟩
  have D9 : GD K mg "_law_apart" s_w_apart := ⟨_, fd9, He.glo_ok X G (c.fact 9 (f := .glo "_law_apart") rfl), F9⟩
  have D10 : GD K mg "_law_is_free" s_w_is_free := ⟨_, fd10, He.glo_ok X G (c.fact 10 (f := .glo "_law_is_free") rfl), F10⟩
  have D11 : GD K mg "_law_box" s_w_box := ⟨_, fd11, He.glo_ok X G (c.fact 11 (f := .glo "_law_box") rfl), F11⟩
  have D12 : GD K mg "_law_layers" s_w_layers := ⟨_, fd12, He.glo_ok X G (c.fact 12 (f := .glo "_law_layers") rfl), F12⟩
  have D13 : GD K mg "_law_side" s_w_side := ⟨_, fd13, He.glo_ok X G (c.fact 13 (f := .glo "_law_side") rfl), F13⟩
  have D14 : GD K mg "_law_crown" s_w_crown := ⟨_, fd14, He.glo_ok X G (c.fact 14 (f := .glo "_law_crown") rfl), F14⟩
  have D15 : GD K mg "_law_put_in" s_w_put_in := ⟨_, fd15, He.glo_ok X G (c.fact 15 (f := .glo "_law_put_in") rfl), F15⟩
  have D17 : MD K cc.L "__init__" "Links.__init__" sL_init := ⟨_, fd17, He.meth_ok (c.fact 24 (f := .meth "Links" "__init__") rfl), F17⟩
  have D18 : MD K cc.L "link" "Links.link" sL_link := ⟨_, fd18, He.meth_ok (c.fact 25 (f := .meth "Links" "link") rfl), F18⟩
  have D19 : MD K cc.L "climbed" "Links.climbed" sL_climbed := ⟨_, fd19, He.meth_ok (c.fact 26 (f := .meth "Links" "climbed") rfl), F19⟩
  have D20 : MD K cc.L "joined" "Links.joined" sL_joined := ⟨_, fd20, He.meth_ok (c.fact 27 (f := .meth "Links" "joined") rfl), F20⟩
  have D21 : MD K cc.L "add" "Links.add" sL_add := ⟨_, fd21, He.meth_ok (c.fact 28 (f := .meth "Links" "add") rfl), F21⟩
  have D22 : MD K cc.L "ladders" "Links.ladders" sL_ladders := ⟨_, fd22, He.meth_ok (c.fact 29 (f := .meth "Links" "ladders") rfl), F22⟩
  have D23 : MD K cc.L "reached" "Links.reached" sL_reached := ⟨_, fd23, He.meth_ok (c.fact 30 (f := .meth "Links" "reached") rfl), F23⟩
  have D24 : MD K cc.L "free" "Links.free" sL_free := ⟨_, fd24, He.meth_ok (c.fact 31 (f := .meth "Links" "free") rfl), F24⟩
  have D25 : MD K cc.O "__init__" "Order.__init__" sO_init := ⟨_, fd25, He.meth_ok (c.fact 45 (f := .meth "Order" "__init__") rfl), F25⟩
  have D26 : MD K cc.O "is_thing" "Order.is_thing" sO_is_thing := ⟨_, fd26, He.meth_ok (c.fact 46 (f := .meth "Order" "is_thing") rfl), F26⟩
  have D27 : MD K cc.O "need_thing" "Order.need_thing" sO_need_thing := ⟨_, fd27, He.meth_ok (c.fact 47 (f := .meth "Order" "need_thing") rfl), F27⟩
  have D28 : MD K cc.O "need_things" "Order.need_things" sO_need_things := ⟨_, fd28, He.meth_ok (c.fact 48 (f := .meth "Order" "need_things") rfl), F28⟩
  have D29 : MD K cc.O "put" "Order.put" sO_put := ⟨_, fd29, He.meth_ok (c.fact 49 (f := .meth "Order" "put") rfl), F29⟩
  have D30 : MD K cc.O "things" "Order.things" sO_things := ⟨_, fd30, He.meth_ok (c.fact 50 (f := .meth "Order" "things") rfl), F30⟩
  have D31 : MD K cc.O "lies_above" "Order.lies_above" sO_lies_above := ⟨_, fd31, He.meth_ok (c.fact 51 (f := .meth "Order" "lies_above") rfl), F31⟩
  have D32 : MD K cc.H "__init__" "Hall.__init__" sH_init := ⟨_, fd32, He.meth_ok (c.fact 57 (f := .meth "Hall" "__init__") rfl), F32⟩
  have D33 : MD K cc.H "put" "Hall.put" sH_put := ⟨_, fd33, He.meth_ok (c.fact 58 (f := .meth "Hall" "put") rfl), F33⟩
  have D34 : MD K cc.H "things" "Hall.things" sH_things := ⟨_, fd34, He.meth_ok (c.fact 59 (f := .meth "Hall" "things") rfl), F34⟩
  have D35 : MD K cc.H "lies_above" "Hall.lies_above" sH_lies_above := ⟨_, fd35, He.meth_ok (c.fact 60 (f := .meth "Hall" "lies_above") rfl), F35⟩
  have D36 : MD K cc.H "ladders" "Hall.ladders" sH_ladders := ⟨_, fd36, He.meth_ok (c.fact 61 (f := .meth "Hall" "ladders") rfl), F36⟩
  have D37 : MD K cc.H "free" "Hall.free" sH_free := ⟨_, fd37, He.meth_ok (c.fact 62 (f := .meth "Hall" "free") rfl), F37⟩
  have D38 : MD K cc.H "floors" "Hall.floors" sH_floors := ⟨_, fd38, He.meth_ok (c.fact 63 (f := .meth "Hall" "floors") rfl), F38⟩
  have D39 : MD K cc.H "longest" "Hall.longest" sH_longest := ⟨_, fd39, He.meth_ok (c.fact 64 (f := .meth "Hall" "longest") rfl), F39⟩
  refine ⟨fd16, fun s v => b s [v] rfl, fun base _ _ => ?_⟩
  have g_bit := ok_bit (P := P) (w := w) (base := base) D3
  have g_has := ok_has (P := P) (w := w) (base := base) D4
  have o_init := ok_O_init (P := P) (w := w) (base := base) T D25
  have o_is := ok_O_is (P := P) (w := w) (base := base) T D26
  have o_need := ok_O_need (P := P) (w := w) (base := base) T D27 o_is
  have o_needs := ok_O_needs (P := P) (w := w) (base := base) T D28 o_need
  have o_put := ok_O_put (P := P) (w := w) (base := base) T D29 o_needs g_bit
  have o_things := ok_O_things (P := P) (w := w) (base := base) T D30
  have o_lies := ok_O_lies (P := P) (w := w) (base := base) T D31 g_has
  have l_init := ok_L_init (P := P) (w := w) (base := base) T D17
  have l_link := ok_L_link (P := P) (w := w) (base := base) T D18
  have l_climb := ok_L_climbed (P := P) (w := w) (base := base) T D19 l_link o_lies 25
  have l_joined := ok_L_joined (P := P) (w := w) (base := base) T D20 l_climb
  have l_add := ok_L_add (P := P) (w := w) (base := base) T D21
  have l_ladders := ok_L_ladders (P := P) (w := w) (base := base) T D22
  have l_reached := ok_L_reached (P := P) (w := w) (base := base) T D23 o_lies
  have l_free := ok_L_free (P := P) (w := w) (base := base) T D24 l_reached
  have h_init := ok_H_init (P := P) (w := w) (base := base) T D32 o_init l_init
  have h_put := ok_H_put (P := P) (w := w) (base := base) T D33 o_put l_add l_joined
  have h_things := ok_H_things (P := P) (w := w) (base := base) T D34 o_things
  have h_lies := ok_H_lies (P := P) (w := w) (base := base) T D35 o_need o_lies
  have h_ladders := ok_H_ladders (P := P) (w := w) (base := base) T D36 l_ladders
  have h_free := ok_H_free (P := P) (w := w) (base := base) T D37 l_free
  have g_mixed := ok_mixed (P := P) (w := w) (base := base) D5
  have g_some := ok_some (P := P) (w := w) (base := base) (He.free_ok X G (c.fact 76 (f := .free "enumerate") rfl)) D6 g_mixed
  have g_grown := ok_grown (P := P) (w := w) (base := base) T.zList T.zSet T.zSorted D7
  have g_fewer := ok_fewer (P := P) (w := w) (base := base) T.zList D8
  have g_apart := ok_apart (P := P) (w := w) (base := base) D9
  have g_isfree := ok_is_free (P := P) (w := w) (base := base) T (He.free_ok X G (c.fact 77 (f := .free "all") rfl)) D10 g_apart
  have g_fl0 := ok_floor0 (P := P) (w := w) (base := base) (c := cc) D0
  have g_fl1 := ok_floor (P := P) (w := w) (base := base) T D0 o_things o_lies 0 2 (by decide) (g_fl0.mono (by decide))
  have g_fl2 := ok_floor (P := P) (w := w) (base := base) T D0 o_things o_lies 1 3 (by decide) g_fl1
  have g_floors := ok_floors (P := P) (w := w) (base := base) T D1 o_things g_fl2
  have g_longest := ok_longest (P := P) (w := w) (base := base) T D2 o_lies g_floors
  have h_floors := ok_H_floors (P := P) (w := w) (base := base) T D38 g_floors
  have h_longest := ok_H_longest (P := P) (w := w) (base := base) T D39 g_longest
  have g_box := ok_box (P := P) (w := w) (base := base) T (He.free_ok X G (c.fact 75 (f := .free "range") rfl)) (He.free_ok X G (c.fact 71 (f := .free "min") rfl)) D11
  have g_layers := ok_layers (P := P) (w := w) (base := base) T (He.free_ok X G (c.fact 75 (f := .free "range") rfl)) T.zMax D12
  have g_side := ok_side (P := P) (w := w) (base := base) T (He.free_ok X G (c.fact 75 (f := .free "range") rfl)) T.zMax D13
  have g_crown := ok_crown (P := P) (w := w) (base := base) T (He.free_ok X G (c.fact 75 (f := .free "range") rfl)) D14
  have g_putin := ok_putin (P := P) (w := w) (base := base) T (He.free_ok X G (c.fact 75 (f := .free "range") rfl)) (He.free_ok X G (c.fact 77 (f := .free "all") rfl)) D15 h_put g_mixed
  exact ok_law09 T (He.free_ok X G (c.fact 75 (f := .free "range") rfl)) F16 h_init h_ladders h_free h_floors h_longest g_mixed g_box g_layers g_side g_crown g_putin
end FW
open PySem PySem.W PySem.Calls PyProof.Rows
theorem PySem.Challenge.cw_fewladders_k09_known_halls_holds : PySem.Challenge.rw_fewladders_k09_known_halls.Holds := by
  w_on; o_law
  refine HandSHeadRun.head_any (r := OpenLaw.row PySem.Challenge.rw_fewladders_k09_known_halls) (q := view (OpenLaw.row PySem.Challenge.rw_fewladders_k09_known_halls).prog [32]) (H := FW.hkL) (ob := FW.obL) (M := 4000) (loose := FW.looseL) (d := HandSHeadRun.topDef (OpenLaw.row PySem.Challenge.rw_fewladders_k09_known_halls).prog 32) (kwd := []) FW.obL_eq
    (by kernel_rfl) (fun s => by kernel_rfl) FW.runL (by kernel_rfl) (by kernel_rfl) (by kernel_rfl) (by rfl) (by first | assumption | decide +kernel) (by decide +kernel) ⟨rfl, rfl, rfl, rfl, rfl, by decide +kernel⟩ ?hw ?hc
  case hw => w_witness2
  case hc =>
    refine L2.walk_ofE (l := PySem.Challenge.rw_fewladders_k09_known_halls) (n := 63) (k := 31) (x := "_law_script") (CX := L2.CX0) rfl (by decide) (by kernel_rfl) ⟨rfl, by decide, by decide⟩ ?F (fun _ _ _ _ z => z)
    intro w mg fa h Y G hmg0
    obtain ⟨K, KX, c⟩ := Y
    have hmg : mg ("law" : PySem.Str) = some (.ref fa) := by
      have e : (HandSHeadRun.topDef (OpenLaw.row PySem.Challenge.rw_fewladders_k09_known_halls).prog 32).name = ("law" : PySem.Str) := by kernel_rfl
      rw [← e]
      exact hmg0
    obtain ⟨fd, hb, hF⟩ := FW.facts (P := (PySem.Challenge.rw_fewladders_k09_known_halls).prog) (w := w) KX G hmg c
    exact ⟨K, fd, FW.spLaw K, KX, hb, fun H a ns hl _ hS => ⟨a, ns, rfl, hS, hl, fun _ => rfl⟩, hF⟩
