import PyProof.Rows.All
import Wide.All
import OpenK.AllK
import Wide.FinOn
import HandS.ForMost
import HandS.TryOnly
import HandS.ExcOwn
import HandS.WordsExc
import HandS.TupMul
import HandS.TupAny
import HandS.Wide
import HandS.IsInst
import HandS.Flow
import HandS.Small
import HandS.Conv
import HandS.Zip
import KE.KDictKeyed
import KE.KDictDisplayH
import KE.SortData
import KE.GoesMore
import HandS.Walk
import PySem.Challenge.RW_placehues_k12_whole_stands_that_come
set_option linter.all false
namespace K12
/-! ### orders: changes, ways -/
abbrev Chg := Nat × Nat
abbrev Way := List Chg
def clt (a b : Chg) : Bool := decide (a.1 < b.1 ∨ (a.1 = b.1 ∧ a.2 < b.2))
theorem clt_iff {a b : Chg} : clt a b = true ↔ (a.1 < b.1 ∨ (a.1 = b.1 ∧ a.2 < b.2)) := by unfold clt; exact decide_eq_true_iff
theorem clt_irr (a : Chg) : clt a a = false := by
  cases h : clt a a with
  | false => rfl
  | true => have := clt_iff.mp h; omega
theorem clt_tri {a b : Chg} (h : a ≠ b) (h1 : clt a b = false) : clt b a = true := by
  refine clt_iff.mpr ?_
  have n1 : ¬ (a.1 < b.1 ∨ (a.1 = b.1 ∧ a.2 < b.2)) := fun z => by rw [clt_iff.mpr z] at h1; cases h1
  have n2 : ¬ (a.1 = b.1 ∧ a.2 = b.2) := fun z => h (Prod.ext z.1 z.2)
  omega
theorem clt_trans {a b c : Chg} (h1 : clt a b = true) (h2 : clt b c = true) : clt a c = true := by
  have := clt_iff.mp h1
  have := clt_iff.mp h2
  exact clt_iff.mpr (by omega)
theorem clt_asym {a b : Chg} (h : clt a b = true) : clt b a = false := by
  cases q : clt b a with
  | false => rfl
  | true =>
    have := clt_iff.mp h
    have := clt_iff.mp q
    omega
theorem clt_ne {a b : Chg} (h : clt a b = true) : a ≠ b := fun e => by rw [e, clt_irr] at h; cases h

def wlt : Way → Way → Bool
  | [], [] => false
  | [], _ :: _ => true
  | _ :: _, [] => false
  | a :: u, b :: v => if a = b then wlt u v else clt a b
theorem wlt_cons (a b : Chg) (u v : Way) : wlt (a :: u) (b :: v) = if a = b then wlt u v else clt a b := rfl
theorem wlt_irr : ∀ u : Way, wlt u u = false
  | [] => rfl
  | a :: u => by rw [wlt_cons, if_pos rfl, wlt_irr u]
theorem wlt_tri : ∀ {u v : Way}, u ≠ v → wlt u v = false → wlt v u = true
  | [], [], h, _ => absurd rfl h
  | [], _ :: _, _, h => by cases h
  | _ :: _, [], _, _ => rfl
  | a :: u, b :: v, h, h1 => by
    rw [wlt_cons] at h1
    rw [wlt_cons]
    by_cases e : a = b
    · rw [if_pos e] at h1
      rw [if_pos e.symm]
      exact wlt_tri (fun z => h (by rw [e, z])) h1
    · rw [if_neg e] at h1
      rw [if_neg (fun z => e z.symm)]
      exact clt_tri e h1
theorem wlt_asym : ∀ {u v : Way}, wlt u v = true → wlt v u = false
  | [], [], h => by cases h
  | [], _ :: _, _ => rfl
  | _ :: _, [], h => by cases h
  | a :: u, b :: v, h => by
    rw [wlt_cons] at h
    rw [wlt_cons]
    by_cases e : a = b
    · rw [if_pos e] at h
      rw [if_pos e.symm]
      exact wlt_asym h
    · rw [if_neg e] at h
      rw [if_neg (fun z => e z.symm)]
      exact clt_asym h
theorem wlt_trans : ∀ {u v w : Way}, wlt u v = true → wlt v w = true → wlt u w = true
  | [], [], _, h, _ => by cases h
  | [], _ :: _, [], _, h => by cases h
  | [], _ :: _, _ :: _, _, _ => rfl
  | _ :: _, [], _, h, _ => by cases h
  | _ :: _, _ :: _, [], _, h => by cases h
  | a :: u, b :: v, c :: w, h1, h2 => by
    rw [wlt_cons] at h1 h2 ⊢
    by_cases e : a = b
    · subst e
      rw [if_pos rfl] at h1
      by_cases e2 : a = c
      · rw [if_pos e2] at h2 ⊢
        exact wlt_trans h1 h2
      · rw [if_neg e2] at h2 ⊢
        exact h2
    · rw [if_neg e] at h1
      by_cases e2 : b = c
      · subst e2
        rw [if_neg e]
        exact h1
      · rw [if_neg e2] at h2
        have h3 := clt_trans h1 h2
        rw [if_neg (clt_ne h3)]
        exact h3
/-- not below, not below: none below -/
theorem wle_trans {u v w : Way} (h1 : wlt v u = false) (h2 : wlt w v = false) : wlt w u = false := by
  by_cases e : u = v
  · rw [e]; exact h2
  · by_cases e2 : v = w
    · rw [← e2]; exact h1
    · exact wlt_asym (wlt_trans (wlt_tri (fun z => e z.symm) h1) (wlt_tri (fun z => e2 z.symm) h2))
theorem wle_antisymm {u v : Way} (h1 : wlt v u = false) (h2 : wlt u v = false) : u = v := by
  by_cases e : u = v
  · exact e
  · rw [wlt_tri e h2] at h1; cases h1
theorem wlt_snoc : ∀ {u v : Way} (a b : Chg), u.length = v.length → wlt (u ++ [a]) (v ++ [b]) = if u = v then clt a b else wlt u v
  | [], [], a, b, _ => by
    show (if a = b then wlt [] [] else clt a b) = _
    rw [if_pos rfl]
    by_cases e : a = b
    · rw [if_pos e, e, clt_irr]; rfl
    · rw [if_neg e]
  | [], _ :: _, _, _, h => by cases h
  | _ :: _, [], _, _, h => by cases h
  | x :: u, y :: v, a, b, h => by
    have h' : u.length = v.length := Nat.succ.inj h
    rw [List.cons_append, List.cons_append, wlt_cons, wlt_cons, wlt_snoc a b h']
    by_cases e : x = y
    · subst e
      rw [if_pos rfl, if_pos rfl]
      by_cases e2 : u = v
      · rw [if_pos e2, if_pos (by rw [e2])]
      · rw [if_neg e2, if_neg (fun z => e2 (List.cons.inj z).2)]
    · rw [if_neg e, if_neg e, if_neg (fun z => e (List.cons.inj z).1)]
/-- one least among many -/
theorem least_of : ∀ (l : List Way), l ≠ [] → ∃ m, m ∈ l ∧ ∀ x, x ∈ l → wlt x m = false
  | [], h => absurd rfl h
  | [a], _ => ⟨a, List.mem_singleton.mpr rfl, fun x hx => by rw [List.mem_singleton.mp hx]; exact wlt_irr a⟩
  | a :: b :: r, _ => by
    obtain ⟨m, hm, q⟩ := least_of (b :: r) (by simp)
    by_cases h : wlt a m = true
    · refine ⟨a, List.mem_cons_self, fun x hx => ?_⟩
      rcases List.mem_cons.mp hx with e | hx
      · rw [e]; exact wlt_irr a
      · exact wle_trans (v := m) (wlt_asym h) (q x hx)
    · have h' : wlt a m = false := by
        cases z : wlt a m with
        | false => rfl
        | true => exact absurd z h
      refine ⟨m, List.mem_cons_of_mem _ hm, fun x hx => ?_⟩
      rcases List.mem_cons.mp hx with e | hx
      · rw [e]; exact h'
      · exact q x hx

/-! ### best ways: the shortest, of these the least -/
section
variable {S : Type} [DecidableEq S] (step : S → Chg → S) (C : List Chg) (s0 : S)
def run (w : Way) : S := w.foldl step s0
def Valid (w : Way) : Prop := ∀ c, c ∈ w → c ∈ C
structure Best (s : S) (w : Way) : Prop where
  valid : Valid C w
  to : run step s0 w = s
  least : ∀ w', Valid C w' → run step s0 w' = s → w.length < w'.length ∨ (w.length = w'.length ∧ wlt w' w = false)
variable {step C s0}
theorem run_snoc (w : Way) (c : Chg) : run step s0 (w ++ [c]) = step (run step s0 w) c := by
  unfold run
  rw [List.foldl_append]
  rfl
theorem Valid.snoc {w : Way} {c : Chg} (h : Valid C w) (hc : c ∈ C) : Valid C (w ++ [c]) := fun d hd => by
  rcases List.mem_append.mp hd with q | q
  · exact h d q
  · rw [List.mem_singleton.mp q]; exact hc
theorem Valid.left {w : Way} {c : Chg} (h : Valid C (w ++ [c])) : Valid C w := fun d hd => h d (List.mem_append_left _ hd)
theorem Valid.last {w : Way} {c : Chg} (h : Valid C (w ++ [c])) : c ∈ C := h c (List.mem_append_right _ (List.mem_singleton.mpr rfl))
theorem Best.uniq {s : S} {u v : Way} (a : Best step C s0 s u) (b : Best step C s0 s v) : u = v := by
  have h1 := a.least v b.valid b.to
  have h2 := b.least u a.valid a.to
  rcases h1 with q | ⟨q, x⟩
  · rcases h2 with z | ⟨z, _⟩ <;> omega
  · rcases h2 with z | ⟨_, y⟩
    · omega
    · exact wle_antisymm x y
def allW (C : List Chg) : Nat → List Way
  | 0 => [[]]
  | n + 1 => (allW C n).flatMap fun w => C.map fun c => w ++ [c]
theorem mem_allW {C : List Chg} : ∀ {n : Nat} {w : Way}, w ∈ allW C n ↔ Valid C w ∧ w.length = n
  | 0, w => by
    show w ∈ [[]] ↔ _
    rw [List.mem_singleton]
    constructor
    · rintro rfl; exact ⟨fun _ h => (nomatch h), rfl⟩
    · rintro ⟨_, h⟩; exact List.length_eq_zero_iff.mp h
  | n + 1, w => by
    show w ∈ (allW C n).flatMap (fun w => C.map fun c => w ++ [c]) ↔ _
    rw [List.mem_flatMap]
    constructor
    · rintro ⟨u, hu, h⟩
      obtain ⟨c, hc, rfl⟩ := List.mem_map.mp h
      obtain ⟨h1, h2⟩ := mem_allW.mp hu
      exact ⟨h1.snoc hc, by rw [List.length_append, h2]; rfl⟩
    · rintro ⟨h, hl⟩
      have hne : w ≠ [] := fun e => by rw [e] at hl; cases hl
      refine ⟨w.dropLast, mem_allW.mpr ⟨fun c hc => h c (List.dropLast_subset _ hc), by rw [List.length_dropLast, hl]; rfl⟩, ?_⟩
      exact List.mem_map.mpr ⟨w.getLast hne, h _ (List.getLast_mem hne), List.dropLast_concat_getLast hne⟩
theorem best_of : ∀ (n : Nat) {w : Way}, w.length = n → Valid C w → ∃ b, Best step C s0 (run step s0 w) b ∧ b.length ≤ n := by
  intro n
  induction n using Nat.strongRecOn with
  | ind n ih =>
    intro w hw hv
    by_cases h : ∃ u, Valid C u ∧ run step s0 u = run step s0 w ∧ u.length < n
    · obtain ⟨u, h1, h2, h3⟩ := h
      obtain ⟨b, hb, hl⟩ := ih u.length h3 rfl h1
      exact ⟨b, by rw [← h2]; exact hb, by omega⟩
    · obtain ⟨m, hm, q⟩ := least_of ((allW C n).filter fun u => decide (run step s0 u = run step s0 w)) (fun e => by
        have z : w ∈ (allW C n).filter fun u => decide (run step s0 u = run step s0 w) := List.mem_filter.mpr ⟨mem_allW.mpr ⟨hv, hw⟩, by simp⟩
        rw [e] at z
        cases z)
      obtain ⟨m1, m2⟩ := List.mem_filter.mp hm
      obtain ⟨v1, v2⟩ := mem_allW.mp m1
      have m3 : run step s0 m = run step s0 w := of_decide_eq_true m2
      refine ⟨m, ⟨v1, m3, fun w' hv' hr => ?_⟩, by omega⟩
      by_cases hl : w'.length = n
      · exact .inr ⟨by omega, q w' (List.mem_filter.mpr ⟨mem_allW.mpr ⟨hv', hl⟩, by simp [hr]⟩)⟩
      · have : ¬ w'.length < n := fun z => h ⟨w', hv', hr, z⟩
        exact .inl (by omega)
theorem Best.prefix {s : S} {w : Way} {c : Chg} (b : Best step C s0 s (w ++ [c])) : Best step C s0 (run step s0 w) w := by
  refine ⟨b.valid.left, rfl, fun w' hv hr => ?_⟩
  have q := b.least (w' ++ [c]) (hv.snoc b.valid.last) (by rw [run_snoc, hr, ← run_snoc (step := step) (s0 := s0)]; exact b.to)
  rw [List.length_append, List.length_append] at q
  rcases q with q | ⟨q, x⟩
  · exact .inl (Nat.lt_of_add_lt_add_right q)
  · have e : w.length = w'.length := Nat.add_right_cancel q
    refine .inr ⟨e, ?_⟩
    rw [wlt_snoc c c e.symm] at x
    by_cases z : w' = w
    · rw [z]; exact wlt_irr w
    · rw [if_neg z] at x; exact x
/-! ### laps -/
abbrev keys (D : List (S × Way)) : List S := D.map (·.1)
structure Lap (step : S → Chg → S) (C : List Chg) (s0 : S) (k : Nat) (D lay : List (S × Way)) : Prop where
  nodup : (keys D).Nodup
  all : ∀ s w, (s, w) ∈ D ↔ Best step C s0 s w ∧ w.length ≤ k
  top : ∀ s w, (s, w) ∈ lay ↔ Best step C s0 s w ∧ w.length = k
def cands (step : S → Chg → S) (C : List Chg) (lay : List (S × Way)) : List (S × Way) := lay.flatMap fun p => C.map fun c => (step p.1 c, p.2 ++ [c])
/-- one candidate for each new key, none below it -/
structure Pick (K : List S) (cs F : List (S × Way)) : Prop where
  nodup : (keys F).Nodup
  sub : ∀ s w, (s, w) ∈ F → (s, w) ∈ cs ∧ s ∉ K
  low : ∀ s w, (s, w) ∈ cs → s ∉ K → ∃ w', (s, w') ∈ F ∧ wlt w w' = false
theorem mem_keys {D : List (S × Way)} {s : S} : s ∈ keys D ↔ ∃ w, (s, w) ∈ D := by
  constructor
  · intro h
    obtain ⟨⟨a, w⟩, hp, e⟩ := List.mem_map.mp h
    have e' : a = s := e
    rw [e'] at hp
    exact ⟨w, hp⟩
  · rintro ⟨w, h⟩
    exact List.mem_map.mpr ⟨(s, w), h, rfl⟩
theorem nodup_val : ∀ {D : List (S × Way)} {s : S} {u v : Way}, (keys D).Nodup → (s, u) ∈ D → (s, v) ∈ D → u = v
  | [], _, _, _, _, h, _ => nomatch h
  | (a, w) :: D, s, u, v, hn, h1, h2 => by
    have hn' : a ∉ keys D ∧ (keys D).Nodup := List.nodup_cons.mp hn
    rcases List.mem_cons.mp h1 with e1 | h1
    · rcases List.mem_cons.mp h2 with e2 | h2
      · rw [(Prod.mk.inj e1).2, (Prod.mk.inj e2).2]
      · exact absurd (mem_keys.mpr ⟨v, by rw [← (Prod.mk.inj e1).1]; exact h2⟩) hn'.1
    · rcases List.mem_cons.mp h2 with e2 | h2
      · exact absurd (mem_keys.mpr ⟨u, by rw [← (Prod.mk.inj e2).1]; exact h1⟩) hn'.1
      · exact nodup_val hn'.2 h1 h2
theorem mem_cands {lay : List (S × Way)} {s : S} {w : Way} : (s, w) ∈ cands step C lay ↔ ∃ t u c, (t, u) ∈ lay ∧ c ∈ C ∧ s = step t c ∧ w = u ++ [c] := by
  unfold cands
  rw [List.mem_flatMap]
  constructor
  · rintro ⟨⟨t, u⟩, hp, h⟩
    obtain ⟨c, hc, e⟩ := List.mem_map.mp h
    exact ⟨t, u, c, hp, hc, (Prod.mk.inj e).1.symm, (Prod.mk.inj e).2.symm⟩
  · rintro ⟨t, u, c, hp, hc, rfl, rfl⟩
    exact ⟨(t, u), hp, List.mem_map.mpr ⟨c, hc, rfl⟩⟩
/-- a lap's picks are the next layer -/
theorem Lap.next_lay {k : Nat} {D lay F : List (S × Way)} (L : Lap step C s0 k D lay) (P : Pick (keys D) (cands step C lay) F) :
    ∀ s w, (s, w) ∈ F ↔ Best step C s0 s w ∧ w.length = k + 1 := by
  have notin : ∀ s, s ∉ keys D → ∀ w, Valid C w → run step s0 w = s → k < w.length := fun s hs w hv hr => by
    by_cases h : k < w.length
    · exact h
    · obtain ⟨b, hb, hl⟩ := best_of (step := step) (s0 := s0) w.length rfl hv
      rw [hr] at hb
      exact absurd (mem_keys.mpr ⟨b, (L.all s b).mpr ⟨hb, by omega⟩⟩) hs
  have fwd : ∀ s w, (s, w) ∈ F → Best step C s0 s w ∧ w.length = k + 1 := fun s w h => by
    obtain ⟨hc, hk⟩ := P.sub s w h
    obtain ⟨t, u, c, hp, hcC, e1, e2⟩ := mem_cands.mp hc
    obtain ⟨bu, lu⟩ := (L.top t u).mp hp
    have lw : w.length = k + 1 := by rw [e2, List.length_append, lu]; rfl
    refine ⟨⟨?_, ?_, fun w' hv hr => ?_⟩, lw⟩
    · rw [e2]; exact bu.valid.snoc hcC
    · rw [e2, run_snoc, bu.to]; exact e1.symm
    · have l1 := notin s hk w' hv hr
      by_cases hl : w'.length = k + 1
      · refine .inr ⟨by omega, ?_⟩
        have hne : w' ≠ [] := fun e => by rw [e] at hl; cases hl
        have ew := List.dropLast_concat_getLast hne
        generalize w'.dropLast = v at ew
        generalize w'.getLast hne = d at ew
        subst ew
        have lv : v.length = k := by rw [List.length_append] at hl; exact Nat.add_right_cancel hl
        obtain ⟨b, hb, hbl⟩ := best_of (step := step) (s0 := s0) v.length rfl hv.left
        have hs : run step s0 (b ++ [d]) = s := by rw [run_snoc, hb.to, ← run_snoc (step := step) (s0 := s0)]; exact hr
        have lb := notin s hk (b ++ [d]) (hb.valid.snoc hv.last) hs
        rw [List.length_append] at lb
        have lb' : b.length = k := by
          have : k < b.length + 1 := lb
          omega
        have hvb : wlt v b = false := by
          rcases hb.least v hv.left rfl with z | ⟨_, z⟩
          · omega
          · exact z
        have hm : (s, b ++ [d]) ∈ cands step C lay := mem_cands.mpr ⟨_, b, d, (L.top _ b).mpr ⟨hb, lb'⟩, hv.last, by rw [← hs, run_snoc, hb.to], rfl⟩
        obtain ⟨w2, h2, q2⟩ := P.low s _ hm hk
        have e3 : w2 = w := nodup_val P.nodup h2 h
        rw [e3] at q2
        refine wle_trans q2 ?_
        rw [wlt_snoc d d (by omega)]
        by_cases z : v = b
        · rw [if_pos z]; exact clt_irr d
        · rw [if_neg z]; exact hvb
      · exact .inl (by omega)
  intro s w
  refine ⟨fwd s w, fun ⟨b, hl⟩ => ?_⟩
  have hne : w ≠ [] := fun e => by rw [e] at hl; cases hl
  have ew := List.dropLast_concat_getLast hne
  generalize w.dropLast = u at ew
  generalize w.getLast hne = c at ew
  subst ew
  have lu : u.length = k := by rw [List.length_append] at hl; exact Nat.add_right_cancel hl
  have hm : (s, u ++ [c]) ∈ cands step C lay := mem_cands.mpr ⟨_, u, c, (L.top _ u).mpr ⟨b.prefix, lu⟩, b.valid.last, by rw [← run_snoc (step := step) (s0 := s0)]; exact b.to.symm, rfl⟩
  have hk : s ∉ keys D := fun h => by
    obtain ⟨v, hv⟩ := mem_keys.mp h
    obtain ⟨bv, lv⟩ := (L.all s v).mp hv
    rw [b.uniq bv] at hl
    omega
  obtain ⟨w2, h2, _⟩ := P.low s _ hm hk
  rw [b.uniq (fwd s w2 h2).1]
  exact h2
theorem Lap.next {k : Nat} {D lay F : List (S × Way)} (L : Lap step C s0 k D lay) (P : Pick (keys D) (cands step C lay) F) : Lap step C s0 (k + 1) (D ++ F) F := by
  have N := L.next_lay P
  refine ⟨?_, fun s w => ?_, N⟩
  · show ((D ++ F).map (·.1)).Nodup
    rw [List.map_append]
    refine List.nodup_append.mpr ⟨L.nodup, P.nodup, fun a ha b hb e => ?_⟩
    subst e
    obtain ⟨w, hw⟩ := mem_keys.mp hb
    exact (P.sub a w hw).2 ha
  · rw [List.mem_append, L.all, N]
    constructor
    · rintro (⟨b, h⟩ | ⟨b, h⟩)
      · exact ⟨b, by omega⟩
      · exact ⟨b, by omega⟩
    · rintro ⟨b, h⟩
      by_cases z : w.length = k + 1
      · exact .inr ⟨b, z⟩
      · exact .inl ⟨b, by omega⟩
theorem Lap.first : Lap step C s0 0 [(s0, [])] [(s0, [])] := by
  have b : Best step C s0 s0 [] := ⟨fun _ h => (nomatch h), rfl, fun w' _ _ => by
    cases w' with
    | nil => exact .inr ⟨rfl, rfl⟩
    | cons _ _ => exact .inl (by simp)⟩
  have one : ∀ s w, (s, w) ∈ [(s0, ([] : Way))] ↔ Best step C s0 s w ∧ w.length = 0 := fun s w => by
    rw [List.mem_singleton]
    constructor
    · intro e
      rw [(Prod.mk.inj e).1, (Prod.mk.inj e).2]
      exact ⟨b, rfl⟩
    · rintro ⟨bw, hl⟩
      have e : w = [] := List.length_eq_zero_iff.mp hl
      subst e
      rw [← bw.to]
      rfl
  refine ⟨by simp, fun s w => ?_, one⟩
  rw [one]
  constructor
  · rintro ⟨h1, h2⟩; exact ⟨h1, by omega⟩
  · rintro ⟨h1, h2⟩; exact ⟨h1, by omega⟩
/-- no layer: nothing behind it -/
theorem Lap.full {k : Nat} {D : List (S × Way)} (L : Lap step C s0 k D []) : ∀ s w, (s, w) ∈ D ↔ Best step C s0 s w := by
  have no : ∀ (n : Nat) s w, Best step C s0 s w → w.length = k + n → False := by
    intro n
    induction n with
    | zero => exact fun s w b h => nomatch (L.top s w).mpr ⟨b, h⟩
    | succ n ih =>
      intro s w b h
      have hne : w ≠ [] := fun e => by rw [e] at h; cases h
      have ew := List.dropLast_concat_getLast hne
      generalize w.dropLast = u at ew
      generalize w.getLast hne = c at ew
      subst ew
      refine ih _ u b.prefix ?_
      rw [List.length_append] at h
      have : u.length + 1 = k + (n + 1) := h
      omega
  intro s w
  rw [L.all]
  refine ⟨fun h => h.1, fun b => ⟨b, ?_⟩⟩
  by_cases h : w.length ≤ k
  · exact h
  · exact (no (w.length - k) s w b (by omega)).elim
/-- a finished search knows all, and only, the best ways -/
def Full (step : S → Chg → S) (C : List Chg) (s0 : S) (D : List (S × Way)) : Prop := (keys D).Nodup ∧ ∀ s w, (s, w) ∈ D ↔ Best step C s0 s w
theorem Full.keys_iff {D E : List (S × Way)} (a : Full step C s0 D) (b : Full step C s0 E) : ∀ s, s ∈ keys D ↔ s ∈ keys E := fun s => by
  rw [mem_keys, mem_keys]
  constructor
  · rintro ⟨w, h⟩; exact ⟨w, (b.2 s w).mpr ((a.2 s w).mp h)⟩
  · rintro ⟨w, h⟩; exact ⟨w, (a.2 s w).mpr ((b.2 s w).mp h)⟩
theorem Full.perm {D E : List (S × Way)} (a : Full step C s0 D) (b : Full step C s0 E) : (keys D).Perm (keys E) :=
  (List.perm_ext_iff_of_nodup a.1 b.1).mpr (a.keys_iff b)

/-! ### the program's picks: the first candidate of each new key -/
def addP (x : List (S × Way) × List (S × Way)) (c : S × Way) : List (S × Way) × List (S × Way) := if c.1 ∈ keys x.1 then x else (x.1 ++ [c], x.2 ++ [c])
def addF (K : List S) : List (S × Way) → List (S × Way)
  | [] => []
  | c :: r => if c.1 ∈ K then addF K r else c :: addF (K ++ [c.1]) r
theorem foldl_addP : ∀ (cs D F : List (S × Way)), cs.foldl addP (D, F) = (D ++ addF (keys D) cs, F ++ addF (keys D) cs)
  | [], D, F => by simp [addF]
  | c :: r, D, F => by
    rw [List.foldl_cons]
    by_cases h : c.1 ∈ keys D
    · have e : addP (D, F) c = (D, F) := if_pos h
      rw [e, foldl_addP r D F, addF, if_pos h]
    · have e : addP (D, F) c = (D ++ [c], F ++ [c]) := if_neg h
      have ek : keys (D ++ [c]) = keys D ++ [c.1] := by
        show (D ++ [c]).map (·.1) = _
        rw [List.map_append]
        rfl
      rw [e, foldl_addP r, ek, addF, if_neg h]
      simp
theorem addF_sub : ∀ (cs : List (S × Way)) (K : List S), (addF K cs).Sublist cs
  | [], _ => .slnil
  | c :: r, K => by
    rw [addF]
    split
    · exact (addF_sub r K).cons _
    · exact (addF_sub r _).cons_cons _
theorem addF_notin : ∀ (cs : List (S × Way)) (K : List S) (s : S) (w : Way), (s, w) ∈ addF K cs → s ∉ K
  | [], _, _, _, h => nomatch h
  | c :: r, K, s, w, h => by
    rw [addF] at h
    by_cases hc : c.1 ∈ K
    · rw [if_pos hc] at h
      exact addF_notin r K s w h
    · rw [if_neg hc] at h
      rcases List.mem_cons.mp h with e | h
      · rw [← e] at hc; exact hc
      · exact fun z => addF_notin r _ s w h (List.mem_append_left _ z)
theorem addF_nodup : ∀ (cs : List (S × Way)) (K : List S), (keys (addF K cs)).Nodup
  | [], _ => List.nodup_nil
  | c :: r, K => by
    rw [addF]
    split
    · exact addF_nodup r K
    · refine List.nodup_cons.mpr ⟨fun h => ?_, addF_nodup r _⟩
      obtain ⟨w, hw⟩ := mem_keys.mp h
      exact addF_notin r _ _ _ hw (List.mem_append_right _ (List.mem_singleton.mpr rfl))
theorem addF_low : ∀ (cs : List (S × Way)) (K : List S), cs.Pairwise (fun p q => wlt p.2 q.2 = true) → ∀ s w, (s, w) ∈ cs → s ∉ K → ∃ w', (s, w') ∈ addF K cs ∧ wlt w w' = false
  | [], _, _, _, _, h, _ => nomatch h
  | c :: r, K, hp, s, w, h, hk => by
    obtain ⟨hp1, hp2⟩ := List.pairwise_cons.mp hp
    rw [addF]
    by_cases hc : c.1 ∈ K
    · rw [if_pos hc]
      rcases List.mem_cons.mp h with e | h
      · rw [← e] at hc; exact absurd hc hk
      · exact addF_low r K hp2 s w h hk
    · rw [if_neg hc]
      rcases List.mem_cons.mp h with e | h
      · exact ⟨w, by rw [← e]; exact List.mem_cons_self, wlt_irr w⟩
      · by_cases e : s = c.1
        · refine ⟨c.2, by rw [e]; exact List.mem_cons_self, wlt_asym (hp1 _ h)⟩
        · obtain ⟨w', h', q⟩ := addF_low r (K ++ [c.1]) hp2 s w h (fun z => by
            rcases List.mem_append.mp z with z | z
            · exact hk z
            · exact e (List.mem_singleton.mp z))
          exact ⟨w', List.mem_cons_of_mem _ h', q⟩
theorem pick_addF {cs : List (S × Way)} {K : List S} (hp : cs.Pairwise (fun p q => wlt p.2 q.2 = true)) : Pick K cs (addF K cs) :=
  ⟨addF_nodup cs K, fun s w h => ⟨(addF_sub cs K).subset h, addF_notin cs K s w h⟩, addF_low cs K hp⟩
theorem cands_sorted {k : Nat} {lay : List (S × Way)} (hC : C.Pairwise (fun a b => clt a b = true)) (hl : ∀ p, p ∈ lay → p.2.length = k) (hp : lay.Pairwise (fun p q => wlt p.2 q.2 = true)) :
    (cands step C lay).Pairwise (fun p q => wlt p.2 q.2 = true) := by
  unfold cands
  rw [List.pairwise_flatMap]
  constructor
  · intro p _
    rw [List.pairwise_map]
    refine hC.imp fun {a b} h => ?_
    show wlt (p.2 ++ [a]) (p.2 ++ [b]) = true
    rw [wlt_snoc a b rfl, if_pos rfl]
    exact h
  · refine (List.pairwise_iff_forall_sublist.mpr fun {a b} hs => ?_)
    have ha : a ∈ lay := hs.subset List.mem_cons_self
    have hb : b ∈ lay := hs.subset (List.mem_cons_of_mem _ List.mem_cons_self)
    have hab : wlt a.2 b.2 = true := List.pairwise_iff_forall_sublist.mp hp hs
    intro x hx y hy
    obtain ⟨c, _, rfl⟩ := List.mem_map.mp hx
    obtain ⟨d, _, rfl⟩ := List.mem_map.mp hy
    show wlt (a.2 ++ [c]) (b.2 ++ [d]) = true
    rw [wlt_snoc c d (by rw [hl a ha, hl b hb]), if_neg (fun z => by rw [z, wlt_irr] at hab; cases hab)]
    exact hab
/-- the program's lap -/
structure LapP (step : S → Chg → S) (C : List Chg) (s0 : S) (k : Nat) (D lay : List (S × Way)) : Prop extends Lap step C s0 k D lay where
  up : lay.Pairwise (fun p q => wlt p.2 q.2 = true)
theorem LapP.go {k : Nat} {D lay : List (S × Way)} (hC : C.Pairwise (fun a b => clt a b = true)) (L : LapP step C s0 k D lay) :
    LapP step C s0 (k + 1) (D ++ addF (keys D) (cands step C lay)) (addF (keys D) (cands step C lay)) := by
  have hp := cands_sorted (step := step) hC (fun p hp => ((L.top p.1 p.2).mp hp).2) L.up
  exact ⟨L.toLap.next (pick_addF hp), hp.sublist (addF_sub _ _)⟩
theorem LapP.first : LapP step C s0 0 [(s0, [])] [(s0, [])] := ⟨Lap.first, List.pairwise_singleton _ _⟩

/-! ### the law's picks: the least candidate of each new key -/
def look (D : List (S × Way)) (s : S) : Option Way := (D.find? fun p => decide (p.1 = s)).map (·.2)
def sto (D : List (S × Way)) (s : S) (w : Way) : List (S × Way) := if s ∈ keys D then D.map (fun p => if p.1 = s then (p.1, w) else p) else D ++ [(s, w)]
def addL (K : List S) (F : List (S × Way)) (c : S × Way) : List (S × Way) := if c.1 ∈ K then F else
  match look F c.1 with
  | none => sto F c.1 c.2
  | some v => if wlt c.2 v = true then sto F c.1 c.2 else F
theorem look_mem : ∀ {D : List (S × Way)} {s : S} {w : Way}, look D s = some w → (s, w) ∈ D
  | [], _, _, h => by cases h
  | (a, v) :: D, s, w, h => by
    by_cases e : a = s
    · have q : look ((a, v) :: D) s = some v := by simp [look, e]
      rw [q] at h
      rw [e, Option.some.inj h]
      exact List.mem_cons_self
    · have q : look ((a, v) :: D) s = look D s := by simp [look, e]
      rw [q] at h
      exact List.mem_cons_of_mem _ (look_mem h)
theorem look_none : ∀ {D : List (S × Way)} {s : S}, look D s = none ↔ s ∉ keys D
  | [], s => by simp [look]
  | (a, v) :: D, s => by
    by_cases e : a = s
    · have q : look ((a, v) :: D) s = some v := by simp [look, e]
      rw [q]
      constructor
      · intro h; cases h
      · intro h; exact absurd (by rw [← e]; exact List.mem_cons_self) h
    · have q : look ((a, v) :: D) s = look D s := by simp [look, e]
      rw [q, look_none]
      constructor
      · intro h z
        rcases List.mem_cons.mp z with z | z
        · exact e z.symm
        · exact h z
      · intro h z; exact h (List.mem_cons_of_mem _ z)
theorem look_some {D : List (S × Way)} {s : S} {w : Way} (hn : (keys D).Nodup) (h : (s, w) ∈ D) : look D s = some w := by
  cases q : look D s with
  | none => exact absurd (mem_keys.mpr ⟨w, h⟩) (look_none.mp q)
  | some v => rw [nodup_val hn (look_mem q) h]
theorem keys_sto (D : List (S × Way)) (s : S) (w : Way) : keys (sto D s w) = if s ∈ keys D then keys D else keys D ++ [s] := by
  unfold sto
  by_cases h : s ∈ keys D
  · rw [if_pos h, if_pos h]
    show (D.map _).map _ = D.map _
    rw [List.map_map]
    refine List.map_congr_left fun p _ => ?_
    show (if p.1 = s then (p.1, w) else p).1 = p.1
    split <;> rfl
  · rw [if_neg h, if_neg h]
    show (D ++ [(s, w)]).map _ = _
    rw [List.map_append]
    rfl
theorem nodup_sto {D : List (S × Way)} {s : S} {w : Way} (h : (keys D).Nodup) : (keys (sto D s w)).Nodup := by
  rw [keys_sto]
  split
  · exact h
  · rename_i hn
    exact List.nodup_append.mpr ⟨h, by simp, fun a ha b hb e => hn (by rw [← List.mem_singleton.mp hb, ← e]; exact ha)⟩
theorem mem_sto {D : List (S × Way)} {s t : S} {w u : Way} (h : (t, u) ∈ sto D s w) : (t = s ∧ u = w) ∨ (t ≠ s ∧ (t, u) ∈ D) := by
  unfold sto at h
  by_cases hs : s ∈ keys D
  · rw [if_pos hs] at h
    obtain ⟨p, hp, e⟩ := List.mem_map.mp h
    by_cases q : p.1 = s
    · rw [if_pos q] at e
      exact .inl ⟨by rw [← q]; exact (Prod.mk.inj e).1.symm, (Prod.mk.inj e).2.symm⟩
    · rw [if_neg q] at e
      rw [e] at hp q
      exact .inr ⟨q, hp⟩
  · rw [if_neg hs] at h
    rcases List.mem_append.mp h with h | h
    · exact .inr ⟨fun e => hs (by rw [← e]; exact mem_keys.mpr ⟨u, h⟩), h⟩
    · have e := List.mem_singleton.mp h
      exact .inl ⟨(Prod.mk.inj e).1, (Prod.mk.inj e).2⟩
theorem sto_self {D : List (S × Way)} {s : S} {w : Way} : (s, w) ∈ sto D s w := by
  unfold sto
  by_cases hs : s ∈ keys D
  · rw [if_pos hs]
    obtain ⟨u, hu⟩ := mem_keys.mp hs
    exact List.mem_map.mpr ⟨(s, u), hu, if_pos rfl⟩
  · rw [if_neg hs]
    exact List.mem_append_right _ (List.mem_singleton.mpr rfl)
theorem sto_other {D : List (S × Way)} {s t : S} {w u : Way} (h : (t, u) ∈ D) (e : t ≠ s) : (t, u) ∈ sto D s w := by
  unfold sto
  by_cases hs : s ∈ keys D
  · rw [if_pos hs]
    exact List.mem_map.mpr ⟨(t, u), h, if_neg e⟩
  · rw [if_neg hs]
    exact List.mem_append_left _ h
theorem pick_addL {K : List S} (cs : List (S × Way)) : Pick K cs (cs.foldl (addL K) []) := by
  have gen : ∀ (post pre F : List (S × Way)), Pick K pre F → Pick K (pre ++ post) (post.foldl (addL K) F) := by
    intro post
    induction post with
    | nil => intro pre F h; simpa using h
    | cons c r ih =>
      intro pre F h
      have e : pre ++ c :: r = (pre ++ [c]) ++ r := by simp
      rw [e, List.foldl_cons]
      refine ih _ _ ?_
      have weak : ∀ s w, (s, w) ∈ pre → (s, w) ∈ pre ++ [c] := fun s w hm => List.mem_append_left _ hm
      have snew : ∀ s w, (s, w) ∈ pre ++ [c] → (s, w) ∈ pre ∨ (s, w) = c := fun s w hm => by
        rcases List.mem_append.mp hm with q | q
        · exact .inl q
        · exact .inr (List.mem_singleton.mp q)
      have same : (c.1 ∉ K → ∃ w', (c.1, w') ∈ F ∧ wlt c.2 w' = false) → Pick K (pre ++ [c]) F := fun hc =>
        ⟨h.nodup, fun s w hm => ⟨weak s w (h.sub s w hm).1, (h.sub s w hm).2⟩, fun s w hm hk => by
          rcases snew s w hm with q | q
          · exact h.low s w q hk
          · rw [← q] at hc; exact hc hk⟩
      have put : c.1 ∉ K → (∀ v, (c.1, v) ∈ F → wlt c.2 v = true) → Pick K (pre ++ [c]) (sto F c.1 c.2) := fun hk hv =>
        ⟨nodup_sto h.nodup, fun s w hm => by
          rcases mem_sto hm with ⟨e1, e2⟩ | ⟨_, q⟩
          · rw [e1, e2]; exact ⟨List.mem_append_right _ (List.mem_singleton.mpr rfl), hk⟩
          · exact ⟨weak s w (h.sub s w q).1, (h.sub s w q).2⟩, fun s w hm hs => by
          rcases snew s w hm with q | q
          · obtain ⟨w', h1, h2⟩ := h.low s w q hs
            by_cases e1 : s = c.1
            · refine ⟨c.2, by rw [e1]; exact sto_self, ?_⟩
              rw [e1] at h1
              exact wle_trans (v := w') (wlt_asym (hv w' h1)) h2
            · exact ⟨w', sto_other h1 e1, h2⟩
          · refine ⟨c.2, ?_, ?_⟩
            · rw [← q]; exact sto_self
            · rw [← q]; exact wlt_irr _⟩
      unfold addL
      by_cases hk : c.1 ∈ K
      · rw [if_pos hk]
        exact same fun z => absurd hk z
      · rw [if_neg hk]
        cases q : look F c.1 with
        | none => exact put hk fun v hv => absurd (mem_keys.mpr ⟨v, hv⟩) (look_none.mp q)
        | some v =>
          show Pick K (pre ++ [c]) (if wlt c.2 v = true then sto F c.1 c.2 else F)
          by_cases z : wlt c.2 v = true
          · rw [if_pos z]
            exact put hk fun v' hv' => by rw [nodup_val h.nodup hv' (look_mem q)]; exact z
          · rw [if_neg z]
            refine same fun _ => ⟨v, look_mem q, ?_⟩
            cases y : wlt c.2 v with
            | false => rfl
            | true => exact absurd y z
  have := gen cs [] [] ⟨List.nodup_nil, fun _ _ h => (nomatch h), fun _ _ h => (nomatch h)⟩
  simpa using this
def mrg (D F : List (S × Way)) : List (S × Way) := F.foldl (fun acc p => sto acc p.1 p.2) D
theorem mrg_append : ∀ (F D : List (S × Way)), (keys F).Nodup → (∀ s, s ∈ keys F → s ∉ keys D) → mrg D F = D ++ F
  | [], D, _, _ => by simp [mrg]
  | (a, w) :: F, D, hn, hd => by
    obtain ⟨h1, h2⟩ := List.nodup_cons.mp hn
    have hnot : a ∉ keys D := hd a List.mem_cons_self
    have e : sto D a w = D ++ [(a, w)] := if_neg hnot
    show mrg (sto D a w) F = _
    rw [e, mrg_append F _ h2 (fun s hs z => ?_)]
    · simp
    · have z' : s ∈ keys D ++ [a] := by
        have ek : keys (D ++ [(a, w)]) = keys D ++ [a] := by
          show (D ++ [(a, w)]).map _ = _
          rw [List.map_append]
          rfl
        rw [← ek]; exact z
      rcases List.mem_append.mp z' with z' | z'
      · exact hd s (List.mem_cons_of_mem _ hs) z'
      · rw [List.mem_singleton.mp z'] at hs; exact h1 hs
/-- the law's lap -/
theorem Lap.goL {k : Nat} {D lay : List (S × Way)} (L : Lap step C s0 k D lay) :
    Lap step C s0 (k + 1) (mrg D ((cands step C lay).foldl (addL (keys D)) [])) ((cands step C lay).foldl (addL (keys D)) []) := by
  have P := pick_addL (K := keys D) (cands step C lay)
  rw [mrg_append _ _ P.nodup fun s hs => let ⟨w, hw⟩ := mem_keys.mp hs; (P.sub s w hw).2]
  exact L.next P
theorem Lap.lenL {k : Nat} {D lay : List (S × Way)} (_ : Lap step C s0 k D lay) :
    (mrg D ((cands step C lay).foldl (addL (keys D)) [])).length = D.length + ((cands step C lay).foldl (addL (keys D)) []).length := by
  have P := pick_addL (K := keys D) (cands step C lay)
  rw [mrg_append _ _ P.nodup fun s hs => let ⟨w, hw⟩ := mem_keys.mp hs; (P.sub s w hw).2, List.length_append]
/-- a way found tells the look -/
theorem Full.look {D : List (S × Way)} (a : Full step C s0 D) {s : S} {w : Way} (h : Best step C s0 s w) : look D s = some w := look_some a.1 ((a.2 s w).mpr h)
end
end K12

set_option Elab.async false
set_option linter.all false
set_option maxRecDepth 100000
set_option maxHeartbeats 4000000
namespace K12
open PySem PySem.Spec PyProof.Rows L2

/-! ### data in the abstract heap: tuples anywhere, lists only where N allows -/
mutual
inductive Dq (K : PySem.W.Frag) (H : Hp) (N : Addr → Prop) : V → PyData → Prop
  | non : Dq K H N .non .none
  | bl (b : Bool) : Dq K H N (.bl b) (.bool b)
  | int (i : Int) : Dq K H N (.int i) (.int i)
  | str (x : Str) : Dq K H N (.str x) (.str x)
  | lst {a : Addr} {xs : List V} {ds : List PyData} : N a → SqL K H a xs → Dqs K H N xs ds → Dq K H N (.ref a) (.list ds)
  | tup {a : Addr} {xs : List V} {ds : List PyData} : SqT K H a xs → Dqs K H N xs ds → Dq K H N (.ref a) (.tuple ds)
inductive Dqs (K : PySem.W.Frag) (H : Hp) (N : Addr → Prop) : List V → List PyData → Prop
  | nil : Dqs K H N [] []
  | cons {v : V} {vs : List V} {d : PyData} {ds : List PyData} : Dq K H N v d → Dqs K H N vs ds → Dqs K H N (v :: vs) (d :: ds)
end
/-- no list anywhere -/
abbrev NoL : Addr → Prop := fun _ => False
abbrev AnyL : Addr → Prop := fun _ => True
section
variable {K : PySem.W.Frag} {H H' : Hp} {N N' : Addr → Prop}
mutual
theorem Dq.mono (hN : ∀ a, N a → N' a) (hl : ∀ a xs, N a → SqL K H a xs → SqL K H' a xs) (ht : ∀ a xs, SqT K H a xs → SqT K H' a xs) : ∀ (d : PyData) (v : V), Dq K H N v d → Dq K H' N' v d
  | .none, _, h => by cases h; exact .non
  | .bool _, _, h => by cases h; exact .bl _
  | .int _, _, h => by cases h; exact .int _
  | .str _, _, h => by cases h; exact .str _
  | .list ds, _, h => by
    cases h with
    | lst n s r => exact .lst (hN _ n) (hl _ _ n s) (Dqs.mono hN hl ht ds _ r)
  | .tuple ds, _, h => by
    cases h with
    | tup s r => exact .tup (ht _ _ s) (Dqs.mono hN hl ht ds _ r)
  | .dict _, _, h => nomatch h
theorem Dqs.mono (hN : ∀ a, N a → N' a) (hl : ∀ a xs, N a → SqL K H a xs → SqL K H' a xs) (ht : ∀ a xs, SqT K H a xs → SqT K H' a xs) : ∀ (ds : List PyData) (vs : List V), Dqs K H N vs ds → Dqs K H' N' vs ds
  | [], _, h => by cases h; exact .nil
  | d :: ds, _, h => by
    cases h with
    | cons h1 h2 => exact .cons (Dq.mono hN hl ht d _ h1) (Dqs.mono hN hl ht ds _ h2)
end
mutual
theorem Dq.dp : ∀ (d : PyData) (v : V), Dq K H N v d → Dp K H v d
  | .none, _, h => by cases h; exact .non
  | .bool _, _, h => by cases h; exact .bl _
  | .int _, _, h => by cases h; exact .int _
  | .str _, _, h => by cases h; exact .str _
  | .list ds, _, h => by
    cases h with
    | lst n s r => exact .lst s (Dqs.dp ds _ r)
  | .tuple ds, _, h => by
    cases h with
    | tup s r => exact .tup s (Dqs.dp ds _ r)
  | .dict _, _, h => nomatch h
theorem Dqs.dp : ∀ (ds : List PyData) (vs : List V), Dqs K H N vs ds → DpAll K H vs ds
  | [], _, h => by cases h; exact .nil
  | d :: ds, _, h => by
    cases h with
    | cons h1 h2 => exact .cons (Dq.dp d _ h1) (Dqs.dp ds _ h2)
end
theorem Dqs.length : ∀ {ds : List PyData} {vs : List V}, Dqs K H N vs ds → vs.length = ds.length
  | [], _, h => by cases h; rfl
  | _ :: ds, _, h => by
    cases h with
    | cons _ h2 => rw [List.length_cons, List.length_cons, Dqs.length h2]
theorem Dqs.get : ∀ {ds : List PyData} {vs : List V} {i : Nat} {d : PyData}, Dqs K H N vs ds → ds[i]? = some d → ∃ v, vs[i]? = some v ∧ Dq K H N v d
  | [], _, _, _, _, e => by simp at e
  | x :: ds, _, 0, d, h, e => by
    cases h with
    | cons h1 _ =>
      have e' : x = d := by simpa using e
      rw [← e']
      exact ⟨_, rfl, h1⟩
  | x :: ds, _, i + 1, d, h, e => by
    cases h with
    | cons _ h2 =>
      obtain ⟨v, a, b⟩ := Dqs.get (i := i) h2 (by simpa using e)
      exact ⟨v, by simpa using a, b⟩
theorem Dqs.getV : ∀ {ds : List PyData} {vs : List V} {i : Nat} {v : V}, Dqs K H N vs ds → vs[i]? = some v → ∃ d, ds[i]? = some d ∧ Dq K H N v d := fun {ds vs i v} h e => by
  have hl := h.length
  have hi : i < vs.length := (List.getElem?_eq_some_iff.mp e).1
  obtain ⟨u, a, b⟩ := h.get (i := i) (d := ds[i]'(by omega)) (List.getElem?_eq_getElem (by omega))
  rw [e] at a
  rw [Option.some.inj a]
  exact ⟨_, List.getElem?_eq_getElem (by omega), b⟩
theorem Dqs.append : ∀ {ds es : List PyData} {vs us : List V}, Dqs K H N vs ds → Dqs K H N us es → Dqs K H N (vs ++ us) (ds ++ es)
  | [], _, _, _, h, g => by cases h; exact g
  | _ :: ds, _, _, _, h, g => by
    cases h with
    | cons h1 h2 => exact .cons h1 (Dqs.append h2 g)
theorem Dqs.one {v : V} {d : PyData} (h : Dq K H N v d) : Dqs K H N [v] [d] := .cons h .nil
theorem Dq.tupI {v : V} {ds : List PyData} (h : Dq K H N v (.tuple ds)) : ∃ a xs, v = .ref a ∧ SqT K H a xs ∧ Dqs K H N xs ds := by
  cases h with
  | tup s r => exact ⟨_, _, rfl, s, r⟩
theorem Dq.lstI {v : V} {ds : List PyData} (h : Dq K H N v (.list ds)) : ∃ a xs, v = .ref a ∧ N a ∧ SqL K H a xs ∧ Dqs K H N xs ds := by
  cases h with
  | lst n s r => exact ⟨_, _, rfl, n, s, r⟩
theorem Dq.intI {v : V} {i : Int} (h : Dq K H N v (.int i)) : v = .int i := by cases h; rfl
theorem Dq.blI {v : V} {b : Bool} (h : Dq K H N v (.bool b)) : v = .bl b := by cases h; rfl
theorem Dq.strI {v : V} {b : Str} (h : Dq K H N v (.str b)) : v = .str b := by cases h; rfl
theorem Dqs.ints : ∀ {ns : List Int} {vs : List V}, Dqs K H N vs (ns.map .int) → vs = ns.map .int
  | [], _, h => by
    rw [List.map_nil] at h
    cases h; rfl
  | n :: ns, _, h => by
    rw [List.map_cons] at h
    cases h with
    | cons h1 h2 => rw [Dq.intI h1, Dqs.ints h2]; rfl
theorem Dqs.ofInts : ∀ (ns : List Int), Dqs K H N (ns.map .int) (ns.map .int)
  | [] => .nil
  | n :: ns => .cons (.int n) (Dqs.ofInts ns)
theorem Dqs.two {v : List V} {d e : PyData} (h : Dqs K H N v [d, e]) : ∃ x y, v = [x, y] ∧ Dq K H N x d ∧ Dq K H N y e := by
  cases h with
  | cons h1 h2 =>
    cases h2 with
    | cons h2 h3 =>
      cases h3
      exact ⟨_, _, rfl, h1, h2⟩
theorem Dqs.four {v : List V} {d e f g : PyData} (h : Dqs K H N v [d, e, f, g]) : ∃ x y z w, v = [x, y, z, w] ∧ Dq K H N x d ∧ Dq K H N y e ∧ Dq K H N z f ∧ Dq K H N w g := by
  cases h with
  | cons h1 h2 =>
    cases h2 with
    | cons h2 h3 =>
      cases h3 with
      | cons h3 h4 =>
        cases h4 with
        | cons h4 h5 =>
          cases h5
          exact ⟨_, _, _, _, rfl, h1, h2, h3, h4⟩
end

/-! ### how heaps change -/
/-- the tuples stay -/
def Tk (H H' : Hp) : Prop := (∀ b xs, H b = some (.tup xs) → H' b = some (.tup xs)) ∧ ∀ b f xs, H b = some (.frz f (.tup xs)) → H' b = some (.frz f (.tup xs))
/-- all stays but what stands at addresses of U -/
def But (U : Addr → Prop) (H H' : Hp) : Prop := ∀ b o, ¬ U b → H b = some o → H' b = some o
theorem Tk.refl (H : Hp) : Tk H H := ⟨fun _ _ h => h, fun _ _ _ h => h⟩
theorem Tk.trans {H H1 H2 : Hp} (a : Tk H H1) (b : Tk H1 H2) : Tk H H2 := ⟨fun c xs h => b.1 c xs (a.1 c xs h), fun c f xs h => b.2 c f xs (a.2 c f xs h)⟩
theorem Tk.same {H H' : Hp} (h : Same H H') : Tk H H' := ⟨fun b xs e => h b _ e, fun b f xs e => h b _ e⟩
theorem Tk.seq {K : PySem.W.Frag} {H H' : Hp} {a : Addr} {xs : List V} (t : Tk H H') (h : SqT K H a xs) : SqT K H' a xs := by
  rcases h with (h | ⟨o, h⟩) | h
  · exact .inl (.inl (t.1 _ _ h))
  · exact .inl (.inr ⟨o, t.2 _ _ _ h⟩)
  · exact .inr h
/-- no tuple, no frozen tuple -/
def NoTup (o : Option HO) : Prop := (∀ xs, o ≠ some (.tup xs)) ∧ ∀ f xs, o ≠ some (.frz f (.tup xs))
theorem Tk.upd {H : Hp} {p : Addr} {o : HO} (n : NoTup (H p)) : Tk H (upd H p o) := by
  refine ⟨fun b xs e => ?_, fun b f xs e => ?_⟩
  · have hb : b ≠ p := fun z => by rw [z] at e; exact n.1 xs e
    rw [upd_ne hb]; exact e
  · have hb : b ≠ p := fun z => by rw [z] at e; exact n.2 f xs e
    rw [upd_ne hb]; exact e
theorem Tk.but {U : Addr → Prop} {H H' : Hp} (h : But U H H') (n : ∀ b, U b → NoTup (H b)) : Tk H H' := by
  refine ⟨fun b xs e => h b _ (fun z => (n b z).1 xs e) e, fun b f xs e => h b _ (fun z => (n b z).2 f xs e) e⟩
theorem noTup_none {o : Option HO} (h : o = none) : NoTup o := by subst h; exact ⟨fun _ z => (nomatch z), fun _ _ z => (nomatch z)⟩
theorem noTup_lst {o : Option HO} {xs : List V} (h : o = some (.lst xs)) : NoTup o := by subst h; exact ⟨fun _ z => (nomatch z), fun _ _ z => (nomatch z)⟩
theorem noTup_ext {o : Option HO} {φ : Heap → Prop} (h : o = some (.ext φ)) : NoTup o := by subst h; exact ⟨fun _ z => (nomatch z), fun _ _ z => (nomatch z)⟩
theorem noTup_frzx {o : Option HO} {f : Obj} {φ : Heap → Prop} (h : o = some (.frz f (.ext φ))) : NoTup o := by subst h; exact ⟨fun _ z => (nomatch z), fun _ _ z => (nomatch z)⟩
theorem same_new {H : Hp} {p : Addr} {o : HO} (h : H p = none) : Same H (upd H p o) := fun b u q => by rw [upd_ne (ne_of_none q h)]; exact q
theorem But.refl (U : Addr → Prop) (H : Hp) : But U H H := fun _ _ _ h => h
theorem But.trans {U : Addr → Prop} {H H1 H2 : Hp} (a : But U H H1) (b : But U H1 H2) : But U H H2 := fun c o n h => b c o n (a c o n h)
theorem But.same {U : Addr → Prop} {H H' : Hp} (h : Same H H') : But U H H' := fun b o _ e => h b o e
theorem But.upd {U : Addr → Prop} {H : Hp} {p : Addr} {o : HO} (h : U p ∨ H p = none) : But U H (upd H p o) := fun b u n e => by
  have hb : b ≠ p := fun z => by
    subst z
    rcases h with h | h
    · exact n h
    · rw [h] at e; cases e
  rw [upd_ne hb]
  exact e
theorem But.mono {U U' : Addr → Prop} {H H' : Hp} (h : But U H H') (m : ∀ b, U b → U' b ∨ H b = none) : But U' H H' := fun b o n e => h b o (fun z => by
  rcases m b z with q | q
  · exact n q
  · rw [q] at e; cases e) e
theorem But.sql {U : Addr → Prop} {K : PySem.W.Frag} {H H' : Hp} {a : Addr} {xs : List V} (h : But U H H') (n : ¬ U a) (s : SqL K H a xs) : SqL K H' a xs := by
  rcases s with (s | ⟨o, s⟩) | s
  · exact .inl (.inl (h _ _ n s))
  · exact .inl (.inr ⟨o, h _ _ n s⟩)
  · exact .inr s
theorem Dq.keep {K : PySem.W.Frag} {H H' : Hp} {N N' : Addr → Prop} {U : Addr → Prop} {d : PyData} {v : V} (h : Dq K H N v d) (t : Tk H H') (b : But U H H') (n : ∀ a, N a → ¬ U a) (hN : ∀ a, N a → N' a) : Dq K H' N' v d :=
  Dq.mono hN (fun a xs q s => b.sql (n a q) s) (fun a xs s => t.seq s) d v h
theorem Dqs.keep {K : PySem.W.Frag} {H H' : Hp} {N N' : Addr → Prop} {U : Addr → Prop} {d : List PyData} {v : List V} (h : Dqs K H N v d) (t : Tk H H') (b : But U H H') (n : ∀ a, N a → ¬ U a) (hN : ∀ a, N a → N' a) : Dqs K H' N' v d :=
  Dqs.mono hN (fun a xs q s => b.sql (n a q) s) (fun a xs s => t.seq s) d v h
/-- data of tuples alone stays while tuples stay -/
theorem Dq.tk {K : PySem.W.Frag} {H H' : Hp} {N' : Addr → Prop} {d : PyData} {v : V} (h : Dq K H NoL v d) (t : Tk H H') : Dq K H' N' v d :=
  Dq.mono (fun _ q => q.elim) (fun a xs q s => q.elim) (fun a xs s => t.seq s) d v h
theorem Dqs.tk {K : PySem.W.Frag} {H H' : Hp} {N' : Addr → Prop} {d : List PyData} {v : List V} (h : Dqs K H NoL v d) (t : Tk H H') : Dqs K H' N' v d :=
  Dqs.mono (fun _ q => q.elim) (fun a xs q s => q.elim) (fun a xs s => t.seq s) d v h
theorem Dq.sm {K : PySem.W.Frag} {H H' : Hp} {N : Addr → Prop} {d : PyData} {v : V} (h : Dq K H N v d) (s : Same H H') : Dq K H' N v d :=
  Dq.mono (fun _ q => q) (fun a xs _ q => s.seq q) (fun a xs q => (Tk.same s).seq q) d v h
theorem Dqs.sm {K : PySem.W.Frag} {H H' : Hp} {N : Addr → Prop} {d : List PyData} {v : List V} (h : Dqs K H N v d) (s : Same H H') : Dqs K H' N v d :=
  Dqs.mono (fun _ q => q) (fun a xs _ q => s.seq q) (fun a xs q => (Tk.same s).seq q) d v h
theorem Dq.wk {K : PySem.W.Frag} {H : Hp} {N N' : Addr → Prop} {d : PyData} {v : V} (h : Dq K H N v d) (n : ∀ a, N a → N' a) : Dq K H N' v d :=
  Dq.mono n (fun a xs _ q => q) (fun a xs q => q) d v h
theorem Dqs.wk {K : PySem.W.Frag} {H : Hp} {N N' : Addr → Prop} {d : List PyData} {v : List V} (h : Dqs K H N v d) (n : ∀ a, N a → N' a) : Dqs K H N' v d :=
  Dqs.mono n (fun a xs _ q => q) (fun a xs q => q) d v h

/-! ### keys -/
section
variable {X : Cx} {pins : List (Addr × Obj)} {σ : L2.St} {H : Hp} {s : Shared} {N : Addr → Prop}
mutual
theorem Dq.nested (I : Inv X pins σ H s) : ∀ (k : NestedKey) (v : V) (u : Value), Dq X.K H N v k.data → RelV v u → NestedIs s.heap k u
  | .none, _, _, h, r => by cases h; cases r; exact .none
  | .num i, _, _, h, r => by
    cases h
    obtain ⟨t, rfl⟩ := r
    exact .int i t
  | .text x, _, _, h, r => by
    cases h
    obtain ⟨t, rfl⟩ := r
    exact .text x t
  | .tup ks, _, _, h, r => by
    cases h with
    | tup q rs =>
      cases r
      obtain ⟨its, rv, ⟨o, ho, hc, n, hd⟩, hz⟩ := I.tuple q
      exact .tup ho hc hd (Dqs.nested I ks _ its rs rv)
theorem Dqs.nested (I : Inv X pins σ H s) : ∀ (ks : List NestedKey) (vs : List V) (us : List Value), Dqs X.K H N vs (NestedKey.datas ks) → Vals vs us → NestedAll s.heap ks us
  | [], _, _, h, r => by cases h; cases r; exact .nil
  | k :: ks, _, _, h, r => by
    cases h with
    | cons h1 h2 =>
      cases r with
      | cons r1 r2 => exact .cons (Dq.nested I k _ _ h1 r1) (Dqs.nested I ks _ _ h2 r2)
end
end
end K12

set_option Elab.async false
set_option linter.all false
set_option maxRecDepth 100000
set_option maxHeartbeats 4000000
namespace K12
open PySem PySem.Spec PyProof.Rows L2

/-! ### stands and ways as keys and data -/
abbrev Std := Nat × List Nat
def nD (n : Nat) : PyData := .int n
def tD (ns : List Nat) : PyData := .tuple (ns.map nD)
def sD (s : Std) : PyData := .tuple [nD s.1, tD s.2]
def cD (c : Chg) : PyData := .tuple [nD c.1, nD c.2]
def wD (w : Way) : PyData := .tuple (w.map cD)
def kS (s : Std) : NestedKey := .tup [.num s.1, .tup (s.2.map fun n : Nat => NestedKey.num n)]
theorem datas_nums : ∀ ns : List Nat, NestedKey.datas (ns.map fun n : Nat => NestedKey.num n) = ns.map nD
  | [] => rfl
  | n :: ns => by
    show NestedKey.data (.num n) :: NestedKey.datas (ns.map fun n : Nat => NestedKey.num n) = _
    rw [datas_nums ns]
    rfl
theorem kS_data (s : Std) : (kS s).data = sD s := by
  show PyData.tuple [.int s.1, .tuple (NestedKey.datas (s.2.map fun n : Nat => NestedKey.num n))] = _
  rw [datas_nums]
  rfl
theorem depth_nums : ∀ ns : List Nat, NestedKey.depthAll (ns.map fun n : Nat => NestedKey.num n) = 0
  | [] => rfl
  | n :: ns => by
    show max (NestedKey.depth (.num n)) (NestedKey.depthAll (ns.map fun n : Nat => NestedKey.num n)) = 0
    rw [depth_nums ns]
    rfl
theorem kS_depth (s : Std) : (kS s).depth ≤ 8 := by
  show max (NestedKey.depth (.num s.1)) (max (NestedKey.depthAll (s.2.map fun n : Nat => NestedKey.num n) + 1) 0) + 1 ≤ 8
  rw [depth_nums]
  show max 0 (max (0 + 1) 0) + 1 ≤ 8
  decide
theorem nums_inj : ∀ {a b : List Nat}, (a.map fun n : Nat => NestedKey.num n) = b.map (fun n : Nat => NestedKey.num n) → a = b
  | [], [], _ => rfl
  | [], _ :: _, h => nomatch h
  | _ :: _, [], h => nomatch h
  | x :: a, y :: b, h => by
    rw [List.map_cons, List.map_cons] at h
    injection h with h1 h2
    injection h1 with h1
    rw [nums_inj h2, Int.ofNat_inj.mp h1]
theorem kS_inj {a b : Std} (h : kS a = kS b) : a = b := by
  obtain ⟨f, hs⟩ := a
  obtain ⟨g, gs⟩ := b
  injection h with h
  injection h with h1 h2
  injection h1 with h1
  injection h2 with h2 _
  injection h2 with h2
  have e1 : f = g := Int.ofNat_inj.mp h1
  have e2 : hs = gs := nums_inj h2
  rw [e2, e1]

/-! ### a dict from stands to ways -/
section
variable (P : Program) (w : World)
def dnP (d : Addr) (xs : List (NestedKey × Addr × Value)) (h : Heap) : Prop := ∃ o es ep, h.get? d = some o ∧ o.ExactDict ∧ o.data = .dict es ep ∧ es.toList = xs.map (entryOfKey (nestedKind P w))
def DN (d : Addr) (xs : List (NestedKey × Addr × Value)) : HO := .ext (dnP P w d xs)
end
def KN (K : PySem.W.Frag) (H : Hp) : List (Std × Way) → List (NestedKey × Addr × Value) → Prop :=
  Paired fun p q => kS p.1 = q.1 ∧ Dq K H NoL (.ref q.2.1) (sD p.1) ∧ ∃ v, RelV v q.2.2 ∧ Dq K H NoL v (wD p.2)
section
variable {P : Program} {w : World} {K : PySem.W.Frag} {H H' : Hp} {h : Heap} {d : Addr} {D : List (Std × Way)} {xs : List (NestedKey × Addr × Value)}
theorem dn_ok (x : dnP P w d xs h) : ObjOk P w H h d (DN P w d xs) :=
  ⟨x, (let ⟨o, _, _, ho, _⟩ := x; ⟨o, ho⟩), fun h1 h2 q k => let ⟨o, es, ep, ho, r⟩ := q; ⟨o, es, ep, k o ho, r⟩⟩
theorem dn_mut : Mut (some (DN P w d xs)) := True.intro
structure DicR (P : Program) (w : World) (K : PySem.W.Frag) (H : Hp) (d : Addr) (D : List (Std × Way)) : Prop where
  sys : (d == sysModules) = false
  few : D.length ≤ 100000
  nodup : (keys D).Nodup
  ex : ∃ xs, Rd H d (DN P w d xs) ∧ KN K H D xs
structure DicAt (P : Program) (w : World) (K : PySem.W.Frag) (H : Hp) (d : Addr) (D : List (Std × Way)) : Prop where
  sys : (d == sysModules) = false
  few : D.length ≤ 100000
  nodup : (keys D).Nodup
  ex : ∃ xs, H d = some (DN P w d xs) ∧ KN K H D xs
theorem DicAt.r (x : DicAt P w K H d D) : DicR P w K H d D := ⟨x.sys, x.few, x.nodup, let ⟨xs, a, b⟩ := x.ex; ⟨xs, .inl a, b⟩⟩
theorem KN.tk (r : KN K H D xs) (t : Tk H H') : KN K H' D xs := Paired.mapP r fun p q z => ⟨z.1, z.2.1.tk t, let ⟨v, a, b⟩ := z.2.2; ⟨v, a, b.tk t⟩⟩
theorem DicAt.keep (x : DicAt P w K H d D) (e : H' d = H d) (t : Tk H H') : DicAt P w K H' d D := ⟨x.sys, x.few, x.nodup, let ⟨xs, a, b⟩ := x.ex; ⟨xs, e.trans a, b.tk t⟩⟩
theorem DicAt.same (x : DicAt P w K H d D) (s : Same H H') : DicAt P w K H' d D := ⟨x.sys, x.few, x.nodup, let ⟨xs, a, b⟩ := x.ex; ⟨xs, s _ _ a, b.tk (.same s)⟩⟩
theorem DicAt.but {U : Addr → Prop} (x : DicAt P w K H d D) (b : But U H H') (n : ¬ U d) (t : Tk H H') : DicAt P w K H' d D := ⟨x.sys, x.few, x.nodup, let ⟨xs, a, r⟩ := x.ex; ⟨xs, b _ _ n a, r.tk t⟩⟩
theorem DicAt.notup (x : DicAt P w K H d D) : NoTup (H d) := let ⟨_, a, _⟩ := x.ex; noTup_ext a
theorem DicAt.some (x : DicAt P w K H d D) : ∃ φ, H d = some (.ext φ) := let ⟨_, a, _⟩ := x.ex; ⟨_, a⟩
theorem kn_look : ∀ {D : List (Std × Way)} {xs : List (NestedKey × Addr × Value)}, KN K H D xs → ∀ s : Std,
    (look D s = none ∧ atKey xs (kS s) = none) ∨ ∃ u p v, look D s = some u ∧ atKey xs (kS s) = some p ∧ RelV v p.2 ∧ Dq K H NoL v (wD u)
  | [], _, r, s => by
    have r' : KN K H [] _ := r
    cases r'
    exact .inl ⟨rfl, rfl⟩
  | (t, u) :: D, _, r, s => by
    have r' : KN K H ((t, u) :: D) _ := r
    cases r' with
    | @cons a b l1 l2 h1 h2 =>
      obtain ⟨e1, e2, v, e3, e4⟩ := h1
      by_cases q : t = s
      · refine .inr ⟨u, b.2, v, by simp [K12.look, q], ?_, e3, e4⟩
        have : b.1 = kS s := by rw [← e1, ← q]
        simp [atKey, this]
      · have n : ¬ b.1 = kS s := fun z => q (kS_inj (e1.trans z))
        have a1 : look ((t, u) :: D) s = look D s := by simp [K12.look, q]
        have a2 : atKey (b :: l2) (kS s) = atKey l2 (kS s) := by simp [atKey, n]
        rw [a1, a2]
        exact kn_look h2 s
theorem KN.keysNodup (r : KN K H D xs) (hn : (keys D).Nodup) : (xs.map (·.1)).Nodup := by
  have e : xs.map (·.1) = (keys D).map kS := by
    have r' : Paired _ D xs := r
    induction r' with
    | nil => rfl
    | @cons a b l1 l2 h t ih =>
      have hn' : (a.1 :: keys l1).Nodup := hn
      rw [List.map_cons, ih t (List.nodup_cons.mp hn').2, ← h.1]
      rfl
  rw [e]
  exact List.Pairwise.map kS (fun a b z q => z (kS_inj q)) hn
theorem KN.repl {s : Std} {u : Way} {y : V} {u' : Value} (ry : RelV y u') (dy : Dq K H NoL y (wD u)) : ∀ {D : List (Std × Way)} {xs : List (NestedKey × Addr × Value)}, KN K H D xs →
    KN K H (D.map fun p => if p.1 = s then (p.1, u) else p) (xs.map (putAt (kS s) u'))
  | [], _, r => by
    have r' : KN K H [] _ := r
    cases r'
    exact .nil
  | (t, x) :: D, _, r => by
    have r' : KN K H ((t, x) :: D) _ := r
    cases r' with
    | @cons a b l1 l2 h1 h2 =>
      refine .cons ?_ (KN.repl ry dy h2)
      obtain ⟨e1, e2, v, e3, e4⟩ := h1
      by_cases q : t = s
      · have hb : b.1 = kS s := by rw [← e1, ← q]
        have z1 : (fun p : Std × Way => if p.1 = s then (p.1, u) else p) (t, x) = (t, u) := if_pos q
        have z2 : putAt (kS s) u' b = (b.1, b.2.1, u') := if_pos hb
        rw [z1, z2]
        exact ⟨e1, e2, y, ry, dy⟩
      · have hb : ¬ b.1 = kS s := fun z => q (kS_inj (e1.trans z))
        have z1 : (fun p : Std × Way => if p.1 = s then (p.1, u) else p) (t, x) = (t, x) := if_neg q
        have z2 : putAt (kS s) u' b = b := if_neg hb
        rw [z1, z2]
        exact ⟨e1, e2, v, e3, e4⟩
theorem paired_append {α β : Type} {F : α → β → Prop} : ∀ {a a2 : List α} {b b2 : List β}, Paired F a b → Paired F a2 b2 → Paired F (a ++ a2) (b ++ b2)
  | _, _, _, _, .nil, q => q
  | _, _, _, _, .cons r t, q => .cons r (paired_append t q)
theorem KN.sto {s : Std} {u : Way} {a : Addr} {y : V} {u' : Value} (r : KN K H D xs) (ha : Dq K H NoL (.ref a) (sD s)) (ry : RelV y u') (dy : Dq K H NoL y (wD u)) : KN K H (sto D s u) (storedH xs (kS s) a u') := by
  unfold K12.sto storedH
  rcases kn_look r s with ⟨h1, h2⟩ | ⟨x, p, v, h1, h2, _, _⟩
  · rw [if_neg (look_none.mp h1), h2]
    exact paired_append r (.cons ⟨rfl, ha, y, ry, dy⟩ .nil)
  · have hk : s ∈ keys D := by
      by_cases q : s ∈ keys D
      · exact q
      · rw [look_none.mpr q] at h1; cases h1
    rw [if_pos hk, h2]
    exact KN.repl ry dy r
theorem length_sto (D : List (Std × Way)) (s : Std) (u : Way) : (sto D s u).length ≤ D.length + 1 := by
  unfold sto
  split
  · rw [List.length_map]; omega
  · rw [List.length_append]; exact Nat.le_refl _
end
/-- what an update changes -/
structure DicTo (P : Program) (w : World) (K : PySem.W.Frag) (H : Hp) (d : Addr) (D : List (Std × Way)) (H' : Hp) : Prop where
  at' : DicAt P w K H' d D
  ex : ∃ o, H' = upd H d o
section
variable {X : Cx} {pins : List (Addr × Obj)} {σ : L2.St} {H : Hp} {s : Shared} {d a : Addr} {D : List (Std × Way)} {xs : List (NestedKey × Addr × Value)} {st : Std} {A : Around} {E : Value → Shared → Prop}
theorem room64 (hu : A.units + 64 < cLine) : (nestedKind X.prog X.w).room A.in1 := by
  show A.in1.units + 8 < cLine
  rw [Around.in1_units]
  omega
theorem room64' (hu : A.units + 64 < cLine) : (nestedKind X.prog X.w).room A.in1.in1 := by
  show A.in1.in1.units + 8 < cLine
  rw [Around.in1_units, Around.in1_units]
  omega
theorem room64'' (hu : A.units + 64 < cLine) : (nestedKind X.prog X.w).room A := by
  show A.units + 8 < cLine
  omega
theorem Dq.isKey (I : Inv X pins σ H s) {N : Addr → Prop} (h : Dq X.K H N (.ref a) (sD st)) : (nestedKind X.prog X.w).is s.heap (kS st) a :=
  ⟨Dq.nested I (kS st) (.ref a) (.ref a) (by rw [kS_data]; exact h) rfl, kS_depth st⟩
theorem Dq.ref {K : PySem.W.Frag} {N : Addr → Prop} {y : V} {st : Std} (h : Dq K H N y (sD st)) : ∃ a, y = .ref a := let ⟨a, _, e, _⟩ := Dq.tupI h; ⟨a, e⟩
theorem kn_dict (I : Inv X pins σ H s) (hn : (keys D).Nodup) (rd : Rd H d (DN X.prog X.w d xs)) (kn : KN X.K H D xs) : s.heap.DictOfH (nestedKind X.prog X.w) d xs := by
  obtain ⟨⟨o, es, ep, h1, h2, h3, h4⟩, _⟩ := (show ObjOk X.prog X.w H s.heap d (DN X.prog X.w d xs) from rd.ok I.hok)
  refine ⟨o, es, ep, h1, h2, h3, h4, fun q hq => ?_, kn.keysNodup hn⟩
  obtain ⟨i, hi⟩ := List.mem_iff_getElem?.mp hq
  have kl := Paired.length kn
  have hlt : i < D.length := by rw [kl]; exact (List.getElem?_eq_some_iff.mp hi).1
  obtain ⟨b, hb, e1, e2, _⟩ := paired_get kn (List.getElem?_eq_getElem hlt)
  rw [hi] at hb
  rw [Option.some.inj hb, ← e1]
  exact Dq.isKey I e2
theorem DicR.dict (I : Inv X pins σ H s) (x : DicR X.prog X.w X.K H d D) : ∃ xs, Rd H d (DN X.prog X.w d xs) ∧ KN X.K H D xs ∧ s.heap.DictOfH (nestedKind X.prog X.w) d xs := by
  obtain ⟨xs, rd, kn⟩ := x.ex
  exact ⟨xs, rd, kn, kn_dict I x.nodup rd kn⟩
theorem n_getItem {u : Value} {y : V} {uw : Way} {Q : Value → Shared → Prop} (hu : A.units + 64 < cLine) (I : Inv X pins σ H s) (x : DicR X.prog X.w X.K H d D) (hy : Dq X.K H NoL y (sD st)) (ry : RelV y u) (l : look D st = some uw)
    (h : ∀ w' v s', Inv X pins σ H s' → RelV v w' → Dq X.K H NoL v (wD uw) → Q w' s') : wpAny (model X.prog X.w) A (getItem (.ref d) u) Q E s := by
  obtain ⟨a, rfl⟩ := hy.ref
  cases ry
  obtain ⟨xs, rd, kn, dd⟩ := x.dict I
  rcases kn_look kn st with ⟨h1, _⟩ | ⟨u2, p, v, h1, h2, h3, h4⟩
  · rw [h1] at l; cases l
  · rw [h1] at l; cases l
    exact wpAny_getItem_heap (room64 hu) (Dq.isKey I hy) dd h2 (h _ v _ (I.tok _) h3 h4)
theorem n_in {u : Value} {y : V} {Q : Value → Shared → Prop} (hu : A.units + 64 < cLine) (I : Inv X pins σ H s) (x : DicR X.prog X.w X.K H d D) (hy : Dq X.K H NoL y (sD st)) (ry : RelV y u)
    (h : ∀ s', Inv X pins σ H s' → Q (.bool (decide (st ∈ keys D))) s') : wpAny (model X.prog X.w) A (compareOp .In u (.ref d)) Q E s := by
  obtain ⟨a, rfl⟩ := hy.ref
  cases ry
  obtain ⟨xs, rd, kn, dd⟩ := x.dict I
  refine wpAny_in_heap (room64 hu) (Dq.isKey I hy) x.sys dd ?_
  have e : (atKey xs (kS st)).isSome = decide (st ∈ keys D) := by
    rcases kn_look kn st with ⟨h1, h2⟩ | ⟨u2, p, v, h1, h2, h3, h4⟩
    · rw [h2, decide_eq_false (look_none.mp h1)]; rfl
    · rw [h2, decide_eq_true (mem_keys.mpr ⟨_, look_mem h1⟩)]; rfl
  rw [e]
  exact h _ (I.tok _)
theorem n_notIn {u : Value} {y : V} {Q : Value → Shared → Prop} (hu : A.units + 64 < cLine) (I : Inv X pins σ H s) (x : DicR X.prog X.w X.K H d D) (hy : Dq X.K H NoL y (sD st)) (ry : RelV y u)
    (h : ∀ s', Inv X pins σ H s' → Q (.bool (!decide (st ∈ keys D))) s') : wpAny (model X.prog X.w) A (compareOp .NotIn u (.ref d)) Q E s := by
  obtain ⟨a, rfl⟩ := hy.ref
  cases ry
  obtain ⟨xs, rd, kn, dd⟩ := x.dict I
  refine notIn_keyed (room64 hu) (Dq.isKey I hy) x.sys ⟨xs, dd, rfl⟩ ?_
  have e : (valueAt (pairsH xs) (kS st)).isSome = decide (st ∈ keys D) := by
    rw [valueAt_pairsH, Option.isSome_map]
    rcases kn_look kn st with ⟨h1, h2⟩ | ⟨u2, p, v, h1, h2, h3, h4⟩
    · rw [h2, decide_eq_false (look_none.mp h1)]; rfl
    · rw [h2, decide_eq_true (mem_keys.mpr ⟨_, look_mem h1⟩)]; rfl
  rw [e]
  exact h _ (I.tok _)
/-- the dict's object is replaced -/
theorem n_write {h' : Heap} {t' : Nat} {xs ys : List (NestedKey × Addr × Value)} (I : Inv X pins σ H s) (e : H d = some (DN X.prog X.w d xs)) (hs : Heap.SameBut d s.heap h') (dd : h'.DictOfH (nestedKind X.prog X.w) d ys) :
    Inv X pins σ (upd H d (DN X.prog X.w d ys)) { s with heap := h', toks := t' } := by
  obtain ⟨o, es, ep, h1, h2, h3, h4, _⟩ := dd
  exact I.write (x := d) (e := d) (by rw [e]; exact True.intro) (.inl rfl) (fun b q hb z => (hs.2 b hb).trans z) ⟨o, h1⟩ (dn_ok ⟨o, es, ep, h1, h2, h3, h4⟩)
theorem n_setItem {u r : Value} {y v : V} {uw : Way} {Q : Unit → Shared → Prop} (hu : A.units + 64 < cLine) (I : Inv X pins σ H s) (x : DicAt X.prog X.w X.K H d D) (hf : D.length < 100000) (hy : Dq X.K H NoL y (sD st)) (ry : RelV y u) (rv : RelV v r) (hv : Dq X.K H NoL v (wD uw))
    (h : ∀ H' s', DicTo X.prog X.w X.K H d (sto D st uw) H' → Inv X pins σ H' s' → Q () s') : wpAny (model X.prog X.w) A (setItem (.ref d) u r) Q E s := by
  obtain ⟨a, rfl⟩ := hy.ref
  cases ry
  obtain ⟨xs, e, kn⟩ := x.ex
  have dd := kn_dict I x.nodup (.inl e) kn
  have hl := Paired.length kn
  have fw := x.few
  refine wpAny_setItem_heap (room64 hu) (Dq.isKey I hy) dd (fun h' dd' hs => ?_) (by rw [sizeLine_eq]; omega)
  have l1 := length_sto D st uw
  have t : Tk H (upd H d (DN X.prog X.w d (storedH xs (kS st) a r))) := .upd (noTup_ext e)
  exact h _ _ ⟨⟨x.sys, by omega, nodup_sto x.nodup, _, upd_same, (kn.sto hy rv hv).tk t⟩, _, rfl⟩ (n_write I e hs dd')
end
end K12

set_option Elab.async false
set_option linter.all false
set_option maxRecDepth 100000
set_option maxHeartbeats 4000000
namespace K12
open PySem PySem.Spec PyProof.Rows L2
/-! ### the rules: dicts from stands to ways -/
def tGetN (P : Program) (w : World) (K : PySem.W.Frag) (td ty : TE) : TE := fun σ H Q => td σ H fun x H1 => ty σ H1 fun y H2 => ∃ d D st uw, x = .ref d ∧ DicR P w K H2 d D ∧ Dq K H2 NoL y (sD st) ∧ look D st = some uw ∧ ∀ v, Dq K H2 NoL v (wD uw) → Q v H2
def tInN (P : Program) (w : World) (K : PySem.W.Frag) (neg : Bool) (ty td : TE) : TE := fun σ H Q => ty σ H fun y H1 => td σ H1 fun x H2 => ∃ d D st, x = .ref d ∧ DicR P w K H2 d D ∧ Dq K H2 NoL y (sD st) ∧ Q (.bl (if neg then !decide (st ∈ keys D) else decide (st ∈ keys D))) H2
def sPutN (P : Program) (w : World) (K : PySem.W.Frag) (td ty tv : TE) : TS := fun B σ H => tv σ H fun v H1 => td σ H1 fun x H2 => ty σ H2 fun y H3 => ∃ d D st uw, x = .ref d ∧ DicAt P w K H3 d D ∧ D.length < 100000 ∧ Dq K H3 NoL y (sD st) ∧ Dq K H3 NoL v (wD uw) ∧
  ∀ H4, DicTo P w K H3 d (sto D st uw) H4 → B.nx σ H4
theorem DicR.typ {X : Cx} {pins : List (Addr × Obj)} {σ : L2.St} {H : Hp} {s : Shared} {d : Addr} {D : List (Std × Way)} (I : Inv X pins σ H s) (x : DicR X.prog X.w X.K H d D) : s.TypeIs (.ref d) "dict" ∧ ∀ b, Value.ref d = .ref b → ∃ ob, s.heap.get? b = some ob ∧ ob.dict = none := by
  obtain ⟨xs, _, _, dd⟩ := x.dict I
  refine ⟨dd.typeIs, fun b q => ?_⟩
  cases q
  obtain ⟨o, es, ep, h1, h2, _⟩ := dd
  exact ⟨o, h1, h2.2.1⟩
section
variable {X : Cx} {o i e value : Expr} {pos pos' tpos : Pos} {td ty tv : TE}
theorem pe_getN (hu : X.A.units + 64 < cLine) (ho : PE X o td) (hi : PE X i ty) (hs : NoSl i) : PE X (.Subscript o i pos) (tGetN X.prog X.w X.K td ty) := by
  refine ⟨fun pins s σ H Q I h => ?_⟩
  refine subD_of PySem.F.slot_dict_getitem.lookup hs (thn (ho.run pins s σ H _ I h) fun u s1 ⟨x, H1, I1, rx, q1⟩ => thn (hi.run pins s1 σ H1 _ I1 q1) fun iv s2 ⟨y, H2, I2, ry, d, D, st, uw, ex, g, hy, l, q2⟩ => ?_)
  subst ex
  obtain rfl : u = Value.ref d := rx
  exact ⟨(g.typ I2).1, n_getItem hu I2 g hy ry l fun w' v s3 I3 rw' hv => ⟨v, H2, I3, rw', q2 v hv⟩⟩
theorem pc_inN (hu : X.A.units + 64 < cLine) (hi : PE X i ty) (ho : PE X o td) : PC X .In i o (tInN X.prog X.w X.K false ty td) := by
  refine ⟨fun pins s σ H Q I h => ?_⟩
  refine thn (hi.run pins s σ H _ I h) fun iv s1 ⟨y, H1, I1, ry, q1⟩ => thn (ho.run pins s1 σ H1 _ I1 q1) fun u s2 ⟨x, H2, I2, rx, d, D, st, ex, g, hy, q2⟩ => ?_
  subst ex
  obtain rfl : u = Value.ref d := rx
  exact n_in hu I2 g hy ry fun s3 I3 => ⟨.bl _, H2, I3, rfl, q2⟩
theorem pc_notinN (hu : X.A.units + 64 < cLine) (hi : PE X i ty) (ho : PE X o td) : PC X .NotIn i o (tInN X.prog X.w X.K true ty td) := by
  refine ⟨fun pins s σ H Q I h => ?_⟩
  refine thn (hi.run pins s σ H _ I h) fun iv s1 ⟨y, H1, I1, ry, q1⟩ => thn (ho.run pins s1 σ H1 _ I1 q1) fun u s2 ⟨x, H2, I2, rx, d, D, st, ex, g, hy, q2⟩ => ?_
  subst ex
  obtain rfl : u = Value.ref d := rx
  exact n_notIn hu I2 g hy ry fun s3 I3 => ⟨.bl _, H2, I3, rfl, q2⟩
theorem ps_putN (hu : X.A.units + 64 < cLine) (ho : PE X o td) (hi : PE X i ty) (hv : PE X value tv) (hs : swapsWith value (some (.Subscript o i pos')) pos.line X.env = pure false := by rfl) :
    PS X (.Assign [.Subscript o i pos'] value pos) (sPutN X.prog X.w X.K td ty tv) := by
  refine ⟨fun pins s σ H B I h => ?_⟩
  refine wpAny_Assign_Subscript (thn (hv.run pins s σ H _ I h) fun r s1 ⟨v, H1, I1, rv, q1⟩ => thn (ho.run pins s1 σ H1 _ I1 q1) fun u s2 ⟨x, H2, I2, rx, q2⟩ => thn (hi.run pins s2 σ H2 _ I2 q2) fun iv s3 ⟨y, H3, I3, ry, d, D, st, uw, ex, g, hf, hy, hv, q3⟩ => ?_) hs
  subst ex
  obtain rfl : u = Value.ref d := rx
  exact n_setItem hu I3 g hf hy ry rv hv fun H4 s4 to I4 => ⟨σ, H4, I4, q3 H4 to⟩
/-- {} -/
def tNewN (P : Program) (w : World) (K : PySem.W.Frag) : TE := fun _ H Q => ∀ p H', H p = none → DicTo P w K H p [] H' → Q (.ref p) H'
theorem n_empty {P : Program} {w : World} {H : Hp} (h : Heap) : ObjOk P w H (h.push { cls := .type "dict", data := .dict #[] }) h.objs.size (DN P w h.objs.size []) :=
  dn_ok ⟨_, #[], 0, Heap.get?_push_size _ rfl, ⟨rfl, rfl, rfl⟩, rfl, rfl⟩
theorem n_new {P : Program} {w : World} {K : PySem.W.Frag} {H : Hp} {p : Addr} (hs : (p == sysModules) = false) : DicTo P w K H p [] (upd H p (DN P w p [])) :=
  ⟨⟨hs, Nat.zero_le _, List.nodup_nil, [], upd_same, .nil⟩, _, rfl⟩
theorem noSys {pins : List (Addr × Obj)} {σ : L2.St} {H : Hp} {s : Shared} (I : Inv X pins σ H s) : (s.heap.objs.size == sysModules) = false := beq_eq_false_iff_ne.mpr (Ne.symm (Nat.ne_of_lt I.big))
theorem pe_newN : PE X (.Dict [] [] pos) (tNewN X.prog X.w X.K) := ⟨fun pins s σ H Q I h =>
  wpAny_Dict_empty ⟨.ref s.heap.objs.size, _, I.laid (a := s.heap.objs.size) (o := DN X.prog X.w s.heap.objs.size []) (t' := s.toks) (fun _ _ q => Heap.get?_push_of_some _ q) (Nat.le_refl _) (n_empty s.heap), rfl,
    h _ _ (I.hok.fresh (Nat.le_refl _)) (n_new (noSys I))⟩⟩
/-- {k: v}: the new dict stands empty while k and v are made -/
def tOneN (P : Program) (w : World) (K : PySem.W.Frag) (tk tv : TE) : TE := fun σ H Q => ∀ p H0, H p = none → DicTo P w K H p [] H0 → tk σ H0 fun x H1 => tv σ H1 fun y H2 => DicAt P w K H2 p [] ∧ ∃ st uw, Dq K H2 NoL x (sD st) ∧ Dq K H2 NoL y (wD uw) ∧ ∀ H3, DicTo P w K H2 p [(st, uw)] H3 → Q (.ref p) H3
theorem pe_oneN {k v : Expr} {tk tv : TE} (hu : X.A.units + 64 < cLine) (hk : PE X k tk) (hv : PE X v tv) : PE X (.Dict [some k] [v] pos) (tOneN X.prog X.w X.K tk tv) := by
  refine ⟨fun pins s σ H Q I h => ?_⟩
  have I1 : Inv X pins σ (upd H s.heap.objs.size (DN X.prog X.w s.heap.objs.size [])) { s with heap := s.heap.push { cls := .type "dict", data := .dict #[] } } :=
    I.laid (a := s.heap.objs.size) (t' := s.toks) (fun _ _ q => Heap.get?_push_of_some _ q) (Nat.le_refl _) (n_empty s.heap)
  have h1 := h _ _ (I.hok.fresh (Nat.le_refl s.heap.objs.size)) (n_new (P := X.prog) (w := X.w) (K := X.K) (noSys I))
  rw [arm_eval_Dict, zip_pairTrees [some k] [v] X.env pos rfl rfl, dictDisplay_pairs (pairTrees [some k] [v] X.env pos) (fun z => nomatch z) (by show 1 < 17; decide)]
  refine wpAny_bind (wpAny_standAt (wpAny_bind (wpAny_subDictH (knd := nestedKind X.prog X.w) (room64'' hu) (by show 1 ≤ 15; decide) ?_)))
  refine pairTrees_cons_walk (thn (hk.run pins _ σ _ _ I1 h1) fun u s1 ⟨x, H1, I2, rx, q1⟩ => thn (hv.run pins s1 σ H1 _ I2 q1) fun r s2 ⟨y, H2, I3, ry, g, st, uw, hx, hy, q2⟩ => pairTrees_nil_walk ?_)
  obtain ⟨a, rfl⟩ := hx.ref
  cases rx
  obtain ⟨xs, e, kn⟩ := g.ex
  cases kn
  refine ⟨[(kS st, a, r)], ⟨rfl, rfl, Dq.isKey I3 hx, trivial⟩, kn_dict I3 g.nodup (.inl e) .nil, fun h' tk dk hs => wpAny_pure ?_⟩
  have dk' : h'.DictOfH (nestedKind X.prog X.w) s.heap.objs.size [(kS st, a, r)] := dk
  have t : Tk H2 (upd H2 s.heap.objs.size (DN X.prog X.w s.heap.objs.size [(kS st, a, r)])) := .upd (noTup_ext e)
  refine ⟨.ref s.heap.objs.size, _, n_write I3 e hs dk', rfl, q2 _ ⟨⟨g.sys, by show 1 ≤ 100000; decide, by simp, _, upd_same, ?_⟩, _, rfl⟩⟩
  exact .cons ⟨rfl, hx.tk t, y, ry, hy.tk t⟩ .nil
end
section
variable {X : Cx}
/-- len(d) -/
theorem call_lenN : CallR X (.builtin "len") (fun xs H Q => ∃ d D, xs = [V.ref d] ∧ DicR X.prog X.w X.K H d D ∧ Q (.int (D.length : Nat)) H) := by
  intro pins s σ H xs us Q I r q
  obtain ⟨d, D, ex, g, q⟩ := q
  subst ex
  obtain ⟨u, rfl, rx⟩ := vals1 r
  cases rx
  obtain ⟨ys, rd, kn, dd⟩ := g.dict I
  have hl := Paired.length kn
  have fw := g.few
  have lk : (pairsH ys).length = D.length := by rw [pairsH_length, hl]
  refine PyProof.Rows.call_len_slot (n := (D.length : Nat)) (g.typ I).1 F.slot_dict_len (fun Q' hq => len_keyed (kvs := pairsH ys) g.sys ⟨ys, dd, rfl⟩ ?_) (by omega) (by omega) ?_
  · rw [lk]; exact hq
  · exact ⟨.int (D.length : Nat), H, I.tok _, ⟨_, rfl⟩, q⟩
/-- dict([(stand, way)]) -/
theorem call_dictN (hc : X.calm = true) (hu : X.A.units + 64 < cLine) : CallR X (.type "dict") (fun xs H Q => ∃ l t st uw x y, xs = [V.ref l] ∧ H l = some (.lst [.ref t]) ∧ H t = some (.tup [x, y]) ∧ Dq X.K H NoL x (sD st) ∧ Dq X.K H NoL y (wD uw) ∧
    ∀ p H', H p = none → DicTo X.prog X.w X.K H p [(st, uw)] H' → Q (.ref p) H') := by
  intro pins s σ H xs us Q I r q
  obtain ⟨l, t, st, uw, x, y, ex, hl, ht, hx, hy, q⟩ := q
  subst ex
  obtain ⟨u, rfl, rx⟩ := vals1 r
  cases rx
  obtain ⟨a, rfl⟩ := hx.ref
  obtain ⟨its, rv, pl, _⟩ := I.list (SqL.of (K := X.K) hl)
  obtain rfl := Vals.ref1 rv
  obtain ⟨tis, rt, it, _⟩ := I.tuple (SqT.of (K := X.K) ht)
  obtain ⟨kv, vv, rfl, r1, r2⟩ := Vals.two rt
  cases r1
  obtain ⟨o, n, ho, hcl, hdi, hda⟩ := pl
  have tsz := Heap.lt_size ho
  refine call_dict_pairsH (knd := nestedKind X.prog X.w) (ps := [(kS st, a, vv)]) (PairArg.list l #[.ref t] (fun _ => t) [(Value.ref a, vv)]) (I.ok.hd hc) (room64' hu) ⟨⟨o, n, ho, hcl, hdi, hda⟩, rfl, fun j k v hj => ?_⟩ ⟨rfl, fun i key v hi => ?_⟩ (fun h' hk z hz => ?_) (by rw [sizeLine_eq]; show 1 ≤ 16777216; decide) fun h' tk hd' hk => ?_
  · cases j with
    | zero =>
      have e : (Value.ref a, vv) = (k, v) := by simpa using hj
      rw [← (Prod.mk.inj e).1, ← (Prod.mk.inj e).2]
      exact ⟨rfl, .inl it⟩
    | succ j => simp at hj
  · cases i with
    | zero =>
      have e : (Value.ref a, vv) = (key, v) := by
        have hi' : ([(Value.ref a, vv)] : List (Value × Value))[0]? = some (key, v) := hi
        simpa using hi'
      rw [← (Prod.mk.inj e).1, ← (Prod.mk.inj e).2]
      exact ⟨kS st, a, rfl, rfl⟩
    | succ j => exact absurd (show ([(Value.ref a, vv)] : List (Value × Value))[j + 1]? = some (key, v) from hi) (by simp)
  · have e : z = (kS st, a, vv) := List.mem_singleton.mp hz
    rw [e]
    exact nestedKind_stays.stays (fun b ob vs m e1 _ => hk b ob (Nat.ne_of_lt (Heap.lt_size e1)) (fun z => nomatch z) e1) (Dq.isKey I hx)
  · have kp : ∀ b ob, s.heap.get? b = some ob → h'.get? b = some ob := fun b ob e => hk b ob (fun z => nomatch z) e
    have dd : h'.DictOfH (nestedKind X.prog X.w) s.heap.objs.size [(kS st, a, vv)] := hd'
    obtain ⟨oo, es, ep, h1, h2, h3, h4, _⟩ := dd
    have hn := I.hok.fresh (Nat.le_refl s.heap.objs.size)
    have sm : Same H (upd H s.heap.objs.size (DN X.prog X.w s.heap.objs.size [(kS st, a, vv)])) := same_new hn
    refine ⟨.ref s.heap.objs.size, _, I.laid (t' := tk) (o := DN X.prog X.w s.heap.objs.size [(kS st, a, vv)]) kp (Nat.le_refl _) (dn_ok ⟨oo, es, ep, h1, h2, h3, h4⟩), rfl, q _ _ hn ⟨⟨noSys I, by show 1 ≤ 100000; decide, by simp, _, upd_same, ?_⟩, _, rfl⟩⟩
    exact .cons ⟨rfl, hx.sm sm, y, r2, hy.sm sm⟩ .nil
end
end K12

set_option Elab.async false
set_option linter.all false
set_option maxRecDepth 100000
set_option maxHeartbeats 4000000
namespace K12
open PySem PySem.Spec PyProof.Rows L2
open PySem.W (alike alikeAll dataLt dataLe rowLt AllAlike EachIs)
/-! ### the orders of stands and ways -/
theorem alike_nDs : ∀ xs ys : List Nat, alikeAll (xs.map nD) (ys.map nD) = true
  | [], _ => by rw [List.map_nil, alikeAll]
  | _ :: _, [] => by rw [List.map_nil, List.map_cons, alikeAll]
  | x :: xs, y :: ys => by
    rw [List.map_cons, List.map_cons, alikeAll, alike_nDs xs ys]
    rfl
theorem alike_tD (xs ys : List Nat) : alike (tD xs) (tD ys) = true := alike_nDs xs ys
theorem alike_sD (a b : Std) : alike (sD a) (sD b) = true := by
  show (alike (nD a.1) (nD b.1) && (alike (tD a.2) (tD b.2) && alikeAll [] [])) = true
  rw [alike_tD]
  rfl
theorem alike_cD (a b : Chg) : alike (cD a) (cD b) = true := rfl
theorem alike_cDs : ∀ u v : Way, alikeAll (u.map cD) (v.map cD) = true
  | [], _ => by rw [List.map_nil, alikeAll]
  | _ :: _, [] => by rw [List.map_nil, List.map_cons, alikeAll]
  | x :: xs, y :: ys => by
    rw [List.map_cons, List.map_cons, alikeAll, alike_cDs xs ys, alike_cD]
    rfl
theorem alike_wD (u v : Way) : alike (wD u) (wD v) = true := alike_cDs u v
theorem eqv_nD (a b : Nat) : PyData.eqv (nD a) (nD b) = decide (a = b) := by
  show PyData.eqv (.int a) (.int b) = _
  rw [PyData.eqv]
  by_cases h : a = b
  · simp [h]
  · have : ¬ (a : Int) = (b : Int) := fun z => h (Int.ofNat_inj.mp z)
    simp [h, this]
theorem eqv_nDs : ∀ xs ys : List Nat, PyData.eqvAll (xs.map nD) (ys.map nD) = decide (xs = ys)
  | [], [] => by simp [PyData.eqvAll]
  | [], _ :: _ => by simp [PyData.eqvAll]
  | _ :: _, [] => by simp [PyData.eqvAll]
  | x :: xs, y :: ys => by
    rw [List.map_cons, List.map_cons, PyData.eqvAll, eqv_nDs xs ys, eqv_nD]
    by_cases h1 : x = y <;> by_cases h2 : xs = ys <;> simp [h1, h2]
theorem eqv_tD (xs ys : List Nat) : PyData.eqv (tD xs) (tD ys) = decide (xs = ys) := by
  show PyData.eqv (.tuple _) (.tuple _) = _
  rw [PyData.eqv, eqv_nDs]
theorem eqv_cD (a b : Chg) : PyData.eqv (cD a) (cD b) = decide (a = b) := by
  show PyData.eqv (.tuple _) (.tuple _) = _
  rw [PyData.eqv, PyData.eqvAll, PyData.eqvAll, PyData.eqvAll, eqv_nD, eqv_nD]
  obtain ⟨a1, a2⟩ := a
  obtain ⟨b1, b2⟩ := b
  by_cases h1 : a1 = b1 <;> by_cases h2 : a2 = b2 <;> simp [h1, h2]
theorem lt_cD (a b : Chg) : dataLt (cD a) (cD b) = clt a b := by
  show dataLt (.tuple [.int a.1, .int a.2]) (.tuple [.int b.1, .int b.2]) = _
  rw [PySem.W.dataLt_ii]
  unfold clt
  by_cases h : a.1 < b.1 ∨ (a.1 = b.1 ∧ a.2 < b.2)
  · rw [decide_eq_true h, decide_eq_true (by omega)]
  · rw [decide_eq_false h, decide_eq_false (by omega)]
theorem row_nil_cons (y : PyData) (ys : List PyData) : rowLt [] (y :: ys) = true := by
  unfold rowLt
  rw [PySem.W.toks_all_cons]
  simp only [PySem.W.keyToksAll]
  rw [lex_diff (O := itemOrd) (by simp)]
  rfl
theorem row_cons_nil (y : PyData) (ys : List PyData) : rowLt (y :: ys) [] = false := by
  unfold rowLt
  rw [PySem.W.toks_all_cons]
  simp only [PySem.W.keyToksAll]
  rw [lex_diff (O := itemOrd) (by simp)]
  rfl
theorem row_nil_nil : rowLt [] [] = false := lex_irrefl _
theorem row_cons {x y : PyData} (h : alike x y = true) (xs ys : List PyData) : rowLt (x :: xs) (y :: ys) = if PyData.eqv x y = true then rowLt xs ys else dataLt x y := PySem.W.dataLt_cons h xs ys
theorem lt_wD : ∀ u v : Way, rowLt (u.map cD) (v.map cD) = wlt u v
  | [], [] => row_nil_nil
  | [], _ :: _ => row_nil_cons _ _
  | _ :: _, [] => row_cons_nil _ _
  | a :: u, b :: v => by
    rw [List.map_cons, List.map_cons, row_cons (alike_cD a b), eqv_cD, lt_wD u v, lt_cD, wlt_cons]
    by_cases h : a = b
    · rw [if_pos (decide_eq_true h), if_pos h]
    · rw [if_neg (fun z => h (of_decide_eq_true z)), if_neg h]
theorem dataLt_wD (u v : Way) : dataLt (wD u) (wD v) = wlt u v := by
  show dataLt (.tuple _) (.tuple _) = _
  rw [PySem.W.dataLt_tuple]
  exact lt_wD u v
/-- rows of numbers -/
def nlt : List Nat → List Nat → Bool
  | [], [] => false
  | [], _ :: _ => true
  | _ :: _, [] => false
  | x :: xs, y :: ys => if x = y then nlt xs ys else decide (x < y)
def slt (a b : Std) : Bool := if a.1 = b.1 then nlt a.2 b.2 else decide (a.1 < b.1)
theorem nlt_irr : ∀ xs : List Nat, nlt xs xs = false
  | [] => rfl
  | x :: xs => by
    show (if x = x then nlt xs xs else _) = false
    rw [if_pos rfl, nlt_irr xs]
theorem lt_nDs : ∀ xs ys : List Nat, rowLt (xs.map nD) (ys.map nD) = nlt xs ys
  | [], [] => row_nil_nil
  | [], _ :: _ => row_nil_cons _ _
  | _ :: _, [] => row_cons_nil _ _
  | a :: u, b :: v => by
    rw [List.map_cons, List.map_cons, row_cons (show alike (nD a) (nD b) = true from rfl), eqv_nD, lt_nDs u v]
    show _ = if a = b then nlt u v else decide (a < b)
    by_cases h : a = b
    · rw [if_pos (decide_eq_true h), if_pos h]
    · rw [if_neg (fun z => h (of_decide_eq_true z)), if_neg h]
      show dataLt (.int a) (.int b) = _
      rw [PySem.W.dataLt_int]
      by_cases q : a < b
      · rw [decide_eq_true q, decide_eq_true (by omega)]
      · rw [decide_eq_false q, decide_eq_false (by omega)]
theorem dataLt_sD (a b : Std) : dataLt (sD a) (sD b) = slt a b := by
  show dataLt (.tuple _) (.tuple _) = _
  rw [PySem.W.dataLt_pair (show alike (nD a.1) (nD b.1) = true from rfl) (alike_tD _ _), eqv_nD, eqv_tD]
  unfold slt
  by_cases h : a.1 = b.1
  · rw [if_pos (decide_eq_true h), if_pos h]
    have e : dataLt (tD a.2) (tD b.2) = nlt a.2 b.2 := by
      show dataLt (.tuple _) (.tuple _) = _
      rw [PySem.W.dataLt_tuple]
      exact lt_nDs _ _
    by_cases q : a.2 = b.2
    · rw [if_pos (decide_eq_true q), q, nlt_irr]
    · rw [if_neg (fun z => q (of_decide_eq_true z)), e]
  · rw [if_neg (fun z => h (of_decide_eq_true z)), if_neg h]
    show dataLt (.int a.1) (.int b.1) = _
    rw [PySem.W.dataLt_int]
    by_cases q : a.1 < b.1
    · rw [decide_eq_true q, decide_eq_true (by omega)]
    · rw [decide_eq_false q, decide_eq_false (by omega)]
theorem nlt_anti : ∀ {xs ys : List Nat}, nlt xs ys = false → nlt ys xs = false → xs = ys
  | [], [], _, _ => rfl
  | [], _ :: _, h, _ => nomatch h
  | _ :: _, [], _, h => nomatch h
  | x :: xs, y :: ys, h1, h2 => by
    have h1' : (if x = y then nlt xs ys else decide (x < y)) = false := h1
    have h2' : (if y = x then nlt ys xs else decide (y < x)) = false := h2
    by_cases e : x = y
    · rw [if_pos e] at h1'
      rw [if_pos e.symm] at h2'
      rw [e, nlt_anti h1' h2']
    · rw [if_neg e] at h1'
      rw [if_neg (fun z => e z.symm)] at h2'
      have a := of_decide_eq_false h1'
      have b := of_decide_eq_false h2'
      omega
theorem slt_anti {a b : Std} (h1 : slt a b = false) (h2 : slt b a = false) : a = b := by
  unfold slt at h1 h2
  by_cases e : a.1 = b.1
  · rw [if_pos e] at h1
    rw [if_pos e.symm] at h2
    exact Prod.ext e (nlt_anti h1 h2)
  · rw [if_neg e] at h1
    rw [if_neg (fun z => e z.symm)] at h2
    have a := of_decide_eq_false h1
    have b := of_decide_eq_false h2
    omega
def sle (a b : Std) : Bool := !slt b a
theorem dataLe_sD : dataLe false sD = sle := by
  funext a b
  show (!dataLt (sD b) (sD a)) = _
  rw [dataLt_sD]
  rfl
theorem sle_total : PySem.W.TotalLe sle := by
  rw [← dataLe_sD]
  exact PySem.W.sortLe_total _ _ _
/-- the stands of a search, sorted -/
def srt (l : List Std) : List Std := l.mergeSort sle
theorem srt_perm {l m : List Std} (h : l.Perm m) : srt l = srt m := by
  have p : (srt l).Perm (srt m) := (List.mergeSort_perm l sle).trans (h.trans (List.mergeSort_perm m sle).symm)
  refine p.eq_of_pairwise (le := fun a b => sle a b = true) (fun a b _ _ h1 h2 => ?_) (PySem.W.sort_pairwise sle_total l) (PySem.W.sort_pairwise sle_total m)
  unfold sle at h1 h2
  exact slt_anti (by simpa using h2) (by simpa using h1)
theorem srt_of {l m : List Std} (h : l.Perm m) (hs : m.Pairwise (fun a b => sle a b = true)) : srt l = m := by
  have p : (srt l).Perm m := (List.mergeSort_perm l sle).trans h
  refine p.eq_of_pairwise (le := fun a b => sle a b = true) (fun a b _ _ h1 h2 => ?_) (PySem.W.sort_pairwise sle_total l) hs
  unfold sle at h1 h2
  exact slt_anti (by simpa using h2) (by simpa using h1)
theorem mem_srt {l : List Std} {s : Std} : s ∈ srt l ↔ s ∈ l := (List.mergeSort_perm l sle).mem_iff
theorem length_srt (l : List Std) : (srt l).length = l.length := (List.mergeSort_perm l sle).length_eq
/-! ### depths -/
theorem depth_nDs : ∀ xs : List Nat, PyData.depthAll (xs.map nD) = 0
  | [] => by rw [List.map_nil, PyData.depthAll]
  | x :: xs => by
    rw [List.map_cons, PyData.depthAll, depth_nDs xs]
    rfl
theorem depth_tD (xs : List Nat) : (tD xs).depth ≤ 1 := by
  show PyData.depth (.tuple _) ≤ 1
  rw [PyData.depth, depth_nDs]
  exact Nat.le_refl _
theorem depth_sD (s : Std) : (sD s).depth ≤ 3 := by
  have h := depth_tD s.2
  show PyData.depth (.tuple [.int s.1, tD s.2]) ≤ 3
  rw [PyData.depth, PyData.depthAll, PyData.depthAll, PyData.depthAll, PyData.depth]
  omega
theorem depth_cDs : ∀ u : Way, PyData.depthAll (u.map cD) ≤ 1
  | [] => by rw [List.map_nil, PyData.depthAll]; exact Nat.zero_le _
  | x :: xs => by
    have h := depth_cDs xs
    have e : (cD x).depth = 1 := rfl
    rw [List.map_cons, PyData.depthAll, e]
    omega
theorem depth_wD (w : Way) : (wD w).depth ≤ 3 := by
  have h := depth_cDs w
  show PyData.depth (.tuple _) ≤ 3
  rw [PyData.depth]
  omega
end K12

set_option Elab.async false
set_option linter.all false
set_option maxRecDepth 100000
set_option maxHeartbeats 4000000
namespace K12
open PySem PySem.Spec PyProof.Rows L2
open PySem.W (alike alikeAll dataLt dataLe rowLt AllAlike EachIs)
section
variable {K : PySem.W.Frag} {H : Hp}
theorem kn_mrg : ∀ {F D : List (Std × Way)} {ys xs : List (NestedKey × Addr × Value)}, KN K H F ys → KN K H D xs → KN K H (mrg D F) (storedAllH xs ys)
  | [], _, _, _, r, q => by
    have r' : KN K H [] _ := r
    cases r'
    exact q
  | p :: F, D, _, xs, r, q => by
    have r' : KN K H (p :: F) _ := r
    cases r' with
    | @cons a b l1 l2 h1 h2 =>
      obtain ⟨e1, e2, v, e3, e4⟩ := h1
      have z : KN K H (sto D p.1 p.2) (storedH xs b.1 b.2.1 b.2.2) := by
        rw [← e1]
        exact q.sto e2 e3 e4
      show KN K H (mrg (sto D p.1 p.2) F) (storedAllH (storedH xs b.1 b.2.1 b.2.2) l2)
      exact kn_mrg h2 z
theorem nodup_mrg : ∀ {F D : List (Std × Way)}, (keys D).Nodup → (keys (mrg D F)).Nodup
  | [], _, h => h
  | p :: F, D, h => nodup_mrg (F := F) (D := sto D p.1 p.2) (nodup_sto h)
theorem length_mrg : ∀ (F D : List (Std × Way)), (mrg D F).length ≤ D.length + F.length
  | [], D => Nat.le_refl _
  | p :: F, D => by
    have h := length_mrg F (sto D p.1 p.2)
    have g := length_sto D p.1 p.2
    show (mrg (sto D p.1 p.2) F).length ≤ _
    rw [List.length_cons]
    omega
end
section
variable {X : Cx} {o e : Expr} {apos cpos : Pos} {td ty : TE}
/-- d.update(e) -/
def tUpdN (P : Program) (w : World) (K : PySem.W.Frag) (td ty : TE) : TE := fun σ H Q => td σ H fun x H1 => ∃ d D, x = .ref d ∧ DicAt P w K H1 d D ∧ ty σ H1 fun y H2 => DicAt P w K H2 d D ∧ D ≠ [] ∧ ∃ c F, y = .ref c ∧ d ≠ c ∧ DicAt P w K H2 c F ∧ D.length + F.length ≤ 100000 ∧
  ∀ H3, DicTo P w K H2 d (mrg D F) H3 → Q .non H3
theorem pe_updN (hu : X.A.units + 64 < cLine) (ho : PE X o td) (he : PE X e ty) (m : M1 X o "update" apos e cpos) : PE X (.Call (.Attribute o "update" apos) [e] [] cpos) (tUpdN X.prog X.w X.K td ty) := by
  refine ⟨fun pins s σ H Q I h => ?_⟩
  refine wpAny_Call_method m.base m.few m.line PySem.F.plainAttrs_dict PySem.F.slot_dict_update PySem.F.type_dict_update (thn (ho.run pins s σ H _ I h) fun u s1 ⟨x, H1, I1, rx, d, D, ex, g, q1⟩ => ?_)
  subst ex
  obtain rfl : u = Value.ref d := rx
  obtain ⟨t1, t2⟩ := g.r.typ I1
  refine ⟨t1, t2, ?_⟩
  rw [m.trees]
  refine Calls.callWith_builtin rfl (Calls.evalArgs_plain (Calls.spliced_cons (thn (he.run pins s1 σ H1 _ I1 q1) fun iv s2 ⟨y, H2, I2, ry, g2, hne, c, F, ec, hdc, gc, hlen, q2⟩ => Calls.spliced_nil ?_)))
  subst ec
  obtain rfl : iv = Value.ref c := ry
  obtain ⟨xs, ex, kx⟩ := g2.ex
  obtain ⟨ys, ey, ky⟩ := gc.ex
  have dd := kn_dict I2 g2.nodup (.inl ex) kx
  have dc := kn_dict I2 gc.nodup (.inl ey) ky
  have lx := Paired.length kx
  have ly := Paired.length ky
  have hx : xs ≠ [] := fun z => hne (by
    rw [z] at lx
    exact List.length_eq_zero_iff.mp lx)
  refine call_update_dictH (room64 hu) hdc gc.sys dd dc (.inl hx) (by rw [sizeLine_eq]; omega) fun h' dd' _ hs => ?_
  have t : Tk H2 (upd H2 d (DN X.prog X.w d (storedAllH xs ys))) := .upd (noTup_ext ex)
  have lm := length_mrg F D
  exact ⟨.non, _, n_write (t' := s2.toks) I2 ex hs dd', rfl, q2 _ ⟨⟨g2.sys, by omega, nodup_mrg g2.nodup, _, upd_same, (kn_mrg ky kx).tk t⟩, _, rfl⟩⟩
end
/-! ### sorted(d) -/
theorem dqs_each {X : Cx} {pins : List (Addr × Obj)} {σ : L2.St} {H : Hp} {s : Shared} {N : Addr → Prop} {β : Type} (enc : β → PyData) (I : Inv X pins σ H s) : ∀ {bs : List β} {vs : List V} {us : List Value}, Dqs X.K H N vs (bs.map enc) → Vals vs us → EachIs (fun u b => ∃ as, Reads s.heap u (enc b) as) us bs
  | [], _, _, h, r => by
    rw [List.map_nil] at h
    cases h
    cases r
    exact .nil
  | b :: bs, _, _, h, r => by
    rw [List.map_cons] at h
    cases h with
    | cons h1 h2 =>
      cases r with
      | cons r1 r2 => exact .cons (Dp.reads I _ _ _ h1.dp r1) (dqs_each enc I h2 r2)
theorem each_dqs {K : PySem.W.Frag} {H : Hp} {N : Addr → Prop} {β : Type} {enc : β → PyData} : ∀ {us : List Value} {bs : List β}, EachIs (fun u b => ∃ v, RelV v u ∧ Dq K H N v (enc b)) us bs → ∃ vs, Vals vs us ∧ Dqs K H N vs (bs.map enc)
  | _, _, .nil => ⟨[], .nil, .nil⟩
  | _, _, .cons ⟨v, a, b⟩ t => by
    obtain ⟨vs, r, q⟩ := each_dqs t
    exact ⟨v :: vs, .cons a r, .cons b q⟩
theorem each_of_dqs {K : PySem.W.Frag} {H : Hp} {N : Addr → Prop} {β : Type} (enc : β → PyData) : ∀ {bs : List β} {vs : List V} {us : List Value}, Dqs K H N vs (bs.map enc) → Vals vs us → EachIs (fun u b => ∃ v, RelV v u ∧ Dq K H N v (enc b)) us bs
  | [], _, _, h, r => by
    rw [List.map_nil] at h
    cases h
    cases r
    exact .nil
  | b :: bs, _, _, h, r => by
    rw [List.map_cons] at h
    cases h with
    | cons h1 h2 =>
      cases r with
      | cons r1 r2 => exact .cons ⟨_, r1, h1⟩ (each_of_dqs enc h2 r2)
theorem kn_keys {K : PySem.W.Frag} {H : Hp} : ∀ {D : List (Std × Way)} {xs : List (NestedKey × Addr × Value)}, KN K H D xs → Dqs K H NoL (xs.map fun x => V.ref x.2.1) ((keys D).map sD)
  | [], _, r => by
    have r' : KN K H [] _ := r
    cases r'
    exact .nil
  | p :: D, _, r => by
    have r' : KN K H (p :: D) _ := r
    cases r' with
    | @cons a b l1 l2 h1 h2 => exact .cons h1.2.1 (kn_keys h2)
theorem vals_refs2 : ∀ ys : List (NestedKey × Addr × Value), Vals (ys.map fun x => V.ref x.2.1) (ys.map fun x => Value.ref x.2.1)
  | [] => .nil
  | _ :: r => .cons rfl (vals_refs2 r)
section
variable {X : Cx}
theorem call_sortedN (hc : X.calm = true) (hu : X.A.units + 64 < cLine) : CallR X (.builtin "sorted") (fun xs H Q => ∃ d D, xs = [V.ref d] ∧ DicR X.prog X.w X.K H d D ∧
    ∀ p vs, H p = none → Dqs X.K H NoL vs ((srt (keys D)).map sD) → Q (.ref p) (upd H p (.lst vs))) := by
  intro pins s σ H xs us Q I r q
  obtain ⟨d, D, ex, g, q⟩ := q
  subst ex
  obtain ⟨u, rfl, rx⟩ := vals1 r
  cases rx
  obtain ⟨ys, rd, kn, dd⟩ := g.dict I
  obtain ⟨o, es, ep, ho, hx, hdt, he, _⟩ := dd
  have l1 : es.size = ys.length := size_of_entries he
  have l2 := Paired.length kn
  have fw := g.few
  have hz : es.size ≤ sizeLine := by rw [sizeLine_eq]; omega
  refine Calls.call_function_entry PyProof.Rows.kind_sorted PyProof.Rows.plain_sorted PyProof.Rows.entry_sorted (PyProof.Rows.args_sorted1 _) ?_
  unfold Builtin.«sorted»
  refine wpAny_bind (m := checkCount "sorted" 1 1 _) (wpAny_pure ?_)
  refine wpAny_bind (PySem.W.kdu_collect (A := X.A.in1) (kdl_raw g.sys hx hdt) (I.ok.hd hc) ho hz fun h' tk acc hk hacc => ?_)
  have ea : acc.toList = ys.map fun x => Value.ref x.2.1 := by
    have hl : acc.toList.length = ys.length := by rw [Array.length_toList, hacc.1]; exact l1
    apply List.ext_getElem?
    intro j
    rw [List.getElem?_map]
    cases hj : acc.toList[j]? with
    | none =>
      have h1 := List.getElem?_eq_none_iff.mp hj
      rw [List.getElem?_eq_none (by omega)]
      all_goals rfl
    | some v =>
      obtain ⟨en, hen, hv⟩ := hacc.2 j v (by rw [← Array.getElem?_toList]; exact hj)
      have qe := entry_at he j
      rw [hen] at qe
      cases hb : ys[j]? with
      | none =>
        rw [hb] at qe
        exact nomatch (show some en = none from qe)
      | some b =>
        rw [hb] at qe
        have e2 : en = entryOfKey (nestedKind X.prog X.w) b := Option.some.inj qe
        rw [hv, e2]
        all_goals rfl
  have rv : Vals (ys.map fun x => V.ref x.2.1) acc.toList := by
    rw [ea]
    exact vals_refs2 ys
  have I1 : Inv X pins σ H { s with heap := h', toks := tk } := I.kept hk
  have kd := kn_keys kn
  have e1 := each_of_dqs sD kd rv
  have e2 := dqs_each sD I1 kd rv
  have ll : acc.toList.length = D.length := by rw [e1.length]; exact List.length_map _
  refine wpAny_bind (wpAny_newList ?_ (by rw [ll, sizeLine_eq]; omega))
  have hoL : (h'.push (seqObj "list" acc.toList.toArray 0)).get? h'.objs.size = some (seqObj "list" acc.toList.toArray 0) := Heap.get?_push_size _ rfl
  show wpAny _ _ _ _ _ { s with heap := h'.push (seqObj "list" acc.toList.toArray 0), toks := tk }
  have hal : AllAlike ((keys D).map sD) := .of alike_sD
  have e3 : EachIs (fun u b => ∃ as, Reads (PySem.W.sortingHeap (h'.push (seqObj "list" acc.toList.toArray 0)) h'.objs.size acc.toList) u (sD b) as) acc.toList (keys D) :=
    e2.mono fun u b ⟨as, r⟩ => ⟨as, PyProof.Rows.Reads.keeps (fun b' ob eb => PySem.W.sortingHeap_old (Nat.ne_of_lt (Heap.lt_size eb)) (Heap.get?_push_of_some _ eb)) r⟩
  refine wpAny_bind (wpAny_holding (wpAny_call_entry PyProof.Rows.slot_list_sort ⟨_, hoL, rfl⟩ PyProof.Rows.entry_list_sort
    (PySem.W.list_sort_vals (κ := PySem.W.dataKind (PySem.W.sortingHeap (h'.push (seqObj "list" acc.toList.toArray 0)) h'.objs.size acc.toList) ((keys D).map sD))
      (s := { s with heap := h'.push (seqObj "list" acc.toList.toArray 0), toks := tk }) hoL
      (PySem.W.SortsAt.data (s := { s with heap := PySem.W.sortingHeap (h'.push (seqObj "list" acc.toList.toArray 0)) h'.objs.size acc.toList, toks := tk }) (PySem.W.each_map (R := fun v d => ∃ as, Reads _ v d as) sD e3) hal (.tuples fun b => ⟨nD b.1, [tD b.2], rfl⟩) (fun z hz => ?_)) (by rw [ll, sizeLine_eq]; omega) ⟨_, rfl, ?_⟩) (PyProof.Rows.args_list_sort _)))
  · obtain ⟨b, _, rfl⟩ := List.mem_map.mp hz
    have hd := depth_sD b
    rw [Around.in1_units, Around.in1_units]
    omega
  · have eo := PySem.W.sortVals_data false e1 e3 hal
    rw [dataLe_sD] at eo
    obtain ⟨vs, rvs, dvs⟩ := each_dqs eo
    have lo := eo.length
    have lo' : vs.length = D.length := by
      rw [rvs.length, lo]
      exact (length_srt (keys D)).trans (List.length_map _)
    obtain ⟨e', he'⟩ := PyProof.Rows.sortedHeap_at (vs := acc.toList) (out := (PySem.W.sortVals (PySem.W.dataKind (PySem.W.sortingHeap (h'.push (seqObj "list" acc.toList.toArray 0)) h'.objs.size acc.toList) ((keys D).map sD)) false acc.toList acc.toList).toArray) hoL
    refine wpAny_pure ⟨_, rfl, .ref h'.objs.size, upd H h'.objs.size (.lst vs), I1.laid (t' := tk) (fun b u e => ?_) (Nat.le_refl _)
      (show ObjOk X.prog X.w _ _ _ (.lst vs) from ⟨by rw [lo', sizeLine_eq]; omega, _, e', rvs, he'⟩), rfl, q _ vs (I1.hok.fresh (Nat.le_refl _)) dvs⟩
    have hb : b < h'.objs.size := Heap.lt_size e
    rw [PyProof.Rows.sortedHeap_old (Nat.ne_of_lt hb) (by rw [size_push']; exact Nat.lt_succ_of_lt hb)]
    exact Heap.get?_push_of_some _ e
end
end K12

set_option Elab.async false
set_option linter.all false
set_option maxRecDepth 100000
set_option maxHeartbeats 4000000
namespace K12
open PySem PySem.Spec PyProof.Rows L2
open PySem.W (alike alikeAll dataLt dataLe rowLt AllAlike EachIs)
/-! ### ways compared -/
def rLtW (K : PySem.W.Frag) : R2 := fun x y H Q => ∃ u v, Dq K H NoL x (wD u) ∧ Dq K H NoL y (wD v) ∧ Q (.bl (wlt u v)) H
theorem op_ltW {X : Cx} (hu : X.A.units + 64 < cLine) : OpR X (compareOp .Lt) (rLtW X.K) := by
  intro pins s σ H x y v u Q I rx ry h
  obtain ⟨p, q, hx, hy, k⟩ := h
  obtain ⟨as, r1⟩ := Dp.reads I _ _ _ hx.dp rx
  obtain ⟨bs, r2⟩ := Dp.reads I _ _ _ hy.dp ry
  have d1 := depth_wD p
  have d2 := depth_wD q
  have z := PySem.W.rcLt_alike (wD p) (wD q) X.A s v u as bs r1 r2 (alike_wD p q) (fun z => nomatch z) (by omega)
  rw [dataLt_wD] at z
  exact z X.prog X.w _ _ ⟨.bl (wlt p q), H, I, rfl, k⟩

/-! ### a tuple times a small number -/
theorem tuple_mul1 (l : Addr) (items : Array Value) (n : Nat) (dd : Option Addr) (sl : Array (Option Value)) (u : Tok) :
    Meets (Builtin.«tuple.__mul__» ⟨[.ref l, .int 1 u], []⟩) (fun _ R s => s.heap.get? l = some { cls := .type "tuple", dict := dd, data := .seq items n, slots := sl } ∧
      R (.ok (.ret (Value.ref l))) s) :=
  .of_wp fun prog w A R s h => by
    obtain ⟨hp, g, d, tk, os⟩ := s
    obtain ⟨hl, h⟩ := h
    have f1 := AutoSeq1.idx_int
    wp_walk using AutoSeq1.wpAny_loadPart' hl
    exact ⟨_, rfl, h⟩
/-- (x,) * k, k from 1 -/
def rRep1 (K : PySem.W.Frag) : R2 := fun x y H Q => ∃ l k v, x = .ref l ∧ y = .int ((k : Nat) : Int) ∧ SqT K H l [v] ∧ 1 ≤ k ∧ k ≤ 1000 ∧ ∀ p H', Same H H' → SqT K H' p (List.replicate k v) → Q (.ref p) H'
theorem flat_one {α : Type} (v : α) : ∀ k : Nat, (List.replicate k [v]).flatten = List.replicate k v
  | 0 => rfl
  | k + 1 => by
    rw [List.replicate_succ, List.flatten_cons, flat_one v k, List.replicate_succ]
    rfl
theorem op_rep1 {X : Cx} : OpR X (binaryOp .Mult) (rRep1 X.K) := by
  intro pins s σ H x y v u Q I rx ry h
  obtain ⟨l, k, z, rfl, rfl, hT, h1, h2, q⟩ := h
  by_cases hk : k = 1
  · subst hk
    cases rx
    obtain ⟨t, rfl⟩ := ry
    obtain ⟨its, r, ⟨⟨cls, dd, data, sl⟩, ho, hc, n, hd⟩, hs⟩ := I.tuple hT
    simp only at hc hd
    subst hc hd
    refine wpAny_binaryOp_repeat_ref (T := "tuple") (U := "int") (by decide) ⟨_, ho, rfl⟩ (fun s' => typeIs_int s' 1 t) noFill_tuple_mul F.fills_int_mul F.slot_int_rmul repeat_tuple F.slot_int_index.lookup
      (call_meets F.slot_int_rmul (typeIs_int s 1 t) F.entry_int_rmul (F.args_int_rmul_2 _ _) (int_rmul_tuple 1 t l its.toArray n dd sl)
        ⟨ho, rfl, ⟨_, ho, rfl⟩, call_meets F.slot_tuple_mul ⟨_, ho, rfl⟩ F.entry_tuple_mul (F.args_tuple_mul_2 _ _) (tuple_mul1 l its.toArray n dd sl t) ⟨ho, ?_⟩⟩)
    exact ⟨.ref l, H, I, rfl, q l H (Same.refl H) hT⟩
  · refine op_repT pins s σ H _ _ v u Q I rx ry ⟨l, (k : Int), [z], rfl, rfl, hT, (fun e => nomatch e), by omega, by omega, by show 1 ≤ 1000; decide, fun p hp => ?_⟩
    refine q p _ (same_new hp) (.inl (.inl ?_))
    rw [upd_same, Int.toNat_natCast, flat_one]
/-! ### enumerate(tuple) -/
theorem meets_enumerate_newT (l : Addr) (items : Array Value) (n : Nat) (dct : Option Addr) (sl : Array (Option Value)) :
    Meets (Builtin.«enumerate.__new__» ⟨[.type "enumerate", .ref l], []⟩) (fun _ R s => s.heap.get? l = some { cls := .type "tuple", dict := dct, data := .seq items n, slots := sl } ∧
      R (.ok (.ret (.ref (s.heap.push { cls := .type "tuple_iterator", data := .fields #[.ref l, .int 0 0] }).objs.size)))
        { s with heap := (s.heap.push { cls := .type "tuple_iterator", data := .fields #[.ref l, .int 0 0] }).push { cls := .type "enumerate", data := .fields #[.none, .bool false, .ref s.heap.objs.size, rawInt 0, .none, .none] } }) :=
  .of_wp fun prog w A R s h => by
    obtain ⟨hp, g, d, tk, os⟩ := s
    obtain ⟨hl, h⟩ := h
    have hsub := sub_enumerate
    have hL : Heap.IsTuple (Shared.heap ⟨hp, g, d, tk, os⟩) l items := ⟨_, hl, rfl, n, rfl⟩
    wp_walk using AutoSeq1.wpAny_loadPart' hl
    refine wpAny_stack_any fun st => wpAny_pure ?_
    split
    · rename_i c _ _ _ _ _
      cases (c == Value.type "enumerate")
      · wp_walk using AutoSeq1.wpAny_loadPart' hl, wpAny_pyIter_tuple hL
        exact ⟨_, rfl, h⟩
      · wp_walk using AutoSeq1.wpAny_loadPart' hl, wpAny_pyIter_tuple hL
        exact ⟨_, rfl, h⟩
    · wp_walk using AutoSeq1.wpAny_loadPart' hl, wpAny_pyIter_tuple hL
      exact ⟨_, rfl, h⟩
theorem call_enumerate_tuple {prog : Program} {w : World} {A : Around} {E : Value → Shared → Prop} {s : Shared} {l : Addr} {items : Array Value} {Q : Value → Shared → Prop} (hL : s.heap.IsTuple l items)
    (h : ∀ h', IsEnum h' (s.heap.objs.size + 1) s.heap.objs.size 0 .none → h'.IsTupleIter s.heap.objs.size l 0 → h'.objs.size = s.heap.objs.size + 2 →
      (∀ b o, s.heap.get? b = some o → h'.get? b = some o) → Q (.ref (s.heap.objs.size + 1)) { s with heap := h' }) :
    wpAny (model prog w) A (call (.type "enumerate") [.ref l]) Q E s := by
  obtain ⟨⟨c, dct, dt, sl⟩, hl, hc, n, hd⟩ := hL
  replace hc : c = .type "tuple" := hc
  replace hd : dt = .seq items n := hd
  subst hc hd
  refine callType_new F.called_enumerate (by decide) (F.typeCall_enumerate_1 _) (F.newCall_enumerate_1 _) (fun obj => F.args_object_init_2 obj _) F.entry_enumerate_new
    (meets_enumerate_newT l items n dct sl) ⟨hl, ?_⟩
  have hz : (s.heap.push { cls := .type "tuple_iterator", data := .fields #[.ref l, .int 0 0] }).objs.size = s.heap.objs.size + 1 := Heap.size_push ..
  show _ ∧ _
  rw [hz]
  have he : IsEnum ((s.heap.push { cls := .type "tuple_iterator", data := .fields #[.ref l, .int 0 0] }).push
      { cls := .type "enumerate", data := .fields #[.none, .bool false, .ref s.heap.objs.size, rawInt 0, .none, .none] }) (s.heap.objs.size + 1) s.heap.objs.size 0 .none := by
    have := Heap.get?_push_size (s.heap.push { cls := .type "tuple_iterator", data := .fields #[.ref l, .int 0 0] })
      (o := { cls := .type "enumerate", data := .fields #[.none, .bool false, .ref s.heap.objs.size, rawInt 0, .none, .none] }) rfl
    rw [hz] at this; exact this
  refine ⟨⟨_, he, rfl⟩, h _ he ⟨_, Heap.get?_push_of_some _ (Heap.get?_push_size _ rfl), rfl, rfl⟩ (by rw [Heap.size_push, hz]) fun b o x => Heap.get?_push_of_some _ (Heap.get?_push_of_some _ x)⟩
/-- the tuple at a, each item in a new pair -/
def IteT (K : PySem.W.Frag) (a : Addr) (xs : List V) : It :=
  ⟨fun i H => SqT K H a xs ∧ i < xs.length, fun i H v H' => ∃ T x, v = .ref T ∧ H T = none ∧ H' = upd H T (.tup [.int (i : Nat), x]) ∧ xs[i]? = some x, fun i H => SqT K H a xs ∧ xs.length ≤ i⟩
theorem turn_enumT {P : Program} {w : World} {K : PySem.W.Frag} {elts : List Expr} {kk : Nat} {tpos : Pos} (a e it : Addr) (xs : List V) (hae : a ≠ e) (hai : a ≠ it) :
    Turn P w K (.Tuple elts kk tpos) (IteT K a xs) [e, it] e (fun i h => (∃ old, IsEnum h e it ((i : Nat) : Int) old) ∧ h.IsTupleIter it a i ∧ e ≠ it ∧ i ≤ xs.length) where
  mem := by simp
  obj := fun i h st b hb => by
    obtain ⟨⟨old, he⟩, ⟨o, ho, hc, hd⟩, _⟩ := st
    have e' : b = e ∨ b = it := by simpa using hb
    rcases e' with z | z
    · rw [z]; exact ⟨_, he, fun v q => nomatch q⟩
    · rw [z]; exact ⟨o, ho, fun v q => by rw [hd] at q; cases q⟩
  keep := fun i h h' st k => let ⟨⟨old, he⟩, hi, hne⟩ := st; ⟨⟨old, k e (by simp) _ he⟩, hi.at fun o q => k it (by simp) o q, hne⟩
  item := by
    intro X hP hw hK hc i pins s σ H E I hf st hg
    subst hP hw hK
    obtain ⟨⟨old, he⟩, hit, hne, hle⟩ := st
    obtain ⟨hq, hi⟩ := hg
    obtain ⟨its, rv, p, hz⟩ := I.tuple hq
    have hx : xs[i]? = some xs[i] := List.getElem?_eq_getElem hi
    obtain ⟨u, hu, ru⟩ := rv.get hx
    have hel : e < s.heap.objs.size := Heap.lt_size he
    have hil : it < s.heap.objs.size := by obtain ⟨_, q, _⟩ := hit; exact Heap.lt_size q
    have hl := rv.length
    refine wpAny_pyNext_enum_itemD (Draws.tuple (A := X.A.in1) (show X.A.in1.handled = none from I.ok.hd hc) it a hai its.toArray) (i := i) he ⟨hit, p⟩ (by rw [List.size_toArray]; omega) hne (by simp [hne, hae.symm]) fun x h' tk px ho hst hT hsz hk => ?_
    have ex : x = u := by
      have q : its[i]? = some x := by simpa using px
      rw [hu] at q
      exact (Option.some.inj q).symm
    subst ex
    refine ⟨_, rfl, wpAny_letOwnedTupleGo_enum (s := { s with heap := h', toks := tk + 1 }) ho fun h'' he' sb => ?_⟩
    have hT2 : h''.get? s.heap.objs.size = some { cls := .type "tuple", data := .seq #[.int i tk, x] } := (sb.2 _ (Nat.ne_of_gt hel)).trans hT
    have new : ObjOk X.prog X.w (upd H s.heap.objs.size (.tup [.int (i : Nat), xs[i]])) h'' s.heap.objs.size (.tup [.int (i : Nat), xs[i]]) :=
      ⟨by show 2 ≤ sizeLine; decide, [.int i tk, x], .cons ⟨_, rfl⟩ (.cons ru .nil), ⟨_, hT2, rfl, _, rfl⟩⟩
    have I1 : Inv X pins σ (upd H s.heap.objs.size (.tup [.int (i : Nat), xs[i]])) { s with heap := h'', toks := tk + 1 } :=
      I.turnedNew (ch := [e, it]) (fun b ob hb q => (sb.2 b (fun z => hb (by simp [z]))).trans (hk b ob (fun z => hb (by simp [z])) (fun z => hb (by simp [z])) q)) hf (Nat.le_refl _) new
    refine ⟨.ref s.heap.objs.size, _, I1, rfl, ⟨_, _, rfl, I.hok.fresh (Nat.le_refl _), rfl, hx⟩, ⟨⟨x, ?_⟩, hst.1.at fun o q => (sb.2 it (Ne.symm hne)).trans q, hne, hi⟩, fun b hb => ?_⟩
    · have e1 : ((i + 1 : Nat) : Int) = (i : Int) + 1 := by omega
      rw [e1]; exact he'
    · have hb' : b < s.heap.objs.size := by
        have e' : b = e ∨ b = it := by simpa using hb
        rcases e' with z | z
        · rw [z]; exact hel
        · rw [z]; exact hil
      rw [upd_ne (Nat.ne_of_lt hb')]
      exact (hf b hb).1
  done := by
    intro X hP hw hK hc i pins s σ H E I hf st hg
    subst hP hw hK
    obtain ⟨⟨old, he⟩, hit, hne, hle⟩ := st
    obtain ⟨hq, hx⟩ := hg
    obtain ⟨its, rv, p, hz⟩ := I.tuple hq
    obtain ⟨f0, f1, f2, f3, f4, f5⟩ := hf it (by simp)
    have hl := rv.length
    have ei : i = its.toArray.size := by rw [List.size_toArray]; omega
    subst ei
    exact wpAny_pyNext_enum_endD (Draws.tuple (A := X.A.in1) (show X.A.in1.handled = none from I.ok.hd hc) it a hai its.toArray) he ⟨hit, p⟩ fun h' eb => ⟨rfl, I.turned (t' := s.toks) (fun b o hb q => eb b o hb q) f0 f1 f3 f4 f5⟩
  self := fun A i s Q E st h => let ⟨⟨_, he⟩, _⟩ := st; wpAny_pyIter_enum he h
def iEnumT (K : PySem.W.Frag) (ta : TA) : TI := fun σ H R => ta σ H fun vs H1 => ∃ a xs, vs = [.ref a] ∧ SqT K H1 a xs ∧ R (IteT K a xs) H1
theorem pi_enumT {X : Cx} {e : Expr} {ta : TA} {p pos tpos : Pos} {elts : List Expr} {kk : Nat} (hg : Gl X "enumerate") (hm : X.mg "enumerate" = none) (ha : PA X [e] ta) (hs : starEach [e] X.env = [(false, eval e X.env)] := by rfl) :
    PI X (.Tuple elts kk tpos) (.Call (.Name "enumerate" p) [e] [] pos) (iEnumT X.K ta) := by
  refine ⟨fun pins s σ H R I h => ?_⟩
  refine Call_ (ld_blt I hg hm boot_enumerate (PyProof.Rows.callWith_type1 (thn (ha.run pos pins s σ H _ I h) fun us s1 ⟨vs, H1, I1, r1, q1⟩ => ?_) hs rfl))
  obtain ⟨a, xs, ex, hq, q⟩ := q1
  subst ex
  cases r1 with
  | cons r rr =>
    cases rr
    cases r
    obtain ⟨its, rv, p', hz⟩ := I1.tuple hq
    have hal : a < s1.heap.objs.size := by obtain ⟨o, ho, _⟩ := p'; exact Heap.lt_size ho
    refine call_enumerate_tuple (show s1.heap.IsTuple a its.toArray from p') fun h' he hit hsz hk => wpAny_pyIter_enum he ?_
    have I2 : Inv X pins σ H1 { s1 with heap := h' } := I1.kept (t' := s1.toks) hk
    refine ⟨s1.heap.objs.size + 1, [s1.heap.objs.size + 1, s1.heap.objs.size], _, _, H1, rfl, I2, turn_enumT a (s1.heap.objs.size + 1) s1.heap.objs.size xs (Nat.ne_of_lt (Nat.lt_succ_of_lt hal)) (Nat.ne_of_lt hal), ⟨⟨.none, he⟩, hit, Nat.succ_ne_self _, Nat.zero_le _⟩, fun b hb => ?_, q⟩
    have e' : b = s1.heap.objs.size + 1 ∨ b = s1.heap.objs.size := by simpa using hb
    have hle : s1.heap.objs.size ≤ b := by
      rcases e' with z | z
      · rw [z]; exact Nat.le_add_right _ _
      · rw [z]; exact Nat.le_refl _
    exact I1.fpOk hle (I1.hok.fresh hle)
/-! ### the keys of a locked dict -/
def ItN (P : Program) (w : World) (K : PySem.W.Frag) (d : Addr) (o : Obj) (D : List (Std × Way)) (xs : List (NestedKey × Addr × Value)) : It :=
  ⟨fun i H => H d = some (.frz o (DN P w d xs)) ∧ KN K H D xs ∧ i < D.length, fun i H v H' => H' = H ∧ ∃ p, D[i]? = some p ∧ Dq K H NoL v (sD p.1), fun i H => H d = some (.frz o (DN P w d xs)) ∧ D.length ≤ i⟩
theorem frzN {X : Cx} {pins : List (Addr × Obj)} {σ : L2.St} {H : Hp} {s : Shared} {d : Addr} {o : Obj} {xs : List (NestedKey × Addr × Value)} (I : Inv X pins σ H s) (h : H d = some (.frz o (DN X.prog X.w d xs))) :
    s.heap.get? d = some o ∧ o.ExactDict ∧ ∃ (es : Array DictEntry) (ep : Nat), o.data = .dict es ep ∧ es.toList = xs.map (entryOfKey (nestedKind X.prog X.w)) := by
  obtain ⟨hd, x⟩ := I.hok d _ h
  obtain ⟨⟨o', es, ep, h1, h2, h3, h4⟩, _⟩ := (show ObjOk X.prog X.w H s.heap d (DN X.prog X.w d xs) from x)
  rw [hd] at h1
  cases h1
  exact ⟨hd, h2, es, ep, h3, h4⟩
theorem turn_keysN {P : Program} {w : World} {K : PySem.W.Frag} {tg : Expr} {d : Addr} {o : Obj} {es : Array DictEntry} {ep : Nat} {D : List (Std × Way)} {xs : List (NestedKey × Addr × Value)} (it : Addr) (hod : o.data = .dict es ep) (hsz : es.size = D.length) :
    Turn P w K tg (ItN P w K d o D xs) [it] it (fun i h => h.IsKeyIter it d i D.length ep) where
  mem := by simp
  obj := fun i h st b hb => by
    have e : b = it := by simpa using hb
    subst e
    obtain ⟨oi, e, c, dd⟩ := st
    exact ⟨oi, e, fun v z => by rw [dd] at z; cases z⟩
  keep := fun i h h' st k => st.at fun oi e => k it (by simp) oi e
  item := by
    intro X hP hw hK hc i pins s σ H E I hf st hg
    subst hP hw hK
    obtain ⟨hd, kn, hi⟩ := hg
    obtain ⟨f0, f1, f2, f3, f4, f5⟩ := hf it (by simp)
    obtain ⟨hgd, hx, es', ep', hdt, he⟩ := frzN I hd
    obtain ⟨rfl, rfl⟩ := dict_ep hod hdt
    obtain ⟨q, hq, e1, e2, _⟩ := paired_get kn (List.getElem?_eq_getElem hi)
    have qe := entry_at he i
    rw [hq] at qe
    refine next_key_item st hgd hdt hsz qe fun h' st' sb => ?_
    have I1 : Inv X pins σ H { s with heap := h' } := I.turned (t' := s.toks) (fun b ob hb e => (sb.2 b hb).trans e) f0 f1 f3 f4 f5
    obtain ⟨oi, e, c, dd⟩ := id st'
    exact ⟨_, rfl, go_of (s := { s with heap := h' }) e c dd (by decide) ⟨.ref q.2.1, H, I1, rfl, ⟨rfl, _, List.getElem?_eq_getElem hi, e2⟩, st', fun b hb => (hf b hb).1⟩⟩
  done := by
    intro X hP hw hK hc i pins s σ H E I hf st hg
    subst hP hw hK
    obtain ⟨hd, hi⟩ := hg
    obtain ⟨f0, f1, f2, f3, f4, f5⟩ := hf it (by simp)
    obtain ⟨hgd, hx, es', ep', hdt, he⟩ := frzN I hd
    obtain ⟨rfl, rfl⟩ := dict_ep hod hdt
    exact next_key_end (I.ok.hd hc) st hgd hdt hsz hi fun h' eb => ⟨rfl, I.turned (t' := s.toks) (fun b ob hb e => eb b ob hb e) f0 f1 f3 f4 f5⟩
  self := fun A i s Q E st h => by
    refine wpAny_pyIter_slot st.typeIs F.slot_dict_keyiterator_iter (wpAny_call_entry F.slot_dict_keyiterator_iter st.typeIs F.entry_dict_keyiterator_iter ?_ (F.args_dict_keyiterator_iter_1 _))
    show wpAny _ _ (ret (.ref it)) _ _ s
    exact wpAny_pure ⟨_, rfl, "dict_keyiterator", _, st.typeIs, F.slot_dict_keyiterator_next.lookup, h⟩
def iKeysN (P : Program) (w : World) (K : PySem.W.Frag) (td : TE) : TI := fun σ H R => td σ H fun x H1 => ∃ d o D xs, x = .ref d ∧ (d == sysModules) = false ∧ H1 d = some (.frz o (DN P w d xs)) ∧ KN K H1 D xs ∧ R (ItN P w K d o D xs) H1
theorem pi_keysN {X : Cx} {tg e : Expr} {td : TE} (he : PE X e td) : PI X tg e (iKeysN X.prog X.w X.K td) := by
  refine ⟨fun pins s σ H R I h => ?_⟩
  refine thn (he.run pins s σ H _ I h) fun u s1 ⟨x, H1, I1, rx, d, o, D, xs, ex, hs, hd, kn, q⟩ => ?_
  subst ex
  obtain rfl : u = Value.ref d := rx
  obtain ⟨hgd, hx, es, ep, hdt, hes⟩ := frzN I1 hd
  have l1 : es.size = xs.length := size_of_entries hes
  have l2 := Paired.length kn
  have l3 : es.size = D.length := by omega
  refine iter_keys hs hgd hx hdt (pi_one (tk := s1.toks) I1 _ (turn_keysN _ hdt l3) ⟨_, Heap.get?_push_size _ rfl, rfl, ?_⟩ q)
  rw [l3] <;> rfl
end K12

set_option Elab.async false
set_option linter.all false
set_option maxRecDepth 100000
set_option maxHeartbeats 4000000
namespace K12
open PySem PySem.Spec PyProof.Rows L2
/-! ### the text -/
def topS (i : Nat) : Stmt := PySem.Challenge.pw_placehues_k12_whole_stands_that_come.main.body.getD i (.Pass ⟨0, 0, 0, 0⟩)
/-! ### data by depth -/
def atomD : PyData → Bool
  | .none => true
  | .bool _ => true
  | .int _ => true
  | .str _ => true
  | _ => false
def okD : Nat → PyData → Bool
  | n + 1, .list ds => decide (ds.length ≤ 1000) && ds.all (okD n)
  | n + 1, .tuple ds => decide (ds.length ≤ 1000) && ds.all (okD n)
  | _, d => atomD d
def hardD : Nat → PyData → PyData
  | n + 1, .list ds => .tuple (ds.map (hardD n))
  | n + 1, .tuple ds => .tuple (ds.map (hardD n))
  | _, d => d
def softD : Nat → PyData → PyData
  | n + 1, .list ds => .list (ds.map (softD n))
  | n + 1, .tuple ds => .list (ds.map (softD n))
  | _, d => d
def tyD : PyData → String
  | .none => "NoneType"
  | .bool _ => "bool"
  | .int _ => "int"
  | .str _ => "str"
  | .list _ => "list"
  | .tuple _ => "tuple"
  | .dict _ => "dict"
theorem Dq.ty {K : PySem.W.Frag} {H : Hp} {N : Addr → Prop} {v : V} {d : PyData} (h : Dq K H N v d) : TyX K H v (.type (tyD d)) := by
  cases h with
  | non => exact .base .non
  | bl b => exact .base (.bl b)
  | int i => exact .base (.int i)
  | str x => exact .base (.str x)
  | lst n s r =>
    rcases s with (s | ⟨o, s⟩) | ⟨o, its, m, hk, hc, _⟩
    · exact .base (.lst s)
    · exact .base (.frz s)
    · exact .kList hk hc
  | tup s r =>
    rcases s with (s | ⟨o, s⟩) | ⟨o, its, m, hk, hc, _⟩
    · exact .base (.tup s)
    · exact .fTuple s
    · exact .kTuple hk hc
def isLi : PyData → Bool
  | .list _ => true
  | _ => false
def isTu : PyData → Bool
  | .tuple _ => true
  | _ => false
def isBo : PyData → Bool
  | .bool _ => true
  | _ => false
def isSt : PyData → Bool
  | .str _ => true
  | _ => false
def isIn : PyData → Bool
  | .bool _ => true
  | .int _ => true
  | _ => false
def isSeq (d : PyData) : Bool := isLi d || isTu d
theorem kit_list {K : PySem.W.Frag} : ∀ d : PyData, PySem.W.kitOne K (.type (tyD d)) (.type "list") = some (isLi d)
  | .none => kit_ty (by show kitB "NoneType" "list" = some false; decide +kernel)
  | .bool _ => kit_ty (by show kitB "bool" "list" = some false; decide +kernel)
  | .int _ => kit_ty (by show kitB "int" "list" = some false; decide +kernel)
  | .str _ => kit_ty (by show kitB "str" "list" = some false; decide +kernel)
  | .list _ => kit_ty (by show kitB "list" "list" = some true; decide +kernel)
  | .tuple _ => kit_ty (by show kitB "tuple" "list" = some false; decide +kernel)
  | .dict _ => kit_ty (by show kitB "dict" "list" = some false; decide +kernel)
theorem kit_tuple {K : PySem.W.Frag} : ∀ d : PyData, PySem.W.kitOne K (.type (tyD d)) (.type "tuple") = some (isTu d)
  | .none => kit_ty (by show kitB "NoneType" "tuple" = some false; decide +kernel)
  | .bool _ => kit_ty (by show kitB "bool" "tuple" = some false; decide +kernel)
  | .int _ => kit_ty (by show kitB "int" "tuple" = some false; decide +kernel)
  | .str _ => kit_ty (by show kitB "str" "tuple" = some false; decide +kernel)
  | .list _ => kit_ty (by show kitB "list" "tuple" = some false; decide +kernel)
  | .tuple _ => kit_ty (by show kitB "tuple" "tuple" = some true; decide +kernel)
  | .dict _ => kit_ty (by show kitB "dict" "tuple" = some false; decide +kernel)
theorem kit_bool {K : PySem.W.Frag} : ∀ d : PyData, PySem.W.kitOne K (.type (tyD d)) (.type "bool") = some (isBo d)
  | .none => kit_ty (by show kitB "NoneType" "bool" = some false; decide +kernel)
  | .bool _ => kit_ty (by show kitB "bool" "bool" = some true; decide +kernel)
  | .int _ => kit_ty (by show kitB "int" "bool" = some false; decide +kernel)
  | .str _ => kit_ty (by show kitB "str" "bool" = some false; decide +kernel)
  | .list _ => kit_ty (by show kitB "list" "bool" = some false; decide +kernel)
  | .tuple _ => kit_ty (by show kitB "tuple" "bool" = some false; decide +kernel)
  | .dict _ => kit_ty (by show kitB "dict" "bool" = some false; decide +kernel)
theorem kit_str {K : PySem.W.Frag} : ∀ d : PyData, PySem.W.kitOne K (.type (tyD d)) (.type "str") = some (isSt d)
  | .none => kit_ty (by show kitB "NoneType" "str" = some false; decide +kernel)
  | .bool _ => kit_ty (by show kitB "bool" "str" = some false; decide +kernel)
  | .int _ => kit_ty (by show kitB "int" "str" = some false; decide +kernel)
  | .str _ => kit_ty (by show kitB "str" "str" = some true; decide +kernel)
  | .list _ => kit_ty (by show kitB "list" "str" = some false; decide +kernel)
  | .tuple _ => kit_ty (by show kitB "tuple" "str" = some false; decide +kernel)
  | .dict _ => kit_ty (by show kitB "dict" "str" = some false; decide +kernel)
theorem kit_int {K : PySem.W.Frag} : ∀ d : PyData, PySem.W.kitOne K (.type (tyD d)) (.type "int") = some (isIn d)
  | .none => kit_ty (by show kitB "NoneType" "int" = some false; decide +kernel)
  | .bool _ => kit_ty (by show kitB "bool" "int" = some true; decide +kernel)
  | .int _ => kit_ty (by show kitB "int" "int" = some true; decide +kernel)
  | .str _ => kit_ty (by show kitB "str" "int" = some false; decide +kernel)
  | .list _ => kit_ty (by show kitB "list" "int" = some false; decide +kernel)
  | .tuple _ => kit_ty (by show kitB "tuple" "int" = some false; decide +kernel)
  | .dict _ => kit_ty (by show kitB "dict" "int" = some false; decide +kernel)
theorem kit_seq {K : PySem.W.Frag} (d : PyData) : PySem.W.kitAny K (.type (tyD d)) [.type "list", .type "tuple"] = some (isLi d || isTu d) := by
  refine kitAny_cons (kit_list d) (fun h => kitAny_cons (kit_tuple d) (fun h2 => ?_) (fun h2 => ?_)) (fun h => ?_)
  · rw [kitAny_nil, h, h2]
    rfl
  · rw [h2, Bool.or_true]
  · rw [h, Bool.true_or]
theorem kit_bs {K : PySem.W.Frag} (d : PyData) : PySem.W.kitAny K (.type (tyD d)) [.type "bool", .type "str"] = some (isBo d || isSt d) := by
  refine kitAny_cons (kit_bool d) (fun h => kitAny_cons (kit_str d) (fun h2 => ?_) (fun h2 => ?_)) (fun h => ?_)
  · rw [kitAny_nil, h, h2]
    rfl
  · rw [h2, Bool.or_true]
  · rw [h, Bool.true_or]
theorem Dq.atom {K : PySem.W.Frag} {H H' : Hp} {N N' : Addr → Prop} {v : V} {d : PyData} (a : atomD d = true) (h : Dq K H N v d) : Dq K H' N' v d := by
  cases h with
  | non => exact .non
  | bl b => exact .bl b
  | int i => exact .int i
  | str x => exact .str x
  | lst => cases a
  | tup => cases a
theorem okD_atom {n : Nat} {d : PyData} (h : okD n d = true) (hs : isSeq d = false) : atomD d = true ∧ hardD n d = d ∧ softD n d = d := by
  cases d with
  | list => cases hs
  | tuple => cases hs
  | dict => cases n <;> cases h
  | none => cases n <;> exact ⟨rfl, rfl, rfl⟩
  | bool => cases n <;> exact ⟨rfl, rfl, rfl⟩
  | int => cases n <;> exact ⟨rfl, rfl, rfl⟩
  | str => cases n <;> exact ⟨rfl, rfl, rfl⟩
theorem okD_list {n : Nat} {ds : List PyData} (h : okD n (.list ds) = true) : ∃ m, n = m + 1 ∧ ds.length ≤ 1000 ∧ ∀ d, d ∈ ds → okD m d = true := by
  cases n with
  | zero => cases h
  | succ m =>
    have h' : (decide (ds.length ≤ 1000) && ds.all (okD m)) = true := h
    rw [Bool.and_eq_true, List.all_eq_true] at h'
    exact ⟨m, rfl, of_decide_eq_true h'.1, h'.2⟩
theorem okD_tuple {n : Nat} {ds : List PyData} (h : okD n (.tuple ds) = true) : ∃ m, n = m + 1 ∧ ds.length ≤ 1000 ∧ ∀ d, d ∈ ds → okD m d = true := by
  cases n with
  | zero => cases h
  | succ m =>
    have h' : (decide (ds.length ≤ 1000) && ds.all (okD m)) = true := h
    rw [Bool.and_eq_true, List.all_eq_true] at h'
    exact ⟨m, rfl, of_decide_eq_true h'.1, h'.2⟩
theorem kept {σ : L2.St} {H : Hp} {te : TE} {R : VK} {R' : Hp → Prop} (h : te σ H R) : tYes σ H (fun b H3 => if b = true then te σ H3 R else R' H3) := iteT (A := te σ H R) (B := R' H) h
/-- a new list at D grows, all else of H0 stays -/
structure Grow (H0 : Hp) (D : Addr) (acc : List V) (H : Hp) : Prop where
  new : H0 D = none
  at' : H D = some (.lst acc)
  same : Same H0 H
theorem Grow.start {H0 : Hp} {D : Addr} (h : H0 D = none) : Grow H0 D [] (upd H0 D (.lst [])) := ⟨h, upd_same, same_new h⟩
theorem Grow.on {H0 H H' : Hp} {D : Addr} {acc : List V} (g : Grow H0 D acc H) (s : Same H H') : Grow H0 D acc H' := ⟨g.new, s _ _ g.at', g.same.trans s⟩
theorem Grow.push {H0 H : Hp} {D : Addr} {acc : List V} (g : Grow H0 D acc H) (v : V) : Grow H0 D (acc ++ [v]) (upd H D (.lst (acc ++ [v]))) :=
  ⟨g.new, upd_same, fun b o e => by rw [upd_ne (ne_of_none e g.new)]; exact g.same b o e⟩
theorem Grow.tk {H0 H : Hp} {D : Addr} {acc : List V} (g : Grow H0 D acc H) (o : HO) : Tk H (upd H D o) := .upd (noTup_lst g.at')
theorem take_snoc {α : Type} {l : List α} {i : Nat} {x : α} (h : l[i]? = some x) : l.take (i + 1) = l.take i ++ [x] := by
  rw [List.take_add_one, h]
  rfl
/-! ### tuple_of -/
abbrev sTupleOf : Stmt := topS 5
theorem scTupleOf : FnScope ["thing", "part"] ["thing"] (defScope sTupleOf) := ⟨rfl, rfl, rfl, by decide +kernel, rfl, by decide +kernel, by decide +kernel⟩
def spTup (K : PySem.W.Frag) : Nat → Sp
  | 0 => fun _ _ _ _ => False
  | n + 1 => fun vs H Q _ => ∃ x d N, vs = [x] ∧ Dq K H N x d ∧ okD n d = true ∧ ∀ v H', Same H H' → Dq K H' NoL v (hardD n d) → Q v H'
section
variable {P : Program} {w : World} {K : PySem.W.Frag} {mg : Str → Option Value} {base : Heap}
theorem fn_none {f : Addr} {fd : FuncData} {ps : List Str} : FnOk P w K mg base CX0 0 f fd ps (fun _ _ _ _ => False) :=
  ⟨fun vs H Q E h => h.elim, fun A outer s H args us vs Q E _ _ _ _ h => h.elim⟩
theorem small1 {n : Nat} (h : n ≤ 1000) : n < sizeLine := small1000 h
theorem ok_tup {f : Addr} {fd : FuncData} (F : Fun K "tuple_of" "tuple_of" sTupleOf f fd) (bF : Binds K fd ["thing"] []) (gF : mg "tuple_of" = some (.ref f)) (mi : mg "isinstance" = none) (ml : mg "list" = none) (mt : mg "tuple" = none) :
    ∀ n, FnOk P w K mg base CX0 n f fd ["thing"] (spTup K n)
  | 0 => fn_none
  | n + 1 => by
    have G := ok_tup F bF gF mi ml mt n
    refine F.ok scTupleOf (fun vs H Q E h => ?_) (fun cdv A outer s H vs Q E hr h => ?_)
    · obtain ⟨x, d, N, rfl, _⟩ := h
      rfl
    obtain ⟨x, d, N, rfl, hx, hok, q⟩ := h
    by_cases hs : isSeq d = true
    · cases d with
      | list ds =>
        obtain ⟨a, xs, rfl, _, hS, hD⟩ := hx.lstI
        obtain ⟨m, rfl, hl, hall⟩ := okD_list hok
        refine ⟨_, pss_cons (ps_if (pt_val (pe_callB call_isiT (by rfl) mi boot_isinstance (pa_cons (pv 0) (pa_cons (pe_tup (pa_cons (pe_bltn (v := .ty "list") (by rfl) ml boot_list rfl) (pa_cons (pe_bltn (v := .ty "tuple") (by rfl) mt boot_tuple rfl) pa_nil))) pa_nil))))
          (pss_one (ps_ret (pe_callTy call_tuple_of (by rfl) mt boot_tuple (pa_cons (pe_lc (own := [("part", 1)]) (g := gName 1) (tt := tYes) rfl scTupleOf.nd (pi_list (pv 0)) (blkOk_by (N := ["thing", "part"]) (sc := defScope sTupleOf) (by decide +kernel)) (fun _ _ _ _ _ => pg_name (i := 1) scTupleOf.nd rfl (Or.inl rfl)) (fun _ _ _ _ _ => pts_nil)
            (fun _ _ _ _ _ => pe_call G hr (by rfl) gF F.kp bF .nil pass0 (pa_cons (pv 1) pa_nil))) pa_nil)))) pss_nil) pss_never, ?_⟩
        refine ⟨_, rfl, (by show 2 ≤ sizeLine; decide), fun tp ntp => ⟨_, tp, _, _, [.type "list", .type "tuple"], _, rfl, upd_same, .cons (.ty _) (.cons (.ty _) .nil), (hx.sm (same_new ntp)).ty, kit_seq _, _, rfl, ?_⟩⟩
        have s1 : Same H (upd H tp (.tup [.ty "list", .ty "tuple"])) := same_new ntp
        refine iteT ⟨_, rfl, a, rfl, ⟨xs, s1.seq hS⟩, fun D hD0 => ?_⟩
        refine lc_list (K := K) (xs := xs) (fun i H3 => ∃ acc, Grow (upd H tp (.tup [.ty "list", .ty "tuple"])) D acc H3 ∧ Dqs K H3 NoL acc ((ds.take i).map (hardD m))) ⟨[], .start hD0, .nil⟩ (fun i H3 _ hp => ?_) (fun i v H3 hv hp => ?_) (fun H3 hp => ?_)
        · obtain ⟨acc, g, _⟩ := hp
          exact g.same.seq (s1.seq hS)
        · obtain ⟨acc, g, ga⟩ := hp
          obtain ⟨e, he, hve⟩ := hD.getV hv
          have hlt := (List.getElem?_eq_some_iff.mp he).1
          refine ⟨rfl, kept ?_⟩
          refine ⟨_, rfl, _, e, N, rfl, (hve.sm s1).sm g.same, hall e (List.mem_of_getElem? he), fun y H4 s4 hy => ?_⟩
          have g4 := g.on s4
          have la := ga.length
          rw [List.length_map, List.length_take] at la
          refine ⟨acc, g4.at', small1 (by omega), acc ++ [y], g4.push y, ?_⟩
          rw [take_snoc he, List.map_append]
          exact ((ga.sm s4).append (.one hy)).tk (g4.tk _)
        · obtain ⟨acc, g, ga⟩ := hp
          refine ⟨D, acc, rfl, .inl ⟨.inl (.inl g.at'), fun l hl0 => ?_⟩⟩
          have el : ds.take xs.length = ds := by rw [hD.length]; exact List.take_length
          rw [el] at ga
          exact q _ _ ((s1.trans g.same).trans (same_new hl0)) (.tup (.inl (.inl upd_same)) (ga.sm (same_new hl0)))
      | tuple ds =>
        obtain ⟨a, xs, rfl, hS, hD⟩ := hx.tupI
        obtain ⟨m, rfl, hl, hall⟩ := okD_tuple hok
        refine ⟨_, pss_cons (ps_if (pt_val (pe_callB call_isiT (by rfl) mi boot_isinstance (pa_cons (pv 0) (pa_cons (pe_tup (pa_cons (pe_bltn (v := .ty "list") (by rfl) ml boot_list rfl) (pa_cons (pe_bltn (v := .ty "tuple") (by rfl) mt boot_tuple rfl) pa_nil))) pa_nil))))
          (pss_one (ps_ret (pe_callTy call_tuple_of (by rfl) mt boot_tuple (pa_cons (pe_lc (own := [("part", 1)]) (g := gName 1) (tt := tYes) rfl scTupleOf.nd (pi_tup (pv 0)) (blkOk_by (N := ["thing", "part"]) (sc := defScope sTupleOf) (by decide +kernel)) (fun _ _ _ _ _ => pg_name (i := 1) scTupleOf.nd rfl (Or.inl rfl)) (fun _ _ _ _ _ => pts_nil)
            (fun _ _ _ _ _ => pe_call G hr (by rfl) gF F.kp bF .nil pass0 (pa_cons (pv 1) pa_nil))) pa_nil)))) pss_nil) pss_never, ?_⟩
        refine ⟨_, rfl, (by show 2 ≤ sizeLine; decide), fun tp ntp => ⟨_, tp, _, _, [.type "list", .type "tuple"], _, rfl, upd_same, .cons (.ty _) (.cons (.ty _) .nil), (hx.sm (same_new ntp)).ty, kit_seq _, _, rfl, ?_⟩⟩
        have s1 : Same H (upd H tp (.tup [.ty "list", .ty "tuple"])) := same_new ntp
        refine iteT ⟨_, rfl, a, rfl, ⟨xs, (Tk.same s1).seq hS⟩, fun D hD0 => ?_⟩
        refine lc_tup (K := K) (xs := xs) (fun i H3 => ∃ acc, Grow (upd H tp (.tup [.ty "list", .ty "tuple"])) D acc H3 ∧ Dqs K H3 NoL acc ((ds.take i).map (hardD m))) ⟨[], .start hD0, .nil⟩ (fun i H3 _ hp => ?_) (fun i v H3 hv hp => ?_) (fun H3 hp => ?_)
        · obtain ⟨acc, g, _⟩ := hp
          exact (Tk.same g.same).seq ((Tk.same s1).seq hS)
        · obtain ⟨acc, g, ga⟩ := hp
          obtain ⟨e, he, hve⟩ := hD.getV hv
          have hlt := (List.getElem?_eq_some_iff.mp he).1
          refine ⟨rfl, kept ?_⟩
          refine ⟨_, rfl, _, e, N, rfl, (hve.sm s1).sm g.same, hall e (List.mem_of_getElem? he), fun y H4 s4 hy => ?_⟩
          have g4 := g.on s4
          have la := ga.length
          rw [List.length_map, List.length_take] at la
          refine ⟨acc, g4.at', small1 (by omega), acc ++ [y], g4.push y, ?_⟩
          rw [take_snoc he, List.map_append]
          exact ((ga.sm s4).append (.one hy)).tk (g4.tk _)
        · obtain ⟨acc, g, ga⟩ := hp
          refine ⟨D, acc, rfl, .inl ⟨.inl (.inl g.at'), fun l hl0 => ?_⟩⟩
          have el : ds.take xs.length = ds := by rw [hD.length]; exact List.take_length
          rw [el] at ga
          exact q _ _ ((s1.trans g.same).trans (same_new hl0)) (.tup (.inl (.inl upd_same)) (ga.sm (same_new hl0)))
      | none => cases hs
      | bool => cases hs
      | int => cases hs
      | str => cases hs
      | dict => cases hs
    · have hs' : isSeq d = false := by simpa using hs
      refine ⟨_, pss_cons (ps_if (pt_val (pe_callB call_isiT (by rfl) mi boot_isinstance (pa_cons (pv 0) (pa_cons (pe_tup (pa_cons (pe_bltn (v := .ty "list") (by rfl) ml boot_list rfl) (pa_cons (pe_bltn (v := .ty "tuple") (by rfl) mt boot_tuple rfl) pa_nil))) pa_nil)))) pss_never pss_nil)
        (pss_one (ps_ret (pv 0))), ?_⟩
      refine ⟨_, rfl, (by show 2 ≤ sizeLine; decide), fun tp ntp => ⟨_, tp, _, _, [.type "list", .type "tuple"], _, rfl, upd_same, .cons (.ty _) (.cons (.ty _) .nil), (hx.sm (same_new ntp)).ty, kit_seq d, _, rfl, ?_⟩⟩
      show if isSeq d = true then _ else _
      rw [hs']
      obtain ⟨a1, a2, _⟩ := okD_atom hok hs'
      refine iteF ⟨_, rfl, q x _ (same_new ntp) ?_⟩
      rw [a2]
      exact hx.atom a1
end
end K12

set_option Elab.async false
set_option linter.all false
set_option maxRecDepth 100000
set_option maxHeartbeats 4000000
namespace K12
open PySem PySem.Spec PyProof.Rows L2
/-! ### _law_lists -/
abbrev sLists : Stmt := topS 21
theorem scLists : FnScope ["_law_matter", "_law_own"] ["_law_matter"] (defScope sLists) := ⟨rfl, rfl, rfl, by decide +kernel, rfl, by decide +kernel, by decide +kernel⟩
def spSof (K : PySem.W.Frag) : Nat → Sp
  | 0 => fun _ _ _ _ => False
  | n + 1 => fun vs H Q _ => ∃ x d N, vs = [x] ∧ Dq K H N x d ∧ okD n d = true ∧ ∀ v H', Same H H' → Dq K H' (fun a => H a = none) v (softD n d) → Q v H'
theorem pe_never {X : Cx} {e : Expr} : PE X e (fun _ _ _ => False) := ⟨fun _ _ _ _ _ _ h => h.elim⟩
theorem pt_never {X : Cx} {e : Expr} : PT X e (fun _ _ _ => False) := ⟨fun _ _ _ _ _ _ h => h.elim⟩
section
variable {P : Program} {w : World} {K : PySem.W.Frag} {mg : Str → Option Value} {base : Heap}
theorem ok_sof {f : Addr} {fd : FuncData} (F : Fun K "_law_lists" "_law_lists" sLists f fd) (bF : Binds K fd ["_law_matter"] []) (gF : mg "_law_lists" = some (.ref f)) (mi : mg "isinstance" = none) (ml : mg "list" = none) (mt : mg "tuple" = none) :
    ∀ n, FnOk P w K mg base CX0 n f fd ["_law_matter"] (spSof K n)
  | 0 => fn_none
  | n + 1 => by
    have G := ok_sof F bF gF mi ml mt n
    refine F.ok scLists (fun vs H Q E h => ?_) (fun cdv A outer s H vs Q E hr h => ?_)
    · obtain ⟨x, d, N, rfl, _⟩ := h
      rfl
    obtain ⟨x, d, N, rfl, hx, hok, q⟩ := h
    by_cases hs : isSeq d = true
    · cases d with
      | list ds =>
        obtain ⟨a, xs, rfl, _, hS, hD⟩ := hx.lstI
        obtain ⟨m, rfl, hl, hall⟩ := okD_list hok
        refine ⟨_, pss_one (ps_ret (pe_ifExp (pt_val (pe_callB call_isiT (by rfl) mi boot_isinstance (pa_cons (pv 0) (pa_cons (pe_tup (pa_cons (pe_bltn (v := .ty "list") (by rfl) ml boot_list rfl) (pa_cons (pe_bltn (v := .ty "tuple") (by rfl) mt boot_tuple rfl) pa_nil))) pa_nil))))
          (pe_lc (own := [("_law_own", 1)]) (g := gName 1) (tt := tYes) rfl scLists.nd (pi_list (pv 0)) (blkOk_by (N := ["_law_matter", "_law_own"]) (sc := defScope sLists) (by decide +kernel)) (fun _ _ _ _ _ => pg_name (i := 1) scLists.nd rfl (Or.inl rfl)) (fun _ _ _ _ _ => pts_nil)
            (fun _ _ _ _ _ => pe_call G hr (by rfl) gF F.kp bF .nil pass0 (pa_cons (pv 1) pa_nil)))
          (pv 0))), ?_⟩
        refine ⟨_, rfl, (by show 2 ≤ sizeLine; decide), fun tp ntp => ⟨_, tp, _, _, [.type "list", .type "tuple"], _, rfl, upd_same, .cons (.ty _) (.cons (.ty _) .nil), (hx.sm (same_new ntp)).ty, kit_seq _, _, rfl, ?_⟩⟩
        have s1 : Same H (upd H tp (.tup [.ty "list", .ty "tuple"])) := same_new ntp
        refine iteT ⟨_, rfl, a, rfl, ⟨xs, s1.seq hS⟩, fun D hD0 => ?_⟩
        have nD : H D = none := s1.free hD0
        refine lc_list (K := K) (xs := xs) (fun i H3 => ∃ acc, Grow (upd H tp (.tup [.ty "list", .ty "tuple"])) D acc H3 ∧ Dqs K H3 (fun b => H b = none ∧ b ≠ D) acc ((ds.take i).map (softD m))) ⟨[], .start hD0, .nil⟩ (fun i H3 _ hp => ?_) (fun i v H3 hv hp => ?_) (fun H3 hp => ?_)
        · obtain ⟨acc, g, _⟩ := hp
          exact g.same.seq (s1.seq hS)
        · obtain ⟨acc, g, ga⟩ := hp
          obtain ⟨e, he, hve⟩ := hD.getV hv
          have hlt := (List.getElem?_eq_some_iff.mp he).1
          refine ⟨rfl, kept ?_⟩
          refine ⟨_, rfl, _, e, N, rfl, (hve.sm s1).sm g.same, hall e (List.mem_of_getElem? he), fun y H4 s4 hy => ?_⟩
          have g4 := g.on s4
          have la := ga.length
          rw [List.length_map, List.length_take] at la
          refine ⟨acc, g4.at', small1 (by omega), acc ++ [y], g4.push y, ?_⟩
          rw [take_snoc he, List.map_append]
          have hy2 : Dq K H4 (fun b => H b = none ∧ b ≠ D) y (softD m e) := hy.wk fun b hb => ⟨(s1.trans g.same).free hb, fun z => by rw [z, g.at'] at hb; cases hb⟩
          exact ((ga.sm s4).append (.one hy2)).keep (U := fun b => b = D) (g4.tk _) (.upd (.inl rfl)) (fun b hb => hb.2) (fun b hb => hb)
        · obtain ⟨acc, g, ga⟩ := hp
          have el : ds.take xs.length = ds := by rw [hD.length]; exact List.take_length
          rw [el] at ga
          exact q _ _ (s1.trans g.same) (.lst nD (.inl (.inl g.at')) (ga.wk fun b hb => hb.1))
      | tuple ds =>
        obtain ⟨a, xs, rfl, hS, hD⟩ := hx.tupI
        obtain ⟨m, rfl, hl, hall⟩ := okD_tuple hok
        refine ⟨_, pss_one (ps_ret (pe_ifExp (pt_val (pe_callB call_isiT (by rfl) mi boot_isinstance (pa_cons (pv 0) (pa_cons (pe_tup (pa_cons (pe_bltn (v := .ty "list") (by rfl) ml boot_list rfl) (pa_cons (pe_bltn (v := .ty "tuple") (by rfl) mt boot_tuple rfl) pa_nil))) pa_nil))))
          (pe_lc (own := [("_law_own", 1)]) (g := gName 1) (tt := tYes) rfl scLists.nd (pi_tup (pv 0)) (blkOk_by (N := ["_law_matter", "_law_own"]) (sc := defScope sLists) (by decide +kernel)) (fun _ _ _ _ _ => pg_name (i := 1) scLists.nd rfl (Or.inl rfl)) (fun _ _ _ _ _ => pts_nil)
            (fun _ _ _ _ _ => pe_call G hr (by rfl) gF F.kp bF .nil pass0 (pa_cons (pv 1) pa_nil)))
          (pv 0))), ?_⟩
        refine ⟨_, rfl, (by show 2 ≤ sizeLine; decide), fun tp ntp => ⟨_, tp, _, _, [.type "list", .type "tuple"], _, rfl, upd_same, .cons (.ty _) (.cons (.ty _) .nil), (hx.sm (same_new ntp)).ty, kit_seq _, _, rfl, ?_⟩⟩
        have s1 : Same H (upd H tp (.tup [.ty "list", .ty "tuple"])) := same_new ntp
        refine iteT ⟨_, rfl, a, rfl, ⟨xs, (Tk.same s1).seq hS⟩, fun D hD0 => ?_⟩
        have nD : H D = none := s1.free hD0
        refine lc_tup (K := K) (xs := xs) (fun i H3 => ∃ acc, Grow (upd H tp (.tup [.ty "list", .ty "tuple"])) D acc H3 ∧ Dqs K H3 (fun b => H b = none ∧ b ≠ D) acc ((ds.take i).map (softD m))) ⟨[], .start hD0, .nil⟩ (fun i H3 _ hp => ?_) (fun i v H3 hv hp => ?_) (fun H3 hp => ?_)
        · obtain ⟨acc, g, _⟩ := hp
          exact (Tk.same g.same).seq ((Tk.same s1).seq hS)
        · obtain ⟨acc, g, ga⟩ := hp
          obtain ⟨e, he, hve⟩ := hD.getV hv
          have hlt := (List.getElem?_eq_some_iff.mp he).1
          refine ⟨rfl, kept ?_⟩
          refine ⟨_, rfl, _, e, N, rfl, (hve.sm s1).sm g.same, hall e (List.mem_of_getElem? he), fun y H4 s4 hy => ?_⟩
          have g4 := g.on s4
          have la := ga.length
          rw [List.length_map, List.length_take] at la
          refine ⟨acc, g4.at', small1 (by omega), acc ++ [y], g4.push y, ?_⟩
          rw [take_snoc he, List.map_append]
          have hy2 : Dq K H4 (fun b => H b = none ∧ b ≠ D) y (softD m e) := hy.wk fun b hb => ⟨(s1.trans g.same).free hb, fun z => by rw [z, g.at'] at hb; cases hb⟩
          exact ((ga.sm s4).append (.one hy2)).keep (U := fun b => b = D) (g4.tk _) (.upd (.inl rfl)) (fun b hb => hb.2) (fun b hb => hb)
        · obtain ⟨acc, g, ga⟩ := hp
          have el : ds.take xs.length = ds := by rw [hD.length]; exact List.take_length
          rw [el] at ga
          exact q _ _ (s1.trans g.same) (.lst nD (.inl (.inl g.at')) (ga.wk fun b hb => hb.1))
      | none => cases hs
      | bool => cases hs
      | int => cases hs
      | str => cases hs
      | dict => cases hs
    · have hs' : isSeq d = false := by simpa using hs
      refine ⟨_, pss_one (ps_ret (pe_ifExp (pt_val (pe_callB call_isiT (by rfl) mi boot_isinstance (pa_cons (pv 0) (pa_cons (pe_tup (pa_cons (pe_bltn (v := .ty "list") (by rfl) ml boot_list rfl) (pa_cons (pe_bltn (v := .ty "tuple") (by rfl) mt boot_tuple rfl) pa_nil))) pa_nil))))
        (pe_never) (pv 0))), ?_⟩
      refine ⟨_, rfl, (by show 2 ≤ sizeLine; decide), fun tp ntp => ⟨_, tp, _, _, [.type "list", .type "tuple"], _, rfl, upd_same, .cons (.ty _) (.cons (.ty _) .nil), (hx.sm (same_new ntp)).ty, kit_seq d, _, rfl, ?_⟩⟩
      show if isSeq d = true then _ else _
      rw [hs']
      obtain ⟨a1, _, a2⟩ := okD_atom hok hs'
      refine iteF ⟨_, rfl, q x _ (same_new ntp) ?_⟩
      rw [a2]
      exact hx.atom a1
end
end K12

set_option Elab.async false
set_option linter.all false
set_option maxRecDepth 100000
set_option maxHeartbeats 4000000
namespace K12
open PySem PySem.Spec PyProof.Rows L2
/-! ### walks -/
theorem walk_zipT {K : PySem.W.Frag} {a b : Addr} {xs ys : List V} {n : Nat} (hn : n = min xs.length ys.length) : Walk (RZ.ItzT K a b) n (fun H => SqT K H a xs ∧ SqT K H b ys) (YPair (fun i => xs[i]?) (fun i => ys[i]?)) := by
  subst hn
  refine ⟨fun i _ hi q => ?_, fun _ q => ⟨xs, ys, q.1, q.2, by omega⟩, fun i H v H' _ q y => ?_⟩
  · have h1 : i < xs.length := by omega
    have h2 : i < ys.length := by omega
    exact ⟨xs, ys, xs[i], ys[i], q.1, q.2, by simp [h1], by simp [h2]⟩
  · obtain ⟨T, x, z, h1, h2, h3, h4, h5⟩ := y
    exact ⟨T, x, z, h1, h2, h3, h4 xs q.1, h5 ys q.2⟩
theorem walk_enumT {K : PySem.W.Frag} {a : Addr} {xs : List V} : Walk (IteT K a xs) xs.length (fun H => SqT K H a xs) (YPair (fun i => some (.int (i : Nat))) (fun i => xs[i]?)) := by
  refine ⟨fun i _ hi q => ⟨q, hi⟩, fun _ q => ⟨q, Nat.le_refl _⟩, fun i H v H' _ q y => ?_⟩
  obtain ⟨T, x, h1, h2, h3, h4⟩ := y
  exact ⟨T, .int (i : Nat), x, h1, h2, h3, rfl, h4⟩
/-! ### _law_same -/
abbrev sSame : Stmt := topS 22
theorem scSame : FnScope ["_law_got", "_law_goal", "_law_mine_so", "_law_own"] ["_law_got", "_law_goal"] (defScope sSame) := ⟨rfl, rfl, rfl, by decide +kernel, rfl, by decide +kernel, by decide +kernel⟩
def spSame (K : PySem.W.Frag) : Nat → Sp
  | 0 => fun _ _ _ _ => False
  | n + 1 => fun vs H Q _ => ∃ x y d N N', vs = [x, y] ∧ Dq K H N x d ∧ Dq K H N' y d ∧ okD n d = true ∧ ∀ H', Same H H' → Q (.bl true) H'
section
variable {P : Program} {w : World} {K : PySem.W.Frag} {mg : Str → Option Value} {base : Heap}
theorem all_rep (n : Nat) : (List.replicate n true).all id = true := by
  induction n with
  | zero => rfl
  | succ n ih => rw [List.replicate_succ, List.all_cons, ih]; rfl
theorem map_rep (n : Nat) : (List.replicate n true).map V.bl = List.replicate n (.bl true) := by rw [List.map_replicate]
theorem ok_same {f : Addr} {fd : FuncData} (F : Fun K "_law_same" "_law_same" sSame f fd) (bF : Binds K fd ["_law_got", "_law_goal"] []) (gF : mg "_law_same" = some (.ref f)) (mi : mg "isinstance" = none) (ml : mg "list" = none) (mt : mg "tuple" = none)
    (mlen : mg "len" = none) (mall : mg "all" = none) (mz : mg "zip" = none) (mb : mg "bool" = none) (ms : mg "str" = none) (mint : mg "int" = none) :
    ∀ n, FnOk P w K mg base CX0 n f fd ["_law_got", "_law_goal"] (spSame K n)
  | 0 => fn_none
  | n + 1 => by
    have G := ok_same F bF gF mi ml mt mlen mall mz mb ms mint n
    refine F.ok scSame (fun vs H Q E h => ?_) (fun cdv A outer s H vs Q E hr h => ?_)
    · obtain ⟨x, y, d, N, N', rfl, _⟩ := h
      rfl
    obtain ⟨x, y, d, N, N', rfl, hx, hy, hok, q⟩ := h
    by_cases hs : isSeq d = true
    · cases d with
      | list ds =>
        obtain ⟨a, xs, rfl, _, hS, hD⟩ := hx.lstI
        obtain ⟨b, ys, rfl, _, hT, hE⟩ := hy.lstI
        obtain ⟨m, rfl, hl, hall⟩ := okD_list hok
        refine ⟨_, pss_cons (ps_if (pt_val (pe_callB call_isiT (by rfl) mi boot_isinstance (pa_cons (pv 1) (pa_cons (pe_tup (pa_cons (pe_bltn (v := .ty "list") (by rfl) ml boot_list rfl) (pa_cons (pe_bltn (v := .ty "tuple") (by rfl) mt boot_tuple rfl) pa_nil))) pa_nil))))
          (pss_cons (ps_if (PW.pt (pw_or (pt_cmpR op_ne (pe_callB call_isi (by rfl) mi boot_isinstance (pa_cons (pv 0) (pa_cons (pe_bltn (v := .ty "list") (by rfl) ml boot_list rfl) pa_nil))) (pe_callB call_isi (by rfl) mi boot_isinstance (pa_cons (pv 1) (pa_cons (pe_bltn (v := .ty "list") (by rfl) ml boot_list rfl) pa_nil))) (nomark _)) (pw_or1 (pt_cmpR op_ne (pe_callB call_isi (by rfl) mi boot_isinstance (pa_cons (pv 0) (pa_cons (pe_bltn (v := .ty "tuple") (by rfl) mt boot_tuple rfl) pa_nil))) (pe_callB call_isi (by rfl) mi boot_isinstance (pa_cons (pv 1) (pa_cons (pe_bltn (v := .ty "tuple") (by rfl) mt boot_tuple rfl) pa_nil))) (nomark _))))) pss_never pss_nil)
            (pss_one (ps_ret (pe_and (pe_cmpR op_eq (pe_callB call_len_seq (by rfl) mlen PySem.boot_len (pa_cons (pv 0) pa_nil)) (pe_callB call_len_seq (by rfl) mlen PySem.boot_len (pa_cons (pv 1) pa_nil)) (nomark _))
              (pe_one (pe_callB (cr_all rfl) (by rfl) mall boot_all (pa_cons (pe_lc (own := [("_law_mine_so", 2), ("_law_own", 3)]) (g := gTup K 2 (gCons (gName 2) (gCons (gName 3) gNil))) (tt := tYes) rfl scSame.nd (RZ.pi_zipA (by rfl) mz (pa_cons (pv 0) (pa_cons (pv 1) pa_nil))) (blkOk_by (N := ["_law_got", "_law_goal", "_law_mine_so", "_law_own"]) (sc := defScope sSame) (by decide +kernel))
                (fun _ _ _ _ _ => pg_tup rfl (pgs_cons (pg_name (i := 2) scSame.nd rfl (Or.inl rfl)) (pgs_cons (pg_name (i := 3) scSame.nd rfl (Or.inl rfl)) pgs_nil))) (fun _ _ _ _ _ => pts_nil)
                (fun _ _ _ _ _ => pe_call G hr (by rfl) gF F.kp bF .nil pass0 (pa_cons (pv 2) (pa_cons (pv 3) pa_nil)))) pa_nil))))))) pss_nil) pss_never, ?_⟩
        refine ⟨_, rfl, (by show 2 ≤ sizeLine; decide), fun tp ntp => ⟨_, tp, _, _, [.type "list", .type "tuple"], _, rfl, upd_same, .cons (.ty _) (.cons (.ty _) .nil), (hy.sm (same_new ntp)).ty, kit_seq _, _, rfl, ?_⟩⟩
        have s1 : Same H (upd H tp (.tup [.ty "list", .ty "tuple"])) := same_new ntp
        have hx1 := hx.sm s1
        have hy1 := hy.sm s1
        have lx := hD.length
        have ly := hE.length
        refine iteT ?_
        refine ⟨_, rfl, _, _, _, _, _, rfl, .ty _, hx1.ty, kit_list _, _, rfl, _, _, _, _, _, rfl, .ty _, hy1.ty, kit_list _, rfl, _, rfl, iteNS rfl ?_⟩
        refine ⟨_, rfl, _, _, _, _, _, rfl, .ty _, hx1.ty, kit_tuple _, _, rfl, _, _, _, _, _, rfl, .ty _, hy1.ty, kit_tuple _, rfl, _, rfl, iteNS rfl ?_⟩
        refine ⟨_, rfl, a, xs, rfl, .inl (s1.seq hS), _, rfl, b, ys, rfl, .inl (s1.seq hT), rfl, _, rfl, ?_⟩
        rw [decide_eq_true (show V.int (xs.length : Nat) = V.int (ys.length : Nat) by rw [lx, ly])]
        refine iteT ?_
        refine ⟨_, rfl, _, rfl, a, b, xs, ys, rfl, .inl ⟨s1.seq hS, s1.seq hT, fun D hD0 => ?_⟩⟩
        have em : ds.length = min xs.length ys.length := by omega
        refine lc_it (walk_zip em) (fun i H3 => Grow (upd H tp (.tup [.ty "list", .ty "tuple"])) D (List.replicate i (.bl true)) H3) (.start hD0) (fun i H3 _ g => ?_) (fun i v H3 H4 hi g hy4 => ?_) (fun H3 g => ?_)
        · exact ⟨(s1.trans g.same).seq hS, (s1.trans g.same).seq hT⟩
        · obtain ⟨T, u, z, rfl, nT, rfl, e1, e2⟩ := hy4
          obtain ⟨e, he, hue⟩ := hD.getV e1
          obtain ⟨e', he', hze⟩ := hE.getV e2
          rw [he] at he'
          cases he'
          have s4 : Same H3 (upd H3 T (.tup [u, z])) := same_new nT
          refine ⟨T, [u, z], rfl, .inl (.inl upd_same), rfl, u, [z], rfl, z, [], rfl, rfl, rfl, kept ?_⟩
          refine ⟨_, rfl, _, rfl, _, _, e, N, N', rfl, ((hue.sm s1).sm g.same).sm s4, ((hze.sm s1).sm g.same).sm s4, hall e (List.mem_of_getElem? he), fun H5 s5 => ?_⟩
          have g5 := (g.on s4).on s5
          refine ⟨_, g5.at', by rw [List.length_replicate]; exact small1 (by omega), ?_⟩
          have g6 := g5.push (.bl true)
          have er : List.replicate (i + 1) (V.bl true) = List.replicate i (V.bl true) ++ [V.bl true] := List.replicate_succ'
          rw [er]
          exact g6
        · refine ⟨D, List.replicate ds.length true, rfl, .inl (.inl ?_), ?_⟩
          · rw [map_rep]
            exact g.at'
          · rw [all_rep]
            exact q _ (s1.trans g.same)
      | tuple ds =>
        obtain ⟨a, xs, rfl, hS, hD⟩ := hx.tupI
        obtain ⟨b, ys, rfl, hT, hE⟩ := hy.tupI
        obtain ⟨m, rfl, hl, hall⟩ := okD_tuple hok
        refine ⟨_, pss_cons (ps_if (pt_val (pe_callB call_isiT (by rfl) mi boot_isinstance (pa_cons (pv 1) (pa_cons (pe_tup (pa_cons (pe_bltn (v := .ty "list") (by rfl) ml boot_list rfl) (pa_cons (pe_bltn (v := .ty "tuple") (by rfl) mt boot_tuple rfl) pa_nil))) pa_nil))))
          (pss_cons (ps_if (PW.pt (pw_or (pt_cmpR op_ne (pe_callB call_isi (by rfl) mi boot_isinstance (pa_cons (pv 0) (pa_cons (pe_bltn (v := .ty "list") (by rfl) ml boot_list rfl) pa_nil))) (pe_callB call_isi (by rfl) mi boot_isinstance (pa_cons (pv 1) (pa_cons (pe_bltn (v := .ty "list") (by rfl) ml boot_list rfl) pa_nil))) (nomark _)) (pw_or1 (pt_cmpR op_ne (pe_callB call_isi (by rfl) mi boot_isinstance (pa_cons (pv 0) (pa_cons (pe_bltn (v := .ty "tuple") (by rfl) mt boot_tuple rfl) pa_nil))) (pe_callB call_isi (by rfl) mi boot_isinstance (pa_cons (pv 1) (pa_cons (pe_bltn (v := .ty "tuple") (by rfl) mt boot_tuple rfl) pa_nil))) (nomark _))))) pss_never pss_nil)
            (pss_one (ps_ret (pe_and (pe_cmpR op_eq (pe_callB call_len_seq (by rfl) mlen PySem.boot_len (pa_cons (pv 0) pa_nil)) (pe_callB call_len_seq (by rfl) mlen PySem.boot_len (pa_cons (pv 1) pa_nil)) (nomark _))
              (pe_one (pe_callB (cr_all rfl) (by rfl) mall boot_all (pa_cons (pe_lc (own := [("_law_mine_so", 2), ("_law_own", 3)]) (g := gTup K 2 (gCons (gName 2) (gCons (gName 3) gNil))) (tt := tYes) rfl scSame.nd (RZ.pi_zipA (by rfl) mz (pa_cons (pv 0) (pa_cons (pv 1) pa_nil))) (blkOk_by (N := ["_law_got", "_law_goal", "_law_mine_so", "_law_own"]) (sc := defScope sSame) (by decide +kernel))
                (fun _ _ _ _ _ => pg_tup rfl (pgs_cons (pg_name (i := 2) scSame.nd rfl (Or.inl rfl)) (pgs_cons (pg_name (i := 3) scSame.nd rfl (Or.inl rfl)) pgs_nil))) (fun _ _ _ _ _ => pts_nil)
                (fun _ _ _ _ _ => pe_call G hr (by rfl) gF F.kp bF .nil pass0 (pa_cons (pv 2) (pa_cons (pv 3) pa_nil)))) pa_nil))))))) pss_nil) pss_never, ?_⟩
        refine ⟨_, rfl, (by show 2 ≤ sizeLine; decide), fun tp ntp => ⟨_, tp, _, _, [.type "list", .type "tuple"], _, rfl, upd_same, .cons (.ty _) (.cons (.ty _) .nil), (hy.sm (same_new ntp)).ty, kit_seq _, _, rfl, ?_⟩⟩
        have s1 : Same H (upd H tp (.tup [.ty "list", .ty "tuple"])) := same_new ntp
        have hx1 := hx.sm s1
        have hy1 := hy.sm s1
        have lx := hD.length
        have ly := hE.length
        refine iteT ?_
        refine ⟨_, rfl, _, _, _, _, _, rfl, .ty _, hx1.ty, kit_list _, _, rfl, _, _, _, _, _, rfl, .ty _, hy1.ty, kit_list _, rfl, _, rfl, iteNS rfl ?_⟩
        refine ⟨_, rfl, _, _, _, _, _, rfl, .ty _, hx1.ty, kit_tuple _, _, rfl, _, _, _, _, _, rfl, .ty _, hy1.ty, kit_tuple _, rfl, _, rfl, iteNS rfl ?_⟩
        refine ⟨_, rfl, a, xs, rfl, .inr ((Tk.same s1).seq hS), _, rfl, b, ys, rfl, .inr ((Tk.same s1).seq hT), rfl, _, rfl, ?_⟩
        rw [decide_eq_true (show V.int (xs.length : Nat) = V.int (ys.length : Nat) by rw [lx, ly])]
        refine iteT ?_
        refine ⟨_, rfl, _, rfl, a, b, xs, ys, rfl, .inr ⟨(Tk.same s1).seq hS, (Tk.same s1).seq hT, fun D hD0 => ?_⟩⟩
        have em : ds.length = min xs.length ys.length := by omega
        refine lc_it (walk_zipT em) (fun i H3 => Grow (upd H tp (.tup [.ty "list", .ty "tuple"])) D (List.replicate i (.bl true)) H3) (.start hD0) (fun i H3 _ g => ?_) (fun i v H3 H4 hi g hy4 => ?_) (fun H3 g => ?_)
        · exact ⟨(Tk.same (s1.trans g.same)).seq hS, (Tk.same (s1.trans g.same)).seq hT⟩
        · obtain ⟨T, u, z, rfl, nT, rfl, e1, e2⟩ := hy4
          obtain ⟨e, he, hue⟩ := hD.getV e1
          obtain ⟨e', he', hze⟩ := hE.getV e2
          rw [he] at he'
          cases he'
          have s4 : Same H3 (upd H3 T (.tup [u, z])) := same_new nT
          refine ⟨T, [u, z], rfl, .inl (.inl upd_same), rfl, u, [z], rfl, z, [], rfl, rfl, rfl, kept ?_⟩
          refine ⟨_, rfl, _, rfl, _, _, e, N, N', rfl, ((hue.sm s1).sm g.same).sm s4, ((hze.sm s1).sm g.same).sm s4, hall e (List.mem_of_getElem? he), fun H5 s5 => ?_⟩
          have g5 := (g.on s4).on s5
          refine ⟨_, g5.at', by rw [List.length_replicate]; exact small1 (by omega), ?_⟩
          have g6 := g5.push (.bl true)
          have er : List.replicate (i + 1) (V.bl true) = List.replicate i (V.bl true) ++ [V.bl true] := List.replicate_succ'
          rw [er]
          exact g6
        · refine ⟨D, List.replicate ds.length true, rfl, .inl (.inl ?_), ?_⟩
          · rw [map_rep]
            exact g.at'
          · rw [all_rep]
            exact q _ (s1.trans g.same)
      | none => cases hs
      | bool => cases hs
      | int => cases hs
      | str => cases hs
      | dict => cases hs
    · have hs' : isSeq d = false := by simpa using hs
      cases d with
      | list => cases hs'
      | tuple => cases hs'
      | dict => cases hx
      | none =>
        refine ⟨_, pss_cons (ps_if (pt_val (pe_callB call_isiT (by rfl) mi boot_isinstance (pa_cons (pv 1) (pa_cons (pe_tup (pa_cons (pe_bltn (v := .ty "list") (by rfl) ml boot_list rfl) (pa_cons (pe_bltn (v := .ty "tuple") (by rfl) mt boot_tuple rfl) pa_nil))) pa_nil)))) pss_never pss_nil) (pss_cons (ps_if (PW.pt (pw_or (pt_cmpR op_isN (pv 1) pe_non (nomark _)) (pw_or1 (pt_val (pe_callB call_isiT (by rfl) mi boot_isinstance (pa_cons (pv 1) (pa_cons (pe_tup (pa_cons (pe_bltn (v := .ty "bool") (by rfl) mb boot_bool rfl) (pa_cons (pe_bltn (v := .ty "str") (by rfl) ms boot_str rfl) pa_nil))) pa_nil)))))))
          (pss_one (ps_ret (pe_and (pe_cmpR op_eq (pv 0) (pv 1) (nomark _)) (pe_and (pe_cmpR op_eq (pe_callB call_isi (by rfl) mi boot_isinstance (pa_cons (pv 0) (pa_cons (pe_bltn (v := .ty "bool") (by rfl) mb boot_bool rfl) pa_nil))) (pe_callB call_isi (by rfl) mi boot_isinstance (pa_cons (pv 1) (pa_cons (pe_bltn (v := .ty "bool") (by rfl) mb boot_bool rfl) pa_nil))) (nomark _)) (pe_one (pe_cmpR op_eq (pe_cmpR op_isN (pv 0) pe_non (nomark _)) (pe_cmpR op_isN (pv 1) pe_non (nomark _)) (nomark _))))))) pss_nil) pss_never), ?_⟩
        refine ⟨_, rfl, (by show 2 ≤ sizeLine; decide), fun tp ntp => ⟨_, tp, _, _, [.type "list", .type "tuple"], _, rfl, upd_same, .cons (.ty _) (.cons (.ty _) .nil), (hy.sm (same_new ntp)).ty, kit_seq _, _, rfl, ?_⟩⟩
        refine iteF ?_
        have s1 : Same H (upd H tp (.tup [.ty "list", .ty "tuple"])) := same_new ntp
        cases hx
        cases hy
        refine ⟨_, rfl, rfl, _, rfl, iteT ?_⟩
        refine ⟨_, rfl, _, rfl, rfl, _, rfl, ?_⟩
        rw [decide_eq_true rfl]
        refine iteT ?_
        refine ⟨_, rfl, _, _, _, _, _, rfl, .ty _, Dq.ty (N := NoL) .non, kit_bool _, _, rfl, _, _, _, _, _, rfl, .ty _, Dq.ty (N := NoL) .non, kit_bool _, rfl, _, rfl, ?_⟩
        rw [decide_eq_true rfl]
        refine iteT ?_
        refine ⟨_, rfl, rfl, _, rfl, rfl, rfl, ?_⟩
        rw [decide_eq_true rfl]
        exact q _ s1
      | bool bb =>
        refine ⟨_, pss_cons (ps_if (pt_val (pe_callB call_isiT (by rfl) mi boot_isinstance (pa_cons (pv 1) (pa_cons (pe_tup (pa_cons (pe_bltn (v := .ty "list") (by rfl) ml boot_list rfl) (pa_cons (pe_bltn (v := .ty "tuple") (by rfl) mt boot_tuple rfl) pa_nil))) pa_nil)))) pss_never pss_nil) (pss_cons (ps_if (PW.pt (pw_or (pt_cmpR op_isN (pv 1) pe_non (nomark _)) (pw_or1 (pt_val (pe_callB call_isiT (by rfl) mi boot_isinstance (pa_cons (pv 1) (pa_cons (pe_tup (pa_cons (pe_bltn (v := .ty "bool") (by rfl) mb boot_bool rfl) (pa_cons (pe_bltn (v := .ty "str") (by rfl) ms boot_str rfl) pa_nil))) pa_nil)))))))
          (pss_one (ps_ret (pe_and (pe_cmpR op_eq (pv 0) (pv 1) (nomark _)) (pe_and (pe_cmpR op_eq (pe_callB call_isi (by rfl) mi boot_isinstance (pa_cons (pv 0) (pa_cons (pe_bltn (v := .ty "bool") (by rfl) mb boot_bool rfl) pa_nil))) (pe_callB call_isi (by rfl) mi boot_isinstance (pa_cons (pv 1) (pa_cons (pe_bltn (v := .ty "bool") (by rfl) mb boot_bool rfl) pa_nil))) (nomark _)) (pe_one (pe_cmpR op_eq (pe_cmpR op_isN (pv 0) pe_non (nomark _)) (pe_cmpR op_isN (pv 1) pe_non (nomark _)) (nomark _))))))) pss_nil) pss_never), ?_⟩
        refine ⟨_, rfl, (by show 2 ≤ sizeLine; decide), fun tp ntp => ⟨_, tp, _, _, [.type "list", .type "tuple"], _, rfl, upd_same, .cons (.ty _) (.cons (.ty _) .nil), (hy.sm (same_new ntp)).ty, kit_seq _, _, rfl, ?_⟩⟩
        refine iteF ?_
        have s1 : Same H (upd H tp (.tup [.ty "list", .ty "tuple"])) := same_new ntp
        cases hx
        cases hy
        refine ⟨_, rfl, rfl, _, rfl, iteF ?_⟩
        refine ⟨_, rfl, (by show 2 ≤ sizeLine; decide), fun tq ntq => ⟨_, tq, _, _, [.type "bool", .type "str"], _, rfl, upd_same, .cons (.ty _) (.cons (.ty _) .nil), (Dq.ty (N := NoL) (.bl _)), kit_bs _, _, rfl, ?_⟩⟩
        refine iteT ?_
        have s2 := s1.trans (same_new (o := .tup [.ty "bool", .ty "str"]) ntq)
        refine ⟨_, rfl, _, rfl, rfl, _, rfl, ?_⟩
        rw [decide_eq_true rfl]
        refine iteT ?_
        refine ⟨_, rfl, _, _, _, _, _, rfl, .ty _, Dq.ty (N := NoL) (.bl _), kit_bool _, _, rfl, _, _, _, _, _, rfl, .ty _, Dq.ty (N := NoL) (.bl _), kit_bool _, rfl, _, rfl, ?_⟩
        rw [decide_eq_true rfl]
        refine iteT ?_
        refine ⟨_, rfl, rfl, _, rfl, rfl, rfl, ?_⟩
        rw [decide_eq_true rfl]
        exact q _ s2
      | str ss =>
        refine ⟨_, pss_cons (ps_if (pt_val (pe_callB call_isiT (by rfl) mi boot_isinstance (pa_cons (pv 1) (pa_cons (pe_tup (pa_cons (pe_bltn (v := .ty "list") (by rfl) ml boot_list rfl) (pa_cons (pe_bltn (v := .ty "tuple") (by rfl) mt boot_tuple rfl) pa_nil))) pa_nil)))) pss_never pss_nil) (pss_cons (ps_if (PW.pt (pw_or (pt_cmpR op_isN (pv 1) pe_non (nomark _)) (pw_or1 (pt_val (pe_callB call_isiT (by rfl) mi boot_isinstance (pa_cons (pv 1) (pa_cons (pe_tup (pa_cons (pe_bltn (v := .ty "bool") (by rfl) mb boot_bool rfl) (pa_cons (pe_bltn (v := .ty "str") (by rfl) ms boot_str rfl) pa_nil))) pa_nil)))))))
          (pss_one (ps_ret (pe_and (pe_cmpR op_eq (pv 0) (pv 1) (nomark _)) (pe_and (pe_cmpR op_eq (pe_callB call_isi (by rfl) mi boot_isinstance (pa_cons (pv 0) (pa_cons (pe_bltn (v := .ty "bool") (by rfl) mb boot_bool rfl) pa_nil))) (pe_callB call_isi (by rfl) mi boot_isinstance (pa_cons (pv 1) (pa_cons (pe_bltn (v := .ty "bool") (by rfl) mb boot_bool rfl) pa_nil))) (nomark _)) (pe_one (pe_cmpR op_eq (pe_cmpR op_isN (pv 0) pe_non (nomark _)) (pe_cmpR op_isN (pv 1) pe_non (nomark _)) (nomark _))))))) pss_nil) pss_never), ?_⟩
        refine ⟨_, rfl, (by show 2 ≤ sizeLine; decide), fun tp ntp => ⟨_, tp, _, _, [.type "list", .type "tuple"], _, rfl, upd_same, .cons (.ty _) (.cons (.ty _) .nil), (hy.sm (same_new ntp)).ty, kit_seq _, _, rfl, ?_⟩⟩
        refine iteF ?_
        have s1 : Same H (upd H tp (.tup [.ty "list", .ty "tuple"])) := same_new ntp
        cases hx
        cases hy
        refine ⟨_, rfl, rfl, _, rfl, iteF ?_⟩
        refine ⟨_, rfl, (by show 2 ≤ sizeLine; decide), fun tq ntq => ⟨_, tq, _, _, [.type "bool", .type "str"], _, rfl, upd_same, .cons (.ty _) (.cons (.ty _) .nil), (Dq.ty (N := NoL) (.str _)), kit_bs _, _, rfl, ?_⟩⟩
        refine iteT ?_
        have s2 := s1.trans (same_new (o := .tup [.ty "bool", .ty "str"]) ntq)
        refine ⟨_, rfl, _, rfl, rfl, _, rfl, ?_⟩
        rw [decide_eq_true rfl]
        refine iteT ?_
        refine ⟨_, rfl, _, _, _, _, _, rfl, .ty _, Dq.ty (N := NoL) (.str _), kit_bool _, _, rfl, _, _, _, _, _, rfl, .ty _, Dq.ty (N := NoL) (.str _), kit_bool _, rfl, _, rfl, ?_⟩
        rw [decide_eq_true rfl]
        refine iteT ?_
        refine ⟨_, rfl, rfl, _, rfl, rfl, rfl, ?_⟩
        rw [decide_eq_true rfl]
        exact q _ s2
      | int i =>
        refine ⟨_, pss_cons (ps_if (pt_val (pe_callB call_isiT (by rfl) mi boot_isinstance (pa_cons (pv 1) (pa_cons (pe_tup (pa_cons (pe_bltn (v := .ty "list") (by rfl) ml boot_list rfl) (pa_cons (pe_bltn (v := .ty "tuple") (by rfl) mt boot_tuple rfl) pa_nil))) pa_nil)))) pss_never pss_nil) (pss_cons (ps_if (PW.pt (pw_or (pt_cmpR op_isN (pv 1) pe_non (nomark _)) (pw_or1 (pt_val (pe_callB call_isiT (by rfl) mi boot_isinstance (pa_cons (pv 1) (pa_cons (pe_tup (pa_cons (pe_bltn (v := .ty "bool") (by rfl) mb boot_bool rfl) (pa_cons (pe_bltn (v := .ty "str") (by rfl) ms boot_str rfl) pa_nil))) pa_nil))))))) pss_never pss_nil)
          (pss_one (ps_ret (pe_and (pe_callB call_isi (by rfl) mi boot_isinstance (pa_cons (pv 0) (pa_cons (pe_bltn (v := .ty "int") (by rfl) mint boot_int rfl) pa_nil))) (pe_and (pe_not (pe_callB call_isi (by rfl) mi boot_isinstance (pa_cons (pv 0) (pa_cons (pe_bltn (v := .ty "bool") (by rfl) mb boot_bool rfl) pa_nil)))) (pe_one (pe_cmpR op_eq (pv 0) (pv 1) (nomark _)))))))), ?_⟩
        refine ⟨_, rfl, (by show 2 ≤ sizeLine; decide), fun tp ntp => ⟨_, tp, _, _, [.type "list", .type "tuple"], _, rfl, upd_same, .cons (.ty _) (.cons (.ty _) .nil), (hy.sm (same_new ntp)).ty, kit_seq _, _, rfl, ?_⟩⟩
        refine iteF ?_
        have s1 : Same H (upd H tp (.tup [.ty "list", .ty "tuple"])) := same_new ntp
        cases hx
        cases hy
        refine ⟨_, rfl, rfl, _, rfl, iteF ?_⟩
        refine ⟨_, rfl, (by show 2 ≤ sizeLine; decide), fun tq ntq => ⟨_, tq, _, _, [.type "bool", .type "str"], _, rfl, upd_same, .cons (.ty _) (.cons (.ty _) .nil), (Dq.ty (N := NoL) (.int _)), kit_bs _, _, rfl, ?_⟩⟩
        refine iteF ?_
        have s2 := s1.trans (same_new (o := .tup [.ty "bool", .ty "str"]) ntq)
        refine ⟨_, rfl, _, _, _, _, _, rfl, .ty _, Dq.ty (N := NoL) (.int _), kit_int _, _, rfl, ?_⟩
        refine iteT ?_
        refine ⟨_, rfl, _, _, _, _, _, rfl, .ty _, Dq.ty (N := NoL) (.int _), kit_bool _, _, rfl, _, rfl, ?_⟩
        refine iteT ?_
        refine ⟨_, rfl, _, rfl, rfl, ?_⟩
        rw [decide_eq_true rfl]
        exact q _ s2
end
end K12

set_option Elab.async false
set_option linter.all false
set_option maxRecDepth 100000
set_option maxHeartbeats 4000000
namespace K12
open PySem PySem.Spec PyProof.Rows L2
/-! ### books -/
structure BRow where
  f : Nat
  h : Nat
  l : List Nat
  r : List Nat
structure Book where
  ans : List Bool
  hues : List Nat
  bf : Nat
  bh : Nat
  rows : List (List (List BRow))
def rD (r : BRow) : PyData := .tuple [nD r.f, nD r.h, tD r.l, tD r.r]
def lnD (l : List BRow) : PyData := .tuple (l.map rD)
def lsD (ls : List (List BRow)) : PyData := .tuple (ls.map lnD)
def bD (b : Book) : PyData := .tuple [.tuple (b.ans.map .bool), tD b.hues, .tuple [nD b.bf, nD b.bh], .tuple (b.rows.map lsD)]
def Book.row (b : Book) (f h l : Nat) : BRow := ((b.rows.getD f []).getD h []).getD l ⟨0, 0, [], []⟩
/-- the stand to which a change turns one -/
def turn (b : Book) (s : Std) (c : Chg) : Std :=
  ((b.row s.1 (s.2.getD c.1 0) c.2).f, (s.2.take c.1).map (fun h => (b.row s.1 (s.2.getD c.1 0) c.2).l.getD h 0) ++ [(b.row s.1 (s.2.getD c.1 0) c.2).h] ++ (s.2.drop (c.1 + 1)).map (fun h => (b.row s.1 (s.2.getD c.1 0) c.2).r.getD h 0))
structure RowOk (F n : Nat) (r : BRow) : Prop where
  kf : r.f < F
  kh : r.h < n
  kl : r.l.length = n
  kr : r.r.length = n
  ls : ∀ x, x ∈ r.l → x < n
  rs : ∀ x, x ∈ r.r → x < n
/-- a well-made book: F flags, n hues, letters 0 to L -/
structure Book.WF (b : Book) (F n L : Nat) : Prop where
  F0 : 0 < F
  n0 : 0 < n
  Fs : F ≤ 100
  ns : n ≤ 100
  Ls : L ≤ 100
  ans : b.ans.length = F
  hues : b.hues.length = n
  bf : b.bf < F
  bh : b.bh < n
  rows : b.rows.length = F
  lines : ∀ ls, ls ∈ b.rows → ls.length = n
  line : ∀ ls, ls ∈ b.rows → ∀ l, l ∈ ls → l.length = L + 1
  row : ∀ ls, ls ∈ b.rows → ∀ l, l ∈ ls → ∀ r, r ∈ l → RowOk F n r
theorem getD_of {α : Type} {l : List α} {i : Nat} {x d : α} (h : l[i]? = some x) : l.getD i d = x := by
  rw [List.getD_eq_getElem?_getD, h]
  rfl
theorem get_some {α : Type} {l : List α} {i : Nat} (h : i < l.length) : ∃ x, l[i]? = some x := ⟨l[i], List.getElem?_eq_getElem h⟩
theorem Book.WF.at {b : Book} {F n L : Nat} (W : b.WF F n L) {f h l : Nat} (hf : f < F) (hh : h < n) (hl : l ≤ L) :
    ∃ ls ln, b.rows[f]? = some ls ∧ ls[h]? = some ln ∧ ln[l]? = some (b.row f h l) ∧ RowOk F n (b.row f h l) := by
  obtain ⟨ls, e1⟩ := get_some (l := b.rows) (i := f) (by rw [W.rows]; exact hf)
  have m1 := List.mem_of_getElem? e1
  have l1 := W.lines ls m1
  obtain ⟨ln, e2⟩ := get_some (l := ls) (i := h) (by rw [l1]; exact hh)
  have m2 := List.mem_of_getElem? e2
  have l2 := W.line ls m1 ln m2
  obtain ⟨x, e3⟩ := get_some (l := ln) (i := l) (by rw [l2]; omega)
  have m3 := List.mem_of_getElem? e3
  have er : b.row f h l = x := by
    unfold Book.row
    rw [getD_of e1, getD_of e2, getD_of e3]
  rw [er]
  exact ⟨ls, ln, e1, e2, e3, W.row ls m1 ln m2 _ m3⟩
/-- a well-made stand -/
structure StOk (F n m : Nat) (s : Std) : Prop where
  f : s.1 < F
  len : s.2.length = m
  hs : ∀ x, x ∈ s.2 → x < n
theorem getD_lt {l : List Nat} {n h : Nat} (hl : l.length = n) (hh : h < n) (ha : ∀ x, x ∈ l → x < n) : l.getD h 0 < n := by
  obtain ⟨x, e⟩ := get_some (l := l) (i := h) (by rw [hl]; exact hh)
  rw [getD_of e]
  exact ha _ (List.mem_of_getElem? e)
theorem turn_ok {b : Book} {F n L m : Nat} (W : b.WF F n L) {s : Std} {c : Chg} (S : StOk F n m s) (hp : c.1 < m) (hl : c.2 ≤ L) : StOk F n m (turn b s c) := by
  have hh : s.2.getD c.1 0 < n := by
    obtain ⟨x, e⟩ := get_some (l := s.2) (i := c.1) (by rw [S.len]; exact hp)
    rw [getD_of e]
    exact S.hs _ (List.mem_of_getElem? e)
  obtain ⟨ls, ln, _, _, _, R⟩ := W.at S.f hh hl
  refine ⟨R.kf, ?_, fun x hx => ?_⟩
  · show ((s.2.take c.1).map _ ++ [_] ++ (s.2.drop (c.1 + 1)).map _).length = m
    rw [List.length_append, List.length_append, List.length_map, List.length_map, List.length_take, List.length_drop, S.len]
    show min c.1 m + 1 + (m - (c.1 + 1)) = m
    omega
  · have hx' : x ∈ (s.2.take c.1).map (fun h => (b.row s.1 (s.2.getD c.1 0) c.2).l.getD h 0) ++ [(b.row s.1 (s.2.getD c.1 0) c.2).h] ++ (s.2.drop (c.1 + 1)).map (fun h => (b.row s.1 (s.2.getD c.1 0) c.2).r.getD h 0) := hx
    rcases List.mem_append.mp hx' with q | q
    · rcases List.mem_append.mp q with q | q
      · obtain ⟨y, hy, rfl⟩ := List.mem_map.mp q
        exact getD_lt R.kl (S.hs y (List.mem_of_mem_take hy)) R.ls
      · rw [List.mem_singleton.mp q]; exact R.kh
    · obtain ⟨y, hy, rfl⟩ := List.mem_map.mp q
      exact getD_lt R.kr (S.hs y (List.mem_of_mem_drop hy)) R.rs
def first (b : Book) (m : Nat) : Std := (b.bf, List.replicate m b.bh)
theorem first_ok {b : Book} {F n L m : Nat} (W : b.WF F n L) : StOk F n m (first b m) := by
  refine ⟨W.bf, List.length_replicate, fun x hx => ?_⟩
  rw [List.eq_of_mem_replicate hx]
  exact W.bh
/-- the changes of m places, letters 0 to L -/
def chs (L m : Nat) : List Chg := (List.range m).flatMap fun p => (List.range (L + 1)).map fun l => (p, l)
theorem mem_chs {L m : Nat} {c : Chg} : c ∈ chs L m ↔ c.1 < m ∧ c.2 ≤ L := by
  unfold chs
  rw [List.mem_flatMap]
  constructor
  · rintro ⟨p, hp, h⟩
    obtain ⟨l, hl, rfl⟩ := List.mem_map.mp h
    have := List.mem_range.mp hp
    have := List.mem_range.mp hl
    exact ⟨by assumption, by omega⟩
  · rintro ⟨h1, h2⟩
    exact ⟨c.1, List.mem_range.mpr h1, List.mem_map.mpr ⟨c.2, List.mem_range.mpr (by omega), rfl⟩⟩
theorem chs_up (L m : Nat) : (chs L m).Pairwise (fun a b => clt a b = true) := by
  unfold chs
  rw [List.pairwise_flatMap]
  constructor
  · intro p _
    rw [List.pairwise_map]
    refine List.Pairwise.imp (R := fun a b => a < b) (fun {a b} h => ?_) List.pairwise_lt_range
    exact clt_iff.mpr (.inr ⟨rfl, h⟩)
  · refine List.Pairwise.imp (R := fun a b => a < b) (fun {a b} h x hx y hy => ?_) List.pairwise_lt_range
    obtain ⟨l, _, rfl⟩ := List.mem_map.mp hx
    obtain ⟨k, _, rfl⟩ := List.mem_map.mp hy
    exact clt_iff.mpr (.inl h)
theorem sum_const {α : Type} (l : List α) (f : α → Nat) (k : Nat) (h : ∀ x, f x = k) : (l.map f).sum = l.length * k := by
  induction l with
  | nil => simp
  | cons a l ih => rw [List.map_cons, List.sum_cons, ih, h, List.length_cons, Nat.succ_mul]; omega
theorem length_chs (L m : Nat) : (chs L m).length = m * (L + 1) := by
  unfold chs
  rw [List.length_flatMap, sum_const _ _ (L + 1) (fun f => by rw [List.length_map, List.length_range]), List.length_range]
/-! ### the number of stands -/
def rowsOf (n : Nat) : Nat → List (List Nat)
  | 0 => [[]]
  | m + 1 => (rowsOf n m).flatMap fun r => (List.range n).map fun h => h :: r
theorem mem_rowsOf {n : Nat} : ∀ {m : Nat} {r : List Nat}, r.length = m → (∀ x, x ∈ r → x < n) → r ∈ rowsOf n m
  | 0, [], _, _ => List.mem_singleton.mpr rfl
  | 0, _ :: _, h, _ => nomatch h
  | m + 1, [], h, _ => nomatch h
  | m + 1, x :: r, h, ha => by
    show (x :: r) ∈ (rowsOf n m).flatMap fun r => (List.range n).map fun h => h :: r
    rw [List.mem_flatMap]
    exact ⟨r, mem_rowsOf (Nat.succ.inj h) (fun y hy => ha y (List.mem_cons_of_mem _ hy)), List.mem_map.mpr ⟨x, List.mem_range.mpr (ha x List.mem_cons_self), rfl⟩⟩
theorem length_rowsOf (n : Nat) : ∀ m, (rowsOf n m).length = n ^ m
  | 0 => rfl
  | m + 1 => by
    show ((rowsOf n m).flatMap fun r => (List.range n).map fun h => h :: r).length = _
    rw [List.length_flatMap, sum_const _ _ n (fun r => by rw [List.length_map, List.length_range]), length_rowsOf n m, Nat.pow_succ]
def stdsOf (F n m : Nat) : List Std := (List.range F).flatMap fun f => (rowsOf n m).map fun r => (f, r)
theorem length_stdsOf (F n m : Nat) : (stdsOf F n m).length = F * n ^ m := by
  unfold stdsOf
  rw [List.length_flatMap, sum_const _ _ (n ^ m) (fun f => by rw [List.length_map, length_rowsOf]), List.length_range]
theorem mem_stdsOf {F n m : Nat} {s : Std} (S : StOk F n m s) : s ∈ stdsOf F n m := by
  unfold stdsOf
  rw [List.mem_flatMap]
  exact ⟨s.1, List.mem_range.mpr S.f, List.mem_map.mpr ⟨s.2, mem_rowsOf S.len S.hs, rfl⟩⟩
/-- stands without repeats are few -/
theorem few_stds {F n m : Nat} {l : List Std} (hn : l.Nodup) (h : ∀ s, s ∈ l → StOk F n m s) : l.length ≤ F * n ^ m := by
  rw [← length_stdsOf]
  exact hn.length_le_of_subset fun s hs => mem_stdsOf (h s hs)
/-- ways lead to well-made stands -/
theorem run_ok {b : Book} {F n L m : Nat} (W : b.WF F n L) : ∀ (w : Way) (s : Std), StOk F n m s → Valid (chs L m) w → StOk F n m (w.foldl (turn b) s)
  | [], _, h, _ => h
  | c :: w, s, h, hv => by
    have hc := mem_chs.mp (hv c List.mem_cons_self)
    exact run_ok W w _ (turn_ok W h hc.1 hc.2) (fun d hd => hv d (List.mem_cons_of_mem _ hd))
theorem best_ok {b : Book} {F n L m : Nat} (W : b.WF F n L) {s : Std} {w : Way} (B : Best (turn b) (chs L m) (first b m) s w) : StOk F n m s := by
  rw [← B.to]
  exact run_ok W w _ (first_ok W) B.valid
theorem lap_few {b : Book} {F n L m k : Nat} (W : b.WF F n L) {D lay : List (Std × Way)} (P : Lap (turn b) (chs L m) (first b m) k D lay) : D.length ≤ F * n ^ m := by
  have h := few_stds P.nodup (fun s hs => let ⟨w, hw⟩ := mem_keys.mp hs; best_ok W ((P.all s w).mp hw).1)
  rw [← List.length_map (f := (·.1))]
  exact h
end K12

set_option Elab.async false
set_option linter.all false
set_option maxRecDepth 100000
set_option maxHeartbeats 4000000
namespace K12
open PySem PySem.Spec PyProof.Rows L2
/-! ### items of data -/
theorem ixImp {X : Cx} {r r' : R2} (h : IxR X r) (f : ∀ x y H Q, r' x y H Q → r x y H Q) : IxR X r' := fun value slice pins s σ H x y v u Q I rx ry q hs => h value slice pins s σ H x y v u Q I rx ry (f x y H Q q) hs
def rIxD (K : PySem.W.Frag) : R2 := fun x y H Q => ∃ ds k d N, Dq K H N x (.tuple ds) ∧ y = .int ((k : Nat) : Int) ∧ ds[k]? = some d ∧ ∀ v, Dq K H N v d → Q v H
theorem ix_D {X : Cx} : IxR X (rIxD X.K) := ixImp ix_tup fun x y H Q h => by
  obtain ⟨ds, k, d, N, hx, rfl, hd, q⟩ := h
  obtain ⟨a, xs, rfl, hS, hD⟩ := hx.tupI
  obtain ⟨v, hv, hvd⟩ := hD.get hd
  exact ⟨a, xs, _, v, rfl, rfl, hS, atI_nat hv, q v hvd⟩
theorem ix_DK {X : Cx} {K : PySem.W.Frag} (h : X.K = K := by rfl) : IxR X (rIxD K) := by
  subst h
  exact ix_D
/-- a part of a tuple: whatever its object -/
def rSlD (K : PySem.W.Frag) : V → Option Int → Option Int → Hp → VK → Prop := fun x lo hi H Q => ∃ a xs, x = .ref a ∧ SqT K H a xs ∧ ∀ p H', Same H H' → SqT K H' p (cutV xs lo hi) → Q (.ref p) H'
theorem sl_D {X : Cx} : SlR X (rSlD X.K) := by
  intro pins s σ H x v vl vu lo hi sl Q I rx hs pl pu h
  obtain ⟨a, xs, rfl, hx, q⟩ := h
  refine sl_tupA pins s σ H _ v vl vu lo hi sl Q I rx hs pl pu ⟨a, xs, rfl, hx, fun ⟨h1, h2⟩ => ?_, fun _ p hp => q p _ (same_new hp) (.inl (.inl upd_same))⟩
  have e : cutV xs lo hi = xs := by
    unfold cutV
    rw [h1, h2, List.drop_zero, Nat.sub_zero, List.take_length]
  exact q a H (Same.refl H) (by rw [e]; exact hx)
/-! ### letters_of -/
abbrev sLetters : Stmt := topS 8
theorem scLetters : FnScope ["book"] ["book"] (defScope sLetters) := ⟨rfl, rfl, rfl, by decide +kernel, rfl, by decide +kernel, by decide +kernel⟩
def spLetters (K : PySem.W.Frag) : Sp := fun vs H Q _ => ∃ x b F n L, vs = [x] ∧ Dq K H NoL x (bD b) ∧ b.WF F n L ∧ Q (.int ((L : Nat) : Int)) H
/-! ### begun -/
abbrev sBegun : Stmt := topS 9
theorem scBegun : FnScope ["book", "many"] ["book", "many"] (defScope sBegun) := ⟨rfl, rfl, rfl, by decide +kernel, rfl, by decide +kernel, by decide +kernel⟩
def spBegun (K : PySem.W.Frag) : Sp := fun vs H Q _ => ∃ x b m, vs = [x, .int ((m : Nat) : Int)] ∧ Dq K H NoL x (bD b) ∧ 1 ≤ m ∧ m ≤ 1000 ∧ ∀ v H', Same H H' → Dq K H' NoL v (sD (first b m)) → Q v H'
/-! ### turned_to -/
abbrev sTurned : Stmt := topS 10
abbrev nTurned : List Str := ["book", "stand", "change", "flag", "hues", "place", "letter", "later", "hue", "left", "right", "found", "own"]
theorem scTurned : FnScope nTurned ["book", "stand", "change"] (defScope sTurned) := ⟨rfl, rfl, rfl, by decide +kernel, rfl, by decide +kernel, by decide +kernel⟩
def spTurned (K : PySem.W.Frag) : Sp := fun vs H Q _ => ∃ x y z b F n L m st c, vs = [x, y, z] ∧ Dq K H NoL x (bD b) ∧ Dq K H NoL y (sD st) ∧ Dq K H NoL z (cD c) ∧ b.WF F n L ∧ StOk F n m st ∧ m ≤ 1000 ∧ c.1 < m ∧ c.2 ≤ L ∧
  ∀ v H', Same H H' → Dq K H' NoL v (sD (turn b st c)) → Q v H'
theorem nums_map (ns : List Nat) : ns.map nD = (ns.map fun n : Nat => (n : Int)).map PyData.int := by rw [List.map_map]; rfl
theorem Dqs.nats {K : PySem.W.Frag} {H : Hp} {N : Addr → Prop} {ns : List Nat} {vs : List V} (h : Dqs K H N vs (ns.map nD)) : vs = ns.map fun n : Nat => V.int (n : Int) := by
  rw [nums_map] at h
  rw [h.ints, List.map_map]
  rfl
theorem Dqs.ofNats {K : PySem.W.Frag} {H : Hp} {N : Addr → Prop} (ns : List Nat) : Dqs K H N (ns.map fun n : Nat => V.int (n : Int)) (ns.map nD) := by
  have h := Dqs.ofInts (K := K) (H := H) (N := N) (ns.map fun n : Nat => (n : Int))
  rw [← nums_map, List.map_map] at h
  exact h
section
variable {P : Program} {w : World} {K : PySem.W.Frag} {mg : Str → Option Value} {base : Heap}
theorem ok_letters {f : Addr} {fd : FuncData} (F : Fun K "letters_of" "letters_of" sLetters f fd) (mlen : mg "len" = none) : FnOk P w K mg base CX0 1 f fd ["book"] (spLetters K) := by
  refine F.ok scLetters (fun vs H Q E h => ?_) (fun cdv A outer s H vs Q E hr h => ?_)
  · obtain ⟨x, b, FF, n, L, rfl, _⟩ := h
    rfl
  obtain ⟨x, b, FF, n, L, rfl, hx, W, q⟩ := h
  obtain ⟨ls, ln, e1, e2, e3, R⟩ := W.at W.F0 W.n0 (Nat.zero_le L)
  have hl := W.line ls (List.mem_of_getElem? e1) ln (List.mem_of_getElem? e2)
  refine ⟨_, pss_one (ps_ret (pe_op op_sub (pe_callB call_len_seq (by rfl) mlen PySem.boot_len (pa_cons (pe_ix ix_D (pe_ix ix_D (pe_ix ix_D (pv 0) pe_int (fun _ _ => rfl)) pe_int (fun _ _ => rfl)) pe_int (fun _ _ => rfl)) pa_nil)) pe_int)), ?_⟩
  refine ⟨x, rfl, _, 3, _, NoL, hx, rfl, rfl, fun v1 h1 => ⟨_, 0, lsD ls, NoL, h1, rfl, by rw [List.getElem?_map, e1]; rfl, fun v2 h2 => ⟨_, 0, lnD ln, NoL, h2, rfl, by rw [List.getElem?_map, e2]; rfl, fun v3 h3 => ?_⟩⟩⟩
  obtain ⟨a, xs, rfl, hS, hD⟩ := h3.tupI
  refine ⟨a, xs, rfl, .inr hS, _, _, rfl, rfl, ?_⟩
  have e : ((xs.length : Nat) : Int) - 1 = ((L : Nat) : Int) := by
    rw [hD.length, List.length_map, hl]
    omega
  show Q (V.int (((xs.length : Nat) : Int) - 1)) H
  rw [e]
  exact q
theorem ok_begun {f : Addr} {fd : FuncData} (F : Fun K "begun" "begun" sBegun f fd) : FnOk P w K mg base CX0 1 f fd ["book", "many"] (spBegun K) := by
  refine F.ok scBegun (fun vs H Q E h => ?_) (fun cdv A outer s H vs Q E hr h => ?_)
  · obtain ⟨x, b, m, rfl, _⟩ := h
    rfl
  obtain ⟨x, b, m, rfl, hx, h1, h2, q⟩ := h
  refine ⟨_, pss_one (ps_ret (pe_tup (pa_cons (pe_ix ix_D (pe_ix ix_D (pv 0) pe_int (fun _ _ => rfl)) pe_int (fun _ _ => rfl)) (pa_cons (pe_op op_rep1 (pe_tup (pa_cons (pe_ix ix_D (pe_ix ix_D (pv 0) pe_int (fun _ _ => rfl)) pe_int (fun _ _ => rfl)) pa_nil)) (pv 1)) pa_nil)))), ?_⟩
  refine ⟨x, rfl, _, 2, _, NoL, hx, rfl, rfl, fun v1 g1 => ⟨_, 0, nD b.bf, NoL, g1, rfl, rfl, fun v2 g2 => ?_⟩⟩
  refine ⟨x, rfl, _, 2, _, NoL, hx, rfl, rfl, fun v3 g3 => ⟨_, 1, nD b.bh, NoL, g3, rfl, rfl, fun v4 g4 => ?_⟩⟩
  refine ⟨(by show 1 ≤ sizeLine; decide), fun t nt => ?_⟩
  refine ⟨_, rfl, t, m, v4, rfl, rfl, .inl (.inl upd_same), h1, h2, fun p H2 s2 hp => ?_⟩
  have s1 : Same H (upd H t (.tup [v4])) := same_new nt
  refine ⟨(by show 2 ≤ sizeLine; decide), fun r nr => ?_⟩
  have s3 : Same H2 (upd H2 r (.tup [v2, .ref p])) := same_new nr
  refine q _ _ ((s1.trans s2).trans s3) (.tup (.inl (.inl upd_same)) (.cons (g2.sm ((s1.trans s2).trans s3)) (.cons (.tup ((Tk.same s3).seq hp) ?_) .nil)))
  obtain rfl := g4.intI
  have h := Dqs.ofNats (K := K) (H := upd H2 r (.tup [v2, .ref p])) (N := NoL) (List.replicate m b.bh)
  rw [List.map_replicate] at h
  exact h
theorem take_min (xs : List V) (p : Nat) : (xs.drop 0).take (min p xs.length - 0) = xs.take p := by
  rw [List.drop_zero, Nat.sub_zero]
  by_cases h : p ≤ xs.length
  · rw [Nat.min_eq_left h]
  · rw [Nat.min_eq_right (by omega), List.take_of_length_le (by omega), List.take_of_length_le (by omega)]
theorem cut_to (xs : List V) (p : Nat) : cutV xs none (some (p : Int)) = xs.take p := by
  unfold cutV
  rw [HT.sIx_none, HT.sIx_nat]
  exact take_min xs p
theorem cut_from (xs : List V) (p : Nat) : cutV xs (some (p : Int)) none = xs.drop p := by
  unfold cutV
  rw [HT.sIx_none, HT.sIx_nat]
  by_cases h : p ≤ xs.length
  · rw [Nat.min_eq_left h]
    exact List.take_of_length_le (by rw [List.length_drop]; exact Nat.le_refl _)
  · rw [Nat.min_eq_right (by omega), List.drop_of_length_le (by omega), List.drop_of_length_le (by omega), List.take_nil]
/-- [ls[n] for n in ns], ns and ls tuples of numbers -/
theorem lc_pick {a D : Addr} {ns ls : List Nat} {i j : Nat} {σ : L2.St} {vs : List Nat} {H1 : Hp} {lv : V} {Qd : Hp → Prop} (hS : SqT K H1 a (ns.map fun n : Nat => V.int (n : Int))) (hD0 : H1 D = none) (hlv : Dq K H1 NoL lv (tD ls)) (hlt : ∀ x, x ∈ ns → x < ls.length) (hl : ns.length ≤ 1000)
    (hw : ∀ v, wipe ((wipe σ vs).set i (some v)) vs = wipe σ vs) (hj : ∀ v, ((wipe σ vs).set i (some v))[j]? = some (some lv)) (hi : ∀ v, ((wipe σ vs).set i (some v))[i]? = some (some v))
    (hd : ∀ H acc, Grow H1 D acc H → Dqs K H NoL acc ((ns.map fun h => ls.getD h 0).map nD) → Qd H) :
    ∃ W : Nat → Nat → Hp → Prop, (∃ m, W 0 m (upd H1 D (.lst []))) ∧ ∀ i' m H, W i' m H →
      ((Itt K a).stop i' H ∧ Qd H) ∨ ((Itt K a).go i' H ∧ ∃ Nx : Hp → Prop, (∀ H', Nx H' → ∃ m', m' < m ∧ W (i' + 1) m' H') ∧ ∀ x H', (Itt K a).yld i' H x H' → gName i x (wipe σ vs) H' fun σ2 H2 => wipe σ2 vs = wipe σ vs ∧ tYes σ2 H2 fun b H3 =>
        if b = true then tOp (rIxD K) (tVar j) (tVar i) σ2 H3 fun y H4 => ∃ acc, H4 D = some (.lst acc) ∧ acc.length < sizeLine ∧ Nx (upd H4 D (.lst (acc ++ [y]))) else Nx H3) := by
  refine lc_it (walk_tup (xs := ns.map fun n : Nat => V.int (n : Int))) (fun i' H3 => ∃ acc, Grow H1 D acc H3 ∧ Dqs K H3 NoL acc (((ns.take i').map fun h => ls.getD h 0).map nD)) ⟨[], .start hD0, .nil⟩ (fun i' H3 _ hp => ?_) (fun i' v H3 H4 hlt' hp hy => ?_) (fun H3 hp => ?_)
  · obtain ⟨acc, g, _⟩ := hp
    exact (Tk.same g.same).seq hS
  · obtain ⟨acc, g, ga⟩ := hp
    obtain ⟨rfl, hv⟩ := hy
    rw [List.length_map] at hlt'
    obtain ⟨n, hn⟩ := get_some hlt'
    rw [List.getElem?_map, hn] at hv
    obtain rfl : V.int ((n : Nat) : Int) = v := Option.some.inj hv
    obtain ⟨k, hk⟩ := get_some (hlt n (List.mem_of_getElem? hn))
    refine ⟨hw _, kept ?_⟩
    refine ⟨_, hj _, _, hi _, _, n, nD k, NoL, hlv.sm g.same, rfl, by rw [List.getElem?_map, hk]; rfl, fun y hy => ?_⟩
    have la := ga.length
    rw [List.length_map, List.length_map, List.length_take] at la
    refine ⟨acc, g.at', small1 (by omega), acc ++ [y], g.push y, ?_⟩
    rw [take_snoc hn, List.map_append, List.map_append]
    refine (ga.append (.one ?_)).tk (g.tk _)
    show Dq K H4 NoL y (nD (ls.getD n 0))
    rw [getD_of hk]
    exact hy
  · obtain ⟨acc, g, ga⟩ := hp
    rw [List.length_map, List.take_length] at ga
    exact hd H3 acc g ga
theorem ok_turned {f : Addr} {fd : FuncData} (F : Fun K "turned_to" "turned_to" sTurned f fd) (mt : mg "tuple" = none) : FnOk P w K mg base CX0 1 f fd ["book", "stand", "change"] (spTurned K) := by
  refine F.ok scTurned (fun vs H Q E h => ?_) (fun cdv A outer s H vs Q E hr h => ?_)
  · obtain ⟨x, y, z, b, FF, n, L, m, st, c, rfl, _⟩ := h
    rfl
  obtain ⟨x, y, z, b, FF, n, L, m, st, c, rfl, hx, hy, hz, W, S, hm, hc1, hc2, q⟩ := h
  refine ⟨_, pss_cons (ps_asg (pv 1) (pg_tup rfl (pgs_cons (pg_name (i := 3) scTurned.nd rfl (Or.inl rfl)) (pgs_cons (pg_name (i := 4) scTurned.nd rfl (Or.inl rfl)) pgs_nil))))
    (pss_cons (ps_asg (pv 2) (pg_tup rfl (pgs_cons (pg_name (i := 5) scTurned.nd rfl (Or.inl rfl)) (pgs_cons (pg_name (i := 6) scTurned.nd rfl (Or.inl rfl)) pgs_nil))))
    (pss_cons (ps_asg (pe_ix ix_D (pe_ix ix_D (pe_ix ix_D (pe_ix ix_D (pv 0) pe_int (fun _ _ => rfl)) (pv 3) (fun _ _ => rfl)) (pe_ix ix_D (pv 4) (pv 5) (fun _ _ => rfl)) (fun _ _ => rfl)) (pv 6) (fun _ _ => rfl))
      (pg_tup rfl (pgs_cons (pg_name (i := 7) scTurned.nd rfl (Or.inl rfl)) (pgs_cons (pg_name (i := 8) scTurned.nd rfl (Or.inl rfl)) (pgs_cons (pg_name (i := 9) scTurned.nd rfl (Or.inr rfl)) (pgs_cons (pg_name (i := 10) scTurned.nd rfl (Or.inr rfl)) pgs_nil))))))
    (pss_cons (ps_set (i := 11) scTurned.nd rfl (Or.inl rfl) (pe_op op_cat (pe_op op_cat
        (pe_lc (own := [("own", 12)]) (g := gName 12) (tt := tYes) rfl scTurned.nd (pi_tup (pe_slice sl_D (pv 4) po_none (po_some (pv 5)))) (blkOk_by (N := nTurned) (sc := defScope sTurned) (by decide +kernel)) (fun _ _ _ _ _ => pg_name (i := 12) scTurned.nd rfl (Or.inl rfl)) (fun _ _ _ _ _ => pts_nil)
          (fun _ _ _ _ _ => pe_ix (ix_DK (K := K)) (pv 9) (pv 12) (fun _ _ => rfl)))
        (pe_lst (pa_cons (pv 8) pa_nil)))
        (pe_lc (own := [("own", 12)]) (g := gName 12) (tt := tYes) rfl scTurned.nd (pi_tup (pe_slice sl_D (pv 4) (po_some (pe_op op_add (pv 5) pe_int)) po_none)) (blkOk_by (N := nTurned) (sc := defScope sTurned) (by decide +kernel)) (fun _ _ _ _ _ => pg_name (i := 12) scTurned.nd rfl (Or.inl rfl)) (fun _ _ _ _ _ => pts_nil)
          (fun _ _ _ _ _ => pe_ix (ix_DK (K := K)) (pv 10) (pv 12) (fun _ _ => rfl)))))
    (pss_one (ps_ret (pe_tup (pa_cons (pv 7) (pa_cons (pe_callTy call_tuple_of (by rfl) mt boot_tuple (pa_cons (pv 11) pa_nil)) pa_nil)))))))), ?_⟩
  rw [show L2.start nTurned [x, y, z] = [some x, some y, some z, none, none, none, none, none, none, none, none, none, none] from rfl]
  obtain ⟨ya, ys, rfl, yS, yD⟩ := hy.tupI
  obtain ⟨fv, hv, rfl, yf, yh⟩ := yD.two
  obtain rfl := yf.intI
  obtain ⟨za, zs, rfl, zS, zD⟩ := hz.tupI
  obtain ⟨pv', lv', rfl, zp, zl⟩ := zD.two
  obtain rfl := zp.intI
  obtain rfl := zl.intI
  obtain ⟨hu, ehu⟩ := get_some (l := st.2) (i := c.1) (by rw [S.len]; exact hc1)
  have hun := S.hs hu (List.mem_of_getElem? ehu)
  have eg : st.2.getD c.1 0 = hu := getD_of ehu
  obtain ⟨ls, ln, e1, e2, e3, R⟩ := W.at S.f hun hc2
  -- flag, hues = stand; place, letter = change
  refine ⟨_, rfl, ya, _, rfl, yS, rfl, _, _, rfl, _, _, rfl, rfl, ?_⟩
  refine ⟨_, rfl, za, _, rfl, zS, rfl, _, _, rfl, _, _, rfl, rfl, ?_⟩
  -- book[3][flag][hues[place]][letter]
  refine ⟨_, rfl, _, 3, _, NoL, hx, rfl, rfl, fun v1 h1 => ?_⟩
  refine ⟨_, rfl, _, st.1, lsD ls, NoL, h1, rfl, by rw [List.getElem?_map, e1]; rfl, fun v2 h2 => ?_⟩
  refine ⟨_, rfl, _, rfl, _, c.1, nD hu, NoL, yh, rfl, by rw [List.getElem?_map, ehu]; rfl, fun v3 h3 => ?_⟩
  refine ⟨_, hu, lnD ln, NoL, h2, h3.intI, by rw [List.getElem?_map, e2]; rfl, fun v4 h4 => ?_⟩
  refine ⟨_, rfl, _, c.2, rD (b.row st.1 hu c.2), NoL, h4, rfl, by rw [List.getElem?_map, e3]; rfl, fun v5 h5 => ?_⟩
  obtain ⟨ra, rs, rfl, rS, rD'⟩ := h5.tupI
  obtain ⟨lat, hue, lef, rig, rfl, q1, q2, q3, q4⟩ := rD'.four
  refine ⟨ra, _, rfl, rS, rfl, _, _, rfl, _, _, rfl, _, _, rfl, _, _, rfl, rfl, ?_⟩
  -- hues[:place]
  obtain ⟨ha, hs, rfl, hS, hD⟩ := yh.tupI
  have ehs := hD.nats
  have lst : st.2.length ≤ 1000 := by rw [S.len]; exact hm
  refine ⟨_, rfl, _, rfl, _, rfl, ha, hs, rfl, hS, fun p1 H1 s1 hp1 => ⟨p1, rfl, ⟨_, hp1⟩, fun D1 nD1 => ?_⟩⟩
  rw [cut_to, ehs, ← List.map_take] at hp1
  refine lc_pick (i := 12) (j := 9) hp1 nD1 (q3.sm s1) (fun x hx' => by rw [R.kl]; exact S.hs x (List.mem_of_mem_take hx')) (by rw [List.length_take]; omega) ?hw1 ?hj1 ?hi1 fun H2 acc1 g1 a1 => ?_
  case hw1 => exact fun _ => rfl
  case hj1 => exact fun _ => rfl
  case hi1 => exact fun _ => rfl
  -- [hue]
  refine ⟨_, rfl, (by show 1 ≤ sizeLine; decide), fun l2 nl2 => ?_⟩
  have s2 : Same H2 (upd H2 l2 (.lst [hue])) := same_new nl2
  have g1' := g1.on s2
  have la1 := a1.length
  rw [List.length_map, List.length_map, List.length_take] at la1
  refine ⟨D1, l2, acc1, [hue], rfl, rfl, g1'.at', upd_same, Nat.le_of_lt (small1 (by rw [List.length_singleton, la1]; have := hc1; rw [S.len]; omega)), fun p3 np3 => ?_⟩
  have g13 : Same H2 (upd (upd H2 l2 (.lst [hue])) p3 (.lst (acc1 ++ [hue]))) := s2.trans (same_new np3)
  have c3 : Dqs K (upd (upd H2 l2 (.lst [hue])) p3 (.lst (acc1 ++ [hue]))) NoL (acc1 ++ [hue]) (((st.2.take c.1).map fun h => (b.row st.1 hu c.2).l.getD h 0).map nD ++ [nD (b.row st.1 hu c.2).h]) :=
    (a1.sm g13).append (.one (q2.sm ((s1.trans g1.same).trans g13)))
  have at3 : (upd (upd H2 l2 (.lst [hue])) p3 (.lst (acc1 ++ [hue]))) p3 = some (.lst (acc1 ++ [hue])) := upd_same
  have s3 : Same H (upd (upd H2 l2 (.lst [hue])) p3 (.lst (acc1 ++ [hue]))) := (s1.trans g1.same).trans g13
  generalize upd (upd H2 l2 (.lst [hue])) p3 (.lst (acc1 ++ [hue])) = H3 at c3 at3 s3
  have lc3 := c3.length
  simp only [List.length_append, List.length_map, List.length_take, List.length_singleton] at lc3
  -- hues[place + 1:]
  refine ⟨_, rfl, _, rfl, _, _, rfl, rfl, _, rfl, ha, hs, rfl, (Tk.same s3).seq hS, fun p4 H4 s4 hp4 => ⟨p4, rfl, ⟨_, hp4⟩, fun D2 nD2 => ?_⟩⟩
  have ep : cutV hs (some (((c.1 : Nat) : Int) + 1)) none = hs.drop (c.1 + 1) := cut_from hs (c.1 + 1)
  have hp4' : SqT K H4 p4 (cutV hs (some (((c.1 : Nat) : Int) + 1)) none) := hp4
  rw [ep, ehs, ← List.map_drop] at hp4'
  refine lc_pick (i := 12) (j := 10) hp4' nD2 (q4.sm (s3.trans s4)) (fun x hx' => by rw [R.kr]; exact S.hs x (List.mem_of_mem_drop hx')) (by rw [List.length_drop]; omega) ?hw2 ?hj2 ?hi2 fun H5 acc2 g2 a2 => ?_
  case hw2 => exact fun _ => rfl
  case hj2 => exact fun _ => rfl
  case hi2 => exact fun _ => rfl
  have la2 := a2.length
  rw [List.length_map, List.length_map, List.length_drop] at la2
  have s35 := s4.trans g2.same
  refine ⟨p3, D2, acc1 ++ [hue], acc2, rfl, rfl, s35 _ _ at3, g2.at', Nat.le_of_lt (small1 (by simp only [List.length_append, List.length_singleton]; have := S.len; omega)), fun p5 np5 => ?_⟩
  have s5 : Same H5 (upd H5 p5 (.lst (acc1 ++ [hue] ++ acc2))) := same_new np5
  have s05 := (s3.trans s35).trans s5
  have call : Dqs K (upd H5 p5 (.lst (acc1 ++ [hue] ++ acc2))) NoL (acc1 ++ [hue] ++ acc2) ((turn b st c).2.map nD) := by
    have e : (turn b st c).2.map nD = (((st.2.take c.1).map fun h => (b.row st.1 hu c.2).l.getD h 0).map nD ++ [nD (b.row st.1 hu c.2).h]) ++ ((st.2.drop (c.1 + 1)).map fun h => (b.row st.1 hu c.2).r.getD h 0).map nD := by
      unfold turn
      rw [eg, List.map_append, List.map_append]
      rfl
    rw [e]
    exact ((c3.sm s35).append a2).sm s5
  -- return (later, tuple(found))
  refine ⟨_, rfl, _, rfl, p5, _, rfl, .inl ⟨.inl (.inl upd_same), fun t6 nt6 => ?_⟩⟩
  have s6 : Same (upd H5 p5 (.lst (acc1 ++ [hue] ++ acc2))) (upd (upd H5 p5 (.lst (acc1 ++ [hue] ++ acc2))) t6 (.tup (acc1 ++ [hue] ++ acc2))) := same_new nt6
  refine ⟨(by show 2 ≤ sizeLine; decide), fun t7 nt7 => ?_⟩
  have s7 := s6.trans (same_new (o := .tup [lat, .ref t6]) nt7)
  have ef : nD (b.row st.1 hu c.2).f = nD (turn b st c).1 := by
    unfold turn
    rw [eg]
  rw [ef] at q1
  refine q _ _ (s05.trans s7) (.tup (.inl (.inl upd_same)) (.cons (q1.sm (s05.trans s7)) (.cons (.tup (.inl (.inl ?_)) (call.sm s7)) .nil)))
  rw [upd_ne (ne_of_none upd_same nt7), upd_same]
end
end K12

set_option Elab.async false
set_option linter.all false
set_option maxRecDepth 100000
set_option maxHeartbeats 4000000
namespace K12
open PySem PySem.Spec PyProof.Rows L2
/-! ### changes_for -/
abbrev sChanges : Stmt := topS 13
abbrev nChanges : List Str := ["book", "many", "place", "letter"]
theorem scChanges : FnScope nChanges ["book", "many"] (defScope sChanges) := ⟨rfl, rfl, rfl, by decide +kernel, rfl, by decide +kernel, by decide +kernel⟩
def spChanges (K : PySem.W.Frag) : Sp := fun vs H Q _ => ∃ x b F n L m, vs = [x, .int ((m : Nat) : Int)] ∧ Dq K H NoL x (bD b) ∧ b.WF F n L ∧ m ≤ 5 ∧
  ∀ p cs H', Same H H' → H p = none → H' p = some (.lst cs) → Dqs K H' NoL cs ((chs L m).map cD) → Q (.ref p) H'
theorem chs_succ (L m : Nat) : chs L (m + 1) = chs L m ++ (List.range (L + 1)).map fun l => (m, l) := by
  unfold chs
  rw [show List.range (m + 1) = List.range m ++ [m] from List.range_succ, List.flatMap_append, List.flatMap_singleton]
theorem keptP {σ : L2.St} {H : Hp} {R R' : Hp → Prop} (h : R H) : tYes σ H (fun b H3 => if b = true then R H3 else R' H3) := iteT (A := R H) (B := R' H) h
section
variable {P : Program} {w : World} {K : PySem.W.Frag} {mg : Str → Option Value} {base : Heap}
theorem ok_changes {f fL : Addr} {fd fdL : FuncData} (F : Fun K "changes_for" "changes_for" sChanges f fd) (FL : Fun K "letters_of" "letters_of" sLetters fL fdL) (bL : Binds K fdL ["book"] []) (gL : mg "letters_of" = some (.ref fL))
    (mlen : mg "len" = none) (mr : mg "range" = none) : FnOk P w K mg base CX0 2 f fd ["book", "many"] (spChanges K) := by
  have GL := ok_letters (P := P) (w := w) (base := base) FL mlen
  refine F.ok scChanges (fun vs H Q E h => ?_) (fun cdv A outer s H vs Q E hr h => ?_)
  · obtain ⟨x, b, FF, n, L, m, rfl, _⟩ := h
    rfl
  obtain ⟨x, b, FF, n, L, m, rfl, hx, W, hm, q⟩ := h
  refine ⟨_, pss_one (ps_ret (pe_lc2 (own := [("place", 2), ("letter", 3)]) (vs1 := [3]) (g := gName 2) (g1 := gName 3) (tt := tYes) (tt1 := tYes) rfl scChanges.nd (pi_range1 (by rfl) mr (pa_cons (pv 1) pa_nil)) (blkOk_by (N := nChanges) (sc := defScope sChanges) (by decide +kernel)) (by decide)
    (fun _ _ _ _ _ => pg_name (i := 2) scChanges.nd rfl (Or.inl rfl)) (fun _ _ _ _ _ => pts_nil)
    (fun _ _ _ _ _ => pi_range1 (by rfl) mr (pa_cons (pe_op op_add (pe_call GL hr (by rfl) gL FL.kp bL .nil pass0 (pa_cons (pv 0) pa_nil)) pe_int) pa_nil))
    (fun _ _ _ _ _ => pg_name (i := 3) scChanges.nd rfl (Or.inl rfl)) (fun _ _ _ _ _ => pts_nil)
    (fun _ _ _ _ _ => pe_tup (pa_cons (pv 2) (pa_cons (pv 3) pa_nil))))), ?_⟩
  rw [show L2.start nChanges [x, V.int ((m : Nat) : Int)] = [some x, some (V.int ((m : Nat) : Int)), none, none] from rfl]
  refine ⟨_, rfl, ((m : Nat) : Int), rfl, by omega, by omega, fun D hD0 => ?_⟩
  have hL := W.Ls
  have cl : ∀ i, i ≤ m → (chs L i).length ≤ 600 := fun i hi => by
    rw [length_chs]
    have := Nat.mul_le_mul (show i ≤ 5 by omega) (show L + 1 ≤ 101 by omega)
    omega
  refine ⟨fun i k H3 => k = m - i ∧ i ≤ m ∧ ∃ acc, Grow H D acc H3 ∧ Dqs K H3 NoL acc ((chs L i).map cD), ⟨m, by omega, Nat.zero_le _, [], .start hD0, .nil⟩, ?_⟩
  rintro i k H3 ⟨rfl, hi, acc, g, ga⟩
  by_cases hlt : i < m
  · refine .inr ⟨by show i < (((m : Nat) : Int)).toNat; omega, fun H4 => i + 1 ≤ m ∧ ∃ acc, Grow H D acc H4 ∧ Dqs K H4 NoL acc ((chs L (i + 1)).map cD), fun H4 h4 => ⟨m - (i + 1), by omega, rfl, h4⟩, fun v H4 hy => ?_⟩
    obtain ⟨rfl, rfl⟩ := hy
    refine ⟨rfl, keptP ?_⟩
    refine ⟨_, rfl, x, b, FF, n, L, rfl, hx.sm g.same, W, _, _, rfl, rfl, ((L : Nat) : Int) + 1, rfl, by omega, by omega, ?_⟩
    have eL : (((L : Nat) : Int) + 1).toNat = L + 1 := by omega
    rw [eL]
    refine ⟨fun j k H5 => k = L + 1 - j ∧ j ≤ L + 1 ∧ ∃ acc, Grow H D acc H5 ∧ Dqs K H5 NoL acc ((chs L i ++ (List.range j).map fun l => (i, l)).map cD), ⟨L + 1, by omega, Nat.zero_le _, acc, g, by simpa using ga⟩, ?_⟩
    rintro j k H5 ⟨rfl, hj, acc5, g5, ga5⟩
    by_cases hjl : j < L + 1
    · refine .inr ⟨hjl, fun H6 => ∃ acc, Grow H D acc H6 ∧ Dqs K H6 NoL acc ((chs L i ++ (List.range (j + 1)).map fun l => (i, l)).map cD), fun H6 h6 => ⟨L + 1 - (j + 1), by omega, rfl, hjl, h6⟩, fun v H6 hy => ?_⟩
      obtain ⟨rfl, rfl⟩ := hy
      refine ⟨rfl, kept ?_⟩
      refine ⟨_, rfl, _, rfl, (by show 2 ≤ sizeLine; decide), fun t nt => ?_⟩
      have s6 := same_new (o := .tup [V.int (0 + ((i : Nat) : Int)), V.int (0 + ((j : Nat) : Int))]) nt
      have g6 := g5.on s6
      have la := ga5.length
      have ci := cl i (by omega)
      simp only [List.length_map, List.length_append, List.length_range] at la
      refine ⟨acc5, g6.at', small1 (by omega), acc5 ++ [.ref t], g6.push _, ?_⟩
      have er : (chs L i ++ (List.range (j + 1)).map fun l => (i, l)).map cD = (chs L i ++ (List.range j).map fun l => (i, l)).map cD ++ [cD (i, j)] := by
        rw [show List.range (j + 1) = List.range j ++ [j] from List.range_succ]
        simp only [List.map_append, List.append_assoc]
        rfl
      rw [er]
      refine ((ga5.sm s6).append (.one (.tup (.inl (.inl upd_same)) ?_))).tk (g6.tk _)
      rw [Int.zero_add, Int.zero_add]
      exact .cons (.int _) (.cons (.int _) .nil)
    · have e : j = L + 1 := by omega
      subst e
      refine .inl ⟨Nat.le_refl _, by omega, acc5, g5, ?_⟩
      rw [chs_succ]
      exact ga5
  · have e : i = m := by omega
    subst e
    exact .inl ⟨by show (((i : Nat) : Int)).toNat ≤ i; omega, q D acc H3 g.same g.new g.at' ga⟩
end
end K12

set_option Elab.async false
set_option linter.all false
set_option maxRecDepth 100000
set_option maxHeartbeats 4000000
namespace K12
open PySem PySem.Spec PyProof.Rows L2
/-! ### stands_along, stand_behind -/
abbrev sAlong : Stmt := topS 11
abbrev nAlong : List Str := ["book", "history", "found", "change", "_", "letter"]
theorem scAlong : FnScope nAlong ["book", "history"] (defScope sAlong) := ⟨rfl, rfl, rfl, by decide +kernel, rfl, by decide +kernel, by decide +kernel⟩
abbrev sBehind : Stmt := topS 12
theorem scBehind : FnScope ["book", "history"] ["book", "history"] (defScope sBehind) := ⟨rfl, rfl, rfl, by decide +kernel, rfl, by decide +kernel, by decide +kernel⟩
def hD (m : Nat) (w : Way) : PyData := .tuple [nD m, wD w]
def AskBehind (K : PySem.W.Frag) (H : Hp) (x y : V) (b : Book) (F n L m : Nat) (u : Way) : Prop :=
  Dq K H NoL x (bD b) ∧ Dq K H NoL y (hD m u) ∧ b.WF F n L ∧ 1 ≤ m ∧ m ≤ 5 ∧ u.length ≤ 900 ∧ Valid (chs L m) u
def spAlong (K : PySem.W.Frag) : Sp := fun vs H Q _ => ∃ x y b F n L m u, vs = [x, y] ∧ AskBehind K H x y b F n L m u ∧
  ∀ p us v H', Same H H' → H' p = some (.lst (us ++ [v])) → Dq K H' NoL v (sD (run (turn b) (first b m) u)) → Q (.ref p) H'
def spBehind (K : PySem.W.Frag) : Sp := fun vs H Q _ => ∃ x y b F n L m u, vs = [x, y] ∧ AskBehind K H x y b F n L m u ∧
  ∀ v H', Same H H' → Dq K H' NoL v (sD (run (turn b) (first b m) u)) → Q v H'
theorem tk_down {H : Hp} {p : Addr} {xs : List V} : Tk (upd H p (.lst xs)) H := by
  refine ⟨fun b ys e => ?_, fun b f ys e => ?_⟩
  · by_cases h : b = p
    · rw [h, upd_same] at e; cases e
    · rw [upd_ne h] at e; exact e
  · by_cases h : b = p
    · rw [h, upd_same] at e; cases e
    · rw [upd_ne h] at e; exact e
section
variable {P : Program} {w : World} {K : PySem.W.Frag} {mg : Str → Option Value} {base : Heap}
theorem ok_along {f fL fB fT : Addr} {fd fdL fdB fdT : FuncData} (F : Fun K "stands_along" "stands_along" sAlong f fd) (FL : Fun K "letters_of" "letters_of" sLetters fL fdL) (bL : Binds K fdL ["book"] []) (gL : mg "letters_of" = some (.ref fL))
    (FB : Fun K "begun" "begun" sBegun fB fdB) (bB : Binds K fdB ["book", "many"] []) (gB : mg "begun" = some (.ref fB)) (FT : Fun K "turned_to" "turned_to" sTurned fT fdT) (bT : Binds K fdT ["book", "stand", "change"] []) (gT : mg "turned_to" = some (.ref fT))
    (mlen : mg "len" = none) (mall : mg "all" = none) (mt : mg "tuple" = none) : FnOk P w K mg base CX0 2 f fd ["book", "history"] (spAlong K) := by
  have GL := ok_letters (P := P) (w := w) (base := base) FL mlen
  have GB := ok_begun (P := P) (w := w) (mg := mg) (base := base) FB
  have GT := ok_turned (P := P) (w := w) (base := base) FT mt
  refine F.ok scAlong (fun vs H Q E h => ?_) (fun cdv A outer s H vs Q E hr h => ?_)
  · obtain ⟨x, y, b, FF, n, L, m, u, rfl, _⟩ := h
    rfl
  obtain ⟨x, y, b, FF, n, L, m, u, rfl, ⟨hx, hy, W, h1, h5, hul, hv⟩, q⟩ := h
  refine ⟨_, pss_cons (ps_if (pt_not (pt_val (pe_callB (cr_all rfl) (by rfl) mall boot_all (pa_cons (pe_lc (own := [("_", 4), ("letter", 5)]) (g := gTup K 2 (gCons (gName 4) (gCons (gName 5) gNil))) (tt := tYes) rfl scAlong.nd (pi_tup (pe_ix ix_D (pv 1) pe_int (fun _ _ => rfl))) (blkOk_by (N := nAlong) (sc := defScope sAlong) (by decide +kernel))
        (fun _ _ _ _ _ => pg_tup rfl (pgs_cons (pg_name (i := 4) scAlong.nd rfl (Or.inl rfl)) (pgs_cons (pg_name (i := 5) scAlong.nd rfl (Or.inl rfl)) pgs_nil))) (fun _ _ _ _ _ => pts_nil)
        (fun _ _ _ _ _ => pe_cmpR op_le (pv 5) (pe_call GL (hr.mono (by decide)) (by rfl) gL FL.kp bL .nil pass0 (pa_cons (pv 0) pa_nil)) (nomark _))) pa_nil)))) pss_never pss_nil)
    (pss_cons (ps_set (i := 2) scAlong.nd rfl (Or.inl rfl) (pe_lst (pa_cons (pe_call GB (hr.mono (by decide)) (by rfl) gB FB.kp bB .nil pass0 (pa_cons (pv 0) (pa_cons (pe_ix ix_D (pv 1) pe_int (fun _ _ => rfl)) pa_nil))) pa_nil)))
    (pss_cons (ps_for PassesOwn.never rfl (pi_tup (pe_ix ix_D (pv 1) pe_int (fun _ _ => rfl))) (pg_name (i := 3) scAlong.nd rfl (Or.inl rfl))
      (pss_one (ps_expr (pe_bm PySem.F.plainAttrs_list PySem.F.slot_list_append PySem.F.type_list_append mt_append (pv 2) (pa_cons (pe_call GT (hr.mono (by decide)) (by rfl) gT FT.kp bT .nil pass0 (pa_cons (pv 0) (pa_cons (pe_ix ix_list (pv 2) (pe_un un_neg pe_int) (fun _ _ => rfl)) (pa_cons (pv 3) pa_nil)))) pa_nil)))))
    (pss_one (ps_ret (pv 2))))), ?_⟩
  rw [show L2.start nAlong [x, y] = [some x, some y, none, none, none, none] from rfl]
  have hmc : ∀ c, c ∈ u → c.1 < m ∧ c.2 ≤ L := fun c hc => mem_chs.mp (hv c hc)
  -- the letters
  refine ⟨_, rfl, _, 1, wD u, NoL, hy, rfl, rfl, fun v1 q1 => ?_⟩
  obtain ⟨ha, hs, rfl, hS, hDs⟩ := q1.tupI
  have lhs := hDs.length
  rw [List.length_map] at lhs
  refine ⟨ha, rfl, ⟨hs, hS⟩, fun D hD0 => ?_⟩
  refine lc_it (walk_tup (xs := hs)) (fun i H3 => Grow H D (List.replicate i (.bl true)) H3) (.start hD0) (fun i H3 _ g => (Tk.same g.same).seq hS) (fun i v H3 H4 hi g hy4 => ?_) (fun H3 g => ?_)
  · obtain ⟨rfl, hv4⟩ := hy4
    obtain ⟨e, he, hve⟩ := hDs.getV hv4
    rw [List.getElem?_map] at he
    obtain ⟨c, hc⟩ := get_some (l := u) (i := i) (by omega)
    rw [hc] at he
    obtain rfl : cD c = e := Option.some.inj he
    obtain ⟨ca, cs, rfl, cS, cDs⟩ := hve.tupI
    obtain ⟨pp, ll, rfl, cp, cl⟩ := cDs.two
    obtain rfl := cl.intI
    refine ⟨ca, _, rfl, (Tk.same g.same).seq cS, rfl, _, _, rfl, _, _, rfl, rfl, rfl, kept ?_⟩
    refine ⟨_, rfl, _, rfl, x, b, FF, n, L, rfl, hx.sm g.same, W, _, _, rfl, rfl, ?_⟩
    have hle : decide (((c.2 : Nat) : Int) ≤ ((L : Nat) : Int)) = true := decide_eq_true (by have := (hmc c (List.mem_of_getElem? hc)).2; omega)
    refine ⟨_, g.at', by rw [List.length_replicate]; exact small1 (by omega), ?_⟩
    have g6 := g.push (.bl true)
    have er : List.replicate (i + 1) (V.bl true) = List.replicate i (V.bl true) ++ [V.bl true] := List.replicate_succ'
    rw [er]
    show Grow H D (List.replicate i (V.bl true) ++ [V.bl true]) (upd H4 D (.lst (List.replicate i (V.bl true) ++ [V.bl (decide (((c.2 : Nat) : Int) ≤ ((L : Nat) : Int)))])))
    rw [hle]
    exact g6
  · refine ⟨D, List.replicate hs.length true, rfl, .inl (.inl ?_), ?_⟩
    · rw [map_rep]
      exact g.at'
    refine ⟨_, rfl, ?_⟩
    rw [all_rep]
    refine iteF ?_
    have s3 := g.same
    -- found = [begun(book, history[0])]
    refine ⟨_, rfl, _, rfl, _, 0, nD m, NoL, hy.sm s3, rfl, rfl, fun v0 q0 => ?_⟩
    obtain rfl := q0.intI
    refine ⟨x, b, m, rfl, hx.sm s3, h1, by omega, fun vb Hb sb hb => ⟨(by show 1 ≤ sizeLine; decide), fun p np => ?_⟩⟩
    have sp : Same Hb (upd Hb p (.lst [vb])) := same_new np
    have s05 := s3.trans sb
    have s06 := s05.trans sp
    -- the changes
    refine ⟨_, rfl, _, 1, wD u, NoL, hy.sm s06, rfl, rfl, fun v1' q1' => ?_⟩
    obtain ⟨ka, ks, rfl, kS, kDs⟩ := q1'.tupI
    have lks := kDs.length
    rw [List.length_map] at lks
    refine ⟨ka, rfl, ⟨ks, kS⟩, ?_⟩
    have kS' := tk_down.seq kS
    have kDs' := kDs.tk (N' := NoL) tk_down
    refine for_it (walk_tup (xs := ks)) (fun i σ H6 => ∃ us v y3, σ = [some x, some y, some (.ref p), y3, none, none] ∧ Grow Hb p (us ++ [v]) H6 ∧ (us ++ [v]).length = i + 1 ∧ Dq K H6 NoL v (sD (run (turn b) (first b m) (u.take i)))) ?_ (fun i σ H6 _ hp => ?_) (fun i v σ H6 H7 hi hp hyv => ?_) (fun σ H6 hp => ?_)
    · exact ⟨[], vb, none, rfl, ⟨np, upd_same, sp⟩, rfl, hb.sm sp⟩
    · obtain ⟨us, v, y3, rfl, g6, _, _⟩ := hp
      exact (Tk.same g6.same).seq kS'
    · obtain ⟨us, vl, y3, rfl, g6, l6, d6⟩ := hp
      obtain ⟨rfl, hv7⟩ := hyv
      obtain ⟨e, he, hve⟩ := kDs'.getV hv7
      rw [List.getElem?_map] at he
      obtain ⟨c, hc⟩ := get_some (l := u) (i := i) (by omega)
      rw [hc] at he
      obtain rfl : cD c = e := Option.some.inj he
      have hcc := hmc c (List.mem_of_getElem? hc)
      refine ⟨_, rfl, .inl ⟨rfl, _, .inl (.inl g6.at')⟩, ?_⟩
      refine ⟨_, rfl, _, rfl, _, rfl, p, _, _, _, rfl, rfl, .inl (.inl g6.at'), atI_last us vl, _, rfl, ?_⟩
      refine ⟨x, vl, v, b, FF, n, L, m, _, c, rfl, (hx.sm s05).sm g6.same, d6, hve.sm g6.same, W, run_ok W (u.take i) _ (first_ok W) (fun d hd => hv d (List.mem_of_mem_take hd)), by omega, hcc.1, hcc.2, fun v8 H8 s8 h8 => ?_⟩
      have g8 := g6.on s8
      refine ⟨p, us ++ [vl], v8, rfl, rfl, g8.at', small1 (by omega), ?_⟩
      refine ⟨us ++ [vl], v8, _, rfl, g8.push v8, by rw [List.length_append, l6]; rfl, ?_⟩
      have er : run (turn b) (first b m) (u.take (i + 1)) = turn b (run (turn b) (first b m) (u.take i)) c := by
        rw [take_snoc hc, run_snoc (step := turn b) (s0 := first b m)]
      rw [er]
      exact h8.tk (g8.tk _)
    · obtain ⟨us, vl, y3, rfl, g6, l6, d6⟩ := hp
      rw [lks, List.take_length] at d6
      exact ⟨_, rfl, q p us vl H6 (s05.trans g6.same) g6.at' d6⟩
theorem ok_behind {f fL fB fT fA : Addr} {fd fdL fdB fdT fdA : FuncData} (F : Fun K "stand_behind" "stand_behind" sBehind f fd) (FA : Fun K "stands_along" "stands_along" sAlong fA fdA) (bA : Binds K fdA ["book", "history"] []) (gA : mg "stands_along" = some (.ref fA))
    (GA : FnOk P w K mg base CX0 2 fA fdA ["book", "history"] (spAlong K)) : FnOk P w K mg base CX0 3 f fd ["book", "history"] (spBehind K) := by
  refine F.ok scBehind (fun vs H Q E h => ?_) (fun cdv A outer s H vs Q E hr h => ?_)
  · obtain ⟨x, y, b, FF, n, L, m, u, rfl, _⟩ := h
    rfl
  obtain ⟨x, y, b, FF, n, L, m, u, rfl, ask, q⟩ := h
  refine ⟨_, pss_one (ps_ret (pe_ix ix_list (pe_call GA hr (by rfl) gA FA.kp bA .nil pass0 (pa_cons (pv 0) (pa_cons (pv 1) pa_nil))) (pe_un un_neg pe_int) (fun _ _ => rfl))), ?_⟩
  refine ⟨x, rfl, y, rfl, x, y, b, FF, n, L, m, u, rfl, ask, fun p us v H' s' hp hv => ?_⟩
  exact ⟨_, rfl, p, _, _, v, rfl, rfl, .inl (.inl hp), atI_last us v, q v H' s' hv⟩
end
end K12

set_option Elab.async false
set_option linter.all false
set_option maxRecDepth 100000
set_option maxHeartbeats 4000000
namespace K12
open PySem PySem.Spec PyProof.Rows L2
/-! ### one more candidate -/
theorem addF_snoc {S : Type} [DecidableEq S] (D cs : List (S × Way)) (c : S × Way) :
    addF (keys D) (cs ++ [c]) = if c.1 ∈ keys (D ++ addF (keys D) cs) then addF (keys D) cs else addF (keys D) cs ++ [c] := by
  have h1 := foldl_addP (cs ++ [c]) D []
  rw [List.foldl_append, foldl_addP cs D []] at h1
  have h2 : addP (D ++ addF (keys D) cs, [] ++ addF (keys D) cs) c = (D ++ addF (keys D) (cs ++ [c]), [] ++ addF (keys D) (cs ++ [c])) := h1
  unfold addP at h2
  by_cases h : c.1 ∈ keys (D ++ addF (keys D) cs)
  · rw [if_pos h]
    rw [if_pos h] at h2
    exact (Prod.mk.inj h2).2.symm
  · rw [if_neg h]
    rw [if_neg h] at h2
    have e := (Prod.mk.inj h2).2
    simpa using e.symm
theorem keys_app {S : Type} (D F : List (S × Way)) : keys (D ++ F) = keys D ++ keys F := List.map_append
theorem keys_addF_nodup {S : Type} [DecidableEq S] {D : List (S × Way)} (h : (keys D).Nodup) (cs : List (S × Way)) : (keys (D ++ addF (keys D) cs)).Nodup := by
  rw [keys_app]
  refine List.nodup_append.mpr ⟨h, addF_nodup cs _, fun a ha b hb e => ?_⟩
  subst e
  obtain ⟨w, hw⟩ := mem_keys.mp hb
  exact addF_notin cs _ a w hw ha
/-- the candidates so far -/
def candsTo (b : Book) (L m : Nat) (lay : List (Std × Way)) (i j : Nat) : List (Std × Way) :=
  cands (turn b) (chs L m) (lay.take i) ++ match lay[i]? with
    | some p => ((chs L m).take j).map fun c => (turn b p.1 c, p.2 ++ [c])
    | none => []
theorem candsTo_zero (b : Book) (L m : Nat) (lay : List (Std × Way)) (i : Nat) : candsTo b L m lay i 0 = cands (turn b) (chs L m) (lay.take i) := by
  unfold candsTo
  cases lay[i]? with
  | none => exact List.append_nil _
  | some p => rw [List.take_zero]; exact List.append_nil _
theorem candsTo_succ {b : Book} {L m : Nat} {lay : List (Std × Way)} {i j : Nat} {p : Std × Way} {c : Chg} (hp : lay[i]? = some p) (hc : (chs L m)[j]? = some c) :
    candsTo b L m lay i (j + 1) = candsTo b L m lay i j ++ [(turn b p.1 c, p.2 ++ [c])] := by
  unfold candsTo
  rw [hp]
  show _ ++ ((chs L m).take (j + 1)).map _ = _ ++ ((chs L m).take j).map _ ++ _
  rw [take_snoc hc, List.map_append, List.append_assoc]
  rfl
theorem candsTo_all {b : Book} {L m : Nat} {lay : List (Std × Way)} {i : Nat} {p : Std × Way} (hp : lay[i]? = some p) : candsTo b L m lay i (chs L m).length = cands (turn b) (chs L m) (lay.take (i + 1)) := by
  unfold candsTo
  rw [hp, take_snoc hp]
  show _ ++ ((chs L m).take (chs L m).length).map _ = _
  rw [List.take_length]
  unfold cands
  rw [List.flatMap_append, List.flatMap_singleton]
theorem mem_candsTo {b : Book} {L m : Nat} {lay : List (Std × Way)} {i j : Nat} {x : Std × Way} (h : x ∈ candsTo b L m lay i j) : ∃ p c, p ∈ lay ∧ c ∈ chs L m ∧ x.1 = turn b p.1 c := by
  unfold candsTo at h
  rcases List.mem_append.mp h with h | h
  · obtain ⟨t, u, c, hp, hc, e1, _⟩ := mem_cands.mp (show (x.1, x.2) ∈ _ from h)
    exact ⟨(t, u), c, List.mem_of_mem_take hp, hc, e1⟩
  · cases hp : lay[i]? with
    | none => rw [hp] at h; cases h
    | some p =>
      rw [hp] at h
      obtain ⟨c, hc, e⟩ := List.mem_map.mp h
      exact ⟨p, c, List.mem_of_getElem? hp, List.mem_of_mem_take hc, by rw [← e]⟩
/-! ### tuples put together -/
def rCatD (K : PySem.W.Frag) : R2 := fun x y H Q => ∃ ds es, Dq K H NoL x (.tuple ds) ∧ Dq K H NoL y (.tuple es) ∧ ds.length + es.length ≤ 100000 ∧ ∀ v H', Same H H' → Dq K H' NoL v (.tuple (ds ++ es)) → Q v H'
theorem op_catD {X : Cx} : OpR X (binaryOp .Add) (rCatD X.K) := by
  intro pins s σ H x y v u Q I rx ry h
  obtain ⟨ds, es, hx, hy, hl, q⟩ := h
  obtain ⟨a, xs, rfl, aS, aD⟩ := hx.tupI
  obtain ⟨b, ys, rfl, bS, bD'⟩ := hy.tupI
  have l1 := aD.length
  have l2 := bD'.length
  refine op_catA pins s σ H _ _ v u Q I rx ry ⟨a, b, xs, ys, rfl, rfl, aS, bS, by rw [sizeLine_eq]; omega, fun e => ?_, fun _ e => ?_, fun _ _ p hp => ?_⟩
  · have e' : ds = [] := List.length_eq_zero_iff.mp (by rw [← l1, e]; rfl)
    refine q _ H (Same.refl H) ?_
    rw [e', List.nil_append]
    exact .tup bS bD'
  · have e' : es = [] := List.length_eq_zero_iff.mp (by rw [← l2, e]; rfl)
    refine q _ H (Same.refl H) ?_
    rw [e', List.append_nil]
    exact .tup aS aD
  · have s := same_new (o := .tup (xs ++ ys)) hp
    exact q _ _ s (.tup (.inl (.inl upd_same)) ((aD.sm s).append (bD'.sm s)))
theorem wD_snoc (u : Way) (c : Chg) : wD (u ++ [c]) = .tuple (u.map cD ++ [cD c]) := by
  show PyData.tuple ((u ++ [c]).map cD) = _
  rw [List.map_append]
  rfl
/-! ### next_stands -/
abbrev sNext : Stmt := topS 14
abbrev nNext : List Str := ["book", "many", "ways", "now", "found", "stand", "change", "later"]
theorem scNext : FnScope nNext ["book", "many", "ways", "now"] (defScope sNext) := ⟨rfl, rfl, rfl, by decide +kernel, rfl, by decide +kernel, by decide +kernel⟩
def spNext (P : Program) (w : World) (K : PySem.W.Frag) : Sp := fun vs H Q _ => ∃ x d l us b F n L m k D lay, vs = [x, .int ((m : Nat) : Int), .ref d, .ref l] ∧ Dq K H NoL x (bD b) ∧ b.WF F n L ∧ 1 ≤ m ∧ m ≤ 5 ∧ F * n ^ m ≤ 900 ∧ k ≤ 10000 ∧
  DicAt P w K H d D ∧ H l = some (.lst us) ∧ Dqs K H NoL us ((keys lay).map sD) ∧ LapP (turn b) (chs L m) (first b m) k D lay ∧
  ∀ p fs H', But (fun a => a = d) H H' → H p = none → H' p = some (.lst fs) → DicAt P w K H' d (D ++ addF (keys D) (cands (turn b) (chs L m) lay)) →
    Dqs K H' NoL fs ((keys (addF (keys D) (cands (turn b) (chs L m) lay))).map sD) → Q (.ref p) H'
/-- between the turns: F found so far -/
structure NS (P : Program) (w : World) (K : PySem.W.Frag) (H : Hp) (d p : Addr) (D F : List (Std × Way)) (H' : Hp) : Prop where
  but : But (fun a => a = d) H H'
  dic : DicAt P w K H' d (D ++ F)
  lst : ∃ us, H' p = some (.lst us) ∧ Dqs K H' NoL us ((keys F).map sD)
theorem NS.on {P : Program} {w : World} {K : PySem.W.Frag} {H : Hp} {d p : Addr} {D F : List (Std × Way)} {H1 H2 : Hp} (h : NS P w K H d p D F H1) (s : Same H1 H2) : NS P w K H d p D F H2 :=
  ⟨fun b o n e => s _ _ (h.but b o n e), h.dic.same s, let ⟨us, a, b⟩ := h.lst; ⟨us, s _ _ a, b.sm s⟩⟩
section
variable {P : Program} {w : World} {K : PySem.W.Frag} {mg : Str → Option Value} {base : Heap}
theorem ok_next {f fC fT : Addr} {fd fdC fdT : FuncData} (F : Fun K "next_stands" "next_stands" sNext f fd) (FC : Fun K "changes_for" "changes_for" sChanges fC fdC) (bC : Binds K fdC ["book", "many"] []) (gC : mg "changes_for" = some (.ref fC))
    (GC : FnOk P w K mg base CX0 2 fC fdC ["book", "many"] (spChanges K)) (FT : Fun K "turned_to" "turned_to" sTurned fT fdT) (bT : Binds K fdT ["book", "stand", "change"] []) (gT : mg "turned_to" = some (.ref fT))
    (mt : mg "tuple" = none) : FnOk P w K mg base CX0 3 f fd ["book", "many", "ways", "now"] (spNext P w K) := by
  have GT := ok_turned (P := P) (w := w) (base := base) FT mt
  refine F.ok scNext (fun vs H Q E h => ?_) (fun cdv A outer s H vs Q E hr h => ?_)
  · obtain ⟨x, d, l, us, b, FF, n, L, m, k, D, lay, rfl, _⟩ := h
    rfl
  obtain ⟨x, d, l, us, b, FF, n, L, m, k, D, lay, rfl, hx, W, h1, h5, hB, hk, dic, hl, hus, LP, q⟩ := h
  have hu : (cxOf CX0 P w K mg base nNext "next_stands" (defScope sNext) f cdv A outer s H E).nox.A.units + 64 < cLine := hr.units
  refine ⟨_, pss_cons (ps_set (i := 4) scNext.nd rfl (Or.inl rfl) (pe_lst pa_nil))
    (pss_cons (ps_for PassesOwn.never rfl (pi_list (pv 3)) (pg_name (i := 5) scNext.nd rfl (Or.inl rfl))
      (pss_one (ps_for PassesOwn.never rfl (pi_list (pe_call GC hr (by rfl) gC FC.kp bC .nil pass0 (pa_cons (pv 0) (pa_cons (pv 1) pa_nil)))) (pg_name (i := 6) scNext.nd rfl (Or.inl rfl))
        (pss_cons (ps_set (i := 7) scNext.nd rfl (Or.inl rfl) (pe_call GT (hr.mono (by decide)) (by rfl) gT FT.kp bT .nil pass0 (pa_cons (pv 0) (pa_cons (pv 5) (pa_cons (pv 6) pa_nil)))))
          (pss_one (ps_if (pt_cmp (pc_notinN hu (pv 7) (pv 2)) (by rfl))
            (pss_cons (ps_putN hu (pv 2) (pv 7) (pe_op op_catD (pe_getN hu (pv 2) (pv 5) (fun _ _ => rfl)) (pe_tup (pa_cons (pv 6) pa_nil))))
              (pss_one (ps_expr (pe_bm PySem.F.plainAttrs_list PySem.F.slot_list_append PySem.F.type_list_append mt_append (pv 4) (pa_cons (pv 7) pa_nil))))) pss_nil))))))
    (pss_one (ps_ret (pv 4)))), ?_⟩
  rw [show L2.start nNext [x, V.int ((m : Nat) : Int), V.ref d, V.ref l] = [some x, some (V.int ((m : Nat) : Int)), some (V.ref d), some (V.ref l), none, none, none, none] from rfl]
  -- the mathematics of it
  have lus := hus.length
  rw [List.length_map, List.length_map] at lus
  have inD : ∀ p, p ∈ lay → p ∈ D := fun p hp => by
    have z := (LP.top p.1 p.2).mp hp
    exact (LP.all p.1 p.2).mpr ⟨z.1, by omega⟩
  have okS : ∀ i j s, s ∈ keys (D ++ addF (keys D) (candsTo b L m lay i j)) → StOk FF n m s := fun i j s hs => by
    rw [keys_app] at hs
    rcases List.mem_append.mp hs with hs | hs
    · obtain ⟨u, hu'⟩ := mem_keys.mp hs
      exact best_ok W ((LP.all s u).mp hu').1
    · obtain ⟨u, hu'⟩ := mem_keys.mp hs
      obtain ⟨p, c, hp, hc, e⟩ := mem_candsTo ((addF_sub _ _).subset hu')
      have hc' := mem_chs.mp hc
      have e' : s = turn b p.1 c := e
      rw [e']
      exact turn_ok W (best_ok W ((LP.top p.1 p.2).mp hp).1) hc'.1 hc'.2
  have few : ∀ i j, (D ++ addF (keys D) (candsTo b L m lay i j)).length ≤ 900 := fun i j => by
    have z := few_stds (keys_addF_nodup LP.nodup (candsTo b L m lay i j)) (okS i j)
    rw [List.length_map] at z
    omega
  have ld : l ≠ d := by
    obtain ⟨φ, e⟩ := dic.some
    exact ne_of hl e (fun z => nomatch z)
  have tkH : ∀ {H' : Hp}, But (fun a => a = d) H H' → Tk H H' := fun hb => .but hb fun a e => by rw [e]; exact dic.notup
  -- found = []
  refine ⟨Nat.zero_le _, fun p0 np0 => ?_⟩
  have p0d : p0 ≠ d := fun e => by
    obtain ⟨φ, z⟩ := dic.some
    rw [← e, np0] at z
    cases z
  have s0 : Same H (upd H p0 (.lst [])) := same_new np0
  refine ⟨_, rfl, l, rfl, ⟨us, .inl (.inl (s0 _ _ hl))⟩, ?_⟩
  refine for_it (walk_list (xs := us)) (fun i σ H6 => ∃ y5 y6 y7, σ = [some x, some (V.int ((m : Nat) : Int)), some (V.ref d), some (V.ref l), some (V.ref p0), y5, y6, y7] ∧ NS P w K H d p0 D (addF (keys D) (candsTo b L m lay i 0)) H6) ?_ (fun i σ H6 _ hp => ?_) (fun i v σ H6 H6' hi hp hyv => ?_) (fun σ H6 hp => ?_)
  · refine ⟨none, none, none, rfl, .same s0, ?_, [], upd_same, ?_⟩
    · have e : addF (keys D) (candsTo b L m lay 0 0) = [] := by
        rw [candsTo_zero]
        rfl
      rw [e, List.append_nil]
      exact dic.same s0
    · have e : addF (keys D) (candsTo b L m lay 0 0) = [] := by
        rw [candsTo_zero]
        rfl
      rw [e]
      exact .nil
  · obtain ⟨y5, y6, y7, rfl, ns⟩ := hp
    exact .inl (.inl (ns.but _ _ ld hl))
  · obtain ⟨y5, y6, y7, rfl, ns⟩ := hp
    obtain ⟨rfl, hv⟩ := hyv
    obtain ⟨e, he, hve⟩ := hus.getV hv
    obtain ⟨p, hp⟩ := get_some (l := lay) (i := i) (by omega)
    rw [List.getElem?_map, List.getElem?_map, hp] at he
    obtain rfl : sD p.1 = e := Option.some.inj he
    have pin := List.mem_of_getElem? hp
    have pk := (LP.top p.1 p.2).mp pin
    have pS := best_ok W pk.1
    -- for change in changes_for(book, many)
    refine ⟨_, rfl, _, rfl, x, b, FF, n, L, m, rfl, hx.tk (tkH ns.but), W, h5, fun pc cs H7 s7 npc hpc hcs => ⟨pc, rfl, ⟨cs, .inl (.inl hpc)⟩, ?_⟩⟩
    obtain ⟨us6, hp6, _⟩ := ns.lst
    obtain ⟨φ6, hd6⟩ := ns.dic.some
    have pcp : pc ≠ p0 := fun e => by rw [e, hp6] at npc; cases npc
    have pcd : pc ≠ d := fun e => by rw [e, hd6] at npc; cases npc
    have lcs := hcs.length
    rw [List.length_map] at lcs
    refine for_it (walk_list (xs := cs)) (fun j σ H8 => ∃ y6 y7, σ = [some x, some (V.int ((m : Nat) : Int)), some (V.ref d), some (V.ref l), some (V.ref p0), some v, y6, y7] ∧ NS P w K H d p0 D (addF (keys D) (candsTo b L m lay i j)) H8 ∧ H8 pc = some (.lst cs) ∧ Tk H7 H8) ?_ (fun j σ H8 _ hq => ?_) (fun j v6 σ H8 H8' hj hq hyv => ?_) (fun σ H8 hq => ?_)
    · exact ⟨y6, y7, rfl, ns.on s7, hpc, .refl _⟩
    · obtain ⟨_, _, rfl, _, e8, _⟩ := hq
      exact .inl (.inl e8)
    · obtain ⟨y6, y7, rfl, ns8, e8, t8⟩ := hq
      obtain ⟨rfl, hv6⟩ := hyv
      obtain ⟨e, he, hv6d⟩ := hcs.getV hv6
      obtain ⟨c, hc⟩ := get_some (l := chs L m) (i := j) (by omega)
      rw [List.getElem?_map, hc] at he
      obtain rfl : cD c = e := Option.some.inj he
      have hcc := mem_chs.mp (List.mem_of_getElem? hc)
      refine ⟨_, rfl, _, rfl, _, rfl, x, v, v6, b, FF, n, L, m, p.1, c, rfl, hx.tk (tkH ns8.but), hve.tk (tkH ns8.but), hv6d.tk t8, W, pS, by omega, hcc.1, hcc.2, fun v7 H9 s9 h9 => ?_⟩
      have ns9 := ns8.on s9
      have t9 := t8.trans (.same s9)
      have fj := few i j
      refine ⟨_, rfl, _, rfl, d, _, turn b p.1 c, rfl, ns9.dic.r, h9, _, rfl, ?_⟩
      have hsn := addF_snoc D (candsTo b L m lay i j) (turn b p.1 c, p.2 ++ [c])
      rw [← candsTo_succ hp hc] at hsn
      refine ite2 (fun hc' => ?_) (fun hc' => ?_)
      · have hm : turn b p.1 c ∉ keys (D ++ addF (keys D) (candsTo b L m lay i j)) := by simpa using hc'
        rw [if_neg hm] at hsn
        have lk : look (D ++ addF (keys D) (candsTo b L m lay i j)) p.1 = some p.2 := look_some (keys_addF_nodup LP.nodup _) (List.mem_append_left _ (inD p pin))
        refine ⟨_, rfl, _, rfl, d, _, p.1, p.2, rfl, ns9.dic.r, hve.tk ((tkH ns8.but).trans (.same s9)), lk, fun vw hvw => ?_⟩
        refine ⟨_, rfl, (by show 1 ≤ sizeLine; decide), fun t nt => ?_⟩
        have s10 := same_new (o := .tup [v6]) nt
        refine ⟨p.2.map cD, [cD c], hvw.sm s10, .tup (.inl (.inl upd_same)) (.one (hv6d.tk (t9.trans (.same s10)))), by rw [List.length_map, pk.2]; show k + 1 ≤ 100000; omega, fun vn H11 s11 h11 => ?_⟩
        have ns11 := (ns9.on s10).on s11
        have h9' := (h9.sm s10).sm s11
        rw [← wD_snoc] at h11
        refine ⟨_, rfl, _, rfl, d, _, turn b p.1 c, p.2 ++ [c], rfl, ns11.dic, by omega, h9', h11, fun H12 to12 => ?_⟩
        obtain ⟨o12, rfl⟩ := to12.ex
        obtain ⟨us0, hp0, hus0⟩ := ns11.lst
        have t12 : Tk H11 (upd H11 d o12) := .upd ns11.dic.notup
        have hp0' : (upd H11 d o12) p0 = some (.lst us0) := by rw [upd_ne p0d]; exact hp0
        have l0 := hus0.length
        rw [List.length_map, List.length_map] at l0
        have lf := fj
        rw [List.length_append] at lf
        refine ⟨_, rfl, .inl ⟨rfl, _, .inl (.inl hp0')⟩, _, rfl, p0, us0, v7, rfl, rfl, hp0', small1 (by omega), ?_⟩
        have t13 : Tk (upd H11 d o12) (upd (upd H11 d o12) p0 (.lst (us0 ++ [v7]))) := .upd (noTup_lst hp0')
        refine ⟨_, _, rfl, ⟨fun a o na e => ?_, ?_, us0 ++ [v7], upd_same, ?_⟩, ?_, ((((t9.trans (.same s10)).trans (.same s11)).trans t12).trans t13)⟩
        · rw [upd_ne (ne_of_none e np0), upd_ne na]
          exact ns11.but a o na e
        · rw [hsn, ← List.append_assoc]
          have z := to12.at'
          have es : sto (D ++ addF (keys D) (candsTo b L m lay i j)) (turn b p.1 c) (p.2 ++ [c]) = D ++ addF (keys D) (candsTo b L m lay i j) ++ [(turn b p.1 c, p.2 ++ [c])] := if_neg hm
          rw [es] at z
          exact z.keep (upd_ne p0d.symm) t13
        · rw [hsn, keys_app, List.map_append]
          exact ((hus0.tk t12).append (.one (h9'.tk t12))).tk t13
        · rw [upd_ne pcp, upd_ne pcd]
          exact s11 _ _ (s10 _ _ (s9 _ _ e8))
      · have hm : turn b p.1 c ∈ keys (D ++ addF (keys D) (candsTo b L m lay i j)) := Decidable.byContradiction fun hn => hc' (by
          show (!decide (turn b p.1 c ∈ keys (D ++ addF (keys D) (candsTo b L m lay i j)))) = true
          rw [decide_eq_false hn]
          rfl)
        rw [if_pos hm] at hsn
        exact ⟨_, _, rfl, by rw [hsn]; exact ns9, s9 _ _ e8, t9⟩
    · obtain ⟨y6, y7, rfl, ns8, e8, t8⟩ := hq
      rw [lcs, candsTo_all hp, ← candsTo_zero] at ns8
      exact ⟨_, _, _, rfl, ns8⟩
  · obtain ⟨y5, y6, y7, rfl, ns⟩ := hp
    rw [lus, candsTo_zero, List.take_length] at ns
    obtain ⟨us6, hp6, hus6⟩ := ns.lst
    exact ⟨_, rfl, q p0 us6 H6 ns.but np0 hp6 ns.dic hus6⟩
end
end K12

set_option Elab.async false
set_option linter.all false
set_option maxRecDepth 100000
set_option maxHeartbeats 4000000
namespace K12
open PySem PySem.Spec PyProof.Rows L2
/-! ### a list against [] -/
theorem lay_nDs : ∀ ns : List Nat, PyData.canLayAll0 (ns.map nD) = true
  | [] => by rw [List.map_nil, PyData.canLayAll0]
  | n :: ns => by
    rw [List.map_cons, PyData.canLayAll0, lay_nDs ns]
    rfl
theorem lay_sD (s : Std) : (sD s).canLay0 = true := by
  show PyData.canLay0 (.tuple [.int s.1, .tuple (s.2.map nD)]) = true
  rw [PyData.canLay0, PyData.canLayAll0, PyData.canLayAll0, PyData.canLayAll0, PyData.canLay0, PyData.canLay0, lay_nDs]
  rfl
theorem lay_cDs : ∀ u : Way, PyData.canLayAll0 (u.map cD) = true
  | [] => by rw [List.map_nil, PyData.canLayAll0]
  | c :: u => by
    rw [List.map_cons, PyData.canLayAll0, lay_cDs u]
    rfl
theorem lay_wD (u : Way) : (wD u).canLay0 = true := by
  show PyData.canLay0 (.tuple (u.map cD)) = true
  rw [PyData.canLay0, lay_cDs]
/-- a way and its stand -/
def wsD (p : Std × Way) : PyData := .tuple [wD p.2, sD p.1]
theorem lay_wsD (p : Std × Way) : (wsD p).canLay0 = true := by
  show PyData.canLay0 (.tuple [wD p.2, sD p.1]) = true
  rw [PyData.canLay0, PyData.canLayAll0, PyData.canLayAll0, PyData.canLayAll0, lay_wD, lay_sD]
  rfl
theorem depth_wsD (p : Std × Way) : (wsD p).depth ≤ 4 := by
  have h1 := depth_wD p.2
  have h2 := depth_sD p.1
  show PyData.depth (.tuple [wD p.2, sD p.1]) ≤ 4
  rw [PyData.depth, PyData.depthAll, PyData.depthAll, PyData.depthAll]
  omega
theorem shaped_list {β : Type} {enc : β → PyData} (h1 : ∀ b, (enc b).canLay0 = true) (h2 : ∀ b, (enc b).depth ≤ 4) (l : List β) : SeqAt.shaped (.list (l.map enc)) = true := by
  have a : ∀ l : List β, PyData.canLayAll0 (l.map enc) = true ∧ PyData.depthAll (l.map enc) ≤ 4 := by
    intro l
    induction l with
    | nil => exact ⟨by rw [List.map_nil, PyData.canLayAll0], by rw [List.map_nil, PyData.depthAll]; exact Nat.zero_le _⟩
    | cons b l ih =>
      have hd := h2 b
      refine ⟨by rw [List.map_cons, PyData.canLayAll0, h1 b, ih.1]; rfl, ?_⟩
      rw [List.map_cons, PyData.depthAll]
      have := ih.2
      omega
  have z := a l
  unfold SeqAt.shaped
  rw [PyData.canLay0, z.1, PyData.depth]
  have := z.2
  rw [Bool.true_and]
  exact decide_eq_true (by omega)
theorem eqv_nil {β : Type} (enc : β → PyData) (l : List β) : PyData.eqv (.list (l.map enc)) (.list []) = l.isEmpty := by
  cases l with
  | nil => rw [List.map_nil, PyData.eqv, PyData.eqvAll]; rfl
  | cons b l => rw [List.map_cons, PyData.eqv, PyData.eqvAll]; rfl
def rNeL {β : Type} (enc : β → PyData) (K : PySem.W.Frag) : R2 := fun x y H Q => ∃ (l l2 : Addr) (us : List V) (bs : List β), x = .ref l ∧ y = .ref l2 ∧ H l = some (.lst us) ∧ Dqs K H NoL us (bs.map enc) ∧ H l2 = some (.lst []) ∧ Q (.bl (!bs.isEmpty)) H
def rEqL {β : Type} (enc : β → PyData) (K : PySem.W.Frag) : R2 := fun x y H Q => ∃ (l l2 : Addr) (us : List V) (bs : List β), x = .ref l ∧ y = .ref l2 ∧ H l = some (.lst us) ∧ Dqs K H NoL us (bs.map enc) ∧ H l2 = some (.lst []) ∧ Q (.bl bs.isEmpty) H
theorem op_neL {X : Cx} {β : Type} {enc : β → PyData} (hu : X.A.units + 64 < cLine) (h1 : ∀ b, (enc b).canLay0 = true) (h2 : ∀ b, (enc b).depth ≤ 4) : OpR X (compareOp .NotEq) (rNeL enc X.K) := by
  intro pins s σ H x y v u Q I rx ry h
  obtain ⟨l, l2, us, bs, rfl, rfl, hl, hd, hn, q⟩ := h
  refine op_neD hu pins s σ H _ _ v u Q I rx ry ⟨.list (bs.map enc), .list [], .lst (.inl (.inl hl)) hd.dp, .lst (.inl (.inl hn)) .nil, shaped_list h1 h2 bs, rfl, ?_⟩
  rw [eqv_nil]
  exact q
theorem op_eqL {X : Cx} {β : Type} {enc : β → PyData} (hu : X.A.units + 64 < cLine) (h1 : ∀ b, (enc b).canLay0 = true) (h2 : ∀ b, (enc b).depth ≤ 4) : OpR X (compareOp .Eq) (rEqL enc X.K) := by
  intro pins s σ H x y v u Q I rx ry h
  obtain ⟨l, l2, us, bs, rfl, rfl, hl, hd, hn, q⟩ := h
  refine op_eqD hu pins s σ H _ _ v u Q I rx ry ⟨.list (bs.map enc), .list [], .lst (.inl (.inl hl)) hd.dp, .lst (.inl (.inl hn)) .nil, shaped_list h1 h2 bs, rfl, ?_⟩
  rw [eqv_nil]
  exact q
/-! ### stands_come -/
abbrev sCome : Stmt := topS 15
abbrev nCome : List Str := ["book", "many", "own", "now", "ways"]
theorem scCome : FnScope nCome ["book", "many"] (defScope sCome) := ⟨rfl, rfl, rfl, by decide +kernel, rfl, by decide +kernel, by decide +kernel⟩
/-- a book as it is handed in: hard or soft -/
def IsBook (d : PyData) (b : Book) : Prop := okD 9 d = true ∧ hardD 9 d = bD b
def spCome (K : PySem.W.Frag) : Sp := fun vs H Q _ => ∃ x d N b F n L m, vs = [x, .int ((m : Nat) : Int)] ∧ Dq K H N x d ∧ IsBook d b ∧ b.WF F n L ∧ 1 ≤ m ∧ m ≤ 5 ∧ F * n ^ m ≤ 900 ∧
  ∀ p us D H', Same H H' → H p = none → H' p = some (.lst us) → Full (turn b) (chs L m) (first b m) D → D.length ≤ 900 → Dqs K H' NoL us ((srt (keys D)).map sD) → Q (.ref p) H'
section
variable {P : Program} {w : World} {K : PySem.W.Frag} {mg : Str → Option Value} {base : Heap}
theorem ok_come {f fU fB fN : Addr} {fd fdU fdB fdN : FuncData} {tM : Tok} (F : Fun K "stands_come" "stands_come" sCome f fd) (FU : Fun K "tuple_of" "tuple_of" sTupleOf fU fdU) (bU : Binds K fdU ["thing"] []) (gU : mg "tuple_of" = some (.ref fU))
    (GU : FnOk P w K mg base CX0 10 fU fdU ["thing"] (spTup K 10)) (FB : Fun K "begun" "begun" sBegun fB fdB) (bB : Binds K fdB ["book", "many"] []) (gB : mg "begun" = some (.ref fB))
    (FN : Fun K "next_stands" "next_stands" sNext fN fdN) (bN : Binds K fdN ["book", "many", "ways", "now"] []) (gN : mg "next_stands" = some (.ref fN)) (GN : FnOk P w K mg base CX0 3 fN fdN ["book", "many", "ways", "now"] (spNext P w K))
    (mlen : mg "len" = none) (ms : mg "sorted" = none) (gM : mg "MOST_STANDS" = some (.int 2000 tM)) : FnOk P w K mg base CX0 11 f fd ["book", "many"] (spCome K) := by
  have GB := ok_begun (P := P) (w := w) (mg := mg) (base := base) FB
  refine F.ok scCome (fun vs H Q E h => ?_) (fun cdv A outer s H vs Q E hr h => ?_)
  · obtain ⟨x, d, N, b, FF, n, L, m, rfl, _⟩ := h
    rfl
  obtain ⟨x, d, N, b, FF, n, L, m, rfl, hx, ⟨hok, hhd⟩, W, h1, h5, hB, q⟩ := h
  have hu : (cxOf CX0 P w K mg base nCome "stands_come" (defScope sCome) f cdv A outer s H E).nox.A.units + 64 < cLine := hr.units
  refine ⟨_, pss_cons (ps_set (i := 2) scCome.nd rfl (Or.inl rfl) (pe_call GU hr (by rfl) gU FU.kp bU .nil pass0 (pa_cons (pv 0) pa_nil)))
    (pss_cons (ps_set (i := 3) scCome.nd rfl (Or.inl rfl) (pe_lst (pa_cons (pe_call GB (hr.mono (by decide)) (by rfl) gB FB.kp bB .nil pass0 (pa_cons (pv 2) (pa_cons (pv 1) pa_nil))) pa_nil)))
    (pss_cons (ps_set (i := 4) scCome.nd rfl (Or.inl rfl) (pe_oneN hu (pe_ix ix_list (pv 3) pe_int (fun _ _ => rfl)) (pe_tup pa_nil)))
    (pss_cons (ps_while PassesOwn.never (pt_cmpR (op_neL hu lay_sD (fun s => Nat.le_succ_of_le (depth_sD s))) (pv 3) (pe_lst pa_nil) (nomark _))
      (pss_cons (ps_set (i := 3) scCome.nd rfl (Or.inl rfl) (pe_call GN (hr.mono (by decide)) (by rfl) gN FN.kp bN .nil pass0 (pa_cons (pv 2) (pa_cons (pv 1) (pa_cons (pv 4) (pa_cons (pv 3) pa_nil))))))
        (pss_one (ps_if (pt_cmpR op_gt (pe_callB call_lenN (by rfl) mlen PySem.boot_len (pa_cons (pv 4) pa_nil)) (pe_glob (v := .int 2000) (by rfl) gM ⟨_, rfl⟩) (nomark _)) pss_never pss_nil))))
    (pss_one (ps_ret (pe_callB (call_sortedN rfl hu) (by rfl) ms boot_sorted (pa_cons (pv 4) pa_nil))))))), ?_⟩
  rw [show L2.start nCome [x, V.int ((m : Nat) : Int)] = [some x, some (V.int ((m : Nat) : Int)), none, none, none] from rfl]
  -- own = tuple_of(book); now = [begun(own, many)]
  refine ⟨_, rfl, x, d, N, rfl, hx, hok, fun own H2 s2 hown => ?_⟩
  rw [hhd] at hown
  refine ⟨_, rfl, _, rfl, own, b, m, rfl, hown, h1, by omega, fun st0 H3 s3 hst => ⟨(by show 1 ≤ sizeLine; decide), fun l0 nl0 => ?_⟩⟩
  have s4 : Same H3 (upd H3 l0 (.lst [st0])) := same_new nl0
  -- ways = {now[0]: ()}
  refine fun dd H5 ndd to5 => ?_
  obtain ⟨o5, rfl⟩ := to5.ex
  have s5 : Same (upd H3 l0 (.lst [st0])) (upd (upd H3 l0 (.lst [st0])) dd o5) := same_new ndd
  have hl5 : (upd (upd H3 l0 (.lst [st0])) dd o5) l0 = some (.lst [st0]) := s5 _ _ upd_same
  refine ⟨_, rfl, l0, _, 0, st0, rfl, rfl, .inl (.inl hl5), atI_nat (j := 0) rfl, Nat.zero_le _, fun t0 nt0 => ?_⟩
  have s6 := same_new (o := .tup []) nt0
  refine ⟨to5.at'.same s6, first b m, [], ((hst.sm s4).sm s5).sm s6, .tup (.inl (.inl upd_same)) .nil, fun H7 to7 => ?_⟩
  obtain ⟨o7, rfl⟩ := to7.ex
  have t7 := Tk.upd (o := o7) (to5.at'.same s6).notup
  have nH : H dd = none := ((s2.trans s3).trans s4).free ndd
  have l0d : l0 ≠ dd := fun e => by rw [← e, upd_same] at ndd; cases ndd
  -- the laps
  refine ⟨fun μ σ H8 => ∃ k D lay l8 us, μ = 2 * (1000 - D.length) + (if lay = [] then 0 else 1) ∧ σ = [some x, some (V.int ((m : Nat) : Int)), some own, some (V.ref l8), some (V.ref dd)] ∧ Same H H8 ∧ Dq K H8 NoL own (bD b) ∧ DicAt P w K H8 dd D ∧
    H8 l8 = some (.lst us) ∧ Dqs K H8 NoL us ((keys lay).map sD) ∧ LapP (turn b) (chs L m) (first b m) k D lay ∧ (lay ≠ [] → k < D.length), ⟨_, 0, [(first b m, [])], [(first b m, [])], l0, [st0], rfl, rfl, ?_, ?_, to7.at', ?_, ?_, .first, fun _ => Nat.zero_lt_one⟩, ?_⟩
  · intro a o e
    rw [upd_ne (ne_of_none e nH)]
    exact (((((s2.trans s3).trans s4).trans s5).trans s6)) a o e
  · exact ((((hown.sm s3).sm s4).sm s5).sm s6).tk t7
  · rw [upd_ne l0d]
    exact s6 _ _ hl5
  · exact .one (((((hst.sm s4).sm s5).sm s6)).tk t7)
  rintro μ σ H8 ⟨k, D, lay, l8, us, rfl, rfl, s8, ho8, dic, hl8, hus, LP, hk⟩
  have hD := lap_few W LP.toLap
  refine ⟨_, rfl, Nat.zero_le _, fun l9 nl9 => ?_⟩
  have s9 : Same H8 (upd H8 l9 (.lst [])) := same_new nl9
  refine ⟨l8, l9, us, keys lay, rfl, rfl, s9 _ _ hl8, hus.sm s9, upd_same, _, rfl, ?_⟩
  cases hlay : lay with
  | nil =>
    subst hlay
    show if false = true then _ else _
    refine iteF ?_
    refine ⟨_, rfl, dd, D, rfl, (dic.same s9).r, fun p vs np hvs => ?_⟩
    have s10 := (s8.trans s9).trans (same_new (o := .lst vs) np)
    exact q p vs D _ s10 ((s8.trans s9).free np) upd_same ⟨LP.nodup, LP.toLap.full⟩ (by omega) (hvs.sm (same_new np))
  | cons p0 lay' =>
    have hne : lay ≠ [] := fun z => by rw [z] at hlay; cases hlay
    have hk' := hk hne
    rw [← hlay]
    have he : (!(keys lay).isEmpty) = true := by rw [hlay]; rfl
    show if (!(keys lay).isEmpty) = true then _ else _
    rw [he]
    refine iteT ⟨fun σ' H' => ∃ μ', μ' < 2 * (1000 - D.length) + (if lay = [] then 0 else 1) ∧ ∃ k D lay l8 us, μ' = 2 * (1000 - D.length) + (if lay = [] then 0 else 1) ∧ σ' = [some x, some (V.int ((m : Nat) : Int)), some own, some (V.ref l8), some (V.ref dd)] ∧ Same H H' ∧ Dq K H' NoL own (bD b) ∧ DicAt P w K H' dd D ∧
      H' l8 = some (.lst us) ∧ Dqs K H' NoL us ((keys lay).map sD) ∧ LapP (turn b) (chs L m) (first b m) k D lay ∧ (lay ≠ [] → k < D.length), fun σ' H' h => h, ?_⟩
    refine ⟨_, rfl, _, rfl, _, rfl, _, rfl, own, dd, l8, us, b, FF, n, L, m, k, D, lay, rfl, ho8.sm s9, W, h1, h5, hB, by omega, dic.same s9, s9 _ _ hl8, hus.sm s9, LP, fun p fs H10 b10 np hp dic10 hfs => ?_⟩
    have LP' := LP.go (chs_up L m)
    have hD' := lap_few W LP'.toLap
    refine ⟨_, rfl, dd, _, rfl, dic10.r, _, _, rfl, rfl, _, rfl, ?_⟩
    have hnot : decide ((2000 : Int) < ((D ++ addF (keys D) (cands (turn b) (chs L m) lay)).length : Nat)) = false := decide_eq_false (by omega)
    show if decide ((2000 : Int) < ((D ++ addF (keys D) (cands (turn b) (chs L m) lay)).length : Nat)) = true then _ else _
    rw [hnot]
    refine iteF ?_
    have t10 : Tk (upd H8 l9 (.lst [])) H10 := .but b10 fun a e => by rw [e]; exact (dic.same s9).notup
    have lapp := List.length_append (as := D) (bs := addF (keys D) (cands (turn b) (chs L m) lay))
    refine ⟨2 * (1000 - (D ++ addF (keys D) (cands (turn b) (chs L m) lay)).length) + (if addF (keys D) (cands (turn b) (chs L m) lay) = [] then 0 else 1), ?_, k + 1, D ++ addF (keys D) (cands (turn b) (chs L m) lay), addF (keys D) (cands (turn b) (chs L m) lay), p, fs, rfl, rfl, fun a o e => ?_, (ho8.sm s9).tk t10, dic10, hp, hfs, LP', fun hF => ?_⟩
    · rw [if_neg hne]
      by_cases hF : addF (keys D) (cands (turn b) (chs L m) lay) = []
      · rw [if_pos hF, hF, List.append_nil]
        omega
      · rw [if_neg hF]
        have := List.length_pos_iff.mpr hF
        omega
    · exact b10 a o (fun z => by rw [z, nH] at e; cases e) ((s8.trans s9) a o e)
    · have := List.length_pos_iff.mpr hF
      omega
end
end K12

set_option Elab.async false
set_option linter.all false
set_option maxRecDepth 100000
set_option maxHeartbeats 4000000
namespace K12
open PySem PySem.Spec PyProof.Rows L2
/-- X(), X an own exception class without own __init__ -/
theorem pmk_own0 {X : Cx} {pos : Pos} {C : Addr} {bmB : List Value} {B newId initId : String} {x : Str} {p : Pos} (F : ExcBaseFacts B newId initId bmB) (q : PySem.W.excIn X.K C bmB newId = true) (gC : X.mg x = some (.ref C))
    (kC : PySem.W.keepIn X.K (.ref C) = true) (r : Raises X (.ref C)) (hg : Gl X x) (hdb : (x == ("__debug__" : Str)) = false := by decide) :
    PMk X (.Call (.Name x p) [] [] pos) (fun _ H Q => Q (.ref C) none H) := by
  intro pins s σ H Q I h
  refine wpAny_Call_Name_kw (ld_glob I hg gC ?_ hdb)
  refine PySem.W.callWith_K0 I.kIn kC ?_
  show wpAny _ _ (call (.ref C) []) _ _ _
  obtain ⟨bm, N, nm, qn, bs, hdct, sn, sub, ab, col, dd, k0, k1, k2, k3, k5, mN, hC, hN, hni, T⟩ := exc_obj I.kIn q
  refine wpAny_call_exc_subT F T hC hN hni (fun h' e hm => ?_) (Nat.zero_le _)
  exact mk_of I hm r h (I.hok.gone hm.new)
/-- what the top holds of CanNot -/
structure TxC (K : PySem.W.Frag) (mg : Str → Option Value) (C : Addr) : Prop where
  gP : mg "CanNot" = some (.ref C)
  xP : PySem.W.excIn K C [.type "ValueError", .type "Exception", .type "BaseException", .type "object"] "ValueError.__new__" = true
  kP : PySem.W.keepIn K (.ref C) = true
  bP : PySem.W.subIn K (.ref C) (.type "BaseException") = some true
  tP : PySem.W.typeIn K (.ref C) = some (.type "type")
  eP : PySem.W.exmOne K (.ref C) (.ref C) = some true
/-! ### history_to -/
abbrev sHist : Stmt := topS 16
abbrev nHist : List Str := ["book", "stand", "own", "goal", "many", "now", "ways"]
theorem scHist : FnScope nHist ["book", "stand"] (defScope sHist) := ⟨rfl, rfl, rfl, by decide +kernel, rfl, by decide +kernel, by decide +kernel⟩
/-- a stand as it is handed in: hard or soft -/
def IsStd (d : PyData) (s : Std) : Prop := okD 9 d = true ∧ hardD 9 d = sD s
def spHist (K : PySem.W.Frag) (C : Addr) : Sp := fun vs H Q E => ∃ x y d g N N' b s F n L, vs = [x, y] ∧ Dq K H N x d ∧ Dq K H N' y g ∧ IsBook d b ∧ IsStd g s ∧ b.WF F n L ∧ 1 ≤ s.2.length ∧ s.2.length ≤ 5 ∧ F * n ^ s.2.length ≤ 900 ∧
  (∀ u, Best (turn b) (chs L s.2.length) (first b s.2.length) s u → ∀ v H', Same H H' → Dq K H' NoL v (hD s.2.length u) → Q v H') ∧
  ((∀ u, ¬ Best (turn b) (chs L s.2.length) (first b s.2.length) s u) → ∀ H', Same H H' → E (.ref C) none H')
section
variable {P : Program} {w : World} {K : PySem.W.Frag} {mg : Str → Option Value} {base : Heap}
theorem ok_hist {f fU fB fN C : Addr} {fd fdU fdB fdN : FuncData} {tM : Tok} (F : Fun K "history_to" "history_to" sHist f fd) (T : TxC K mg C) (FU : Fun K "tuple_of" "tuple_of" sTupleOf fU fdU) (bU : Binds K fdU ["thing"] []) (gU : mg "tuple_of" = some (.ref fU))
    (GU : FnOk P w K mg base CX0 10 fU fdU ["thing"] (spTup K 10)) (FB : Fun K "begun" "begun" sBegun fB fdB) (bB : Binds K fdB ["book", "many"] []) (gB : mg "begun" = some (.ref fB))
    (FN : Fun K "next_stands" "next_stands" sNext fN fdN) (bN : Binds K fdN ["book", "many", "ways", "now"] []) (gN : mg "next_stands" = some (.ref fN)) (GN : FnOk P w K mg base CX0 3 fN fdN ["book", "many", "ways", "now"] (spNext P w K))
    (mlen : mg "len" = none) (gM : mg "MOST_STANDS" = some (.int 2000 tM)) : FnOk P w K mg base (L2.CX P w) 11 f fd ["book", "stand"] (spHist K C) := by
  have GB := ok_begun (P := P) (w := w) (mg := mg) (base := base) FB
  refine F.okX scHist (fun vs H Q E h => ?_) (fun cdv A outer s H vs Q E hr h => ?_)
  · obtain ⟨x, y, d, g, N, N', b, s, FF, n, L, rfl, _⟩ := h
    rfl
  obtain ⟨x, y, d, g, N, N', b, st, FF, n, L, rfl, hx, hy, ⟨hok, hhd⟩, ⟨gok, ghd⟩, W, h1, h5, hB, qY, qN⟩ := h
  have hu : (cxOf (L2.CX P w) P w K mg base nHist "history_to" (defScope sHist) f cdv A outer s H E).A.units + 64 < cLine := hr.units
  refine ⟨_, pss_cons (ps_par (i := 2) (j := 3) rfl scHist.nd rfl rfl (by decide) rfl rfl (pa_cons (pe_call GU hr (by rfl) gU FU.kp bU .nil pass0 (pa_cons (pv 0) pa_nil)) (pa_cons (pe_call GU hr (by rfl) gU FU.kp bU .nil pass0 (pa_cons (pv 1) pa_nil)) pa_nil)) rfl)
    (pss_cons (ps_set (i := 4) scHist.nd rfl (Or.inl rfl) (pe_callB call_len_seq (by rfl) mlen PySem.boot_len (pa_cons (pe_ix ix_D (pv 3) pe_int (fun _ _ => rfl)) pa_nil)))
    (pss_cons (ps_set (i := 5) scHist.nd rfl (Or.inl rfl) (pe_lst (pa_cons (pe_call GB (hr.mono (by decide)) (by rfl) gB FB.kp bB .nil pass0 (pa_cons (pv 2) (pa_cons (pv 4) pa_nil))) pa_nil)))
    (pss_cons (ps_set (i := 6) scHist.nd rfl (Or.inl rfl) (pe_oneN hu (pe_ix ix_list (pv 5) pe_int (fun _ _ => rfl)) (pe_tup pa_nil)))
    (pss_cons (ps_while (passes_of rfl) (pt_cmp (pc_notinN hu (pv 3) (pv 6)) (by rfl))
      (pss_cons (ps_if (pt_cmpR op_gt (pe_callB call_lenN (by rfl) mlen PySem.boot_len (pa_cons (pv 6) pa_nil)) (pe_glob (v := .int 2000) (by rfl) gM ⟨_, rfl⟩) (nomark _)) pss_never pss_nil)
      (pss_cons (ps_if (pt_cmpR (op_eqL hu lay_sD (fun s => Nat.le_succ_of_le (depth_sD s))) (pv 5) (pe_lst pa_nil) (nomark _)) (pss_one (ps_raise rfl (takes_of rfl rfl rfl rfl) (pmk_own0 PySem.F.excBase_ValueError T.xP T.gP T.kP (raises_own T.bP T.tP) rfl))) pss_nil)
      (pss_one (ps_set (i := 5) scHist.nd rfl (Or.inl rfl) (pe_call GN (hr.mono (by decide)) (by rfl) gN FN.kp bN .nil pass0 (pa_cons (pv 2) (pa_cons (pv 4) (pa_cons (pv 6) (pa_cons (pv 5) pa_nil))))))))))
    (pss_one (ps_ret (pe_tup (pa_cons (pv 4) (pa_cons (pe_getN hu (pv 6) (pv 3) (fun _ _ => rfl)) pa_nil))))))))), ?_⟩
  rw [show L2.start nHist [x, y] = [some x, some y, none, none, none, none, none] from rfl]
  -- own, goal = tuple_of(book), tuple_of(stand)
  refine ⟨_, rfl, x, d, N, rfl, hx, hok, fun own H2 s2 hown => ?_⟩
  rw [hhd] at hown
  refine ⟨_, rfl, y, g, N', rfl, hy.sm s2, gok, fun goal H3 s3 hgoal => ⟨own, goal, rfl, ?_⟩⟩
  rw [ghd] at hgoal
  have hown := hown.sm s3
  have s23 := s2.trans s3
  -- many = len(goal[1])
  refine ⟨_, rfl, _, 1, tD st.2, NoL, hgoal, rfl, rfl, fun v1 q1 => ?_⟩
  obtain ⟨ha, hs, rfl, hS, hDs⟩ := q1.tupI
  have lhs := hDs.length
  rw [List.length_map] at lhs
  refine ⟨ha, hs, rfl, .inr hS, ?_⟩
  rw [lhs]
  -- now = [begun(own, many)]
  obtain ⟨m, hm⟩ : ∃ m, m = st.2.length := ⟨_, rfl⟩
  rw [← hm] at h1 h5 hB qY qN ⊢
  refine ⟨_, rfl, _, rfl, own, b, m, rfl, hown, h1, by omega, fun st0 H4 s4 hst => ⟨(by show 1 ≤ sizeLine; decide), fun l0 nl0 => ?_⟩⟩
  have s5 : Same H4 (upd H4 l0 (.lst [st0])) := same_new nl0
  -- ways = {now[0]: ()}
  refine fun dd H5 ndd to5 => ?_
  obtain ⟨o5, rfl⟩ := to5.ex
  have s6 : Same (upd H4 l0 (.lst [st0])) (upd (upd H4 l0 (.lst [st0])) dd o5) := same_new ndd
  have hl5 : (upd (upd H4 l0 (.lst [st0])) dd o5) l0 = some (.lst [st0]) := s6 _ _ upd_same
  refine ⟨_, rfl, l0, _, 0, st0, rfl, rfl, .inl (.inl hl5), atI_nat (j := 0) rfl, Nat.zero_le _, fun t0 nt0 => ?_⟩
  have s7 := same_new (o := .tup []) nt0
  refine ⟨to5.at'.same s7, first b m, [], ((hst.sm s5).sm s6).sm s7, .tup (.inl (.inl upd_same)) .nil, fun H7 to7 => ?_⟩
  obtain ⟨o7, rfl⟩ := to7.ex
  have t7 := Tk.upd (o := o7) (to5.at'.same s7).notup
  have nH : H dd = none := ((s23.trans s4).trans s5).free ndd
  have l0d : l0 ≠ dd := fun e => by rw [← e, upd_same] at ndd; cases ndd
  -- the laps
  refine ⟨fun μ σ H8 => ∃ k D lay l8 us, μ = 2 * (1000 - D.length) + (if lay = [] then 0 else 1) ∧ σ = [some x, some y, some own, some goal, some (V.int ((m : Nat) : Int)), some (V.ref l8), some (V.ref dd)] ∧ Same H H8 ∧ Dq K H8 NoL own (bD b) ∧ Dq K H8 NoL goal (sD st) ∧ DicAt P w K H8 dd D ∧
    H8 l8 = some (.lst us) ∧ Dqs K H8 NoL us ((keys lay).map sD) ∧ LapP (turn b) (chs L m) (first b m) k D lay ∧ (lay ≠ [] → k < D.length), ⟨_, 0, [(first b m, [])], [(first b m, [])], l0, [st0], rfl, rfl, ?_, ?_, ?_, to7.at', ?_, ?_, .first, fun _ => Nat.zero_lt_one⟩, ?_⟩
  · intro a o e
    rw [upd_ne (ne_of_none e nH)]
    exact (((((s23.trans s4).trans s5).trans s6).trans s7)) a o e
  · exact ((((hown.sm s4).sm s5).sm s6).sm s7).tk t7
  · exact ((((hgoal.sm s4).sm s5).sm s6).sm s7).tk t7
  · rw [upd_ne l0d]
    exact s7 _ _ hl5
  · exact .one (((((hst.sm s5).sm s6).sm s7)).tk t7)
  rintro μ σ H8 ⟨k, D, lay, l8, us, rfl, rfl, s8, ho8, hg8, dic, hl8, hus, LP, hk⟩
  have hD := lap_few W LP.toLap
  refine ⟨_, rfl, _, rfl, dd, D, st, rfl, dic.r, hg8, _, rfl, ?_⟩
  by_cases hin : st ∈ keys D
  · -- there: the way is the best
    have e0 : (if true = true then !decide (st ∈ keys D) else decide (st ∈ keys D)) = false := by
      rw [if_pos rfl, decide_eq_true hin]
      rfl
    rw [e0]
    show if false = true then _ else _
    refine iteF ?_
    obtain ⟨u, hu'⟩ := mem_keys.mp hin
    have lk : look D st = some u := look_some LP.nodup hu'
    refine ⟨_, rfl, _, rfl, _, rfl, dd, D, st, u, rfl, dic.r, hg8, lk, fun v hv => ⟨(by show 2 ≤ sizeLine; decide), fun r nr => ?_⟩⟩
    have s10 := same_new (o := .tup [V.int ((m : Nat) : Int), v]) nr
    exact qY u (((LP.all st u).mp hu').1) _ _ (s8.trans s10) (.tup (.inl (.inl upd_same)) (.cons (.int _) (.one (hv.sm s10))))
  · have e0 : (if true = true then !decide (st ∈ keys D) else decide (st ∈ keys D)) = true := by
      rw [if_pos rfl, decide_eq_false hin]
      rfl
    rw [e0]
    refine iteT ⟨fun σ' H' => ∃ μ', μ' < 2 * (1000 - D.length) + (if lay = [] then 0 else 1) ∧ ∃ k D lay l8 us, μ' = 2 * (1000 - D.length) + (if lay = [] then 0 else 1) ∧ σ' = [some x, some y, some own, some goal, some (V.int ((m : Nat) : Int)), some (V.ref l8), some (V.ref dd)] ∧ Same H H' ∧ Dq K H' NoL own (bD b) ∧ Dq K H' NoL goal (sD st) ∧ DicAt P w K H' dd D ∧
      H' l8 = some (.lst us) ∧ Dqs K H' NoL us ((keys lay).map sD) ∧ LapP (turn b) (chs L m) (first b m) k D lay ∧ (lay ≠ [] → k < D.length), fun σ' H' h => h, ?_⟩
    refine ⟨_, rfl, dd, _, rfl, dic.r, _, _, rfl, rfl, _, rfl, ?_⟩
    have hnot : decide ((2000 : Int) < (D.length : Nat)) = false := decide_eq_false (by omega)
    show if decide ((2000 : Int) < (D.length : Nat)) = true then _ else _
    rw [hnot]
    refine iteF ?_
    refine ⟨_, rfl, Nat.zero_le _, fun l9 nl9 => ?_⟩
    have s9 : Same H8 (upd H8 l9 (.lst [])) := same_new nl9
    refine ⟨l8, l9, us, keys lay, rfl, rfl, s9 _ _ hl8, hus.sm s9, upd_same, _, rfl, ?_⟩
    cases hlay : lay with
    | nil =>
      subst hlay
      show if true = true then _ else _
      refine iteT ?_
      exact qN (fun u hb => hin (mem_keys.mpr ⟨u, (LP.toLap.full st u).mpr hb⟩)) _ (s8.trans s9)
    | cons p0 lay' =>
      have hne : lay ≠ [] := fun z => by rw [z] at hlay; cases hlay
      have hk' := hk hne
      rw [← hlay]
      have he : (keys lay).isEmpty = false := by rw [hlay]; rfl
      show if (keys lay).isEmpty = true then _ else _
      rw [he]
      refine iteF ?_
      refine ⟨_, rfl, _, rfl, _, rfl, _, rfl, own, dd, l8, us, b, FF, n, L, m, k, D, lay, rfl, ho8.sm s9, W, h1, h5, hB, by omega, dic.same s9, s9 _ _ hl8, hus.sm s9, LP, fun p fs H10 b10 np hp dic10 hfs => ?_⟩
      have LP' := LP.go (chs_up L m)
      have hD' := lap_few W LP'.toLap
      have t10 : Tk (upd H8 l9 (.lst [])) H10 := .but b10 fun a e => by rw [e]; exact (dic.same s9).notup
      have lapp := List.length_append (as := D) (bs := addF (keys D) (cands (turn b) (chs L m) lay))
      refine ⟨2 * (1000 - (D ++ addF (keys D) (cands (turn b) (chs L m) lay)).length) + (if addF (keys D) (cands (turn b) (chs L m) lay) = [] then 0 else 1), ?_, k + 1, D ++ addF (keys D) (cands (turn b) (chs L m) lay), addF (keys D) (cands (turn b) (chs L m) lay), p, fs, rfl, rfl, fun a o e => ?_, (ho8.sm s9).tk t10, (hg8.sm s9).tk t10, dic10, hp, hfs, LP', fun hF => ?_⟩
      · rw [if_neg hne]
        by_cases hF : addF (keys D) (cands (turn b) (chs L m) lay) = []
        · rw [if_pos hF, hF, List.append_nil]
          omega
        · rw [if_neg hF]
          have := List.length_pos_iff.mpr hF
          omega
      · exact b10 a o (fun z => by rw [z, nH] at e; cases e) ((s8.trans s9) a o e)
      · have := List.length_pos_iff.mpr hF
        omega
end
end K12

set_option Elab.async false
set_option linter.all false
set_option maxRecDepth 100000
set_option maxHeartbeats 4000000
namespace K12
open PySem PySem.Spec PyProof.Rows L2
/-! ### the urn: k draws are left -/
def Urn (H : Hp) (u : Addr) (k : Nat) : Prop := ∃ a b c : Int, H u = some (.lst [.int a, .int b, .int c]) ∧ 0 ≤ c ∧ c + k ≤ 1000000000
theorem Urn.weak {H : Hp} {u : Addr} {k j : Nat} (h : Urn H u k) (l : j ≤ k) : Urn H u j := by
  obtain ⟨a, b, c, e, h0, h1⟩ := h
  exact ⟨a, b, c, e, h0, by omega⟩
theorem Urn.on {H H' : Hp} {u : Addr} {k : Nat} (h : Urn H u k) (s : Same H H') : Urn H' u k := by
  obtain ⟨a, b, c, e, h0, h1⟩ := h
  exact ⟨a, b, c, s _ _ e, h0, h1⟩
theorem Urn.notup {H : Hp} {u : Addr} {k : Nat} (h : Urn H u k) : NoTup (H u) := by
  obtain ⟨a, b, c, e, h0, h1⟩ := h
  exact noTup_lst e
/-- what a draw leaves: the urn alone has changed -/
structure Drawn (u : Addr) (H H' : Hp) : Prop where
  but : But (· = u) H H'
  tk : Tk H H'
theorem Drawn.trans {u : Addr} {H H1 H2 : Hp} (a : Drawn u H H1) (b : Drawn u H1 H2) : Drawn u H H2 := ⟨a.but.trans b.but, a.tk.trans b.tk⟩
theorem Drawn.same {u : Addr} {H H' : Hp} (s : Same H H') : Drawn u H H' := ⟨.same s, .same s⟩
theorem Drawn.refl (u : Addr) (H : Hp) : Drawn u H H := ⟨.refl _ _, .refl _⟩
theorem Drawn.at' {u a : Addr} {H H' : Hp} {o : HO} (d : Drawn u H H') (n : a ≠ u) (h : H a = some o) : H' a = some o := d.but a o n h
theorem Urn.ne {H : Hp} {u a : Addr} {k : Nat} (h : Urn H u k) (e : H a = none) : a ≠ u := fun z => by
  obtain ⟨_, _, _, h, _⟩ := h
  rw [z, h] at e
  cases e
abbrev sTake : Stmt := topS 19
abbrev nTake : List Str := ["_law_urn", "_law_low_so", "_law_drawn", "_law_once", "_law_far", "_law_twice"]
theorem scTake : FnScope nTake ["_law_urn", "_law_low_so"] (defScope sTake) := ⟨rfl, rfl, rfl, by decide +kernel, rfl, by decide +kernel, by decide +kernel⟩
def spTake : Sp := fun vs H Q _ => ∃ u k n, vs = [.ref u, .int ((n : Nat) : Int)] ∧ Urn H u (k + 1) ∧ 0 < n ∧ n ≤ 1000 ∧ ∀ (r : Nat) H', r < n → Drawn u H H' → Urn H' u k → Q (.int ((r : Nat) : Int)) H'
theorem mod_nat {i : Int} {n : Nat} (h : 0 < n) : ∃ r : Nat, r < n ∧ i % (n : Int) = (r : Int) := by
  have h1 := Int.emod_nonneg i (show (n : Int) ≠ 0 by omega)
  have h2 := Int.emod_lt_of_pos i (show (0 : Int) < n by omega)
  exact ⟨(i % (n : Int)).toNat, by omega, by omega⟩
theorem urn_set {H : Hp} {u : Addr} {xs ys : List V} (h : H u = some (.lst xs)) : Drawn u H (upd H u (.lst ys)) := ⟨.upd (.inl rfl), .upd (noTup_lst h)⟩
section
variable {P : Program} {w : World} {K : PySem.W.Frag} {mg : Str → Option Value} {base : Heap}
theorem ok_take {f : Addr} {fd : FuncData} (F : Fun K "_law_take" "_law_take" sTake f fd) (mi : mg "int" = none) : FnOk P w K mg base CX0 1 f fd ["_law_urn", "_law_low_so"] spTake := by
  refine F.ok scTake (fun vs H Q E h => ?_) (fun cdv A outer s H vs Q E hr h => ?_)
  · obtain ⟨u, k, n, rfl, _⟩ := h
    rfl
  obtain ⟨u, k, n, rfl, ⟨a, b, c, hu, hc0, hck⟩, h1, h2, q⟩ := h
  refine ⟨_, pss_cons (ps_if (pt_cmpR op_gt (pe_ix ix_list (pv 0) pe_int (fun _ _ => rfl)) pe_int (nomark _))
      (pss_cons (ps_set (i := 2) scTake.nd rfl (Or.inl rfl) (pe_op op_mod (pe_callTy call_int1 (by rfl) mi PySem.Pv.boot_int (pa_cons (pe_ix ix_list (pv 0) pe_int (fun _ _ => rfl)) pa_nil)) (pv 1)))
      (pss_cons (ps_asg (pe_op op_fdiv (pe_ix ix_list (pv 0) pe_int (fun _ _ => rfl)) (pv 1)) (pg_sub (pv 0) pe_int set_list))
      (pss_one (ps_ret (pv 2))))) pss_nil)
    (pss_cons (ps_asg (pe_op op_add (pe_ix ix_list (pv 0) pe_int (fun _ _ => rfl)) pe_int) (pg_sub (pv 0) pe_int set_list))
    (pss_cons (ps_set (i := 3) scTake.nd rfl (Or.inl rfl) (pe_op op_mod (pe_callTy call_int1 (by rfl) mi PySem.Pv.boot_int (pa_cons (pe_op op_mul (pe_op op_add (pe_ix ix_list (pv 0) pe_int (fun _ _ => rfl)) (pe_op op_mul pe_int (pe_ix ix_list (pv 0) pe_int (fun _ _ => rfl)))) (pe_op op_add pe_int (pe_ix ix_list (pv 0) pe_int (fun _ _ => rfl)))) pa_nil)) pe_int))
    (pss_cons (ps_set (i := 4) scTake.nd rfl (Or.inl rfl) (pe_op op_add (pe_op op_mod (pe_callTy call_int1 (by rfl) mi PySem.Pv.boot_int (pa_cons (pv 3) pa_nil)) pe_int) pe_int))
    (pss_cons (ps_set (i := 5) scTake.nd rfl (Or.inl rfl) (pe_op op_mod (pe_callTy call_int1 (by rfl) mi PySem.Pv.boot_int (pa_cons (pe_op op_mul (pe_op op_add (pe_op op_add (pv 3) (pe_ix ix_list (pv 0) pe_int (fun _ _ => rfl))) (pe_op op_fdiv (pe_ix ix_list (pv 0) pe_int (fun _ _ => rfl)) pe_int)) (pv 4)) pa_nil)) pe_int))
    (pss_one (ps_ret (pe_op op_mod (pe_callTy call_int1 (by rfl) mi PySem.Pv.boot_int (pa_cons (pe_op op_fdiv (pe_op op_mod (pe_callTy call_int1 (by rfl) mi PySem.Pv.boot_int (pa_cons (pe_op op_add (pe_op op_mul (pv 5) pe_int) (pv 3)) pa_nil)) pe_int) pe_int) pa_nil)) (pv 1)))))))), ?_⟩
  rw [show L2.start nTake [V.ref u, V.int ((n : Nat) : Int)] = [some (V.ref u), some (V.int ((n : Nat) : Int)), none, none, none, none] from rfl]
  have sq : SqL K H u [.int a, .int b, .int c] := .inl (.inl hu)
  have hn : (0 : Int) < (n : Int) := by omega
  have hn2 : (n : Int) < 1073741824 := by omega
  refine ⟨_, rfl, u, _, 0, _, rfl, rfl, sq, atI_nat (j := 0) rfl, _, _, rfl, rfl, _, rfl, ?_⟩
  have fin : ∀ (i : Int) (H' : Hp), Drawn u H H' → Urn H' u k → Q (V.int (i % (n : Int))) H' := fun i H' d ur => by
    obtain ⟨r, e1, e2⟩ := mod_nat (i := i) h1
    rw [e2]
    exact q r H' e1 d ur
  refine ite2 (fun _ => ?_) (fun _ => ?_)
  · refine ⟨_, rfl, u, _, 0, _, rfl, rfl, sq, atI_nat (j := 0) rfl, .inl ⟨_, rfl, ?_⟩⟩
    refine ⟨_, rfl, _, _, rfl, rfl, hn, ?_⟩
    refine ⟨_, rfl, u, _, 0, _, rfl, rfl, sq, atI_nat (j := 0) rfl, _, rfl, _, _, rfl, rfl, ⟨hn, hn2⟩, _, rfl, u, _, 0, 0, rfl, rfl, hu, rfl, ?_⟩
    exact ⟨_, rfl, fin _ _ (urn_set hu) ⟨_, b, c, upd_same, hc0, by omega⟩⟩
  · refine ⟨_, rfl, u, _, 2, _, rfl, rfl, sq, atI_nat (j := 2) rfl, _, _, rfl, rfl, _, rfl, u, _, 2, 2, rfl, rfl, hu, rfl, ?_⟩
    have hu1 : (upd H u (.lst [V.int a, V.int b, V.int (c + 1)])) u = some (.lst [.int a, .int b, .int (c + 1)]) := upd_same
    have dr : Drawn u H (upd H u (.lst [V.int a, V.int b, V.int (c + 1)])) := urn_set hu
    have sq : SqL K (upd H u (.lst [V.int a, V.int b, V.int (c + 1)])) u [.int a, .int b, .int (c + 1)] := .inl (.inl hu1)
    refine ⟨_, rfl, u, _, 1, _, rfl, rfl, sq, atI_nat (j := 1) rfl, _, rfl, u, _, 2, _, rfl, rfl, sq, atI_nat (j := 2) rfl, _, _, rfl, rfl, .inl ⟨by decide, by decide⟩, _, _, rfl, rfl, ?_⟩
    refine ⟨_, rfl, u, _, 2, _, rfl, rfl, sq, atI_nat (j := 2) rfl, _, _, rfl, rfl, _, _, rfl, rfl, .inr ⟨by omega, by omega⟩, .inl ⟨_, rfl, _, _, rfl, rfl, (show (0 : Int) < _ by decide), ?_⟩⟩
    refine ⟨_, rfl, .inl ⟨_, rfl, _, _, rfl, rfl, (show (0 : Int) < _ by decide), _, _, rfl, rfl, ?_⟩⟩
    refine ⟨_, rfl, _, rfl, u, _, 2, _, rfl, rfl, sq, atI_nat (j := 2) rfl, _, _, rfl, rfl, _, rfl, u, _, 1, _, rfl, rfl, sq, atI_nat (j := 1) rfl, _, _, rfl, rfl, ⟨by decide, by decide⟩, _, _, rfl, rfl, _, rfl, _, _, rfl, rfl, .inr ⟨by omega, by omega⟩, .inl ⟨_, rfl, _, _, rfl, rfl, (show (0 : Int) < _ by decide), ?_⟩⟩
    refine ⟨_, rfl, _, _, rfl, rfl, .inr ⟨by decide, by decide⟩, _, rfl, _, _, rfl, rfl, .inl ⟨_, rfl, _, _, rfl, rfl, (show (0 : Int) < _ by decide), _, _, rfl, rfl, ⟨by decide, by decide⟩, .inl ⟨_, rfl, _, rfl, _, _, rfl, rfl, hn, ?_⟩⟩⟩
    exact fin _ _ dr ⟨a, b, c + 1, hu1, by omega, by omega⟩
end
end K12

set_option Elab.async false
set_option linter.all false
set_option maxRecDepth 100000
set_option maxHeartbeats 4000000
namespace K12
open PySem PySem.Spec PyProof.Rows L2
def vn (n : Nat) : V := .int ((n : Nat) : Int)
/-! ### [k for k, own in enumerate(hues) if own == letter] -/
def goods (hs : List Nat) (c i : Nat) : List Nat := (List.range i).filter fun x => decide (hs[x]? = some c)
theorem goods_succ {hs : List Nat} {c i h : Nat} (e : hs[i]? = some h) : goods hs c (i + 1) = if h = c then goods hs c i ++ [i] else goods hs c i := by
  unfold goods
  rw [show List.range (i + 1) = List.range i ++ [i] from List.range_succ, List.filter_append]
  by_cases hc : h = c
  · rw [if_pos hc, List.filter_cons_of_pos (by rw [e, hc]; exact decide_eq_true rfl)]
    rfl
  · rw [if_neg hc, List.filter_cons_of_neg (by rw [e]; simpa using hc)]
    simp
theorem goods_lt {hs : List Nat} {c i x : Nat} (h : x ∈ goods hs c i) : x < i := List.mem_range.mp (List.mem_filter.mp h).1
theorem goods_len (hs : List Nat) (c i : Nat) : (goods hs c i).length ≤ i := by
  have := List.length_filter_le (fun x => decide (hs[x]? = some c)) (List.range i)
  rw [List.length_range] at this
  exact this
theorem goods_pos {hs : List Nat} {c : Nat} (h : c ∈ hs) : 0 < (goods hs c hs.length).length := by
  obtain ⟨i, hi⟩ := List.mem_iff_getElem?.mp h
  have hl : i < hs.length := by
    rcases Nat.lt_or_ge i hs.length with z | z
    · exact z
    · rw [List.getElem?_eq_none z] at hi; cases hi
  exact List.length_pos_of_mem (a := i) (List.mem_filter.mpr ⟨List.mem_range.mpr hl, decide_eq_true hi⟩)
section
variable {P : Program} {w : World} {K : PySem.W.Frag} {mg : Str → Option Value} {base : Heap}
theorem lc_goods {a D : Addr} {hs : List Nat} {c i j : Nat} {σ : L2.St} {vs : List Nat} {H1 : Hp} {tl : TE} {Qd : Hp → Prop} (hS : SqL K H1 a (hs.map vn)) (hD0 : H1 D = none) (hl : hs.length ≤ 1000)
    (hw : ∀ v u, wipe (((wipe σ vs).set i (some v)).set j (some u)) vs = wipe σ vs) (hi : ∀ v u, (((wipe σ vs).set i (some v)).set j (some u))[i]? = some (some v)) (hj : ∀ v u, (((wipe σ vs).set i (some v)).set j (some u))[j]? = some (some u))
    (hlt : ∀ v u H (Q : VK), Q (vn c) H → tl (((wipe σ vs).set i (some v)).set j (some u)) H Q)
    (hd : ∀ H, Same H1 H → H D = some (.lst ((goods hs c hs.length).map vn)) → Qd H) :
    ∃ W : Nat → Nat → Hp → Prop, (∃ m, W 0 m (upd H1 D (.lst []))) ∧ ∀ i' m H, W i' m H →
      ((Ite K a).stop i' H ∧ Qd H) ∨ ((Ite K a).go i' H ∧ ∃ Nx : Hp → Prop, (∀ H', Nx H' → ∃ m', m' < m ∧ W (i' + 1) m' H') ∧ ∀ x H', (Ite K a).yld i' H x H' → gTup K 2 (gCons (gName i) (gCons (gName j) gNil)) x (wipe σ vs) H' fun σ2 H2 => wipe σ2 vs = wipe σ vs ∧ (tTest (tOp rEq (tVar j) tl)) σ2 H2 fun b H3 =>
        if b = true then (tVar i) σ2 H3 fun y H4 => ∃ acc, H4 D = some (.lst acc) ∧ acc.length < sizeLine ∧ Nx (upd H4 D (.lst (acc ++ [y]))) else Nx H3) := by
  have hS' : SqL K H1 a (hs.map vn) := hS
  refine lc_it (walk_enum (xs := hs.map vn)) (fun i' H3 => Grow H1 D ((goods hs c i').map vn) H3) (.start hD0) (fun i' H3 _ g => g.same.seq hS) (fun i' v H3 H4 hlt' g hy => ?_) (fun H3 g => ?_)
  · obtain ⟨T, u, z, rfl, nT, rfl, e1, e2⟩ := hy
    rw [List.length_map] at hlt'
    obtain ⟨h, hh⟩ := get_some hlt'
    have e2 : (hs.map vn)[i']? = some z := e2
    rw [List.getElem?_map, hh] at e2
    obtain rfl : vn h = z := Option.some.inj e2
    obtain rfl : V.int ((i' : Nat) : Int) = u := Option.some.inj e1
    have s4 : Same H3 (upd H3 T (.tup [V.int ((i' : Nat) : Int), vn h])) := same_new nT
    have g4 := g.on s4
    refine ⟨T, _, rfl, .inl (.inl upd_same), rfl, _, _, rfl, _, _, rfl, rfl, hw _ _, ?_⟩
    refine ⟨_, hj _ _, hlt _ _ _ _ ⟨rfl, _, rfl, ?_⟩⟩
    have gs := goods_succ (c := c) hh
    by_cases hc : h = c
    · rw [if_pos hc] at gs
      rw [decide_eq_true (show vn h = vn c by rw [hc])]
      show if true = true then _ else _
      refine iteT ?_
      refine ⟨_, hi _ _, _, g4.at', ?_, ?_⟩
      · rw [List.length_map]
        have := goods_len hs c i'
        exact small1 (by omega)
      · rw [gs, List.map_append]
        exact g4.push _
    · rw [if_neg hc] at gs
      rw [decide_eq_false (fun z => hc (by have : ((h : Nat) : Int) = c := V.int.inj z; omega)), gs]
      show if false = true then _ else _
      refine iteF ?_
      exact g4
  · rw [List.length_map] at g
    exact hd H3 g.same g.at'
/-! ### _law_of -/
abbrev sOf : Stmt := topS 24
theorem scOf : FnScope ["_law_urn", "_law_goods"] ["_law_urn", "_law_goods"] (defScope sOf) := ⟨rfl, rfl, rfl, by decide +kernel, rfl, by decide +kernel, by decide +kernel⟩
def spOf (K : PySem.W.Frag) : Sp := fun vs H Q _ => ∃ u k g xs, vs = [.ref u, .ref g] ∧ Urn H u (k + 1) ∧ g ≠ u ∧ H g = some (.lst xs) ∧ 0 < xs.length ∧ xs.length ≤ 1000 ∧ ∀ y H', y ∈ xs → Drawn u H H' → Urn H' u k → Q y H'
theorem ok_of {f fT : Addr} {fd fdT : FuncData} (F : Fun K "_law_of" "_law_of" sOf f fd) (FT : Fun K "_law_take" "_law_take" sTake fT fdT) (bT : Binds K fdT ["_law_urn", "_law_low_so"] []) (gT : mg "_law_take" = some (.ref fT)) (mi : mg "int" = none) (mlen : mg "len" = none) :
    FnOk P w K mg base CX0 2 f fd ["_law_urn", "_law_goods"] (spOf K) := by
  have GT := ok_take (P := P) (w := w) (base := base) FT mi
  refine F.ok scOf (fun vs H Q E h => ?_) (fun cdv A outer s H vs Q E hr h => ?_)
  · obtain ⟨u, k, g, xs, rfl, _⟩ := h
    rfl
  obtain ⟨u, k, g, xs, rfl, hU, hgu, hg, h0, hl, q⟩ := h
  refine ⟨_, pss_one (ps_ret (pe_ix ix_list (pv 1) (pe_call GT hr (by rfl) gT FT.kp bT .nil pass0 (pa_cons (pv 0) (pa_cons (pe_callB call_len_seq (by rfl) mlen PySem.boot_len (pa_cons (pv 1) pa_nil)) pa_nil))) (fun _ _ => rfl))), ?_⟩
  refine ⟨_, rfl, _, rfl, _, rfl, g, xs, rfl, .inl (.inl (.inl hg)), u, k, xs.length, rfl, hU, h0, hl, fun r H' hr' dr ur => ?_⟩
  obtain ⟨y, hy⟩ := get_some hr'
  exact ⟨g, xs, r, y, rfl, rfl, .inl (.inl (dr.at' hgu hg)), atI_nat hy, q y H' (List.mem_of_getElem? hy) dr ur⟩
/-! ### _law_own_map -/
abbrev sOwn : Stmt := topS 25
abbrev nOwn : List Str := ["_law_urn", "_law_hues", "_law_found", "_law_letter", "_law_goods", "_law_k", "_law_own"]
theorem scOwn : FnScope nOwn ["_law_urn", "_law_hues"] (defScope sOwn) := ⟨rfl, rfl, rfl, by decide +kernel, rfl, by decide +kernel, by decide +kernel⟩
def spOwn (K : PySem.W.Frag) : Sp := fun vs H Q _ => ∃ (u : Addr) (k : Nat) (g : Addr) (hs : List Nat), vs = [.ref u, .ref g] ∧ Urn H u (k + hs.length) ∧ g ≠ u ∧ H g = some (.lst (hs.map vn)) ∧ hs.length ≤ 100 ∧
  ∀ v rs H', Drawn u H H' → Urn H' u k → rs.length = hs.length → (∀ r, r ∈ rs → r < hs.length) → Dq K H' NoL v (tD rs) → Q v H'
theorem ok_own {f fO : Addr} {fd fdO : FuncData} (F : Fun K "_law_own_map" "_law_own_map" sOwn f fd) (FO : Fun K "_law_of" "_law_of" sOf fO fdO) (bO : Binds K fdO ["_law_urn", "_law_goods"] []) (gO : mg "_law_of" = some (.ref fO))
    (GO : FnOk P w K mg base CX0 2 fO fdO ["_law_urn", "_law_goods"] (spOf K)) (me : mg "enumerate" = none) (mt : mg "tuple" = none) :
    FnOk P w K mg base CX0 3 f fd ["_law_urn", "_law_hues"] (spOwn K) := by
  refine F.ok scOwn (fun vs H Q E h => ?_) (fun cdv A outer s H vs Q E hr h => ?_)
  · obtain ⟨u, k, g, hs, rfl, _⟩ := h
    rfl
  obtain ⟨u, k, g, hs, rfl, hU, hgu, hg, hl, q⟩ := h
  refine ⟨_, pss_cons (ps_set (i := 2) scOwn.nd rfl (Or.inl rfl) (pe_lst pa_nil))
    (pss_cons (ps_for PassesOwn.never rfl (pi_list (pv 1)) (pg_name (i := 3) scOwn.nd rfl (Or.inr rfl))
      (pss_cons (ps_setLc (i := 4) (own := [("_law_k", 5), ("_law_own", 6)]) (g := gTup K 2 (gCons (gName 5) (gCons (gName 6) gNil))) (tt := tTest (tOp rEq (tVar 6) (tVar 3))) rfl scOwn.nd rfl rfl (sw_true rfl rfl rfl (by decide +kernel)) (pi_enum (by rfl) me (pa_cons (pv 1) pa_nil)) (blkOk_by (N := nOwn) (sc := defScope sOwn) (by decide +kernel))
          (fun _ _ _ _ _ => pg_tup rfl (pgs_cons (pg_name (i := 5) scOwn.nd rfl (Or.inl rfl)) (pgs_cons (pg_name (i := 6) scOwn.nd rfl (Or.inl rfl)) pgs_nil))) (fun _ _ _ _ _ => pts_one (pt_cmpR op_eq (pv 6) (pv 3) (nomark _)))
          (fun _ _ _ _ _ => pv 5))
      (pss_one (ps_expr (pe_bm PySem.F.plainAttrs_list PySem.F.slot_list_append PySem.F.type_list_append mt_append (pv 2) (pa_cons (pe_call GO hr (by rfl) gO FO.kp bO .nil pass0 (pa_cons (pv 0) (pa_cons (pv 4) pa_nil))) pa_nil))))))
    (pss_one (ps_ret (pe_callTy call_tuple_of (by rfl) mt boot_tuple (pa_cons (pv 2) pa_nil))))), ?_⟩
  rw [show L2.start nOwn [V.ref u, V.ref g] = [some (V.ref u), some (V.ref g), none, none, none, none, none] from rfl]
  refine ⟨Nat.zero_le _, fun p np => ?_⟩
  have s1 : Same H (upd H p (.lst [])) := same_new np
  have pu : p ≠ u := hU.ne np
  have pg : p ≠ g := fun e => by rw [e, hg] at np; cases np
  refine ⟨_, rfl, g, rfl, ⟨hs.map vn, .inl (.inl (s1 _ _ hg))⟩, ?_⟩
  refine for_it (walk_list (xs := hs.map vn)) (fun i σ H2 => ∃ (y3 y4 : Option V) (rs : List Nat), σ = [some (V.ref u), some (V.ref g), some (V.ref p), y3, y4, none, none] ∧ Drawn u H H2 ∧ Urn H2 u (k + (hs.length - i)) ∧ H2 p = some (.lst (rs.map vn)) ∧ rs.length = i ∧ ∀ r, r ∈ rs → r < hs.length) ?_ (fun i σ H2 _ hp => ?_) (fun i v σ H2 H2' hi hp hyv => ?_) (fun σ H2 hp => ?_)
  · exact ⟨none, none, [], rfl, .same s1, hU.on s1, upd_same, rfl, fun _ z => nomatch z⟩
  · obtain ⟨y3, y4, rs, rfl, dr, _⟩ := hp
    exact .inl (.inl (dr.at' hgu hg))
  · obtain ⟨y3, y4, rs, rfl, dr, hU2, hp2, lr, hrs⟩ := hp
    obtain ⟨rfl, hv⟩ := hyv
    rw [List.length_map] at hi
    obtain ⟨c, hc⟩ := get_some hi
    rw [List.getElem?_map, hc] at hv
    obtain rfl : vn c = v := Option.some.inj hv
    have cm := List.mem_of_getElem? hc
    have hg2 := dr.at' hgu hg
    refine ⟨_, rfl, g, hs.map vn, rfl, .inl (.inl hg2), fun D hD0 => ?_⟩
    refine lc_goods (hs := hs) (c := c) (i := 5) (j := 6) (tl := tVar 3) (.inl (.inl hg2)) hD0 (by omega) (fun _ _ => rfl) (fun _ _ => rfl) (fun _ _ => rfl) (fun _ _ _ _ q => ⟨_, rfl, q⟩) fun H3 s3 hD3 => ?_
    have Du : D ≠ u := hU2.ne hD0
    have Dp : D ≠ p := fun e => by rw [e, hp2] at hD0; cases hD0
    have hp3 := s3 _ _ hp2
    have gl := goods_len hs c hs.length
    refine ⟨_, rfl, .inl ⟨rfl, _, .inl (.inl hp3)⟩, _, rfl, _, rfl, u, k + (hs.length - (i + 1)), D, _, rfl, ((hU2.on s3).weak (by omega)), Du, hD3, by rw [List.length_map]; exact goods_pos cm, by rw [List.length_map]; omega, fun y H4 hy dr4 hU4 => ?_⟩
    obtain ⟨r, hr', rfl⟩ := List.mem_map.mp hy
    have hp4 := dr4.at' pu hp3
    refine ⟨p, _, _, rfl, rfl, hp4, by rw [List.length_map]; exact small1 (by omega), ?_⟩
    refine ⟨_, _, rs ++ [r], rfl, ?_, ?_, ?_, by rw [List.length_append, lr]; rfl, fun x hx => ?_⟩
    · refine ⟨fun a o na e => ?_, ?_⟩
      · rw [upd_ne (ne_of_none e np)]
        exact ((dr.trans (.same s3)).trans dr4).but a o na e
      · exact (((dr.trans (.same s3)).trans dr4).tk.trans (.upd (noTup_lst hp4)))
    · obtain ⟨a, b, cc, e, h0, h1⟩ := hU4
      exact ⟨a, b, cc, by rw [upd_ne pu.symm]; exact e, h0, h1⟩
    · rw [List.map_append]
      exact upd_same
    · rcases List.mem_append.mp hx with z | z
      · exact hrs x z
      · rw [List.mem_singleton.mp z]
        exact goods_lt hr'
  · obtain ⟨y3, y4, rs, rfl, dr, hU2, hp2, lr, hrs⟩ := hp
    rw [List.length_map] at hU2 lr
    refine ⟨_, rfl, p, rs.map vn, rfl, .inl ⟨.inl (.inl hp2), fun t nt => ?_⟩⟩
    have s3 := same_new (o := .tup (rs.map vn)) nt
    exact q _ rs _ (dr.trans (.same s3)) ((hU2.on s3).weak (by omega)) lr hrs (.tup (.inl (.inl upd_same)) (.ofNats rs))
end
end K12

set_option Elab.async false
set_option linter.all false
set_option maxRecDepth 100000
set_option maxHeartbeats 4000000
namespace K12
open PySem PySem.Spec PyProof.Rows L2
/-! ### _law_pick -/
abbrev sPick : Stmt := topS 23
abbrev nPick : List Str := ["_law_urn", "_law_goods", "_law_count", "_law_pool", "_law_found", "_law_lap"]
theorem scPick : FnScope nPick ["_law_urn", "_law_goods", "_law_count"] (defScope sPick) := ⟨rfl, rfl, rfl, by decide +kernel, rfl, by decide +kernel, by decide +kernel⟩
def spPick (K : PySem.W.Frag) : Sp := fun vs H Q _ => ∃ (u : Addr) (k : Nat) (g : Addr) (c : Nat) (xs : List V), vs = [.ref u, .ref g, .int ((c : Nat) : Int)] ∧ Urn H u (k + xs.length) ∧ H g = some (.lst xs) ∧ xs.length ≤ 1000 ∧
  ∀ l ys rest H', H l = none → H' l = some (.lst ys) → (ys ++ rest).Perm xs → ys.length = min c xs.length → Drawn u H H' → Urn H' u k → Q (.ref l) H'
theorem Urn.upd {H : Hp} {u p : Addr} {k : Nat} {o : HO} (h : Urn H u k) (n : p ≠ u) : Urn (L2.upd H p o) u k := by
  obtain ⟨a, b, c, e, h0, h1⟩ := h
  exact ⟨a, b, c, by rw [upd_ne n.symm]; exact e, h0, h1⟩
/-- an object that was not there at the start is written -/
theorem Drawn.own {u p : Addr} {H H1 : Hp} {xs ys : List V} (d : Drawn u H H1) (n : H p = none) (h : H1 p = some (.lst xs)) : Drawn u H (L2.upd H1 p (.lst ys)) := by
  refine ⟨fun a o na e => ?_, d.tk.trans (.upd (noTup_lst h))⟩
  rw [upd_ne (ne_of_none e n)]
  exact d.but a o na e
theorem erase_perm {α : Type} : ∀ {ps : List α} {r : Nat} {y : α}, ps[r]? = some y → (y :: ps.eraseIdx r).Perm ps
  | [], _, _, h => by simp at h
  | a :: ps, 0, y, h => by
    have e : a = y := by simpa using h
    subst e
    exact .refl _
  | a :: ps, r + 1, y, h => by
    have ih := erase_perm (ps := ps) (r := r) (y := y) (by simpa using h)
    exact (List.Perm.swap a y _).trans (ih.cons a)
section
variable {P : Program} {w : World} {K : PySem.W.Frag} {mg : Str → Option Value} {base : Heap}
theorem ok_pick {f fT : Addr} {fd fdT : FuncData} (F : Fun K "_law_pick" "_law_pick" sPick f fd) (FT : Fun K "_law_take" "_law_take" sTake fT fdT) (bT : Binds K fdT ["_law_urn", "_law_low_so"] []) (gT : mg "_law_take" = some (.ref fT)) (mi : mg "int" = none) (mlen : mg "len" = none)
    (ml : mg "list" = none) (mr : mg "range" = none) (mm : mg "min" = none) : FnOk P w K mg base CX0 2 f fd ["_law_urn", "_law_goods", "_law_count"] (spPick K) := by
  have GT := ok_take (P := P) (w := w) (base := base) FT mi
  refine F.ok scPick (fun vs H Q E h => ?_) (fun cdv A outer s H vs Q E hr h => ?_)
  · obtain ⟨u, k, g, c, xs, rfl, _⟩ := h
    rfl
  obtain ⟨u, k, g, c, xs, rfl, hU, hg, hl, q⟩ := h
  refine ⟨_, pss_cons (ps_par (i := 3) (j := 4) rfl scPick.nd rfl rfl (by decide) rfl rfl (pa_cons (pe_callTy call_list_of (by rfl) ml boot_list (pa_cons (pv 1) pa_nil)) (pa_cons (pe_lst pa_nil) pa_nil)) rfl)
    (pss_cons (ps_for PassesOwn.never rfl (pi_range1 (by rfl) mr (pa_cons (pe_callB (call_min2 rfl) (by rfl) mm boot_min (pa_cons (pe_callTy call_int1 (by rfl) mi PySem.Pv.boot_int (pa_cons (pv 2) pa_nil)) (pa_cons (pe_callB call_len_seq (by rfl) mlen PySem.boot_len (pa_cons (pv 3) pa_nil)) pa_nil))) pa_nil)) (pg_name (i := 5) scPick.nd rfl (Or.inl rfl))
      (pss_one (ps_expr (pe_bm PySem.F.plainAttrs_list PySem.F.slot_list_append PySem.F.type_list_append mt_append (pv 4) (pa_cons (pe_bm PySem.F.plainAttrs_list PySem.F.slot_list_pop PySem.F.type_list_pop mt_popAt (pv 3) (pa_cons (pe_call GT hr (by rfl) gT FT.kp bT .nil pass0 (pa_cons (pv 0) (pa_cons (pe_callB call_len_seq (by rfl) mlen PySem.boot_len (pa_cons (pv 3) pa_nil)) pa_nil))) pa_nil)) pa_nil)))))
    (pss_one (ps_ret (pv 4)))), ?_⟩
  rw [show L2.start nPick [V.ref u, V.ref g, V.int ((c : Nat) : Int)] = [some (V.ref u), some (V.ref g), some (V.int ((c : Nat) : Int)), none, none, none] from rfl]
  refine ⟨_, rfl, g, xs, rfl, .inl (.inl (.inl hg)), fun p np => ?_⟩
  have s1 := same_new (o := .lst xs) np
  refine ⟨Nat.zero_le _, fun l nl => ⟨_, _, rfl, ?_⟩⟩
  have s2 := same_new (o := .lst []) nl
  have pu : p ≠ u := hU.ne np
  have nl0 : H l = none := s1.free nl
  have lu : l ≠ u := hU.ne nl0
  have pl : p ≠ l := fun e => by rw [← e, upd_same] at nl; cases nl
  have hp0 : (upd (upd H p (.lst xs)) l (.lst [])) p = some (.lst xs) := s2 _ _ upd_same
  refine ⟨_, rfl, .inl ⟨_, rfl, _, rfl, p, xs, rfl, .inl (.inl (.inl hp0)), _, _, rfl, ?_⟩⟩
  have em : (if ((xs.length : Nat) : Int) < ((c : Nat) : Int) then ((xs.length : Nat) : Int) else ((c : Nat) : Int)) = ((min c xs.length : Nat) : Int) := by
    by_cases h : ((xs.length : Nat) : Int) < ((c : Nat) : Int)
    · rw [if_pos h]; omega
    · rw [if_neg h]; omega
  refine ⟨_, rfl, by rw [em]; omega, by rw [em]; omega, ?_⟩
  rw [em, show (((min c xs.length : Nat) : Int)).toNat = min c xs.length from rfl]
  refine for_range (lo := 0) (n := min c xs.length) (fun i σ H2 => ∃ (y5 : Option V) (ps ys : List V), σ = [some (V.ref u), some (V.ref g), some (V.int ((c : Nat) : Int)), some (V.ref p), some (V.ref l), y5] ∧ Drawn u H H2 ∧ Urn H2 u (k + (xs.length - i)) ∧ H2 p = some (.lst ps) ∧ H2 l = some (.lst ys) ∧ (ys ++ ps).Perm xs ∧ ys.length = i) ?_ (fun i σ H2 hi hp => ?_) (fun σ H2 hp => ?_)
  · exact ⟨none, xs, [], rfl, .same (s1.trans s2), hU.on (s1.trans s2), hp0, upd_same, .refl _, rfl⟩
  · obtain ⟨y5, ps, ys, rfl, dr, hU2, hp2, hl2, pm, ly⟩ := hp
    have pml := pm.length_eq
    rw [List.length_append] at pml
    refine ⟨_, rfl, .inl ⟨rfl, _, .inl (.inl hl2)⟩, _, rfl, .inl ⟨rfl, _, .inl (.inl hp2)⟩, _, rfl, _, rfl, p, ps, rfl, .inl (.inl (.inl hp2)), u, k + (xs.length - (i + 1)), ps.length, rfl, hU2.weak (by omega), by omega, by omega, fun r H3 hr3 dr3 hU3 => ?_⟩
    have hp3 := dr3.at' pu hp2
    have hl3 := dr3.at' lu hl2
    obtain ⟨y, hy⟩ := get_some hr3
    refine ⟨p, ps, r, r, y, rfl, rfl, hp3, by omega, by omega, ?_, hy, ?_⟩
    · exact seqIndex_of (by omega) (by omega)
    have hl4 : (upd H3 p (.lst (ps.eraseIdx r))) l = some (.lst ys) := by rw [upd_ne pl.symm]; exact hl3
    refine ⟨l, ys, y, rfl, rfl, hl4, small1 (by omega), ?_⟩
    refine ⟨_, ps.eraseIdx r, ys ++ [y], rfl, ((dr.trans dr3).own np hp3).own nl0 hl4, (hU3.upd pu).upd lu, by rw [upd_ne pl]; exact upd_same, upd_same, ?_, by rw [List.length_append, ly]; rfl⟩
    refine List.Perm.trans ?_ pm
    rw [List.append_assoc]
    refine List.Perm.append_left ys ?_
    exact erase_perm hy
  · obtain ⟨y5, ps, ys, rfl, dr, hU2, hp2, hl2, pm, ly⟩ := hp
    exact ⟨_, rfl, q l ys ps H2 nl0 hl2 pm ly dr (hU2.weak (by omega))⟩
end
end K12

set_option Elab.async false
set_option linter.all false
set_option maxRecDepth 100000
set_option maxHeartbeats 4000000
namespace K12
open PySem PySem.Spec PyProof.Rows L2
/-! ### _law_book -/
abbrev sBook : Stmt := topS 26
abbrev nBook : List Str := ["_law_urn", "_law_letters", "_law_flags", "_law_hues", "_law_letter", "_law_rows", "_law_flag", "_law_lines", "_law_hue", "_law_line", "_law_new", "_law_begin", "_law_k", "_law_own"]
theorem scBook : FnScope nBook ["_law_urn"] (defScope sBook) := ⟨rfl, rfl, rfl, by decide +kernel, rfl, by decide +kernel, by decide +kernel⟩
def spBook (K : PySem.W.Frag) : Sp := fun vs H Q _ => ∃ (u : Addr) (k : Nat), vs = [.ref u] ∧ Urn H u (k + 5000) ∧
  ∀ v b F n L H', Drawn u H H' → Urn H' u k → Dq K H' NoL v (bD b) → b.WF F n L → F ≤ 3 → n ≤ 6 → L ≤ 2 → Q v H'
/-! the parts -/
def LineOk (F n L : Nat) (l : List BRow) : Prop := l.length = L + 1 ∧ ∀ r, r ∈ l → RowOk F n r
def LinesOk (F n L : Nat) (ls : List (List BRow)) : Prop := ls.length = n ∧ ∀ l, l ∈ ls → LineOk F n L l
theorem vals_of {hs : List Nat} : ∀ {ys : List V}, (∀ y, y ∈ ys → y ∈ hs.map vn) → ∃ ks : List Nat, ys = ks.map vn
  | [], _ => ⟨[], rfl⟩
  | y :: ys, h => by
    obtain ⟨k, _, e⟩ := List.mem_map.mp (h y List.mem_cons_self)
    obtain ⟨ks, e2⟩ := vals_of (ys := ys) fun z hz => h z (List.mem_cons_of_mem _ hz)
    exact ⟨k :: ks, by rw [← e, e2]; rfl⟩
theorem vn_inj {a b : Nat} (h : vn a = vn b) : a = b := by
  have : ((a : Nat) : Int) = b := V.int.inj h
  omega
theorem mem_vn {hs : List Nat} {c : Nat} (h : vn c ∈ hs.map vn) : c ∈ hs := by
  obtain ⟨k, hk, e⟩ := List.mem_map.mp h
  rwa [← vn_inj e]
theorem Drawn.free {u p : Addr} {k : Nat} {H H' : Hp} (d : Drawn u H H') (hU : Urn H' u k) (n : H' p = none) : H p = none := by
  cases e : H p with
  | none => rfl
  | some o =>
    have z := d.at' (hU.ne n) e
    rw [n] at z
    cases z
theorem Dqs.ofBools {K : PySem.W.Frag} {H : Hp} {N : Addr → Prop} : ∀ bs : List Bool, Dqs K H N (bs.map V.bl) (bs.map .bool)
  | [] => .nil
  | b :: bs => .cons (.bl b) (Dqs.ofBools bs)
theorem all_snoc {α : Type} {p : α → Prop} {l : List α} {x : α} (h : ∀ a, a ∈ l → p a) (hx : p x) : ∀ a, a ∈ l ++ [x] → p a := fun a ha => by
  rcases List.mem_append.mp ha with z | z
  · exact h a z
  · rw [List.mem_singleton.mp z]
    exact hx
section
variable {P : Program} {w : World} {K : PySem.W.Frag} {mg : Str → Option Value} {base : Heap}
theorem ok_book {f fO fT fP fW : Addr} {fd fdO fdT fdP fdW : FuncData} (F : Fun K "_law_book" "_law_book" sBook f fd) (FT : Fun K "_law_take" "_law_take" sTake fT fdT) (bT : Binds K fdT ["_law_urn", "_law_low_so"] []) (gT : mg "_law_take" = some (.ref fT))
    (FO : Fun K "_law_of" "_law_of" sOf fO fdO) (bO : Binds K fdO ["_law_urn", "_law_goods"] []) (gO : mg "_law_of" = some (.ref fO)) (FP : Fun K "_law_pick" "_law_pick" sPick fP fdP) (bP : Binds K fdP ["_law_urn", "_law_goods", "_law_count"] []) (gP : mg "_law_pick" = some (.ref fP))
    (FW : Fun K "_law_own_map" "_law_own_map" sOwn fW fdW) (bW : Binds K fdW ["_law_urn", "_law_hues"] []) (gW : mg "_law_own_map" = some (.ref fW))
    (mi : mg "int" = none) (mlen : mg "len" = none) (ml : mg "list" = none) (mr : mg "range" = none) (mm : mg "min" = none) (me : mg "enumerate" = none) (mt : mg "tuple" = none) : FnOk P w K mg base CX0 4 f fd ["_law_urn"] (spBook K) := by
  have GT := ok_take (P := P) (w := w) (base := base) FT mi
  have GO := ok_of (P := P) (w := w) (base := base) FO FT bT gT mi mlen
  have GP := ok_pick (P := P) (w := w) (base := base) FP FT bT gT mi mlen ml mr mm
  have GW := ok_own (P := P) (w := w) (base := base) FW FO bO gO GO me mt
  refine F.ok scBook (fun vs H Q E h => ?_) (fun cdv A outer s H vs Q E hr h => ?_)
  · obtain ⟨u, k, rfl, _⟩ := h
    rfl
  obtain ⟨u, k, rfl, hU, q⟩ := h
  have hr1 := hr.mono (show 1 ≤ 3 by decide)
  have hr2 := hr.mono (show 2 ≤ 3 by decide)
  refine ⟨_, pss_cons (ps_par (i := 1) (j := 2) rfl scBook.nd rfl rfl (by decide) rfl rfl (pa_cons (pe_op op_add pe_int (pe_call GT hr1 (by rfl) gT FT.kp bT .nil pass0 (pa_cons (pv 0) (pa_cons pe_int pa_nil)))) (pa_cons (pe_op op_add pe_int (pe_call GT hr1 (by rfl) gT FT.kp bT .nil pass0 (pa_cons (pv 0) (pa_cons pe_int pa_nil)))) pa_nil)) rfl)
    (pss_cons (ps_set (i := 3) scBook.nd rfl (Or.inl rfl) (pe_lst pa_nil))
    (pss_cons (ps_for PassesOwn.never rfl (pi_range1 (by rfl) mr (pa_cons (pe_op op_add (pv 1) pe_int) pa_nil)) (pg_name (i := 4) scBook.nd rfl (Or.inr rfl))
      (pss_one (ps_set (i := 3) scBook.nd rfl (Or.inl rfl) (pe_op op_cat (pv 3) (pe_op op_rep (pe_lst (pa_cons (pv 4) pa_nil)) (pe_op op_add pe_int (pe_call GT hr1 (by rfl) gT FT.kp bT .nil pass0 (pa_cons (pv 0) (pa_cons pe_int pa_nil)))))))))
    (pss_cons (ps_set (i := 3) scBook.nd rfl (Or.inl rfl) (pe_call GP hr2 (by rfl) gP FP.kp bP .nil pass0 (pa_cons (pv 0) (pa_cons (pv 3) (pa_cons (pe_callB call_len_seq (by rfl) mlen PySem.boot_len (pa_cons (pv 3) pa_nil)) pa_nil)))))
    (pss_cons (ps_set (i := 5) scBook.nd rfl (Or.inl rfl) (pe_lst pa_nil))
    (pss_cons (ps_for PassesOwn.never rfl (pi_range1 (by rfl) mr (pa_cons (pv 2) pa_nil)) (pg_name (i := 6) scBook.nd rfl (Or.inl rfl))
      (pss_cons (ps_set (i := 7) scBook.nd rfl (Or.inl rfl) (pe_lst pa_nil))
      (pss_cons (ps_for PassesOwn.never rfl (pi_list (pv 3)) (pg_name (i := 8) scBook.nd rfl (Or.inl rfl))
        (pss_cons (ps_set (i := 9) scBook.nd rfl (Or.inl rfl) (pe_lst pa_nil))
        (pss_cons (ps_for PassesOwn.never rfl (pi_range1 (by rfl) mr (pa_cons (pe_op op_add (pv 1) pe_int) pa_nil)) (pg_name (i := 4) scBook.nd rfl (Or.inr rfl))
          (pss_cons (ps_set (i := 10) scBook.nd rfl (Or.inl rfl) (pe_call GO hr2 (by rfl) gO FO.kp bO .nil pass0 (pa_cons (pv 0) (pa_cons
              (pe_lc (own := [("_law_k", 12), ("_law_own", 13)]) (g := gTup K 2 (gCons (gName 12) (gCons (gName 13) gNil))) (tt := tTest (tOp rEq (tVar 13) (tVar 4))) rfl scBook.nd (pi_enum (by rfl) me (pa_cons (pv 3) pa_nil)) (blkOk_by (N := nBook) (sc := defScope sBook) (by decide +kernel))
                (fun _ _ _ _ _ => pg_tup rfl (pgs_cons (pg_name (i := 12) scBook.nd rfl (Or.inl rfl)) (pgs_cons (pg_name (i := 13) scBook.nd rfl (Or.inl rfl)) pgs_nil))) (fun _ _ _ _ _ => pts_one (pt_cmpR op_eq (pv 13) (pv 4) (nomark _)))
                (fun _ _ _ _ _ => pv 12)) pa_nil))))
          (pss_one (ps_expr (pe_bm PySem.F.plainAttrs_list PySem.F.slot_list_append PySem.F.type_list_append mt_append (pv 9) (pa_cons (pe_tup (pa_cons (pe_call GT hr1 (by rfl) gT FT.kp bT .nil pass0 (pa_cons (pv 0) (pa_cons (pv 2) pa_nil)))
            (pa_cons (pv 10) (pa_cons (pe_call GW hr (by rfl) gW FW.kp bW .nil pass0 (pa_cons (pv 0) (pa_cons (pv 3) pa_nil))) (pa_cons (pe_call GW hr (by rfl) gW FW.kp bW .nil pass0 (pa_cons (pv 0) (pa_cons (pv 3) pa_nil))) pa_nil))))) pa_nil))))))
        (pss_one (ps_expr (pe_bm PySem.F.plainAttrs_list PySem.F.slot_list_append PySem.F.type_list_append mt_append (pv 7) (pa_cons (pe_callTy call_tuple_of (by rfl) mt boot_tuple (pa_cons (pv 9) pa_nil)) pa_nil)))))))
      (pss_one (ps_expr (pe_bm PySem.F.plainAttrs_list PySem.F.slot_list_append PySem.F.type_list_append mt_append (pv 5) (pa_cons (pe_callTy call_tuple_of (by rfl) mt boot_tuple (pa_cons (pv 7) pa_nil)) pa_nil)))))))
    (pss_cons (ps_set (i := 11) scBook.nd rfl (Or.inl rfl) (pe_tup (pa_cons (pe_call GT hr1 (by rfl) gT FT.kp bT .nil pass0 (pa_cons (pv 0) (pa_cons (pv 2) pa_nil)))
      (pa_cons (pe_call GO hr2 (by rfl) gO FO.kp bO .nil pass0 (pa_cons (pv 0) (pa_cons
              (pe_lc (own := [("_law_k", 12), ("_law_own", 13)]) (g := gTup K 2 (gCons (gName 12) (gCons (gName 13) gNil))) (tt := tTest (tOp rEq (tVar 13) (tC (.int 0)))) rfl scBook.nd (pi_enum (by rfl) me (pa_cons (pv 3) pa_nil)) (blkOk_by (N := nBook) (sc := defScope sBook) (by decide +kernel))
                (fun _ _ _ _ _ => pg_tup rfl (pgs_cons (pg_name (i := 12) scBook.nd rfl (Or.inl rfl)) (pgs_cons (pg_name (i := 13) scBook.nd rfl (Or.inl rfl)) pgs_nil))) (fun _ _ _ _ _ => pts_one (pt_cmpR op_eq (pv 13) pe_int (nomark _)))
                (fun _ _ _ _ _ => pv 12)) pa_nil))) pa_nil))))
    (pss_one (ps_ret (pe_tup (pa_cons (pe_callTy call_tuple_of (by rfl) mt boot_tuple (pa_cons (pe_lc (own := [("_law_flag", 6)]) (g := gName 6) (tt := tYes) rfl scBook.nd (pi_range1 (by rfl) mr (pa_cons (pv 2) pa_nil)) (blkOk_by (N := nBook) (sc := defScope sBook) (by decide +kernel))
                (fun _ _ _ _ _ => pg_name (i := 6) scBook.nd rfl (Or.inl rfl)) (fun _ _ _ _ _ => pts_nil)
                (fun _ _ _ _ _ => pe_cmpR op_eq (pe_call GT hr1 (by rfl) gT FT.kp bT .nil pass0 (pa_cons (pv 0) (pa_cons pe_int pa_nil))) pe_int (nomark _))) pa_nil))
      (pa_cons (pe_callTy call_tuple_of (by rfl) mt boot_tuple (pa_cons (pv 3) pa_nil)) (pa_cons (pv 11) (pa_cons (pe_callTy call_tuple_of (by rfl) mt boot_tuple (pa_cons (pv 5) pa_nil)) pa_nil))))))))))))), ?_⟩
  rw [show L2.start nBook [V.ref u] = [some (V.ref u), none, none, none, none, none, none, none, none, none, none, none, none, none] from rfl]
  -- letters, flags
  refine ⟨_, rfl, u, k + 4999, 2, rfl, hU, by decide, by decide, fun r1 H1 h1 d1 hU1 => ⟨_, _, rfl, rfl, _, rfl, u, k + 4998, 3, rfl, hU1, by decide, by decide, fun r2 H2 h2 d2 hU2 => ⟨_, _, rfl, rfl, ?_⟩⟩⟩
  obtain ⟨L, hL⟩ : ∃ L, L = 1 + r1 := ⟨_, rfl⟩
  obtain ⟨FF, hF⟩ : ∃ F, F = 1 + r2 := ⟨_, rfl⟩
  refine ⟨V.int ((L : Nat) : Int), V.int ((FF : Nat) : Int), ?_, ?_⟩
  · show [V.int (1 + (r1 : Int)), V.int (1 + (r2 : Int))] = _
    rw [show (1 : Int) + (r1 : Int) = (L : Int) by omega, show (1 : Int) + (r2 : Int) = (FF : Int) by omega]
  have d12 := d1.trans d2
  -- hues = []
  refine ⟨Nat.zero_le _, fun h0 nh0 => ?_⟩
  have s3 := same_new (o := .lst []) nh0
  refine ⟨_, rfl, _, _, rfl, rfl, ((L : Nat) : Int) + 1, rfl, by omega, by omega, ?_⟩
  rw [show (((L : Nat) : Int) + 1).toNat = L + 1 by omega]
  refine for_range (lo := 0) (n := L + 1) (fun i σ Hc => ∃ (h : Addr) (hs : List Nat) (y4 : Option V), σ = [some (V.ref u), some (V.int ((L : Nat) : Int)), some (V.int ((FF : Nat) : Int)), some (V.ref h), y4, none, none, none, none, none, none, none, none, none] ∧
    H h = none ∧ Drawn u H Hc ∧ Urn Hc u (k + 4900 + (L + 1 - i)) ∧ Hc h = some (.lst (hs.map vn)) ∧ i ≤ hs.length ∧ hs.length ≤ 2 * i ∧ ∀ c, c < i → c ∈ hs) ?_ (fun i σ Hc hi hp => ?_) (fun σ Hc hp => ?_)
  · exact ⟨h0, [], none, rfl, d12.free hU2 nh0, d12.trans (.same s3), (hU2.on s3).weak (by omega), upd_same, Nat.zero_le _, Nat.zero_le _, fun c z => absurd z (Nat.not_lt_zero c)⟩
  · obtain ⟨h, hs, y4, rfl, nh, dr, hUc, hh, hl1, hl2, hcs⟩ := hp
    have hnu : h ≠ u := hU.ne nh
    have e0 : (0 : Int) + ((i : Nat) : Int) = (i : Int) := Int.zero_add _
    rw [e0]
    refine ⟨_, rfl, _, rfl, (by show 1 ≤ sizeLine; decide), fun p np => ?_⟩
    have s4 := same_new (o := .lst [V.int ((i : Nat) : Int)]) np
    have pnu := hUc.ne np
    refine ⟨_, rfl, u, k + 4900 + (L + 1 - (i + 1)), 2, rfl, (hUc.on s4).weak (by omega), by decide, by decide, fun r Hd hr' d4 hUd => ⟨_, _, rfl, rfl, ?_⟩⟩
    have dd := dr.trans ((Drawn.same s4).trans d4)
    have hp := d4.at' pnu (show (upd Hc p (.lst [V.int ((i : Nat) : Int)])) p = _ from upd_same)
    have hh2 := d4.at' hnu (s4 _ _ hh)
    refine ⟨p, _, _, rfl, rfl, hp, by omega, by omega, ?_, fun p2 np2 => ?_⟩
    · show 1 * (1 + (r : Int)).toNat ≤ sizeLine
      rw [sizeLine_eq]
      omega
    have s5 := same_new (o := .lst (List.replicate (1 + (r : Int)).toNat [V.int ((i : Nat) : Int)]).flatten) np2
    have ez : (List.replicate (1 + (r : Int)).toNat [V.int ((i : Nat) : Int)]).flatten = (List.replicate (1 + r) i).map vn := by
      rw [flat_one, show (1 + (r : Int)).toNat = 1 + r by omega, List.map_replicate]
      rfl
    have hp2 : (upd Hd p2 (.lst (List.replicate (1 + (r : Int)).toNat [V.int ((i : Nat) : Int)]).flatten)) p2 = some (.lst ((List.replicate (1 + r) i).map vn)) := by
      rw [upd_same, ez]
    refine ⟨h, p2, _, _, rfl, rfl, s5 _ _ hh2, hp2, ?_, fun p3 np3 => ?_⟩
    · rw [List.length_map, List.length_map, List.length_replicate, sizeLine_eq]
      omega
    have s6 := same_new (o := .lst (hs.map vn ++ (List.replicate (1 + r) i).map vn)) np3
    have d6 := dd.trans ((Drawn.same s5).trans (.same s6))
    refine ⟨p3, hs ++ List.replicate (1 + r) i, _, rfl, (dd.trans (.same s5)).free (hUd.on s5) np3, d6, (hUd.on s5).on s6, ?_, ?_, ?_, fun c hc => ?_⟩
    · rw [List.map_append]
      exact upd_same
    · rw [List.length_append, List.length_replicate]
      omega
    · rw [List.length_append, List.length_replicate]
      omega
    · rcases Nat.lt_or_ge c i with z | z
      · exact List.mem_append_left _ (hcs c z)
      · have : c = i := by omega
        rw [this, Nat.add_comm 1 r, List.replicate_succ]
        exact List.mem_append_right _ List.mem_cons_self
  -- hues = pick(urn, hues, len(hues))
  obtain ⟨h, hs, y4, rfl, nh, dr, hUc, hh, hl1, hl2, hcs⟩ := hp
  have lhs : (hs.map vn).length = hs.length := List.length_map _
  refine ⟨_, rfl, _, rfl, _, rfl, h, _, rfl, .inl (.inl (.inl hh)), u, k + 4800, h, (hs.map vn).length, hs.map vn, rfl, hUc.weak (by omega), hh, by omega, fun g ys rest Hb ng hg pm ly db hUb => ?_⟩
  have lys : ys.length = hs.length := by omega
  have pml := pm.length_eq
  rw [List.length_append] at pml
  have er : rest = [] := List.length_eq_zero_iff.mp (by omega)
  subst er
  rw [List.append_nil] at pm
  obtain ⟨ks, rfl⟩ := vals_of (hs := hs) (ys := ys) fun y hy => pm.mem_iff.mp hy
  rw [List.length_map] at lys
  have kcs : ∀ c, c ≤ L → c ∈ ks := fun c hc => mem_vn (pm.mem_iff.mpr (List.mem_map.mpr ⟨c, hcs c (by omega), rfl⟩))
  have gu : g ≠ u := hUc.ne ng
  have db0 := dr.trans db
  -- rows = []
  refine ⟨Nat.zero_le _, fun pr npr => ?_⟩
  have s7 := same_new (o := .lst []) npr
  have pru : pr ≠ u := hUb.ne npr
  refine ⟨_, rfl, ((FF : Nat) : Int), rfl, by omega, by omega, ?_⟩
  rw [show (((FF : Nat) : Int)).toNat = FF from rfl]
  have n0 : 0 < ks.length := by omega
  have n6 : ks.length ≤ 6 := by omega
  refine for_range (lo := 0) (n := FF) (fun i σ Hc => ∃ (y4 y6 y7 y8 y9 y10 : Option V) (us : List V) (rs : List (List (List BRow))), σ = [some (V.ref u), some (V.int ((L : Nat) : Int)), some (V.int ((FF : Nat) : Int)), some (V.ref g), y4, some (V.ref pr), y6, y7, y8, y9, y10, none, none, none] ∧
    Drawn u Hb Hc ∧ Urn Hc u (k + 100 + 1000 * (FF - i)) ∧ Hc pr = some (.lst us) ∧ Dqs K Hc NoL us (rs.map lsD) ∧ rs.length = i ∧ ∀ ls, ls ∈ rs → LinesOk FF ks.length L ls) ?_ (fun i σ Hc hi hp => ?_) (fun σ Hc hp => ?_)
  · exact ⟨_, none, none, none, none, none, [], [], rfl, .same s7, (hUb.on s7).weak (by omega), upd_same, .nil, rfl, fun _ z => nomatch z⟩
  · obtain ⟨y4, y6, y7, y8, y9, y10, us, rs, rfl, dc, hUc, hpr, hus, lrs, hrs⟩ := hp
    have hgc := dc.at' gu hg
    -- lines = []
    refine ⟨Nat.zero_le _, fun pl npl => ?_⟩
    have s8 := same_new (o := .lst []) npl
    have plu := hUc.ne npl
    have plr : pl ≠ pr := fun e => by rw [e, hpr] at npl; cases npl
    refine ⟨_, rfl, g, rfl, ⟨ks.map vn, .inl (.inl (s8 _ _ hgc))⟩, ?_⟩
    refine for_it (walk_list (xs := ks.map vn)) (fun j σ Hd => ∃ (y4 y8 y9 y10 : Option V) (us2 : List V) (ls : List (List BRow)), σ = [some (V.ref u), some (V.int ((L : Nat) : Int)), some (V.int ((FF : Nat) : Int)), some (V.ref g), y4, some (V.ref pr), some (V.int (0 + ((i : Nat) : Int))), some (V.ref pl), y8, y9, y10, none, none, none] ∧
      Drawn u Hc Hd ∧ Urn Hd u (k + 100 + 1000 * (FF - (i + 1)) + 100 * (ks.length - j)) ∧ Hd pl = some (.lst us2) ∧ Dqs K Hd NoL us2 (ls.map lnD) ∧ ls.length = j ∧ ∀ ln, ln ∈ ls → LineOk FF ks.length L ln) ?_ (fun j σ Hd _ hq => ?_) (fun j v8 σ Hd0 Hd hj hq hyv => ?_) (fun σ Hd hq => ?_)
    · exact ⟨_, _, _, _, [], [], rfl, .same s8, (hUc.on s8).weak (by omega), upd_same, .nil, rfl, fun _ z => nomatch z⟩
    · obtain ⟨_, _, _, _, _, _, rfl, dd, _⟩ := hq
      exact .inl (.inl (dd.at' gu hgc))
    · obtain ⟨y4, y8, y9, y10, us2, ls, rfl, dd, hUd, hpl, hus2, lls, hls⟩ := hq
      obtain ⟨rfl, _⟩ := hyv
      rw [List.length_map] at hj
      have hgd := dd.at' gu hgc
      -- line = []
      refine ⟨Nat.zero_le _, fun p9 np9 => ?_⟩
      have s9 := same_new (o := .lst []) np9
      have p9u := hUd.ne np9
      have p9l : p9 ≠ pl := fun e => by rw [e, hpl] at np9; cases np9
      refine ⟨_, rfl, _, _, rfl, rfl, ((L : Nat) : Int) + 1, rfl, by omega, by omega, ?_⟩
      rw [show (((L : Nat) : Int) + 1).toNat = L + 1 by omega]
      refine for_range (lo := 0) (n := L + 1) (fun l σ He => ∃ (y4 y10 : Option V) (us3 : List V) (ln : List BRow), σ = [some (V.ref u), some (V.int ((L : Nat) : Int)), some (V.int ((FF : Nat) : Int)), some (V.ref g), y4, some (V.ref pr), some (V.int (0 + ((i : Nat) : Int))), some (V.ref pl), some v8, some (V.ref p9), y10, none, none, none] ∧
        Drawn u Hd He ∧ Urn He u (k + 100 + 1000 * (FF - (i + 1)) + 100 * (ks.length - (j + 1)) + 20 * (L + 1 - l)) ∧ He p9 = some (.lst us3) ∧ Dqs K He NoL us3 (ln.map rD) ∧ ln.length = l ∧ ∀ r, r ∈ ln → RowOk FF ks.length r) ?_ (fun l σ He hl hw => ?_) (fun σ He hw => ?_)
      · exact ⟨_, _, [], [], rfl, .same s9, (hUd.on s9).weak (by omega), upd_same, .nil, rfl, fun _ z => nomatch z⟩
      · obtain ⟨y4, y10, us3, ln, rfl, de, hUe, hp9, hus3, lln, hln⟩ := hw
        rw [show (0 : Int) + ((l : Nat) : Int) = (l : Int) from Int.zero_add _]
        have hge := de.at' gu hgd
        refine ⟨_, rfl, _, rfl, g, ks.map vn, rfl, .inl (.inl hge), fun D hD0 => ?_⟩
        refine lc_goods (hs := ks) (c := l) (i := 12) (j := 13) (tl := tVar 4) (.inl (.inl hge)) hD0 (by omega) (fun _ _ => rfl) (fun _ _ => rfl) (fun _ _ => rfl) (fun _ _ _ _ q => ⟨_, rfl, q⟩) fun H3 s3 hD3 => ?_
        have Du : D ≠ u := hUe.ne hD0
        have gl := goods_len ks l ks.length
        refine ⟨u, k + 100 + 1000 * (FF - (i + 1)) + 100 * (ks.length - (j + 1)) + 20 * (L + 1 - (l + 1)) + 18, D, _, rfl, (hUe.on s3).weak (by omega), Du, hD3, by rw [List.length_map]; exact goods_pos (kcs l (by omega)), by rw [List.length_map]; omega, fun y H4 hy d4 hU4 => ?_⟩
        obtain ⟨nw, hnw, rfl⟩ := List.mem_map.mp hy
        have nlt := goods_lt hnw
        have dx := (Drawn.same (u := u) s3).trans d4
        have hp94 := dx.at' p9u hp9
        refine ⟨_, rfl, .inl ⟨rfl, _, .inl (.inl hp94)⟩, _, rfl, _, rfl, u, k + 100 + 1000 * (FF - (i + 1)) + 100 * (ks.length - (j + 1)) + 20 * (L + 1 - (l + 1)) + 17, FF, rfl, hU4, by omega, by omega, fun fr H5 hfr d5 hU5 => ?_⟩
        have dx5 := dx.trans d5
        refine ⟨_, rfl, _, rfl, _, rfl, u, k + 100 + 1000 * (FF - (i + 1)) + 100 * (ks.length - (j + 1)) + 20 * (L + 1 - (l + 1)) + 7, g, ks, rfl, hU5.weak (by omega), gu, dx5.at' gu hge, by omega, fun v1 l1 H6 d6 hU6 e1 f1 q1 => ?_⟩
        have dx6 := dx5.trans d6
        refine ⟨_, rfl, _, rfl, u, k + 100 + 1000 * (FF - (i + 1)) + 100 * (ks.length - (j + 1)) + 20 * (L + 1 - (l + 1)), g, ks, rfl, hU6.weak (by omega), gu, dx6.at' gu hge, by omega, fun v2 l2 H7 d7 hU7 e2 f2 q2 => ?_⟩
        have dx7 := dx6.trans d7
        refine ⟨(by show 4 ≤ sizeLine; decide), fun t nt => ?_⟩
        have s10 := same_new (o := .tup [V.int ((fr : Nat) : Int), vn nw, v1, v2]) nt
        have dx8 := dx7.trans (.same s10)
        have hp98 := dx8.at' p9u hp9
        have l3 := hus3.length
        rw [List.length_map] at l3
        refine ⟨p9, us3, _, rfl, rfl, hp98, small1 (by omega), ?_⟩
        have tk9 : Tk (upd H7 t (.tup [V.int ((fr : Nat) : Int), vn nw, v1, v2])) (upd (upd H7 t (.tup [V.int ((fr : Nat) : Int), vn nw, v1, v2])) p9 (.lst (us3 ++ [V.ref t]))) := .upd (noTup_lst hp98)
        refine ⟨_, _, us3 ++ [.ref t], ln ++ [⟨fr, nw, l1, l2⟩], rfl, (de.trans dx8).own np9 hp98, (hU7.on s10).upd p9u, upd_same, ?_, by rw [List.length_append, lln]; rfl, all_snoc hln ⟨hfr, nlt, e1, e2, f1, f2⟩⟩
        rw [List.map_append]
        refine (hus3.tk (dx8.tk.trans tk9)).append (.one ?_)
        refine .tup (.inl (.inl (tk9.1 _ _ upd_same))) (.cons (.int _) (.cons (.int _) (.cons ?_ (.one ?_))))
        · exact q1.tk ((d7.tk.trans (.same s10)).trans tk9)
        · exact q2.tk ((Tk.same s10).trans tk9)
      · obtain ⟨y4, y10, us3, ln, rfl, de, hUe, hp9, hus3, lln, hln⟩ := hw
        have hple := de.at' plu hpl
        refine ⟨_, rfl, .inl ⟨rfl, _, .inl (.inl hple)⟩, _, rfl, p9, us3, rfl, .inl ⟨.inl (.inl hp9), fun t nt => ?_⟩⟩
        have s10 := same_new (o := .tup us3) nt
        have d8 := de.trans (.same s10)
        have hpl8 := d8.at' plu hpl
        have l2 := hus2.length
        rw [List.length_map] at l2
        refine ⟨pl, us2, _, rfl, rfl, hpl8, small1 (by omega), ?_⟩
        have tk9 : Tk (upd He t (.tup us3)) (upd (upd He t (.tup us3)) pl (.lst (us2 ++ [V.ref t]))) := .upd (noTup_lst hpl8)
        refine ⟨_, _, _, _, us2 ++ [.ref t], ls ++ [ln], rfl, (dd.trans d8).own npl hpl8, ((hUe.on s10).upd plu).weak (by omega), upd_same, ?_, by rw [List.length_append, lls]; rfl, all_snoc hls ⟨lln, hln⟩⟩
        rw [List.map_append]
        exact (hus2.tk (d8.tk.trans tk9)).append (.one (.tup (.inl (.inl (tk9.1 _ _ upd_same))) (hus3.tk ((Tk.same s10).trans tk9))))
    · obtain ⟨y4, y8, y9, y10, us2, ls, rfl, dd, hUd, hpl, hus2, lls, hls⟩ := hq
      rw [List.length_map] at lls
      have hprd := dd.at' pru hpr
      refine ⟨_, rfl, .inl ⟨rfl, _, .inl (.inl hprd)⟩, _, rfl, pl, us2, rfl, .inl ⟨.inl (.inl hpl), fun t nt => ?_⟩⟩
      have s10 := same_new (o := .tup us2) nt
      have d8 := dd.trans (.same s10)
      have hpr8 := d8.at' pru hpr
      have l2 := hus.length
      rw [List.length_map] at l2
      refine ⟨pr, us, _, rfl, rfl, hpr8, small1 (by omega), ?_⟩
      have tk9 : Tk (upd Hd t (.tup us2)) (upd (upd Hd t (.tup us2)) pr (.lst (us ++ [V.ref t]))) := .upd (noTup_lst hpr8)
      refine ⟨_, _, _, _, _, _, us ++ [.ref t], rs ++ [ls], rfl, (dc.trans d8).own npr hpr8, ((hUd.on s10).upd pru).weak (by omega), upd_same, ?_, by rw [List.length_append, lrs]; rfl, all_snoc hrs ⟨lls, hls⟩⟩
      rw [List.map_append]
      exact (hus.tk (d8.tk.trans tk9)).append (.one (.tup (.inl (.inl (tk9.1 _ _ upd_same))) (hus2.tk ((Tk.same s10).trans tk9))))
  · obtain ⟨y4, y6, y7, y8, y9, y10, us, rs, rfl, dc, hUc, hpr, hus, lrs, hrs⟩ := hp
    have hgc := dc.at' gu hg
    -- begin
    refine ⟨_, rfl, _, rfl, u, k + 99, FF, rfl, hUc.weak (by omega), by omega, by omega, fun bf H1 hbf d1 hU1 => ?_⟩
    have hg1 := d1.at' gu hgc
    refine ⟨_, rfl, _, rfl, g, ks.map vn, rfl, .inl (.inl hg1), fun D hD0 => ?_⟩
    refine lc_goods (hs := ks) (c := 0) (i := 12) (j := 13) (tl := tC (.int 0)) (.inl (.inl hg1)) hD0 (by omega) (fun _ _ => rfl) (fun _ _ => rfl) (fun _ _ => rfl) (fun _ _ _ _ q => q) fun H3 s3 hD3 => ?_
    have Du : D ≠ u := hU1.ne hD0
    have gl := goods_len ks 0 ks.length
    refine ⟨u, k + 98, D, _, rfl, hU1.on s3, Du, hD3, by rw [List.length_map]; exact goods_pos (kcs 0 (by omega)), by rw [List.length_map]; omega, fun y H4 hy d4 hU4 => ?_⟩
    obtain ⟨bh, hbh, rfl⟩ := List.mem_map.mp hy
    have bhlt := goods_lt hbh
    refine ⟨(by show 2 ≤ sizeLine; decide), fun tb ntb => ?_⟩
    have s5 := same_new (o := .tup [V.int ((bf : Nat) : Int), vn bh]) ntb
    have hb5 : (upd H4 tb (.tup [V.int ((bf : Nat) : Int), vn bh])) tb = some (.tup [V.int ((bf : Nat) : Int), vn bh]) := upd_same
    have dx := d1.trans ((Drawn.same s3).trans (d4.trans (.same s5)))
    have hU5 := hU4.on s5
    -- the answers
    refine ⟨_, rfl, ((FF : Nat) : Int), rfl, by omega, by omega, fun Da hDa => ?_⟩
    have Dau : Da ≠ u := hU5.ne hDa
    have s6 := same_new (o := .lst []) hDa
    refine lc_it (walk_range (lo := 0) (n := FF)) (fun i H6 => ∃ bs : List Bool, bs.length = i ∧ H6 Da = some (.lst (bs.map V.bl)) ∧ Drawn u (upd H4 tb (.tup [V.int ((bf : Nat) : Int), vn bh])) H6 ∧ Urn H6 u (k + (98 - i))) ⟨[], rfl, upd_same, .same s6, (hU5.on s6).weak (by omega)⟩ (fun _ _ _ _ => trivial) (fun i v H6 H7 hi hp hy => ?_) (fun H6 hp => ?_)
    · obtain ⟨bs, lb, hDb, d6, hU6⟩ := hp
      obtain ⟨rfl, rfl⟩ := hy
      refine ⟨rfl, kept ?_⟩
      refine ⟨_, rfl, u, k + (98 - (i + 1)), 2, rfl, hU6.weak (by omega), by decide, by decide, fun r H8 hr8 d8 hU8 => ⟨rfl, bs.map V.bl, d8.at' Dau hDb, ?_, bs ++ [decide (V.int ((r : Nat) : Int) = V.int 0)], by rw [List.length_append, lb]; rfl, ?_, ?_, hU8.upd Dau⟩⟩
      · rw [List.length_map]
        exact small1 (by omega)
      · rw [List.map_append]
        exact upd_same
      · exact (d6.trans d8).own hDa (d8.at' Dau hDb)
    · obtain ⟨bs, lb, hDb, d6, hU6⟩ := hp
      refine ⟨Da, bs.map V.bl, rfl, .inl ⟨.inl (.inl hDb), fun t1 nt1 => ?_⟩⟩
      have s7' := same_new (o := .tup (bs.map V.bl)) nt1
      have dz := (dx.trans d6).trans (.same s7')
      refine ⟨_, rfl, g, ks.map vn, rfl, .inl ⟨.inl (.inl (dz.at' gu hgc)), fun t2 nt2 => ?_⟩⟩
      have s8 := same_new (o := .tup (ks.map vn)) nt2
      have dz2 := dz.trans (.same s8)
      refine ⟨_, rfl, _, rfl, pr, us, rfl, .inl ⟨.inl (.inl (dz2.at' pru hpr)), fun t3 nt3 => ?_⟩⟩
      have s9 := same_new (o := .tup us) nt3
      have dz3 := dz2.trans (.same s9)
      refine ⟨(by show 4 ≤ sizeLine; decide), fun t4 nt4 => ?_⟩
      have s10 := same_new (o := .tup [V.ref t1, V.ref t2, V.ref tb, V.ref t3]) nt4
      have dz4 := dz3.trans (.same s10)
      have s910 := s9.trans s10
      have s8910 := s8.trans s910
      refine q _ ⟨bs, ks, bf, bh, rs⟩ FF ks.length L _ ((db0.trans dc).trans dz4) ((((((hU6.on s7').on s8).on s9).on s10)).weak (by omega)) ?_ ?_ (by omega) n6 (by omega)
      · refine .tup (.inl (.inl upd_same)) (.cons (.tup (.inl (.inl (s8910 _ _ upd_same))) (.ofBools bs)) (.cons (.tup (.inl (.inl (s910 _ _ upd_same))) (.ofNats ks)) (.cons (.tup ?_ (.cons (.int _) (.one (.int _)))) (.one (.tup (.inl (.inl (s10 _ _ upd_same))) (hus.tk dz4.tk))))))
        exact .inl (.inl ((((Tk.same s7').trans (.same s8910))).1 _ _ (d6.tk.1 _ _ hb5)))
      · exact ⟨by omega, n0, by omega, by omega, by omega, lb, rfl, hbf, bhlt, lrs, fun ls h => (hrs ls h).1, fun ls h ln h2 => ((hrs ls h).2 ln h2).1, fun ls h ln h2 r h3 => ((hrs ls h).2 ln h2).2 r h3⟩
end
end K12

set_option Elab.async false
set_option linter.all false
set_option maxRecDepth 100000
set_option maxHeartbeats 4000000
namespace K12
open PySem PySem.Spec PyProof.Rows L2
/-! ### _law_turned -/
theorem turn_len {b : Book} {st : Std} {c : Chg} (h : c.1 < st.2.length) : (turn b st c).2.length = st.2.length := by
  unfold turn
  simp only [List.length_append, List.length_map, List.length_take, List.length_drop, List.length_singleton]
  omega
theorem turn_at {b : Book} {st : Std} {c : Chg} {i x : Nat} {R : BRow} (hR : b.row st.1 (st.2.getD c.1 0) c.2 = R) (h : c.1 < st.2.length) (e : st.2[i]? = some x) :
    (turn b st c).2[i]? = some (if i = c.1 then R.h else if i < c.1 then R.l.getD x 0 else R.r.getD x 0) := by
  unfold turn
  rw [hR]
  have la : ((st.2.take c.1).map fun h => R.l.getD h 0).length = c.1 := by
    rw [List.length_map, List.length_take]
    omega
  by_cases h1 : i < c.1
  · rw [if_neg (by omega), if_pos h1, List.append_assoc, List.getElem?_append_left (by omega), List.getElem?_map, List.getElem?_take_of_lt h1, e]
    rfl
  · by_cases h2 : i = c.1
    · rw [if_pos h2, List.append_assoc, List.getElem?_append_right (by omega), la, h2, Nat.sub_self]
      rfl
    · rw [if_neg h2, if_neg h1, List.getElem?_append_right (by rw [List.length_append, la, List.length_singleton]; omega), List.length_append, la, List.length_singleton, List.getElem?_map, List.getElem?_drop, show c.1 + 1 + (i - (c.1 + 1)) = i by omega, e]
      rfl
abbrev sLTurn : Stmt := topS 27
abbrev nLTurn : List Str := ["_law_book_here", "_law_stand", "_law_change", "_law_row", "_law_found", "_law_place", "_law_hue"]
theorem scLTurn : FnScope nLTurn ["_law_book_here", "_law_stand", "_law_change"] (defScope sLTurn) := ⟨rfl, rfl, rfl, by decide +kernel, rfl, by decide +kernel, by decide +kernel⟩
section
variable {P : Program} {w : World} {K : PySem.W.Frag} {mg : Str → Option Value} {base : Heap}
theorem ok_lturn {f : Addr} {fd : FuncData} (F : Fun K "_law_turned" "_law_turned" sLTurn f fd) (mt : mg "tuple" = none) (me : mg "enumerate" = none) : FnOk P w K mg base CX0 1 f fd ["_law_book_here", "_law_stand", "_law_change"] (spTurned K) := by
  refine F.ok scLTurn (fun vs H Q E h => ?_) (fun cdv A outer s H vs Q E hr h => ?_)
  · obtain ⟨x, y, z, b, FF, n, L, m, st, c, rfl, _⟩ := h
    rfl
  obtain ⟨x, y, z, b, FF, n, L, m, st, c, rfl, hx, hy, hz, W, S, hm, hc1, hc2, q⟩ := h
  refine ⟨_, pss_cons (ps_set (i := 3) scLTurn.nd rfl (Or.inl rfl) (pe_ix ix_D (pe_ix ix_D (pe_ix ix_D (pe_ix ix_D (pv 0) pe_int (fun _ _ => rfl)) (pe_ix ix_D (pv 1) pe_int (fun _ _ => rfl)) (fun _ _ => rfl)) (pe_ix ix_D (pe_ix ix_D (pv 1) pe_int (fun _ _ => rfl)) (pe_ix ix_D (pv 2) pe_int (fun _ _ => rfl)) (fun _ _ => rfl)) (fun _ _ => rfl)) (pe_ix ix_D (pv 2) pe_int (fun _ _ => rfl)) (fun _ _ => rfl)))
    (pss_cons (ps_set (i := 4) scLTurn.nd rfl (Or.inl rfl) (pe_lst pa_nil))
    (pss_cons (ps_for PassesOwn.never rfl (pi_enumT (by rfl) me (pa_cons (pe_ix ix_D (pv 1) pe_int (fun _ _ => rfl)) pa_nil)) (pg_tup rfl (pgs_cons (pg_name (i := 5) scLTurn.nd rfl (Or.inl rfl)) (pgs_cons (pg_name (i := 6) scLTurn.nd rfl (Or.inl rfl)) pgs_nil)))
      (pss_one (ps_if (pt_cmpR op_eq (pv 5) (pe_ix ix_D (pv 2) pe_int (fun _ _ => rfl)) (nomark _))
        (pss_one (ps_expr (pe_bm PySem.F.plainAttrs_list PySem.F.slot_list_append PySem.F.type_list_append mt_append (pv 4) (pa_cons (pe_ix ix_D (pv 3) pe_int (fun _ _ => rfl)) pa_nil))))
        (pss_one (ps_expr (pe_bm PySem.F.plainAttrs_list PySem.F.slot_list_append PySem.F.type_list_append mt_append (pv 4) (pa_cons (pe_ix ix_D (pe_ix ix_D (pv 3) (pe_ifExp (pt_cmpR op_lt (pv 5) (pe_ix ix_D (pv 2) pe_int (fun _ _ => rfl)) (nomark _)) pe_int pe_int) (fun _ _ => rfl)) (pv 6) (fun _ _ => rfl)) pa_nil)))))))
    (pss_one (ps_ret (pe_tup (pa_cons (pe_ix ix_D (pv 3) pe_int (fun _ _ => rfl)) (pa_cons (pe_callTy call_tuple_of (by rfl) mt boot_tuple (pa_cons (pv 4) pa_nil)) pa_nil))))))), ?_⟩
  rw [show L2.start nLTurn [x, y, z] = [some x, some y, some z, none, none, none, none] from rfl]
  obtain ⟨hu, ehu⟩ := get_some (l := st.2) (i := c.1) (by rw [S.len]; exact hc1)
  have hun := S.hs hu (List.mem_of_getElem? ehu)
  have eg : st.2.getD c.1 0 = hu := getD_of ehu
  obtain ⟨ls, ln, e1, e2, e3, R⟩ := W.at S.f hun hc2
  refine ⟨_, rfl, _, 3, _, NoL, hx, rfl, rfl, fun v1 h1 => ?_⟩
  refine ⟨_, rfl, _, 0, nD st.1, NoL, hy, rfl, rfl, fun v1' h1' => ?_⟩
  refine ⟨_, st.1, lsD ls, NoL, h1, h1'.intI, by rw [List.getElem?_map, e1]; rfl, fun v2 h2 => ?_⟩
  refine ⟨_, rfl, _, 1, tD st.2, NoL, hy, rfl, rfl, fun vh hh => ?_⟩
  refine ⟨_, rfl, _, 0, nD c.1, NoL, hz, rfl, rfl, fun vc hc => ?_⟩
  refine ⟨_, c.1, nD hu, NoL, hh, hc.intI, by rw [List.getElem?_map, ehu]; rfl, fun v3 h3 => ?_⟩
  refine ⟨_, hu, lnD ln, NoL, h2, h3.intI, by rw [List.getElem?_map, e2]; rfl, fun v4 h4 => ?_⟩
  refine ⟨_, rfl, _, 1, nD c.2, NoL, hz, rfl, rfl, fun vl hl => ?_⟩
  refine ⟨_, c.2, rD (b.row st.1 hu c.2), NoL, h4, hl.intI, by rw [List.getElem?_map, e3]; rfl, fun row hrow => ?_⟩
  -- found = []
  refine ⟨Nat.zero_le _, fun p np => ?_⟩
  have s1 := same_new (o := .lst []) np
  refine ⟨_, rfl, _, 1, tD st.2, NoL, hy.sm s1, rfl, rfl, fun vs1 hs1 => ?_⟩
  obtain ⟨ha, hs, rfl, hS, hD⟩ := hs1.tupI
  have ehs := hD.nats
  subst ehs
  have lst : st.2.length ≤ 1000 := by rw [S.len]; exact hm
  have hcl : c.1 < st.2.length := by rw [S.len]; exact hc1
  refine ⟨ha, _, rfl, hS, ?_⟩
  refine for_it (walk_enumT (xs := st.2.map fun n : Nat => V.int (n : Int))) (fun i σ H2 => ∃ y5 y6 acc, σ = [some x, some y, some z, some row, some (V.ref p), y5, y6] ∧ Grow H p acc H2 ∧ Tk (upd H p (.lst [])) H2 ∧ Dqs K H2 NoL acc (((turn b st c).2.take i).map nD)) ⟨none, none, [], rfl, .start np, .refl _, .nil⟩ (fun i σ H2 _ hp => ?_) (fun i v σ H2 H3 hi hp hyv => ?_) (fun σ H2 hp => ?_)
  · obtain ⟨_, _, acc, rfl, g, t, _⟩ := hp
    exact t.seq hS
  · obtain ⟨y5, y6, acc, rfl, g, t, ga⟩ := hp
    obtain ⟨T, u, xv, rfl, nT, rfl, e1', e2'⟩ := hyv
    rw [List.length_map] at hi
    obtain ⟨h, hh'⟩ := get_some hi
    have e2' : (st.2.map fun n : Nat => V.int (n : Int))[i]? = some xv := e2'
    rw [List.getElem?_map, hh'] at e2'
    obtain rfl : V.int ((h : Nat) : Int) = xv := Option.some.inj e2'
    obtain rfl : V.int ((i : Nat) : Int) = u := Option.some.inj e1'
    have hhn := S.hs h (List.mem_of_getElem? hh')
    have s3 : Same H2 (upd H2 T (.tup [V.int ((i : Nat) : Int), V.int ((h : Nat) : Int)])) := same_new nT
    have g3 := g.on s3
    have ga3 := ga.sm s3
    have t3 := t.trans (.same s3)
    have la := ga.length
    rw [List.length_map, List.length_take, turn_len hcl] at la
    have row3 := hrow.sm g3.same
    have ta := turn_at (b := b) (c := c) (by rw [eg] : b.row st.1 (st.2.getD c.1 0) c.2 = b.row st.1 hu c.2) hcl hh'
    refine ⟨T, _, rfl, .inl (.inl upd_same), rfl, _, _, rfl, _, _, rfl, rfl, ?_⟩
    obtain ⟨yy, eyy⟩ : ∃ yy, yy = y := ⟨_, rfl⟩
    rw [← eyy]
    have push : ∀ (y : V) (k : Nat), Dq K (upd H2 T (.tup [V.int ((i : Nat) : Int), V.int ((h : Nat) : Int)])) NoL y (nD k) → (turn b st c).2[i]? = some k →
        ∃ y5 y6 acc', [some x, some yy, some z, some row, some (V.ref p), some (V.int ((i : Nat) : Int)), some (V.int ((h : Nat) : Int))] = [some x, some yy, some z, some row, some (V.ref p), y5, y6] ∧ Grow H p acc' (upd (upd H2 T (.tup [V.int ((i : Nat) : Int), V.int ((h : Nat) : Int)])) p (.lst (acc ++ [y]))) ∧
          Tk (upd H p (.lst [])) (upd (upd H2 T (.tup [V.int ((i : Nat) : Int), V.int ((h : Nat) : Int)])) p (.lst (acc ++ [y]))) ∧ Dqs K (upd (upd H2 T (.tup [V.int ((i : Nat) : Int), V.int ((h : Nat) : Int)])) p (.lst (acc ++ [y]))) NoL acc' (((turn b st c).2.take (i + 1)).map nD) := fun y' k hy' ek => by
      refine ⟨_, _, acc ++ [y'], rfl, g3.push y', t3.trans (g3.tk _), ?_⟩
      rw [take_snoc ek, List.map_append]
      exact (ga3.append (.one hy')).tk (g3.tk _)
    refine ⟨_, rfl, _, rfl, _, 0, nD c.1, NoL, hz.sm g3.same, rfl, rfl, fun vc hc => ?_⟩
    obtain rfl := hc.intI
    refine ⟨rfl, _, rfl, ?_⟩
    by_cases hic : i = c.1
    · rw [if_pos hic] at ta
      rw [decide_eq_true (show V.int ((i : Nat) : Int) = V.int ((c.1 : Nat) : Int) by rw [hic])]
      show if true = true then _ else _
      refine iteT ?_
      refine ⟨_, rfl, .inl ⟨rfl, _, .inl (.inl g3.at')⟩, _, rfl, _, 1, nD (b.row st.1 hu c.2).h, NoL, row3, rfl, rfl, fun yv hyv => ⟨p, acc, yv, rfl, rfl, g3.at', small1 (by omega), ?_⟩⟩
      exact push yv _ hyv ta
    · rw [if_neg hic] at ta
      rw [decide_eq_false (fun z => hic (by have : ((i : Nat) : Int) = c.1 := V.int.inj z; omega))]
      show if false = true then _ else _
      refine iteF ?_
      refine ⟨_, rfl, .inl ⟨rfl, _, .inl (.inl g3.at')⟩, _, rfl, ?_⟩
      refine ⟨_, rfl, _, rfl, _, 0, nD c.1, NoL, hz.sm g3.same, rfl, rfl, fun vc hc => ?_⟩
      obtain rfl := hc.intI
      refine ⟨_, _, rfl, rfl, _, rfl, ?_⟩
      by_cases hlt : i < c.1
      · rw [if_pos hlt] at ta
        rw [decide_eq_true (show ((i : Nat) : Int) < ((c.1 : Nat) : Int) by omega)]
        show if true = true then _ else _
        refine iteT ?_
        refine ⟨_, 2, tD (b.row st.1 hu c.2).l, NoL, row3, rfl, rfl, fun vv hvv => ⟨_, rfl, _, h, nD ((b.row st.1 hu c.2).l.getD h 0), NoL, hvv, rfl, ?_, fun yv hyv => ⟨p, acc, yv, rfl, rfl, g3.at', small1 (by omega), push yv _ hyv ta⟩⟩⟩
        obtain ⟨r, er⟩ := get_some (l := (b.row st.1 hu c.2).l) (i := h) (by rw [R.kl]; exact hhn)
        rw [List.getElem?_map, er, getD_of er]
        rfl
      · rw [if_neg hlt] at ta
        rw [decide_eq_false (show ¬ ((i : Nat) : Int) < ((c.1 : Nat) : Int) by omega)]
        show if false = true then _ else _
        refine iteF ?_
        refine ⟨_, 3, tD (b.row st.1 hu c.2).r, NoL, row3, rfl, rfl, fun vv hvv => ⟨_, rfl, _, h, nD ((b.row st.1 hu c.2).r.getD h 0), NoL, hvv, rfl, ?_, fun yv hyv => ⟨p, acc, yv, rfl, rfl, g3.at', small1 (by omega), push yv _ hyv ta⟩⟩⟩
        obtain ⟨r, er⟩ := get_some (l := (b.row st.1 hu c.2).r) (i := h) (by rw [R.kr]; exact hhn)
        rw [List.getElem?_map, er, getD_of er]
        rfl
  · obtain ⟨y5, y6, acc, rfl, g, t, ga⟩ := hp
    rw [List.length_map, List.take_of_length_le (by rw [turn_len hcl]; exact Nat.le_refl _)] at ga
    refine ⟨_, rfl, _, 0, nD (b.row st.1 hu c.2).f, NoL, hrow.sm g.same, rfl, rfl, fun fv hfv => ?_⟩
    refine ⟨_, rfl, p, acc, rfl, .inl ⟨.inl (.inl g.at'), fun t6 nt6 => ?_⟩⟩
    have s6 := same_new (o := .tup acc) nt6
    refine ⟨(by show 2 ≤ sizeLine; decide), fun t7 nt7 => ?_⟩
    have s7 := same_new (o := .tup [fv, V.ref t6]) nt7
    have ef : nD (b.row st.1 hu c.2).f = nD (turn b st c).1 := by
      unfold turn
      rw [eg]
    rw [ef] at hfv
    exact q _ _ ((g.same.trans s6).trans s7) (.tup (.inl (.inl upd_same)) (.cons (hfv.sm (s6.trans s7)) (.one (.tup (.inl (.inl (s7 _ _ upd_same))) (ga.sm (s6.trans s7))))))
end
end K12

set_option Elab.async false
set_option linter.all false
set_option maxRecDepth 100000
set_option maxHeartbeats 4000000
namespace K12
open PySem PySem.Spec PyProof.Rows L2
/-! ### _law_ways -/
theorem chs_get {L : Nat} : ∀ {m p l : Nat}, p < m → l ≤ L → (chs L m)[p * (L + 1) + l]? = some (p, l)
  | m + 1, p, l, hp, hl => by
    rw [chs_succ]
    rcases Nat.lt_or_ge p m with z | z
    · have h1 : (p + 1) * (L + 1) ≤ m * (L + 1) := Nat.mul_le_mul_right _ z
      have h2 : (p + 1) * (L + 1) = p * (L + 1) + (L + 1) := Nat.succ_mul _ _
      rw [List.getElem?_append_left (by rw [length_chs]; omega)]
      exact chs_get z hl
    · have e : p = m := by omega
      subst e
      rw [List.getElem?_append_right (by rw [length_chs]; omega), length_chs, Nat.add_sub_cancel_left, List.getElem?_map, List.getElem?_range (by omega)]
      rfl
theorem walk_keysN {P : Program} {w : World} {K : PySem.W.Frag} {d : Addr} {o : Obj} {D : List (Std × Way)} {xs : List (NestedKey × Addr × Value)} :
    Walk (ItN P w K d o D xs) D.length (fun H => H d = some (.frz o (DN P w d xs)) ∧ KN K H D xs) (fun i H v H' => H' = H ∧ ∃ p, D[i]? = some p ∧ Dq K H NoL v (sD p.1)) :=
  ⟨fun i H hi h => ⟨h.1, h.2, hi⟩, fun H h => ⟨h.1, Nat.le_refl _⟩, fun i H x H' hi h y => y⟩
theorem pe_getNK {X : Cx} {P : Program} {w : World} {K : PySem.W.Frag} {o i : Expr} {pos : Pos} {td ty : TE} (hP : X.prog = P) (hw : X.w = w) (hK : X.K = K) (hu : X.A.units + 64 < cLine) (ho : PE X o td) (hi : PE X i ty) (hs : NoSl i) : PE X (.Subscript o i pos) (tGetN P w K td ty) := by
  subst hP hw hK
  exact pe_getN hu ho hi hs
/-- the least candidates so far -/
def lo (D cs : List (Std × Way)) : List (Std × Way) := cs.foldl (addL (keys D)) []
theorem lo_snoc (D cs : List (Std × Way)) (c : Std × Way) : lo D (cs ++ [c]) = addL (keys D) (lo D cs) c := by
  unfold lo
  rw [List.foldl_append]
  rfl
theorem lo_few {b : Book} {F n L m k : Nat} (W : b.WF F n L) {D lay : List (Std × Way)} (P : Lap (turn b) (chs L m) (first b m) k D lay) (i j : Nat) : (lo D (candsTo b L m lay i j)).length ≤ F * n ^ m := by
  have Pk := pick_addL (K := keys D) (candsTo b L m lay i j)
  have h := few_stds (l := keys (lo D (candsTo b L m lay i j))) Pk.nodup (fun s hs => by
    obtain ⟨u, hu⟩ := mem_keys.mp hs
    obtain ⟨p, c, hp, hc, e⟩ := mem_candsTo (Pk.sub s u hu).1
    have hcc := mem_chs.mp hc
    have pS := best_ok W ((P.top p.1 p.2).mp hp).1
    have e' : s = turn b p.1 c := e
    rw [e']
    exact turn_ok W pS hcc.1 hcc.2)
  have e : (keys (lo D (candsTo b L m lay i j))).length = (lo D (candsTo b L m lay i j)).length := List.length_map _
  omega
abbrev sWays : Stmt := topS 29
abbrev nWays : List Str := ["_law_book_here", "_law_many", "_law_letters", "_law_first", "_law_found", "_law_now", "_law_fresh", "_law_way", "_law_stand", "_law_place", "_law_letter", "_law_later", "_law_longer", "_law_own"]
theorem scWays : FnScope nWays ["_law_book_here", "_law_many"] (defScope sWays) := ⟨rfl, rfl, rfl, by decide +kernel, rfl, by decide +kernel, by decide +kernel⟩
def spWays (P : Program) (w : World) (K : PySem.W.Frag) : Sp := fun vs H Q _ => ∃ x b F n L m, vs = [x, .int ((m : Nat) : Int)] ∧ Dq K H NoL x (bD b) ∧ b.WF F n L ∧ 1 ≤ m ∧ m ≤ 5 ∧ F * n ^ m ≤ 900 ∧
  ∀ d D H', Same H H' → H d = none → DicAt P w K H' d D → Full (turn b) (chs L m) (first b m) D → D.length ≤ 900 → (∀ s u, (s, u) ∈ D → u.length ≤ 900) → Q (.ref d) H'
section
variable {P : Program} {w : World} {K : PySem.W.Frag} {mg : Str → Option Value} {base : Heap}
theorem ok_ways {f fT : Addr} {fd fdT : FuncData} (F : Fun K "_law_ways" "_law_ways" sWays f fd) (FT : Fun K "_law_turned" "_law_turned" sLTurn fT fdT) (bT : Binds K fdT ["_law_book_here", "_law_stand", "_law_change"] []) (gT : mg "_law_turned" = some (.ref fT))
    (mlen : mg "len" = none) (mr : mg "range" = none) (me : mg "enumerate" = none) (mt : mg "tuple" = none) (md : mg "dict" = none) : FnOk P w K mg base CX0 2 f fd ["_law_book_here", "_law_many"] (spWays P w K) := by
  have GT := ok_lturn (P := P) (w := w) (base := base) FT mt me
  refine F.ok scWays (fun vs H Q E h => ?_) (fun cdv A outer s H vs Q E hr h => ?_)
  · obtain ⟨x, b, FF, n, L, m, rfl, _⟩ := h
    rfl
  obtain ⟨x, b, FF, n, L, m, rfl, hx, W, h1, h5, hB, q⟩ := h
  have hu : (cxOf CX0 P w K mg base nWays "_law_ways" (defScope sWays) f cdv A outer s H E).nox.A.units + 64 < cLine := hr.units
  refine ⟨_, pss_cons (ps_set (i := 2) scWays.nd rfl (Or.inl rfl) (pe_op op_sub (pe_callB call_len_seq (by rfl) mlen PySem.boot_len (pa_cons (pe_ix ix_D (pe_ix ix_D (pe_ix ix_D (pv 0) pe_int (fun _ _ => rfl)) pe_int (fun _ _ => rfl)) pe_int (fun _ _ => rfl)) pa_nil)) pe_int))
    (pss_cons (ps_set (i := 3) scWays.nd rfl (Or.inl rfl) (pe_tup (pa_cons (pe_ix ix_D (pe_ix ix_D (pv 0) pe_int (fun _ _ => rfl)) pe_int (fun _ _ => rfl)) (pa_cons (pe_op op_rep1 (pe_tup (pa_cons (pe_ix ix_D (pe_ix ix_D (pv 0) pe_int (fun _ _ => rfl)) pe_int (fun _ _ => rfl)) pa_nil)) (pv 1)) pa_nil))))
    (pss_cons (ps_par (i := 4) (j := 5) rfl scWays.nd rfl rfl (by decide) rfl rfl (pa_cons (pe_callTy (call_dictN rfl hu) (by rfl) md boot_dict (pa_cons (pe_lst (pa_cons (pe_tup (pa_cons (pv 3) (pa_cons (pe_tup pa_nil) pa_nil))) pa_nil)) pa_nil)) (pa_cons (pe_lst (pa_cons (pe_tup (pa_cons (pe_tup pa_nil) (pa_cons (pv 3) pa_nil))) pa_nil)) pa_nil)) rfl)
    (pss_cons (ps_while PassesOwn.never (pt_cmpR (op_neL hu lay_wsD depth_wsD) (pv 5) (pe_lst pa_nil) (nomark _))
      (pss_cons (ps_set (i := 6) scWays.nd rfl (Or.inr rfl) pe_newN)
      (pss_cons (ps_for PassesOwn.never rfl (pi_list (pv 5)) (pg_tup rfl (pgs_cons (pg_name (i := 7) scWays.nd rfl (Or.inl rfl)) (pgs_cons (pg_name (i := 8) scWays.nd rfl (Or.inl rfl)) pgs_nil)))
        (pss_one (ps_for PassesOwn.never rfl (pi_range1 (by rfl) mr (pa_cons (pv 1) pa_nil)) (pg_name (i := 9) scWays.nd rfl (Or.inl rfl))
          (pss_one (ps_for PassesOwn.never rfl (pi_range1 (by rfl) mr (pa_cons (pe_op op_add (pv 2) pe_int) pa_nil)) (pg_name (i := 10) scWays.nd rfl (Or.inl rfl))
            (pss_cons (ps_par (i := 11) (j := 12) rfl scWays.nd rfl rfl (by decide) rfl rfl (pa_cons (pe_call GT hr (by rfl) gT FT.kp bT .nil pass0 (pa_cons (pv 0) (pa_cons (pv 8) (pa_cons (pe_tup (pa_cons (pv 9) (pa_cons (pv 10) pa_nil))) pa_nil)))) (pa_cons (pe_op op_catD (pv 7) (pe_tup (pa_cons (pe_tup (pa_cons (pv 9) (pa_cons (pv 10) pa_nil))) pa_nil))) pa_nil)) rfl)
            (pss_one (ps_if (PW.pt (pw_and (pt_cmp (pc_notinN hu (pv 11) (pv 4)) (by rfl)) (pw_and1 (PW.pt (pw_or (pt_cmp (pc_notinN hu (pv 11) (pv 6)) (by rfl)) (pw_or1 (pt_cmpR (op_ltW hu) (pv 12) (pe_getN hu (pv 6) (pv 11) (fun _ _ => rfl)) (nomark _))))))))
              (pss_one (ps_putN hu (pv 6) (pv 11) (pv 12) rfl)) pss_nil))))))))
      (pss_cons (ps_lock (ps_setLc (i := 5) (own := [("_law_own", 13)]) (g := gName 13) (tt := tYes) (te := tTup (tCons (tGetN P w K (tVar 6) (tVar 13)) (tCons (tVar 13) tNil))) rfl scWays.nd rfl rfl (sw_true rfl rfl rfl (by decide +kernel)) (pi_keysN (pv 6)) (blkOk_by (N := nWays) (sc := defScope sWays) (by decide +kernel))
          (fun _ _ _ _ _ => pg_name (i := 13) scWays.nd rfl (Or.inl rfl)) (fun _ _ _ _ _ => pts_nil)
          (fun _ _ _ _ _ => pe_tup (pa_cons (pe_getNK rfl rfl rfl hu (pv 6) (pv 13) (fun _ _ => rfl)) (pa_cons (pv 13) pa_nil)))))
      (pss_one (ps_expr (pe_updN hu (pv 4) (pv 6) ⟨rfl, rfl, rfl, rfl⟩)))))))
    (pss_one (ps_ret (pv 4)))))), ?_⟩
  rw [show L2.start nWays [x, V.int ((m : Nat) : Int)] = [some x, some (V.int ((m : Nat) : Int)), none, none, none, none, none, none, none, none, none, none, none, none] from rfl]
  -- letters
  obtain ⟨ls, ln, e1, e2, _, _⟩ := W.at (f := 0) (h := 0) (l := 0) W.F0 W.n0 (Nat.zero_le _)
  have hl := W.line ls (List.mem_of_getElem? e1) ln (List.mem_of_getElem? e2)
  refine ⟨_, rfl, _, 3, _, NoL, hx, rfl, rfl, fun v1 h1 => ⟨_, 0, lsD ls, NoL, h1, rfl, by rw [List.getElem?_map, e1]; rfl, fun v2 h2 => ⟨_, 0, lnD ln, NoL, h2, rfl, by rw [List.getElem?_map, e2]; rfl, fun v3 h3 => ?_⟩⟩⟩
  obtain ⟨a, xs, rfl, hS, hD⟩ := h3.tupI
  refine ⟨a, xs, rfl, .inr hS, _, _, rfl, rfl, ?_⟩
  have eL : ((xs.length : Nat) : Int) - 1 = ((L : Nat) : Int) := by
    rw [hD.length, List.length_map, hl]
    omega
  dsimp only
  rw [eL]
  -- first
  refine ⟨_, rfl, _, 2, _, NoL, hx, rfl, rfl, fun v1 g1 => ⟨_, 0, nD b.bf, NoL, g1, rfl, rfl, fun v2 g2 => ?_⟩⟩
  refine ⟨_, rfl, _, 2, _, NoL, hx, rfl, rfl, fun v3 g3 => ⟨_, 1, nD b.bh, NoL, g3, rfl, rfl, fun v4 g4 => ?_⟩⟩
  refine ⟨(by show 1 ≤ sizeLine; decide), fun t nt => ?_⟩
  refine ⟨_, rfl, t, m, v4, rfl, rfl, .inl (.inl upd_same), by omega, by omega, fun p H2 s2 hp => ?_⟩
  have s1 : Same H (upd H t (.tup [v4])) := same_new nt
  refine ⟨(by show 2 ≤ sizeLine; decide), fun r nr => ?_⟩
  have s3 : Same H2 (upd H2 r (.tup [v2, .ref p])) := same_new nr
  have s03 := (s1.trans s2).trans s3
  have hf : Dq K (upd H2 r (.tup [v2, .ref p])) NoL (.ref r) (sD (first b m)) := by
    refine .tup (.inl (.inl upd_same)) (.cons (g2.sm s03) (.cons (.tup ((Tk.same s3).seq hp) ?_) .nil))
    obtain rfl := g4.intI
    have h := Dqs.ofNats (K := K) (H := upd H2 r (.tup [v2, .ref p])) (N := NoL) (List.replicate m b.bh)
    rw [List.map_replicate] at h
    exact h
  generalize upd H2 r (.tup [v2, .ref p]) = H3 at hf s03
  have k1 : 1 ≤ m := by omega
  -- found, now
  refine ⟨_, rfl, Nat.zero_le _, fun t0 nt0 => ⟨(by show 2 ≤ sizeLine; decide), fun t1 nt1 => ⟨(by show 1 ≤ sizeLine; decide), fun l0 nl0 => ?_⟩⟩⟩
  have sa := same_new (o := .tup []) nt0
  have sb := same_new (o := .tup [V.ref r, V.ref t0]) nt1
  have sc := same_new (o := .lst [V.ref t1]) nl0
  have sabc := (sa.trans sb).trans sc
  refine ⟨l0, t1, first b m, [], .ref r, .ref t0, rfl, upd_same, sc _ _ upd_same, hf.sm sabc, .tup (.inl (.inl ((sb.trans sc) _ _ upd_same))) .nil, fun dd H5 ndd to5 => ?_⟩
  obtain ⟨o5, rfl⟩ := to5.ex
  have s5 := same_new (o := o5) ndd
  have s35 := sabc.trans s5
  have ndH : H dd = none := (s03.trans sabc).free ndd
  refine ⟨Nat.zero_le _, fun t2 nt2 => ⟨_, rfl, (by show 2 ≤ sizeLine; decide), fun t3 nt3 => ⟨(by show 1 ≤ sizeLine; decide), fun l8 nl8 => ⟨_, _, rfl, ?_⟩⟩⟩⟩
  have sd := same_new (o := .tup []) nt2
  have se := same_new (o := .tup [V.ref t2, V.ref r]) nt3
  have sf := same_new (o := .lst [V.ref t3]) nl8
  have sdef := (sd.trans se).trans sf
  refine ⟨fun μ σ H8 => ∃ (k : Nat) (D lay : List (Std × Way)) (l8 : Addr) (us : List V) (y6 y7 y8 y9 y10 y11 y12 : Option V), μ = 2 * (1000 - D.length) + (if lay = [] then 0 else 1) ∧ σ = [some x, some (V.int ((m : Nat) : Int)), some (V.int ((L : Nat) : Int)), some (V.ref r), some (V.ref dd), some (V.ref l8), y6, y7, y8, y9, y10, y11, y12, none] ∧ Same H H8 ∧ DicAt P w K H8 dd D ∧
    H8 l8 = some (.lst us) ∧ Dqs K H8 NoL us (lay.map wsD) ∧ Lap (turn b) (chs L m) (first b m) k D lay ∧ k ≤ D.length ∧ (lay ≠ [] → k < D.length), ⟨_, 0, [(first b m, [])], [(first b m, [])], l8, [V.ref t3], none, none, none, none, none, none, none, rfl, rfl, (s03.trans s35).trans sdef, to5.at'.same sdef, upd_same, ?_, .first, Nat.zero_le _, fun _ => Nat.zero_lt_one⟩, ?_⟩
  · exact .one (.tup (.inl (.inl (sf _ _ upd_same))) (.cons (.tup (.inl (.inl ((se.trans sf) _ _ upd_same))) .nil) (.one (hf.sm (s35.trans sdef)))))
  rintro μ σ H8 ⟨k, D, lay, l8, us, y6, y7, y8, y9, y10, y11, y12, rfl, rfl, s8, dic, hl8, hus, LP, hkD, hk⟩
  have hD := lap_few W LP
  refine ⟨_, rfl, Nat.zero_le _, fun l9 nl9 => ?_⟩
  have s9 : Same H8 (upd H8 l9 (.lst [])) := same_new nl9
  refine ⟨l8, l9, us, lay, rfl, rfl, s9 _ _ hl8, hus.sm s9, upd_same, _, rfl, ?_⟩
  by_cases hne : lay = []
  · have he : (!lay.isEmpty) = false := by rw [hne]; rfl
    rw [he]
    show if false = true then _ else _
    refine iteF ?_
    rw [hne] at LP
    exact ⟨_, rfl, q dd D _ (s8.trans s9) ndH (dic.same s9) ⟨LP.nodup, LP.full⟩ (by omega) fun s0 u0 h0 => by have := ((LP.all s0 u0).mp h0).2; omega⟩
  have hk' := hk hne
  have he : (!lay.isEmpty) = true := by
    cases hh : lay with
    | nil => exact absurd hh hne
    | cons _ _ => rfl
  rw [he]
  refine iteT ⟨fun σ' H' => ∃ μ', μ' < 2 * (1000 - D.length) + (if lay = [] then 0 else 1) ∧ ∃ (k : Nat) (D lay : List (Std × Way)) (l8 : Addr) (us : List V) (y6 y7 y8 y9 y10 y11 y12 : Option V), μ' = 2 * (1000 - D.length) + (if lay = [] then 0 else 1) ∧ σ' = [some x, some (V.int ((m : Nat) : Int)), some (V.int ((L : Nat) : Int)), some (V.ref r), some (V.ref dd), some (V.ref l8), y6, y7, y8, y9, y10, y11, y12, none] ∧ Same H H' ∧ DicAt P w K H' dd D ∧
    H' l8 = some (.lst us) ∧ Dqs K H' NoL us (lay.map wsD) ∧ Lap (turn b) (chs L m) (first b m) k D lay ∧ k ≤ D.length ∧ (lay ≠ [] → k < D.length), fun σ' H' h => h, ?_⟩
  have x9 := hx.sm (s8.trans s9)
  have dic9 := dic.same s9
  have hl9 := s9 _ _ hl8
  have hus9 := hus.sm s9
  have s89 := s8.trans s9
  generalize upd H8 l9 (.lst []) = H9 at x9 dic9 hl9 hus9 s89
  have lus := hus9.length
  rw [List.length_map] at lus
  -- fresh = {}
  refine fun f H10 nf to10 => ?_
  obtain ⟨o10, rfl⟩ := to10.ex
  have s10 := same_new (o := o10) nf
  have fdd : f ≠ dd := fun e => by
    obtain ⟨xs, ex, _⟩ := dic9.ex
    rw [e, ex] at nf
    cases nf
  refine ⟨_, rfl, l8, rfl, ⟨us, .inl (.inl (s10 _ _ hl9))⟩, ?_⟩
  refine for_it (walk_list (xs := us)) (fun i σ Hc => ∃ (y7 y8 y9 y10 y11 y12 : Option V), σ = [some x, some (V.int ((m : Nat) : Int)), some (V.int ((L : Nat) : Int)), some (V.ref r), some (V.ref dd), some (V.ref l8), some (V.ref f), y7, y8, y9, y10, y11, y12, none] ∧ Same H9 Hc ∧ DicAt P w K Hc f (lo D (candsTo b L m lay i 0))) ?_ (fun i σ Hc _ hp => ?_) (fun i v σ Hc0 Hc hi hp hyv => ?_) (fun σ Hc hp => ?_)
  · refine ⟨_, _, _, _, _, _, rfl, s10, ?_⟩
    have e : lo D (candsTo b L m lay 0 0) = [] := by
      rw [candsTo_zero]
      rfl
    rw [e]
    exact to10.at'
  · obtain ⟨_, _, _, _, _, _, rfl, sc, _⟩ := hp
    exact .inl (.inl (sc _ _ hl9))
  · obtain ⟨y7, y8, y9, y10, y11, y12, rfl, sc, dc⟩ := hp
    obtain ⟨rfl, hv⟩ := hyv
    obtain ⟨e, he, hve⟩ := hus9.getV hv
    obtain ⟨p, hp⟩ := get_some (l := lay) (i := i) (by omega)
    rw [List.getElem?_map, hp] at he
    obtain rfl : wsD p = e := Option.some.inj he
    have pin := List.mem_of_getElem? hp
    have pk := (LP.top p.1 p.2).mp pin
    have pS := best_ok W pk.1
    obtain ⟨ta, txs, rfl, tS, tD'⟩ := (hve.sm sc).tupI
    obtain ⟨wv, sv, rfl, hw', hs'⟩ := (show Dqs K Hc NoL txs [wD p.2, sD p.1] from tD').two
    refine ⟨ta, _, rfl, tS, rfl, _, _, rfl, _, _, rfl, rfl, ?_⟩
    refine ⟨_, rfl, ((m : Nat) : Int), rfl, by omega, by omega, ?_⟩
    rw [show (((m : Nat) : Int)).toNat = m from rfl]
    have tkc : Tk H9 Hc := .same sc
    refine for_range (lo := 0) (n := m) (fun pl σ Hd => ∃ (y9 y10 y11 y12 : Option V), σ = [some x, some (V.int ((m : Nat) : Int)), some (V.int ((L : Nat) : Int)), some (V.ref r), some (V.ref dd), some (V.ref l8), some (V.ref f), some wv, some sv, y9, y10, y11, y12, none] ∧ Same H9 Hd ∧ Tk Hc Hd ∧ DicAt P w K Hd f (lo D (candsTo b L m lay i (pl * (L + 1))))) ?_ (fun pl σ Hd hpl hq => ?_) (fun σ Hd hq => ?_)
    · refine ⟨_, _, _, _, rfl, sc, .refl _, ?_⟩
      rw [Nat.zero_mul]
      exact dc
    · obtain ⟨y9, y10, y11, y12, rfl, sd, tkd, dd'⟩ := hq
      rw [show (0 : Int) + ((pl : Nat) : Int) = (pl : Int) from Int.zero_add _]
      refine ⟨_, rfl, _, _, rfl, rfl, ((L : Nat) : Int) + 1, rfl, by omega, by have := W.Ls; omega, ?_⟩
      rw [show (((L : Nat) : Int) + 1).toNat = L + 1 by omega]
      refine for_range (lo := 0) (n := L + 1) (fun lt σ He => ∃ (y10 y11 y12 : Option V), σ = [some x, some (V.int ((m : Nat) : Int)), some (V.int ((L : Nat) : Int)), some (V.ref r), some (V.ref dd), some (V.ref l8), some (V.ref f), some wv, some sv, some (V.int ((pl : Nat) : Int)), y10, y11, y12, none] ∧ Same H9 He ∧ Tk Hc He ∧ DicAt P w K He f (lo D (candsTo b L m lay i (pl * (L + 1) + lt)))) ?_ (fun lt σ He hlt hq => ?_) (fun σ He hq => ?_)
      · exact ⟨_, _, _, rfl, sd, tkd, dd'⟩
      · obtain ⟨y10, y11, y12, rfl, se, tke, de⟩ := hq
        rw [show (0 : Int) + ((lt : Nat) : Int) = (lt : Int) from Int.zero_add _]
        have hc := chs_get (L := L) (m := m) (p := pl) (l := lt) hpl (by omega)
        refine ⟨_, rfl, _, rfl, _, rfl, _, rfl, (by show 2 ≤ sizeLine; decide), fun tc ntc => ?_⟩
        have sg := same_new (o := .tup [V.int ((pl : Nat) : Int), V.int ((lt : Nat) : Int)]) ntc
        refine ⟨x, sv, .ref tc, b, FF, n, L, m, p.1, (pl, lt), rfl, x9.sm (se.trans sg), hs'.tk (tke.trans (.same sg)), .tup (.inl (.inl upd_same)) (.cons (.int _) (.one (.int _))), W, pS, by omega, hpl, by show lt ≤ L; omega, fun v7 Hf sh h7 => ?_⟩
        refine ⟨_, rfl, _, rfl, _, rfl, (by show 2 ≤ sizeLine; decide), fun td ntd => ⟨(by show 1 ≤ sizeLine; decide), fun te nte => ?_⟩⟩
        have si := same_new (o := .tup [V.int ((pl : Nat) : Int), V.int ((lt : Nat) : Int)]) ntd
        have sj := same_new (o := .tup [V.ref td]) nte
        have sgj := ((sg.trans sh).trans si).trans sj
        refine ⟨p.2.map cD, [cD (pl, lt)], hw'.tk (tke.trans (.same sgj)), .tup (.inl (.inl upd_same)) (.one (.tup (.inl (.inl (sj _ _ upd_same))) (.cons (.int _) (.one (.int _))))), by rw [List.length_map, pk.2]; show k + 1 ≤ 100000; omega, fun vn Hg sk hvn => ⟨_, _, rfl, ?_⟩⟩
        rw [← wD_snoc] at hvn
        have sgk := sgj.trans sk
        have dg := de.same sgk
        have hlat := (((h7.sm si).sm sj).sm sk)
        have seg := se.trans sgk
        have dicg := dic9.same seg
        have hsn := lo_snoc D (candsTo b L m lay i (pl * (L + 1) + lt)) (turn b p.1 (pl, lt), p.2 ++ [(pl, lt)])
        rw [← candsTo_succ hp hc] at hsn
        have hfew := lo_few W LP i (pl * (L + 1) + lt)
        have stay : ∃ (y10 y11 y12 : Option V), [some x, some (V.int ((m : Nat) : Int)), some (V.int ((L : Nat) : Int)), some (V.ref r), some (V.ref dd), some (V.ref l8), some (V.ref f), some wv, some sv, some (V.int ((pl : Nat) : Int)), some (V.int ((lt : Nat) : Int)), some v7, some vn, none] = [some x, some (V.int ((m : Nat) : Int)), some (V.int ((L : Nat) : Int)), some (V.ref r), some (V.ref dd), some (V.ref l8), some (V.ref f), some wv, some sv, some (V.int ((pl : Nat) : Int)), y10, y11, y12, none] ∧ Same H9 Hg ∧ Tk Hc Hg ∧ DicAt P w K Hg f (lo D (candsTo b L m lay i (pl * (L + 1) + lt))) := ⟨_, _, _, rfl, seg, tke.trans (.same sgk), dg⟩
        refine ⟨_, rfl, _, rfl, dd, D, turn b p.1 (pl, lt), rfl, dicg.r, hlat, _, rfl, ?_⟩
        have put : lo D (candsTo b L m lay i (pl * (L + 1) + lt + 1)) = sto (lo D (candsTo b L m lay i (pl * (L + 1) + lt))) (turn b p.1 (pl, lt)) (p.2 ++ [(pl, lt)]) → ∀ H4, DicTo P w K Hg f (sto (lo D (candsTo b L m lay i (pl * (L + 1) + lt))) (turn b p.1 (pl, lt)) (p.2 ++ [(pl, lt)])) H4 →
            ∃ (y10 y11 y12 : Option V), [some x, some (V.int ((m : Nat) : Int)), some (V.int ((L : Nat) : Int)), some (V.ref r), some (V.ref dd), some (V.ref l8), some (V.ref f), some wv, some sv, some (V.int ((pl : Nat) : Int)), some (V.int ((lt : Nat) : Int)), some v7, some vn, none] = [some x, some (V.int ((m : Nat) : Int)), some (V.int ((L : Nat) : Int)), some (V.ref r), some (V.ref dd), some (V.ref l8), some (V.ref f), some wv, some sv, some (V.int ((pl : Nat) : Int)), y10, y11, y12, none] ∧ Same H9 H4 ∧ Tk Hc H4 ∧ DicAt P w K H4 f (lo D (candsTo b L m lay i (pl * (L + 1) + (lt + 1)))) := fun e H4 to4 => by
          obtain ⟨o4, rfl⟩ := to4.ex
          refine ⟨_, _, _, rfl, fun a o ea => ?_, (tke.trans (.same sgk)).trans (.upd dg.notup), ?_⟩
          · rw [upd_ne (ne_of_none ea nf)]
            exact seg a o ea
          · rw [← Nat.add_assoc, e]
            exact to4.at'
        have stay' : lo D (candsTo b L m lay i (pl * (L + 1) + lt + 1)) = lo D (candsTo b L m lay i (pl * (L + 1) + lt)) →
            ∃ (y10 y11 y12 : Option V), [some x, some (V.int ((m : Nat) : Int)), some (V.int ((L : Nat) : Int)), some (V.ref r), some (V.ref dd), some (V.ref l8), some (V.ref f), some wv, some sv, some (V.int ((pl : Nat) : Int)), some (V.int ((lt : Nat) : Int)), some v7, some vn, none] = [some x, some (V.int ((m : Nat) : Int)), some (V.int ((L : Nat) : Int)), some (V.ref r), some (V.ref dd), some (V.ref l8), some (V.ref f), some wv, some sv, some (V.int ((pl : Nat) : Int)), y10, y11, y12, none] ∧ Same H9 Hg ∧ Tk Hc Hg ∧ DicAt P w K Hg f (lo D (candsTo b L m lay i (pl * (L + 1) + (lt + 1)))) := fun e => by
          rw [← Nat.add_assoc, e]
          exact stay
        by_cases hk1 : turn b p.1 (pl, lt) ∈ keys D
        · have e0 : (if true = true then !decide (turn b p.1 (pl, lt) ∈ keys D) else decide (turn b p.1 (pl, lt) ∈ keys D)) = false := by
            rw [if_pos rfl, decide_eq_true hk1]
            rfl
          rw [e0]
          show if false = true then _ else _
          refine iteF ?_
          show if false = true then _ else _
          refine iteF (stay' ?_)
          rw [hsn]
          exact if_pos hk1
        · have e0 : (if true = true then !decide (turn b p.1 (pl, lt) ∈ keys D) else decide (turn b p.1 (pl, lt) ∈ keys D)) = true := by
            rw [if_pos rfl, decide_eq_false hk1]
            rfl
          rw [e0]
          show if true = true then _ else _
          have hsn2 : addL (keys D) (lo D (candsTo b L m lay i (pl * (L + 1) + lt))) (turn b p.1 (pl, lt), p.2 ++ [(pl, lt)]) = _ := if_neg hk1
          rw [hsn2] at hsn
          refine iteT ⟨_, rfl, _, rfl, f, _, turn b p.1 (pl, lt), rfl, dg.r, hlat, _, rfl, ?_⟩
          by_cases hk2 : turn b p.1 (pl, lt) ∈ keys (lo D (candsTo b L m lay i (pl * (L + 1) + lt)))
          · have e0 : (if true = true then !decide (turn b p.1 (pl, lt) ∈ keys (lo D (candsTo b L m lay i (pl * (L + 1) + lt)))) else decide (turn b p.1 (pl, lt) ∈ keys (lo D (candsTo b L m lay i (pl * (L + 1) + lt))))) = false := by
              rw [if_pos rfl, decide_eq_true hk2]
              rfl
            rw [e0]
            show if false = true then _ else _
            obtain ⟨ov, hov⟩ : ∃ v, look (lo D (candsTo b L m lay i (pl * (L + 1) + lt))) (turn b p.1 (pl, lt)) = some v := by
              cases hh : look (lo D (candsTo b L m lay i (pl * (L + 1) + lt))) (turn b p.1 (pl, lt)) with
              | none => exact absurd hk2 (look_none.mp hh)
              | some v => exact ⟨v, rfl⟩
            rw [hov] at hsn
            refine iteF ⟨_, rfl, _, rfl, _, rfl, f, _, turn b p.1 (pl, lt), ov, rfl, dg.r, hlat, hov, fun vv hvv => ⟨p.2 ++ [(pl, lt)], ov, hvn, hvv, _, rfl, ?_⟩⟩
            show if wlt (p.2 ++ [(pl, lt)]) ov = true then _ else _
            refine ite2 (fun hw => ?_) (fun hw => ?_)
            · refine ⟨_, rfl, _, rfl, _, rfl, f, _, turn b p.1 (pl, lt), p.2 ++ [(pl, lt)], rfl, dg, by omega, hlat, hvn, put ?_⟩
              rw [hsn]
              exact if_pos hw
            · refine stay' ?_
              rw [hsn]
              exact if_neg hw
          · have e0 : (if true = true then !decide (turn b p.1 (pl, lt) ∈ keys (lo D (candsTo b L m lay i (pl * (L + 1) + lt)))) else decide (turn b p.1 (pl, lt) ∈ keys (lo D (candsTo b L m lay i (pl * (L + 1) + lt))))) = true := by
              rw [if_pos rfl, decide_eq_false hk2]
              rfl
            rw [e0]
            show if true = true then _ else _
            refine iteT ?_
            show if true = true then _ else _
            rw [look_none.mpr hk2] at hsn
            exact iteT ⟨_, rfl, _, rfl, _, rfl, f, _, turn b p.1 (pl, lt), p.2 ++ [(pl, lt)], rfl, dg, by omega, hlat, hvn, put hsn⟩
      · obtain ⟨y10, y11, y12, rfl, se, tke, de⟩ := hq
        refine ⟨_, _, _, _, rfl, se, tke, ?_⟩
        rw [Nat.succ_mul]
        exact de
    · obtain ⟨y9, y10, y11, y12, rfl, sd, tkd, dd'⟩ := hq
      rw [← length_chs L m, candsTo_all hp, ← candsTo_zero] at dd'
      exact ⟨_, _, _, _, _, _, rfl, sd, dd'⟩
  · obtain ⟨y7, y8, y9, y10, y11, y12, rfl, sc, dc⟩ := hp
    have hfew := lo_few W LP us.length 0
    rw [candsTo_zero, lus, List.take_length] at dc hfew
    have LP' := LP.goL
    have hlen := LP.lenL
    have hD' := lap_few W LP'
    show tSeq _ _ _ _ Hc
    obtain ⟨FR, hFR⟩ : ∃ FR, FR = lo D (cands (turn b) (chs L m) lay) := ⟨_, rfl⟩
    rw [show (cands (turn b) (chs L m) lay).foldl (addL (keys D)) [] = FR from hFR.symm] at LP' hlen hD'
    rw [← hFR] at dc hfew
    -- now = [(fresh[own], own) for own in fresh]
    obtain ⟨xs, ex, kx⟩ := dc.ex
    refine ⟨f, _, ex, trivial, fun od => ?_⟩
    have tl : Tk Hc (upd Hc f (.frz od (DN P w f xs))) := .upd (noTup_ext ex)
    refine ⟨_, rfl, f, od, FR, xs, rfl, dc.sys, upd_same, kx.tk tl, fun Dl nDl => ?_⟩
    have Dlf : Dl ≠ f := fun e => by rw [e, upd_same] at nDl; cases nDl
    refine lc_it walk_keysN (fun i H3 => ∃ acc, Grow (upd Hc f (.frz od (DN P w f xs))) Dl acc H3 ∧ Dqs K H3 NoL acc ((FR.take i).map wsD)) ⟨[], .start nDl, .nil⟩ (fun i H3 _ hg => ?_) (fun i v H3' H3 hi hg hy => ?_) (fun H3 hg => ?_)
    · obtain ⟨acc, g, _⟩ := hg
      exact ⟨g.same _ _ upd_same, kx.tk (tl.trans (.same g.same))⟩
    · obtain ⟨acc, g, ga⟩ := hg
      obtain ⟨rfl, p, hp, hv⟩ := hy
      refine ⟨rfl, kept ?_⟩
      have lk : look FR p.1 = some p.2 := look_some dc.nodup (List.mem_of_getElem? hp)
      refine ⟨_, rfl, _, rfl, f, FR, p.1, p.2, rfl, ⟨dc.sys, dc.few, dc.nodup, xs, .inr ⟨od, g.same _ _ upd_same⟩, kx.tk (tl.trans (.same g.same))⟩, hv, lk, fun vw hvw => ⟨_, rfl, (by show 2 ≤ sizeLine; decide), fun tt ntt => ?_⟩⟩
      have st := same_new (o := .tup [vw, v]) ntt
      have gt := g.on st
      have la := ga.length
      rw [List.length_map, List.length_take] at la
      refine ⟨acc, gt.at', small1 (by omega), acc ++ [.ref tt], gt.push _, ?_⟩
      rw [take_snoc hp, List.map_append]
      exact ((ga.sm st).append (.one (.tup (.inl (.inl upd_same)) (.cons (hvw.sm st) (.one (hv.sm st)))))).tk (gt.tk _)
    · obtain ⟨acc, g, ga⟩ := hg
      rw [List.take_length] at ga
      have hf3 := g.same _ _ (show (upd Hc f (.frz od (DN P w f xs))) f = _ from upd_same)
      refine ⟨hf3, ?_⟩
      have t3u : Tk H3 (upd H3 f (DN P w f xs)) := .upd (noTup_frzx hf3)
      have tcu := (tl.trans (.same g.same)).trans t3u
      have keepu : ∀ a o, a ≠ f → Hc a = some o → (upd H3 f (DN P w f xs)) a = some o := fun a o na e => by
        rw [upd_ne na]
        exact g.same _ _ (by rw [upd_ne na]; exact e)
      have dicc := dic9.same sc
      obtain ⟨ys, ey, _⟩ := dicc.ex
      have du : DicAt P w K (upd H3 f (DN P w f xs)) dd D := dicc.keep (by rw [keepu _ _ fdd.symm ey, ey]) tcu
      have fu : DicAt P w K (upd H3 f (DN P w f xs)) f FR := ⟨dc.sys, dc.few, dc.nodup, xs, upd_same, kx.tk tcu⟩
      have hDl : (upd H3 f (DN P w f xs)) Dl = some (.lst acc) := by rw [upd_ne Dlf]; exact g.at'
      have hDne : D ≠ [] := fun z => by
        have e : D.length = 0 := by rw [z]; rfl
        omega
      refine ⟨_, rfl, dd, D, rfl, du, _, rfl, du, hDne, f, FR, rfl, fdd.symm, fu, by omega, fun H4 to4 => ?_⟩
      obtain ⟨o4, rfl⟩ := to4.ex
      have Dld : Dl ≠ dd := fun e => by rw [e, (du.ex.choose_spec).1] at hDl; cases hDl
      have t4 : Tk (upd H3 f (DN P w f xs)) (upd (upd H3 f (DN P w f xs)) dd o4) := .upd du.notup
      refine ⟨2 * (1000 - (mrg D FR).length) + (if FR = [] then 0 else 1), ?_, k + 1, mrg D FR, FR, Dl, acc, _, _, _, _, _, _, _, rfl, rfl, fun a o e => ?_, to4.at', ?_, (ga.tk (t3u.trans t4)), LP', by omega, fun hF => ?_⟩
      · rw [if_neg hne]
        by_cases hF : FR = []
        · rw [if_pos hF, hlen, hF]
          show 2 * (1000 - (D.length + 0)) + 0 < _
          omega
        · rw [if_neg hF]
          have := List.length_pos_iff.mpr hF
          omega
      · rw [upd_ne (ne_of_none e ndH)]
        exact keepu a o (fun z => by have e9 := s89 a o e; rw [z, nf] at e9; cases e9) (sc a o (s89 a o e))
      · rw [upd_ne Dld]
        exact hDl
      · have := List.length_pos_iff.mpr hF
        omega
end
end K12

set_option Elab.async false
set_option linter.all false
set_option maxRecDepth 100000
set_option maxHeartbeats 4000000
namespace K12
open PySem PySem.Spec PyProof.Rows L2
/-! ### hard data, made soft -/
theorem okD_tup {n : Nat} {ds : List PyData} (hl : ds.length ≤ 1000) (h : ∀ d, d ∈ ds → okD n d = true) : okD (n + 1) (.tuple ds) = true := by
  show (decide (ds.length ≤ 1000) && ds.all (okD n)) = true
  rw [decide_eq_true hl, Bool.true_and]
  exact List.all_eq_true.mpr h
theorem okD_lst {n : Nat} {ds : List PyData} (hl : ds.length ≤ 1000) (h : ∀ d, d ∈ ds → okD n d = true) : okD (n + 1) (.list ds) = true := by
  show (decide (ds.length ≤ 1000) && ds.all (okD n)) = true
  rw [decide_eq_true hl, Bool.true_and]
  exact List.all_eq_true.mpr h
theorem okD_soft : ∀ (n : Nat) (d : PyData), okD n d = true → okD n (softD n d) = true ∧ hardD n (softD n d) = hardD n d := by
  intro n
  induction n with
  | zero =>
    intro d h
    by_cases hs : isSeq d = true
    · cases d with
      | list ds => obtain ⟨m, e, _⟩ := okD_list h; cases e
      | tuple ds => obtain ⟨m, e, _⟩ := okD_tuple h; cases e
      | none => cases hs
      | bool b => cases hs
      | int i => cases hs
      | str s => cases hs
      | dict p => cases hs
    · obtain ⟨a, b, c⟩ := okD_atom h (by simpa using hs)
      rw [c]
      exact ⟨h, rfl⟩
  | succ n ih =>
    intro d h
    by_cases hs : isSeq d = true
    · have both : ∀ ds : List PyData, ds.length ≤ 1000 → (∀ d, d ∈ ds → okD n d = true) → okD (n + 1) (.list (ds.map (softD n))) = true ∧ hardD (n + 1) (.list (ds.map (softD n))) = .tuple (ds.map (hardD n)) := fun ds hl ha => by
        refine ⟨okD_lst (by rw [List.length_map]; exact hl) fun d hd => ?_, ?_⟩
        · obtain ⟨e, he, rfl⟩ := List.mem_map.mp hd
          exact (ih e (ha e he)).1
        · show PyData.tuple ((ds.map (softD n)).map (hardD n)) = _
          rw [List.map_map]
          congr 1
          exact List.map_congr_left fun d hd => (ih d (ha d hd)).2
      cases d with
      | list ds =>
        obtain ⟨m, e, hl, ha⟩ := okD_list h
        cases e
        exact both ds hl ha
      | tuple ds =>
        obtain ⟨m, e, hl, ha⟩ := okD_tuple h
        cases e
        exact both ds hl ha
      | none => cases hs
      | bool b => cases hs
      | int i => cases hs
      | str s => cases hs
      | dict p => cases hs
    · obtain ⟨a, b, c⟩ := okD_atom h (by simpa using hs)
      rw [c]
      exact ⟨h, rfl⟩
/-- hard data of depth n -/
def Hd (n : Nat) (d : PyData) : Prop := okD n d = true ∧ hardD n d = d
theorem Hd.tup {n : Nat} {ds : List PyData} (hl : ds.length ≤ 1000) (h : ∀ d, d ∈ ds → Hd n d) : Hd (n + 1) (.tuple ds) := by
  refine ⟨okD_tup hl fun d hd => (h d hd).1, ?_⟩
  show PyData.tuple (ds.map (hardD n)) = _
  congr 1
  exact (List.map_congr_left fun d hd => (h d hd).2).trans (List.map_id _)
theorem Hd.atom {n : Nat} {d : PyData} (h : okD n d = true) (hs : isSeq d = false) : Hd n d := ⟨h, (okD_atom h hs).2.1⟩
theorem Hd.int (n : Nat) (i : Int) : Hd n (.int i) := .atom (by cases n <;> rfl) rfl
theorem Hd.bool (n : Nat) (b : Bool) : Hd n (.bool b) := .atom (by cases n <;> rfl) rfl
theorem Hd.tD {n : Nat} {ns : List Nat} (h : ns.length ≤ 1000) : Hd (n + 1) (tD ns) := .tup (by rw [List.length_map]; exact h) fun d hd => by
  obtain ⟨k, _, rfl⟩ := List.mem_map.mp hd
  exact .int _ _
theorem Hd.two {n : Nat} {d e : PyData} (h : Hd n d) (g : Hd n e) : Hd (n + 1) (.tuple [d, e]) := .tup (by show 2 ≤ 1000; decide) fun x hx => by
  rcases List.mem_cons.mp hx with rfl | hx
  · exact h
  · rw [List.mem_singleton.mp hx]
    exact g
theorem Hd.sD {n : Nat} {s : Std} (h : s.2.length ≤ 1000) : Hd (n + 2) (sD s) := .two (.int _ _) (.tD h)
theorem Hd.wD {n : Nat} {u : Way} (h : u.length ≤ 1000) : Hd (n + 2) (wD u) := .tup (by rw [List.length_map]; exact h) fun d hd => by
  obtain ⟨c, _, rfl⟩ := List.mem_map.mp hd
  exact .two (.int _ _) (.int _ _)
theorem Hd.hD {n m : Nat} {u : Way} (h : u.length ≤ 1000) : Hd (n + 3) (hD m u) := .two (.int _ _) (.wD h)
theorem Hd.four {n : Nat} {d e f g : PyData} (h1 : Hd n d) (h2 : Hd n e) (h3 : Hd n f) (h4 : Hd n g) : Hd (n + 1) (.tuple [d, e, f, g]) := .tup (by show 4 ≤ 1000; decide) fun x hx => by
  rcases List.mem_cons.mp hx with rfl | hx
  · exact h1
  rcases List.mem_cons.mp hx with rfl | hx
  · exact h2
  rcases List.mem_cons.mp hx with rfl | hx
  · exact h3
  · rw [List.mem_singleton.mp hx]
    exact h4
theorem Hd.bD {b : Book} {F n L : Nat} (W : b.WF F n L) : Hd 9 (bD b) := by
  have h1 := W.Fs
  have h2 := W.ns
  have h3 := W.Ls
  refine .four (.tup (by rw [List.length_map, W.ans]; omega) fun d hd => ?_) (.tD (by rw [W.hues]; omega)) (.two (.int _ _) (.int _ _)) (.tup (by rw [List.length_map, W.rows]; omega) fun d hd => ?_)
  · obtain ⟨k, _, rfl⟩ := List.mem_map.mp hd
    exact .bool _ _
  · obtain ⟨ls, hls, rfl⟩ := List.mem_map.mp hd
    refine .tup (by rw [List.length_map, W.lines ls hls]; omega) fun d hd => ?_
    obtain ⟨ln, hln, rfl⟩ := List.mem_map.mp hd
    refine .tup (by rw [List.length_map, W.line ls hls ln hln]; omega) fun d hd => ?_
    obtain ⟨r, hr, rfl⟩ := List.mem_map.mp hd
    have R := W.row ls hls ln hln r hr
    exact .four (.int _ _) (.int _ _) (.tD (by rw [R.kl]; omega)) (.tD (by rw [R.kr]; omega))
theorem isBook {b : Book} {F n L : Nat} (W : b.WF F n L) : IsBook (bD b) b ∧ IsBook (softD 9 (bD b)) b := by
  have h := Hd.bD W
  have g := okD_soft 9 _ h.1
  exact ⟨h, g.1, g.2.trans h.2⟩
theorem isStd {s : Std} (h : s.2.length ≤ 1000) : IsStd (sD s) s ∧ IsStd (softD 9 (sD s)) s := by
  have h : Hd 9 (sD s) := Hd.sD h
  have g := okD_soft 9 _ h.1
  exact ⟨h, g.1, g.2.trans h.2⟩
/-! ### _law_heard -/
abbrev sHeard : Stmt := topS 30
theorem scHeard : FnScope ["_law_book_here", "_law_stand"] ["_law_book_here", "_law_stand"] (defScope sHeard) := ⟨rfl, rfl, rfl, by decide +kernel, rfl, by decide +kernel, by decide +kernel⟩
def spHeard (K : PySem.W.Frag) : Sp := fun vs H Q _ => ∃ x y d g N N' b s F n L, vs = [x, y] ∧ Dq K H N x d ∧ Dq K H N' y g ∧ IsBook d b ∧ IsStd g s ∧ b.WF F n L ∧ 1 ≤ s.2.length ∧ s.2.length ≤ 5 ∧ F * n ^ s.2.length ≤ 900 ∧
  (∀ u, Best (turn b) (chs L s.2.length) (first b s.2.length) s u → ∀ v H', Same H H' → Dq K H' NoL v (hD s.2.length u) → Q v H') ∧
  ((∀ u, ¬ Best (turn b) (chs L s.2.length) (first b s.2.length) s u) → ∀ H', Same H H' → Q (.str "can not") H')
section
variable {P : Program} {w : World} {K : PySem.W.Frag} {mg : Str → Option Value} {base : Heap}
theorem ok_heard {f fH C : Addr} {fd fdH : FuncData} (F : Fun K "_law_heard" "_law_heard" sHeard f fd) (T : TxC K mg C) (FH : Fun K "history_to" "history_to" sHist fH fdH) (bH : Binds K fdH ["book", "stand"] []) (gH : mg "history_to" = some (.ref fH))
    (GH : FnOk P w K mg base (L2.CX P w) 11 fH fdH ["book", "stand"] (spHist K C)) : FnOk P w K mg base CX0 12 f fd ["_law_book_here", "_law_stand"] (spHeard K) := by
  refine F.ok scHeard (fun vs H Q E h => ?_) (fun cdv A outer s H vs Q E hr h => ?_)
  · obtain ⟨x, y, d, g, N, N', b, s, FF, n, L, rfl, _⟩ := h
    rfl
  obtain ⟨x, y, d, g, N, N', b, st, FF, n, L, rfl, hx, hy, hd, hg, W, h1, h5, hB, qY, qN⟩ := h
  refine ⟨_, pss_one (ps_try_only (tb := fun W => tRet (tCallS (spHist K C) (WE W) (tCons (tVar 0) (tCons (tVar 1) tNil)))) (ts := fun _ _ _ => tRet (tC (.str "can not"))) (Wout := fun _ _ _ _ => False) rfl rfl ⟨rfl, by decide, Or.inl T.gP⟩ takes0
    (fun W pn xe tk _ => pss_one (ps_ret (pe_callS GH hr rfl gH FH.kp bH (fun σ => passAt tk σ) (by exact (pa_cons (pv 0) (pa_cons (pv 1) pa_nil))))))
    (fun _ _ _ _ _ _ _ => pss_one (ps_ret pe_str))), ?_⟩
  exact ⟨_, rfl, _, rfl, x, y, d, g, N, N', b, st, FF, n, L, rfl, hx, hy, hd, hg, W, h1, h5, hB, fun u hb v H' s' hv => qY u hb v H' s' hv, fun hno H' s' => ⟨true, T.eP, fun _ a _ => qN hno H' s', fun z => nomatch z⟩⟩
end
end K12

set_option Elab.async false
set_option linter.all false
set_option maxRecDepth 100000
set_option maxHeartbeats 4000000
namespace K12
open PySem PySem.Spec PyProof.Rows L2
/-! ### _law_right -/
theorem call_len_seqK {X : Cx} {K : PySem.W.Frag} (h : X.K = K := by rfl) : CallR X (.builtin "len") (fun xs H Q => ∃ p ys, xs = [V.ref p] ∧ (SqL K H p ys ∨ SqT K H p ys) ∧ Q (.int (ys.length : Nat)) H) := by
  subst h
  intro pins s σ H xs us Q I r q
  exact call_len_seq pins s σ H xs us Q I r q
def dueD (m : Nat) : Option Way → PyData
  | some u => hD m u
  | none => .str "can not"
theorem shaped_due (m : Nat) : ∀ o : Option Way, SeqAt.shaped (dueD m o) = true
  | none => by
    show SeqAt.shaped (.str "can not") = true
    unfold SeqAt.shaped
    rw [PyData.canLay0, PyData.depth]
    decide +kernel
  | some u => by
    have h1 := lay_wD u
    have h2 := depth_wD u
    show SeqAt.shaped (.tuple [.int (m : Nat), wD u]) = true
    unfold SeqAt.shaped
    rw [PyData.canLay0, PyData.canLayAll0, PyData.canLayAll0, PyData.canLayAll0, h1, PyData.depth, PyData.depthAll, PyData.depthAll, PyData.depthAll, PyData.canLay0, PyData.depth]
    rw [Bool.true_and, Bool.true_and, Bool.true_and]
    exact decide_eq_true (by omega)
theorem eqv_due (m : Nat) : ∀ o : Option Way, PyData.eqv (dueD m o) (.str "can not") = o.isNone
  | none => by
    show PyData.eqv (.str "can not") (.str "can not") = true
    rw [PyData.eqv]
    decide
  | some u => by
    show PyData.eqv (.tuple [.int (m : Nat), wD u]) (.str "can not") = false
    rw [PyData.eqv]
    all_goals first | rfl | (intros; intro z; cases z)
abbrev sRight : Stmt := topS 31
abbrev nRight : List Str := ["_law_urn", "_law_book_here", "_law_size", "_law_many", "_law_lap", "_law_ways_here", "_law_soft", "_law_told", "_law_goals", "_law_goal", "_law_due"]
theorem scRight : FnScope nRight ["_law_urn"] (defScope sRight) := ⟨rfl, rfl, rfl, by decide +kernel, rfl, by decide +kernel, by decide +kernel⟩
def spRight : Sp := fun vs H Q _ => ∃ (u : Addr) (k : Nat), vs = [.ref u] ∧ Urn H u (k + 10000) ∧ ∀ H', Q (.bl true) H'
/-- what is heard, told by a dict of all ways -/
def spHeard2 (K : PySem.W.Frag) : Sp := fun vs H Q _ => ∃ x y d g N N' b s F n L m D, vs = [x, y] ∧ Dq K H N x d ∧ Dq K H N' y g ∧ IsBook d b ∧ IsStd g s ∧ b.WF F n L ∧ s.2.length = m ∧ 1 ≤ m ∧ m ≤ 5 ∧ F * n ^ m ≤ 900 ∧ Full (turn b) (chs L m) (first b m) D ∧
  ∀ v H', Same H H' → Dq K H' NoL v (dueD m (look D s)) → Q v H'
theorem heard_imp {K : PySem.W.Frag} (vs : List V) (H : Hp) (Q : VK) (E : XK) (h : spHeard2 K vs H Q E) : spHeard K vs H Q E := by
  obtain ⟨x, y, d, g, N, N', b, s, F, n, L, m, D, rfl, hx, hy, hd, hg, W, rfl, h1, h5, hB, full, q⟩ := h
  refine ⟨x, y, d, g, N, N', b, s, F, n, L, rfl, hx, hy, hd, hg, W, h1, h5, hB, fun u hb v H' s' hv => q v H' s' ?_, fun hno H' s' => q _ H' s' ?_⟩
  · rw [full.look hb]
    exact hv
  · rw [look_none.mpr fun hk => by
      obtain ⟨u, hu⟩ := mem_keys.mp hk
      exact hno u ((full.2 s u).mp hu)]
    exact .str _
theorem due_read {P : Program} {w : World} {K : PySem.W.Frag} {σ : L2.St} {H : Hp} {Q : VK} {dd : Addr} {D : List (Std × Way)} {m : Nat} {s : Std} {v : V} (h3 : σ[3]? = some (some (V.int ((m : Nat) : Int)))) (h5 : σ[5]? = some (some (V.ref dd))) (h9 : σ[9]? = some (some v))
    (dic : DicAt P w K H dd D) (hv : Dq K H NoL v (sD s)) (key : ∀ dv H2, Same H H2 → Dq K H2 NoL dv (dueD m (look D s)) → Q dv H2) :
    tIf (tB (tInN P w K false (tVar 9) (tVar 5))) (tTup (tCons (tVar 3) (tCons (tGetN P w K (tVar 5) (tVar 9)) tNil))) (tC (.str "can not")) σ H Q := by
  refine ⟨_, h9, _, h5, dd, D, s, rfl, dic.r, hv, _, rfl, ?_⟩
  by_cases hk : s ∈ keys D
  · obtain ⟨u, hu⟩ := mem_keys.mp hk
    have lk : look D s = some u := look_some dic.nodup hu
    have e0 : (if false = true then !decide (s ∈ keys D) else decide (s ∈ keys D)) = true := by
      rw [if_neg Bool.false_ne_true, decide_eq_true hk]
    rw [e0]
    refine iteT ⟨_, h3, _, h5, _, h9, dd, D, s, u, rfl, dic.r, hv, lk, fun vw hvw => ⟨(by show 2 ≤ sizeLine; decide), fun t nt => key _ _ (same_new nt) ?_⟩⟩
    rw [lk]
    exact .tup (.inl (.inl upd_same)) (.cons (.int _) (.one (hvw.sm (same_new nt))))
  · have e0 : (if false = true then !decide (s ∈ keys D) else decide (s ∈ keys D)) = false := by
      rw [if_neg Bool.false_ne_true, decide_eq_false hk]
    rw [e0]
    refine iteF (key _ _ (Same.refl H) ?_)
    rw [look_none.mpr hk]
    exact .str _
theorem ok_due {D : List (Std × Way)} {m : Nat} {s : Std} (lw : ∀ s u, (s, u) ∈ D → u.length ≤ 900) : okD 8 (dueD m (look D s)) = true := by
  cases h : look D s with
  | none => rfl
  | some u =>
    have := lw s u (look_mem h)
    exact (Hd.hD (n := 5) (m := m) (u := u) (by omega)).1
section
variable {P : Program} {w : World} {K : PySem.W.Frag} {mg : Str → Option Value} {base : Heap}
theorem ok_right {f fT fK fY fL fC fS fP fH fB : Addr} {fd fdT fdK fdY fdL fdC fdS fdP fdH fdB : FuncData} (F : Fun K "_law_right" "_law_right" sRight f fd)
    (FT : Fun K "_law_take" "_law_take" sTake fT fdT) (bT : Binds K fdT ["_law_urn", "_law_low_so"] []) (gT : mg "_law_take" = some (.ref fT))
    (FK : Fun K "_law_book" "_law_book" sBook fK fdK) (bK : Binds K fdK ["_law_urn"] []) (gK : mg "_law_book" = some (.ref fK)) (GK : FnOk P w K mg base CX0 4 fK fdK ["_law_urn"] (spBook K))
    (FY : Fun K "_law_ways" "_law_ways" sWays fY fdY) (bY : Binds K fdY ["_law_book_here", "_law_many"] []) (gY : mg "_law_ways" = some (.ref fY)) (GY : FnOk P w K mg base CX0 2 fY fdY ["_law_book_here", "_law_many"] (spWays P w K))
    (FL : Fun K "_law_lists" "_law_lists" sLists fL fdL) (bL : Binds K fdL ["_law_matter"] []) (gL : mg "_law_lists" = some (.ref fL)) (GL : FnOk P w K mg base CX0 10 fL fdL ["_law_matter"] (spSof K 10))
    (FC : Fun K "stands_come" "stands_come" sCome fC fdC) (bC : Binds K fdC ["book", "many"] []) (gC : mg "stands_come" = some (.ref fC)) (GC : FnOk P w K mg base CX0 11 fC fdC ["book", "many"] (spCome K))
    (FS : Fun K "_law_same" "_law_same" sSame fS fdS) (bS : Binds K fdS ["_law_got", "_law_goal"] []) (gS : mg "_law_same" = some (.ref fS)) (GS : FnOk P w K mg base CX0 10 fS fdS ["_law_got", "_law_goal"] (spSame K 10))
    (FP : Fun K "_law_pick" "_law_pick" sPick fP fdP) (bP : Binds K fdP ["_law_urn", "_law_goods", "_law_count"] []) (gP : mg "_law_pick" = some (.ref fP)) (GP : FnOk P w K mg base CX0 2 fP fdP ["_law_urn", "_law_goods", "_law_count"] (spPick K))
    (FH : Fun K "_law_heard" "_law_heard" sHeard fH fdH) (bH : Binds K fdH ["_law_book_here", "_law_stand"] []) (gH : mg "_law_heard" = some (.ref fH)) (GH0 : FnOk P w K mg base CX0 12 fH fdH ["_law_book_here", "_law_stand"] (spHeard K))
    (FB : Fun K "stand_behind" "stand_behind" sBehind fB fdB) (bB : Binds K fdB ["book", "history"] []) (gB : mg "stand_behind" = some (.ref fB)) (GB : FnOk P w K mg base CX0 3 fB fdB ["book", "history"] (spBehind K))
    (mi : mg "int" = none) (mlen : mg "len" = none) (mr : mg "range" = none) (mt : mg "tuple" = none) (ms : mg "sorted" = none) : FnOk P w K mg base CX0 13 f fd ["_law_urn"] spRight := by
  have GT := ok_take (P := P) (w := w) (base := base) FT mi
  have GH := GH0.imp heard_imp
  refine F.ok scRight (fun vs H Q E h => ?_) (fun cdv A outer s H vs Q E hr h => ?_)
  · obtain ⟨u, k, rfl, _⟩ := h
    rfl
  obtain ⟨u, k, rfl, hU, q⟩ := h
  have hu : (cxOf CX0 P w K mg base nRight "_law_right" (defScope sRight) f cdv A outer s H E).nox.A.units + 64 < cLine := hr.units
  refine ⟨_, pss_cons (ps_set (i := 1) scRight.nd rfl (Or.inr rfl) (pe_call GK (hr.mono (show 4 ≤ 12 by decide)) (by rfl) gK FK.kp bK .nil pass0 (pa_cons (pv 0) pa_nil)))
    (pss_cons (ps_par (i := 2) (j := 3) rfl scRight.nd rfl rfl (by decide) rfl rfl (pa_cons (pe_op op_mul (pe_callB call_len_seq (by rfl) mlen PySem.boot_len (pa_cons (pe_ix ix_D (pv 1) pe_int (fun _ _ => rfl)) pa_nil)) (pe_callB call_len_seq (by rfl) mlen PySem.boot_len (pa_cons (pe_ix ix_D (pv 1) pe_int (fun _ _ => rfl)) pa_nil))) (pa_cons pe_int pa_nil)) rfl)
    (pss_cons (ps_for PassesOwn.never rfl (pi_range1 (by rfl) mr (pa_cons (pe_call GT (hr.mono (show 1 ≤ 12 by decide)) (by rfl) gT FT.kp bT .nil pass0 (pa_cons (pv 0) (pa_cons pe_int pa_nil))) pa_nil)) (pg_name (i := 4) scRight.nd rfl (Or.inl rfl))
      (pss_one (ps_if (pt_cmpR op_le (pe_op op_mul (pv 2) (pe_callB call_len_seq (by rfl) mlen PySem.boot_len (pa_cons (pe_ix ix_D (pv 1) pe_int (fun _ _ => rfl)) pa_nil))) pe_int (nomark _)) (pss_one (ps_par (i := 2) (j := 3) rfl scRight.nd rfl rfl (by decide) rfl rfl (pa_cons (pe_op op_mul (pv 2) (pe_callB call_len_seq (by rfl) mlen PySem.boot_len (pa_cons (pe_ix ix_D (pv 1) pe_int (fun _ _ => rfl)) pa_nil))) (pa_cons (pe_op op_add (pv 3) pe_int) pa_nil)) rfl)) pss_nil)))
    (pss_cons (ps_par (i := 5) (j := 6) rfl scRight.nd rfl rfl (by decide) rfl rfl (pa_cons (pe_call GY (hr.mono (show 2 ≤ 12 by decide)) (by rfl) gY FY.kp bY .nil pass0 (pa_cons (pv 1) (pa_cons (pv 3) pa_nil))) (pa_cons (pe_call GL (hr.mono (show 10 ≤ 12 by decide)) (by rfl) gL FL.kp bL .nil pass0 (pa_cons (pv 1) pa_nil)) pa_nil)) rfl)
    (pss_cons (ps_set (i := 7) scRight.nd rfl (Or.inl rfl) (pe_call GC (hr.mono (show 11 ≤ 12 by decide)) (by rfl) gC FC.kp bC .nil pass0 (pa_cons (pv 6) (pa_cons (pv 3) pa_nil))))
    (pss_cons (ps_if (PW.pt (pw_or (pt_not (pt_val (pe_call GS (hr.mono (show 10 ≤ 12 by decide)) (by rfl) gS FS.kp bS .nil pass0 (pa_cons (pv 7) (pa_cons (pe_callB (call_sortedN rfl hu) (by rfl) ms boot_sorted (pa_cons (pv 5) pa_nil)) pa_nil))))) (pw_or1 (pt_not (pt_val (pe_call GS (hr.mono (show 10 ≤ 12 by decide)) (by rfl) gS FS.kp bS .nil pass0 (pa_cons (pe_call GC (hr.mono (show 11 ≤ 12 by decide)) (by rfl) gC FC.kp bC .nil pass0 (pa_cons (pv 1) (pa_cons pe_int pa_nil))) (pa_cons (pe_callB (call_sortedN rfl hu) (by rfl) ms boot_sorted (pa_cons (pe_call GY (hr.mono (show 2 ≤ 12 by decide)) (by rfl) gY FY.kp bY .nil pass0 (pa_cons (pv 1) (pa_cons pe_int pa_nil))) pa_nil)) pa_nil)))))))) pss_never pss_nil)
    (pss_cons (ps_set (i := 8) scRight.nd rfl (Or.inl rfl) (pe_call GP (hr.mono (show 2 ≤ 12 by decide)) (by rfl) gP FP.kp bP .nil pass0 (pa_cons (pv 0) (pa_cons (pv 7) (pa_cons pe_int pa_nil)))))
    (pss_cons (ps_expr (pe_bm PySem.F.plainAttrs_list PySem.F.slot_list_append PySem.F.type_list_append mt_append (pv 8) (pa_cons (pe_tup (pa_cons (pe_call GT (hr.mono (show 1 ≤ 12 by decide)) (by rfl) gT FT.kp bT .nil pass0 (pa_cons (pv 0) (pa_cons (pe_callB call_len_seq (by rfl) mlen PySem.boot_len (pa_cons (pe_ix ix_D (pv 1) pe_int (fun _ _ => rfl)) pa_nil)) pa_nil)))
        (pa_cons (pe_callTy call_tuple_of (by rfl) mt boot_tuple (pa_cons (pe_lc (own := [("_law_lap", 4)]) (g := gName 4) (tt := tYes) rfl scRight.nd (pi_range1 (by rfl) mr (pa_cons (pv 3) pa_nil)) (blkOk_by (N := nRight) (sc := defScope sRight) (by decide +kernel))
          (fun _ _ _ _ _ => pg_name (i := 4) scRight.nd rfl (Or.inl rfl)) (fun _ _ _ _ _ => pts_nil)
          (fun _ _ _ _ _ => (pe_call GT (hr.mono (show 1 ≤ 12 by decide)) (by rfl) gT FT.kp bT .nil pass0 (pa_cons (pv 0) (pa_cons (pe_callB (call_len_seqK (K := K)) (by rfl) mlen PySem.boot_len (pa_cons (pe_ix (ix_DK (K := K)) (pv 1) pe_int (fun _ _ => rfl)) pa_nil)) pa_nil))))) pa_nil)) pa_nil))) pa_nil)))
    (pss_cons (ps_for PassesOwn.never rfl (pi_list (pv 8)) (pg_name (i := 9) scRight.nd rfl (Or.inl rfl))
      (pss_cons (ps_set (i := 10) scRight.nd rfl (Or.inl rfl) (pe_ifExp (pt_cmp (pc_inN hu (pv 9) (pv 5)) (by rfl)) (pe_tup (pa_cons (pv 3) (pa_cons (pe_getN hu (pv 5) (pv 9) (fun _ _ => rfl)) pa_nil))) pe_str))
      (pss_cons (ps_if (pt_not (pt_val (pe_call GS (hr.mono (show 10 ≤ 12 by decide)) (by rfl) gS FS.kp bS .nil pass0 (pa_cons (pe_lst (pa_cons (pe_call GH hr (by rfl) gH FH.kp bH .nil pass0 (pa_cons (pv 1) (pa_cons (pv 9) pa_nil))) (pa_cons (pe_call GH hr (by rfl) gH FH.kp bH .nil pass0 (pa_cons (pv 6) (pa_cons (pe_call GL (hr.mono (show 10 ≤ 12 by decide)) (by rfl) gL FL.kp bL .nil pass0 (pa_cons (pv 9) pa_nil)) pa_nil))) pa_nil))) (pa_cons (pe_lst (pa_cons (pv 10) (pa_cons (pv 10) pa_nil))) pa_nil))))) pss_never pss_nil)
      (pss_one (ps_if (PW.pt (pw_and (pt_cmpR (op_neD hu) (pv 10) pe_str (nomark _)) (pw_and1 (pt_not (pt_val (pe_call GS (hr.mono (show 10 ≤ 12 by decide)) (by rfl) gS FS.kp bS .nil pass0 (pa_cons (pe_call GB (hr.mono (show 3 ≤ 12 by decide)) (by rfl) gB FB.kp bB .nil pass0 (pa_cons (pv 1) (pa_cons (pv 10) pa_nil))) (pa_cons (pv 9) pa_nil)))))))) pss_never pss_nil)))))
    (pss_one (ps_ret pe_bl)))))))))), ?_⟩
  rw [show L2.start nRight [V.ref u] = [some (V.ref u), none, none, none, none, none, none, none, none, none, none] from rfl]
  -- the book
  refine ⟨_, rfl, u, k + 5000, rfl, hU.weak (by omega), fun bk b FF n L H1 d1 hU1 hbk W hF3 hn6 hL2 => ?_⟩
  have F0 := W.F0
  have n0 := W.n0
  -- size, many
  refine ⟨_, rfl, _, 0, _, NoL, hbk, rfl, rfl, fun v1 q1 => ?_⟩
  obtain ⟨a1, x1, rfl, S1, D1⟩ := q1.tupI
  refine ⟨a1, x1, rfl, .inr S1, ?_⟩
  rw [show x1.length = FF by rw [D1.length, List.length_map, W.ans]]
  refine ⟨_, rfl, _, 1, _, NoL, hbk, rfl, rfl, fun v2 q2 => ?_⟩
  obtain ⟨a2, x2, rfl, S2, D2⟩ := q2.tupI
  refine ⟨a2, x2, rfl, .inr S2, ?_⟩
  rw [show x2.length = n by rw [D2.length, List.length_map, W.hues]]
  refine ⟨_, _, rfl, rfl, .inl ⟨by omega, by omega⟩, V.int ((FF * n ^ 1 : Nat) : Int), V.int ((1 : Nat) : Int), ?_, ?_⟩
  · show [V.int ((FF : Int) * (n : Int)), V.int 1] = _
    rw [Nat.pow_one, Int.natCast_mul]
    rfl
  have hB1 : FF * n ^ 1 ≤ 150 := by
    rw [Nat.pow_one]
    exact Nat.le_trans (Nat.mul_le_mul hF3 hn6) (by decide)
  refine ⟨_, rfl, u, k + 4999, 3, rfl, hU1.weak (by omega), by decide, by decide, fun r H2 hr2 d2 hU2 => ⟨((r : Nat) : Int), rfl, by omega, by omega, ?_⟩⟩
  rw [show (((r : Nat) : Int)).toNat = r from rfl]
  have hbk2 := hbk.tk d2.tk (N' := NoL)
  refine for_range (lo := 0) (n := r) (fun i σ Hc => Hc = H2 ∧ ∃ (m : Nat) (y4 : Option V), σ = [some (V.ref u), some bk, some (V.int ((FF * n ^ m : Nat) : Int)), some (V.int ((m : Nat) : Int)), y4, none, none, none, none, none, none] ∧ 1 ≤ m ∧ m ≤ 1 + i ∧ FF * n ^ m ≤ 150) ?_ (fun i σ Hc hi hp => ?_) (fun σ Hc hp => ?_)
  · exact ⟨rfl, 1, none, rfl, Nat.le_refl _, Nat.le_refl _, hB1⟩
  · obtain ⟨rfl, m, y4, rfl, h1, hm, hsz⟩ := hp
    refine ⟨_, rfl, _, rfl, _, 1, _, NoL, hbk2, rfl, rfl, fun v2 q2 => ?_⟩
    obtain ⟨a2, x2, rfl, S2, D2⟩ := q2.tupI
    refine ⟨a2, x2, rfl, .inr S2, ?_⟩
    rw [show x2.length = n by rw [D2.length, List.length_map, W.hues]]
    refine ⟨_, _, rfl, rfl, .inl ⟨by omega, by omega⟩, _, _, rfl, rfl, _, rfl, ?_⟩
    refine ite2 (fun hle => ?_) (fun _ => ?_)
    · have hle' := of_decide_eq_true hle
      have em : ((FF * n ^ m : Nat) : Int) * (n : Int) = ((FF * n ^ (m + 1) : Nat) : Int) := by
        rw [Nat.pow_succ, ← Nat.mul_assoc, Int.natCast_mul (FF * n ^ m) n]
      refine ⟨_, rfl, _, rfl, _, 1, _, NoL, hbk2, rfl, rfl, fun v2 q2 => ?_⟩
      obtain ⟨a2, x2, rfl, S2, D2⟩ := q2.tupI
      refine ⟨a2, x2, rfl, .inr S2, ?_⟩
      rw [show x2.length = n by rw [D2.length, List.length_map, W.hues]]
      refine ⟨_, _, rfl, rfl, .inl ⟨by omega, by omega⟩, _, rfl, _, _, rfl, rfl, V.int ((FF * n ^ (m + 1) : Nat) : Int), V.int ((m + 1 : Nat) : Int), ?_, rfl, m + 1, _, rfl, by omega, by omega, ?_⟩
      · show [V.int (((FF * n ^ m : Nat) : Int) * (n : Int)), V.int (((m : Nat) : Int) + 1)] = _
        rw [em]
        rfl
      · have : ((FF * n ^ (m + 1) : Nat) : Int) ≤ 150 := by rw [← em]; exact hle'
        omega
    · exact ⟨rfl, m, _, rfl, h1, by omega, hsz⟩
  obtain ⟨rfl, m, y4, rfl, h1, hm, hsz⟩ := hp
  have h5 : m ≤ 5 := by omega
  have hB : FF * n ^ m ≤ 900 := by omega
  have hB1' : FF * n ^ 1 ≤ 900 := by omega
  have ib := isBook W
  -- ways, soft
  refine ⟨_, rfl, _, rfl, bk, b, FF, n, L, m, rfl, hbk2, W, h1, h5, hB, fun dd D H3 s3 ndd dic full le lw => ?_⟩
  refine ⟨_, rfl, bk, bD b, NoL, rfl, hbk2.sm s3, (Hd.bD W).1, fun sf H4 s4 hsf => ⟨_, _, rfl, ?_⟩⟩
  -- told
  refine ⟨_, rfl, _, rfl, sf, softD 9 (bD b), _, b, FF, n, L, m, rfl, hsf, ib.2, W, h1, h5, hB, fun pt us D2 H5 s5 npt hpt full2 le2 hus => ?_⟩
  rw [srt_perm (full2.perm full)] at hus
  have lsrt : ((srt (keys D)).map sD).length ≤ 900 := by
    rw [List.length_map, length_srt]
    exact Nat.le_trans (Nat.le_of_eq (List.length_map _)) le
  have okS : ∀ E' : List (Std × Way), ((srt (keys E')).map sD).length ≤ 1000 → ∀ M, (∀ s, s ∈ keys E' → StOk FF n M s) → M ≤ 5 → okD 9 (.list ((srt (keys E')).map sD)) = true := fun E' hl M hs hM => okD_lst hl fun d hd => by
    obtain ⟨s0, hs0, rfl⟩ := List.mem_map.mp hd
    have e := (hs s0 (mem_srt.mp hs0)).len
    exact (Hd.sD (n := 6) (s := s0) (by omega)).1
  have stD : ∀ s, s ∈ keys D → StOk FF n m s := fun s hs => by
    obtain ⟨u0, hu0⟩ := mem_keys.mp hs
    exact best_ok W ((full.2 s u0).mp hu0)
  -- told == sorted(ways)
  refine ⟨_, rfl, _, rfl, dd, D, rfl, (dic.same (s4.trans s5)).r, fun p1 vs1 np1 hvs1 => ?_⟩
  have s6 := same_new (o := .lst vs1) np1
  refine ⟨.ref pt, .ref p1, .list ((srt (keys D)).map sD), fun _ => True, fun _ => True, rfl, .lst trivial (.inl (.inl (s6 _ _ hpt))) ((hus.sm s6).wk fun _ _ => trivial), .lst trivial (.inl (.inl upd_same)) ((hvs1.sm s6).wk fun _ _ => trivial), okS D (by omega) m stD h5, fun H7 s7 => ⟨true, rfl, ?_⟩⟩
  show if false = true then _ else _
  refine iteF ?_
  have s27 := (((s3.trans s4).trans s5).trans s6).trans s7
  refine ⟨_, rfl, bk, bD b, NoL, b, FF, n, L, 1, rfl, hbk2.sm s27, ib.1, W, by decide, by decide, hB1', fun pt' us' D3 H8 s8 npt' hpt' full3 le3 hus' => ?_⟩
  refine ⟨_, rfl, bk, b, FF, n, L, 1, rfl, hbk2.sm (s27.trans s8), W, by decide, by decide, hB1', fun dd' D4 H9 s9 ndd' dic' full4 le4 lw4 => ?_⟩
  refine ⟨dd', D4, rfl, dic'.r, fun p2 vs2 np2 hvs2 => ?_⟩
  have s10 := same_new (o := .lst vs2) np2
  rw [srt_perm (full3.perm full4)] at hus'
  have stD4 : ∀ s, s ∈ keys D4 → StOk FF n 1 s := fun s hs => by
    obtain ⟨u0, hu0⟩ := mem_keys.mp hs
    exact best_ok W ((full4.2 s u0).mp hu0)
  have lsrt4 : ((srt (keys D4)).map sD).length ≤ 900 := by
    rw [List.length_map, length_srt]
    exact Nat.le_trans (Nat.le_of_eq (List.length_map _)) le4
  refine ⟨.ref pt', .ref p2, .list ((srt (keys D4)).map sD), fun _ => True, fun _ => True, rfl, .lst trivial (.inl (.inl ((s9.trans s10) _ _ hpt'))) ((hus'.sm (s9.trans s10)).wk fun _ _ => trivial), .lst trivial (.inl (.inl upd_same)) ((hvs2.sm s10).wk fun _ _ => trivial), okS D4 (by omega) 1 stD4 (by decide), fun HB s11 => ⟨true, rfl, ?_⟩⟩
  show if false = true then _ else _
  refine iteF ?_
  -- everything at HB
  have s5B := ((((s6.trans s7).trans s8).trans s9).trans s10).trans s11
  have s4B := s5.trans s5B
  have s3B := s4.trans s4B
  have sB := s3.trans s3B
  have hptB := s5B _ _ hpt
  have husB := hus.sm s5B
  have dicB := dic.same s3B
  have hsfB := hsf.sm s4B
  have hbkB := hbk2.sm sB
  have hUB := hU2.on sB
  have nu : ∀ a, Hc a = none → a ≠ u := fun a => hU2.ne
  have lus := husB.length
  -- goals
  refine ⟨_, rfl, _, rfl, u, k + 3000, pt, 2, us, rfl, hUB.weak (by omega), hptB, by omega, fun l ys rest Ha nl hl pm ly da hUa => ?_⟩
  have lys : ys.length ≤ 2 := by omega
  have lnu : l ≠ u := hUB.ne nl
  have hyin : ∀ y, y ∈ ys → ∃ s, s ∈ keys D ∧ Dq K HB NoL y (sD s) := fun y hy => by
    obtain ⟨i, hi⟩ := List.mem_iff_getElem?.mp (pm.mem_iff.mp (List.mem_append_left rest hy))
    obtain ⟨e, he, hye⟩ := husB.getV hi
    obtain ⟨s0, hs0, rfl⟩ := List.mem_map.mp (List.mem_of_getElem? he)
    exact ⟨s0, mem_srt.mp hs0, hye⟩
  refine ⟨_, rfl, .inl ⟨rfl, _, .inl (.inl hl)⟩, ?_⟩
  have hbka := hbkB.tk da.tk (N' := NoL)
  refine ⟨_, rfl, _, rfl, _, 0, _, NoL, hbka, rfl, rfl, fun v1 q1 => ?_⟩
  obtain ⟨a1, x1, rfl, S1, D1⟩ := q1.tupI
  refine ⟨a1, x1, rfl, .inr S1, ?_⟩
  rw [show x1.length = FF by rw [D1.length, List.length_map, W.ans]]
  refine ⟨u, k + 2999, FF, rfl, hUa, F0, by omega, fun fr Hb hfr db hUb => ?_⟩
  have hbkb := hbka.tk db.tk (N' := NoL)
  refine ⟨_, rfl, ((m : Nat) : Int), rfl, by omega, by omega, fun D0 nD0 => ?_⟩
  have D0u : D0 ≠ u := hUb.ne nD0
  have s12 := same_new (o := .lst []) nD0
  refine lc_it (walk_range (lo := 0) (n := m)) (fun i H3 => ∃ rs : List Nat, rs.length = i ∧ (∀ x, x ∈ rs → x < n) ∧ H3 D0 = some (.lst (rs.map vn)) ∧ Drawn u Hb H3 ∧ Urn H3 u (k + (2990 - i))) ⟨[], rfl, fun _ z => (nomatch z), upd_same, .same s12, (hUb.on s12).weak (by omega)⟩ (fun _ _ _ _ => trivial) (fun i v H6 H7 hi hp hy => ?_) (fun H6 hp => ?_)
  · obtain ⟨rs, lr, hrs, hD0, d6, hU6⟩ := hp
    obtain ⟨rfl, rfl⟩ := hy
    refine ⟨rfl, kept ?_⟩
    refine ⟨_, rfl, _, rfl, _, 1, _, NoL, hbkb.tk d6.tk (N' := NoL), rfl, rfl, fun v2 q2 => ?_⟩
    obtain ⟨a2, x2, rfl, S2, D2⟩ := q2.tupI
    refine ⟨a2, x2, rfl, .inr S2, ?_⟩
    rw [show x2.length = n by rw [D2.length, List.length_map, W.hues]]
    refine ⟨u, k + (2990 - (i + 1)), n, rfl, hU6.weak (by omega), n0, by omega, fun rr H8 hr8 d8 hU8 => ⟨rs.map vn, d8.at' D0u hD0, by rw [List.length_map]; exact small1 (by omega), rs ++ [rr], by rw [List.length_append, lr]; rfl, all_snoc hrs hr8, ?_, (d6.trans d8).own nD0 (d8.at' D0u hD0), hU8.upd D0u⟩⟩
    rw [List.map_append]
    exact upd_same
  obtain ⟨rs, lr, hrs, hD0, d6, hU6⟩ := hp
  refine ⟨D0, rs.map vn, rfl, .inl ⟨.inl (.inl hD0), fun t1 nt1 => ⟨(by show 2 ≤ sizeLine; decide), fun t2 nt2 => ?_⟩⟩⟩
  have s13 := same_new (o := .tup (rs.map vn)) nt1
  have s14 := same_new (o := .tup [V.int ((fr : Nat) : Int), V.ref t1]) nt2
  have dall := (da.trans db).trans (d6.trans ((Drawn.same s13).trans (.same s14)))
  have hl14 := ((db.trans d6).trans ((Drawn.same s13).trans (.same s14))).at' lnu hl
  have newD : Dq K (upd (upd H6 t1 (.tup (rs.map vn))) t2 (.tup [V.int ((fr : Nat) : Int), V.ref t1])) NoL (.ref t2) (sD (fr, rs)) :=
    .tup (.inl (.inl upd_same)) (.cons (.int _) (.one (.tup (.inl (.inl (s14 _ _ upd_same))) (.ofNats rs))))
  refine ⟨l, ys, .ref t2, rfl, rfl, hl14, small1 (by omega), ?_⟩
  generalize upd (upd H6 t1 (.tup (rs.map vn))) t2 (.tup [V.int ((fr : Nat) : Int), V.ref t1]) = HM at dall hl14 newD
  have dL := dall.own (ys := ys ++ [V.ref t2]) nl hl14
  have tML : Tk HM (upd HM l (.lst (ys ++ [V.ref t2]))) := .upd (noTup_lst hl14)
  have hlL : (upd HM l (.lst (ys ++ [V.ref t2]))) l = some (.lst (ys ++ [V.ref t2])) := upd_same
  have each : ∀ y, y ∈ ys ++ [V.ref t2] → ∃ s, StOk FF n m s ∧ Dq K (upd HM l (.lst (ys ++ [V.ref t2]))) NoL y (sD s) := fun y hy => by
    rcases List.mem_append.mp hy with z | z
    · obtain ⟨s0, hs0, hy0⟩ := hyin y z
      exact ⟨s0, stD s0 hs0, hy0.tk dL.tk⟩
    · rw [List.mem_singleton.mp z]
      exact ⟨(fr, rs), ⟨hfr, lr, hrs⟩, newD.tk tML⟩
  show tSeq _ _ _ _ (upd HM l (.lst (ys ++ [V.ref t2])))
  generalize upd HM l (.lst (ys ++ [V.ref t2])) = HL at dL hlL each
  have hbkL := hbkB.tk dL.tk (N' := NoL)
  have ddu : dd ≠ u := fun e => by
    obtain ⟨ψ, z⟩ := dicB.some
    obtain ⟨_, _, _, z2, _⟩ := hUB
    rw [e, z2] at z
    cases z
  have dicL := dicB.but dL.but ddu dL.tk
  obtain ⟨_, _, _, hu3, _, _⟩ := hU2.on s3
  have hsfL := hsfB.keep (N' := fun a => H3 a = none) dL.tk dL.but (fun a na e => by rw [e, hu3] at na; cases na) (fun _ z => z)
  refine ⟨_, rfl, l, rfl, ⟨_, .inl (.inl hlL)⟩, ?_⟩
  refine for_it (walk_list (xs := ys ++ [V.ref t2])) (fun i σ Hc => ∃ (y9 y10 : Option V), σ = [some (V.ref u), some bk, some (V.int ((FF * n ^ m : Nat) : Int)), some (V.int ((m : Nat) : Int)), y4, some (V.ref dd), some sf, some (V.ref pt), some (V.ref l), y9, y10] ∧ Same HL Hc) ⟨none, none, rfl, Same.refl _⟩ (fun i σ Hc _ hp => ?_) (fun i v σ Hc0 Hc hi hp hyv => ?_) (fun σ Hc hp => ?_)
  · obtain ⟨_, _, rfl, sc⟩ := hp
    exact .inl (.inl (sc _ _ hlL))
  · obtain ⟨y9, y10, rfl, sc⟩ := hp
    obtain ⟨rfl, hv⟩ := hyv
    obtain ⟨st, sOk, hvd⟩ := each v (List.mem_of_getElem? hv)
    have isS := isStd (s := st) (by rw [sOk.len]; omega)
    -- due
    refine due_read (m := m) (D := D) (s := st) (v := v) (dd := dd) rfl rfl rfl (dicL.same sc) (hvd.sm sc) (fun dv Hd s15 hdv => ?_)
    have scd := sc.trans s15
    -- what is heard
    refine ⟨_, rfl, _, rfl, bk, v, bD b, sD st, NoL, NoL, b, st, FF, n, L, m, D, rfl, hbkL.sm scd, hvd.sm scd, ib.1, isS.1, W, sOk.len, h1, h5, hB, full, fun hv1 He s16 hh1 => ?_⟩
    have sce := scd.trans s16
    refine ⟨_, rfl, _, rfl, v, sD st, NoL, rfl, hvd.sm sce, isS.1.1, fun sg Hf s17 hsg => ?_⟩
    have scf := sce.trans s17
    refine ⟨sf, sg, softD 9 (bD b), softD 9 (sD st), _, _, b, st, FF, n, L, m, D, rfl, hsfL.sm scf, hsg, ib.2, isS.2, W, sOk.len, h1, h5, hB, full, fun hv2 Hg s18 hh2 => ?_⟩
    refine ⟨(by show 2 ≤ sizeLine; decide), fun la nla => ⟨_, rfl, _, rfl, (by show 2 ≤ sizeLine; decide), fun lb nlb => ?_⟩⟩
    have s19 := same_new (o := .lst [hv1, hv2]) nla
    have s20 := same_new (o := .lst [dv, dv]) nlb
    have okd := ok_due (D := D) (m := m) (s := st) lw
    refine ⟨.ref la, .ref lb, .list [dueD m (look D st), dueD m (look D st)], fun _ => True, fun _ => True, rfl, .lst trivial (.inl (.inl (s20 _ _ upd_same))) ?_, .lst trivial (.inl (.inl upd_same)) ?_, okD_lst (by show 2 ≤ 1000; decide) (fun d hd => ?_), fun Hh s21 => ⟨true, rfl, ?_⟩⟩
    · exact .cons ((hh1.sm (((s17.trans s18).trans s19).trans s20)).wk fun _ _ => trivial) (.one ((hh2.sm (s19.trans s20)).wk fun _ _ => trivial))
    · have hdv' := (hdv.sm ((((s16.trans s17).trans s18).trans s19).trans s20)).wk (N' := fun _ => True) fun _ _ => trivial
      exact .cons hdv' (.one hdv')
    · rcases List.mem_cons.mp hd with rfl | hd
      · exact okd
      · rw [List.mem_singleton.mp hd]
        exact okd
    show if false = true then _ else _
    refine iteF ?_
    have s15h := ((((s16.trans s17).trans s18).trans s19).trans s20).trans s21
    have sch := scd.trans s15h
    have hdvh := hdv.sm s15h
    refine ⟨_, rfl, dueD m (look D st), .str "can not", hdvh.dp, .str _, shaped_due m _, shaped_due m none, _, rfl, ?_⟩
    rw [eqv_due]
    cases hlk : look D st with
    | none =>
      show if false = true then _ else _
      refine iteF ?_
      show if false = true then _ else _
      exact iteF ⟨_, _, rfl, sch⟩
    | some ud =>
      rw [hlk] at hdvh
      have hin := look_mem hlk
      have best := (full.2 st ud).mp hin
      show if true = true then _ else _
      refine iteT ⟨_, rfl, _, rfl, bk, dv, b, FF, n, L, m, ud, rfl, ⟨hbkL.sm sch, hdvh, W, h1, h5, lw st ud hin, best.valid⟩, fun bv Hi s22 hbv => ?_⟩
      rw [best.to] at hbv
      refine ⟨_, rfl, bv, v, sD st, NoL, NoL, rfl, hbv, hvd.sm (sch.trans s22), isS.1.1, fun Hj s23 => ⟨true, rfl, ?_⟩⟩
      show if false = true then _ else _
      exact iteF ⟨_, _, rfl, (sch.trans s22).trans s23⟩
  · obtain ⟨_, _, rfl, sc⟩ := hp
    exact q Hc
end
end K12

set_option Elab.async false
set_option linter.all false
set_option maxRecDepth 100000
set_option maxHeartbeats 4000000
namespace K12
open PySem PySem.Spec PyProof.Rows L2
/-! ### _law_cells, _law_box -/
abbrev sCells : Stmt := topS 20
abbrev nCells : List Str := ["_law_script", "_law_top", "_law_cells_here", "_law_k", "_law_cell", "_law_at_so"]
theorem scCells : FnScope nCells ["_law_script", "_law_top"] (defScope sCells) := ⟨rfl, rfl, rfl, by decide +kernel, rfl, by decide +kernel, by decide +kernel⟩
def spCells (K : PySem.W.Frag) : Sp := fun vs H Q _ => ∃ (a : Addr) (ns : List Int), vs = [.ref a, .int 1] ∧ SqL K H a (ns.map V.int) ∧ ns.length ≤ 63 ∧ ∀ l z H', Same H H' → H' l = some (.lst [.int z]) → Q (.ref l) H'
abbrev sBox : Stmt := topS 18
abbrev nBox : List Str := ["_law_script", "_law_k", "_law_cell"]
theorem scBox : FnScope nBox ["_law_script", "_law_k"] (defScope sBox) := ⟨rfl, rfl, rfl, by decide +kernel, rfl, by decide +kernel, by decide +kernel⟩
def spBox : Sp := fun vs H Q _ => ∃ (l : Addr) (z : Int), vs = [.ref l, .int 0] ∧ H l = some (.lst [.int z]) ∧ ∀ u a b H', Same H H' → H' u = some (.lst [.int a, .int b, .int 0]) → Q (.ref u) H'
theorem cut_ints {ns : List Int} {lo hi : Option Int} {y : V} (h : y ∈ cutV (ns.map V.int) lo hi) : ∃ z, y = V.int z := by
  unfold cutV at h
  have h2 := List.mem_of_mem_drop (List.mem_of_mem_take h)
  obtain ⟨z, _, e⟩ := List.mem_map.mp h2
  exact ⟨z, e.symm⟩
section
variable {P : Program} {w : World} {K : PySem.W.Frag} {mg : Str → Option Value} {base : Heap}
theorem ok_cells {f : Addr} {fd : FuncData} (F : Fun K "_law_cells" "_law_cells" sCells f fd) (mi : mg "int" = none) (ml : mg "list" = none) (me : mg "enumerate" = none) : FnOk P w K mg base CX0 1 f fd ["_law_script", "_law_top"] (spCells K) := by
  refine F.ok scCells (fun vs H Q E h => ?_) (fun cdv A outer s H vs Q E hr h => ?_)
  · obtain ⟨a, ns, rfl, _⟩ := h
    rfl
  obtain ⟨a, ns, rfl, hS, hl, q⟩ := h
  refine ⟨_, pss_cons (ps_set (i := 2) scCells.nd rfl (Or.inl rfl) (pe_orT (pe_callTy call_list_of (by rfl) ml boot_list (pa_cons (pe_slice sl_list (pv 0) po_none (po_some (pv 1))) pa_nil)) (pe_one (pe_lst (pa_cons pe_int pa_nil)))))
    (pss_cons (ps_for PassesOwn.never rfl (pi_enum (by rfl) me (pa_cons (pe_slice sl_list (pv 0) (po_some (pv 1)) (po_some pe_int)) pa_nil)) (pg_tup rfl (pgs_cons (pg_name (i := 3) scCells.nd rfl (Or.inl rfl)) (pgs_cons (pg_name (i := 4) scCells.nd rfl (Or.inl rfl)) pgs_nil)))
      (pss_cons (ps_set (i := 5) scCells.nd rfl (Or.inl rfl) (pe_op op_mod (pe_callTy call_int1 (by rfl) mi PySem.Pv.boot_int (pa_cons (pv 3) pa_nil)) (pv 1)))
      (pss_one (ps_asg (pe_op op_add (pe_ix ix_list (pv 2) (pv 5) (fun _ _ => rfl)) (pe_op op_mul (pv 4) (pe_op op_add (pv 3) pe_int))) (pg_sub (pv 2) (pv 5) set_list)))))
    (pss_one (ps_ret (pv 2)))), ?_⟩
  rw [show L2.start nCells [V.ref a, V.int 1] = [some (V.ref a), some (V.int 1), none, none, none, none] from rfl]
  -- behind the first statement: cells of one int at l
  have rest : ∀ (l : Addr) (z : Int) (H1 : Hp), H l = none → Same H H1 → H1 l = some (.lst [.int z]) →
      (tSeq (tFor (iEnum K (tCons (tSl (rSlL K) (tVar 0) (tPart (tVar 1)) (tPart (tC (.int 63)))) tNil)) (gTup K 2 (gCons (gName 3) (gCons (gName 4) gNil))) (tSeq (tAsg (tOp (rI (fun _ j => 0 < j) fun i j => .int (i % j)) (tCB (fun xs H Q => (∃ i, xs = [.int i] ∧ Q (.int i) H) ∨ ∃ k, xs = [.bl k] ∧ Q (.int (if k then 1 else 0)) H) (tCons (tVar 3) tNil)) (tVar 1)) (gName 5))
        (tAsg (tOp (rI0 fun i j => .int (i + j)) (tOp (rIxL K) (tVar 2) (tVar 5)) (tOp (rI CMul fun i j => .int (i * j)) (tVar 4) (tOp (rI0 fun i j => .int (i + j)) (tVar 3) (tC (.int 2))))) (gSub (tVar 2) (tVar 5) rSetL)))) (tRet (tVar 2)))
        { nx := fun _ H' => Q .non H', rt := Q } [some (V.ref a), some (V.int 1), some (V.ref l), none, none, none] H1 := fun l z H1 nl s1 hl1 => by
    refine ⟨_, rfl, _, rfl, _, rfl, _, rfl, a, _, rfl, s1.seq hS, fun p np => ⟨p, _, rfl, .inl (.inl upd_same), ?_⟩⟩
    have sp := same_new (o := .lst (cutV (ns.map V.int) (some 1) (some 63))) np
    have pl : p ≠ l := fun e => by rw [e, hl1] at np; cases np
    have cutl : (cutV (ns.map V.int) (some 1) (some 63)).length ≤ 63 := by
      have := cutV_length (ns.map V.int) (some 1) (some 63)
      rw [List.length_map] at this
      omega
    refine for_it (walk_enum (xs := cutV (ns.map V.int) (some 1) (some 63))) (fun i σ H2 => ∃ (z : Int) (y3 y4 y5 : Option V), σ = [some (V.ref a), some (V.int 1), some (V.ref l), y3, y4, y5] ∧ H2 l = some (.lst [.int z]) ∧ (∀ b o, b ≠ l → (upd H1 p (.lst (cutV (ns.map V.int) (some 1) (some 63)))) b = some o → H2 b = some o)) ⟨z, none, none, none, rfl, sp _ _ hl1, fun _ _ _ e => e⟩ (fun i σ H2 _ hp => ?_) (fun i v σ H2 H3 hi hp hyv => ?_) (fun σ H2 hp => ?_)
    · obtain ⟨z, _, _, _, rfl, _, kp⟩ := hp
      exact .inl (.inl (kp p _ pl upd_same))
    · obtain ⟨z, y3, y4, y5, rfl, hl2, kp⟩ := hp
      obtain ⟨T, x, y, rfl, nT, rfl, e1, e2⟩ := hyv
      obtain rfl : V.int ((i : Nat) : Int) = x := Option.some.inj e1
      obtain ⟨c, rfl⟩ := cut_ints (List.mem_of_getElem? (show (cutV (ns.map V.int) (some 1) (some 63))[i]? = some y from e2))
      have s3 := same_new (o := .tup [V.int ((i : Nat) : Int), V.int c]) nT
      have hl3 := s3 _ _ hl2
      refine ⟨T, _, rfl, .inl (.inl upd_same), rfl, _, _, rfl, _, _, rfl, rfl, ?_⟩
      refine ⟨_, rfl, .inl ⟨_, rfl, _, rfl, _, _, rfl, rfl, (show (0 : Int) < 1 by decide), ?_⟩⟩
      refine ⟨_, rfl, _, rfl, l, _, _, _, rfl, rfl, .inl (.inl hl3), ?_, _, rfl, _, rfl, _, _, rfl, rfl, _, _, rfl, rfl, .inr ⟨by omega, by omega⟩, _, _, rfl, rfl, _, rfl, _, rfl, l, _, _, 0, rfl, rfl, hl3, ?_, z + c * (((i : Nat) : Int) + 2), _, _, _, rfl, upd_same, fun b o nb e => ?_⟩
      · show atI [V.int z] (((i : Nat) : Int) % 1) = _
        rw [Int.emod_one]
        rfl
      · show ixN 1 (((i : Nat) : Int) % 1) = some 0
        rw [Int.emod_one]
        rfl
      · rw [upd_ne nb]
        exact s3 _ _ (kp b o nb e)
    · obtain ⟨z, y3, y4, y5, rfl, hl2, kp⟩ := hp
      exact ⟨_, rfl, q l z H2 (fun b o e => kp b o (ne_of_none e nl) (sp _ _ (s1 b o e))) hl2⟩
  -- list(script[:1]) or [0]
  refine ⟨_, rfl, _, rfl, _, rfl, a, _, rfl, hS, fun p np => ⟨p, _, rfl, .inl (.inl (.inl upd_same)), fun l nl => ?_⟩⟩
  have sp := same_new (o := .lst (cutV (ns.map V.int) none (some 1))) np
  have sl := same_new (o := .lst (cutV (ns.map V.int) none (some 1))) nl
  have ec : cutV (ns.map V.int) none (some 1) = (ns.map V.int).take 1 := cut_to _ 1
  have hlv : (upd (upd H p (.lst (cutV (ns.map V.int) none (some 1)))) l (.lst (cutV (ns.map V.int) none (some 1)))) l = some (.lst ((ns.map V.int).take 1)) := by rw [upd_same, ec]
  generalize (upd (upd H p (.lst (cutV (ns.map V.int) none (some 1)))) l (.lst (cutV (ns.map V.int) none (some 1)))) = H2 at sl hlv ⊢
  cases ns with
  | nil =>
    refine ⟨false, .inl ⟨_, .inl (.inl hlv), rfl⟩, iteF ⟨(by show 1 ≤ sizeLine; decide), fun l2 nl2 => ?_⟩⟩
    exact rest l2 0 _ ((sp.trans sl).free nl2) ((sp.trans sl).trans (same_new nl2)) upd_same
  | cons z ns =>
    refine ⟨true, .inl ⟨_, .inl (.inl hlv), rfl⟩, iteT ?_⟩
    exact rest l z _ (sp.free nl) (sp.trans sl) hlv
theorem ok_box {f : Addr} {fd : FuncData} (F : Fun K "_law_box" "_law_box" sBox f fd) (mi : mg "int" = none) (ma : mg "abs" = none) (mlen : mg "len" = none) : FnOk P w K mg base CX0 1 f fd ["_law_script", "_law_k"] spBox := by
  refine F.ok scBox (fun vs H Q E h => ?_) (fun cdv A outer s H vs Q E hr h => ?_)
  · obtain ⟨l, z, rfl, _⟩ := h
    rfl
  obtain ⟨l, z, rfl, hl, q⟩ := h
  refine ⟨_, pss_cons (ps_set (i := 2) scBox.nd rfl (Or.inl rfl) (pe_ifExp (pt_cmpR op_lt (pv 1) (pe_callB call_len_seq (by rfl) mlen PySem.boot_len (pa_cons (pv 0) pa_nil)) (nomark _)) (pe_ix ix_list (pv 0) (pv 1) (fun _ _ => rfl)) pe_int))
    (pss_one (ps_ret (pe_lst (pa_cons (pe_op op_mul (pe_callB call_abs (by rfl) ma boot_abs (pa_cons (pv 2) pa_nil)) (pe_callTy call_int1 (by rfl) mi PySem.Pv.boot_int (pa_cons (pe_cmpR op_ge (pe_callB call_abs (by rfl) ma boot_abs (pa_cons (pv 2) pa_nil)) (pe_op op_pow pe_int pe_int) (nomark _)) pa_nil)))
      (pa_cons (pe_op op_add (pe_op op_add (pe_op op_mod (pe_callTy call_int1 (by rfl) mi PySem.Pv.boot_int (pa_cons (pv 2) pa_nil)) pe_int) (pe_op op_mul pe_int (pv 1))) pe_int) (pa_cons pe_int pa_nil)))))), ?_⟩
  rw [show L2.start nBox [V.ref l, V.int 0] = [some (V.ref l), some (V.int 0), none] from rfl]
  refine ⟨_, rfl, _, rfl, l, _, rfl, .inl (.inl (.inl hl)), _, _, rfl, rfl, _, rfl, ?_⟩
  show if true = true then _ else _
  refine iteT ⟨_, rfl, _, rfl, l, _, 0, _, rfl, rfl, .inl (.inl hl), atI_nat (j := 0) rfl, ?_⟩
  refine ⟨_, rfl, _, rfl, _, rfl, _, rfl, _, _, rfl, rfl, ⟨by decide, by decide, by decide⟩, _, _, rfl, rfl, .inr ⟨_, rfl, _, _, rfl, rfl, .inr ?_, ?_⟩⟩
  · have hb : ∀ b : Bool, -(2 ^ 64) < (if b = true then (1 : Int) else 0) ∧ (if b = true then (1 : Int) else 0) < 2 ^ 64 := by decide
    exact hb _
  · refine ⟨_, rfl, .inl ⟨_, rfl, _, _, rfl, rfl, (show (0 : Int) < _ by decide), _, rfl, _, _, rfl, rfl, .inl ⟨by decide, by decide⟩, _, _, rfl, rfl, _, _, rfl, rfl, (by show 3 ≤ sizeLine; decide), fun u nu => ?_⟩⟩
    exact q u _ _ _ (same_new nu) upd_same
end
end K12

set_option Elab.async false
set_option linter.all false
set_option maxRecDepth 100000
set_option maxHeartbeats 4000000
namespace K12
open PySem PySem.Spec PyProof.Rows L2
/-! ### _law_shown -/
theorem call_tuple_ofK {X : Cx} {K : PySem.W.Frag} (h : X.K = K := by rfl) : CallR X (.type "tuple") (fun xs H Q => ∃ p ys, xs = [V.ref p] ∧ ((SqL K H p ys ∧ ∀ l, H l = none → Q (.ref l) (upd H l (.tup ys))) ∨ (SqT K H p ys ∧ Q (.ref p) H))) := by
  subst h
  exact call_tuple_of
theorem pi_tupK {X : Cx} {K : PySem.W.Frag} {tg e : Expr} {te : TE} (he : PE X e te) (h : X.K = K := by rfl) : PI X tg e (iTup K te) := by
  subst h
  exact pi_tup he
theorem lc_nums {K : PySem.W.Frag} {a D : Addr} {ns : List Nat} {i : Nat} {σ : L2.St} {vs : List Nat} {H1 : Hp} {te : TE} {Qd : Hp → Prop} (E : Nat → PyData) (hS : SqT K H1 a (ns.map vn)) (hD0 : H1 D = none) (hl : ns.length ≤ 1000)
    (hw : ∀ v, wipe ((wipe σ vs).set i (some v)) vs = wipe σ vs)
    (he : ∀ n H (Q : VK), n ∈ ns → Same H1 H → (∀ v H', Same H H' → Dq K H' NoL v (E n) → Q v H') → te ((wipe σ vs).set i (some (vn n))) H Q)
    (hd : ∀ H l, Same H1 H → H D = some (.lst l) → Dqs K H NoL l (ns.map E) → Qd H) :
    ∃ W : Nat → Nat → Hp → Prop, (∃ m, W 0 m (upd H1 D (.lst []))) ∧ ∀ i' m H, W i' m H →
      ((Itt K a).stop i' H ∧ Qd H) ∨ ((Itt K a).go i' H ∧ ∃ Nx : Hp → Prop, (∀ H', Nx H' → ∃ m', m' < m ∧ W (i' + 1) m' H') ∧ ∀ x H', (Itt K a).yld i' H x H' → gName i x (wipe σ vs) H' fun σ2 H2 => wipe σ2 vs = wipe σ vs ∧ tYes σ2 H2 fun b H3 =>
        if b = true then te σ2 H3 fun y H4 => ∃ acc, H4 D = some (.lst acc) ∧ acc.length < sizeLine ∧ Nx (upd H4 D (.lst (acc ++ [y]))) else Nx H3) := by
  refine lc_it (walk_tup (xs := ns.map vn)) (fun i' H3 => ∃ acc, Grow H1 D acc H3 ∧ Dqs K H3 NoL acc ((ns.take i').map E)) ⟨[], .start hD0, .nil⟩ (fun i' H3 _ hp => ?_) (fun i' v H4 H3 hlt hp hy => ?_) (fun H3 hp => ?_)
  · obtain ⟨acc, g, _⟩ := hp
    exact (Tk.same g.same).seq hS
  · obtain ⟨acc, g, ga⟩ := hp
    obtain ⟨rfl, hv⟩ := hy
    rw [List.length_map] at hlt
    obtain ⟨n, hn⟩ := get_some hlt
    rw [List.getElem?_map, hn] at hv
    obtain rfl : vn n = v := Option.some.inj hv
    refine ⟨hw _, kept (he n _ _ (List.mem_of_getElem? hn) g.same fun v H' s' hv => ?_)⟩
    have la := ga.length
    rw [List.length_map, List.length_take] at la
    have g' := g.on s'
    refine ⟨acc, g'.at', small1 (by omega), acc ++ [v], g'.push v, ?_⟩
    rw [take_snoc hn, List.map_append]
    exact ((ga.sm s').append (.one hv)).tk (g'.tk _)
  · obtain ⟨acc, g, ga⟩ := hp
    rw [List.length_map, List.take_length] at ga
    exact hd H3 acc g.same g.at' ga
abbrev sShown : Stmt := topS 28
abbrev nShown : List Str := ["_law_keep", "_law_same_here", "_law_swap", "_law_f", "_law_odd", "_law_lines", "_law_h", "_law_b"]
theorem scShown : FnScope nShown [] (defScope sShown) := ⟨rfl, rfl, rfl, by decide +kernel, rfl, by decide +kernel, by decide +kernel⟩
def keepN : List Nat := [0, 1]
def sameN : List Nat := [0, 1, 2, 3]
def swapN : List Nat := [1, 0, 3, 2]
def oddB : Book := ⟨[false, true], [0, 1], 0, 0, keepN.map fun f => keepN.map fun h => keepN.map fun b => ⟨(f + h + b) % 2, b, keepN, keepN⟩⟩
def sideR (f h b : Nat) : BRow := ⟨(f + if h / 2 ≠ b then 1 else 0) % 2, 2 * b + h % 2, sameN, if h / 2 ≠ b then swapN else sameN⟩
def sidesB : Book := ⟨[false, true], [0, 0, 1, 1], 0, 0, keepN.map fun f => sameN.map fun h => keepN.map fun b => sideR f h b⟩
def spShown (K : PySem.W.Frag) : Sp := fun vs H Q _ => vs = [] ∧ ∀ v H', Same H H' → Dq K H' NoL v (.tuple [bD oddB, bD sidesB]) → Q v H'
section
variable {P : Program} {w : World} {K : PySem.W.Frag} {mg : Str → Option Value} {base : Heap}
theorem ok_shown {f : Addr} {fd : FuncData} (F : Fun K "_law_shown" "_law_shown" sShown f fd) (mi : mg "int" = none) (mt : mg "tuple" = none) : FnOk P w K mg base CX0 1 f fd [] (spShown K) := by
  refine F.ok scShown (fun vs H Q E h => ?_) (fun cdv A outer s H vs Q E hr h => ?_)
  · obtain ⟨rfl, _⟩ := h
    rfl
  obtain ⟨rfl, q⟩ := h
  refine ⟨_, pss_cons (ps_asg (pe_tup (pa_cons (pe_tup (pa_cons pe_int (pa_cons pe_int pa_nil))) (pa_cons (pe_tup (pa_cons pe_int (pa_cons pe_int (pa_cons pe_int (pa_cons pe_int pa_nil))))) (pa_cons (pe_tup (pa_cons pe_int (pa_cons pe_int (pa_cons pe_int (pa_cons pe_int pa_nil))))) pa_nil))))
      (pg_tup rfl (pgs_cons (pg_name (i := 0) scShown.nd rfl (Or.inr rfl)) (pgs_cons (pg_name (i := 1) scShown.nd rfl (Or.inr rfl)) (pgs_cons (pg_name (i := 2) scShown.nd rfl (Or.inr rfl)) pgs_nil)))))
    (pss_cons (ps_set (i := 4) scShown.nd rfl (Or.inl rfl) (pe_tup (pa_cons (pe_tup (pa_cons pe_bl (pa_cons pe_bl pa_nil))) (pa_cons (pv 0) (pa_cons (pe_tup (pa_cons pe_int (pa_cons pe_int pa_nil))) (pa_cons
        (pe_callTy call_tuple_of (by rfl) mt boot_tuple (pa_cons (pe_lc (own := [("_law_f", 3)]) (g := gName 3) (tt := tYes) rfl scShown.nd (pi_tup (pv 0)) (blkOk_by (N := nShown) (sc := defScope sShown) (by decide +kernel)) (fun _ _ _ _ _ => pg_name (i := 3) scShown.nd rfl (Or.inr rfl)) (fun _ _ _ _ _ => pts_nil)
          (fun _ _ _ _ _ => pe_callTy (call_tuple_ofK (K := K)) (by rfl) mt boot_tuple (pa_cons (pe_lc (own := [("_law_h", 6)]) (g := gName 6) (tt := tYes) rfl scShown.nd (pi_tupK (K := K) (pv 0)) (blkOk_by (N := nShown) (by kernel_rfl)) (fun _ _ _ _ _ => pg_name (i := 6) scShown.nd rfl (Or.inr rfl)) (fun _ _ _ _ _ => pts_nil)
            (fun _ _ _ _ _ => pe_callTy (call_tuple_ofK (K := K)) (by rfl) mt boot_tuple (pa_cons (pe_lc (own := [("_law_b", 7)]) (g := gName 7) (tt := tYes) rfl scShown.nd (pi_tupK (K := K) (pv 0)) (blkOk_by (N := nShown) (by kernel_rfl)) (fun _ _ _ _ _ => pg_name (i := 7) scShown.nd rfl (Or.inl rfl)) (fun _ _ _ _ _ => pts_nil)
              (fun _ _ _ _ _ => pe_tup (pa_cons (pe_op op_mod (pe_callTy call_int1 (by rfl) mi PySem.Pv.boot_int (pa_cons (pe_op op_add (pe_op op_add (pv 3) (pv 6)) (pv 7)) pa_nil)) pe_int) (pa_cons (pv 7) (pa_cons (pv 0) (pa_cons (pv 0) pa_nil)))))) pa_nil))) pa_nil))) pa_nil)) pa_nil))))))
    (pss_cons (ps_set (i := 5) scShown.nd rfl (Or.inl rfl) (pe_lst pa_nil))
    (pss_cons (ps_for PassesOwn.never rfl (pi_tup (pv 0)) (pg_name (i := 3) scShown.nd rfl (Or.inr rfl))
      (pss_one (ps_expr (pe_bm PySem.F.plainAttrs_list PySem.F.slot_list_append PySem.F.type_list_append mt_append (pv 5) (pa_cons
        (pe_callTy call_tuple_of (by rfl) mt boot_tuple (pa_cons (pe_lc (own := [("_law_h", 6)]) (g := gName 6) (tt := tYes) rfl scShown.nd (pi_tup (pv 1)) (blkOk_by (N := nShown) (sc := defScope sShown) (by decide +kernel)) (fun _ _ _ _ _ => pg_name (i := 6) scShown.nd rfl (Or.inr rfl)) (fun _ _ _ _ _ => pts_nil)
            (fun _ _ _ _ _ => pe_callTy (call_tuple_ofK (K := K)) (by rfl) mt boot_tuple (pa_cons (pe_lc (own := [("_law_b", 7)]) (g := gName 7) (tt := tYes) rfl scShown.nd (pi_tupK (K := K) (pv 0)) (blkOk_by (N := nShown) (by kernel_rfl)) (fun _ _ _ _ _ => pg_name (i := 7) scShown.nd rfl (Or.inl rfl)) (fun _ _ _ _ _ => pts_nil)
              (fun _ _ _ _ _ => pe_tup (pa_cons (pe_op op_mod (pe_callTy call_int1 (by rfl) mi PySem.Pv.boot_int (pa_cons (pe_op op_add (pv 3) (pe_callTy call_int1 (by rfl) mi PySem.Pv.boot_int (pa_cons (pe_cmpR op_ne (pe_op op_fdiv (pv 6) pe_int) (pv 7) (nomark _)) pa_nil))) pa_nil)) pe_int)
                (pa_cons (pe_op op_add (pe_op op_mul pe_int (pv 7)) (pe_op op_mod (pe_callTy call_int1 (by rfl) mi PySem.Pv.boot_int (pa_cons (pv 6) pa_nil)) pe_int)) (pa_cons (pv 1) (pa_cons (pe_ifExp (pt_cmpR op_ne (pe_op op_fdiv (pv 6) pe_int) (pv 7) (nomark _)) (pv 2) (pv 1)) pa_nil)))))) pa_nil))) pa_nil)) pa_nil)))))
    (pss_one (ps_ret (pe_tup (pa_cons (pv 4) (pa_cons (pe_tup (pa_cons (pe_tup (pa_cons pe_bl (pa_cons pe_bl pa_nil))) (pa_cons (pe_tup (pa_cons pe_int (pa_cons pe_int (pa_cons pe_int (pa_cons pe_int pa_nil))))) (pa_cons (pe_tup (pa_cons pe_int (pa_cons pe_int pa_nil))) (pa_cons (pe_callTy call_tuple_of (by rfl) mt boot_tuple (pa_cons (pv 5) pa_nil)) pa_nil))))) pa_nil)))))))), ?_⟩
  rw [show L2.start nShown [] = [none, none, none, none, none, none, none, none] from rfl]
  refine ⟨(by show 2 ≤ sizeLine; decide), fun t0 n0 => ⟨(by show 4 ≤ sizeLine; decide), fun t1 n1 => ⟨(by show 4 ≤ sizeLine; decide), fun t2 n2 => ⟨(by show 3 ≤ sizeLine; decide), fun t3 n3 => ?_⟩⟩⟩⟩
  have s0 := same_new (o := .tup [V.int 0, V.int 1]) n0
  have s1 := same_new (o := .tup [V.int 0, V.int 1, V.int 2, V.int 3]) n1
  have s2 := same_new (o := .tup [V.int 1, V.int 0, V.int 3, V.int 2]) n2
  have s3 := same_new (o := .tup [V.ref t0, V.ref t1, V.ref t2]) n3
  have e0 := ((s1.trans s2).trans s3) _ _ (show (upd H t0 (.tup [V.int 0, V.int 1])) t0 = some (.tup (keepN.map vn)) from upd_same)
  have e1 := (s2.trans s3) t1 (.tup (sameN.map vn)) upd_same
  have e2 := s3 t2 (.tup (swapN.map vn)) upd_same
  have s03 := ((s0.trans s1).trans s2).trans s3
  refine ⟨t3, _, rfl, .inl (.inl upd_same), rfl, _, _, rfl, _, _, rfl, _, _, rfl, rfl, ?_⟩
  show tSeq _ _ _ _ (upd (upd (upd (upd H t0 (.tup [V.int 0, V.int 1])) t1 (.tup [V.int 0, V.int 1, V.int 2, V.int 3])) t2 (.tup [V.int 1, V.int 0, V.int 3, V.int 2])) t3 (.tup [V.ref t0, V.ref t1, V.ref t2]))
  generalize upd (upd (upd (upd H t0 (.tup [V.int 0, V.int 1])) t1 (.tup [V.int 0, V.int 1, V.int 2, V.int 3])) t2 (.tup [V.int 1, V.int 0, V.int 3, V.int 2])) t3 (.tup [V.ref t0, V.ref t1, V.ref t2]) = H4 at e0 e1 e2 s03
  have d0 : Dq K H4 NoL (.ref t0) (tD keepN) := .tup (.inl (.inl e0)) (.ofNats keepN)
  have d1 : Dq K H4 NoL (.ref t1) (tD sameN) := .tup (.inl (.inl e1)) (.ofNats sameN)
  have d2 : Dq K H4 NoL (.ref t2) (tD swapN) := .tup (.inl (.inl e2)) (.ofNats swapN)
  -- odd
  refine ⟨(by show 2 ≤ sizeLine; decide), fun tb nb => ⟨_, rfl, (by show 2 ≤ sizeLine; decide), fun tz nz => ?_⟩⟩
  have sb := same_new (o := .tup [V.bl false, V.bl true]) nb
  have sz := same_new (o := .tup [V.int 0, V.int 0]) nz
  have s4z := sb.trans sz
  have at0 : ∀ {Hx : Hp}, Same H4 Hx → SqT K Hx t0 (keepN.map vn) := fun sx => .inl (.inl (sx _ _ e0))
  have at1 : ∀ {Hx : Hp}, Same H4 Hx → SqT K Hx t1 (sameN.map vn) := fun sx => .inl (.inl (sx _ _ e1))
  refine ⟨_, rfl, t0, rfl, ⟨_, at0 s4z⟩, fun Da nDa => ?_⟩
  refine lc_nums (fun f => lsD (keepN.map fun h => keepN.map fun b => ⟨(f + h + b) % 2, b, keepN, keepN⟩)) (at0 s4z) nDa (by decide) (fun _ => rfl) (fun f Ha Qa _ sa qa => ?_) (fun Hq lq sq hq dq => ?_)
  · refine ⟨_, rfl, t0, rfl, ⟨_, at0 (s4z.trans sa)⟩, fun Db nDb => ?_⟩
    refine lc_nums (fun h => lnD (keepN.map fun b => ⟨(f + h + b) % 2, b, keepN, keepN⟩)) (at0 (s4z.trans sa)) nDb (by decide) (fun _ => rfl) (fun h Hb Qb _ sb' qb => ?_) (fun Hq lq sq hq dq => ?_)
    · refine ⟨_, rfl, t0, rfl, ⟨_, at0 ((s4z.trans sa).trans sb')⟩, fun Dc nDc => ?_⟩
      refine lc_nums (fun b => rD ⟨(f + h + b) % 2, b, keepN, keepN⟩) (at0 ((s4z.trans sa).trans sb')) nDc (by decide) (fun _ => rfl) (fun b Hc Qc _ sc qc => ?_) (fun Hq lq sq hq dq => ?_)
      · have s4c := ((s4z.trans sa).trans sb').trans sc
        have ev : V.int ((((f : Nat) : Int) + ((h : Nat) : Int) + ((b : Nat) : Int)) % 2) = vn ((f + h + b) % 2) := congrArg V.int (by omega)
        refine ⟨_, rfl, _, rfl, _, _, rfl, rfl, _, rfl, _, _, rfl, rfl, .inl ⟨_, rfl, _, _, rfl, rfl, (show (0 : Int) < 2 by decide), _, rfl, _, rfl, _, rfl, (by show 4 ≤ sizeLine; decide), fun t nt => ?_⟩⟩
        have st := same_new (o := .tup [V.int ((((f : Nat) : Int) + ((h : Nat) : Int) + ((b : Nat) : Int)) % 2), vn b, V.ref t0, V.ref t0]) nt
        refine qc _ _ st (.tup (.inl (.inl upd_same)) (.cons ?_ (.cons (.int _) (.cons (d0.sm (s4c.trans st)) (.one (d0.sm (s4c.trans st)))))))
        show Dq K _ NoL (V.int ((((f : Nat) : Int) + ((h : Nat) : Int) + ((b : Nat) : Int)) % 2)) _
        rw [ev]
        exact .int _
      · refine ⟨Dc, lq, rfl, .inl ⟨.inl (.inl hq), fun t nt => ?_⟩⟩
        have st := same_new (o := .tup lq) nt
        refine qb _ _ (sq.trans st) (.tup (.inl (.inl upd_same)) ?_)
        rw [List.map_map]
        exact dq.sm st
    · refine ⟨Db, lq, rfl, .inl ⟨.inl (.inl hq), fun t nt => ?_⟩⟩
      have st := same_new (o := .tup lq) nt
      refine qa _ _ (sq.trans st) (.tup (.inl (.inl upd_same)) ?_)
      rw [List.map_map]
      exact dq.sm st
  refine ⟨Da, lq, rfl, .inl ⟨.inl (.inl hq), fun tr nr => ⟨(by show 4 ≤ sizeLine; decide), fun to no => ?_⟩⟩⟩
  have sr := same_new (o := .tup lq) nr
  have so := same_new (o := .tup [V.ref tb, V.ref t0, V.ref tz, V.ref tr]) no
  have szo := (sq.trans sr).trans so
  have s4o := s4z.trans szo
  have dodd : Dq K (upd (upd Hq tr (.tup lq)) to (.tup [V.ref tb, V.ref t0, V.ref tz, V.ref tr])) NoL (.ref to) (bD oddB) := by
    refine .tup (.inl (.inl upd_same)) (.cons (.tup (.inl (.inl ((sz.trans szo) _ _ upd_same))) (.ofBools [false, true])) (.cons (d0.sm s4o) (.cons (.tup (.inl (.inl (szo _ _ upd_same))) (.cons (.int _) (.one (.int _)))) (.one (.tup (.inl (.inl (so _ _ upd_same))) ?_)))))
    show Dqs K _ NoL lq ((keepN.map fun f => keepN.map fun h => keepN.map fun b => (⟨(f + h + b) % 2, b, keepN, keepN⟩ : BRow)).map lsD)
    rw [List.map_map]
    exact dq.sm (sr.trans so)
  show tSeq _ _ _ _ (upd (upd Hq tr (.tup lq)) to (.tup [V.ref tb, V.ref t0, V.ref tz, V.ref tr]))
  generalize upd (upd Hq tr (.tup lq)) to (.tup [V.ref tb, V.ref t0, V.ref tz, V.ref tr]) = H5 at dodd s4o
  -- lines
  refine ⟨Nat.zero_le _, fun p np => ?_⟩
  have sp := same_new (o := .lst []) np
  refine ⟨_, rfl, t0, rfl, ⟨_, at0 (s4o.trans sp)⟩, ?_⟩
  refine for_it (walk_tup (xs := keepN.map vn)) (fun i σ Hc => ∃ (y3 : Option V) (acc : List V), σ = [some (V.ref t0), some (V.ref t1), some (V.ref t2), y3, some (V.ref to), some (V.ref p), none, none] ∧ Grow H5 p acc Hc ∧ Dqs K Hc NoL acc ((keepN.take i).map fun f => lsD (sameN.map fun h => keepN.map fun b => sideR f h b))) ⟨_, [], rfl, .start np, .nil⟩ (fun i σ Hc _ hp => ?_) (fun i v σ Hc0 Hc hi hp hyv => ?_) (fun σ Hc hp => ?_)
  · obtain ⟨_, _, rfl, g, _⟩ := hp
    exact at0 (s4o.trans g.same)
  · obtain ⟨y3, acc, rfl, g, ga⟩ := hp
    obtain ⟨rfl, hv⟩ := hyv
    rw [List.length_map] at hi
    obtain ⟨f, hf⟩ := get_some hi
    rw [List.getElem?_map, hf] at hv
    obtain rfl : vn f = v := Option.some.inj hv
    have s4c := s4o.trans g.same
    refine ⟨_, rfl, .inl ⟨rfl, _, .inl (.inl g.at')⟩, _, rfl, t1, rfl, ⟨_, at1 s4c⟩, fun Da nDa => ?_⟩
    refine lc_nums (fun h => lnD (keepN.map fun b => sideR f h b)) (at1 s4c) nDa (by decide) (fun _ => rfl) (fun h Hb Qb _ sb' qb => ?_) (fun Hq lq sq hq dq => ?_)
    · refine ⟨_, rfl, t0, rfl, ⟨_, at0 (s4c.trans sb')⟩, fun Dc nDc => ?_⟩
      refine lc_nums (fun b => rD (sideR f h b)) (at0 (s4c.trans sb')) nDc (by decide) (fun _ => rfl) (fun b Hd Qc _ sc qc => ?_) (fun Hq lq sq hq dq => ?_)
      · have s4d := (s4c.trans sb').trans sc
        have fin : ∀ (c : Bool) (va : V) (la : List Nat), c = decide (h / 2 ≠ b) → la = (if h / 2 ≠ b then swapN else sameN) → Dq K Hd NoL va (tD la) → ∀ x y : V, x = V.int ((((f : Nat) : Int) + (if c = true then 1 else 0)) % 2) → y = V.int (2 * ((b : Nat) : Int) + ((h : Nat) : Int) % 2) →
            [x, y, V.ref t1, va].length ≤ sizeLine ∧ ∀ p, Hd p = none → Qc (V.ref p) (upd Hd p (.tup [x, y, V.ref t1, va])) := fun c va la ec el dv x y ex ey => by
          refine ⟨(by show 4 ≤ sizeLine; decide), fun t nt => ?_⟩
          have st := same_new (o := .tup [x, y, V.ref t1, va]) nt
          have e1 : x = vn (sideR f h b).f := by
            rw [ex, ec]
            refine congrArg V.int ?_
            show _ = (((f + if h / 2 ≠ b then 1 else 0) % 2 : Nat) : Int)
            by_cases hb : h / 2 ≠ b
            · rw [if_pos hb, if_pos (decide_eq_true hb)]
              omega
            · rw [if_neg hb, if_neg (by simpa using hb)]
              omega
          have e2 : y = vn (sideR f h b).h := by
            rw [ey]
            refine congrArg V.int ?_
            show _ = ((2 * b + h % 2 : Nat) : Int)
            omega
          refine qc _ _ st (.tup (.inl (.inl upd_same)) (.cons ?_ (.cons ?_ (.cons (d1.sm (s4d.trans st)) (.one ?_)))))
          · rw [e1]
            exact .int _
          · rw [e2]
            exact .int _
          · have dv' := dv.sm st
            rw [el] at dv'
            exact dv'
        have ec : (!decide (V.int (((h : Nat) : Int) / 2) = V.int ((b : Nat) : Int))) = decide (h / 2 ≠ b) := by
          by_cases hb : h / 2 = b
          · rw [decide_eq_true (show V.int (((h : Nat) : Int) / 2) = V.int ((b : Nat) : Int) from congrArg V.int (by omega)), decide_eq_false (by simpa using hb)]
            rfl
          · rw [decide_eq_false (fun z => hb (by have : ((h : Nat) : Int) / 2 = b := V.int.inj z; omega)), decide_eq_true hb]
            rfl
        refine ⟨_, rfl, _, rfl, _, _, rfl, rfl, ⟨by decide, by decide⟩, _, rfl, rfl, .inr ⟨_, rfl, _, _, rfl, rfl, .inl ⟨_, rfl, _, _, rfl, rfl, (show (0 : Int) < 2 by decide), ?_⟩⟩⟩
        refine ⟨_, rfl, _, _, rfl, rfl, .inl ⟨by decide, by decide⟩, _, rfl, .inl ⟨_, rfl, _, _, rfl, rfl, (show (0 : Int) < 2 by decide), _, _, rfl, rfl, _, rfl, ?_⟩⟩
        refine ⟨_, rfl, _, _, rfl, rfl, ⟨by decide, by decide⟩, _, rfl, rfl, _, rfl, ?_⟩
        show if (!decide (V.int (((h : Nat) : Int) / 2) = V.int ((b : Nat) : Int))) = true then _ else _
        refine ite2 (fun hc => ?_) (fun hc => ?_)
        · rw [ec] at hc
          exact ⟨_, rfl, fin _ _ swapN ec (by rw [if_pos (of_decide_eq_true hc)]) (d2.sm s4d) _ _ rfl rfl⟩
        · rw [ec] at hc
          exact ⟨_, rfl, fin _ _ sameN ec (by rw [if_neg (fun z => hc (decide_eq_true z))]) (d1.sm s4d) _ _ rfl rfl⟩
      · refine ⟨Dc, lq, rfl, .inl ⟨.inl (.inl hq), fun t nt => ?_⟩⟩
        have st := same_new (o := .tup lq) nt
        refine qb _ _ (sq.trans st) (.tup (.inl (.inl upd_same)) ?_)
        rw [List.map_map]
        exact dq.sm st
    · refine ⟨Da, lq, rfl, .inl ⟨.inl (.inl hq), fun t nt => ?_⟩⟩
      have st := same_new (o := .tup lq) nt
      have g' := (g.on sq).on st
      have la := ga.length
      rw [List.length_map, List.length_take, show keepN.length = 2 from rfl] at la
      refine ⟨p, acc, _, rfl, rfl, g'.at', small1 (by omega), _, acc ++ [.ref t], rfl, g'.push _, ?_⟩
      rw [take_snoc hf, List.map_append]
      refine (((ga.sm sq).sm st).append (.one (.tup (.inl (.inl upd_same)) ?_))).tk (g'.tk _)
      rw [List.map_map]
      exact dq.sm st
  · obtain ⟨y3, acc, rfl, g, ga⟩ := hp
    rw [List.length_map, List.take_length] at ga
    refine ⟨_, rfl, (by show 2 ≤ sizeLine; decide), fun ta na => ⟨(by show 4 ≤ sizeLine; decide), fun th nh => ⟨(by show 2 ≤ sizeLine; decide), fun tg ng => ⟨_, rfl, p, acc, rfl, .inl ⟨.inl (.inl ?_), fun tl nl => ⟨(by show 4 ≤ sizeLine; decide), fun ts ns => ⟨(by show 2 ≤ sizeLine; decide), fun te ne => ?_⟩⟩⟩⟩⟩⟩⟩
    · exact (((same_new na).trans (same_new nh)).trans (same_new ng)) _ _ g.at'
    have sa := same_new (o := .tup [V.bl false, V.bl true]) na
    have sh := same_new (o := .tup [V.int 0, V.int 0, V.int 1, V.int 1]) nh
    have sg := same_new (o := .tup [V.int 0, V.int 0]) ng
    have sl := same_new (o := .tup acc) nl
    have ss := same_new (o := .tup [V.ref ta, V.ref th, V.ref tg, V.ref tl]) ns
    have se := same_new (o := .tup [V.ref to, V.ref ts]) ne
    have slse := (sl.trans ss).trans se
    have sall := ((sa.trans sh).trans sg).trans slse
    refine q _ _ (((s03.trans s4o).trans g.same).trans sall) (.tup (.inl (.inl upd_same)) (.cons (dodd.sm (g.same.trans sall)) (.one (.tup (.inl (.inl (se _ _ upd_same))) (.cons (.tup (.inl (.inl (((sh.trans sg).trans slse) _ _ upd_same))) (.ofBools [false, true])) (.cons (.tup (.inl (.inl ((sg.trans slse) _ _ upd_same))) (.ofNats [0, 0, 1, 1])) (.cons (.tup (.inl (.inl (slse _ _ upd_same))) (.cons (.int _) (.one (.int _)))) (.one (.tup (.inl (.inl ((ss.trans se) _ _ upd_same))) ?_)))))))))
    show Dqs K _ NoL acc ((keepN.map fun f => sameN.map fun h => keepN.map fun b => sideR f h b).map lsD)
    rw [List.map_map]
    exact ga.sm sall
end
end K12

set_option Elab.async false
set_option linter.all false
set_option maxRecDepth 100000
set_option maxHeartbeats 4000000
namespace K12
open PySem PySem.Spec PyProof.Rows L2
/-! ### laps by reckoning -/
def lap1 (b : Book) (L m : Nat) (x : List (Std × Way) × List (Std × Way)) : List (Std × Way) × List (Std × Way) :=
  (x.1 ++ addF (keys x.1) (cands (turn b) (chs L m) x.2), addF (keys x.1) (cands (turn b) (chs L m) x.2))
def laps (b : Book) (L m : Nat) : Nat → List (Std × Way) × List (Std × Way)
  | 0 => ([(first b m, [])], [(first b m, [])])
  | k + 1 => lap1 b L m (laps b L m k)
theorem laps_ok (b : Book) (L m : Nat) : ∀ k, LapP (turn b) (chs L m) (first b m) k (laps b L m k).1 (laps b L m k).2
  | 0 => .first
  | k + 1 => (laps_ok b L m k).go (chs_up L m)
theorem laps_full {b : Book} {L m k : Nat} (h : (laps b L m k).2 = []) : Full (turn b) (chs L m) (first b m) (laps b L m k).1 := by
  have z := laps_ok b L m k
  rw [h] at z
  exact ⟨z.nodup, z.toLap.full⟩
theorem sides_wf : sidesB.WF 2 4 1 := by
  have h : ∀ ls, ls ∈ sidesB.rows → ∀ l, l ∈ ls → ∀ r, r ∈ l → r.f < 2 ∧ r.h < 4 ∧ r.l.length = 4 ∧ r.r.length = 4 ∧ (∀ x, x ∈ r.l → x < 4) ∧ ∀ x, x ∈ r.r → x < 4 := by decide +kernel
  exact ⟨by decide, by decide, by decide, by decide, by decide, by decide, by decide, by decide, by decide, by decide, by decide +kernel, by decide +kernel, fun ls h1 l h2 r h3 => ⟨(h ls h1 l h2 r h3).1, (h ls h1 l h2 r h3).2.1, (h ls h1 l h2 r h3).2.2.1, (h ls h1 l h2 r h3).2.2.2.1, (h ls h1 l h2 r h3).2.2.2.2.1, (h ls h1 l h2 r h3).2.2.2.2.2⟩⟩
theorem odd_wf : oddB.WF 2 2 1 := by
  have h : ∀ ls, ls ∈ oddB.rows → ∀ l, l ∈ ls → ∀ r, r ∈ l → r.f < 2 ∧ r.h < 2 ∧ r.l.length = 2 ∧ r.r.length = 2 ∧ (∀ x, x ∈ r.l → x < 2) ∧ ∀ x, x ∈ r.r → x < 2 := by decide +kernel
  exact ⟨by decide, by decide, by decide, by decide, by decide, by decide, by decide, by decide, by decide, by decide, by decide +kernel, by decide +kernel, fun ls h1 l h2 r h3 => ⟨(h ls h1 l h2 r h3).1, (h ls h1 l h2 r h3).2.1, (h ls h1 l h2 r h3).2.2.1, (h ls h1 l h2 r h3).2.2.2.1, (h ls h1 l h2 r h3).2.2.2.2.1, (h ls h1 l h2 r h3).2.2.2.2.2⟩⟩
theorem lap_s1 : laps sidesB 1 1 4 = ([((0, [0]), []), ((1, [2]), [(0, 1)])], []) := by decide +kernel
theorem lap_s2 : laps sidesB 1 2 4 = ([((0, [0, 0]), []), ((1, [2, 1]), [(0, 1)]), ((1, [0, 2]), [(1, 1)]), ((0, [2, 3]), [(0, 1), (1, 1)])], []) := by decide +kernel
theorem lap_s3 : (laps sidesB 1 3 4).1.length = 8 ∧ (laps sidesB 1 3 4).2 = [] := by decide +kernel
theorem lap_o2 : laps oddB 1 2 4 = ([((0, [0, 0]), []), ((1, [1, 0]), [(0, 1)]), ((1, [0, 1]), [(1, 1)]), ((0, [1, 1]), [(0, 1), (1, 1)])], []) := by decide +kernel
theorem lap_o3 : ((1, [0, 0, 1]), [(2, 1)]) ∈ (laps oddB 1 3 4).1 ∧ (laps oddB 1 3 4).2 = [] := by decide +kernel
theorem full_s1 : Full (turn sidesB) (chs 1 1) (first sidesB 1) [((0, [0]), []), ((1, [2]), [(0, 1)])] := by
  have h := laps_full (b := sidesB) (L := 1) (m := 1) (k := 4) (by rw [lap_s1])
  rwa [lap_s1] at h
theorem full_s2 : Full (turn sidesB) (chs 1 2) (first sidesB 2) [((0, [0, 0]), []), ((1, [2, 1]), [(0, 1)]), ((1, [0, 2]), [(1, 1)]), ((0, [2, 3]), [(0, 1), (1, 1)])] := by
  have h := laps_full (b := sidesB) (L := 1) (m := 2) (k := 4) (by rw [lap_s2])
  rwa [lap_s2] at h
theorem full_o2 : Full (turn oddB) (chs 1 2) (first oddB 2) [((0, [0, 0]), []), ((1, [1, 0]), [(0, 1)]), ((1, [0, 1]), [(1, 1)]), ((0, [1, 1]), [(0, 1), (1, 1)])] := by
  have h := laps_full (b := oddB) (L := 1) (m := 2) (k := 4) (by rw [lap_o2])
  rwa [lap_o2] at h
theorem best_s2 : Best (turn sidesB) (chs 1 2) (first sidesB 2) (0, [2, 3]) [(0, 1), (1, 1)] := (full_s2.2 _ _).mp (by decide)
theorem best_o3 : Best (turn oddB) (chs 1 3) (first oddB 3) (1, [0, 0, 1]) [(2, 1)] := ((laps_full (b := oddB) (L := 1) (m := 3) (k := 4) lap_o3.2).2 _ _).mp lap_o3.1
theorem srt_s1 {D : List (Std × Way)} (h : Full (turn sidesB) (chs 1 1) (first sidesB 1) D) : srt (keys D) = [(0, [0]), (1, [2])] := srt_of (h.perm full_s1) (by decide)
theorem srt_o2 {D : List (Std × Way)} (h : Full (turn oddB) (chs 1 2) (first oddB 2) D) : srt (keys D) = [(0, [0, 0]), (0, [1, 1]), (1, [0, 1]), (1, [1, 0])] := srt_of ((h.perm full_o2).trans (by decide)) (by decide)
theorem len_s3 {D : List (Std × Way)} (h : Full (turn sidesB) (chs 1 3) (first sidesB 3) D) : D.length = 8 := by
  have e := (h.perm (laps_full (b := sidesB) (L := 1) (m := 3) (k := 4) lap_s3.2)).length_eq
  have e1 : (keys D).length = D.length := List.length_map _
  have e2 : (keys (laps sidesB 1 3 4).1).length = (laps sidesB 1 3 4).1.length := List.length_map _
  rw [← e1, e, e2]
  exact lap_s3.1
/-! ### displays of constants -/
def tDat (K : PySem.W.Frag) (N : Addr → Prop) (d : PyData) : TE := fun _ H Q => ∀ v H', Same H H' → Dq K H' N v d → Q v H'
def tDats (K : PySem.W.Frag) (N : Addr → Prop) (ds : List PyData) : TA := fun _ H Q => ∀ vs H', Same H H' → Dqs K H' N vs ds → Q vs H'
def RD (K : PySem.W.Frag) (N : Addr → Prop) (te : TE) (d : PyData) : Prop := ∀ σ H Q, tDat K N d σ H Q → te σ H Q
def RDs (K : PySem.W.Frag) (N : Addr → Prop) (ta : TA) (ds : List PyData) : Prop := ∀ σ H Q, tDats K N ds σ H Q → ta σ H Q
section
variable {K : PySem.W.Frag} {N : Addr → Prop} {te : TE} {ta : TA} {d : PyData} {ds : List PyData}
theorem rdInt (i : Int) : RD K N (tC (.int i)) (.int i) := fun σ H Q q => q _ _ (Same.refl H) (.int i)
theorem rdStr (s : Str) : RD K N (tC (.str s)) (.str s) := fun σ H Q q => q _ _ (Same.refl H) (.str s)
theorem rdNil : RDs K N tNil [] := fun σ H Q q => q _ _ (Same.refl H) .nil
theorem rdCons (h1 : RD K N te d) (h2 : RDs K N ta ds) : RDs K N (tCons te ta) (d :: ds) := fun σ H Q q => h1 σ H _ fun v H' s dv => h2 σ H' _ fun vs H'' s' dvs => q _ _ (s.trans s') (.cons (dv.sm s') dvs)
theorem rdTup (hl : ds.length ≤ 1000) (h : RDs K N ta ds) : RD K N (tTup ta) (.tuple ds) := fun σ H Q q => h σ H _ fun vs H' s dvs => ⟨Nat.le_of_lt (small1 (by rw [dvs.length]; exact hl)), fun p np => q _ _ (s.trans (same_new np)) (.tup (.inl (.inl upd_same)) (dvs.sm (same_new np)))⟩
theorem rdLst (hl : ds.length ≤ 1000) (h : RDs K AnyL ta ds) : RD K AnyL (tLst ta) (.list ds) := fun σ H Q q => h σ H _ fun vs H' s dvs => ⟨Nat.le_of_lt (small1 (by rw [dvs.length]; exact hl)), fun p np => q _ _ (s.trans (same_new np)) (.lst trivial (.inl (.inl upd_same)) (dvs.sm (same_new np)))⟩
end
theorem asgLst {K : PySem.W.Frag} {N : Addr → Prop} {ta : TA} {ds : List PyData} {i : Nat} {D : Ends} {σ : L2.St} {H : Hp} (h : RDs K N ta ds)
    (k : ∀ vs H', Same H H' → Dqs K H' N vs ds → vs.length ≤ sizeLine ∧ ∀ p, H' p = none → D.nx (σ.set i (some (.ref p))) (upd H' p (.lst vs))) : tAsg (tLst ta) (gName i) D σ H := h σ H _ k
theorem lstRd {K : PySem.W.Frag} {N : Addr → Prop} {ta : TA} {ds : List PyData} {σ : L2.St} {H : Hp} {Q : VK} (h : RDs K N ta ds)
    (k : ∀ vs H', Same H H' → Dqs K H' N vs ds → vs.length ≤ sizeLine ∧ ∀ p, H' p = none → Q (.ref p) (upd H' p (.lst vs))) : tLst ta σ H Q := h σ H _ k
def dueL : List PyData := [.list [.tuple [.int 0, .tuple [.int 0]], .tuple [.int 1, .tuple [.int 2]]], .list [.tuple [.int 0, .tuple [.int 0, .int 0]], .tuple [.int 0, .tuple [.int 1, .int 1]], .tuple [.int 1, .tuple [.int 0, .int 1]], .tuple [.int 1, .tuple [.int 1, .int 0]]], .tuple [.int 2, .tuple [.tuple [.int 0, .int 1], .tuple [.int 1, .int 1]]], .tuple [.int 3, .tuple [.tuple [.int 2, .int 1]]], .str "can not"]
def moreL : List PyData := [.int 8, .tuple [.tuple [.int 0, .int 1], .tuple [.int 1, .int 1]]]
theorem due_eq : dueL = [.list ([((0, [0]) : Std), (1, [2])].map sD), .list ([((0, [0, 0]) : Std), (0, [1, 1]), (1, [0, 1]), (1, [1, 0])].map sD), hD 2 [(0, 1), (1, 1)], hD 3 [(2, 1)], .str "can not"] := rfl
theorem more_eq : moreL = [.int ((8 : Nat) : Int), wD [(0, 1), (1, 1)]] := rfl
theorem due_ok : okD 9 (.list (dueL ++ moreL)) = true := by decide +kernel
/-! ### _law_by_hand_right -/
abbrev sHand : Stmt := topS 32
abbrev nHand : List Str := ["_law_odd", "_law_sides", "_law_got", "_law_due"]
theorem scHand : FnScope nHand [] (defScope sHand) := ⟨rfl, rfl, rfl, by decide +kernel, rfl, by decide +kernel, by decide +kernel⟩
def spHand : Sp := fun vs H Q _ => vs = [] ∧ ∀ H', Same H H' → Q (.bl true) H'
section
variable {P : Program} {w : World} {K : PySem.W.Frag} {mg : Str → Option Value} {base : Heap}
theorem ok_hand {f fN fY fC fS fH fI C : Addr} {fd fdN fdY fdC fdS fdH fdI : FuncData} (F : Fun K "_law_by_hand_right" "_law_by_hand_right" sHand f fd)
    (FN : Fun K "_law_shown" "_law_shown" sShown fN fdN) (bN : Binds K fdN [] []) (gN : mg "_law_shown" = some (.ref fN)) (GN : FnOk P w K mg base CX0 1 fN fdN [] (spShown K))
    (FY : Fun K "_law_ways" "_law_ways" sWays fY fdY) (bY : Binds K fdY ["_law_book_here", "_law_many"] []) (gY : mg "_law_ways" = some (.ref fY)) (GY : FnOk P w K mg base CX0 2 fY fdY ["_law_book_here", "_law_many"] (spWays P w K))
    (FC : Fun K "stands_come" "stands_come" sCome fC fdC) (bC : Binds K fdC ["book", "many"] []) (gC : mg "stands_come" = some (.ref fC)) (GC : FnOk P w K mg base CX0 11 fC fdC ["book", "many"] (spCome K))
    (FS : Fun K "_law_same" "_law_same" sSame fS fdS) (bS : Binds K fdS ["_law_got", "_law_goal"] []) (gS : mg "_law_same" = some (.ref fS)) (GS : FnOk P w K mg base CX0 10 fS fdS ["_law_got", "_law_goal"] (spSame K 10))
    (FH : Fun K "_law_heard" "_law_heard" sHeard fH fdH) (bH : Binds K fdH ["_law_book_here", "_law_stand"] []) (gH : mg "_law_heard" = some (.ref fH)) (GH0 : FnOk P w K mg base CX0 12 fH fdH ["_law_book_here", "_law_stand"] (spHeard K))
    (FI : Fun K "history_to" "history_to" sHist fI fdI) (bI : Binds K fdI ["book", "stand"] []) (gI : mg "history_to" = some (.ref fI)) (GI : FnOk P w K mg base (L2.CX P w) 11 fI fdI ["book", "stand"] (spHist K C))
    (mlen : mg "len" = none) : FnOk P w K mg base CX0 13 f fd [] spHand := by
  have GH := GH0.imp heard_imp
  refine F.ok scHand (fun vs H Q E h => ?_) (fun cdv A outer s H vs Q E hr h => ?_)
  · obtain ⟨rfl, _⟩ := h
    rfl
  obtain ⟨rfl, q⟩ := h
  have hu : (cxOf CX0 P w K mg base nHand "_law_by_hand_right" (defScope sHand) f cdv A outer s H E).nox.A.units + 64 < cLine := hr.units
  refine ⟨_, pss_cons (ps_asg (pe_call0 GN (hr.mono (show 1 ≤ 12 by decide)) (by rfl) gN FN.kp bN .nil pass0) (pg_tup rfl (pgs_cons (pg_name (i := 0) scHand.nd rfl (Or.inl rfl)) (pgs_cons (pg_name (i := 1) scHand.nd rfl (Or.inl rfl)) pgs_nil))))
    (pss_cons (ps_set (i := 2) scHand.nd rfl (Or.inl rfl) (pe_lst (pa_cons (pe_call GC (hr.mono (show 11 ≤ 12 by decide)) (by rfl) gC FC.kp bC .nil pass0 (pa_cons (pv 1) (pa_cons pe_int pa_nil))) (pa_cons (pe_call GC (hr.mono (show 11 ≤ 12 by decide)) (by rfl) gC FC.kp bC .nil pass0 (pa_cons (pv 0) (pa_cons pe_int pa_nil))) (pa_cons (pe_call GI (hr.mono (show 11 ≤ 12 by decide)) (by rfl) gI FI.kp bI .nil passL (pa_cons (pv 1) (pa_cons (pe_tup (pa_cons pe_int (pa_cons (pe_tup (pa_cons pe_int (pa_cons pe_int pa_nil))) pa_nil))) pa_nil))) (pa_cons (pe_call GI (hr.mono (show 11 ≤ 12 by decide)) (by rfl) gI FI.kp bI .nil passL (pa_cons (pv 0) (pa_cons (pe_tup (pa_cons pe_int (pa_cons (pe_tup (pa_cons pe_int (pa_cons pe_int (pa_cons pe_int pa_nil)))) pa_nil))) pa_nil))) (pa_cons (pe_call GH hr (by rfl) gH FH.kp bH .nil pass0 (pa_cons (pv 1) (pa_cons (pe_tup (pa_cons pe_int (pa_cons (pe_tup (pa_cons pe_int pa_nil)) pa_nil))) pa_nil))) pa_nil)))))))
    (pss_cons (ps_set (i := 3) scHand.nd rfl (Or.inl rfl) (pe_lst (pa_cons (pe_lst (pa_cons (pe_tup (pa_cons pe_int (pa_cons (pe_tup (pa_cons pe_int pa_nil)) pa_nil))) (pa_cons (pe_tup (pa_cons pe_int (pa_cons (pe_tup (pa_cons pe_int pa_nil)) pa_nil))) pa_nil))) (pa_cons (pe_lst (pa_cons (pe_tup (pa_cons pe_int (pa_cons (pe_tup (pa_cons pe_int (pa_cons pe_int pa_nil))) pa_nil))) (pa_cons (pe_tup (pa_cons pe_int (pa_cons (pe_tup (pa_cons pe_int (pa_cons pe_int pa_nil))) pa_nil))) (pa_cons (pe_tup (pa_cons pe_int (pa_cons (pe_tup (pa_cons pe_int (pa_cons pe_int pa_nil))) pa_nil))) (pa_cons (pe_tup (pa_cons pe_int (pa_cons (pe_tup (pa_cons pe_int (pa_cons pe_int pa_nil))) pa_nil))) pa_nil))))) (pa_cons (pe_tup (pa_cons pe_int (pa_cons (pe_tup (pa_cons (pe_tup (pa_cons pe_int (pa_cons pe_int pa_nil))) (pa_cons (pe_tup (pa_cons pe_int (pa_cons pe_int pa_nil))) pa_nil))) pa_nil))) (pa_cons (pe_tup (pa_cons pe_int (pa_cons (pe_tup (pa_cons (pe_tup (pa_cons pe_int (pa_cons pe_int pa_nil))) pa_nil)) pa_nil))) (pa_cons pe_str pa_nil)))))))
    (pss_one (ps_ret (pe_call GS (hr.mono (show 10 ≤ 12 by decide)) (by rfl) gS FS.kp bS .nil pass0 (pa_cons (pe_op op_cat (pv 2) (pe_lst (pa_cons (pe_callB call_lenN (by rfl) mlen PySem.boot_len (pa_cons (pe_call GY (hr.mono (show 2 ≤ 12 by decide)) (by rfl) gY FY.kp bY .nil pass0 (pa_cons (pv 1) (pa_cons pe_int pa_nil))) pa_nil)) (pa_cons (pe_getN hu (pe_call GY (hr.mono (show 2 ≤ 12 by decide)) (by rfl) gY FY.kp bY .nil pass0 (pa_cons (pv 1) (pa_cons pe_int pa_nil))) (pe_tup (pa_cons pe_int (pa_cons (pe_tup (pa_cons pe_int (pa_cons pe_int pa_nil))) pa_nil))) (fun _ _ => rfl)) pa_nil)))) (pa_cons (pe_op op_cat (pv 3) (pe_lst (pa_cons pe_int (pa_cons (pe_tup (pa_cons (pe_tup (pa_cons pe_int (pa_cons pe_int pa_nil))) (pa_cons (pe_tup (pa_cons pe_int (pa_cons pe_int pa_nil))) pa_nil))) pa_nil)))) pa_nil))))))), ?_⟩
  rw [show L2.start nHand [] = [none, none, none, none] from rfl]
  have ibs := isBook sides_wf
  have ibo := isBook odd_wf
  -- odd, sides
  refine ⟨rfl, fun sh H1 s1 hsh => ?_⟩
  obtain ⟨ash, xsh, rfl, shS, shD⟩ := hsh.tupI
  obtain ⟨vo, vsd, rfl, ho, hs⟩ := shD.two
  refine ⟨ash, _, rfl, shS, rfl, _, _, rfl, _, _, rfl, rfl, ?_⟩
  -- stands_come
  refine ⟨_, rfl, vsd, bD sidesB, NoL, sidesB, 2, 4, 1, 1, rfl, hs, ibs.1, sides_wf, by decide, by decide, by decide, fun p1 us1 D1 H2 s2 np1 hp1 full1 le1 hus1 => ?_⟩
  rw [srt_s1 full1] at hus1
  refine ⟨_, rfl, vo, bD oddB, NoL, oddB, 2, 2, 1, 2, rfl, ho.sm s2, ibo.1, odd_wf, by decide, by decide, by decide, fun p2 us2 D2 H3 s3 np2 hp2 full2 le2 hus2 => ?_⟩
  rw [srt_o2 full2] at hus2
  have s23 := s2.trans s3
  -- history_to
  refine ⟨_, rfl, ?_⟩
  refine (rdTup (by decide) (rdCons (rdInt 0) (rdCons (rdTup (by decide) (rdCons (rdInt 2) (rdCons (rdInt 3) rdNil))) rdNil))) _ _ _ (fun y3 H4 s4 (dy3 : Dq K H4 NoL y3 (sD (0, [2, 3]))) => ?_)
  refine ⟨vsd, y3, bD sidesB, sD (0, [2, 3]), NoL, NoL, sidesB, (0, [2, 3]), 2, 4, 1, rfl, hs.sm (s23.trans s4), dy3, ibs.1, (isStd (by decide)).1, sides_wf, by decide, by decide, by decide, fun u3 hb3 v3 H5 s5 hv3 => ?_, fun hno H' s' => (hno _ best_s2).elim⟩
  obtain rfl : u3 = [(0, 1), (1, 1)] := hb3.uniq best_s2
  have s25 := (s23.trans s4).trans s5
  refine ⟨_, rfl, ?_⟩
  refine (rdTup (by decide) (rdCons (rdInt 1) (rdCons (rdTup (by decide) (rdCons (rdInt 0) (rdCons (rdInt 0) (rdCons (rdInt 1) rdNil)))) rdNil))) _ _ _ (fun y4 H6 s6 (dy4 : Dq K H6 NoL y4 (sD (1, [0, 0, 1]))) => ?_)
  refine ⟨vo, y4, bD oddB, sD (1, [0, 0, 1]), NoL, NoL, oddB, (1, [0, 0, 1]), 2, 2, 1, rfl, ho.sm (s25.trans s6), dy4, ibo.1, (isStd (by decide)).1, odd_wf, by decide, by decide, by decide, fun u4 hb4 v4 H7 s7 hv4 => ?_, fun hno H' s' => (hno _ best_o3).elim⟩
  obtain rfl : u4 = [(2, 1)] := hb4.uniq best_o3
  have s27 := (s25.trans s6).trans s7
  -- heard
  refine ⟨_, rfl, ?_⟩
  refine (rdTup (by decide) (rdCons (rdInt 1) (rdCons (rdTup (by decide) (rdCons (rdInt 3) rdNil)) rdNil))) _ _ _ (fun y5 H8 s8 (dy5 : Dq K H8 NoL y5 (sD (1, [3]))) => ?_)
  refine ⟨vsd, y5, bD sidesB, sD (1, [3]), NoL, NoL, sidesB, (1, [3]), 2, 4, 1, 1, _, rfl, hs.sm (s27.trans s8), dy5, ibs.1, (isStd (by decide)).1, sides_wf, rfl, by decide, by decide, by decide, full_s1, fun v5 H9 s9 hv5 => ?_⟩
  have hv5 : Dq K H9 NoL v5 (.str "can not") := hv5
  have s29 := (s27.trans s8).trans s9
  refine ⟨(by show 5 ≤ sizeLine; decide), fun l nl => ?_⟩
  have s10 := same_new (o := .lst [V.ref p1, V.ref p2, v3, v4, v5]) nl
  -- due
  have drd : RDs K AnyL _ dueL := (rdCons (rdLst (by decide) (rdCons (rdTup (by decide) (rdCons (rdInt 0) (rdCons (rdTup (by decide) (rdCons (rdInt 0) rdNil)) rdNil))) (rdCons (rdTup (by decide) (rdCons (rdInt 1) (rdCons (rdTup (by decide) (rdCons (rdInt 2) rdNil)) rdNil))) rdNil))) (rdCons (rdLst (by decide) (rdCons (rdTup (by decide) (rdCons (rdInt 0) (rdCons (rdTup (by decide) (rdCons (rdInt 0) (rdCons (rdInt 0) rdNil))) rdNil))) (rdCons (rdTup (by decide) (rdCons (rdInt 0) (rdCons (rdTup (by decide) (rdCons (rdInt 1) (rdCons (rdInt 1) rdNil))) rdNil))) (rdCons (rdTup (by decide) (rdCons (rdInt 1) (rdCons (rdTup (by decide) (rdCons (rdInt 0) (rdCons (rdInt 1) rdNil))) rdNil))) (rdCons (rdTup (by decide) (rdCons (rdInt 1) (rdCons (rdTup (by decide) (rdCons (rdInt 1) (rdCons (rdInt 0) rdNil))) rdNil))) rdNil))))) (rdCons (rdTup (by decide) (rdCons (rdInt 2) (rdCons (rdTup (by decide) (rdCons (rdTup (by decide) (rdCons (rdInt 0) (rdCons (rdInt 1) rdNil))) (rdCons (rdTup (by decide) (rdCons (rdInt 1) (rdCons (rdInt 1) rdNil))) rdNil))) rdNil))) (rdCons (rdTup (by decide) (rdCons (rdInt 3) (rdCons (rdTup (by decide) (rdCons (rdTup (by decide) (rdCons (rdInt 2) (rdCons (rdInt 1) rdNil))) rdNil)) rdNil))) (rdCons (rdStr _) rdNil)))))
  refine asgLst (i := 3) drd (fun dus H11 s11 ddus => ⟨Nat.le_of_lt (small1 (by rw [ddus.length]; decide)), fun ld nld => ?_⟩)
  have s12 := same_new (o := .lst dus) nld
  -- got + [..]
  refine ⟨_, rfl, _, rfl, vsd, sidesB, 2, 4, 1, 3, rfl, hs.sm ((s29.trans s10).trans (s11.trans s12)), sides_wf, by decide, by decide, by decide, fun d3 D3 H13 s13 nd3 dic3 full3 le3 lw3 => ⟨d3, D3, rfl, dic3.r, ?_⟩⟩
  rw [len_s3 full3]
  have s1013 := (s10.trans (s11.trans s12)).trans s13
  refine ⟨_, rfl, vsd, sidesB, 2, 4, 1, 2, rfl, hs.sm (s29.trans s1013), sides_wf, by decide, by decide, by decide, fun d4 D4 H14 s14 nd4 dic4 full4 le4 lw4 => ?_⟩
  refine (rdTup (by decide) (rdCons (rdInt 0) (rdCons (rdTup (by decide) (rdCons (rdInt 2) (rdCons (rdInt 3) rdNil))) rdNil))) _ _ _ (fun y6 H15 s15 (dy6 : Dq K H15 NoL y6 (sD (0, [2, 3]))) => ?_)
  refine ⟨d4, D4, (0, [2, 3]), [(0, 1), (1, 1)], rfl, (dic4.same s15).r, dy6, full4.look best_s2, fun v6 hv6 => ⟨(by show 2 ≤ sizeLine; decide), fun la nla => ?_⟩⟩
  have s16 := same_new (o := .lst [V.int ((8 : Nat) : Int), v6]) nla
  have s1416 := (s14.trans s15).trans s16
  have s1016 := s1013.trans s1416
  have s1216 := s13.trans s1416
  refine ⟨l, la, _, _, rfl, rfl, ((s11.trans s12).trans s1216) _ _ upd_same, upd_same, (by show 7 ≤ sizeLine; decide), fun pg npg => ?_⟩
  have s17 := same_new (o := .lst ([V.ref p1, V.ref p2, v3, v4, v5] ++ [V.int ((8 : Nat) : Int), v6])) npg
  have drm : RDs K AnyL _ moreL := (rdCons (rdInt 8) (rdCons (rdTup (by decide) (rdCons (rdTup (by decide) (rdCons (rdInt 0) (rdCons (rdInt 1) rdNil))) (rdCons (rdTup (by decide) (rdCons (rdInt 1) (rdCons (rdInt 1) rdNil))) rdNil))) rdNil))
  refine ⟨_, rfl, lstRd drm (fun mus H18 s18 dmus => ⟨Nat.le_of_lt (small1 (by rw [dmus.length]; decide)), fun lm nlm => ?_⟩)⟩
  have s19 := same_new (o := .lst mus) nlm
  have s1719 := (s17.trans s18).trans s19
  refine ⟨ld, lm, dus, mus, rfl, rfl, (s1216.trans s1719) _ _ upd_same, upd_same, Nat.le_of_lt (small1 (by rw [ddus.length, dmus.length]; decide)), fun pd npd => ?_⟩
  have s20 := same_new (o := .lst (dus ++ mus)) npd
  have sE := s1719.trans s20
  have s1620 := s1216.trans sE
  have s1020 := s1016.trans sE
  refine ⟨.ref pg, .ref pd, .list (dueL ++ moreL), AnyL, AnyL, rfl, .lst trivial (.inl (.inl (((s18.trans s19).trans s20) _ _ upd_same))) ?_, .lst trivial (.inl (.inl upd_same)) (((ddus.sm (s12.trans s1620)).append (dmus.sm (s19.trans s20)))), due_ok, fun H' s' => ?_⟩
  · rw [due_eq, more_eq]
    refine Dqs.append (.cons (.lst trivial (.inl (.inl ((((((s3.trans s4).trans s5).trans s6).trans s7).trans s8).trans (s9.trans s1020) |> fun z => z _ _ hp1))) ?_) (.cons (.lst trivial (.inl (.inl ((((((s4.trans s5).trans s6).trans s7).trans s8).trans s9).trans s1020 |> fun z => z _ _ hp2))) ?_) (.cons ?_ (.cons ?_ (.one ?_))))) (.cons (.int _) (.one ?_))
    · exact (hus1.sm ((((((s3.trans s4).trans s5).trans s6).trans s7).trans s8).trans (s9.trans s1020))).wk fun _ _ => trivial
    · exact (hus2.sm ((((((s4.trans s5).trans s6).trans s7).trans s8).trans s9).trans s1020)).wk fun _ _ => trivial
    · exact (hv3.sm ((((s6.trans s7).trans s8).trans s9).trans s1020)).wk fun _ _ => trivial
    · exact (hv4.sm ((s8.trans s9).trans s1020)).wk fun _ _ => trivial
    · exact (hv5.sm s1020).wk fun _ _ => trivial
    · exact (hv6.sm (s16.trans sE)).wk fun _ _ => trivial
  · exact q H' (s1.trans ((s29.trans s1020).trans s'))
end
end K12

set_option Elab.async false
set_option linter.all false
set_option maxRecDepth 100000
set_option maxHeartbeats 4000000
namespace K12
open PySem PySem.Spec PyProof.Rows L2
/-! ### law -/
abbrev sLaw : Stmt := topS 33
theorem scLaw : FnScope ["_law_script"] ["_law_script"] (defScope sLaw) := ⟨rfl, rfl, rfl, by decide +kernel, rfl, by decide +kernel, by decide +kernel⟩
def spLaw (K : PySem.W.Frag) : Sp := fun vs H Q _ => ∃ (a : Addr) (ns : List Int), vs = [.ref a] ∧ SqL K H a (ns.map V.int) ∧ ns.length ≤ 63 ∧ ∀ H', Q (.bl true) H'
section
variable {P : Program} {w : World} {K : PySem.W.Frag} {mg : Str → Option Value} {base : Heap}
theorem ok_law {f fH fR fX fC : Addr} {fd fdH fdR fdX fdC : FuncData} (F : Fun K "law" "law" sLaw f fd)
    (FH : Fun K "_law_by_hand_right" "_law_by_hand_right" sHand fH fdH) (bH : Binds K fdH [] []) (gH : mg "_law_by_hand_right" = some (.ref fH)) (GH : FnOk P w K mg base CX0 13 fH fdH [] spHand)
    (FR : Fun K "_law_right" "_law_right" sRight fR fdR) (bR : Binds K fdR ["_law_urn"] []) (gR : mg "_law_right" = some (.ref fR)) (GR : FnOk P w K mg base CX0 13 fR fdR ["_law_urn"] spRight)
    (FX : Fun K "_law_box" "_law_box" sBox fX fdX) (bX : Binds K fdX ["_law_script", "_law_k"] []) (gX : mg "_law_box" = some (.ref fX)) (GX : FnOk P w K mg base CX0 1 fX fdX ["_law_script", "_law_k"] spBox)
    (FC : Fun K "_law_cells" "_law_cells" sCells fC fdC) (bC : Binds K fdC ["_law_script", "_law_top"] []) (gC : mg "_law_cells" = some (.ref fC)) (GC : FnOk P w K mg base CX0 1 fC fdC ["_law_script", "_law_top"] (spCells K)) :
    FnOk P w K mg base CX0 14 f fd ["_law_script"] (spLaw K) := by
  refine F.ok scLaw (fun vs H Q E h => ?_) (fun cdv A outer s H vs Q E hr h => ?_)
  · obtain ⟨a, ns, rfl, _⟩ := h
    rfl
  obtain ⟨a, ns, rfl, hS, hl, q⟩ := h
  have hr1 := hr.mono (show 1 ≤ 13 by decide)
  refine ⟨_, pss_one (ps_ret (pe_and (pe_call0 GH hr (by rfl) gH FH.kp bH .nil pass0) (pe_one (pe_call GR hr (by rfl) gR FR.kp bR .nil pass0 (pa_cons (pe_call GX hr1 (by rfl) gX FX.kp bX .nil pass0 (pa_cons (pe_call GC hr1 (by rfl) gC FC.kp bC .nil pass0 (pa_cons (pv 0) (pa_cons pe_int pa_nil))) (pa_cons pe_int pa_nil))) pa_nil))))), ?_⟩
  rw [show L2.start ["_law_script"] [V.ref a] = [some (V.ref a)] from rfl]
  refine ⟨rfl, fun H1 s1 => ⟨true, rfl, iteT ?_⟩⟩
  exact ⟨_, rfl, a, ns, rfl, s1.seq hS, hl, fun l z H2 s2 hl2 => ⟨l, z, rfl, hl2, fun u x y H3 s3 hu => ⟨u, 0, rfl, ⟨x, y, 0, hu, by decide, by decide⟩, q⟩⟩⟩
end
section
variable {P : Program} {w : World} {K : PySem.W.Frag} {mg : Str → Option Value} {base : Heap}
theorem ok_behind' {f fA : Addr} {fd fdA : FuncData} (F : Fun K "stand_behind" "stand_behind" sBehind f fd) (FA : Fun K "stands_along" "stands_along" sAlong fA fdA) (bA : Binds K fdA ["book", "history"] []) (gA : mg "stands_along" = some (.ref fA))
    (GA : FnOk P w K mg base CX0 2 fA fdA ["book", "history"] (spAlong K)) : FnOk P w K mg base CX0 3 f fd ["book", "history"] (spBehind K) := ok_behind (fL := f) (fB := f) (fT := f) (fdL := fd) (fdB := fd) (fdT := fd) F FA bA gA GA
end
/-! ### the end -/
theorem exm_self {K : PySem.W.Frag} {S : Addr} (h1 : PySem.W.subIn K (.ref S) (.type "BaseException") = some true) (h2 : PySem.W.isClsIn K S = true) (h3 : PySem.W.typeIn K (.ref S) = some (.type "type")) (h4 : PySem.W.subIn K (.ref S) (.ref S) = some true) :
    PySem.W.exmOne K (.ref S) (.ref S) = some true := by
  have e1 : (PySem.W.subIn K (.ref S) (.type "BaseException") == some true) = true := by rw [h1] <;> rfl
  have e2 : ((PySem.W.clsIn K S).isSome && PySem.W.typeIn K (.ref S) == some (.type "type")) = true := by
    have h2' : (PySem.W.clsIn K S).isSome = true := h2
    rw [h2', h3] <;> rfl
  show (if (PySem.W.subIn K (.ref S) (.type "BaseException") == some true) = true then (if ((PySem.W.clsIn K S).isSome && PySem.W.typeIn K (.ref S) == some (.type "type")) = true then PySem.W.subIn K (.ref S) (.ref S) else none) else none) = some true
  rw [if_pos e1, if_pos e2]
  exact h4
theorem all_mk {P : Program} {w : World} {K : PySem.W.Frag} {h : Heap} {mg : Str → Option Value} {fa C f1 f2 f3 f4 f5 f6 f7 f8 f9 f10 f11 f12 f13 f14 f15 f16 f17 f18 f19 f20 f21 f22 f23 f24 f25 f26 : Addr} {tM : Tok} (X : K.In h) (G : h.Ns mainGlobals mg) (hfa : mg "law" = some (.ref fa))
    {od1 an1 od2 an2 od3 an3 od4 an4 od5 an5 od6 an6 od7 an7 od8 an8 od9 an9 od10 an10 od11 an11 od12 an12 od13 an13 od14 an14 od15 an15 od16 an16 od17 an17 od18 an18 od19 an19 od20 an20 od21 an21 od22 an22 od23 an23 od24 an24 od25 an25 od26 an26 : Option Addr} {sl1 sl2 sl3 sl4 sl5 sl6 sl7 sl8 sl9 sl10 sl11 sl12 sl13 sl14 sl15 sl16 sl17 sl18 sl19 sl20 sl21 sl22 sl23 sl24 sl25 sl26 : Array (Option Value)} {oc1 kV1 dc1 pm1 cd1 ct1 oc2 kV2 dc2 pm2 cd2 ct2 oc3 kV3 dc3 pm3 cd3 ct3 oc4 kV4 dc4 pm4 cd4 ct4 oc5 kV5 dc5 pm5 cd5 ct5 oc6 kV6 dc6 pm6 cd6 ct6 oc7 kV7 dc7 pm7 cd7 ct7 oc8 kV8 dc8 pm8 cd8 ct8 oc9 kV9 dc9 pm9 cd9 ct9 oc10 kV10 dc10 pm10 cd10 ct10 oc11 kV11 dc11 pm11 cd11 ct11 oc12 kV12 dc12 pm12 cd12 ct12 oc13 kV13 dc13 pm13 cd13 ct13 oc14 kV14 dc14 pm14 cd14 ct14 oc15 kV15 dc15 pm15 cd15 ct15 oc16 kV16 dc16 pm16 cd16 ct16 oc17 kV17 dc17 pm17 cd17 ct17 oc18 kV18 dc18 pm18 cd18 ct18 oc19 kV19 dc19 pm19 cd19 ct19 oc20 kV20 dc20 pm20 cd20 ct20 oc21 kV21 dc21 pm21 cd21 ct21 oc22 kV22 dc22 pm22 cd22 ct22 oc23 kV23 dc23 pm23 cd23 ct23 oc24 kV24 dc24 pm24 cd24 ct24 oc25 kV25 dc25 pm25 cd25 ct25 oc26 kV26 dc26 pm26 cd26 ct26 : Value}
    (aC : PySem.W.nsIn K mainGlobals "CanNot" = some (some (.ref C))) (xC : PySem.W.excIn K C [.type "ValueError", .type "Exception", .type "BaseException", .type "object"] "ValueError.__new__" = true) (kC : PySem.W.keepIn K (.ref C) = true) (bC : PySem.W.subIn K (.ref C) (.type "BaseException") = some true) (tC : PySem.W.typeIn K (.ref C) = some (.type "type"))
    (iC : PySem.W.isClsIn K C = true) (sC : PySem.W.subIn K (.ref C) (.ref C) = some true) (aM : PySem.W.nsIn K mainGlobals "MOST_STANDS" = some (some (.int 2000 tM)))
    (a1 : PySem.W.nsIn K mainGlobals "tuple_of" = some (some (.ref f1))) (l1 : K.lookup f1 = some ⟨oc1, od1, .func (PySem.W.fnOf "tuple_of" "tuple_of" (defArgs sTupleOf) (defBody sTupleOf) (defScope sTupleOf) .none kV1 dc1 pm1 an1 cd1 ct1), sl1⟩) (c1 : PySem.W.codeIn K cd1 "tuple_of" = true) (k1 : PySem.W.keepIn K (.ref f1) = true)
    (a2 : PySem.W.nsIn K mainGlobals "letters_of" = some (some (.ref f2))) (l2 : K.lookup f2 = some ⟨oc2, od2, .func (PySem.W.fnOf "letters_of" "letters_of" (defArgs sLetters) (defBody sLetters) (defScope sLetters) .none kV2 dc2 pm2 an2 cd2 ct2), sl2⟩) (c2 : PySem.W.codeIn K cd2 "letters_of" = true) (k2 : PySem.W.keepIn K (.ref f2) = true)
    (a3 : PySem.W.nsIn K mainGlobals "begun" = some (some (.ref f3))) (l3 : K.lookup f3 = some ⟨oc3, od3, .func (PySem.W.fnOf "begun" "begun" (defArgs sBegun) (defBody sBegun) (defScope sBegun) .none kV3 dc3 pm3 an3 cd3 ct3), sl3⟩) (c3 : PySem.W.codeIn K cd3 "begun" = true) (k3 : PySem.W.keepIn K (.ref f3) = true)
    (a4 : PySem.W.nsIn K mainGlobals "turned_to" = some (some (.ref f4))) (l4 : K.lookup f4 = some ⟨oc4, od4, .func (PySem.W.fnOf "turned_to" "turned_to" (defArgs sTurned) (defBody sTurned) (defScope sTurned) .none kV4 dc4 pm4 an4 cd4 ct4), sl4⟩) (c4 : PySem.W.codeIn K cd4 "turned_to" = true) (k4 : PySem.W.keepIn K (.ref f4) = true)
    (a5 : PySem.W.nsIn K mainGlobals "stands_along" = some (some (.ref f5))) (l5 : K.lookup f5 = some ⟨oc5, od5, .func (PySem.W.fnOf "stands_along" "stands_along" (defArgs sAlong) (defBody sAlong) (defScope sAlong) .none kV5 dc5 pm5 an5 cd5 ct5), sl5⟩) (c5 : PySem.W.codeIn K cd5 "stands_along" = true) (k5 : PySem.W.keepIn K (.ref f5) = true)
    (a6 : PySem.W.nsIn K mainGlobals "stand_behind" = some (some (.ref f6))) (l6 : K.lookup f6 = some ⟨oc6, od6, .func (PySem.W.fnOf "stand_behind" "stand_behind" (defArgs sBehind) (defBody sBehind) (defScope sBehind) .none kV6 dc6 pm6 an6 cd6 ct6), sl6⟩) (c6 : PySem.W.codeIn K cd6 "stand_behind" = true) (k6 : PySem.W.keepIn K (.ref f6) = true)
    (a7 : PySem.W.nsIn K mainGlobals "changes_for" = some (some (.ref f7))) (l7 : K.lookup f7 = some ⟨oc7, od7, .func (PySem.W.fnOf "changes_for" "changes_for" (defArgs sChanges) (defBody sChanges) (defScope sChanges) .none kV7 dc7 pm7 an7 cd7 ct7), sl7⟩) (c7 : PySem.W.codeIn K cd7 "changes_for" = true) (k7 : PySem.W.keepIn K (.ref f7) = true)
    (a8 : PySem.W.nsIn K mainGlobals "next_stands" = some (some (.ref f8))) (l8 : K.lookup f8 = some ⟨oc8, od8, .func (PySem.W.fnOf "next_stands" "next_stands" (defArgs sNext) (defBody sNext) (defScope sNext) .none kV8 dc8 pm8 an8 cd8 ct8), sl8⟩) (c8 : PySem.W.codeIn K cd8 "next_stands" = true) (k8 : PySem.W.keepIn K (.ref f8) = true)
    (a9 : PySem.W.nsIn K mainGlobals "stands_come" = some (some (.ref f9))) (l9 : K.lookup f9 = some ⟨oc9, od9, .func (PySem.W.fnOf "stands_come" "stands_come" (defArgs sCome) (defBody sCome) (defScope sCome) .none kV9 dc9 pm9 an9 cd9 ct9), sl9⟩) (c9 : PySem.W.codeIn K cd9 "stands_come" = true) (k9 : PySem.W.keepIn K (.ref f9) = true)
    (a10 : PySem.W.nsIn K mainGlobals "history_to" = some (some (.ref f10))) (l10 : K.lookup f10 = some ⟨oc10, od10, .func (PySem.W.fnOf "history_to" "history_to" (defArgs sHist) (defBody sHist) (defScope sHist) .none kV10 dc10 pm10 an10 cd10 ct10), sl10⟩) (c10 : PySem.W.codeIn K cd10 "history_to" = true) (k10 : PySem.W.keepIn K (.ref f10) = true)
    (a11 : PySem.W.nsIn K mainGlobals "_law_box" = some (some (.ref f11))) (l11 : K.lookup f11 = some ⟨oc11, od11, .func (PySem.W.fnOf "_law_box" "_law_box" (defArgs sBox) (defBody sBox) (defScope sBox) .none kV11 dc11 pm11 an11 cd11 ct11), sl11⟩) (c11 : PySem.W.codeIn K cd11 "_law_box" = true) (k11 : PySem.W.keepIn K (.ref f11) = true)
    (a12 : PySem.W.nsIn K mainGlobals "_law_take" = some (some (.ref f12))) (l12 : K.lookup f12 = some ⟨oc12, od12, .func (PySem.W.fnOf "_law_take" "_law_take" (defArgs sTake) (defBody sTake) (defScope sTake) .none kV12 dc12 pm12 an12 cd12 ct12), sl12⟩) (c12 : PySem.W.codeIn K cd12 "_law_take" = true) (k12 : PySem.W.keepIn K (.ref f12) = true)
    (a13 : PySem.W.nsIn K mainGlobals "_law_cells" = some (some (.ref f13))) (l13 : K.lookup f13 = some ⟨oc13, od13, .func (PySem.W.fnOf "_law_cells" "_law_cells" (defArgs sCells) (defBody sCells) (defScope sCells) .none kV13 dc13 pm13 an13 cd13 ct13), sl13⟩) (c13 : PySem.W.codeIn K cd13 "_law_cells" = true) (k13 : PySem.W.keepIn K (.ref f13) = true)
    (a14 : PySem.W.nsIn K mainGlobals "_law_lists" = some (some (.ref f14))) (l14 : K.lookup f14 = some ⟨oc14, od14, .func (PySem.W.fnOf "_law_lists" "_law_lists" (defArgs sLists) (defBody sLists) (defScope sLists) .none kV14 dc14 pm14 an14 cd14 ct14), sl14⟩) (c14 : PySem.W.codeIn K cd14 "_law_lists" = true) (k14 : PySem.W.keepIn K (.ref f14) = true)
    (a15 : PySem.W.nsIn K mainGlobals "_law_same" = some (some (.ref f15))) (l15 : K.lookup f15 = some ⟨oc15, od15, .func (PySem.W.fnOf "_law_same" "_law_same" (defArgs sSame) (defBody sSame) (defScope sSame) .none kV15 dc15 pm15 an15 cd15 ct15), sl15⟩) (c15 : PySem.W.codeIn K cd15 "_law_same" = true) (k15 : PySem.W.keepIn K (.ref f15) = true)
    (a16 : PySem.W.nsIn K mainGlobals "_law_pick" = some (some (.ref f16))) (l16 : K.lookup f16 = some ⟨oc16, od16, .func (PySem.W.fnOf "_law_pick" "_law_pick" (defArgs sPick) (defBody sPick) (defScope sPick) .none kV16 dc16 pm16 an16 cd16 ct16), sl16⟩) (c16 : PySem.W.codeIn K cd16 "_law_pick" = true) (k16 : PySem.W.keepIn K (.ref f16) = true)
    (a17 : PySem.W.nsIn K mainGlobals "_law_of" = some (some (.ref f17))) (l17 : K.lookup f17 = some ⟨oc17, od17, .func (PySem.W.fnOf "_law_of" "_law_of" (defArgs sOf) (defBody sOf) (defScope sOf) .none kV17 dc17 pm17 an17 cd17 ct17), sl17⟩) (c17 : PySem.W.codeIn K cd17 "_law_of" = true) (k17 : PySem.W.keepIn K (.ref f17) = true)
    (a18 : PySem.W.nsIn K mainGlobals "_law_own_map" = some (some (.ref f18))) (l18 : K.lookup f18 = some ⟨oc18, od18, .func (PySem.W.fnOf "_law_own_map" "_law_own_map" (defArgs sOwn) (defBody sOwn) (defScope sOwn) .none kV18 dc18 pm18 an18 cd18 ct18), sl18⟩) (c18 : PySem.W.codeIn K cd18 "_law_own_map" = true) (k18 : PySem.W.keepIn K (.ref f18) = true)
    (a19 : PySem.W.nsIn K mainGlobals "_law_book" = some (some (.ref f19))) (l19 : K.lookup f19 = some ⟨oc19, od19, .func (PySem.W.fnOf "_law_book" "_law_book" (defArgs sBook) (defBody sBook) (defScope sBook) .none kV19 dc19 pm19 an19 cd19 ct19), sl19⟩) (c19 : PySem.W.codeIn K cd19 "_law_book" = true) (k19 : PySem.W.keepIn K (.ref f19) = true)
    (a20 : PySem.W.nsIn K mainGlobals "_law_turned" = some (some (.ref f20))) (l20 : K.lookup f20 = some ⟨oc20, od20, .func (PySem.W.fnOf "_law_turned" "_law_turned" (defArgs sLTurn) (defBody sLTurn) (defScope sLTurn) .none kV20 dc20 pm20 an20 cd20 ct20), sl20⟩) (c20 : PySem.W.codeIn K cd20 "_law_turned" = true) (k20 : PySem.W.keepIn K (.ref f20) = true)
    (a21 : PySem.W.nsIn K mainGlobals "_law_shown" = some (some (.ref f21))) (l21 : K.lookup f21 = some ⟨oc21, od21, .func (PySem.W.fnOf "_law_shown" "_law_shown" (defArgs sShown) (defBody sShown) (defScope sShown) .none kV21 dc21 pm21 an21 cd21 ct21), sl21⟩) (c21 : PySem.W.codeIn K cd21 "_law_shown" = true) (k21 : PySem.W.keepIn K (.ref f21) = true)
    (a22 : PySem.W.nsIn K mainGlobals "_law_ways" = some (some (.ref f22))) (l22 : K.lookup f22 = some ⟨oc22, od22, .func (PySem.W.fnOf "_law_ways" "_law_ways" (defArgs sWays) (defBody sWays) (defScope sWays) .none kV22 dc22 pm22 an22 cd22 ct22), sl22⟩) (c22 : PySem.W.codeIn K cd22 "_law_ways" = true) (k22 : PySem.W.keepIn K (.ref f22) = true)
    (a23 : PySem.W.nsIn K mainGlobals "_law_heard" = some (some (.ref f23))) (l23 : K.lookup f23 = some ⟨oc23, od23, .func (PySem.W.fnOf "_law_heard" "_law_heard" (defArgs sHeard) (defBody sHeard) (defScope sHeard) .none kV23 dc23 pm23 an23 cd23 ct23), sl23⟩) (c23 : PySem.W.codeIn K cd23 "_law_heard" = true) (k23 : PySem.W.keepIn K (.ref f23) = true)
    (a24 : PySem.W.nsIn K mainGlobals "_law_right" = some (some (.ref f24))) (l24 : K.lookup f24 = some ⟨oc24, od24, .func (PySem.W.fnOf "_law_right" "_law_right" (defArgs sRight) (defBody sRight) (defScope sRight) .none kV24 dc24 pm24 an24 cd24 ct24), sl24⟩) (c24 : PySem.W.codeIn K cd24 "_law_right" = true) (k24 : PySem.W.keepIn K (.ref f24) = true)
    (a25 : PySem.W.nsIn K mainGlobals "_law_by_hand_right" = some (some (.ref f25))) (l25 : K.lookup f25 = some ⟨oc25, od25, .func (PySem.W.fnOf "_law_by_hand_right" "_law_by_hand_right" (defArgs sHand) (defBody sHand) (defScope sHand) .none kV25 dc25 pm25 an25 cd25 ct25), sl25⟩) (c25 : PySem.W.codeIn K cd25 "_law_by_hand_right" = true) (k25 : PySem.W.keepIn K (.ref f25) = true)
    (a26 : PySem.W.nsIn K mainGlobals "law" = some (some (.ref f26))) (l26 : K.lookup f26 = some ⟨oc26, od26, .func (PySem.W.fnOf "law" "law" (defArgs sLaw) (defBody sLaw) (defScope sLaw) .none kV26 dc26 pm26 an26 cd26 ct26), sl26⟩) (c26 : PySem.W.codeIn K cd26 "law" = true) (k26 : PySem.W.keepIn K (.ref f26) = true)
    (z0 : PySem.W.nsIn K mainGlobals "len" = some none)
    (z1 : PySem.W.nsIn K mainGlobals "all" = some none)
    (z2 : PySem.W.nsIn K mainGlobals "tuple" = some none)
    (z3 : PySem.W.nsIn K mainGlobals "range" = some none)
    (z4 : PySem.W.nsIn K mainGlobals "sorted" = some none)
    (z5 : PySem.W.nsIn K mainGlobals "isinstance" = some none)
    (z6 : PySem.W.nsIn K mainGlobals "list" = some none)
    (z7 : PySem.W.nsIn K mainGlobals "zip" = some none)
    (z8 : PySem.W.nsIn K mainGlobals "bool" = some none)
    (z9 : PySem.W.nsIn K mainGlobals "str" = some none)
    (z10 : PySem.W.nsIn K mainGlobals "int" = some none)
    (z11 : PySem.W.nsIn K mainGlobals "enumerate" = some none)
    (z12 : PySem.W.nsIn K mainGlobals "min" = some none)
    (z13 : PySem.W.nsIn K mainGlobals "dict" = some none)
    (z14 : PySem.W.nsIn K mainGlobals "abs" = some none) :
    ∃ fd : FuncData, (∀ (s : Shared) (u : Value), BindsTo s fd ⟨[u], []⟩ [("_law_script", u)]) ∧ ∀ base : Heap, K.In base → base.Ns mainGlobals mg → FnOk P w K mg base CX0 14 fa fd ["_law_script"] (spLaw K) := by
  have e := hfa.symm.trans (PySem.W.mg_of X G a26)
  cases e
  have T : TxC K mg C := ⟨PySem.W.mg_of X G aC, xC, kC, bC, tC, exm_self bC iC tC sC⟩
  have F1 := fun_mk (st := sTupleOf) l1 c1 k1
  have b1 := F1.binds (ps := ["thing"]) fun _ _ _ _ _ _ us hl => match us, hl with | [_], _ => rfl
  have g1 := PySem.W.mg_of X G a1
  have F2 := fun_mk (st := sLetters) l2 c2 k2
  have b2 := F2.binds (ps := ["book"]) fun _ _ _ _ _ _ us hl => match us, hl with | [_], _ => rfl
  have g2 := PySem.W.mg_of X G a2
  have F3 := fun_mk (st := sBegun) l3 c3 k3
  have b3 := F3.binds (ps := ["book", "many"]) fun _ _ _ _ _ _ us hl => match us, hl with | [_, _], _ => rfl
  have g3 := PySem.W.mg_of X G a3
  have F4 := fun_mk (st := sTurned) l4 c4 k4
  have b4 := F4.binds (ps := ["book", "stand", "change"]) fun _ _ _ _ _ _ us hl => match us, hl with | [_, _, _], _ => rfl
  have g4 := PySem.W.mg_of X G a4
  have F5 := fun_mk (st := sAlong) l5 c5 k5
  have b5 := F5.binds (ps := ["book", "history"]) fun _ _ _ _ _ _ us hl => match us, hl with | [_, _], _ => rfl
  have g5 := PySem.W.mg_of X G a5
  have F6 := fun_mk (st := sBehind) l6 c6 k6
  have b6 := F6.binds (ps := ["book", "history"]) fun _ _ _ _ _ _ us hl => match us, hl with | [_, _], _ => rfl
  have g6 := PySem.W.mg_of X G a6
  have F7 := fun_mk (st := sChanges) l7 c7 k7
  have b7 := F7.binds (ps := ["book", "many"]) fun _ _ _ _ _ _ us hl => match us, hl with | [_, _], _ => rfl
  have g7 := PySem.W.mg_of X G a7
  have F8 := fun_mk (st := sNext) l8 c8 k8
  have b8 := F8.binds (ps := ["book", "many", "ways", "now"]) fun _ _ _ _ _ _ us hl => match us, hl with | [_, _, _, _], _ => rfl
  have g8 := PySem.W.mg_of X G a8
  have F9 := fun_mk (st := sCome) l9 c9 k9
  have b9 := F9.binds (ps := ["book", "many"]) fun _ _ _ _ _ _ us hl => match us, hl with | [_, _], _ => rfl
  have g9 := PySem.W.mg_of X G a9
  have F10 := fun_mk (st := sHist) l10 c10 k10
  have b10 := F10.binds (ps := ["book", "stand"]) fun _ _ _ _ _ _ us hl => match us, hl with | [_, _], _ => rfl
  have g10 := PySem.W.mg_of X G a10
  have F11 := fun_mk (st := sBox) l11 c11 k11
  have b11 := F11.binds (ps := ["_law_script", "_law_k"]) fun _ _ _ _ _ _ us hl => match us, hl with | [_, _], _ => rfl
  have g11 := PySem.W.mg_of X G a11
  have F12 := fun_mk (st := sTake) l12 c12 k12
  have b12 := F12.binds (ps := ["_law_urn", "_law_low_so"]) fun _ _ _ _ _ _ us hl => match us, hl with | [_, _], _ => rfl
  have g12 := PySem.W.mg_of X G a12
  have F13 := fun_mk (st := sCells) l13 c13 k13
  have b13 := F13.binds (ps := ["_law_script", "_law_top"]) fun _ _ _ _ _ _ us hl => match us, hl with | [_, _], _ => rfl
  have g13 := PySem.W.mg_of X G a13
  have F14 := fun_mk (st := sLists) l14 c14 k14
  have b14 := F14.binds (ps := ["_law_matter"]) fun _ _ _ _ _ _ us hl => match us, hl with | [_], _ => rfl
  have g14 := PySem.W.mg_of X G a14
  have F15 := fun_mk (st := sSame) l15 c15 k15
  have b15 := F15.binds (ps := ["_law_got", "_law_goal"]) fun _ _ _ _ _ _ us hl => match us, hl with | [_, _], _ => rfl
  have g15 := PySem.W.mg_of X G a15
  have F16 := fun_mk (st := sPick) l16 c16 k16
  have b16 := F16.binds (ps := ["_law_urn", "_law_goods", "_law_count"]) fun _ _ _ _ _ _ us hl => match us, hl with | [_, _, _], _ => rfl
  have g16 := PySem.W.mg_of X G a16
  have F17 := fun_mk (st := sOf) l17 c17 k17
  have b17 := F17.binds (ps := ["_law_urn", "_law_goods"]) fun _ _ _ _ _ _ us hl => match us, hl with | [_, _], _ => rfl
  have g17 := PySem.W.mg_of X G a17
  have F18 := fun_mk (st := sOwn) l18 c18 k18
  have b18 := F18.binds (ps := ["_law_urn", "_law_hues"]) fun _ _ _ _ _ _ us hl => match us, hl with | [_, _], _ => rfl
  have g18 := PySem.W.mg_of X G a18
  have F19 := fun_mk (st := sBook) l19 c19 k19
  have b19 := F19.binds (ps := ["_law_urn"]) fun _ _ _ _ _ _ us hl => match us, hl with | [_], _ => rfl
  have g19 := PySem.W.mg_of X G a19
  have F20 := fun_mk (st := sLTurn) l20 c20 k20
  have b20 := F20.binds (ps := ["_law_book_here", "_law_stand", "_law_change"]) fun _ _ _ _ _ _ us hl => match us, hl with | [_, _, _], _ => rfl
  have g20 := PySem.W.mg_of X G a20
  have F21 := fun_mk (st := sShown) l21 c21 k21
  have b21 := F21.binds (ps := []) fun _ _ _ _ _ _ us hl => match us, hl with | [], _ => rfl
  have g21 := PySem.W.mg_of X G a21
  have F22 := fun_mk (st := sWays) l22 c22 k22
  have b22 := F22.binds (ps := ["_law_book_here", "_law_many"]) fun _ _ _ _ _ _ us hl => match us, hl with | [_, _], _ => rfl
  have g22 := PySem.W.mg_of X G a22
  have F23 := fun_mk (st := sHeard) l23 c23 k23
  have b23 := F23.binds (ps := ["_law_book_here", "_law_stand"]) fun _ _ _ _ _ _ us hl => match us, hl with | [_, _], _ => rfl
  have g23 := PySem.W.mg_of X G a23
  have F24 := fun_mk (st := sRight) l24 c24 k24
  have b24 := F24.binds (ps := ["_law_urn"]) fun _ _ _ _ _ _ us hl => match us, hl with | [_], _ => rfl
  have g24 := PySem.W.mg_of X G a24
  have F25 := fun_mk (st := sHand) l25 c25 k25
  have b25 := F25.binds (ps := []) fun _ _ _ _ _ _ us hl => match us, hl with | [], _ => rfl
  have g25 := PySem.W.mg_of X G a25
  have F26 := fun_mk (st := sLaw) l26 c26 k26
  have gM := PySem.W.mg_of X G aM
  have m_len := PySem.W.mg_none_of X G z0
  have m_all := PySem.W.mg_none_of X G z1
  have m_tuple := PySem.W.mg_none_of X G z2
  have m_range := PySem.W.mg_none_of X G z3
  have m_sorted := PySem.W.mg_none_of X G z4
  have m_isinstance := PySem.W.mg_none_of X G z5
  have m_list := PySem.W.mg_none_of X G z6
  have m_zip := PySem.W.mg_none_of X G z7
  have m_bool := PySem.W.mg_none_of X G z8
  have m_str := PySem.W.mg_none_of X G z9
  have m_int := PySem.W.mg_none_of X G z10
  have m_enumerate := PySem.W.mg_none_of X G z11
  have m_min := PySem.W.mg_none_of X G z12
  have m_dict := PySem.W.mg_none_of X G z13
  have m_abs := PySem.W.mg_none_of X G z14
  refine ⟨PySem.W.fnOf "law" "law" (defArgs sLaw) (defBody sLaw) (defScope sLaw) .none kV26 dc26 pm26 an26 cd26 ct26, fun s u => .of_eq rfl, fun base _ _ => ?_⟩
  have GU := ok_tup (P := P) (w := w) (base := base) F1 b1 g1 m_isinstance m_list m_tuple 10
  have GCh := ok_changes (P := P) (w := w) (base := base) F7 F2 b2 g2 m_len m_range
  have GN := ok_next (P := P) (w := w) (base := base) (f := f8) F8 F7 b7 g7 GCh F4 b4 g4 m_tuple
  have GA := ok_along (P := P) (w := w) (base := base) F5 F2 b2 g2 F3 b3 g3 F4 b4 g4 m_len m_all m_tuple
  have GB := ok_behind' (P := P) (w := w) (base := base) F6 F5 b5 g5 GA
  have GC := ok_come (P := P) (w := w) (base := base) F9 F1 b1 g1 GU F3 b3 g3 F8 b8 g8 GN m_len m_sorted gM
  have GI := ok_hist (P := P) (w := w) (base := base) F10 T F1 b1 g1 GU F3 b3 g3 F8 b8 g8 GN m_len gM
  have GHe := ok_heard (P := P) (w := w) (base := base) F23 T F10 b10 g10 GI
  have GL := ok_sof (P := P) (w := w) (base := base) F14 b14 g14 m_isinstance m_list m_tuple 10
  have GS := ok_same (P := P) (w := w) (base := base) F15 b15 g15 m_isinstance m_list m_tuple m_len m_all m_zip m_bool m_str m_int 10
  have GP := ok_pick (P := P) (w := w) (base := base) F16 F12 b12 g12 m_int m_len m_list m_range m_min
  have GK := ok_book (P := P) (w := w) (base := base) F19 F12 b12 g12 F17 b17 g17 F16 b16 g16 F18 b18 g18 m_int m_len m_list m_range m_min m_enumerate m_tuple
  have GY := ok_ways (P := P) (w := w) (base := base) F22 F20 b20 g20 m_len m_range m_enumerate m_tuple m_dict
  have GSh := ok_shown (P := P) (w := w) (base := base) (mg := mg) F21 m_int m_tuple
  have GR := ok_right (P := P) (w := w) (base := base) F24 F12 b12 g12 F19 b19 g19 GK F22 b22 g22 GY F14 b14 g14 GL F9 b9 g9 GC F15 b15 g15 GS F16 b16 g16 GP F23 b23 g23 GHe F6 b6 g6 GB m_int m_len m_range m_tuple m_sorted
  have GHa := ok_hand (P := P) (w := w) (base := base) F25 F21 b21 g21 GSh F22 b22 g22 GY F9 b9 g9 GC F15 b15 g15 GS F23 b23 g23 GHe F10 b10 g10 GI m_len
  have GX := ok_box (P := P) (w := w) (base := base) F11 m_int m_abs m_len
  have GCe := ok_cells (P := P) (w := w) (base := base) F13 m_int m_list m_enumerate
  exact ok_law F26 F25 b25 g25 GHa F24 b24 g24 GR F11 b11 g11 GX F13 b13 g13 GCe
/-- the law row's walk -/
theorem walk_law {l : PySem.W.OpenLaw} {q : Program} {loose : List Str} {XP : (Str → Option Value) → Heap → Prop} {YP : World → Heap → Prop} {d : DefRec} {K : Params → PySem.W.Frag} (hn : l.most = some 63) (hdf : d.params.defaults = [])
    (hY : ∀ (w : World) (h : Heap), YP w h → (K w.params).In h)
    (F : ∀ (w : World) (mg : Str → Option Value) (fa : Addr) (h : Heap), (K w.params).In h → h.Ns mainGlobals mg → mg d.name = some (.ref fa) →
      ∃ fd : FuncData, (∀ (s : Shared) (u : Value), BindsTo s fd ⟨[u], []⟩ [("_law_script", u)]) ∧ ∀ base : Heap, (K w.params).In base → base.Ns mainGlobals mg → FnOk l.prog w (K w.params) mg base CX0 14 fa fd ["_law_script"] (spLaw (K w.params))) :
    PySem.W.WalkO q loose XP YP l.row.toRowW d [] (fun f vs => PySem.call f vs) :=
  L2.walk_of (n := 63) (k := 14) (x := "_law_script") (CX := fun _ => CX0) (sp := fun w => spLaw (K w.params)) hn (by decide) hdf ⟨rfl, by decide, by decide⟩ hY F (fun _ _ a ns hl _ hS => ⟨a, ns, rfl, hS, hl, fun _ => rfl⟩) fun _ _ _ _ _ z => z
end K12

set_option Elab.async false
set_option linter.all false
set_option maxRecDepth 100000
open PySem PySem.W PyProof.Rows
set_option maxHeartbeats 0 in
theorem PySem.Challenge.cw_placehues_k12_whole_stands_that_come_holds : PySem.Challenge.rw_placehues_k12_whole_stands_that_come.Holds := by
  w_on; o_law; k_head; (case hw => w_witness2)
  k_fill
  refine K12.walk_law (l := PySem.Challenge.rw_placehues_k12_whole_stands_that_come) rfl rfl (fun w h Y => PySem.W.kIn_of Y) ?F
  case F =>
    intro w mg fa h KX G hmg
    refine' K12.all_mk KX G hmg ?aC ?xC ?kC ?bC ?tC ?iC ?sC ?aM ?a1 ?l1 ?c1 ?k1 ?a2 ?l2 ?c2 ?k2 ?a3 ?l3 ?c3 ?k3 ?a4 ?l4 ?c4 ?k4 ?a5 ?l5 ?c5 ?k5 ?a6 ?l6 ?c6 ?k6 ?a7 ?l7 ?c7 ?k7 ?a8 ?l8 ?c8 ?k8 ?a9 ?l9 ?c9 ?k9 ?a10 ?l10 ?c10 ?k10 ?a11 ?l11 ?c11 ?k11 ?a12 ?l12 ?c12 ?k12 ?a13 ?l13 ?c13 ?k13 ?a14 ?l14 ?c14 ?k14 ?a15 ?l15 ?c15 ?k15 ?a16 ?l16 ?c16 ?k16 ?a17 ?l17 ?c17 ?k17 ?a18 ?l18 ?c18 ?k18 ?a19 ?l19 ?c19 ?k19 ?a20 ?l20 ?c20 ?k20 ?a21 ?l21 ?c21 ?k21 ?a22 ?l22 ?c22 ?k22 ?a23 ?l23 ?c23 ?k23 ?a24 ?l24 ?c24 ?k24 ?a25 ?l25 ?c25 ?k25 ?a26 ?l26 ?c26 ?k26 ?z0 ?z1 ?z2 ?z3 ?z4 ?z5 ?z6 ?z7 ?z8 ?z9 ?z10 ?z11 ?z12 ?z13 ?z14
    (case aC => k_is)
    (case xC => k_exc)
    (case kC => k_is)
    (case bC => k_is)
    (case tC => k_is)
    (case iC => k_is)
    (case sC => first | rfl | k_is)
    (case aM => k_is)
    (case a1 => k_is)
    (case l1 => k_is)
    (case c1 => k_is)
    (case k1 => k_is)
    (case a2 => k_is)
    (case l2 => k_is)
    (case c2 => k_is)
    (case k2 => k_is)
    (case a3 => k_is)
    (case l3 => k_is)
    (case c3 => k_is)
    (case k3 => k_is)
    (case a4 => k_is)
    (case l4 => k_is)
    (case c4 => k_is)
    (case k4 => k_is)
    (case a5 => k_is)
    (case l5 => k_is)
    (case c5 => k_is)
    (case k5 => k_is)
    (case a6 => k_is)
    (case l6 => k_is)
    (case c6 => k_is)
    (case k6 => k_is)
    (case a7 => k_is)
    (case l7 => k_is)
    (case c7 => k_is)
    (case k7 => k_is)
    (case a8 => k_is)
    (case l8 => k_is)
    (case c8 => k_is)
    (case k8 => k_is)
    (case a9 => k_is)
    (case l9 => k_is)
    (case c9 => k_is)
    (case k9 => k_is)
    (case a10 => k_is)
    (case l10 => k_is)
    (case c10 => k_is)
    (case k10 => k_is)
    (case a11 => k_is)
    (case l11 => k_is)
    (case c11 => k_is)
    (case k11 => k_is)
    (case a12 => k_is)
    (case l12 => k_is)
    (case c12 => k_is)
    (case k12 => k_is)
    (case a13 => k_is)
    (case l13 => k_is)
    (case c13 => k_is)
    (case k13 => k_is)
    (case a14 => k_is)
    (case l14 => k_is)
    (case c14 => k_is)
    (case k14 => k_is)
    (case a15 => k_is)
    (case l15 => k_is)
    (case c15 => k_is)
    (case k15 => k_is)
    (case a16 => k_is)
    (case l16 => k_is)
    (case c16 => k_is)
    (case k16 => k_is)
    (case a17 => k_is)
    (case l17 => k_is)
    (case c17 => k_is)
    (case k17 => k_is)
    (case a18 => k_is)
    (case l18 => k_is)
    (case c18 => k_is)
    (case k18 => k_is)
    (case a19 => k_is)
    (case l19 => k_is)
    (case c19 => k_is)
    (case k19 => k_is)
    (case a20 => k_is)
    (case l20 => k_is)
    (case c20 => k_is)
    (case k20 => k_is)
    (case a21 => k_is)
    (case l21 => k_is)
    (case c21 => k_is)
    (case k21 => k_is)
    (case a22 => k_is)
    (case l22 => k_is)
    (case c22 => k_is)
    (case k22 => k_is)
    (case a23 => k_is)
    (case l23 => k_is)
    (case c23 => k_is)
    (case k23 => k_is)
    (case a24 => k_is)
    (case l24 => k_is)
    (case c24 => k_is)
    (case k24 => k_is)
    (case a25 => k_is)
    (case l25 => k_is)
    (case c25 => k_is)
    (case k25 => k_is)
    (case a26 => k_is)
    (case l26 => k_is)
    (case c26 => k_is)
    (case k26 => k_is)
    (case z0 => k_is)
    (case z1 => k_is)
    (case z2 => k_is)
    (case z3 => k_is)
    (case z4 => k_is)
    (case z5 => k_is)
    (case z6 => k_is)
    (case z7 => k_is)
    (case z8 => k_is)
    (case z9 => k_is)
    (case z10 => k_is)
    (case z11 => k_is)
    (case z12 => k_is)
    (case z13 => k_is)
    (case z14 => k_is)

