import PyProof.Rows.All
import Wide.All
import OpenK.AllK
import Wide.FinOn
import HandS.ForMost
import HandS.SetKeys
import KE.KDictKeyed
import KE.KDictCopyH
import HandS.Deep
import HandS.Zip
import HandS.Walk
import KE.KDictSum
import KE.SortData
import KE.DataCmp
import KE.GoesEnum
import HandS.TupAny
import HandS.IsInst
import HandS.NoneIn
import HandS.Wide
import PySem.Challenge.RW_handpromise_k47_whole_no_paper_is_weaker
set_option Elab.async false
section
set_option autoImplicit false
set_option linter.all false
/-! The plain mathematics: stands, sums, conditions, ways, leads, breaks, papers that fit. No program here. -/
namespace Hm
abbrev Stand := List Int
abbrev Step := Stand × Stand
abbrev Spot := Nat × Stand

inductive Sm where
  | num (n : Int)
  | box (k : Nat)
  | plus (a b : Sm)
  | minus (a b : Sm)
inductive Cd where
  | yes
  | is (a b : Sm)
  | less (a b : Sm)
  | not (c : Cd)
  | both (c d : Cd)
  | either (c d : Cd)
def Sm.val : Sm → Stand → Int
  | .num n, _ => n
  | .box k, s => s.getD k 0
  | .plus a b, s => a.val s + b.val s
  | .minus a b, s => a.val s - b.val s
def Sm.wf (n : Nat) : Sm → Prop
  | .num _ => True
  | .box k => k < n
  | .plus a b => a.wf n ∧ b.wf n
  | .minus a b => a.wf n ∧ b.wf n
def Sm.dep : Sm → Nat
  | .num _ => 0
  | .box _ => 0
  | .plus a b => max a.dep b.dep + 1
  | .minus a b => max a.dep b.dep + 1
def Cd.holds : Cd → Stand → Bool
  | .yes, _ => true
  | .is a b, s => decide (a.val s = b.val s)
  | .less a b, s => decide (a.val s < b.val s)
  | .not c, s => !c.holds s
  | .both c d, s => c.holds s && d.holds s
  | .either c d, s => c.holds s || d.holds s
def Cd.wf (n : Nat) : Cd → Prop
  | .yes => True
  | .is a b => a.wf n ∧ b.wf n
  | .less a b => a.wf n ∧ b.wf n
  | .not c => c.wf n
  | .both c d => c.wf n ∧ d.wf n
  | .either c d => c.wf n ∧ d.wf n
/-- the depth; sums at most 1 deep stand within -/
def Cd.dep : Cd → Nat
  | .yes => 0
  | .is a b => 0
  | .less a b => 0
  | .not c => c.dep + 1
  | .both c d => max c.dep d.dep + 1
  | .either c d => max c.dep d.dep + 1
/-- all sums within are at most m deep -/
def Cd.sdep (m : Nat) : Cd → Prop
  | .yes => True
  | .is a b => a.dep ≤ m ∧ b.dep ≤ m
  | .less a b => a.dep ≤ m ∧ b.dep ≤ m
  | .not c => c.sdep m
  | .both c d => c.sdep m ∧ d.sdep m
  | .either c d => c.sdep m ∧ d.sdep m
/-- a condition as the law draws it -/
structure Cd.ok (n : Nat) (c : Cd) : Prop where
  wf : c.wf n
  dep : c.dep ≤ 1
  sdep : c.sdep 1
structure Sm.ok (n : Nat) (e : Sm) : Prop where
  wf : e.wf n
  dep : e.dep ≤ 1

structure Way where
  guard : Cd
  puts : List (Nat × Sm)
  nx : Nat
abbrev Hand := List (List Way)
structure Way.ok (n places : Nat) (w : Way) : Prop where
  guard : w.guard.ok n
  sums : ∀ p ∈ w.puts, p.1 < n ∧ p.2.ok n
  rise : w.puts.Pairwise fun p q => p.1 < q.1
  nx : w.nx < places

/-! ### stands -/
def grow (found : List Stand) (top : Int) : List Stand := found.flatMap fun s => (List.range (top + 1).toNat).map fun (i : Nat) => s ++ [(i : Int)]
def standsF (tops : List Int) : List Stand := tops.foldl grow [[]]
def Valid (tops : List Int) (s : Stand) : Prop := s.length = tops.length ∧ ∀ i, i < tops.length → 0 ≤ s.getD i 0 ∧ s.getD i 0 ≤ tops.getD i 0
theorem valid_nil : ∀ s : Stand, s ∈ ([[]] : List Stand) ↔ Valid [] s := fun s => by
  constructor
  · intro h
    have e : s = [] := by simpa using h
    subst e
    exact ⟨rfl, fun i hi => absurd hi (Nat.not_lt_zero i)⟩
  · rintro ⟨h, _⟩
    have e : s = [] := List.eq_nil_of_length_eq_zero h
    rw [e]
    exact List.mem_singleton.mpr rfl
theorem valid_snoc {tops : List Int} {top : Int} {s : Stand} : Valid (tops ++ [top]) s ↔ ∃ r x, s = r ++ [x] ∧ Valid tops r ∧ 0 ≤ x ∧ x ≤ top := by
  constructor
  · rintro ⟨hl, h⟩
    rw [List.length_append, List.length_singleton] at hl
    have hne : s ≠ [] := by intro e; rw [e] at hl; simp at hl
    refine ⟨s.dropLast, s.getLast hne, (List.dropLast_concat_getLast hne).symm, ⟨by rw [List.length_dropLast]; omega, fun i hi => ?_⟩, ?_⟩
    · have q := h i (by rw [List.length_append, List.length_singleton]; omega)
      have e1 : s.getD i 0 = s.dropLast.getD i 0 := by
        rw [List.getD_eq_getElem?_getD, List.getD_eq_getElem?_getD, List.getElem?_dropLast, if_pos (by omega)]
      have e2 : (tops ++ [top]).getD i 0 = tops.getD i 0 := by
        rw [List.getD_eq_getElem?_getD, List.getD_eq_getElem?_getD, List.getElem?_append_left hi]
      rw [e1, e2] at q
      exact q
    · have q := h tops.length (by rw [List.length_append, List.length_singleton]; omega)
      have e1 : s.getD tops.length 0 = s.getLast hne := by
        rw [List.getD_eq_getElem?_getD, List.getLast_eq_getElem, List.getElem?_eq_getElem (by omega), Option.getD_some]
        congr 1
        omega
      have e2 : (tops ++ [top]).getD tops.length 0 = top := by
        rw [List.getD_eq_getElem?_getD, List.getElem?_append_right (Nat.le_refl _)]
        simp
      rw [e1, e2] at q
      exact q
  · rintro ⟨r, x, rfl, ⟨hl, h⟩, h0, h1⟩
    refine ⟨by rw [List.length_append, List.length_append, hl] <;> rfl, fun i hi => ?_⟩
    rw [List.length_append, List.length_singleton] at hi
    by_cases c : i < tops.length
    · have e1 : (r ++ [x]).getD i 0 = r.getD i 0 := by
        rw [List.getD_eq_getElem?_getD, List.getD_eq_getElem?_getD, List.getElem?_append_left (by omega)]
      have e2 : (tops ++ [top]).getD i 0 = tops.getD i 0 := by
        rw [List.getD_eq_getElem?_getD, List.getD_eq_getElem?_getD, List.getElem?_append_left c]
      rw [e1, e2]
      exact h i c
    · have e : i = tops.length := by omega
      subst e
      have e1 : (r ++ [x]).getD tops.length 0 = x := by
        rw [List.getD_eq_getElem?_getD, List.getElem?_append_right (by omega)]
        simp [hl]
      have e2 : (tops ++ [top]).getD tops.length 0 = top := by
        rw [List.getD_eq_getElem?_getD, List.getElem?_append_right (Nat.le_refl _)]
        simp
      rw [e1, e2]
      exact ⟨h0, h1⟩
theorem mem_grow {tops : List Int} {found : List Stand} {top : Int} (h : ∀ s, s ∈ found ↔ Valid tops s) (s : Stand) : s ∈ grow found top ↔ Valid (tops ++ [top]) s := by
  rw [valid_snoc]
  unfold grow
  rw [List.mem_flatMap]
  constructor
  · rintro ⟨r, hr, hs⟩
    obtain ⟨i, hi, rfl⟩ := List.mem_map.mp hs
    have q := List.mem_range.mp hi
    exact ⟨r, (i : Int), rfl, (h r).mp hr, by omega, by omega⟩
  · rintro ⟨r, x, rfl, hr, h0, h1⟩
    refine ⟨r, (h r).mpr hr, List.mem_map.mpr ⟨x.toNat, List.mem_range.mpr (by omega), ?_⟩⟩
    rw [Int.toNat_of_nonneg h0]
theorem mem_foldl_grow : ∀ (tops pre : List Int) (found : List Stand), (∀ s, s ∈ found ↔ Valid pre s) → ∀ s, s ∈ tops.foldl grow found ↔ Valid (pre ++ tops) s
  | [], pre, found, h, s => by rw [List.append_nil]; exact h s
  | t :: ts, pre, found, h, s => by
    rw [List.foldl_cons, mem_foldl_grow ts (pre ++ [t]) (grow found t) (mem_grow h) s, List.append_assoc] <;> rfl
theorem mem_standsF {tops : List Int} {s : Stand} : s ∈ standsF tops ↔ Valid tops s := by
  have q := mem_foldl_grow tops [] [[]] valid_nil s
  rw [List.nil_append] at q
  exact q

/-! ### the order of stands -/
abbrev Rising (ss : List Stand) : Prop := ss.Pairwise (· < ·)
theorem lt_app_left : ∀ {s t : Stand} (a b : Stand), s.length = t.length → s < t → s ++ a < t ++ b
  | [], [], _, _, _, h => absurd h (by simp)
  | [], _ :: _, _, _, hl, _ => by simp at hl
  | _ :: _, [], _, _, hl, _ => by simp at hl
  | x :: s, y :: t, a, b, hl, h => by
    rw [List.cons_append, List.cons_append]
    rw [List.cons_lt_cons_iff] at h ⊢
    rcases h with h | ⟨e, h⟩
    · exact .inl h
    · exact .inr ⟨e, lt_app_left a b (by simpa using hl) h⟩
theorem lt_app_right : ∀ (s : Stand) {i j : Int}, i < j → s ++ [i] < s ++ [j]
  | [], i, j, h => by
    show [i] < [j]
    rw [List.cons_lt_cons_iff]
    exact .inl h
  | x :: s, i, j, h => by
    rw [List.cons_append, List.cons_append, List.cons_lt_cons_iff]
    exact .inr ⟨rfl, lt_app_right s h⟩
theorem rising_grow {n : Nat} {found : List Stand} (top : Int) (hl : ∀ s ∈ found, s.length = n) (h : Rising found) : Rising (grow found top) ∧ ∀ s ∈ grow found top, s.length = n + 1 := by
  constructor
  · unfold grow Rising
    rw [List.pairwise_flatMap]
    refine ⟨fun s _ => ?_, ?_⟩
    · rw [List.pairwise_map]
      exact List.pairwise_lt_range.imp fun {i j} hij => lt_app_right s (by omega)
    · refine List.Pairwise.imp_of_mem (fun {s t} hs ht hst => ?_) h
      intro x hx y hy
      obtain ⟨i, _, rfl⟩ := List.mem_map.mp hx
      obtain ⟨j, _, rfl⟩ := List.mem_map.mp hy
      exact lt_app_left _ _ ((hl s hs).trans (hl t ht).symm) hst
  · intro s hs
    obtain ⟨r, hr, hs⟩ := List.mem_flatMap.mp hs
    obtain ⟨i, _, rfl⟩ := List.mem_map.mp hs
    rw [List.length_append, hl r hr] <;> rfl
theorem rising_foldl : ∀ (tops : List Int) (n : Nat) (found : List Stand), (∀ s ∈ found, s.length = n) → Rising found → Rising (tops.foldl grow found)
  | [], _, _, _, h => h
  | t :: ts, n, found, hl, h => by
    have q := rising_grow t hl h
    exact rising_foldl ts (n + 1) (grow found t) q.2 q.1
theorem rising_standsF (tops : List Int) : Rising (standsF tops) := rising_foldl tops 0 [[]] (by simp) (by simp [Rising])
theorem rising_filter {ss : List Stand} (p : Stand → Bool) (h : Rising ss) : Rising (ss.filter p) := h.filter p
/-- how many: the tops, one more each, multiplied -/
def room (tops : List Int) : Nat := tops.foldl (fun n t => n * (t + 1).toNat) 1
theorem length_grow (found : List Stand) (top : Int) : (grow found top).length = found.length * (top + 1).toNat := by
  unfold grow
  induction found with
  | nil => simp
  | cons s r ih =>
    rw [List.flatMap_cons, List.length_append, ih, List.length_map, List.length_range, List.length_cons, Nat.succ_mul]
    omega
theorem length_foldl : ∀ (tops : List Int) (found : List Stand) (n : Nat), found.length = n → (tops.foldl grow found).length = tops.foldl (fun n t => n * (t + 1).toNat) n
  | [], _, _, h => h
  | t :: ts, found, n, h => by
    rw [List.foldl_cons, List.foldl_cons]
    exact length_foldl ts _ _ (by rw [length_grow, h])
theorem length_standsF (tops : List Int) : (standsF tops).length = room tops := length_foldl tops [[]] 1 rfl

/-! ### ways -/
def putsF (tops : List Int) (s : Stand) : List (Nat × Sm) → Stand → Option Stand
  | [], f => some f
  | p :: r, f => if p.2.val s < 0 ∨ tops.getD p.1 0 < p.2.val s then none else putsF tops s r (f.set p.1 (p.2.val s))
def beh (tops : List Int) (w : Way) (s : Stand) : Option Stand := if w.guard.holds s = true then putsF tops s w.puts s else none
def setAll (s : Stand) : List (Nat × Sm) → Stand → Stand
  | [], f => f
  | p :: r, f => setAll s r (f.set p.1 (p.2.val s))
theorem setAll_length (s : Stand) : ∀ (ps : List (Nat × Sm)) (f : Stand), (setAll s ps f).length = f.length
  | [], _ => rfl
  | p :: r, f => by
    show (setAll s r _).length = _
    rw [setAll_length s r, List.length_set]
theorem setAll_out (s : Stand) {k : Nat} : ∀ (ps : List (Nat × Sm)) (f : Stand), (∀ p ∈ ps, p.1 ≠ k) → (setAll s ps f).getD k 0 = f.getD k 0
  | [], _, _ => rfl
  | p :: r, f, h => by
    show (setAll s r _).getD k 0 = _
    rw [setAll_out s r _ fun q hq => h q (List.mem_cons_of_mem _ hq), List.getD_eq_getElem?_getD, List.getD_eq_getElem?_getD, List.getElem?_set_ne (h p List.mem_cons_self)]
theorem getD_set (f : Stand) (k i : Nat) (x : Int) (hk : k < f.length) : (f.set k x).getD i 0 = if i = k then x else f.getD i 0 := by
  rw [List.getD_eq_getElem?_getD, List.getD_eq_getElem?_getD]
  by_cases c : i = k
  · subst c
    rw [if_pos rfl, List.getElem?_set_self hk]
    rfl
  · rw [if_neg c, List.getElem?_set_ne (Ne.symm c)]
theorem valid_set {tops : List Int} {f : Stand} {k : Nat} {x : Int} (h : Valid tops f) (hk : k < tops.length) (h0 : 0 ≤ x) (h1 : x ≤ tops.getD k 0) : Valid tops (f.set k x) := by
  refine ⟨by rw [List.length_set]; exact h.1, fun i hi => ?_⟩
  rw [getD_set f k i x (by rw [h.1]; exact hk)]
  by_cases c : i = k
  · subst c
    rw [if_pos rfl]
    exact ⟨h0, h1⟩
  · rw [if_neg c]
    exact h.2 i hi
instance (tops : List Int) (s : Stand) : Decidable (Valid tops s) := by unfold Valid; exact inferInstance
theorem putsF_eq (tops : List Int) (s : Stand) : ∀ (ps : List (Nat × Sm)) (f : Stand), Valid tops f → (∀ p ∈ ps, p.1 < tops.length) → ps.Pairwise (fun p q => p.1 < q.1) →
    putsF tops s ps f = if Valid tops (setAll s ps f) then some (setAll s ps f) else none
  | [], f, hf, _, _ => by rw [if_pos (show Valid tops (setAll s [] f) from hf)] <;> rfl
  | p :: r, f, hf, hk, hp => by
    rw [List.pairwise_cons] at hp
    have k0 := hk p List.mem_cons_self
    show (if _ then _ else _) = if Valid tops (setAll s r (f.set p.1 (p.2.val s))) then some (setAll s r (f.set p.1 (p.2.val s))) else none
    by_cases c : p.2.val s < 0 ∨ tops.getD p.1 0 < p.2.val s
    · rw [if_pos c, if_neg]
      intro hv
      have q := hv.2 p.1 k0
      rw [setAll_out s r _ fun q hq => (by have := hp.1 q hq; omega), getD_set _ _ _ _ (by rw [hf.1]; exact k0), if_pos rfl] at q
      omega
    · rw [if_neg c]
      exact putsF_eq tops s r _ (valid_set hf k0 (by omega) (by omega)) (fun q hq => hk q (List.mem_cons_of_mem _ hq)) hp.2
theorem putsF_valid (tops : List Int) (s : Stand) : ∀ (ps : List (Nat × Sm)) (f t : Stand), Valid tops f → (∀ p ∈ ps, p.1 < tops.length) → putsF tops s ps f = some t → Valid tops t
  | [], f, t, hf, _, e => by cases e; exact hf
  | p :: r, f, t, hf, hk, e => by
    have k0 := hk p List.mem_cons_self
    have e' : (if p.2.val s < 0 ∨ tops.getD p.1 0 < p.2.val s then none else putsF tops s r (f.set p.1 (p.2.val s))) = some t := e
    by_cases c : p.2.val s < 0 ∨ tops.getD p.1 0 < p.2.val s
    · rw [if_pos c] at e'; cases e'
    · rw [if_neg c] at e'
      exact putsF_valid tops s r _ t (valid_set hf k0 (by omega) (by omega)) (fun q hq => hk q (List.mem_cons_of_mem _ hq)) e'
theorem beh_valid {tops : List Int} {w : Way} {s t : Stand} {places : Nat} (hw : w.ok tops.length places) (hs : Valid tops s) (e : beh tops w s = some t) : Valid tops t := by
  unfold beh at e
  split at e
  · exact putsF_valid tops s _ _ _ hs (fun p hp => (hw.sums p hp).1) e
  · cases e

/-! ### leads, breaks, papers -/
structure Cfg where
  tops : List Int
  hand : Hand
  promise : List Step
  others : List (List Step)
  notes : List Cd
def Cfg.ways (C : Cfg) (p : Nat) : List Way := C.hand.getD p []
def Cfg.note (C : Cfg) (p : Nat) : Cd := C.notes.getD p .yes
def Cfg.Own (C : Cfg) (x y : Spot) : Prop := ∃ w ∈ C.ways x.1, w.nx = y.1 ∧ beh C.tops w x.2 = some y.2
def Cfg.Oth (C : Cfg) (x y : Spot) : Prop := x.1 = y.1 ∧ ∃ st ∈ C.others, (x.2, y.2) ∈ st
def Cfg.Lead (C : Cfg) (x y : Spot) : Prop := C.Own x y ∨ C.Oth x y
/-- a way of the row breaks the promise at the stand -/
def Cfg.PB (C : Cfg) (x : Spot) : Prop := ∃ w ∈ C.ways x.1, ∃ t, beh C.tops w x.2 = some t ∧ t ≠ x.2 ∧ (x.2, t) ∉ C.promise
def Cfg.Brk (C : Cfg) (x : Spot) : Prop := (C.note x.1).holds x.2 = false ∨ C.PB x
def Cfg.In (C : Cfg) (x : Spot) : Prop := x.1 < C.hand.length + 1 ∧ Valid C.tops x.2
structure Cfg.ok (C : Cfg) : Prop where
  ways : ∀ row ∈ C.hand, ∀ w ∈ row, w.ok C.tops.length (C.hand.length + 1)
  steps : ∀ st ∈ C.others, ∀ q ∈ st, Valid C.tops q.1 ∧ Valid C.tops q.2
  notes : C.notes.length = C.hand.length + 1
  note : ∀ c ∈ C.notes, c.ok C.tops.length
theorem Cfg.ok.way {C : Cfg} (h : C.ok) {p : Nat} {w : Way} (hw : w ∈ C.ways p) : w.ok C.tops.length (C.hand.length + 1) := by
  unfold Cfg.ways at hw
  rw [List.getD_eq_getElem?_getD] at hw
  cases e : C.hand[p]? with
  | none => rw [e] at hw; simp at hw
  | some row =>
    rw [e] at hw
    exact h.ways row (List.mem_of_getElem? e) w hw
theorem Cfg.ok.lead {C : Cfg} (h : C.ok) {x y : Spot} (hx : C.In x) (l : C.Lead x y) : C.In y := by
  rcases l with ⟨w, hw, e, hb⟩ | ⟨e, st, hst, hm⟩
  · have q := h.way hw
    exact ⟨by rw [← e]; exact q.nx, beh_valid q hx.2 hb⟩
  · exact ⟨by rw [← e]; exact hx.1, (h.steps st hst _ hm).2⟩
/-- the list of a paper for a place has the stand -/
def InP (paper : List (List Stand)) (x : Spot) : Prop := x.2 ∈ paper.getD x.1 []
/-- no break but begin ones -/
def Cfg.Fits (C : Cfg) (paper : List (List Stand)) : Prop := ∀ x, InP paper x → ¬ C.Brk x ∧ ∀ y, C.Lead x y → InP paper y
/-- the stands that no fitting paper has -/
structure Cfg.Lost (C : Cfg) (L : Spot → Prop) : Prop where
  brk : ∀ x, C.In x → C.Brk x → L x
  back : ∀ x y, C.In x → C.Lead x y → L y → L x
  least : ∀ S : Spot → Prop, (∀ x, S x → ¬ C.Brk x ∧ ∀ y, C.Lead x y → S y) → ∀ x, L x → ¬ S x
open Classical in
/-- the weakest paper -/
noncomputable def Cfg.weak (C : Cfg) (L : Spot → Prop) : List (List Stand) := (List.range (C.hand.length + 1)).map fun p => (standsF C.tops).filter fun s => decide (¬ L (p, s))
theorem weak_in {C : Cfg} {L : Spot → Prop} {x : Spot} : InP (C.weak L) x ↔ C.In x ∧ ¬ L x := by
  classical
  obtain ⟨p, s⟩ := x
  unfold InP Cfg.weak Cfg.In
  rw [List.getD_eq_getElem?_getD, List.getElem?_map]
  by_cases c : p < C.hand.length + 1
  · rw [List.getElem?_range c]
    simp only [Option.map_some, Option.getD_some, List.mem_filter, decide_eq_true_eq, mem_standsF]
    exact ⟨fun h => ⟨⟨c, h.1⟩, h.2⟩, fun h => ⟨h.1.2, h.2⟩⟩
  · have e : (List.range (C.hand.length + 1))[p]? = none := by
      rw [List.getElem?_eq_none_iff, List.length_range]
      omega
    rw [e]
    simp only [Option.map_none, Option.getD_none, List.not_mem_nil, false_iff]
    exact fun h => c h.1.1
theorem weak_fits {C : Cfg} (h : C.ok) {L : Spot → Prop} (l : C.Lost L) : C.Fits (C.weak L) := by
  intro x hx
  obtain ⟨h1, h2⟩ := weak_in.mp hx
  refine ⟨fun b => h2 (l.brk x h1 b), fun y hy => weak_in.mpr ⟨h.lead h1 hy, fun q => h2 (l.back x y h1 hy q)⟩⟩
/-- a paper that fits has nothing that is lost -/
theorem fits_not_lost {C : Cfg} {L : Spot → Prop} (l : C.Lost L) {paper : List (List Stand)} (f : C.Fits paper) {x : Spot} (hx : InP paper x) : ¬ L x := fun q => l.least (InP paper) f x q hx
end Hm
end

section
set_option Elab.async false
set_option linter.all false
set_option maxRecDepth 100000
set_option maxHeartbeats 4000000
/-! Dicts whose keys are nested tuples (of ints and texts), over HandS: the dict stands as HO.ext, the keys as tracked tuples. -/
namespace Hm
open PySem L2 PySem.Spec PyProof.Rows

/-! ### keys over the abstract heap -/
mutual
inductive NIs (H : Hp) : NestedKey → V → Prop
  | num (i : Int) : NIs H (.num i) (.int i)
  | text (x : Str) : NIs H (.text x) (.str x)
  | tup {a : Addr} {vs : List V} {ks : List NestedKey} : H a = some (.tup vs) → NAll H ks vs → NIs H (.tup ks) (.ref a)
inductive NAll (H : Hp) : List NestedKey → List V → Prop
  | nil : NAll H [] []
  | cons {k : NestedKey} {v : V} {ks : List NestedKey} {vs : List V} : NIs H k v → NAll H ks vs → NAll H (k :: ks) (v :: vs)
end
/-- the tuples are kept -/
def TK (H H' : Hp) : Prop := ∀ b xs, H b = some (.tup xs) → H' b = some (.tup xs)
theorem TK.refl (H : Hp) : TK H H := fun _ _ h => h
theorem TK.trans {H H1 H2 : Hp} (a : TK H H1) (b : TK H1 H2) : TK H H2 := fun c xs h => b c xs (a c xs h)
theorem TK.same {H H' : Hp} (s : Same H H') : TK H H' := fun b xs h => s b _ h
theorem TK.upd {H : Hp} {a : Addr} {o : HO} (h : ∀ xs, H a ≠ some (.tup xs)) : TK H (upd H a o) := fun b xs e => by
  rw [upd_ne]
  · exact e
  · intro q
    rw [q] at e
    exact h xs e
theorem same_new {H : Hp} {p : Addr} (h : H p = none) (o : HO) : Same H (upd H p o) := fun b u q => by rw [upd_ne (ne_of_none q h)]; exact q
mutual
theorem NIs.tk {H H' : Hp} (t : TK H H') : ∀ (k : NestedKey) (v : V), NIs H k v → NIs H' k v
  | _, _, .num i => .num i
  | _, _, .text x => .text x
  | _, _, .tup h a => .tup (t _ _ h) (NAll.tk t _ _ a)
theorem NAll.tk {H H' : Hp} (t : TK H H') : ∀ (ks : List NestedKey) (vs : List V), NAll H ks vs → NAll H' ks vs
  | _, _, .nil => .nil
  | _, _, .cons h a => .cons (NIs.tk t _ _ h) (NAll.tk t _ _ a)
end
section
variable {P : Program} {w : World} {H : Hp} {h : Heap}
mutual
theorem NIs.real (ok : HOk P w H h) : ∀ (k : NestedKey) (v : V) (u : Value), NIs H k v → RelV v u → NestedIs h k u
  | _, _, _, .num i, r => by
    obtain ⟨t, rfl⟩ := r
    exact .int i t
  | _, _, _, .text x, r => by
    obtain ⟨t, rfl⟩ := r
    exact .text x t
  | _, _, _, .tup (a := a) (vs := vs) e al, r => by
    cases r
    obtain ⟨_, its, rv, o, h1, h2, n, h3⟩ := (show ObjOk P w H h a (.tup vs) from ok a _ e)
    exact .tup h1 h2 h3 (by simpa using NAll.real ok _ _ its al rv)
theorem NAll.real (ok : HOk P w H h) : ∀ (ks : List NestedKey) (vs : List V) (us : List Value), NAll H ks vs → Vals vs us → NestedAll h ks us
  | _, _, _, .nil, r => by cases r; exact .nil
  | _, _, _, .cons h1 al, r => by
    cases r with
    | cons r1 r2 => exact .cons (NIs.real ok _ _ _ h1 r1) (NAll.real ok _ _ _ al r2)
end
end
/-- the tuple at a is the key k, and it is not too deep -/
def NK (H : Hp) (k : NestedKey) (a : Addr) : Prop := NIs H k (.ref a) ∧ k.depth ≤ 8
theorem NK.tk {H H' : Hp} {k : NestedKey} {a : Addr} (h : NK H k a) (t : TK H H') : NK H' k a := ⟨NIs.tk t _ _ h.1, h.2⟩
theorem NK.real {P : Program} {w : World} {H : Hp} {h : Heap} {k : NestedKey} {a : Addr} (n : NK H k a) (ok : HOk P w H h) : (nestedKind P w).is h k a := ⟨NIs.real ok _ _ _ n.1 rfl, n.2⟩

/-! ### the dict -/
/-- the raw entries xs (key, where its tuple stands, value) are kvs over the heap -/
def KN (H : Hp) (kvs : List (NestedKey × V)) (xs : List (NestedKey × Addr × Value)) : Prop := KV kvs (pairsH xs) ∧ ∀ x ∈ xs, NK H x.1 x.2.1
section
variable {H H' : Hp} {kvs : List (NestedKey × V)} {xs : List (NestedKey × Addr × Value)}
theorem KN.nil : KN H [] [] := ⟨.nil, fun _ h => nomatch h⟩
theorem KN.length (r : KN H kvs xs) : kvs.length = xs.length := by rw [r.1.length, pairsH_length]
theorem KN.val (r : KN H kvs xs) (k : NestedKey) : RelO (valV kvs k) ((atKey xs k).map (·.2)) := by
  have q := r.1.val k
  rw [valueAt_pairsH] at q
  exact q
theorem mem_storedH {xs : List (NestedKey × Addr × Value)} {k : NestedKey} {b : Addr} {u : Value} {x : NestedKey × Addr × Value} (h : x ∈ storedH xs k b u) : (x.1 = k ∧ x.2.1 = b) ∨ ∃ y ∈ xs, x.1 = y.1 ∧ x.2.1 = y.2.1 := by
  unfold storedH at h
  split at h
  · obtain ⟨y, hy, rfl⟩ := List.mem_map.mp h
    refine .inr ⟨y, hy, ?_⟩
    unfold putAt
    split <;> exact ⟨rfl, rfl⟩
  · rcases List.mem_append.mp h with h | h
    · exact .inr ⟨x, h, rfl, rfl⟩
    · have e := List.mem_singleton.mp h
      rw [e]
      exact .inl ⟨rfl, rfl⟩
theorem KN.put (r : KN H kvs xs) (k : NestedKey) {b : Addr} {y : V} {u : Value} (hb : NK H k b) (ry : RelV y u) : KN H (putK kvs k y) (storedH xs k b u) := by
  refine ⟨?_, fun x hx => ?_⟩
  · rw [pairsH_storedH]
    exact r.1.put k ry
  · rcases mem_storedH hx with ⟨e1, e2⟩ | ⟨z, hz, e1, e2⟩
    · rw [e1, e2]
      exact hb
    · rw [e1, e2]
      exact r.2 z hz
theorem KN.drop (r : KN H kvs xs) (k : NestedKey) : KN H (dropK kvs k) (withoutH xs k) := by
  refine ⟨?_, fun x hx => r.2 x ?_⟩
  · rw [pairsH_withoutH]
    exact r.1.drop k
  · unfold withoutH at hx
    exact (List.mem_filter.mp hx).1
theorem KN.tk (r : KN H kvs xs) (t : TK H H') : KN H' kvs xs := ⟨r.1, fun x hx => (r.2 x hx).tk t⟩
theorem KN.keys (r : KN H kvs xs) : kvs.map (·.1) = xs.map (·.1) := by
  rw [r.1.keys]
  unfold pairsH
  rw [List.map_map]
  rfl
end

/-- the dict's own object -/
def rawN (P : Program) (w : World) (d : Addr) (xs : List (NestedKey × Addr × Value)) (h : Heap) : Prop :=
  ∃ o es ep, h.get? d = some o ∧ o.ExactDict ∧ o.data = .dict es ep ∧ es.toList = xs.map (entryOfKey (nestedKind P w))
theorem rawN_ok {P : Program} {w : World} {H : Hp} {h : Heap} {d : Addr} {xs : List (NestedKey × Addr × Value)} (r : rawN P w d xs h) : ObjOk P w H h d (.ext (rawN P w d xs)) := by
  refine ⟨r, ?_, fun h1 h2 q k => ?_⟩
  · obtain ⟨o, _, _, e, _⟩ := r
    exact ⟨o, e⟩
  · obtain ⟨o, es, ep, e, z⟩ := q
    exact ⟨o, es, ep, k o e, z⟩
/-- at d stands a dict with the keys and values kvs, in the order of insertion -/
def DN (P : Program) (w : World) (H : Hp) (d : Addr) (kvs : List (NestedKey × V)) : Prop :=
  kvs.length ≤ sizeLine ∧ (d == sysModules) = false ∧ (kvs.map (·.1)).Nodup ∧ ∃ xs, KN H kvs xs ∧ H d = some (.ext (rawN P w d xs))
section
variable {P : Program} {w : World} {H H' : Hp} {h : Heap} {d : Addr} {kvs : List (NestedKey × V)}
theorem DN.nodup (x : DN P w H d kvs) : (kvs.map (·.1)).Nodup := x.2.2.1
theorem DN.len (x : DN P w H d kvs) : kvs.length ≤ sizeLine := x.1
theorem DN.keep (x : DN P w H d kvs) (e : H' d = H d) (t : TK H H') : DN P w H' d kvs := by
  obtain ⟨z, y, n, xs, r, q⟩ := x
  exact ⟨z, y, n, xs, r.tk t, by rw [e]; exact q⟩
theorem DN.same (x : DN P w H d kvs) (s : Same H H') : DN P w H' d kvs := by
  obtain ⟨z, y, n, xs, r, q⟩ := x
  exact ⟨z, y, n, xs, r.tk (TK.same s), s _ _ q⟩
theorem DN.some (x : DN P w H d kvs) : ∃ φ, H d = some (.ext φ) := let ⟨_, _, _, _, _, q⟩ := x; ⟨_, q⟩
theorem DN.noTup (x : DN P w H d kvs) : ∀ xs, H d ≠ Option.some (.tup xs) := fun xs e => by
  obtain ⟨φ, q⟩ := x.some
  rw [q] at e
  cases e
/-- another object is written -/
theorem DN.other {a : Addr} {o : HO} (x : DN P w H d kvs) (ne : d ≠ a) (ht : ∀ xs, H a ≠ Option.some (.tup xs)) : DN P w (upd H a o) d kvs := x.keep (upd_ne ne) (TK.upd ht)
theorem DN.real (x : DN P w H d kvs) (ok : HOk P w H h) : ∃ xs, KN H kvs xs ∧ h.DictOfH (nestedKind P w) d xs := by
  obtain ⟨z, y, n, xs, r, q⟩ := x
  obtain ⟨⟨o, es, ep, h1, h2, h3, h4⟩, _⟩ := (show ObjOk P w H h d (.ext (rawN P w d xs)) from ok d _ q)
  refine ⟨xs, r, o, es, ep, h1, h2, h3, h4, ?_, by rw [← r.keys]; exact n⟩
  exact fun x hx => (r.2 x hx).real ok
end
theorem nodup_put {κ : Type} [DecidableEq κ] (kvs : List (κ × V)) (k : κ) (v : V) (h : (kvs.map (·.1)).Nodup) : ((putK kvs k v).map (·.1)).Nodup := by
  unfold putK
  split
  · have e : (kvs.map fun kv => if kv.1 = k then (kv.1, v) else kv).map (·.1) = kvs.map (·.1) := by
      rw [List.map_map]
      refine List.map_congr_left fun x _ => ?_
      show (if x.1 = k then (x.1, v) else x).1 = x.1
      split <;> rfl
    rw [e]
    exact h
  · rename_i c
    rw [List.map_append, List.nodup_append]
    refine ⟨h, by simp, fun a ha b hb e => c ?_⟩
    have hb' : b = k := by simpa using hb
    obtain ⟨x, hx, hx2⟩ := List.mem_map.mp ha
    rw [List.any_eq_true]
    exact ⟨x, hx, decide_eq_true (hx2.trans (e.trans hb'))⟩
theorem nodup_drop {κ : Type} [DecidableEq κ] (kvs : List (κ × V)) (k : κ) (h : (kvs.map (·.1)).Nodup) : ((dropK kvs k).map (·.1)).Nodup := by
  unfold dropK
  exact (List.Sublist.map _ List.filter_sublist).nodup h

/-- room for a nested key -/
theorem nroom {A : Around} {P : Program} {w : World} (hu : A.units + 64 < cLine) : (nestedKind P w).room A.in1 := by
  show A.units + 1 + 8 < cLine
  omega

section
variable {X : Cx} {pins : List (Addr × Obj)} {σ : L2.St} {H : Hp} {s : Shared} {a b : Addr} {v : V} {r : Value} {k : NestedKey} {kvs : List (NestedKey × V)} {A : Around} {E : Value → Shared → Prop}
theorem n_getItem {Q : Value → Shared → Prop} (hu : A.units + 64 < cLine) (I : Inv X pins σ H s) (g : DN X.prog X.w H a kvs) (hk : NK H k b) (hv : valV kvs k = some v) (h : ∀ w' s', Inv X pins σ H s' → RelV v w' → Q w' s') :
    wpAny (model X.prog X.w) A (getItem (.ref a) (.ref b)) Q E s := by
  obtain ⟨xs, rel, dd⟩ := g.real I.hok
  obtain ⟨w', hw, rw'⟩ := RelO.some_of (v := v) (o := (atKey xs k).map (·.2)) (by rw [← hv]; exact rel.val k)
  obtain ⟨p, hp, hp2⟩ := Option.map_eq_some_iff.mp hw
  refine wpAny_getItem_heap (nroom hu) (hk.real I.hok) dd hp ?_
  rw [hp2]
  exact h w' _ (I.tok _) rw'
theorem n_in {Q : Value → Shared → Prop} (hu : A.units + 64 < cLine) (I : Inv X pins σ H s) (g : DN X.prog X.w H a kvs) (hk : NK H k b) (h : ∀ s', Inv X pins σ H s' → Q (.bool (valV kvs k).isSome) s') :
    wpAny (model X.prog X.w) A (compareOp .In (.ref b) (.ref a)) Q E s := by
  obtain ⟨xs, rel, dd⟩ := g.real I.hok
  refine wpAny_in_heap (nroom hu) (hk.real I.hok) g.2.1 dd ?_
  have q := (rel.val k).isSome_eq
  rw [Option.isSome_map] at q
  rw [← q]
  exact h _ (I.tok _)
theorem n_notIn {Q : Value → Shared → Prop} (hu : A.units + 64 < cLine) (I : Inv X pins σ H s) (g : DN X.prog X.w H a kvs) (hk : NK H k b) (h : ∀ s', Inv X pins σ H s' → Q (.bool (!(valV kvs k).isSome)) s') :
    wpAny (model X.prog X.w) A (compareOp .NotIn (.ref b) (.ref a)) Q E s := by
  obtain ⟨xs, rel, dd⟩ := g.real I.hok
  refine wpAny_notIn_heap (nroom hu) (hk.real I.hok) g.2.1 dd ?_
  have q := (rel.val k).isSome_eq
  rw [Option.isSome_map] at q
  rw [← q]
  exact h _ (I.tok _)
theorem DN.made {H' : Hp} {h' : Heap} {xs : List (NestedKey × Addr × Value)} {t' : Nat} (I : Inv X pins σ H s) (g : DN X.prog X.w H a kvs) {kvs' : List (NestedKey × V)} (z : kvs'.length ≤ sizeLine) (n : (kvs'.map (·.1)).Nodup) (rel : KN H kvs' xs)
    (dd : h'.DictOfH (nestedKind X.prog X.w) a xs) (hs : Heap.SameBut a s.heap h') : Inv X pins σ (upd H a (.ext (rawN X.prog X.w a xs))) { s with heap := h', toks := t' } ∧ DN X.prog X.w (upd H a (.ext (rawN X.prog X.w a xs))) a kvs' := by
  obtain ⟨q, es, ep, hq, h2, h3, h4, _, _⟩ := dd
  obtain ⟨φ, e⟩ := g.some
  refine ⟨d_write I (by rw [e]; exact True.intro) hs ⟨q, hq⟩ (rawN_ok ⟨q, es, ep, hq, h2, h3, h4⟩), z, g.2.1, n, xs, rel.tk (TK.upd g.noTup), upd_same⟩
theorem n_setItem {Q : Unit → Shared → Prop} (hu : A.units + 64 < cLine) (I : Inv X pins σ H s) (g : DN X.prog X.w H a kvs) (hk : NK H k b) (hl : kvs.length < sizeLine) (rv : RelV v r)
    (h : ∀ φ s', Inv X pins σ (upd H a (.ext φ)) s' → DN X.prog X.w (upd H a (.ext φ)) a (putK kvs k v) → Q () s') : wpAny (model X.prog X.w) A (setItem (.ref a) (.ref b) r) Q E s := by
  obtain ⟨xs, rel, dd⟩ := g.real I.hok
  have hz : xs.length ≤ sizeLine := by rw [← rel.length]; exact g.1
  refine wpAny_setItem_heap (hsz := hz) (nroom hu) (hk.real I.hok) dd fun h' dd' hs => ?_
  have q := DN.made (H' := H) (t' := s.toks + (nestedKind X.prog X.w).draws k) I g (kvs' := putK kvs k v) (by have := length_putK kvs k v; omega) (nodup_put kvs k v g.nodup) (rel.put k hk rv) dd' hs
  exact h _ _ q.1 q.2
theorem n_getOr {d : V} {Q : Value → Shared → Prop} (hu : A.units + 64 < cLine) (I : Inv X pins σ H s) (g : DN X.prog X.w H a kvs) (hk : NK H k b) (rd : RelV d r) (h : ∀ w' s', Inv X pins σ H s' → RelV ((valV kvs k).getD d) w' → Q w' s') :
    wpAny (model X.prog X.w) A (call (.builtin "dict.get") [.ref a, .ref b, r]) Q E s := by
  obtain ⟨xs, rel, dd⟩ := g.real I.hok
  refine call_meetsIn PySem.F.slot_dict_get dd.typeIs PySem.F.entry_dict_get (PySem.F.args_dict_get_3 _ _ _) (meetsH_dict_get_default (nestedKind X.prog X.w) a b g.2.1 r) ⟨nroom hu, k, xs, hk.real I.hok, dd, h _ _ (I.tok _) ?_⟩
  exact (rel.val k).getD rd
theorem n_setd {d : V} {Q : Value → Shared → Prop} (hu : A.units + 64 < cLine) (I : Inv X pins σ H s) (g : DN X.prog X.w H a kvs) (hk : NK H k b) (hl : kvs.length < sizeLine) (rd : RelV d r)
    (h1 : ∀ v, valV kvs k = some v → ∀ (w' : Value) (s' : Shared), Inv X pins σ H s' → RelV v w' → Q w' s')
    (h2 : valV kvs k = none → ∀ φ s', Inv X pins σ (upd H a (.ext φ)) s' → DN X.prog X.w (upd H a (.ext φ)) a (putK kvs k d) → Q r s') :
    wpAny (model X.prog X.w) A (call (.builtin "dict.setdefault") [.ref a, .ref b, r]) Q E s := by
  obtain ⟨xs, rel, dd⟩ := g.real I.hok
  have hz : xs.length ≤ sizeLine := by rw [← rel.length]; exact g.1
  refine call_setdefault_heap (hsz := hz) (nroom hu) (hk.real I.hok) g.2.1 dd (fun p hp => ?_) fun hn h' dd' hs => ?_
  · have q := rel.val k
    rw [hp] at q
    cases q0 : valV kvs k with
    | none => rw [q0] at q; exact (show False from q).elim
    | some v0 =>
      rw [q0] at q
      exact h1 v0 q0 _ _ (I.tok _) q
  · have q := rel.val k
    rw [hn] at q
    cases q0 : valV kvs k with
    | some v0 => rw [q0] at q; exact (show False from q).elim
    | none =>
      have q := DN.made (H' := H) (t' := s.toks + (nestedKind X.prog X.w).draws k) I g (kvs' := putK kvs k d) (by have := length_putK kvs k d; omega) (nodup_put kvs k d g.nodup) (rel.put k hk rd) dd' hs
      exact h2 q0 _ _ q.1 q.2
theorem n_pop {Q : Value → Shared → Prop} (hu : A.units + 64 < cLine) (I : Inv X pins σ H s) (g : DN X.prog X.w H a kvs) (hk : NK H k b) (hv : valV kvs k = some v)
    (h : ∀ φ w' s', Inv X pins σ (upd H a (.ext φ)) s' → DN X.prog X.w (upd H a (.ext φ)) a (dropK kvs k) → RelV v w' → Q w' s') :
    wpAny (model X.prog X.w) A (call (.builtin "dict.pop") [.ref a, .ref b]) Q E s := by
  obtain ⟨xs, rel, dd⟩ := g.real I.hok
  have hz : xs.length ≤ sizeLine := by rw [← rel.length]; exact g.1
  obtain ⟨w', hw, rw'⟩ := RelO.some_of (v := v) (o := (atKey xs k).map (·.2)) (by rw [← hv]; exact rel.val k)
  obtain ⟨p, hp, hp2⟩ := Option.map_eq_some_iff.mp hw
  refine call_pop_heap (more := []) (hsz := hz) (.inl rfl) (PySem.F.args_dict_pop_2 _ _) (nroom hu) (hk.real I.hok) g.2.1 dd hp fun h' dd' hs => ?_
  have q := DN.made (H' := H) (t' := s.toks + (nestedKind X.prog X.w).draws k) I g (kvs' := dropK kvs k) (Nat.le_trans (dropK_le kvs k) g.1) (nodup_drop kvs k g.nodup) (rel.drop k) dd' hs
  rw [hp2]
  exact h _ _ _ q.1 q.2 rw'
theorem n_len {Q : Value → Shared → Prop} (I : Inv X pins σ H s) (g : DN X.prog X.w H a kvs) (h : ∀ t s', Inv X pins σ H s' → Q (.int kvs.length t) s') : wpAny (model X.prog X.w) A (call (.builtin "len") [.ref a]) Q E s := by
  obtain ⟨xs, rel, dd⟩ := g.real I.hok
  have hz : xs.length ≤ sizeLine := by rw [← rel.length]; exact g.1
  have hk : s.heap.DictKeyed (nestedKind X.prog X.w) a (pairsH xs) := ⟨xs, dd, rfl⟩
  have hl : (pairsH xs).length = kvs.length := by rw [pairsH_length, rel.length]
  refine PyProof.Rows.call_len_slot (n := (kvs.length : Nat)) hk.typeIs PySem.F.slot_dict_len (fun Q' hq => len_keyed g.2.1 hk (by rw [hl]; exact hq)) (by omega) (by have := g.1; rw [sizeLine_eq] at this; omega) ?_
  exact h _ _ (I.tok _)
end
theorem n_typeIs {X : Cx} {pins : List (Addr × Obj)} {σ : L2.St} {H : Hp} {s : Shared} {a : Addr} {kvs : List (NestedKey × V)} (I : Inv X pins σ H s) (g : DN X.prog X.w H a kvs) :
    s.TypeIs (.ref a) "dict" ∧ (∀ b, Value.ref a = .ref b → ∃ ob, s.heap.get? b = some ob ∧ ob.dict = none) := by
  obtain ⟨xs, rel, o, es, ep, h1, h2, h3, _⟩ := g.real I.hok
  refine ⟨⟨o, h1, h2.1⟩, fun b q => ?_⟩
  cases q
  exact ⟨o, h1, h2.2.1⟩
theorem dn_empty {P : Program} {w : World} {H : Hp} (h : Heap) (hb : sysModules < h.objs.size) : rawN P w h.objs.size [] (h.push { cls := .type "dict", data := .dict #[] }) :=
  ⟨_, #[], 0, Heap.get?_push_size _ rfl, ⟨rfl, rfl, rfl⟩, rfl, rfl⟩

/-! ### readings and rules -/
/-- {}: a dict of nested keys to be -/
def tNNew (P : Program) (w : World) : TE := fun _ H Q => ∀ p φ, H p = none → DN P w (upd H p (.ext φ)) p [] → Q (.ref p) (upd H p (.ext φ))
def tNGet (P : Program) (w : World) (td ty : TE) : TE := fun σ H Q => td σ H fun x H1 => ty σ H1 fun y H2 => ∃ a b kvs k v, x = .ref a ∧ y = .ref b ∧ DN P w H2 a kvs ∧ NK H2 k b ∧ valV kvs k = some v ∧ Q v H2
def tNIn (P : Program) (w : World) (ty td : TE) : TE := fun σ H Q => ty σ H fun y H1 => td σ H1 fun x H2 => ∃ a b kvs k, x = .ref a ∧ y = .ref b ∧ DN P w H2 a kvs ∧ NK H2 k b ∧ Q (.bl (valV kvs k).isSome) H2
def tNNotIn (P : Program) (w : World) (ty td : TE) : TE := fun σ H Q => ty σ H fun y H1 => td σ H1 fun x H2 => ∃ a b kvs k, x = .ref a ∧ y = .ref b ∧ DN P w H2 a kvs ∧ NK H2 k b ∧ Q (.bl (!(valV kvs k).isSome)) H2
def sNPut (P : Program) (w : World) (td ty tv : TE) : TS := fun D σ H => tv σ H fun v H1 => td σ H1 fun x H2 => ty σ H2 fun y H3 => ∃ a b kvs k, x = .ref a ∧ y = .ref b ∧ DN P w H3 a kvs ∧ NK H3 k b ∧ kvs.length < sizeLine ∧
  ∀ φ, DN P w (upd H3 a (.ext φ)) a (putK kvs k v) → D.nx σ (upd H3 a (.ext φ))
def tNGetOr (P : Program) (w : World) (td ty tx : TE) : TE := fun σ H Q => td σ H fun x H1 => ∃ a kv0, x = .ref a ∧ DN P w H1 a kv0 ∧ ty σ H1 fun y H2 => tx σ H2 fun z H3 => ∃ b kvs k, y = .ref b ∧ DN P w H3 a kvs ∧ NK H3 k b ∧ Q ((valV kvs k).getD z) H3
def tNSetd (P : Program) (w : World) (td ty tx : TE) : TE := fun σ H Q => td σ H fun x H1 => ∃ a kv0, x = .ref a ∧ DN P w H1 a kv0 ∧ ty σ H1 fun y H2 => tx σ H2 fun z H3 => ∃ b kvs k, y = .ref b ∧ DN P w H3 a kvs ∧ NK H3 k b ∧ kvs.length < sizeLine ∧
  (∀ v, valV kvs k = some v → Q v H3) ∧ (valV kvs k = none → ∀ φ, DN P w (upd H3 a (.ext φ)) a (putK kvs k z) → Q z (upd H3 a (.ext φ)))
def tNPop (P : Program) (w : World) (td ty : TE) : TE := fun σ H Q => td σ H fun x H1 => ∃ a kv0, x = .ref a ∧ DN P w H1 a kv0 ∧ ty σ H1 fun y H2 => ∃ b kvs k v, y = .ref b ∧ DN P w H2 a kvs ∧ NK H2 k b ∧ valV kvs k = some v ∧
  ∀ φ, DN P w (upd H2 a (.ext φ)) a (dropK kvs k) → Q v (upd H2 a (.ext φ))
section
variable {X : Cx} {o i e f value : Expr} {pos pos' apos cpos : Pos} {td ty tv tx : TE}
theorem pe_nnew : PE X (.Dict [] [] pos) (tNNew X.prog X.w) := ⟨fun pins s σ H Q I h => by
  have r := dn_empty (P := X.prog) (w := X.w) (H := H) s.heap I.big
  refine wpAny_Dict_empty ⟨.ref s.heap.objs.size, _, I.laid (a := s.heap.objs.size) (o := .ext (rawN X.prog X.w s.heap.objs.size [])) (t' := s.toks) (fun _ _ q => Heap.get?_push_of_some _ q) (Nat.le_refl _) (rawN_ok r), rfl, h _ _ (I.hok.fresh (Nat.le_refl _)) ?_⟩
  exact ⟨Nat.zero_le _, beq_eq_false_iff_ne.mpr (Ne.symm (Nat.ne_of_lt I.big)), List.nodup_nil, [], KN.nil, upd_same⟩⟩
theorem pe_nget (hu : X.A.units + 64 < cLine) (ho : PE X o td) (hi : PE X i ty) (hs : NoSl i) : PE X (.Subscript o i pos) (tNGet X.prog X.w td ty) := by
  refine ⟨fun pins s σ H Q I h => ?_⟩
  refine subD_of PySem.F.slot_dict_getitem.lookup hs (thn (ho.run pins s σ H _ I h) fun u s1 ⟨x, H1, I1, rx, q1⟩ => thn (hi.run pins s1 σ H1 _ I1 q1) fun iv s2 ⟨y, H2, I2, ry, a, b, kvs, k, v, ex, ey, g, hk, hv, q2⟩ => ?_)
  subst ex ey
  obtain rfl : u = Value.ref a := rx
  obtain rfl : iv = Value.ref b := ry
  exact ⟨(n_typeIs I2 g).1, n_getItem hu I2 g hk hv fun w' s3 I3 rw' => ⟨v, H2, I3, rw', q2⟩⟩
theorem pc_nin (hu : X.A.units + 64 < cLine) (hi : PE X i ty) (ho : PE X o td) : PC X .In i o (tNIn X.prog X.w ty td) := by
  refine ⟨fun pins s σ H Q I h => ?_⟩
  refine thn (hi.run pins s σ H _ I h) fun iv s1 ⟨y, H1, I1, ry, q1⟩ => thn (ho.run pins s1 σ H1 _ I1 q1) fun u s2 ⟨x, H2, I2, rx, a, b, kvs, k, ex, ey, g, hk, q2⟩ => ?_
  subst ex ey
  obtain rfl : u = Value.ref a := rx
  obtain rfl : iv = Value.ref b := ry
  exact n_in hu I2 g hk fun s3 I3 => ⟨.bl (valV kvs k).isSome, H2, I3, rfl, q2⟩
theorem pc_nnotin (hu : X.A.units + 64 < cLine) (hi : PE X i ty) (ho : PE X o td) : PC X .NotIn i o (tNNotIn X.prog X.w ty td) := by
  refine ⟨fun pins s σ H Q I h => ?_⟩
  refine thn (hi.run pins s σ H _ I h) fun iv s1 ⟨y, H1, I1, ry, q1⟩ => thn (ho.run pins s1 σ H1 _ I1 q1) fun u s2 ⟨x, H2, I2, rx, a, b, kvs, k, ex, ey, g, hk, q2⟩ => ?_
  subst ex ey
  obtain rfl : u = Value.ref a := rx
  obtain rfl : iv = Value.ref b := ry
  exact n_notIn hu I2 g hk fun s3 I3 => ⟨.bl (!(valV kvs k).isSome), H2, I3, rfl, q2⟩
theorem ps_nput (hu : X.A.units + 64 < cLine) (ho : PE X o td) (hi : PE X i ty) (hv : PE X value tv) (hs : swapsWith value (some (.Subscript o i pos')) pos.line X.env = pure false := by rfl) :
    PS X (.Assign [.Subscript o i pos'] value pos) (sNPut X.prog X.w td ty tv) := by
  refine ⟨fun pins s σ H D I h => ?_⟩
  refine wpAny_Assign_Subscript (thn (hv.run pins s σ H _ I h) fun r s1 ⟨v, H1, I1, rv, q1⟩ => thn (ho.run pins s1 σ H1 _ I1 q1) fun u s2 ⟨x, H2, I2, rx, q2⟩ => thn (hi.run pins s2 σ H2 _ I2 q2) fun iv s3 ⟨y, H3, I3, ry, a, b, kvs, k, ex, ey, g, hk, hl, q3⟩ => ?_) hs
  subst ex ey
  obtain rfl : u = Value.ref a := rx
  obtain rfl : iv = Value.ref b := ry
  exact n_setItem hu I3 g hk hl rv fun φ s4 I4 g4 => ⟨σ, _, I4, q3 φ g4⟩
theorem pe_ngetor (hu : X.A.units + 64 < cLine) (ho : PE X o td) (he : PE X e ty) (hf : PE X f tx) (m : M2 X o "get" apos e f cpos) : PE X (.Call (.Attribute o "get" apos) [e, f] [] cpos) (tNGetOr X.prog X.w td ty tx) := by
  refine ⟨fun pins s σ H Q I h => ?_⟩
  refine wpAny_Call_method m.base m.few m.line PySem.F.plainAttrs_dict PySem.F.slot_dict_get PySem.F.type_dict_get (thn (ho.run pins s σ H _ I h) fun u s1 ⟨x, H1, I1, rx, a, kv0, ex, d, q1⟩ => ?_)
  subst ex
  obtain rfl : u = Value.ref a := rx
  obtain ⟨t1, t2⟩ := n_typeIs I1 d
  refine ⟨t1, t2, ?_⟩
  rw [m.trees]
  refine Calls.callWith_builtin rfl (Calls.evalArgs_plain (Calls.spliced_cons (thn (he.run pins s1 σ H1 _ I1 q1) fun iv s2 ⟨y, H2, I2, ry, q2⟩ =>
    Calls.spliced_cons (thn (hf.run pins s2 σ H2 _ I2 q2) fun fv s3 ⟨z, H3, I3, rz, b, kvs, k, ey, g, hk, q3⟩ => Calls.spliced_nil ?_))))
  subst ey
  obtain rfl : iv = Value.ref b := ry
  exact n_getOr hu I3 g hk rz fun w' s4 I4 rw' => ⟨_, H3, I4, rw', q3⟩
theorem pe_nsetd (hu : X.A.units + 64 < cLine) (ho : PE X o td) (he : PE X e ty) (hf : PE X f tx) (m : M2 X o "setdefault" apos e f cpos) : PE X (.Call (.Attribute o "setdefault" apos) [e, f] [] cpos) (tNSetd X.prog X.w td ty tx) := by
  refine ⟨fun pins s σ H Q I h => ?_⟩
  refine wpAny_Call_method m.base m.few m.line PySem.F.plainAttrs_dict PySem.F.slot_dict_setdefault PySem.F.type_dict_setdefault (thn (ho.run pins s σ H _ I h) fun u s1 ⟨x, H1, I1, rx, a, kv0, ex, d, q1⟩ => ?_)
  subst ex
  obtain rfl : u = Value.ref a := rx
  obtain ⟨t1, t2⟩ := n_typeIs I1 d
  refine ⟨t1, t2, ?_⟩
  rw [m.trees]
  refine Calls.callWith_builtin rfl (Calls.evalArgs_plain (Calls.spliced_cons (thn (he.run pins s1 σ H1 _ I1 q1) fun iv s2 ⟨y, H2, I2, ry, q2⟩ =>
    Calls.spliced_cons (thn (hf.run pins s2 σ H2 _ I2 q2) fun fv s3 ⟨z, H3, I3, rz, b, kvs, k, ey, g, hk, hl, q3, q4⟩ => Calls.spliced_nil ?_))))
  subst ey
  obtain rfl : iv = Value.ref b := ry
  exact n_setd hu I3 g hk hl rz (fun v hv w' s4 I4 rw' => ⟨v, _, I4, rw', q3 v hv⟩) fun hn φ s4 I4 g4 => ⟨z, _, I4, rz, q4 hn φ g4⟩
theorem pe_npop (hu : X.A.units + 64 < cLine) (ho : PE X o td) (he : PE X e ty) (m : M1 X o "pop" apos e cpos) : PE X (.Call (.Attribute o "pop" apos) [e] [] cpos) (tNPop X.prog X.w td ty) := by
  refine ⟨fun pins s σ H Q I h => ?_⟩
  refine wpAny_Call_method m.base m.few m.line PySem.F.plainAttrs_dict PySem.F.slot_dict_pop PySem.F.type_dict_pop (thn (ho.run pins s σ H _ I h) fun u s1 ⟨x, H1, I1, rx, a, kv0, ex, d, q1⟩ => ?_)
  subst ex
  obtain rfl : u = Value.ref a := rx
  obtain ⟨t1, t2⟩ := n_typeIs I1 d
  refine ⟨t1, t2, ?_⟩
  rw [m.trees]
  refine Calls.callWith_builtin rfl (Calls.evalArgs_plain (Calls.spliced_cons (thn (he.run pins s1 σ H1 _ I1 q1) fun iv s2 ⟨y, H2, I2, ry, b, kvs, k, v, ey, g, hk, hv, q2⟩ => Calls.spliced_nil ?_)))
  subst ey
  obtain rfl : iv = Value.ref b := ry
  exact n_pop hu I2 g hk hv fun φ w' s3 I3 g3 rw' => ⟨v, _, I3, rw', q2 φ g3⟩
end
/-- len(d) -/
def rNLen (P : Program) (w : World) : List V → Hp → VK → Prop := fun xs H Q => ∃ a kvs, xs = [.ref a] ∧ DN P w H a kvs ∧ Q (.int (kvs.length : Nat)) H
theorem call_nlen {X : Cx} : CallR X (.builtin "len") (rNLen X.prog X.w) := by
  intro pins s σ H xs us Q I r h
  obtain ⟨a, kvs, rfl, g, q⟩ := h
  cases r with
  | cons r1 r2 =>
    cases r2
    cases r1
    exact n_len I g fun t s' I' => ⟨.int (kvs.length : Nat), H, I', ⟨t, rfl⟩, q⟩
end Hm
end

section
set_option Elab.async false
set_option linter.all false
set_option maxRecDepth 100000
set_option maxHeartbeats 4000000
/-! Further rules over HandS: list(d), sorted(d), sorted of data, dict(pairs), >= of data, zip(tuple, list), text * int. -/
namespace Hm
open PySem L2 PySem.Spec PyProof.Rows PySem.W

/-! ### >= of alike data -/
def rGeD (K : PySem.W.Frag) : R2 := fun x y H Q => ∃ d e, Dp K H x d ∧ Dp K H y e ∧ alike d e = true ∧ d ≠ .none ∧ d.depth ≤ 8 ∧ Q (.bl (!dataLt d e)) H
theorem op_geD {X : Cx} (hu : X.A.units + 64 < cLine) : OpR X (compareOp .GtE) (rGeD X.K) := by
  intro pins s σ H x y v u Q I rx ry h
  obtain ⟨d, e, hd, he, al, nn, dp, q⟩ := h
  obtain ⟨as, r1⟩ := Dp.reads I d x v hd rx
  obtain ⟨bs, r2⟩ := Dp.reads I e y u he ry
  exact PySem.W.ge_data r1 r2 al nn (by have := Nat.min_le_left d.depth e.depth; omega) ⟨.bl _, H, I, rfl, q⟩

/-! ### sorted of data -/
section
variable {β : Type}
/-- xs: a list (Sq), whose items stand for bs by S -/
def rSortD (K : PySem.W.Frag) (enc : β → PyData) : List V → Hp → VK → Prop := fun xs H Q => ∃ (l : Addr) (vs : List V) (bs : List β) (S : V → β → Prop), xs = [.ref l] ∧ SqL K H l vs ∧ Paired S vs bs ∧ (∀ x b, S x b → Dp K H x (enc b)) ∧
  AllAlike (bs.map enc) ∧ Sortable (bs.map enc) ∧ (∀ b ∈ bs, (enc b).depth ≤ 8) ∧ ∀ p ys, H p = none → Paired S ys (bs.mergeSort (dataLe false enc)) → Q (.ref p) (upd H p (.lst ys))
theorem each_of {R : Value → β → Prop} {S : V → β → Prop} (h : ∀ x b u, S x b → RelV x u → R u b) : ∀ {vs : List V} {us : List Value} {bs : List β}, Paired S vs bs → Vals vs us → EachIs R us bs
  | _, _, _, .nil, r => by cases r; exact .nil
  | _, _, _, .cons s t, r => by
    cases r with
    | cons r1 r2 => exact .cons (h _ _ _ s r1) (each_of h t r2)
theorem each_back {S : V → β → Prop} : ∀ {us : List Value} {bs : List β}, EachIs (fun u b => ∃ x, S x b ∧ RelV x u) us bs → ∃ ys, Paired S ys bs ∧ Vals ys us
  | _, _, .nil => ⟨[], .nil, .nil⟩
  | _, _, .cons ⟨x, s, r⟩ t => by
    obtain ⟨ys, p, v⟩ := each_back t
    exact ⟨x :: ys, .cons s p, .cons r v⟩
theorem call_sortD {X : Cx} {enc : β → PyData} (hu : X.A.units + 64 < cLine) : CallR X (.builtin "sorted") (rSortD X.K enc) := by
  intro pins s σ H xs us Q I r h
  obtain ⟨l, vs, bs, S, rfl, hs, hp, hD, al, so, dp, q⟩ := h
  obtain ⟨its, rv, hl, hz⟩ := I.list hs
  obtain ⟨u, rfl, ru⟩ := vals1 r
  obtain rfl : u = Value.ref l := ru
  have hlen : bs.length ≤ sizeLine := by rw [← hp.length]; exact hz
  refine sorted_data (R := fun u b => ∃ x, S x b ∧ RelV x u) (enc := enc) (bs := bs) hl.isList (each_of (fun x b u hx hr => ⟨x, hx, hr⟩) hp rv) (each_of (fun x b u hx hr => Dp.reads I _ _ _ (hD x b hx) hr) hp rv) al so hlen
    (fun b hb => by have := dp b hb; omega) fun out ho he => ?_
  obtain ⟨ys, hy, hv⟩ := each_back he
  obtain ⟨ep, he'⟩ := PyProof.Rows.sortedAll_at s.heap its out.toArray
  have hylen : ys.length ≤ sizeLine := by rw [hv.length, ho]; exact hlen
  exact ⟨.ref _, upd H (s.heap.objs.size + 1) (.lst ys), I.laid (t' := s.toks) (fun _ _ => PyProof.Rows.sortedAll_old) (Nat.le_succ _) ⟨hylen, out, ep, hv, he'⟩, rfl, q _ ys (I.hok.fresh (Nat.le_succ _)) hy⟩
end

/-! ### list(d), sorted(d) -/
theorem dn_collected {X : Cx} {pins : List (Addr × Obj)} {σ : L2.St} {H : Hp} {s : Shared} {a : Addr} {kvs : List (NestedKey × V)} (I : Inv X pins σ H s) (g : DN X.prog X.w H a kvs) :
    ∃ es ep, s.heap.DictRaw a es ep ∧ es.size = kvs.length ∧ ∀ acc : Array Value, ItemsOf (fun i v => ∃ hi : i < es.size, v = es[i].key) acc es.size → ∃ ys : List V, Vals ys acc.toList ∧ Paired (fun v k => ∃ b, v = V.ref b ∧ NK H k b) ys (kvs.map (·.1)) := by
  obtain ⟨xs, rel, dd⟩ := g.real I.hok
  obtain ⟨es, ep, hr, hs, he⟩ := dd.raw
  refine ⟨es, ep, hr, hs.trans rel.length.symm, fun acc hacc => ?_⟩
  have el : ∀ (n : Nat) (ws : List Value), ws.length = xs.length - n → n ≤ xs.length → (∀ j v, ws[j]? = some v → ∃ x, xs[n + j]? = some x ∧ v = Value.ref x.2.1) →
      ∃ ys : List V, Vals ys ws ∧ Paired (fun v k => ∃ b, v = V.ref b ∧ NK H k b) ys ((xs.drop n).map (·.1)) := by
    intro n ws
    induction ws generalizing n with
    | nil =>
      intro hl hn _
      have e : n = xs.length := by simp at hl; omega
      subst e
      rw [List.drop_length]
      exact ⟨[], .nil, .nil⟩
    | cons w ws ih =>
      intro hl hn hw
      rw [List.length_cons] at hl
      obtain ⟨x, hx, rfl⟩ := hw 0 w rfl
      rw [Nat.add_zero] at hx
      obtain ⟨hn', hx'⟩ := List.getElem?_eq_some_iff.mp hx
      obtain ⟨ys, h1, h2⟩ := ih (n + 1) (by omega) (by omega) fun j v hj => by
        obtain ⟨y, hy, e⟩ := hw (j + 1) v (by simpa using hj)
        exact ⟨y, by rw [show n + 1 + j = n + (j + 1) by omega]; exact hy, e⟩
      rw [List.drop_eq_getElem_cons hn', List.map_cons, hx']
      exact ⟨V.ref x.2.1 :: ys, .cons rfl h1, .cons ⟨_, rfl, rel.2 x (List.mem_of_getElem? hx)⟩ h2⟩
  have hlen : acc.toList.length = xs.length - 0 := by rw [Array.length_toList, hacc.1, hs]; rfl
  have q := el 0 acc.toList hlen (Nat.zero_le _) fun j v hj => by
    obtain ⟨hi, e⟩ := hacc.2 j v (by rw [← Array.getElem?_toList]; exact hj)
    obtain ⟨y, hy, h1, _, _⟩ := he j hi
    exact ⟨y, by rw [Nat.zero_add]; exact hy, by rw [e, h1]⟩
  rw [List.drop_zero, ← rel.keys] at q
  exact q
def rNList (P : Program) (w : World) : List V → Hp → VK → Prop := fun xs H Q => ∃ a kvs, xs = [.ref a] ∧ DN P w H a kvs ∧ ∀ p ys, H p = none → Paired (fun v k => ∃ b, v = V.ref b ∧ NK H k b) ys (kvs.map (·.1)) → Q (.ref p) (upd H p (.lst ys))
theorem call_nlist {X : Cx} (hc : X.calm = true) : CallR X (.type "list") (rNList X.prog X.w) := by
  intro pins s σ H xs us Q I r h
  obtain ⟨a, kvs, rfl, g, q⟩ := h
  obtain ⟨u, rfl, ru⟩ := vals1 r
  obtain rfl : u = Value.ref a := ru
  obtain ⟨es, ep, hr, hs, hacc⟩ := dn_collected I g
  have hz : es.size ≤ sizeLine := by rw [hs]; exact g.1
  refine PySem.W.kdl_call (KdlSrc.rawDict (es := es) (ep := ep) g.2.1) (I.ok.hd hc) hr hz fun h' tk acc c' hk hD ha => ?_
  obtain ⟨ys, hv, hp⟩ := hacc acc ha
  have hylen : ys.length ≤ sizeLine := by rw [hv.length, Array.length_toList, ha.1]; exact hz
  exact ⟨.ref s.heap.objs.size, upd H s.heap.objs.size (.lst ys), I.laid (t' := tk) hk (Nat.le_refl _) (show ObjOk X.prog X.w _ _ _ (.lst ys) from ⟨hylen, acc.toList, c', hv, by rw [Array.toArray_toList]; exact hD⟩), rfl, q _ ys (I.hok.fresh (Nat.le_refl _)) hp⟩
section
variable {β : Type}
def rNSort (K : PySem.W.Frag) (P : Program) (w : World) (enc : β → PyData) : List V → Hp → VK → Prop := fun xs H Q => ∃ (a : Addr) (kvs : List (NestedKey × V)) (bs : List β) (S : V → β → Prop), xs = [.ref a] ∧ DN P w H a kvs ∧
  (∀ ys, Paired (fun v k => ∃ b, v = V.ref b ∧ NK H k b) ys (kvs.map (·.1)) → Paired S ys bs) ∧ (∀ x b, S x b → Dp K H x (enc b)) ∧
  AllAlike (bs.map enc) ∧ Sortable (bs.map enc) ∧ (∀ b ∈ bs, (enc b).depth ≤ 8) ∧ ∀ p ys, H p = none → Paired S ys (bs.mergeSort (dataLe false enc)) → Q (.ref p) (upd H p (.lst ys))
theorem call_nsort {X : Cx} {enc : β → PyData} (hc : X.calm = true) (hu : X.A.units + 64 < cLine) : CallR X (.builtin "sorted") (rNSort X.K X.prog X.w enc) := by
  intro pins s σ H xs us Q I r h
  obtain ⟨a, kvs, bs, S, rfl, g, hS, hD, al, so, dp, q⟩ := h
  obtain ⟨u, rfl, ru⟩ := vals1 r
  obtain rfl : u = Value.ref a := ru
  obtain ⟨es, ep, hr, hs, hacc⟩ := dn_collected I g
  have hz : es.size ≤ sizeLine := by rw [hs]; exact g.1
  refine Calls.call_function_entry PyProof.Rows.kind_sorted PyProof.Rows.plain_sorted PyProof.Rows.entry_sorted (PyProof.Rows.args_sorted1 _) ?_
  unfold Builtin.«sorted»
  refine wpAny_bind (m := checkCount "sorted" 1 1 _) (wpAny_pure ?_)
  refine wpAny_bind (PySem.W.kdu_collect (A := X.A.in1) (KdlSrc.rawDict (es := es) (ep := ep) g.2.1) (I.ok.hd hc) hr hz fun h' tk acc hk ha => ?_)
  obtain ⟨ys, hv, hp⟩ := hacc acc ha
  have hps := hS ys hp
  have I1 : Inv X pins σ H { s with heap := h', toks := tk } := I.kept hk
  have hal : acc.toList.length ≤ sizeLine := by rw [Array.length_toList, ha.1]; exact hz
  refine wpAny_bind (wpAny_newList ?_ hal)
  have hoL : (h'.push (seqObj "list" acc.toList.toArray 0)).get? h'.objs.size = some (seqObj "list" acc.toList.toArray 0) := Heap.get?_push_size _ rfl
  show wpAny _ _ _ _ _ { s with heap := h'.push (seqObj "list" acc.toList.toArray 0), toks := tk }
  have old : ∀ b o, h'.get? b = some o → (sortingHeap (h'.push (seqObj "list" acc.toList.toArray 0)) h'.objs.size acc.toList).get? b = some o := fun b o e =>
    sortingHeap_old (Nat.ne_of_lt (Heap.lt_size e)) (Heap.get?_push_of_some _ e)
  have er : EachIs (fun v b => ∃ as, Reads (sortingHeap (h'.push (seqObj "list" acc.toList.toArray 0)) h'.objs.size acc.toList) v (enc b) as) acc.toList bs :=
    each_of (fun x b u hx hr => by
      obtain ⟨as, q⟩ := Dp.reads I1 _ _ _ (hD x b hx) hr
      exact ⟨as, PyProof.Rows.Reads.keeps old q⟩) hps hv
  refine wpAny_bind (wpAny_holding (wpAny_call_entry PyProof.Rows.slot_list_sort ⟨_, hoL, rfl⟩ PyProof.Rows.entry_list_sort
    (list_sort_vals (κ := dataKind (sortingHeap (h'.push (seqObj "list" acc.toList.toArray 0)) h'.objs.size acc.toList) (bs.map enc)) (s := { s with heap := h'.push (seqObj "list" acc.toList.toArray 0), toks := tk }) hoL
      (SortsAt.data (s := { s with heap := sortingHeap (h'.push (seqObj "list" acc.toList.toArray 0)) h'.objs.size acc.toList, toks := tk }) (each_map (R := fun v d => ∃ as, Reads (sortingHeap (h'.push (seqObj "list" acc.toList.toArray 0)) h'.objs.size acc.toList) v d as) enc er) al so (bound_map (A := X.A.in1.in1) (fun b hb => by
        have h1 := dp b hb
        show X.A.units + 1 + 1 + (enc b).depth < cLine
        omega))) hal ⟨.none, rfl, ?_⟩) (PyProof.Rows.args_list_sort _)))
  have hv2 : EachIs (fun u b => ∃ x, S x b ∧ RelV x u) (sortVals (dataKind (sortingHeap (h'.push (seqObj "list" acc.toList.toArray 0)) h'.objs.size acc.toList) (bs.map enc)) false acc.toList acc.toList) (bs.mergeSort (dataLe false enc)) :=
    sortVals_data false (each_of (fun x b u hx hr => ⟨x, hx, hr⟩) hps hv) er al
  obtain ⟨zs, hz1, hz2⟩ := each_back hv2
  obtain ⟨e', he'⟩ := PyProof.Rows.sortedHeap_at (vs := acc.toList) (out := (sortVals (dataKind (sortingHeap (h'.push (seqObj "list" acc.toList.toArray 0)) h'.objs.size acc.toList) (bs.map enc)) false acc.toList acc.toList).toArray) hoL
  have hlen : zs.length ≤ sizeLine := by rw [hz2.length, sortVals_length false rfl]; exact hal
  refine wpAny_pure ⟨_, rfl, .ref h'.objs.size, upd H h'.objs.size (.lst zs), I1.laid (t' := tk) (fun b u e => ?_) (Nat.le_refl _)
    (show ObjOk X.prog X.w _ _ _ (.lst zs) from ⟨hlen, _, e', hz2, he'⟩), rfl, q _ zs (I1.hok.fresh (Nat.le_refl _)) hz1⟩
  have hb : b < h'.objs.size := Heap.lt_size e
  rw [PyProof.Rows.sortedHeap_old (Nat.ne_of_lt hb) (by rw [size_push']; exact Nat.lt_succ_of_lt hb)]
  exact Heap.get?_push_of_some _ e
end

/-! ### text * int: some text -/
def rRepS : R2 := fun x y H Q => ∃ z k, x = .str z ∧ y = .int k ∧ 0 ≤ k ∧ k ≤ 1000 ∧ z.length ≤ 1000 ∧ Q (.str (Txt.mul z k)) H
theorem op_repS {X : Cx} : OpR X (binaryOp .Mult) rRepS := by
  intro pins s σ H x y v u Q I rx ry h
  obtain ⟨z, k, rfl, rfl, h0, h1, h2, q⟩ := h
  obtain ⟨t, rfl⟩ := rx
  obtain ⟨t', rfl⟩ := ry
  refine SB.mul ⟨?_, fun c _ => ?_, fun c _ => ?_⟩ fun t' tk => ⟨.str _, H, I.tok _, ⟨_, rfl⟩, q⟩
  · rw [decide_eq_false (by omega), decide_eq_false (by omega)]
    rfl
  · have hk : 0 < k := by omega
    have e : (1000 : Int) ≤ (2 ^ 63 - 1) / k := by
      rw [Int.le_ediv_iff_mul_le hk]
      omega
    omega
  · have e : z.length * k.toNat ≤ 1000 * 1000 := Nat.mul_le_mul h2 (by omega)
    unfold Builtin.Str.tooLong
    exact decide_eq_false (by rw [sizeLine_eq]; omega)

/-! ### zip(tuple, list) -/
def ItzM (K : PySem.W.Frag) (a b : Addr) : It :=
  ⟨fun i H => ∃ (xs ys : List V) (x y : V), SqT K H a xs ∧ SqL K H b ys ∧ xs[i]? = some x ∧ ys[i]? = some y,
    fun i H v H' => ∃ T x y, v = .ref T ∧ H T = none ∧ H' = upd H T (.tup [x, y]) ∧ (∀ xs, SqT K H a xs → xs[i]? = some x) ∧ ∀ ys, SqL K H b ys → ys[i]? = some y,
    fun i H => ∃ xs ys : List V, SqT K H a xs ∧ SqL K H b ys ∧ xs.length = i ∧ ys.length = i⟩
section
variable {P : Program} {w : World} {K : PySem.W.Frag} {elts : List Expr} {kk : Nat} {tpos : Pos} {a b : Addr} {N : Nat}
abbrev zfp (N : Nat) : List Addr := [N + 4, N + 2, N + 3, N, N + 1]
abbrev ztn (a b : Addr) (N : Nat) (i : Nat) (h : Heap) : Prop := IsZip h (N + 4) (N + 2) (N + 3) .none ∧ IsTupOf2 h (N + 2) (.ref N) (.ref (N + 1)) ∧ (∃ a1 a2, IsTupOf2 h (N + 3) a1 a2) ∧ h.IsTupleIter N a i ∧ h.IsListIter (N + 1) b i
theorem turn_zipM (ha : a < N) (hb : b < N) : Turn P w K (.Tuple elts kk tpos) (ItzM K a b) (zfp N) (N + 4) (ztn a b N) where
  mem := by simp [zfp]
  obj := fun i h st c hc => by
    obtain ⟨hz, hTI, ⟨x, y, hTO⟩, ⟨o1, e1, _, d1⟩, ⟨o2, e2, _, d2⟩⟩ := st
    have e' : c = N + 4 ∨ c = N + 2 ∨ c = N + 3 ∨ c = N ∨ c = N + 1 := by simpa [zfp] using hc
    rcases e' with q | q | q | q | q
    · rw [q]; exact ⟨_, hz, fun v z => nomatch z⟩
    · rw [q]; exact ⟨_, hTI, fun v z => nomatch z⟩
    · rw [q]; exact ⟨_, hTO, fun v z => nomatch z⟩
    · rw [q]; exact ⟨o1, e1, fun v z => by rw [d1] at z; cases z⟩
    · rw [q]; exact ⟨o2, e2, fun v z => by rw [d2] at z; cases z⟩
  keep := fun i h h' st k => by
    obtain ⟨hz, hTI, ⟨x, y, hTO⟩, h1, h2⟩ := st
    exact ⟨k _ (by simp [zfp]) _ hz, k _ (by simp [zfp]) _ hTI, ⟨x, y, k _ (by simp [zfp]) _ hTO⟩, h1.at fun o z => k _ (by simp [zfp]) o z, h2.at fun o z => k _ (by simp [zfp]) o z⟩
  item := by
    intro X hP hw hK hc i pins s σ H E I hf st hg
    subst hP hw hK
    obtain ⟨hz, hTI, hTO, h1, h2⟩ := st
    obtain ⟨xs, ys, x, y, hqx, hqy, hx, hy⟩ := hg
    obtain ⟨its, rv, p1, _⟩ := I.tuple hqx
    obtain ⟨its2, rv2, p2, _⟩ := I.list hqy
    obtain ⟨u, hu, ru⟩ := rv.get hx
    obtain ⟨u2, hu2, ru2⟩ := rv2.get hy
    have W := WalksT.zipD2 (prog := X.prog) (w := X.w) (A := X.A) (zip_sep2 (N := N) (fp1 := [a]) (fp2 := [b]) (by simpa using ha) (by simpa using hb))
      (Draws.tuple (prog := X.prog) (w := X.w) (A := X.A.in1) (I.ok.hd hc) N a (Nat.ne_of_lt ha) its.toArray) (Draws.list (prog := X.prog) (w := X.w) (A := X.A.in1) (I.ok.hd hc) (N + 1) b (show (b : Nat) ≠ N + 1 from Nat.ne_of_lt (Nat.lt_succ_of_lt hb)) its2.toArray)
    have l1 := (List.getElem?_eq_some_iff.mp hu).1
    have l2 := (List.getElem?_eq_some_iff.mp hu2).1
    refine W.item i s _ E (by rw [List.size_toArray, List.size_toArray]; omega) ⟨hz, hTI, hTO, ⟨h1, p1⟩, h2, p2.isList⟩ fun T vals h' tk hv hT hT2 mid hk => ?_
    obtain ⟨v1, v2, hv1, hv2, rfl⟩ := hv
    have e1 : v1 = u := by
      have z : its[i]? = some v1 := by simpa using hv1
      rw [hu] at z
      exact (Option.some.inj z).symm
    have e2 : v2 = u2 := by
      have z : its2[i]? = some v2 := by simpa using hv2
      rw [hu2] at z
      exact (Option.some.inj z).symm
    subst e1 e2
    have nT : T ∉ [N + 4, N + 3, N, N + 1] := W.apart i T h' mid
    refine ⟨_, rfl, W.go elts kk tpos i T { s with heap := h', toks := tk } _ E mid fun h'' st2 hk2 => ?_⟩
    have hT3 : h''.IsTuple T #[v1, v2] := hT2.at fun o z => hk2 T o nT z
    have new : ObjOk X.prog X.w (upd H T (.tup [x, y])) h'' T (.tup [x, y]) := ⟨by show 2 ≤ sizeLine; decide, [v1, v2], .cons ru (.cons ru2 .nil), hT3⟩
    have I1 : Inv X pins σ (upd H T (.tup [x, y])) { s with heap := h'', toks := tk } := I.turnedNew (t' := tk) (ch := zfp N) (fun c o hcn z => hk2 c o (fun q => hcn (by
        have q' : c = N + 4 ∨ c = N + 3 ∨ c = N ∨ c = N + 1 := by simpa using q
        rcases q' with q' | q' | q' | q' <;> simp [zfp, q'])) (hk c o (fun q => hcn (by
        have q' : c = N + 4 ∨ c = N + 3 ∨ c = N ∨ c = N + 1 := by simpa using q
        rcases q' with q' | q' | q' | q' <;> simp [zfp, q'])) z)) hf hT new
    obtain ⟨z1, z2, z3, z4, z5⟩ := st2
    refine ⟨.ref T, _, I1, rfl, ⟨T, x, y, rfl, I.hok.fresh hT, rfl, fun l hl => by rw [I.tuple_inj hl hqx]; exact hx, fun l hl => by rw [I.list_inj hl hqy]; exact hy⟩, ⟨z1, z2, z3, z4.1, z5.1⟩, fun c hcm => ?_⟩
    have hlt : c < s.heap.objs.size := by
      obtain ⟨o1, e1, _⟩ := h1
      obtain ⟨o2, e2, _⟩ := h2
      obtain ⟨_, _, hTO⟩ := hTO
      have e' : c = N + 4 ∨ c = N + 2 ∨ c = N + 3 ∨ c = N ∨ c = N + 1 := by simpa [zfp] using hcm
      rcases e' with q | q | q | q | q
      · rw [q]; exact Heap.lt_size hz
      · rw [q]; exact Heap.lt_size hTI
      · rw [q]; exact Heap.lt_size hTO
      · rw [q]; exact Heap.lt_size e1
      · rw [q]; exact Heap.lt_size e2
    rw [upd_ne (Nat.ne_of_lt (Nat.lt_of_lt_of_le hlt hT))]
    exact (hf c hcm).1
  done := by
    intro X hP hw hK hc i pins s σ H E I hf st hg
    subst hP hw hK
    obtain ⟨hz, hTI, hTO, h1, h2⟩ := st
    obtain ⟨xs, ys, hqx, hqy, hex, hey⟩ := hg
    obtain ⟨its, rv, p1, _⟩ := I.tuple hqx
    obtain ⟨its2, rv2, p2, _⟩ := I.list hqy
    have W := WalksT.zipD2 (prog := X.prog) (w := X.w) (A := X.A) (zip_sep2 (N := N) (fp1 := [a]) (fp2 := [b]) (by simpa using ha) (by simpa using hb))
      (Draws.tuple (prog := X.prog) (w := X.w) (A := X.A.in1) (I.ok.hd hc) N a (Nat.ne_of_lt ha) its.toArray) (Draws.list (prog := X.prog) (w := X.w) (A := X.A.in1) (I.ok.hd hc) (N + 1) b (show (b : Nat) ≠ N + 1 from Nat.ne_of_lt (Nat.lt_succ_of_lt hb)) its2.toArray)
    have l1 := rv.length
    have l2 := rv2.length
    have en : i = min its.toArray.size its2.toArray.size := by
      rw [List.size_toArray, List.size_toArray]
      omega
    rw [en] at h1 h2
    exact W.done s _ E ⟨hz, hTI, hTO, ⟨h1, p1⟩, h2, p2.isList⟩ fun h' tk hk => ⟨rfl, I.turnedL (t' := tk) (ch := zfp N) (fun c o hcn z => hk c o (fun q => hcn (by
        have q' : c = N + 4 ∨ c = N + 3 ∨ c = N ∨ c = N + 1 := by simpa using q
        rcases q' with q' | q' | q' | q' <;> simp [zfp, q'])) z) hf⟩
  self := fun A i s Q E st h => wpAny_pyIter_zip st.1 h
end
def iZipM (K : PySem.W.Frag) (ta : TA) : TI := fun σ H R => ta σ H fun vs H1 => ∃ a b xs ys, vs = [.ref a, .ref b] ∧ SqT K H1 a xs ∧ SqL K H1 b ys ∧ R (ItzM K a b) H1
theorem pi_zipM {X : Cx} {e e2 : Expr} {ta : TA} {p pos tpos : Pos} {elts : List Expr} {kk : Nat} (hg : Gl X "zip") (hm : X.mg "zip" = none) (ha : PA X [e, e2] ta)
    (hs : starEach [e, e2] X.env = (false, eval e X.env) :: starEach [e2] X.env := by rfl) (hpl : (backTo pos (starEach [e2] X.env)).any (·.1) = false := by rfl) :
    PI X (.Tuple elts kk tpos) (.Call (.Name "zip" p) [e, e2] [] pos) (iZipM X.K ta) := by
  refine ⟨fun pins s σ H R I h => ?_⟩
  refine Call_ (ld_blt I hg hm PyProof.Rows.boot_zip (PyProof.Rows.callWith_type1 (thn (ha.run pos pins s σ H _ I h) fun us s1 ⟨vs, H1, I1, r1, q1⟩ => ?_) hs hpl))
  obtain ⟨a, b, xs, ys, rfl, hqx, hqy, q⟩ := q1
  obtain ⟨u1, u2, rfl, ra, rb⟩ := vals2 r1
  obtain rfl : u1 = Value.ref a := ra
  obtain rfl : u2 = Value.ref b := rb
  obtain ⟨its, rv, p1, _⟩ := I1.tuple hqx
  obtain ⟨its2, rv2, p2, _⟩ := I1.list hqy
  obtain ⟨o1, ho1, _⟩ := id p1
  refine zip_begins2 (begins_tuple a its.toArray) (begins_list b its2.toArray) p1 p2.isList fun h' hz hTI hTO h1 h2 hsz hk => wpAny_pyIter_zip hz ?_
  have I2 : Inv X pins σ H1 { s1 with heap := h' } := I1.kept (t' := s1.toks) hk
  refine ⟨s1.heap.objs.size + 4, zfp s1.heap.objs.size, ztn a b s1.heap.objs.size, _, H1, rfl, I2, turn_zipM (Heap.lt_size ho1) p2.lt, ⟨hz, hTI, ⟨_, _, hTO⟩, ⟨_, h1, rfl, rfl⟩, ⟨_, h2, rfl, rfl⟩⟩, fun c hcm => ?_, q⟩
  have hle : s1.heap.objs.size ≤ c := by
    have e' : c = s1.heap.objs.size + 4 ∨ c = s1.heap.objs.size + 2 ∨ c = s1.heap.objs.size + 3 ∨ c = s1.heap.objs.size ∨ c = s1.heap.objs.size + 1 := by simpa [zfp] using hcm
    rcases e' with z | z | z | z | z
    · rw [z]; exact Nat.le_add_right _ _
    · rw [z]; exact Nat.le_add_right _ _
    · rw [z]; exact Nat.le_add_right _ _
    · rw [z]; exact Nat.le_refl _
    · rw [z]; exact Nat.le_add_right _ _
  exact I1.fpOk hle (I1.hok.fresh hle)
theorem walk_zipM {K : PySem.W.Frag} {a b : Addr} {xs ys : List V} {n : Nat} (h1 : xs.length = n) (h2 : ys.length = n) : L2.Walk (ItzM K a b) n (fun H => SqT K H a xs ∧ SqL K H b ys) (YPair (fun i => xs[i]?) (fun i => ys[i]?)) := by
  refine ⟨fun i _ hi q => ?_, fun _ q => ⟨xs, ys, q.1, q.2, h1, h2⟩, fun i H v H' _ q y => ?_⟩
  · exact ⟨xs, ys, xs[i]'(by omega), ys[i]'(by omega), q.1, q.2, List.getElem?_eq_getElem _, List.getElem?_eq_getElem _⟩
  · obtain ⟨T, x, z, e1, e2, e3, e4, e5⟩ := y
    exact ⟨T, x, z, e1, e2, e3, e4 xs q.1, e5 ys q.2⟩

/-! ### dict(pairs), the keys nested tuples, all of them unlike -/
/-- the list's items are pairs of keys ks and the value v -/
def IsKeyPair (H : Hp) (v : V) (x : V) (k : NestedKey) : Prop := ∃ t b, x = V.ref t ∧ H t = some (.tup [V.ref b, v]) ∧ NK H k b
def rNDict (K : PySem.W.Frag) (P : Program) (w : World) : List V → Hp → VK → Prop := fun xs H Q => ∃ (l : Addr) (vs : List V) (ks : List NestedKey) (v : V), xs = [.ref l] ∧ SqL K H l vs ∧ Paired (IsKeyPair H v) vs ks ∧ ks.Nodup ∧
  ∀ p φ, H p = none → DN P w (upd H p (.ext φ)) p (ks.map fun k => (k, v)) → Q (.ref p) (upd H p (.ext φ))
theorem storedAll_nodup {K : Type} [DecidableEq K] : ∀ (more xs : List (K × Addr × Value)), ((xs ++ more).map (·.1)).Nodup → storedAllH xs more = xs ++ more
  | [], xs, _ => (List.append_nil xs).symm
  | p :: r, xs, h => by
    have hn : atKey xs p.1 = none := by
      unfold atKey
      rw [Option.map_eq_none_iff, List.find?_eq_none]
      intro x hx
      rw [decide_eq_true_eq]
      intro e
      rw [List.map_append, List.nodup_append] at h
      exact h.2.2 x.1 (List.mem_map.mpr ⟨x, hx, rfl⟩) p.1 (List.mem_map.mpr ⟨p, List.mem_cons_self, rfl⟩) e
    show storedAllH (storedH xs p.1 p.2.1 p.2.2) r = _
    rw [storedH_new hn, storedAll_nodup r (xs ++ [p]) (by rw [List.append_assoc]; exact h), List.append_assoc]
    rfl
theorem call_ndict {X : Cx} (hc : X.calm = true) (hu : X.A.units + 64 < cLine) : CallR X (.type "dict") (rNDict X.K X.prog X.w) := by
  intro pins s σ H xs us Q I r h
  obtain ⟨l, vs, ks, v, rfl, hs, hp, hn, q⟩ := h
  obtain ⟨u, rfl, ru⟩ := vals1 r
  obtain rfl : u = Value.ref l := ru
  obtain ⟨its, rv, hl, hz⟩ := I.list hs
  -- the raw pairs
  have raw : ∀ {vs : List V} {ks : List NestedKey} {its : List Value}, Paired (IsKeyPair H v) vs ks → Vals vs its →
      ∃ ps : List (NestedKey × Addr × Addr × Value), ps.length = its.length ∧ ps.map (·.1) = ks ∧ (∀ (j : Nat) (p : NestedKey × Addr × Addr × Value), ps[j]? = some p → its[j]? = some (Value.ref p.2.1) ∧ PairAt s.heap p.2.1 (.ref p.2.2.1) p.2.2.2 ∧ NK H p.1 p.2.2.1 ∧ RelV v p.2.2.2) := by
    intro vs ks its hp
    induction hp generalizing its with
    | nil => intro r; cases r; exact ⟨[], rfl, rfl, fun j p h => by simp at h⟩
    | cons hk _ ih =>
      intro r
      cases r with
      | cons r1 r2 =>
        obtain ⟨t, b, rfl, ht, nk⟩ := hk
        cases r1
        obtain ⟨_, its2, rv2, itp⟩ := (show ObjOk X.prog X.w H s.heap t (.tup [.ref b, v]) from I.hok t _ ht)
        obtain ⟨u1, u2, rfl, ra, rb⟩ := vals2 rv2
        obtain rfl : u1 = Value.ref b := ra
        obtain ⟨ps, h1, h2, h3⟩ := ih r2
        refine ⟨(_, t, b, u2) :: ps, by rw [List.length_cons, List.length_cons, h1], by rw [List.map_cons, h2], fun j p hj => ?_⟩
        cases j with
        | zero =>
          have e := Option.some.inj hj
          subst e
          exact ⟨rfl, .inl itp, nk, rb⟩
        | succ j => exact h3 j p (by simpa using hj)
  obtain ⟨ps, h1, h2, h3⟩ := raw hp rv
  have hlen : ps.length ≤ sizeLine := by rw [h1, ← rv.length]; exact hz
  let Ts : Nat → Addr := fun j => (ps.getD j (.none, 0, 0, .none)).2.1
  have hTs : ∀ j p, ps[j]? = some p → Ts j = p.2.1 := fun j p e => by
    show (ps.getD j _).2.1 = _
    rw [List.getD_eq_getElem?_getD, e]
    rfl
  have PA := PairArg.list (prog := X.prog) (w := X.w) l its.toArray Ts (ps.map fun p => (Value.ref p.2.2.1, p.2.2.2))
  have hpl : (ps.map fun p => (Value.ref p.2.2.1, p.2.2.2)).length = ps.length := List.length_map _
  have hok : PlainSeq "list" s.heap l its.toArray ∧ PairItems s.heap its.toArray Ts (ps.map fun p => (Value.ref p.2.2.1, p.2.2.2)) := by
    obtain ⟨o, n, e, c, d, dd⟩ := hl
    refine ⟨⟨o, n, e, c, d, dd⟩, by rw [hpl, List.size_toArray, h1], fun j k x hj => ?_⟩
    rw [List.getElem?_map] at hj
    obtain ⟨p, hp1, hp2⟩ := Option.map_eq_some_iff.mp hj
    injection hp2 with e1 e2
    subst e1 e2
    obtain ⟨g1, g2, _⟩ := h3 j p hp1
    rw [hTs j p hp1]
    exact ⟨by simpa using g1, g2⟩
  let qs : List (NestedKey × Addr × Value) := ps.map fun p => (p.1, p.2.2.1, p.2.2.2)
  have hq1 : qs.map (·.1) = ks := by
    show (ps.map _).map _ = ks
    rw [List.map_map, ← h2]
    rfl
  have hpk : PairsHaveH (nestedKind X.prog X.w) (ps.map fun p => (Value.ref p.2.2.1, p.2.2.2)).length (PairRel (ps.map fun p => (Value.ref p.2.2.1, p.2.2.2))) qs := by
    refine ⟨by show (ps.map _).length = _; rw [List.length_map, List.length_map], fun i key x hi => ?_⟩
    have hi' : (ps.map fun p => (Value.ref p.2.2.1, p.2.2.2))[i]? = some (key, x) := hi
    rw [List.getElem?_map] at hi'
    obtain ⟨p, hp1, hp2⟩ := Option.map_eq_some_iff.mp hi'
    injection hp2 with e1 e2
    subst e1 e2
    exact ⟨p.1, p.2.2.1, by show (ps.map _)[i]? = _; rw [List.getElem?_map, hp1]; rfl, rfl⟩
  have hnk : ∀ x ∈ qs, NK H x.1 x.2.1 := fun x hx => by
    obtain ⟨p, hp1, rfl⟩ := List.mem_map.mp hx
    obtain ⟨j, hj⟩ := List.mem_iff_getElem?.mp hp1
    exact (h3 j p hj).2.2.1
  have hkv : KV (ks.map fun k => (k, v)) (pairsH qs) := by
    have go : ∀ l : List (NestedKey × Addr × Addr × Value), (∀ p ∈ l, RelV v p.2.2.2) → KV ((l.map (·.1)).map fun k => (k, v)) (pairsH (l.map fun p => (p.1, p.2.2.1, p.2.2.2))) := by
      intro l
      induction l with
      | nil => intro _; exact .nil
      | cons p r ih => intro h; exact .cons ⟨rfl, h p List.mem_cons_self⟩ (ih fun q hq => h q (List.mem_cons_of_mem _ hq))
    have z := go ps fun p hp1 => by
      obtain ⟨j, hj⟩ := List.mem_iff_getElem?.mp hp1
      exact (h3 j p hj).2.2.2
    rw [h2] at z
    exact z
  refine call_dict_pairsH (knd := nestedKind X.prog X.w) PA (I.ok.hd hc) (by show X.A.units + 1 + 1 + 8 < cLine; omega) hok hpk (fun h' hk x hx => ?_) (by rw [hpl]; exact hlen) fun h' tk hd hk => ?_
  · exact nestedKind_stays.stays (fun b o vs n e _ => hk b o (Nat.ne_of_lt (Heap.lt_size e)) (fun z => nomatch z) e) ((hnk x hx).real I.hok)
  rw [storedAll_nodup _ [] (by rw [List.nil_append, hq1]; exact hn), List.nil_append] at hd
  obtain ⟨o, es, ep, g1, g2, g3, g4, g5, g6⟩ := hd
  have raw : rawN X.prog X.w s.heap.objs.size qs h' := ⟨o, es, ep, g1, g2, g3, g4⟩
  have hfree := I.hok.fresh (Nat.le_refl s.heap.objs.size)
  refine ⟨.ref s.heap.objs.size, _, I.laid (t' := tk) (o := .ext (rawN X.prog X.w s.heap.objs.size qs)) (fun b o e => hk b o (fun z => nomatch z) e) (Nat.le_refl _) (rawN_ok raw), rfl, q _ _ hfree ?_⟩
  refine ⟨?_, beq_eq_false_iff_ne.mpr (Ne.symm (Nat.ne_of_lt I.big)), ?_, qs, ⟨hkv, fun x hx => (hnk x hx).tk (TK.same (same_new hfree _))⟩, upd_same⟩
  · rw [List.length_map, ← hq1, List.length_map]
    show (ps.map _).length ≤ _
    rw [List.length_map]
    exact hlen
  · rw [List.map_map]
    have e : ((fun x : NestedKey × V => x.1) ∘ fun k => (k, v)) = id := rfl
    rw [e, List.map_id]
    exact hn
end Hm
end

section
set_option Elab.async false
set_option linter.all false
set_option maxRecDepth 100000
set_option maxHeartbeats 4000000
/-! What stands in the abstract heap for the data of HmMath. -/
namespace Hm
open PySem L2

/-! ### lists of things, side by side -/
section
variable {α β : Type} {F G : α → β → Prop}
theorem paired_get {xs : List α} {ys : List β} (h : Paired F xs ys) : ∀ {i : Nat} {y : β}, ys[i]? = some y → ∃ x, xs[i]? = some x ∧ F x y := by
  induction h with
  | nil => intro i y e; simp at e
  | cons a b ih =>
    intro i y e
    cases i with
    | zero => cases e; exact ⟨_, rfl, a⟩
    | succ i => exact ih (by simpa using e)
theorem paired_getl {xs : List α} {ys : List β} (h : Paired F xs ys) : ∀ {i : Nat} {x : α}, xs[i]? = some x → ∃ y, ys[i]? = some y ∧ F x y := by
  induction h with
  | nil => intro i y e; simp at e
  | cons a b ih =>
    intro i y e
    cases i with
    | zero => cases e; exact ⟨_, rfl, a⟩
    | succ i => exact ih (by simpa using e)
theorem paired_app {xs xs' : List α} {ys ys' : List β} (h : Paired F xs ys) (h' : Paired F xs' ys') : Paired F (xs ++ xs') (ys ++ ys') := by
  induction h with
  | nil => exact h'
  | cons a b ih => exact .cons a ih
theorem paired_set {xs : List α} {ys : List β} (h : Paired F xs ys) : ∀ (i : Nat) {x : α} {y : β}, F x y → Paired F (xs.set i x) (ys.set i y) := by
  induction h with
  | nil => intro i x y _; exact .nil
  | cons a b ih =>
    intro i x y e
    cases i with
    | zero => exact .cons e b
    | succ i => exact .cons a (ih i e)
theorem paired_map {γ : Type} {f : γ → β} {xs : List α} {zs : List γ} (h : Paired (fun x z => F x (f z)) xs zs) : Paired F xs (zs.map f) := by
  induction h with
  | nil => exact .nil
  | cons a b ih => exact .cons a ih
theorem paired_map' {γ : Type} {f : γ → β} : ∀ {xs : List α} {zs : List γ}, Paired F xs (zs.map f) → Paired (fun x z => F x (f z)) xs zs
  | _, [], h => by cases h; exact .nil
  | _, z :: zs, h => by
    rw [List.map_cons] at h
    cases h with
    | cons a b => exact .cons a (paired_map' b)
theorem paired_imp {xs : List α} {ys : List β} (h : Paired F xs ys) (k : ∀ x y, y ∈ ys → F x y → G x y) : Paired G xs ys := by
  induction h with
  | nil => exact .nil
  | cons a b ih => exact .cons (k _ _ List.mem_cons_self a) (ih fun x y hy => k x y (List.mem_cons_of_mem _ hy))
theorem paired_drop {xs : List α} {ys : List β} (h : Paired F xs ys) : ∀ n : Nat, Paired F (xs.drop n) (ys.drop n) := by
  induction h with
  | nil => intro n; rw [List.drop_nil, List.drop_nil]; exact .nil
  | cons a b ih =>
    intro n
    cases n with
    | zero => exact .cons a b
    | succ n => exact ih n
end

/-! ### predicates of a value and its datum; how they last -/
abbrev Rp (α : Type) := Hp → V → α → Prop
/-- it lasts while all that is tracked stands -/
def Mono {α : Type} (R : Rp α) : Prop := ∀ (H H' : Hp) (v : V) (x : α), Same H H' → R H v x → R H' v x
/-- it lasts while the tuples stand -/
def TMono {α : Type} (R : Rp α) : Prop := ∀ (H H' : Hp) (v : V) (x : α), TK H H' → R H v x → R H' v x
theorem TMono.mono {α : Type} {R : Rp α} (h : TMono R) : Mono R := fun H H' v x s r => h H H' v x (TK.same s) r
def LstOf {α : Type} (R : Rp α) : Rp (List α) := fun H v xs => ∃ a vs, v = .ref a ∧ H a = some (.lst vs) ∧ Paired (R H) vs xs
theorem LstOf.mono {α : Type} {R : Rp α} (m : Mono R) : Mono (LstOf R) := fun H H' v x s r => by
  obtain ⟨a, vs, e, h, p⟩ := r
  exact ⟨a, vs, e, s _ _ h, paired_imp p fun x y _ q => m H H' x y s q⟩
theorem paired_mono {α : Type} {R : Rp α} (m : Mono R) {H H' : Hp} (s : Same H H') {vs : List V} {xs : List α} (p : Paired (R H) vs xs) : Paired (R H') vs xs := paired_imp p fun x y _ q => m H H' x y s q
theorem paired_tmono {α : Type} {R : Rp α} (m : TMono R) {H H' : Hp} (s : TK H H') {vs : List V} {xs : List α} (p : Paired (R H) vs xs) : Paired (R H') vs xs := paired_imp p fun x y _ q => m H H' x y s q

def IsSt : Rp Stand := fun H v s => ∃ a, v = .ref a ∧ H a = some (.tup (s.map V.int))
inductive IsSm (H : Hp) : V → Sm → Prop
  | num {a : Addr} {n : Int} : H a = some (.tup [.str "number", .int n]) → IsSm H (.ref a) (.num n)
  | box {a : Addr} {k : Nat} : H a = some (.tup [.str "box", .int (k : Int)]) → IsSm H (.ref a) (.box k)
  | plus {a : Addr} {x y : V} {p q : Sm} : H a = some (.tup [.str "plus", x, y]) → IsSm H x p → IsSm H y q → IsSm H (.ref a) (.plus p q)
  | minus {a : Addr} {x y : V} {p q : Sm} : H a = some (.tup [.str "minus", x, y]) → IsSm H x p → IsSm H y q → IsSm H (.ref a) (.minus p q)
inductive IsCd (H : Hp) : V → Cd → Prop
  | yes {a : Addr} : H a = some (.tup [.str "yes"]) → IsCd H (.ref a) .yes
  | is {a : Addr} {x y : V} {p q : Sm} : H a = some (.tup [.str "is", x, y]) → IsSm H x p → IsSm H y q → IsCd H (.ref a) (.is p q)
  | less {a : Addr} {x y : V} {p q : Sm} : H a = some (.tup [.str "less", x, y]) → IsSm H x p → IsSm H y q → IsCd H (.ref a) (.less p q)
  | not {a : Addr} {x : V} {p : Cd} : H a = some (.tup [.str "not", x]) → IsCd H x p → IsCd H (.ref a) (.not p)
  | both {a : Addr} {x y : V} {p q : Cd} : H a = some (.tup [.str "both", x, y]) → IsCd H x p → IsCd H y q → IsCd H (.ref a) (.both p q)
  | either {a : Addr} {x y : V} {p q : Cd} : H a = some (.tup [.str "either", x, y]) → IsCd H x p → IsCd H y q → IsCd H (.ref a) (.either p q)
def IsPut : Rp (Nat × Sm) := fun H v p => ∃ a x, v = .ref a ∧ H a = some (.tup [.int (p.1 : Int), x]) ∧ IsSm H x p.2
def IsWay : Rp Way := fun H v w => ∃ a g p ps, v = .ref a ∧ H a = some (.tup [g, .ref p, .int (w.nx : Int)]) ∧ IsCd H g w.guard ∧ H p = some (.tup ps) ∧ Paired (IsPut H) ps w.puts
abbrev IsRow : Rp (List Way) := LstOf IsWay
abbrev IsHand : Rp Hand := LstOf IsRow
def IsBox : Rp Int := fun H v t => ∃ a nm, v = .ref a ∧ H a = some (.tup [.str nm, .int t])
abbrev IsBoxes : Rp (List Int) := LstOf IsBox
abbrev IsSts : Rp (List Stand) := LstOf IsSt
abbrev IsPaper : Rp (List (List Stand)) := LstOf IsSts
def IsStep : Rp Step := fun H v q => ∃ a x y, v = .ref a ∧ H a = some (.tup [x, y]) ∧ IsSt H x q.1 ∧ IsSt H y q.2
abbrev IsSteps : Rp (List Step) := LstOf IsStep
abbrev IsOthers : Rp (List (List Step)) := LstOf IsSteps
abbrev IsNotes : Rp (List Cd) := LstOf IsCd
def IsSpot : Rp Spot := fun H v q => ∃ a y, v = .ref a ∧ H a = some (.tup [.int (q.1 : Int), y]) ∧ IsSt H y q.2
abbrev IsSpots : Rp (List Spot) := LstOf IsSpot
def IsNat : Rp Nat := fun _ v n => v = .int (n : Int)

theorem st_tm : TMono IsSt := fun H H' v x t ⟨a, e, h⟩ => ⟨a, e, t _ _ h⟩
theorem sm_tm : TMono IsSm := fun H H' v x t h => by
  induction h with
  | num h => exact .num (t _ _ h)
  | box h => exact .box (t _ _ h)
  | plus h _ _ i j => exact .plus (t _ _ h) i j
  | minus h _ _ i j => exact .minus (t _ _ h) i j
theorem cd_tm : TMono IsCd := fun H H' v x t h => by
  induction h with
  | yes h => exact .yes (t _ _ h)
  | is h i j => exact .is (t _ _ h) (sm_tm _ _ _ _ t i) (sm_tm _ _ _ _ t j)
  | less h i j => exact .less (t _ _ h) (sm_tm _ _ _ _ t i) (sm_tm _ _ _ _ t j)
  | not h _ i => exact .not (t _ _ h) i
  | both h _ _ i j => exact .both (t _ _ h) i j
  | either h _ _ i j => exact .either (t _ _ h) i j
theorem put_tm : TMono IsPut := fun H H' v x t ⟨a, y, e, h, i⟩ => ⟨a, y, e, t _ _ h, sm_tm _ _ _ _ t i⟩
theorem way_tm : TMono IsWay := fun H H' v x t ⟨a, g, p, ps, e, h, i, j, k⟩ => ⟨a, g, p, ps, e, t _ _ h, cd_tm _ _ _ _ t i, t _ _ j, paired_tmono put_tm t k⟩
theorem box_tm : TMono IsBox := fun H H' v x t ⟨a, n, e, h⟩ => ⟨a, n, e, t _ _ h⟩
theorem step_tm : TMono IsStep := fun H H' v x t ⟨a, y, z, e, h, i, j⟩ => ⟨a, y, z, e, t _ _ h, st_tm _ _ _ _ t i, st_tm _ _ _ _ t j⟩
theorem spot_tm : TMono IsSpot := fun H H' v x t ⟨a, y, e, h, i⟩ => ⟨a, y, e, t _ _ h, st_tm _ _ _ _ t i⟩
theorem row_m : Mono IsRow := LstOf.mono way_tm.mono
theorem hand_m : Mono IsHand := LstOf.mono row_m
theorem boxes_m : Mono IsBoxes := LstOf.mono box_tm.mono
theorem sts_m : Mono IsSts := LstOf.mono st_tm.mono
theorem paper_m : Mono IsPaper := LstOf.mono sts_m
theorem steps_m : Mono IsSteps := LstOf.mono step_tm.mono
theorem others_m : Mono IsOthers := LstOf.mono steps_m
theorem notes_m : Mono IsNotes := LstOf.mono cd_tm.mono
theorem spots_m : Mono IsSpots := LstOf.mono spot_tm.mono
theorem nat_m : Mono IsNat := fun _ _ _ _ _ h => h

/-- an item of such a list -/
theorem LstOf.item {α : Type} {R : Rp α} {H : Hp} {a : Addr} {xs : List α} (h : LstOf R H (.ref a) xs) {i : Nat} {x : α} (e : xs[i]? = some x) : ∃ vs u, H a = some (.lst vs) ∧ vs.length = xs.length ∧ vs[i]? = some u ∧ R H u x := by
  obtain ⟨b, vs, eb, hb, p⟩ := h
  cases eb
  obtain ⟨u, h1, h2⟩ := paired_get p e
  exact ⟨vs, u, hb, p.length, h1, h2⟩

/-! ### as keys -/
def kSt (s : Stand) : NestedKey := .tup (s.map .num)
def kStep (q : Step) : NestedKey := .tup [kSt q.1, kSt q.2]
def kSpot (q : Spot) : NestedKey := .tup [.num (q.1 : Int), kSt q.2]
theorem kSt_inj {s t : Stand} (h : kSt s = kSt t) : s = t := by
  unfold kSt at h
  injection h with h
  induction s generalizing t with
  | nil => cases t with
    | nil => rfl
    | cons _ _ => simp at h
  | cons x s ih => cases t with
    | nil => simp at h
    | cons y t =>
      rw [List.map_cons, List.map_cons] at h
      injection h with h1 h2
      injection h1 with h1
      rw [h1, ih h2]
theorem kStep_inj {p q : Step} (h : kStep p = kStep q) : p = q := by
  unfold kStep at h
  injection h with h
  injection h with h1 h2
  injection h2 with h2 _
  exact Prod.ext (kSt_inj h1) (kSt_inj h2)
theorem kSpot_inj {p q : Spot} (h : kSpot p = kSpot q) : p = q := by
  unfold kSpot at h
  injection h with h
  injection h with h1 h2
  injection h2 with h2 _
  injection h1 with h1
  exact Prod.ext (by omega) (kSt_inj h2)
theorem depth_nums : ∀ s : Stand, NestedKey.depthAll (s.map .num) = 0
  | [] => rfl
  | x :: s => by
    show max (NestedKey.depth (.num x)) (NestedKey.depthAll (s.map .num)) = 0
    rw [depth_nums s]
    rfl
theorem kSt_depth (s : Stand) : (kSt s).depth = 1 := by
  show NestedKey.depthAll (s.map .num) + 1 = 1
  rw [depth_nums]
theorem nall_nums (H : Hp) : ∀ s : Stand, NAll H (s.map .num) (s.map V.int)
  | [] => .nil
  | x :: s => .cons (.num x) (nall_nums H s)
theorem nis_st {H : Hp} {v : V} {s : Stand} (h : IsSt H v s) : NIs H (kSt s) v := by
  obtain ⟨a, rfl, e⟩ := h
  exact .tup e (nall_nums H s)
theorem key_st {H : Hp} {a : Addr} {s : Stand} (h : IsSt H (.ref a) s) : NK H (kSt s) a := ⟨nis_st h, by rw [kSt_depth]; decide⟩
theorem key_pair {H : Hp} {a : Addr} {x y : V} {p : Step} (e : H a = some (.tup [x, y])) (hx : IsSt H x p.1) (hy : IsSt H y p.2) : NK H (kStep p) a :=
  ⟨.tup e (.cons (nis_st hx) (.cons (nis_st hy) .nil)), by
    show max (kSt p.1).depth (max (kSt p.2).depth 0) + 1 ≤ 8
    rw [kSt_depth, kSt_depth]
    decide⟩
theorem key_step {H : Hp} {a : Addr} {p : Step} (h : IsStep H (.ref a) p) : NK H (kStep p) a := by
  obtain ⟨b, x, y, e, h1, h2, h3⟩ := h
  cases e
  exact key_pair h1 h2 h3
theorem key_place {H : Hp} {a : Addr} {y : V} {p : Spot} (e : H a = some (.tup [.int (p.1 : Int), y])) (hy : IsSt H y p.2) : NK H (kSpot p) a :=
  ⟨.tup e (.cons (.num _) (.cons (nis_st hy) .nil)), by
    show max 0 (max (kSt p.2).depth 0) + 1 ≤ 8
    rw [kSt_depth]
    decide⟩
theorem key_spot {H : Hp} {a : Addr} {p : Spot} (h : IsSpot H (.ref a) p) : NK H (kSpot p) a := by
  obtain ⟨b, y, e, h1, h2⟩ := h
  cases e
  exact key_place h1 h2

/-! ### as data -/
def dSt (s : Stand) : PyData := .tuple (s.map .int)
def dStep (q : Step) : PyData := .tuple [dSt q.1, dSt q.2]
def dSpot (q : Spot) : PyData := .tuple [.int (q.1 : Int), dSt q.2]
theorem dpAll_ints (K : PySem.W.Frag) (H : Hp) : ∀ s : Stand, DpAll K H (s.map V.int) (s.map .int)
  | [] => .nil
  | x :: s => .cons (.int x) (dpAll_ints K H s)
section
variable {K : PySem.W.Frag} {H : Hp} {v : V}
theorem dp_st {s : Stand} (h : IsSt H v s) : Dp K H v (dSt s) := by
  obtain ⟨a, rfl, e⟩ := h
  exact .tup (SqT.of e) (dpAll_ints K H s)
theorem dp_step {q : Step} (h : IsStep H v q) : Dp K H v (dStep q) := by
  obtain ⟨a, x, y, rfl, e, h1, h2⟩ := h
  exact .tup (SqT.of e) (.cons (dp_st h1) (.cons (dp_st h2) .nil))
theorem dp_spot {q : Spot} (h : IsSpot H v q) : Dp K H v (dSpot q) := by
  obtain ⟨a, y, rfl, e, h2⟩ := h
  exact .tup (SqT.of e) (.cons (.int _) (.cons (dp_st h2) .nil))
theorem dp_all {α : Type} {R : Rp α} {enc : α → PyData} (hR : ∀ v x, R H v x → Dp K H v (enc x)) : ∀ {vs : List V} {xs : List α}, Paired (R H) vs xs → DpAll K H vs (xs.map enc)
  | _, _, .nil => .nil
  | _, _, .cons h t => .cons (hR _ _ h) (dp_all hR t)
theorem dp_lst {α : Type} {R : Rp α} {enc : α → PyData} (hR : ∀ v x, R H v x → Dp K H v (enc x)) {xs : List α} (h : LstOf R H v xs) : Dp K H v (.list (xs.map enc)) := by
  obtain ⟨a, vs, rfl, e, p⟩ := h
  exact .lst (SqL.of e) (dp_all hR p)
end
theorem eqvAll_ints : ∀ s t : Stand, PyData.eqvAll (s.map .int) (t.map .int) = decide (s = t)
  | [], [] => by simp [PyData.eqvAll]
  | [], y :: t => by simp [PyData.eqvAll]
  | x :: s, [] => by simp [PyData.eqvAll]
  | x :: s, y :: t => by
    rw [List.map_cons, List.map_cons, PyData.eqvAll, eqvAll_ints s t, PyData.eqv]
    by_cases h : x = y
    · subst h
      simp
    · have e : (x == y) = false := beq_eq_false_iff_ne.mpr h
      rw [e, Bool.false_and]
      exact (decide_eq_false fun q => h (List.cons.inj q).1).symm
theorem eqv_st (s t : Stand) : PyData.eqv (dSt s) (dSt t) = decide (s = t) := by
  unfold dSt
  rw [PyData.eqv, eqvAll_ints]
theorem eqv_step (p q : Step) : PyData.eqv (dStep p) (dStep q) = decide (p = q) := by
  unfold dStep
  rw [PyData.eqv, PyData.eqvAll, PyData.eqvAll, PyData.eqvAll, eqv_st, eqv_st]
  obtain ⟨a, b⟩ := p
  obtain ⟨c, d⟩ := q
  by_cases h1 : a = c <;> by_cases h2 : b = d <;> simp [h1, h2]
theorem eqv_spot (p q : Spot) : PyData.eqv (dSpot p) (dSpot q) = decide (p = q) := by
  unfold dSpot
  rw [PyData.eqv, PyData.eqvAll, PyData.eqvAll, PyData.eqvAll, eqv_st, PyData.eqv]
  obtain ⟨a, b⟩ := p
  obtain ⟨c, d⟩ := q
  by_cases h1 : a = c
  · subst h1
    by_cases h2 : b = d <;> simp [h2]
  · have e : ((a : Int) == (c : Int)) = false := beq_eq_false_iff_ne.mpr (by omega)
    show ((a : Int) == (c : Int) && _) = _
    rw [e, Bool.false_and]
    exact (decide_eq_false fun q => h1 (Prod.mk.inj q).1).symm
theorem depth_ints (s : Stand) : PyData.depthAll (s.map .int) = 0 := PySem.W.depth_ints s
theorem lay_ints : ∀ s : Stand, PyData.canLayAll0 (s.map .int) = true
  | [] => by simp [PyData.canLayAll0]
  | x :: s => by simp [PyData.canLayAll0, PyData.canLay0, lay_ints s]
theorem depth_st (s : Stand) : (dSt s).depth = 1 := by simp [dSt, PyData.depth, depth_ints]
theorem depth_step (q : Step) : (dStep q).depth = 2 := by simp [dStep, PyData.depth, PyData.depthAll, depth_st]
theorem depth_spot (q : Spot) : (dSpot q).depth = 2 := by simp [dSpot, PyData.depth, PyData.depthAll, depth_st]
theorem lay_st (s : Stand) : (dSt s).canLay0 = true := by simp [dSt, PyData.canLay0, lay_ints]
theorem lay_step (q : Step) : (dStep q).canLay0 = true := by simp [dStep, PyData.canLay0, PyData.canLayAll0, lay_st]
theorem lay_spot (q : Spot) : (dSpot q).canLay0 = true := by simp [dSpot, PyData.canLay0, PyData.canLayAll0, lay_st]
theorem shaped_of {d : PyData} (h1 : d.canLay0 = true) (h2 : d.depth ≤ 64) : SeqAt.shaped d = true := by
  show (d.canLay0 && decide (d.depth ≤ 64)) = true
  rw [h1, decide_eq_true h2]
  rfl
theorem shaped_st (s : Stand) : SeqAt.shaped (dSt s) = true := shaped_of (lay_st s) (by rw [depth_st]; decide)
theorem shaped_step (q : Step) : SeqAt.shaped (dStep q) = true := shaped_of (lay_step q) (by rw [depth_step]; decide)
theorem shaped_spot (q : Spot) : SeqAt.shaped (dSpot q) = true := shaped_of (lay_spot q) (by rw [depth_spot]; decide)
theorem layAll {α : Type} {enc : α → PyData} (h : ∀ x, (enc x).canLay0 = true) : ∀ xs : List α, PyData.canLayAll0 (xs.map enc) = true
  | [] => by simp [PyData.canLayAll0]
  | x :: xs => by simp [PyData.canLayAll0, h x, layAll h xs]
theorem depthAll_le {α : Type} {enc : α → PyData} {n : Nat} (h : ∀ x, (enc x).depth ≤ n) : ∀ xs : List α, PyData.depthAll (xs.map enc) ≤ n
  | [] => by simp [PyData.depthAll]
  | x :: xs => by
    have h1 := h x
    have h2 := depthAll_le h xs
    simp only [List.map_cons, PyData.depthAll]
    omega
theorem shaped_lst {α : Type} {enc : α → PyData} (h1 : ∀ x, (enc x).canLay0 = true) (h2 : ∀ x, (enc x).depth ≤ 8) (xs : List α) : SeqAt.shaped (.list (xs.map enc)) = true :=
  shaped_of (by simp only [PyData.canLay0]; exact layAll h1 xs) (by have := depthAll_le h2 xs; simp only [PyData.depth]; omega)
theorem any_eqv {α : Type} [DecidableEq α] {enc : α → PyData} (h : ∀ x y, PyData.eqv (enc x) (enc y) = decide (x = y)) (xs : List α) (y : α) : ((xs.map enc).any fun z => PyData.eqv z (enc y)) = decide (y ∈ xs) := by
  induction xs with
  | nil => simp
  | cons x xs ih =>
    rw [List.map_cons, List.any_cons, ih, h]
    by_cases c : x = y
    · subst c
      simp
    · rw [decide_eq_false c, Bool.false_or]
      by_cases d : y ∈ xs
      · rw [decide_eq_true d, decide_eq_true (List.mem_cons_of_mem _ d)]
      · rw [decide_eq_false d]
        refine (decide_eq_false fun q => ?_).symm
        rcases List.mem_cons.mp q with q | q
        · exact c q.symm
        · exact d q
open PySem.W in
theorem lt_st (s t : Stand) : dataLt (dSt s) (dSt t) = decide (s < t) := by
  unfold dSt
  rw [dataLt_tuple]
  exact dataLt_ints s t
open PySem.W in
theorem alike_st (s t : Stand) : alike (dSt s) (dSt t) = true := by
  show alikeAll _ _ = true
  exact alike_ints s t
open PySem.W in
theorem alike_step (p q : Step) : alike (dStep p) (dStep q) = true := by simp [dStep, alike, alikeAll, alike_st]

/-! ### a paper sorted anew -/
theorem lt_tri : ∀ s t : Stand, s < t ∨ s = t ∨ t < s
  | [], [] => .inr (.inl rfl)
  | [], y :: t => .inl (by simp)
  | x :: s, [] => .inr (.inr (by simp))
  | x :: s, y :: t => by
    rw [List.cons_lt_cons_iff, List.cons_lt_cons_iff]
    rcases Int.lt_trichotomy x y with h | h | h
    · exact .inl (.inl h)
    · subst h
      rcases lt_tri s t with q | q | q
      · exact .inl (.inr ⟨rfl, q⟩)
      · exact .inr (.inl (by rw [q]))
      · exact .inr (.inr (.inr ⟨rfl, q⟩))
    · exact .inr (.inr (.inl h))
theorem lt_irr : ∀ s : Stand, ¬ s < s
  | [] => by simp
  | x :: s => by
    rw [List.cons_lt_cons_iff]
    rintro (h | ⟨_, h⟩)
    · omega
    · exact lt_irr s h
theorem lt_tr : ∀ {s t u : Stand}, s < t → t < u → s < u
  | [], [], _, h, _ => absurd h (by simp)
  | [], _ :: _, [], _, h => absurd h (by simp)
  | [], _ :: _, _ :: _, _, _ => by simp
  | _ :: _, [], _, h, _ => absurd h (by simp)
  | _ :: _, _ :: _, [], _, h => absurd h (by simp)
  | x :: s, y :: t, z :: u, h1, h2 => by
    rw [List.cons_lt_cons_iff] at h1 h2 ⊢
    rcases h1 with h1 | ⟨e1, h1⟩ <;> rcases h2 with h2 | ⟨e2, h2⟩
    · exact .inl (by omega)
    · exact .inl (by omega)
    · exact .inl (by omega)
    · exact .inr ⟨by omega, lt_tr h1 h2⟩
open PySem.W in
theorem sort_rising {ss : List Stand} (h : ss.Nodup) : Rising (ss.mergeSort (dataLe false dSt)) := by
  have hle : ∀ a b, dataLe false dSt a b = !decide (b < a) := fun a b => by
    rw [dataLe_eq]
    show (!dataLt (dSt b) (dSt a)) = _
    rw [lt_st]
  have hp := List.pairwise_mergeSort (le := dataLe false dSt) (fun a b c h1 h2 => by
    rw [hle, Bool.not_eq_true', decide_eq_false_iff_not] at h1 h2 ⊢
    intro h3
    rcases lt_tri b c with q | q | q
    · exact h1 (lt_tr q h3)
    · subst q; exact h1 h3
    · exact h2 q) (fun a b => by
    rw [hle, hle]
    by_cases c : b < a
    · have d : ¬ a < b := fun d => lt_irr _ (lt_tr c d)
      rw [decide_eq_false d]
      simp
    · rw [decide_eq_false c]
      simp) ss
  have hn : (ss.mergeSort (dataLe false dSt)).Nodup := (List.mergeSort_perm ss _).nodup_iff.mpr h
  refine (hp.and hn).imp fun {a b} q => ?_
  obtain ⟨q1, q2⟩ := q
  rw [hle, Bool.not_eq_true', decide_eq_false_iff_not] at q1
  rcases lt_tri a b with z | z | z
  · exact z
  · exact absurd z q2
  · exact absurd z q1
end Hm
end

section
set_option Elab.async false
set_option linter.all false
set_option maxRecDepth 100000
set_option maxHeartbeats 4000000
/-! Calls of the text's own defs, the top's facts, comprehensions that change nothing. -/
namespace Hm
open PySem L2 PyProof.Rows

/-- the i-th statement of the program's top -/
def top (i : Nat) : Stmt := PySem.Challenge.pw_handpromise_k47_whole_no_paper_is_weaker.main.body.getD i (.Pass ⟨0, 0, 0, 0⟩)

/-- the def x of the module keeps its promise -/
structure Cal (P : Program) (w : World) (K : PySem.W.Frag) (mg : Str → Option Value) (base : Heap) (x : Str) (ps : List Str) (k : Nat) (sp : Sp) : Prop where
  ex : ∃ f fd, FnOk P w K mg base CX0 k f fd ps sp ∧ mg x = some (.ref f) ∧ PySem.W.keepIn K (.ref f) = true ∧ Binds K fd ps []
theorem Cal.mono {P : Program} {w : World} {K : PySem.W.Frag} {mg : Str → Option Value} {base : Heap} {x : Str} {ps : List Str} {k k' : Nat} {sp : Sp} (C : Cal P w K mg base x ps k sp) (h : k ≤ k') : Cal P w K mg base x ps k' sp := by
  obtain ⟨f, fd, a, b⟩ := C.ex
  exact ⟨f, fd, a.mono h, b⟩
theorem Cal.imp {P : Program} {w : World} {K : PySem.W.Frag} {mg : Str → Option Value} {base : Heap} {x : Str} {ps : List Str} {k : Nat} {sp sp' : Sp} (C : Cal P w K mg base x ps k sp) (h : ∀ vs H Q E, sp' vs H Q E → sp vs H Q E) : Cal P w K mg base x ps k sp' := by
  obtain ⟨f, fd, a, b⟩ := C.ex
  exact ⟨f, fd, a.imp h, b⟩
theorem pe_cal {X : Cx} {x : Str} {ps : List Str} {k : Nat} {sp : Sp} {p pos : Pos} {e : Expr} {es : List Expr} {t : TA} (C : Cal X.prog X.w X.K X.mg X.base x ps k sp) (hr : Room k X.A) (hg : Gl X x)
    (ha : PA X (e :: es) t) (hdb : (x == ("__debug__" : Str)) = false := by decide) (he : starEach (e :: es) X.env = (false, eval e X.env) :: starEach es X.env := by rfl) (hpl : (backTo pos (starEach es X.env)).any (·.1) = false := by rfl) :
    PE X (.Call (.Name x p) (e :: es) [] pos) (tCall sp [] E0 t) := by
  obtain ⟨f, fd, F, m, kp, b⟩ := C.ex
  exact pe_call F hr hg m kp b .nil pass0 ha hdb he hpl
/-- the def x stands behind the top as the text says -/
structure Def (K : PySem.W.Frag) (mg : Str → Option Value) (x : Str) (st : Stmt) (ps : List Str) : Prop where
  ex : ∃ f fd, Fun K x x st f fd ∧ mg x = some (.ref f) ∧ Binds K fd ps []
section
variable {P : Program} {w : World} {K : PySem.W.Frag} {mg : Str → Option Value} {base : Heap}
theorem Def.cal {x : Str} {st : Stmt} {N ps : List Str} {k : Nat} {sp : Sp} (D : Def K mg x st ps) (S : FnScope N ps (defScope st)) (len : ∀ vs H Q E, sp vs H Q E → vs.length = ps.length)
    (hbody : ∀ (f : Addr) (cdv : Value) (A : Around) (outer : List Env) (s : Shared) (H : Hp) (vs : List V) (Q : VK) (E : XK), Room k (A.deeper (envOfC x (defScope st) s.heap.objs.size f cdv)) → sp vs H Q E →
      ∃ t, PSs (cxOf CX0 P w K mg base N x (defScope st) f cdv A outer s H E).nox (defBody st) t ∧ t { nx := fun _ H' => Q .non H', rt := Q } (start N vs) H) : Cal P w K mg base x ps (k + 1) sp := by
  obtain ⟨f, fd, F, m, b⟩ := D.ex
  exact ⟨f, fd, F.ok S len (fun cdv A outer s H vs Q E hr h => hbody f cdv A outer s H vs Q E hr h), m, F.kp, b⟩
end
/-- what the top has left of the built-in names -/
structure Txt (K : PySem.W.Frag) (mg : Str → Option Value) : Prop where
  len : mg "len" = none
  range : mg "range" = none
  zip : mg "zip" = none
  enumerate : mg "enumerate" = none
  isinstance : mg "isinstance" = none
  int : mg "int" = none
  bool : mg "bool" = none
  tuple : mg "tuple" = none
  list : mg "list" = none
  dict : mg "dict" = none
  sorted : mg "sorted" = none
  min : mg "min" = none
theorem r64 {k : Nat} {A : Around} (hr : Room k A) : A.units + 64 < cLine := by have := hr.un; omega
theorem r65 {k : Nat} {A : Around} (hr : Room k A) : A.units + 65 < cLine := by have := hr.un; omega
theorem r0 {k : Nat} {A : Around} (hr : Room k A) : A.units < cLine := by have := hr.un; omega

theorem sz_of {n : Nat} (h : n ≤ 100000) : n ≤ sizeLine := Nat.le_trans h (by decide)
theorem sz_lt {n : Nat} (h : n < 100000) : n < sizeLine := Nat.lt_of_lt_of_le h (by decide)

/-! ### the new part of a heap: the tuples that stood, and what was not there -/
def nw (H0 H : Hp) : Hp := fun b => match H0 b with
  | some (.tup xs) => some (.tup xs)
  | some _ => none
  | none => H b
theorem nw_tup {H0 H : Hp} {b : Addr} {xs : List V} (h : H0 b = some (.tup xs)) : nw H0 H b = some (.tup xs) := by unfold nw; rw [h]
theorem nw_none {H0 H : Hp} {b : Addr} (h : H0 b = none) : nw H0 H b = H b := by unfold nw; rw [h]
theorem nw_cases {H0 H : Hp} {b : Addr} {o : HO} (h : nw H0 H b = some o) : (∃ xs, H0 b = some (.tup xs) ∧ o = .tup xs) ∨ (H0 b = none ∧ H b = some o) := by
  unfold nw at h
  split at h
  · rename_i xs e
    exact .inl ⟨xs, e, (Option.some.inj h).symm⟩
  · cases h
  · rename_i e
    exact .inr ⟨e, h⟩
theorem nw_sub {H0 H : Hp} (s : TK H0 H) : Same (nw H0 H) H := fun b o h => by
  rcases nw_cases h with ⟨xs, e, rfl⟩ | ⟨_, e⟩
  · exact s _ _ e
  · exact e
/-- new at a later base is new at an earlier one -/
theorem nw_back {H0 H1 H2 : Hp} (s : Same H0 H1) (s2 : TK H1 H2) : Same (nw H1 H2) (nw H0 H2) := fun b o h => by
  rcases nw_cases h with ⟨xs, e, rfl⟩ | ⟨e1, e⟩
  · cases q : H0 b with
    | none => rw [nw_none q]; exact s2 _ _ e
    | some u =>
      have z := s _ _ q
      rw [e] at z
      rw [← Option.some.inj z] at q
      exact nw_tup q
  · have q : H0 b = none := s.free e1
    rw [nw_none q]
    exact e
/-- what is new stays -/
theorem nw_on {H0 H1 H2 : Hp} (k : ∀ b o, H0 b = none → H1 b = some o → H2 b = some o) : Same (nw H0 H1) (nw H0 H2) := fun b o h => by
  rcases nw_cases h with ⟨xs, e, rfl⟩ | ⟨e1, e⟩
  · exact nw_tup e
  · rw [nw_none e1]
    exact k b o e1 e
theorem nw_same {H0 H1 H2 : Hp} (s : Same H1 H2) : Same (nw H0 H1) (nw H0 H2) := nw_on fun b o _ e => s b o e
theorem nw_tm {α : Type} {R : Rp α} (m : TMono R) {H0 H : Hp} {v : V} {x : α} (s : Same H0 H) (r : R H v x) : R (nw H0 H) v x := m H _ v x (fun b xs e => by
  cases q : H0 b with
  | none => rw [nw_none q]; exact e
  | some u =>
    have z := s _ _ q
    rw [e] at z
    rw [← Option.some.inj z] at q
    exact nw_tup q) r
theorem nw_tk {H0 H : Hp} (s : Same H0 H) : TK H (nw H0 H) := fun b xs e => by
  cases q : H0 b with
  | none => rw [nw_none q]; exact e
  | some u =>
    have z := s _ _ q
    rw [e] at z
    rw [← Option.some.inj z] at q
    exact nw_tup q

theorem take_snoc {α : Type} {l : List α} {i : Nat} {a : α} (h : l[i]? = some a) : l.take (i + 1) = l.take i ++ [a] := by
  rw [List.take_add_one, h]
  rfl
theorem take_all {α : Type} (l : List α) : l.take l.length = l := List.take_of_length_le (Nat.le_refl _)

theorem yesT {σ : L2.St} {H : Hp} {A N : Hp → Prop} (h : A H) : tYes σ H (fun b H3 => if b = true then A H3 else N H3) := by
  show (if true = true then A H else N H)
  rw [if_pos rfl]
  exact h

/-! ### comprehensions that change nothing but their new list -/
theorem lcP {α β : Type} {J : It} {n : Nat} {G : Hp → Prop} {Y : Nat → Hp → V → Hp → Prop} (w : L2.Walk J n G Y) {g : TG} {tt : TT} {te : TE} {vs : List Nat} {σ : L2.St} {H1 : Hp} {Q : Addr → Hp → Prop}
    (as : List α) (p : α → Bool) (f : α → β) (R : Rp β) (hR : Mono R) (hn : as.length = n) (hz : n ≤ 50000) (hG : ∀ H, Same H1 H → G H)
    (hs : ∀ i a H x H' (F : VK) (N : Hp → Prop), as[i]? = some a → Same H1 H → Y i H x H' → (∀ H3, Same H H3 → p a = false → N H3) → (∀ y H4, Same H H4 → p a = true → R (nw H H4) y (f a) → F y H4) →
      g x (wipe σ vs) H' fun σ2 H2 => wipe σ2 vs = wipe σ vs ∧ tt σ2 H2 fun b H3 => if b = true then te σ2 H3 F else N H3)
    (hq : ∀ D H, Same H1 H → LstOf R (nw H1 H) (.ref D) ((as.filter p).map f) → Q D H) :
    ∀ D, H1 D = none → ∃ W : Nat → Nat → Hp → Prop, (∃ m, W 0 m (upd H1 D (.lst []))) ∧ ∀ i m H, W i m H →
      (J.stop i H ∧ Q D H) ∨ (J.go i H ∧ ∃ Nx : Hp → Prop, (∀ H', Nx H' → ∃ m', m' < m ∧ W (i + 1) m' H') ∧ ∀ x H', J.yld i H x H' → g x (wipe σ vs) H' fun σ2 H2 => wipe σ2 vs = wipe σ vs ∧ tt σ2 H2 fun b H3 =>
        if b = true then te σ2 H3 fun y H4 => ∃ acc, H4 D = some (.lst acc) ∧ acc.length < sizeLine ∧ Nx (upd H4 D (.lst (acc ++ [y]))) else Nx H3) := by
  intro D hD
  have new1 : Same H1 (upd H1 D (.lst [])) := same_new hD _
  refine lc_it w (fun i H => Same H1 H ∧ ∃ ys, H D = some (.lst ys) ∧ ys.length ≤ i ∧ Paired (R (nw (upd H1 D (.lst [])) H)) ys (((as.take i).filter p).map f)) ⟨new1, [], upd_same, Nat.zero_le _, .nil⟩ (fun i H _ h => hG H h.1) ?_ ?_
  · rintro i x H H' hi ⟨s, ys, hys, hl, hp⟩ hy
    have hi' : i < as.length := by rw [hn]; exact hi
    have ha : as[i]? = some as[i] := List.getElem?_eq_getElem hi'
    have sD : ∀ H3, Same H H3 → ∀ b o, upd H1 D (.lst []) b = none → H b = some o → H3 b = some o := fun H3 k b o _ e => k b o e
    refine hs i as[i] H x H' _ _ ha s hy (fun H3 k hf => ?_) (fun y H4 k ht hr => ?_)
    · refine ⟨s.trans k, ys, k _ _ hys, Nat.le_succ_of_le hl, ?_⟩
      rw [take_snoc ha, List.filter_append, List.filter_cons, if_neg (by rw [hf]; decide), List.filter_nil, List.append_nil]
      exact paired_mono hR (nw_same k) hp
    · refine ⟨ys, k _ _ hys, sz_lt (by omega), fun b o e => ?_, ys ++ [y], upd_same, by rw [List.length_append, List.length_singleton]; omega, ?_⟩
      · rw [upd_ne (ne_of_none e hD)]
        exact k _ _ (s _ _ e)
      · rw [take_snoc ha, List.filter_append, List.filter_cons, if_pos ht, List.filter_nil, List.map_append]
        refine paired_app (paired_mono hR (nw_on fun b o e1 e2 => ?_) hp) (.cons (hR _ _ _ _ (fun b o h => ?_) hr) .nil)
        · have nb : b ≠ D := fun q => by rw [q, upd_same] at e1; cases e1
          rw [upd_ne nb]
          exact k _ _ e2
        · rcases nw_cases h with ⟨xs, e, rfl⟩ | ⟨e1, e⟩
          · have nb : b ≠ D := fun q => by rw [q, hys] at e; cases e
            cases q : H1 b with
            | none =>
              rw [nw_none (by rw [upd_ne nb]; exact q), upd_ne nb]
              exact k _ _ e
            | some u =>
              have z := s _ _ q
              rw [e] at z
              rw [← Option.some.inj z] at q
              exact nw_tup (by rw [upd_ne nb]; exact q)
          · have nb : b ≠ D := fun q => by rw [q, hys] at e1; cases e1
            rw [nw_none (by rw [upd_ne nb]; exact s.free e1), upd_ne nb]
            exact e
  · rintro H ⟨s, ys, hys, hl, hp⟩
    rw [← hn, take_all] at hp
    refine hq _ H s ⟨D, ys, rfl, by rw [nw_none hD]; exact hys, paired_mono hR (fun b o h => ?_) hp⟩
    rcases nw_cases h with ⟨xs, e, rfl⟩ | ⟨e1, e⟩
    · have nb : b ≠ D := fun q => by rw [q, upd_same] at e; cases e
      rw [upd_ne nb] at e
      exact nw_tup e
    · have nb : b ≠ D := fun q => by rw [q, upd_same] at e1; cases e1
      rw [upd_ne nb] at e1
      rw [nw_none e1]
      exact e

/-! ### the rules with the written part named (a comprehension's block has its own context) -/
section
variable {X : Cx} {K : PySem.W.Frag} {P : Program} {w : World}
theorem ix_listK (K : PySem.W.Frag) (h : X.K = K := by rfl) : IxR X (rIxL K) := by subst h; exact ix_list
theorem ix_tupK (K : PySem.W.Frag) (h : X.K = K := by rfl) : IxR X (rIxT K) := by subst h; exact ix_tup
theorem op_catAK (K : PySem.W.Frag) (h : X.K = K := by rfl) : OpR X (binaryOp .Add) (rCatA K) := by subst h; exact op_catA
theorem op_inDK (K : PySem.W.Frag) (hu : X.A.units + 65 < cLine) (h : X.K = K := by rfl) : OpR X (compareOp .In) (rInD K) := by subst h; exact op_inD hu
theorem op_notInDK (K : PySem.W.Frag) (hu : X.A.units + 65 < cLine) (h : X.K = K := by rfl) : OpR X (compareOp .NotIn) (rNotInD K) := by subst h; exact op_notInD hu
theorem op_eqDK (K : PySem.W.Frag) (hu : X.A.units + 64 < cLine) (h : X.K = K := by rfl) : OpR X (compareOp .Eq) (rEqD K) := by subst h; exact op_eqD hu
theorem op_neDK (K : PySem.W.Frag) (hu : X.A.units + 64 < cLine) (h : X.K = K := by rfl) : OpR X (compareOp .NotEq) (rNeD K) := by subst h; exact op_neD hu
theorem op_geDK (K : PySem.W.Frag) (hu : X.A.units + 64 < cLine) (h : X.K = K := by rfl) : OpR X (compareOp .GtE) (rGeD K) := by subst h; exact op_geD hu
def rLenQ (K : PySem.W.Frag) : List V → Hp → VK → Prop := fun xs H Q => ∃ p ys, xs = [.ref p] ∧ (SqL K H p ys ∨ SqT K H p ys) ∧ Q (.int (ys.length : Nat)) H
theorem call_lenK (K : PySem.W.Frag) (h : X.K = K := by rfl) : CallR X (.builtin "len") (rLenQ K) := by subst h; exact call_len_seq
def rListQ (K : PySem.W.Frag) : List V → Hp → VK → Prop := fun xs H Q => ∃ p ys, xs = [.ref p] ∧ (SqL K H p ys ∨ SqT K H p ys) ∧ ∀ l, H l = none → Q (.ref l) (upd H l (.lst ys))
theorem call_listK (K : PySem.W.Frag) (h : X.K = K := by rfl) : CallR X (.type "list") (rListQ K) := by subst h; exact call_list_of
def rTupQ (K : PySem.W.Frag) : List V → Hp → VK → Prop := fun xs H Q => ∃ p ys, xs = [.ref p] ∧ ((SqL K H p ys ∧ ∀ l, H l = none → Q (.ref l) (upd H l (.tup ys))) ∨ (SqT K H p ys ∧ Q (.ref p) H))
theorem call_tupleK (K : PySem.W.Frag) (h : X.K = K := by rfl) : CallR X (.type "tuple") (rTupQ K) := by subst h; exact call_tuple_of
theorem call_isiK (K : PySem.W.Frag) (h : X.K = K := by rfl) : CallR X (.builtin "isinstance") (rIsi K) := by subst h; exact call_isi
theorem call_sortK {β : Type} (K : PySem.W.Frag) (enc : β → PyData) (hu : X.A.units + 64 < cLine) (h : X.K = K := by rfl) : CallR X (.builtin "sorted") (rSortD K enc) := by subst h; exact call_sortD hu
theorem call_nsortK {β : Type} (K : PySem.W.Frag) (P : Program) (w : World) (enc : β → PyData) (hu : X.A.units + 64 < cLine) (hc : X.calm = true := by rfl) (h : X.K = K := by rfl) (hP : X.prog = P := by rfl) (hw : X.w = w := by rfl) : CallR X (.builtin "sorted") (rNSort K P w enc) := by
  subst h hP hw; exact call_nsort hc hu
theorem call_nlistK (P : Program) (w : World) (hc : X.calm = true := by rfl) (hP : X.prog = P := by rfl) (hw : X.w = w := by rfl) : CallR X (.type "list") (rNList P w) := by subst hP hw; exact call_nlist hc
theorem call_nlenK (P : Program) (w : World) (hP : X.prog = P := by rfl) (hw : X.w = w := by rfl) : CallR X (.builtin "len") (rNLen P w) := by subst hP hw; exact call_nlen
theorem call_ndictK (K : PySem.W.Frag) (P : Program) (w : World) (hu : X.A.units + 64 < cLine) (hc : X.calm = true := by rfl) (h : X.K = K := by rfl) (hP : X.prog = P := by rfl) (hw : X.w = w := by rfl) : CallR X (.type "dict") (rNDict K P w) := by
  subst h hP hw; exact call_ndict hc hu
variable {tg l e e2 f o i value : Expr} {tl ta td ty tx tv : TE} {tA : TA} {es : List Expr} {k kk : Nat} {t : TGs} {n : Nat} {pos p tpos pos' apos cpos : Pos} {elts : List Expr}
theorem pi_listK (K : PySem.W.Frag) (hl : PE X l tl) (h : X.K = K := by rfl) : PI X tg l (iList K tl) := by subst h; exact pi_list hl
theorem pi_tupK (K : PySem.W.Frag) (hl : PE X l tl) (h : X.K = K := by rfl) : PI X tg l (iTup K tl) := by subst h; exact pi_tup hl
theorem pi_enumK (K : PySem.W.Frag) (hg : Gl X "enumerate") (hm : X.mg "enumerate" = none) (ha : PA X [e] tA) (hs : starEach [e] X.env = [(false, eval e X.env)] := by rfl) (h : X.K = K := by rfl) :
    PI X (.Tuple elts kk tpos) (.Call (.Name "enumerate" p) [e] [] pos) (iEnum K tA) := by subst h; exact pi_enum hg hm ha hs
theorem pi_zipK (K : PySem.W.Frag) (hg : Gl X "zip") (hm : X.mg "zip" = none) (ha : PA X [e, e2] tA) (hs : starEach [e, e2] X.env = (false, eval e X.env) :: starEach [e2] X.env := by rfl) (hpl : (backTo pos (starEach [e2] X.env)).any (·.1) = false := by rfl) (h : X.K = K := by rfl) :
    PI X (.Tuple elts kk tpos) (.Call (.Name "zip" p) [e, e2] [] pos) (iZip K tA) := by subst h; exact pi_zip hg hm ha hs hpl
theorem pi_zipMK (K : PySem.W.Frag) (hg : Gl X "zip") (hm : X.mg "zip" = none) (ha : PA X [e, e2] tA) (hs : starEach [e, e2] X.env = (false, eval e X.env) :: starEach [e2] X.env := by rfl) (hpl : (backTo pos (starEach [e2] X.env)).any (·.1) = false := by rfl) (h : X.K = K := by rfl) :
    PI X (.Tuple elts kk tpos) (.Call (.Name "zip" p) [e, e2] [] pos) (iZipM K tA) := by subst h; exact pi_zipM hg hm ha hs hpl
theorem pg_tupK (K : PySem.W.Frag) (hc : X.calm = true) (ht : PGs X es t) (hn : (assignEach es X.env).length = n := by rfl) (hst : (assignEach es X.env).findIdx? (·.1) = none := by rfl) (h : X.K = K := by rfl) : PG X (.Tuple es k pos) (gTup K n t) := by
  subst h; exact pg_tup hc ht hn hst
theorem pg_unlK (K : PySem.W.Frag) (hc : X.calm = true) (ht : PGs X es t) (hn : (assignEach es X.env).length = n := by rfl) (hst : (assignEach es X.env).findIdx? (·.1) = none := by rfl) (h : X.K = K := by rfl) : PG X (.Tuple es k pos) (gUnl K n t) := by
  subst h; exact pg_unl hc ht hn hst
theorem pe_nnewK (P : Program) (w : World) (hP : X.prog = P := by rfl) (hw : X.w = w := by rfl) : PE X (.Dict [] [] pos) (tNNew P w) := by subst hP hw; exact pe_nnew
theorem pe_ngetK (P : Program) (w : World) (hu : X.A.units + 64 < cLine) (ho : PE X o td) (hi : PE X i ty) (hs : NoSl i) (hP : X.prog = P := by rfl) (hw : X.w = w := by rfl) : PE X (.Subscript o i pos) (tNGet P w td ty) := by subst hP hw; exact pe_nget hu ho hi hs
theorem pc_ninK (P : Program) (w : World) (hu : X.A.units + 64 < cLine) (hi : PE X i ty) (ho : PE X o td) (hP : X.prog = P := by rfl) (hw : X.w = w := by rfl) : PC X .In i o (tNIn P w ty td) := by subst hP hw; exact pc_nin hu hi ho
theorem pc_nnotinK (P : Program) (w : World) (hu : X.A.units + 64 < cLine) (hi : PE X i ty) (ho : PE X o td) (hP : X.prog = P := by rfl) (hw : X.w = w := by rfl) : PC X .NotIn i o (tNNotIn P w ty td) := by subst hP hw; exact pc_nnotin hu hi ho
theorem ps_nputK (P : Program) (w : World) (hu : X.A.units + 64 < cLine) (ho : PE X o td) (hi : PE X i ty) (hv : PE X value tv) (hs : swapsWith value (some (.Subscript o i pos')) pos.line X.env = pure false := by rfl) (hP : X.prog = P := by rfl) (hw : X.w = w := by rfl) :
    PS X (.Assign [.Subscript o i pos'] value pos) (sNPut P w td ty tv) := by subst hP hw; exact ps_nput hu ho hi hv hs
theorem pe_ngetorK (P : Program) (w : World) (hu : X.A.units + 64 < cLine) (ho : PE X o td) (he : PE X e ty) (hf : PE X f tx) (m : M2 X o "get" apos e f cpos) (hP : X.prog = P := by rfl) (hw : X.w = w := by rfl) : PE X (.Call (.Attribute o "get" apos) [e, f] [] cpos) (tNGetOr P w td ty tx) := by
  subst hP hw; exact pe_ngetor hu ho he hf m
theorem pe_nsetdK (P : Program) (w : World) (hu : X.A.units + 64 < cLine) (ho : PE X o td) (he : PE X e ty) (hf : PE X f tx) (m : M2 X o "setdefault" apos e f cpos) (hP : X.prog = P := by rfl) (hw : X.w = w := by rfl) : PE X (.Call (.Attribute o "setdefault" apos) [e, f] [] cpos) (tNSetd P w td ty tx) := by
  subst hP hw; exact pe_nsetd hu ho he hf m
theorem pe_npopK (P : Program) (w : World) (hu : X.A.units + 64 < cLine) (ho : PE X o td) (he : PE X e ty) (m : M1 X o "pop" apos e cpos) (hP : X.prog = P := by rfl) (hw : X.w = w := by rfl) : PE X (.Call (.Attribute o "pop" apos) [e] [] cpos) (tNPop P w td ty) := by
  subst hP hw; exact pe_npop hu ho he m
end
end Hm
end

section
set_option Elab.async false
set_option linter.all false
set_option maxRecDepth 100000
set_option maxHeartbeats 4000000
/-! value, holds and the law's own. -/
namespace Hm
open PySem L2
theorem ifT {b : Bool} {A B : Prop} (h : b = true) (a : A) : if b = true then A else B := by rw [if_pos h]; exact a
theorem ifF {b : Bool} {A B : Prop} (h : b = false) (a : B) : if b = true then A else B := by rw [h, if_neg Bool.false_ne_true]; exact a

theorem dInt (a b : Int) : decide (V.int a = V.int b) = decide (a = b) := by
  by_cases h : a = b
  · rw [decide_eq_true h, h]
    exact decide_eq_true rfl
  · rw [decide_eq_false h]
    exact decide_eq_false fun q => h (V.int.inj q)
theorem Def.vac {P : Program} {w : World} {K : PySem.W.Frag} {mg : Str → Option Value} {base : Heap} {x : Str} {st : Stmt} {ps : List Str} {k : Nat} {sp : Sp} (D : Def K mg x st ps) (no : ∀ vs H Q E, ¬ sp vs H Q E) : Cal P w K mg base x ps k sp := by
  obtain ⟨f, fd, F, m, b⟩ := D.ex
  exact ⟨f, fd, ⟨fun vs H Q E h => absurd h (no vs H Q E), fun A outer s H args us vs Q E _ _ _ _ h => absurd h (no vs H Q E)⟩, m, F.kp, b⟩

section
variable {P : Program} {w : World} {K : PySem.W.Frag} {mg : Str → Option Value} {base : Heap}
/-! ### value -/
abbrev s_value : Stmt := top 8
abbrev n_value : List Str := ["one", "ahead", "behind", "word", "first", "second"]
theorem sc_value : FnScope n_value ["one", "ahead", "behind"] (defScope s_value) := ⟨rfl, rfl, rfl, by decide +kernel, rfl, by decide +kernel, by decide +kernel⟩
def spValue (n : Nat) : Sp := fun vs H Q _ => ∃ x y z e s, vs = [x, y, z] ∧ IsSm H x e ∧ IsSt H y s ∧ e.dep < n ∧ e.wf s.length ∧ Q (.int (e.val s)) H
theorem ok_value {n : Nat} (D : Def K mg "value" s_value ["one", "ahead", "behind"]) (T : Txt K mg) (c_value : Cal P w K mg base "value" ["one", "ahead", "behind"] n (spValue n)) : Cal P w K mg base "value" ["one", "ahead", "behind"] (n + 1) (spValue (n + 1)) := by
  refine D.cal sc_value (fun vs H Q E h => ?_) (fun f cdv A outer s H vs Q E hr h => ?_)
  · obtain ⟨x, y, z, e, st, rfl, _⟩ := h
    rfl
  obtain ⟨x, y, z, e, st, rfl, hx, ⟨b, rfl, hb⟩, hd, hw, q⟩ := h
  refine ⟨_, (pss_cons (ps_set (i := 3) sc_value.nd rfl (Or.inl rfl) (pe_ix (ix_tupK K) (pv 0) pe_int (fun _ _ => rfl)))
    (pss_cons (ps_if (pt_cmpR op_eq (pv 3) pe_str (nomark _)) (pss_one (ps_ret (pe_ix (ix_tupK K) (pv 0) pe_int (fun _ _ => rfl)))) pss_nil)
    (pss_cons (ps_if (pt_cmpR op_eq (pv 3) pe_str (nomark _)) (pss_one (ps_ret (pe_ix (ix_tupK K) (pv 1) (pe_ix (ix_tupK K) (pv 0) pe_int (fun _ _ => rfl)) (fun _ _ => rfl)))) pss_nil)
    (pss_cons (ps_if (pt_cmpR op_eq (pv 3) pe_str (nomark _)) (pss_one (ps_ret (pe_ix (ix_tupK K) (pv 2) (pe_ix (ix_tupK K) (pv 0) pe_int (fun _ _ => rfl)) (fun _ _ => rfl)))) pss_nil)
    (pss_cons (ps_set (i := 4) sc_value.nd rfl (Or.inl rfl) (pe_cal c_value (hr.mono (by first | exact Nat.le_refl _ | decide | omega)) rfl (pa_cons (pe_ix (ix_tupK K) (pv 0) pe_int (fun _ _ => rfl)) (pa_cons (pv 1) (pa_cons (pv 2) pa_nil)))))
    (pss_cons (ps_set (i := 5) sc_value.nd rfl (Or.inl rfl) (pe_cal c_value (hr.mono (by first | exact Nat.le_refl _ | decide | omega)) rfl (pa_cons (pe_ix (ix_tupK K) (pv 0) pe_int (fun _ _ => rfl)) (pa_cons (pv 1) (pa_cons (pv 2) pa_nil)))))
    (pss_cons (ps_if (pt_cmpR op_eq (pv 3) pe_str (nomark _)) (pss_one (ps_ret (pe_op op_add (pv 4) (pv 5)))) pss_nil)
    (pss_one (ps_ret (pe_op op_sub (pv 4) (pv 5))))))))))), ?_⟩
  cases hx with
  | @num a k h =>
    refine ⟨_, rfl, a, _, _, _, rfl, rfl, SqT.of h, atI_nat (j := 0) rfl, ?_⟩
    refine ⟨_, rfl, rfl, _, rfl, ifT (by decide +kernel) ?_⟩
    refine ⟨_, rfl, a, _, _, _, rfl, rfl, SqT.of h, atI_nat (j := 1) rfl, ?_⟩
    exact q
  | @box a k h =>
    refine ⟨_, rfl, a, _, _, _, rfl, rfl, SqT.of h, atI_nat (j := 0) rfl, ?_⟩
    refine ⟨_, rfl, rfl, _, rfl, ifF (by decide +kernel) ?_⟩
    refine ⟨_, rfl, rfl, _, rfl, ifT (by decide +kernel) ?_⟩
    have hk : (st.map V.int)[k]? = some (.int (st.getD k 0)) := by
      rw [List.getElem?_map, List.getD_eq_getElem?_getD]
      have hk : k < st.length := hw
      rw [List.getElem?_eq_getElem hk]
      rfl
    refine ⟨_, rfl, _, rfl, a, _, _, _, rfl, rfl, SqT.of h, atI_nat (j := 1) rfl, b, _, _, _, rfl, rfl, SqT.of hb, atI_nat hk, ?_⟩
    exact q
  | @plus a x y p r h hp hr' =>
    have h1 := Nat.lt_of_lt_of_le (Nat.lt_succ_of_le (Nat.le_max_left p.dep r.dep)) (Nat.le_of_lt_succ hd)
    have h2 := Nat.lt_of_lt_of_le (Nat.lt_succ_of_le (Nat.le_max_right p.dep r.dep)) (Nat.le_of_lt_succ hd)
    refine ⟨_, rfl, a, _, _, _, rfl, rfl, SqT.of h, atI_nat (j := 0) rfl, ?_⟩
    refine ⟨_, rfl, rfl, _, rfl, ifF (by decide +kernel) ?_⟩
    refine ⟨_, rfl, rfl, _, rfl, ifF (by decide +kernel) ?_⟩
    refine ⟨_, rfl, rfl, _, rfl, ifF (by decide +kernel) ?_⟩
    refine ⟨_, rfl, a, _, _, _, rfl, rfl, SqT.of h, atI_nat (j := 1) rfl, _, rfl, _, rfl, x, _, _, p, st, rfl, hp, ⟨b, rfl, hb⟩, h1, hw.1, ?_⟩
    refine ⟨_, rfl, a, _, _, _, rfl, rfl, SqT.of h, atI_nat (j := 2) rfl, _, rfl, _, rfl, y, _, _, r, st, rfl, hr', ⟨b, rfl, hb⟩, h2, hw.2, ?_⟩
    refine ⟨_, rfl, rfl, _, rfl, ifT (by decide +kernel) ?_⟩
    exact ⟨_, rfl, _, rfl, _, _, rfl, rfl, q⟩
  | @minus a x y p r h hp hr' =>
    have h1 := Nat.lt_of_lt_of_le (Nat.lt_succ_of_le (Nat.le_max_left p.dep r.dep)) (Nat.le_of_lt_succ hd)
    have h2 := Nat.lt_of_lt_of_le (Nat.lt_succ_of_le (Nat.le_max_right p.dep r.dep)) (Nat.le_of_lt_succ hd)
    refine ⟨_, rfl, a, _, _, _, rfl, rfl, SqT.of h, atI_nat (j := 0) rfl, ?_⟩
    refine ⟨_, rfl, rfl, _, rfl, ifF (by decide +kernel) ?_⟩
    refine ⟨_, rfl, rfl, _, rfl, ifF (by decide +kernel) ?_⟩
    refine ⟨_, rfl, rfl, _, rfl, ifF (by decide +kernel) ?_⟩
    refine ⟨_, rfl, a, _, _, _, rfl, rfl, SqT.of h, atI_nat (j := 1) rfl, _, rfl, _, rfl, x, _, _, p, st, rfl, hp, ⟨b, rfl, hb⟩, h1, hw.1, ?_⟩
    refine ⟨_, rfl, a, _, _, _, rfl, rfl, SqT.of h, atI_nat (j := 2) rfl, _, rfl, _, rfl, y, _, _, r, st, rfl, hr', ⟨b, rfl, hb⟩, h2, hw.2, ?_⟩
    refine ⟨_, rfl, rfl, _, rfl, ifF (by decide +kernel) ?_⟩
    exact ⟨_, rfl, _, rfl, _, _, rfl, rfl, q⟩
theorem value_all (D : Def K mg "value" s_value ["one", "ahead", "behind"]) (T : Txt K mg) : Cal P w K mg base "value" ["one", "ahead", "behind"] 2 (spValue 2) :=
  ok_value D T (ok_value D T (D.vac (fun vs H Q E h => by
    obtain ⟨x, y, z, e, s, _, _, _, h, _⟩ := h
    exact absurd h (Nat.not_lt_zero _))))
/-! ### holds -/
abbrev s_holds : Stmt := top 9
abbrev n_holds : List Str := ["cond", "ahead", "behind", "word", "first"]
theorem sc_holds : FnScope n_holds ["cond", "ahead", "behind"] (defScope s_holds) := ⟨rfl, rfl, rfl, by decide +kernel, rfl, by decide +kernel, by decide +kernel⟩
def spHolds (n : Nat) : Sp := fun vs H Q _ => ∃ x y z e s, vs = [x, y, z] ∧ IsCd H x e ∧ IsSt H y s ∧ e.dep < n ∧ e.sdep 1 ∧ e.wf s.length ∧ Q (.bl (e.holds s)) H
theorem ok_holds {n : Nat} (D : Def K mg "holds" s_holds ["cond", "ahead", "behind"]) (T : Txt K mg) (c_value : Cal P w K mg base "value" ["one", "ahead", "behind"] 2 (spValue 2)) (c_holds : Cal P w K mg base "holds" ["cond", "ahead", "behind"] (n + 2) (spHolds n)) : Cal P w K mg base "holds" ["cond", "ahead", "behind"] (n + 3) (spHolds (n + 1)) := by
  refine D.cal sc_holds (fun vs H Q E h => ?_) (fun f cdv A outer s H vs Q E hr h => ?_)
  · obtain ⟨x, y, z, e, st, rfl, _⟩ := h
    rfl
  obtain ⟨x, y, z, e, st, rfl, hx, hs, hd, hsd, hw, q⟩ := h
  refine ⟨_, (pss_cons (ps_set (i := 3) sc_holds.nd rfl (Or.inl rfl) (pe_ix (ix_tupK K) (pv 0) pe_int (fun _ _ => rfl)))
    (pss_cons (ps_if (pt_cmpR op_eq (pv 3) pe_str (nomark _)) (pss_one (ps_ret pe_bl)) pss_nil)
    (pss_cons (ps_if (pt_cmpR op_eq (pv 3) pe_str (nomark _)) (pss_one (ps_ret (pe_cmpR op_eq (pe_cal c_value (hr.mono (by first | exact Nat.le_refl _ | decide | omega)) rfl (pa_cons (pe_ix (ix_tupK K) (pv 0) pe_int (fun _ _ => rfl)) (pa_cons (pv 1) (pa_cons (pv 2) pa_nil)))) (pe_cal c_value (hr.mono (by first | exact Nat.le_refl _ | decide | omega)) rfl (pa_cons (pe_ix (ix_tupK K) (pv 0) pe_int (fun _ _ => rfl)) (pa_cons (pv 1) (pa_cons (pv 2) pa_nil)))) (nomark _)))) pss_nil)
    (pss_cons (ps_if (pt_cmpR op_eq (pv 3) pe_str (nomark _)) (pss_one (ps_ret (pe_cmpR op_lt (pe_cal c_value (hr.mono (by first | exact Nat.le_refl _ | decide | omega)) rfl (pa_cons (pe_ix (ix_tupK K) (pv 0) pe_int (fun _ _ => rfl)) (pa_cons (pv 1) (pa_cons (pv 2) pa_nil)))) (pe_cal c_value (hr.mono (by first | exact Nat.le_refl _ | decide | omega)) rfl (pa_cons (pe_ix (ix_tupK K) (pv 0) pe_int (fun _ _ => rfl)) (pa_cons (pv 1) (pa_cons (pv 2) pa_nil)))) (nomark _)))) pss_nil)
    (pss_cons (ps_set (i := 4) sc_holds.nd rfl (Or.inl rfl) (pe_cal c_holds (hr.mono (by first | exact Nat.le_refl _ | decide | omega)) rfl (pa_cons (pe_ix (ix_tupK K) (pv 0) pe_int (fun _ _ => rfl)) (pa_cons (pv 1) (pa_cons (pv 2) pa_nil)))))
    (pss_cons (ps_if (pt_cmpR op_eq (pv 3) pe_str (nomark _)) (pss_one (ps_ret (pe_not (pv 4)))) pss_nil)
    (pss_cons (ps_if (pt_cmpR op_eq (pv 3) pe_str (nomark _)) (pss_one (ps_ret (pe_and (pv 4) (pe_one (pe_cal c_holds (hr.mono (by first | exact Nat.le_refl _ | decide | omega)) rfl (pa_cons (pe_ix (ix_tupK K) (pv 0) pe_int (fun _ _ => rfl)) (pa_cons (pv 1) (pa_cons (pv 2) pa_nil)))))))) pss_nil)
    (pss_one (ps_ret (pe_or (pv 4) (pe_one (pe_cal c_holds (hr.mono (by first | exact Nat.le_refl _ | decide | omega)) rfl (pa_cons (pe_ix (ix_tupK K) (pv 0) pe_int (fun _ _ => rfl)) (pa_cons (pv 1) (pa_cons (pv 2) pa_nil))))))))))))))), ?_⟩
  cases hx with
  | @yes a h =>
    refine ⟨_, rfl, a, _, _, _, rfl, rfl, SqT.of h, atI_nat (j := 0) rfl, ?_⟩
    refine ⟨_, rfl, rfl, _, rfl, ifT (by decide +kernel) ?_⟩
    exact q
  | @is a x y p r h hp hr' =>
    refine ⟨_, rfl, a, _, _, _, rfl, rfl, SqT.of h, atI_nat (j := 0) rfl, ?_⟩
    refine ⟨_, rfl, rfl, _, rfl, ifF (by decide +kernel) ?_⟩
    refine ⟨_, rfl, rfl, _, rfl, ifT (by decide +kernel) ?_⟩
    refine ⟨_, rfl, a, _, _, _, rfl, rfl, SqT.of h, atI_nat (j := 1) rfl, _, rfl, _, rfl, x, _, _, p, st, rfl, hp, hs, Nat.lt_succ_of_le hsd.1, hw.1, ?_⟩
    refine ⟨_, rfl, a, _, _, _, rfl, rfl, SqT.of h, atI_nat (j := 2) rfl, _, rfl, _, rfl, y, _, _, r, st, rfl, hr', hs, Nat.lt_succ_of_le hsd.2, hw.2, rfl, ?_⟩
    show Q (.bl (decide (V.int (p.val st) = V.int (r.val st)))) H
    rw [dInt]
    exact q
  | @less a x y p r h hp hr' =>
    refine ⟨_, rfl, a, _, _, _, rfl, rfl, SqT.of h, atI_nat (j := 0) rfl, ?_⟩
    refine ⟨_, rfl, rfl, _, rfl, ifF (by decide +kernel) ?_⟩
    refine ⟨_, rfl, rfl, _, rfl, ifF (by decide +kernel) ?_⟩
    refine ⟨_, rfl, rfl, _, rfl, ifT (by decide +kernel) ?_⟩
    refine ⟨_, rfl, a, _, _, _, rfl, rfl, SqT.of h, atI_nat (j := 1) rfl, _, rfl, _, rfl, x, _, _, p, st, rfl, hp, hs, Nat.lt_succ_of_le hsd.1, hw.1, ?_⟩
    refine ⟨_, rfl, a, _, _, _, rfl, rfl, SqT.of h, atI_nat (j := 2) rfl, _, rfl, _, rfl, y, _, _, r, st, rfl, hr', hs, Nat.lt_succ_of_le hsd.2, hw.2, ?_⟩
    exact ⟨_, _, rfl, rfl, q⟩
  | @not a x p h hp =>
    refine ⟨_, rfl, a, _, _, _, rfl, rfl, SqT.of h, atI_nat (j := 0) rfl, ?_⟩
    refine ⟨_, rfl, rfl, _, rfl, ifF (by decide +kernel) ?_⟩
    refine ⟨_, rfl, rfl, _, rfl, ifF (by decide +kernel) ?_⟩
    refine ⟨_, rfl, rfl, _, rfl, ifF (by decide +kernel) ?_⟩
    refine ⟨_, rfl, a, _, _, _, rfl, rfl, SqT.of h, atI_nat (j := 1) rfl, _, rfl, _, rfl, x, _, _, p, st, rfl, hp, hs, Nat.lt_of_succ_lt_succ hd, hsd, hw, ?_⟩
    refine ⟨_, rfl, rfl, _, rfl, ifT (by decide +kernel) ?_⟩
    exact ⟨_, rfl, _, rfl, q⟩
  | @both a x y p r h hp hr' =>
    have h1 := Nat.lt_of_lt_of_le (Nat.lt_succ_of_le (Nat.le_max_left p.dep r.dep)) (Nat.le_of_lt_succ hd)
    have h2 := Nat.lt_of_lt_of_le (Nat.lt_succ_of_le (Nat.le_max_right p.dep r.dep)) (Nat.le_of_lt_succ hd)
    refine ⟨_, rfl, a, _, _, _, rfl, rfl, SqT.of h, atI_nat (j := 0) rfl, ?_⟩
    refine ⟨_, rfl, rfl, _, rfl, ifF (by decide +kernel) ?_⟩
    refine ⟨_, rfl, rfl, _, rfl, ifF (by decide +kernel) ?_⟩
    refine ⟨_, rfl, rfl, _, rfl, ifF (by decide +kernel) ?_⟩
    refine ⟨_, rfl, a, _, _, _, rfl, rfl, SqT.of h, atI_nat (j := 1) rfl, _, rfl, _, rfl, x, _, _, p, st, rfl, hp, hs, h1, hsd.1, hw.1, ?_⟩
    refine ⟨_, rfl, rfl, _, rfl, ifF (by decide +kernel) ?_⟩
    refine ⟨_, rfl, rfl, _, rfl, ifT (by decide +kernel) ?_⟩
    refine ⟨_, rfl, _, rfl, ?_⟩
    have q' : Q (.bl (p.holds st && r.holds st)) H := q
    cases c : p.holds st with
    | false =>
      rw [c] at q'
      exact q'
    | true =>
      rw [c] at q'
      exact ⟨_, rfl, a, _, _, _, rfl, rfl, SqT.of h, atI_nat (j := 2) rfl, _, rfl, _, rfl, y, _, _, r, st, rfl, hr', hs, h2, hsd.2, hw.2, q'⟩
  | @either a x y p r h hp hr' =>
    have h1 := Nat.lt_of_lt_of_le (Nat.lt_succ_of_le (Nat.le_max_left p.dep r.dep)) (Nat.le_of_lt_succ hd)
    have h2 := Nat.lt_of_lt_of_le (Nat.lt_succ_of_le (Nat.le_max_right p.dep r.dep)) (Nat.le_of_lt_succ hd)
    refine ⟨_, rfl, a, _, _, _, rfl, rfl, SqT.of h, atI_nat (j := 0) rfl, ?_⟩
    refine ⟨_, rfl, rfl, _, rfl, ifF (by decide +kernel) ?_⟩
    refine ⟨_, rfl, rfl, _, rfl, ifF (by decide +kernel) ?_⟩
    refine ⟨_, rfl, rfl, _, rfl, ifF (by decide +kernel) ?_⟩
    refine ⟨_, rfl, a, _, _, _, rfl, rfl, SqT.of h, atI_nat (j := 1) rfl, _, rfl, _, rfl, x, _, _, p, st, rfl, hp, hs, h1, hsd.1, hw.1, ?_⟩
    refine ⟨_, rfl, rfl, _, rfl, ifF (by decide +kernel) ?_⟩
    refine ⟨_, rfl, rfl, _, rfl, ifF (by decide +kernel) ?_⟩
    refine ⟨_, rfl, _, rfl, ?_⟩
    have q' : Q (.bl (p.holds st || r.holds st)) H := q
    cases c : p.holds st with
    | true =>
      rw [c] at q'
      exact q'
    | false =>
      rw [c] at q'
      exact ⟨_, rfl, a, _, _, _, rfl, rfl, SqT.of h, atI_nat (j := 2) rfl, _, rfl, _, rfl, y, _, _, r, st, rfl, hr', hs, h2, hsd.2, hw.2, q'⟩
theorem holds_all (D : Def K mg "holds" s_holds ["cond", "ahead", "behind"]) (T : Txt K mg) (c_value : Cal P w K mg base "value" ["one", "ahead", "behind"] 2 (spValue 2)) : Cal P w K mg base "holds" ["cond", "ahead", "behind"] 4 (spHolds 2) :=
  ok_holds D T c_value (ok_holds D T c_value (D.vac (fun vs H Q E h => by
    obtain ⟨x, y, z, e, s, _, _, _, h, _⟩ := h
    exact absurd h (Nat.not_lt_zero _))))
/-! ### the law's value -/
abbrev s_law_value : Stmt := top 33
abbrev n_law_value : List Str := ["_law_one", "_law_stand"]
theorem sc_law_value : FnScope n_law_value ["_law_one", "_law_stand"] (defScope s_law_value) := ⟨rfl, rfl, rfl, by decide +kernel, rfl, by decide +kernel, by decide +kernel⟩
def spLValue (n : Nat) : Sp := fun vs H Q _ => ∃ x y e s, vs = [x, y] ∧ IsSm H x e ∧ IsSt H y s ∧ e.dep < n ∧ e.wf s.length ∧ Q (.int (e.val s)) H
theorem ok_law_value {n : Nat} (D : Def K mg "_law_value" s_law_value ["_law_one", "_law_stand"]) (T : Txt K mg) (c_law_value : Cal P w K mg base "_law_value" ["_law_one", "_law_stand"] n (spLValue n)) : Cal P w K mg base "_law_value" ["_law_one", "_law_stand"] (n + 1) (spLValue (n + 1)) := by
  refine D.cal sc_law_value (fun vs H Q E h => ?_) (fun f cdv A outer s H vs Q E hr h => ?_)
  · obtain ⟨x, y, e, st, rfl, _⟩ := h
    rfl
  obtain ⟨x, y, e, st, rfl, hx, ⟨b, rfl, hb⟩, hd, hw, q⟩ := h
  refine ⟨_, (pss_cons (ps_if (pt_cmpR op_eq (pe_ix (ix_tupK K) (pv 0) pe_int (fun _ _ => rfl)) pe_str (nomark _)) (pss_one (ps_ret (pe_ix (ix_tupK K) (pv 0) pe_int (fun _ _ => rfl)))) pss_nil)
    (pss_cons (ps_if (pt_cmpR op_eq (pe_ix (ix_tupK K) (pv 0) pe_int (fun _ _ => rfl)) pe_str (nomark _)) (pss_one (ps_ret (pe_ix (ix_tupK K) (pv 1) (pe_ix (ix_tupK K) (pv 0) pe_int (fun _ _ => rfl)) (fun _ _ => rfl)))) pss_nil)
    (pss_cons (ps_if (pt_cmpR op_eq (pe_ix (ix_tupK K) (pv 0) pe_int (fun _ _ => rfl)) pe_str (nomark _)) (pss_one (ps_ret (pe_op op_add (pe_cal c_law_value (hr.mono (by first | exact Nat.le_refl _ | decide | omega)) rfl (pa_cons (pe_ix (ix_tupK K) (pv 0) pe_int (fun _ _ => rfl)) (pa_cons (pv 1) pa_nil))) (pe_cal c_law_value (hr.mono (by first | exact Nat.le_refl _ | decide | omega)) rfl (pa_cons (pe_ix (ix_tupK K) (pv 0) pe_int (fun _ _ => rfl)) (pa_cons (pv 1) pa_nil)))))) pss_nil)
    (pss_one (ps_ret (pe_op op_sub (pe_cal c_law_value (hr.mono (by first | exact Nat.le_refl _ | decide | omega)) rfl (pa_cons (pe_ix (ix_tupK K) (pv 0) pe_int (fun _ _ => rfl)) (pa_cons (pv 1) pa_nil))) (pe_cal c_law_value (hr.mono (by first | exact Nat.le_refl _ | decide | omega)) rfl (pa_cons (pe_ix (ix_tupK K) (pv 0) pe_int (fun _ _ => rfl)) (pa_cons (pv 1) pa_nil))))))))), ?_⟩
  cases hx with
  | @num a k h =>
    refine ⟨_, rfl, a, _, _, _, rfl, rfl, SqT.of h, atI_nat (j := 0) rfl, rfl, _, rfl, ifT (by decide +kernel) ?_⟩
    exact ⟨_, rfl, a, _, _, _, rfl, rfl, SqT.of h, atI_nat (j := 1) rfl, q⟩
  | @box a k h =>
    refine ⟨_, rfl, a, _, _, _, rfl, rfl, SqT.of h, atI_nat (j := 0) rfl, rfl, _, rfl, ifF (by decide +kernel) ?_⟩
    refine ⟨_, rfl, a, _, _, _, rfl, rfl, SqT.of h, atI_nat (j := 0) rfl, rfl, _, rfl, ifT (by decide +kernel) ?_⟩
    have hk : (st.map V.int)[k]? = some (.int (st.getD k 0)) := by
      rw [List.getElem?_map, List.getD_eq_getElem?_getD]
      have hk : k < st.length := hw
      rw [List.getElem?_eq_getElem hk]
      rfl
    exact ⟨_, rfl, _, rfl, a, _, _, _, rfl, rfl, SqT.of h, atI_nat (j := 1) rfl, b, _, _, _, rfl, rfl, SqT.of hb, atI_nat hk, q⟩
  | @plus a x y p r h hp hr' =>
    have h1 := Nat.lt_of_lt_of_le (Nat.lt_succ_of_le (Nat.le_max_left p.dep r.dep)) (Nat.le_of_lt_succ hd)
    have h2 := Nat.lt_of_lt_of_le (Nat.lt_succ_of_le (Nat.le_max_right p.dep r.dep)) (Nat.le_of_lt_succ hd)
    refine ⟨_, rfl, a, _, _, _, rfl, rfl, SqT.of h, atI_nat (j := 0) rfl, rfl, _, rfl, ifF (by decide +kernel) ?_⟩
    refine ⟨_, rfl, a, _, _, _, rfl, rfl, SqT.of h, atI_nat (j := 0) rfl, rfl, _, rfl, ifF (by decide +kernel) ?_⟩
    refine ⟨_, rfl, a, _, _, _, rfl, rfl, SqT.of h, atI_nat (j := 0) rfl, rfl, _, rfl, ifT (by decide +kernel) ?_⟩
    refine ⟨_, rfl, a, _, _, _, rfl, rfl, SqT.of h, atI_nat (j := 1) rfl, _, rfl, x, _, p, st, rfl, hp, ⟨b, rfl, hb⟩, h1, hw.1, ?_⟩
    exact ⟨_, rfl, a, _, _, _, rfl, rfl, SqT.of h, atI_nat (j := 2) rfl, _, rfl, y, _, r, st, rfl, hr', ⟨b, rfl, hb⟩, h2, hw.2, _, _, rfl, rfl, q⟩
  | @minus a x y p r h hp hr' =>
    have h1 := Nat.lt_of_lt_of_le (Nat.lt_succ_of_le (Nat.le_max_left p.dep r.dep)) (Nat.le_of_lt_succ hd)
    have h2 := Nat.lt_of_lt_of_le (Nat.lt_succ_of_le (Nat.le_max_right p.dep r.dep)) (Nat.le_of_lt_succ hd)
    refine ⟨_, rfl, a, _, _, _, rfl, rfl, SqT.of h, atI_nat (j := 0) rfl, rfl, _, rfl, ifF (by decide +kernel) ?_⟩
    refine ⟨_, rfl, a, _, _, _, rfl, rfl, SqT.of h, atI_nat (j := 0) rfl, rfl, _, rfl, ifF (by decide +kernel) ?_⟩
    refine ⟨_, rfl, a, _, _, _, rfl, rfl, SqT.of h, atI_nat (j := 0) rfl, rfl, _, rfl, ifF (by decide +kernel) ?_⟩
    refine ⟨_, rfl, a, _, _, _, rfl, rfl, SqT.of h, atI_nat (j := 1) rfl, _, rfl, x, _, p, st, rfl, hp, ⟨b, rfl, hb⟩, h1, hw.1, ?_⟩
    exact ⟨_, rfl, a, _, _, _, rfl, rfl, SqT.of h, atI_nat (j := 2) rfl, _, rfl, y, _, r, st, rfl, hr', ⟨b, rfl, hb⟩, h2, hw.2, _, _, rfl, rfl, q⟩
theorem law_value_all (D : Def K mg "_law_value" s_law_value ["_law_one", "_law_stand"]) (T : Txt K mg) : Cal P w K mg base "_law_value" ["_law_one", "_law_stand"] 2 (spLValue 2) :=
  ok_law_value D T (ok_law_value D T (D.vac (fun vs H Q E h => by
    obtain ⟨x, y, e, s, _, _, _, h, _⟩ := h
    exact absurd h (Nat.not_lt_zero _))))
/-! ### the law's holds -/
abbrev s_law_holds : Stmt := top 34
abbrev n_law_holds : List Str := ["_law_cond_here", "_law_stand"]
theorem sc_law_holds : FnScope n_law_holds ["_law_cond_here", "_law_stand"] (defScope s_law_holds) := ⟨rfl, rfl, rfl, by decide +kernel, rfl, by decide +kernel, by decide +kernel⟩
def spLHolds (n : Nat) : Sp := fun vs H Q _ => ∃ x y e s, vs = [x, y] ∧ IsCd H x e ∧ IsSt H y s ∧ e.dep < n ∧ e.sdep 1 ∧ e.wf s.length ∧ Q (.bl (e.holds s)) H
theorem ok_law_holds {n : Nat} (D : Def K mg "_law_holds" s_law_holds ["_law_cond_here", "_law_stand"]) (T : Txt K mg) (c_law_value : Cal P w K mg base "_law_value" ["_law_one", "_law_stand"] 2 (spLValue 2)) (c_law_holds : Cal P w K mg base "_law_holds" ["_law_cond_here", "_law_stand"] (n + 2) (spLHolds n)) : Cal P w K mg base "_law_holds" ["_law_cond_here", "_law_stand"] (n + 3) (spLHolds (n + 1)) := by
  refine D.cal sc_law_holds (fun vs H Q E h => ?_) (fun f cdv A outer s H vs Q E hr h => ?_)
  · obtain ⟨x, y, e, st, rfl, _⟩ := h
    rfl
  obtain ⟨x, y, e, st, rfl, hx, hs, hd, hsd, hw, q⟩ := h
  refine ⟨_, (pss_cons (ps_if (pt_cmpR op_eq (pe_ix (ix_tupK K) (pv 0) pe_int (fun _ _ => rfl)) pe_str (nomark _)) (pss_one (ps_ret pe_bl)) pss_nil)
    (pss_cons (ps_if (pt_cmpR op_eq (pe_ix (ix_tupK K) (pv 0) pe_int (fun _ _ => rfl)) pe_str (nomark _)) (pss_one (ps_ret (pe_cmpR op_eq (pe_cal c_law_value (hr.mono (by first | exact Nat.le_refl _ | decide | omega)) rfl (pa_cons (pe_ix (ix_tupK K) (pv 0) pe_int (fun _ _ => rfl)) (pa_cons (pv 1) pa_nil))) (pe_cal c_law_value (hr.mono (by first | exact Nat.le_refl _ | decide | omega)) rfl (pa_cons (pe_ix (ix_tupK K) (pv 0) pe_int (fun _ _ => rfl)) (pa_cons (pv 1) pa_nil))) (nomark _)))) pss_nil)
    (pss_cons (ps_if (pt_cmpR op_eq (pe_ix (ix_tupK K) (pv 0) pe_int (fun _ _ => rfl)) pe_str (nomark _)) (pss_one (ps_ret (pe_cmpR op_lt (pe_cal c_law_value (hr.mono (by first | exact Nat.le_refl _ | decide | omega)) rfl (pa_cons (pe_ix (ix_tupK K) (pv 0) pe_int (fun _ _ => rfl)) (pa_cons (pv 1) pa_nil))) (pe_cal c_law_value (hr.mono (by first | exact Nat.le_refl _ | decide | omega)) rfl (pa_cons (pe_ix (ix_tupK K) (pv 0) pe_int (fun _ _ => rfl)) (pa_cons (pv 1) pa_nil))) (nomark _)))) pss_nil)
    (pss_cons (ps_if (pt_cmpR op_eq (pe_ix (ix_tupK K) (pv 0) pe_int (fun _ _ => rfl)) pe_str (nomark _)) (pss_one (ps_ret (pe_not (pe_cal c_law_holds (hr.mono (by first | exact Nat.le_refl _ | decide | omega)) rfl (pa_cons (pe_ix (ix_tupK K) (pv 0) pe_int (fun _ _ => rfl)) (pa_cons (pv 1) pa_nil)))))) pss_nil)
    (pss_cons (ps_if (pt_cmpR op_eq (pe_ix (ix_tupK K) (pv 0) pe_int (fun _ _ => rfl)) pe_str (nomark _)) (pss_one (ps_ret (pe_and (pe_cal c_law_holds (hr.mono (by first | exact Nat.le_refl _ | decide | omega)) rfl (pa_cons (pe_ix (ix_tupK K) (pv 0) pe_int (fun _ _ => rfl)) (pa_cons (pv 1) pa_nil))) (pe_one (pe_cal c_law_holds (hr.mono (by first | exact Nat.le_refl _ | decide | omega)) rfl (pa_cons (pe_ix (ix_tupK K) (pv 0) pe_int (fun _ _ => rfl)) (pa_cons (pv 1) pa_nil))))))) pss_nil)
    (pss_one (ps_ret (pe_or (pe_cal c_law_holds (hr.mono (by first | exact Nat.le_refl _ | decide | omega)) rfl (pa_cons (pe_ix (ix_tupK K) (pv 0) pe_int (fun _ _ => rfl)) (pa_cons (pv 1) pa_nil))) (pe_one (pe_cal c_law_holds (hr.mono (by first | exact Nat.le_refl _ | decide | omega)) rfl (pa_cons (pe_ix (ix_tupK K) (pv 0) pe_int (fun _ _ => rfl)) (pa_cons (pv 1) pa_nil)))))))))))), ?_⟩
  cases hx with
  | @yes a h =>
    refine ⟨_, rfl, a, _, _, _, rfl, rfl, SqT.of h, atI_nat (j := 0) rfl, rfl, _, rfl, ifT (by decide +kernel) ?_⟩
    exact q
  | @is a x y p r h hp hr' =>
    refine ⟨_, rfl, a, _, _, _, rfl, rfl, SqT.of h, atI_nat (j := 0) rfl, rfl, _, rfl, ifF (by decide +kernel) ?_⟩
    refine ⟨_, rfl, a, _, _, _, rfl, rfl, SqT.of h, atI_nat (j := 0) rfl, rfl, _, rfl, ifT (by decide +kernel) ?_⟩
    refine ⟨_, rfl, a, _, _, _, rfl, rfl, SqT.of h, atI_nat (j := 1) rfl, _, rfl, x, _, p, st, rfl, hp, hs, Nat.lt_succ_of_le hsd.1, hw.1, ?_⟩
    refine ⟨_, rfl, a, _, _, _, rfl, rfl, SqT.of h, atI_nat (j := 2) rfl, _, rfl, y, _, r, st, rfl, hr', hs, Nat.lt_succ_of_le hsd.2, hw.2, rfl, ?_⟩
    show Q (.bl (decide (V.int (p.val st) = V.int (r.val st)))) H
    rw [dInt]
    exact q
  | @less a x y p r h hp hr' =>
    refine ⟨_, rfl, a, _, _, _, rfl, rfl, SqT.of h, atI_nat (j := 0) rfl, rfl, _, rfl, ifF (by decide +kernel) ?_⟩
    refine ⟨_, rfl, a, _, _, _, rfl, rfl, SqT.of h, atI_nat (j := 0) rfl, rfl, _, rfl, ifF (by decide +kernel) ?_⟩
    refine ⟨_, rfl, a, _, _, _, rfl, rfl, SqT.of h, atI_nat (j := 0) rfl, rfl, _, rfl, ifT (by decide +kernel) ?_⟩
    refine ⟨_, rfl, a, _, _, _, rfl, rfl, SqT.of h, atI_nat (j := 1) rfl, _, rfl, x, _, p, st, rfl, hp, hs, Nat.lt_succ_of_le hsd.1, hw.1, ?_⟩
    exact ⟨_, rfl, a, _, _, _, rfl, rfl, SqT.of h, atI_nat (j := 2) rfl, _, rfl, y, _, r, st, rfl, hr', hs, Nat.lt_succ_of_le hsd.2, hw.2, _, _, rfl, rfl, q⟩
  | @not a x p h hp =>
    refine ⟨_, rfl, a, _, _, _, rfl, rfl, SqT.of h, atI_nat (j := 0) rfl, rfl, _, rfl, ifF (by decide +kernel) ?_⟩
    refine ⟨_, rfl, a, _, _, _, rfl, rfl, SqT.of h, atI_nat (j := 0) rfl, rfl, _, rfl, ifF (by decide +kernel) ?_⟩
    refine ⟨_, rfl, a, _, _, _, rfl, rfl, SqT.of h, atI_nat (j := 0) rfl, rfl, _, rfl, ifF (by decide +kernel) ?_⟩
    refine ⟨_, rfl, a, _, _, _, rfl, rfl, SqT.of h, atI_nat (j := 0) rfl, rfl, _, rfl, ifT (by decide +kernel) ?_⟩
    exact ⟨_, rfl, a, _, _, _, rfl, rfl, SqT.of h, atI_nat (j := 1) rfl, _, rfl, x, _, p, st, rfl, hp, hs, Nat.lt_of_succ_lt_succ hd, hsd, hw, _, rfl, q⟩
  | @both a x y p r h hp hr' =>
    have h1 := Nat.lt_of_lt_of_le (Nat.lt_succ_of_le (Nat.le_max_left p.dep r.dep)) (Nat.le_of_lt_succ hd)
    have h2 := Nat.lt_of_lt_of_le (Nat.lt_succ_of_le (Nat.le_max_right p.dep r.dep)) (Nat.le_of_lt_succ hd)
    refine ⟨_, rfl, a, _, _, _, rfl, rfl, SqT.of h, atI_nat (j := 0) rfl, rfl, _, rfl, ifF (by decide +kernel) ?_⟩
    refine ⟨_, rfl, a, _, _, _, rfl, rfl, SqT.of h, atI_nat (j := 0) rfl, rfl, _, rfl, ifF (by decide +kernel) ?_⟩
    refine ⟨_, rfl, a, _, _, _, rfl, rfl, SqT.of h, atI_nat (j := 0) rfl, rfl, _, rfl, ifF (by decide +kernel) ?_⟩
    refine ⟨_, rfl, a, _, _, _, rfl, rfl, SqT.of h, atI_nat (j := 0) rfl, rfl, _, rfl, ifF (by decide +kernel) ?_⟩
    refine ⟨_, rfl, a, _, _, _, rfl, rfl, SqT.of h, atI_nat (j := 0) rfl, rfl, _, rfl, ifT (by decide +kernel) ?_⟩
    refine ⟨_, rfl, a, _, _, _, rfl, rfl, SqT.of h, atI_nat (j := 1) rfl, _, rfl, x, _, p, st, rfl, hp, hs, h1, hsd.1, hw.1, _, rfl, ?_⟩
    have q' : Q (.bl (p.holds st && r.holds st)) H := q
    cases c : p.holds st with
    | false =>
      rw [c] at q'
      exact q'
    | true =>
      rw [c] at q'
      exact ⟨_, rfl, a, _, _, _, rfl, rfl, SqT.of h, atI_nat (j := 2) rfl, _, rfl, y, _, r, st, rfl, hr', hs, h2, hsd.2, hw.2, q'⟩
  | @either a x y p r h hp hr' =>
    have h1 := Nat.lt_of_lt_of_le (Nat.lt_succ_of_le (Nat.le_max_left p.dep r.dep)) (Nat.le_of_lt_succ hd)
    have h2 := Nat.lt_of_lt_of_le (Nat.lt_succ_of_le (Nat.le_max_right p.dep r.dep)) (Nat.le_of_lt_succ hd)
    refine ⟨_, rfl, a, _, _, _, rfl, rfl, SqT.of h, atI_nat (j := 0) rfl, rfl, _, rfl, ifF (by decide +kernel) ?_⟩
    refine ⟨_, rfl, a, _, _, _, rfl, rfl, SqT.of h, atI_nat (j := 0) rfl, rfl, _, rfl, ifF (by decide +kernel) ?_⟩
    refine ⟨_, rfl, a, _, _, _, rfl, rfl, SqT.of h, atI_nat (j := 0) rfl, rfl, _, rfl, ifF (by decide +kernel) ?_⟩
    refine ⟨_, rfl, a, _, _, _, rfl, rfl, SqT.of h, atI_nat (j := 0) rfl, rfl, _, rfl, ifF (by decide +kernel) ?_⟩
    refine ⟨_, rfl, a, _, _, _, rfl, rfl, SqT.of h, atI_nat (j := 0) rfl, rfl, _, rfl, ifF (by decide +kernel) ?_⟩
    refine ⟨_, rfl, a, _, _, _, rfl, rfl, SqT.of h, atI_nat (j := 1) rfl, _, rfl, x, _, p, st, rfl, hp, hs, h1, hsd.1, hw.1, _, rfl, ?_⟩
    have q' : Q (.bl (p.holds st || r.holds st)) H := q
    cases c : p.holds st with
    | true =>
      rw [c] at q'
      exact q'
    | false =>
      rw [c] at q'
      exact ⟨_, rfl, a, _, _, _, rfl, rfl, SqT.of h, atI_nat (j := 2) rfl, _, rfl, y, _, r, st, rfl, hr', hs, h2, hsd.2, hw.2, q'⟩
theorem law_holds_all (D : Def K mg "_law_holds" s_law_holds ["_law_cond_here", "_law_stand"]) (T : Txt K mg) (c_law_value : Cal P w K mg base "_law_value" ["_law_one", "_law_stand"] 2 (spLValue 2)) : Cal P w K mg base "_law_holds" ["_law_cond_here", "_law_stand"] 4 (spLHolds 2) :=
  ok_law_holds D T c_law_value (ok_law_holds D T c_law_value (D.vac (fun vs H Q E h => by
    obtain ⟨x, y, e, s, _, _, _, h, _⟩ := h
    exact absurd h (Nat.not_lt_zero _))))
end
end Hm
end

section
set_option Elab.async false
set_option linter.all false
set_option maxRecDepth 100000
set_option maxHeartbeats 4000000
/-! stands, is_stand, stands_of and the law's stands. -/
namespace Hm
open PySem L2
/-- boxes as the law draws them -/
structure BoxOk (tops : List Int) : Prop where
  ne : tops ≠ []
  len : tops.length ≤ 4
  top : ∀ t ∈ tops, 1 ≤ t ∧ t ≤ 7
  room : room tops ≤ 12
theorem foldl_grow_le : ∀ (tops : List Int) (found : List Stand) (n : Nat), (∀ t ∈ tops, t ≤ 7) → tops.length ≤ n → (tops.foldl grow found).length ≤ found.length * 8 ^ n
  | [], found, n, _, _ => by
    show found.length ≤ _
    exact Nat.le_mul_of_pos_right _ (Nat.pow_pos (by decide))
  | t :: ts, found, 0, _, hl => by simp at hl
  | t :: ts, found, n + 1, h, hl => by
    have ih := foldl_grow_le ts (grow found t) n (fun u hu => h u (List.mem_cons_of_mem _ hu)) (by simpa using hl)
    have ht := h t List.mem_cons_self
    rw [length_grow] at ih
    show (ts.foldl grow (grow found t)).length ≤ _
    refine Nat.le_trans ih ?_
    rw [Nat.pow_succ, Nat.mul_comm (8 ^ n) 8, ← Nat.mul_assoc]
    exact Nat.mul_le_mul_right _ (Nat.mul_le_mul_left _ (by omega))
theorem BoxOk.part {tops : List Int} (b : BoxOk tops) (i : Nat) : ((tops.take i).foldl grow [[]]).length ≤ 4096 := by
  have h := foldl_grow_le (tops.take i) [[]] 4 (fun t ht => (b.top t (List.mem_of_mem_take ht)).2) (by rw [List.length_take]; have := b.len; omega)
  simpa using h
theorem BoxOk.stands {tops : List Int} (b : BoxOk tops) : (standsF tops).length ≤ 12 := by rw [length_standsF]; exact b.room

section
variable {P : Program} {w : World} {K : PySem.W.Frag} {mg : Str → Option Value} {base : Heap}
abbrev s_is_whole : Stmt := top 4
abbrev n_is_whole : List Str := ["thing"]
theorem sc_is_whole : FnScope n_is_whole ["thing"] (defScope s_is_whole) := ⟨rfl, rfl, rfl, by decide +kernel, rfl, by decide +kernel, by decide +kernel⟩
def spWhole : Sp := fun vs H Q _ => ∃ i, vs = [.int i] ∧ Q (.bl true) H
theorem ok_is_whole (D : Def K mg "is_whole" s_is_whole ["thing"]) (T : Txt K mg) : Cal P w K mg base "is_whole" ["thing"] 1 spWhole := by
  refine D.cal sc_is_whole (fun vs H Q E h => ?_) (fun f cdv A outer s H vs Q E hr h => ?_)
  · obtain ⟨i, rfl, _⟩ := h
    rfl
  obtain ⟨i, rfl, q⟩ := h
  refine ⟨_, (pss_one (ps_ret (pe_and (pe_callB (call_isiK K) (by rfl) T.isinstance (by decide +kernel) (pa_cons (pv 0) (pa_cons (pe_bltn (v := .ty "int") (by rfl) T.int (by decide +kernel) rfl) pa_nil))) (pe_one (pe_not (pe_callB (call_isiK K) (by rfl) T.isinstance (by decide +kernel) (pa_cons (pv 0) (pa_cons (pe_bltn (v := .ty "bool") (by rfl) T.bool (by decide +kernel) rfl) pa_nil)))))))), ?_⟩
  refine ⟨_, rfl, _, _, _, _, true, rfl, .ty "int", .base (.int i), kit_ty (by decide +kernel), true, rfl, ?_⟩
  exact ⟨_, rfl, _, _, _, _, false, rfl, .ty "bool", .base (.int i), kit_ty (by decide +kernel), _, rfl, q⟩
def spStands : Sp := fun vs H Q _ => ∃ v tops, vs = [v] ∧ IsBoxes H v tops ∧ BoxOk tops ∧ ∀ v' H', Same H H' → IsSts (nw H H') v' (standsF tops) → Q v' H'
abbrev s_stands : Stmt := top 5
abbrev n_stands : List Str := ["boxes", "found", "name", "top", "longer", "stand", "number"]
theorem sc_stands : FnScope n_stands ["boxes"] (defScope s_stands) := ⟨rfl, rfl, rfl, by decide +kernel, rfl, by decide +kernel, by decide +kernel⟩
theorem ok_stands (D : Def K mg "stands" s_stands ["boxes"]) (T : Txt K mg) : Cal P w K mg base "stands" ["boxes"] 1 spStands := by
  refine D.cal sc_stands (fun vs H Q E h => ?_) (fun f cdv A outer s H vs Q E hr h => ?_)
  · obtain ⟨v, tops, rfl, _⟩ := h
    rfl
  obtain ⟨v, tops, rfl, ⟨a, vs, rfl, ha, hp⟩, hb, q⟩ := h
  refine ⟨_, (pss_cons (ps_set (i := 1) sc_stands.nd rfl (Or.inl rfl) (pe_lst (pa_cons (pe_tup pa_nil) pa_nil)))
    (pss_cons (ps_for PassesOwn.never rfl (pi_listK K (pv 0)) (pg_tupK (n := 2) K rfl (pgs_cons (pg_name (i := 2) sc_stands.nd rfl (Or.inl rfl)) (pgs_cons (pg_name (i := 3) sc_stands.nd rfl (Or.inl rfl)) pgs_nil))) (pss_cons (ps_set (i := 4) sc_stands.nd rfl (Or.inl rfl) (pe_lst pa_nil))
        (pss_cons (ps_for PassesOwn.never rfl (pi_listK K (pv 1)) (pg_name (i := 5) sc_stands.nd rfl (Or.inr rfl)) (pss_one (ps_expr (pe_bm PySem.F.plainAttrs_list PySem.F.slot_list_extend PySem.F.type_list_extend mt_extend (pv 4) (pa_cons (pe_lc (own := [("number", 6)]) (g := gName 6) rfl sc_stands.nd (pi_range1 rfl T.range (pa_cons (pe_op op_add (pv 3) pe_int) pa_nil)) (blkOk_by (own := [("number", 6)]) (N := n_stands) (sc := defScope s_stands) (by decide +kernel)) (fun _ _ _ _ _ => (pg_name (i := 6) sc_stands.nd rfl (Or.inl rfl))) (fun _ _ _ _ _ => pts_nil) (fun _ _ _ _ _ => (pe_op (op_catAK K) (pv 5) (pe_tup (pa_cons (pv 6) pa_nil))))) pa_nil)))))
        (pss_one (ps_set (i := 1) sc_stands.nd rfl (Or.inl rfl) (pv 4))))))
    (pss_one (ps_ret (pv 1))))), ?_⟩
  refine ⟨by decide, fun t ht => ⟨sz_of (show 1 ≤ 100000 by decide), fun l hl => ?_⟩⟩
  have htl : t ≠ l := ne_of_none (upd_same (o := .tup [])) hl
  have s0 : Same H (upd (upd H t (.tup [])) l (.lst [.ref t])) := (same_new ht _).trans (same_new hl _)
  refine ⟨_, rfl, a, rfl, ⟨_, SqL.of (s0 _ _ ha)⟩, for_list (K := K) (a := a) (xs := vs)
    (fun i σ H' => ∃ p x2 x3 x4 x5, σ = [some (.ref a), some (.ref p), x2, x3, x4, x5, none] ∧ Same H H' ∧ IsSts (nw H H') (.ref p) ((tops.take i).foldl grow [[]]))
    ⟨l, none, none, none, none, rfl, s0, l, [.ref t], rfl, ?_, .cons ⟨t, rfl, ?_⟩ .nil⟩ (fun i σ H' _ ⟨_, _, _, _, _, _, s, _⟩ => SqL.of (s _ _ ha)) ?_ ?_⟩
  · rw [nw_none ((same_new ht _).free hl)]
    exact upd_same
  · rw [nw_none ht, upd_ne htl]
    exact upd_same
  · rintro i y σ H' hi ⟨p, x2, x3, x4, x5, rfl, s1, hf⟩
    obtain ⟨top, htop, b, nm, rfl, hbx⟩ := paired_getl hp hi
    have h7 := hb.top top (List.mem_of_getElem? htop)
    obtain ⟨p', ws, ep, hpl, hws⟩ := id hf
    cases ep
    have hpl' : H' p = some (.lst ws) := nw_sub (TK.same s1) _ _ hpl
    have hp0 : H p = none := by
      rcases nw_cases hpl with ⟨xs, _, e⟩ | ⟨e, _⟩
      · cases e
      · exact e
    have hws' : Paired (IsSt H') ws ((tops.take i).foldl grow [[]]) := paired_mono st_tm.mono (nw_sub (TK.same s1)) hws
    have hlen := hb.part i
    refine ⟨b, _, rfl, SqT.of (s1 _ _ hbx), rfl, _, _, rfl, _, _, rfl, rfl, ?_⟩
    refine ⟨by decide, fun q0 hq0 => ?_⟩
    have nqp : p ≠ q0 := ne_of_none hpl' hq0
    have s2 : Same H' (upd H' q0 (.lst [])) := same_new hq0 _
    refine ⟨_, rfl, p, rfl, ⟨_, SqL.of (s2 _ _ hpl')⟩, for_list (K := K) (a := p) (xs := ws)
      (fun j σ H2 => ∃ x5 ys, σ = [some (.ref a), some (.ref p), some (.str nm), some (.int top), some (.ref q0), x5, none] ∧ Same H' H2 ∧ H2 q0 = some (.lst ys) ∧ Paired (IsSt H2) ys (grow (((tops.take i).foldl grow [[]]).take j) top))
      ⟨_, [], rfl, s2, upd_same, .nil⟩ (fun j σ H2 _ ⟨_, _, _, s, _⟩ => SqL.of (s _ _ hpl')) ?_ ?_⟩
    · rintro j y σ H2 hj ⟨x5, ys, rfl, s3, hys, hpy⟩
      obtain ⟨st, hst, hy⟩ := paired_getl hws' hj
      have hj' := (List.getElem?_eq_some_iff.mp hst).1
      have hylen : ys.length ≤ 100000 - 10 := by
        rw [hpy.length, length_grow, List.length_take]
        have e1 : min j ((tops.take i).foldl grow [[]]).length ≤ 4096 := Nat.le_trans (Nat.min_le_right _ _) hlen
        have e2 : (top + 1).toNat ≤ 8 := by omega
        exact Nat.le_trans (Nat.mul_le_mul e1 e2) (by decide)
      refine ⟨_, rfl, .inl ⟨rfl, _, SqL.of hys⟩, ?_⟩
      refine ⟨_, rfl, _, _, rfl, rfl, _, rfl, by omega, by omega, lcP (walk_range (lo := 0) (n := (top + 1).toNat)) (List.range (top + 1).toNat) (fun _ => true) (fun i => st ++ [(i : Int)]) IsSt st_tm.mono (List.length_range) (by omega)
        (fun _ _ => True.intro) (fun k n' H3 x H4 F N hk hs3 hy3 hN hF => ?_) (fun L H3 hs3 hv => ?_)⟩
      · obtain ⟨e1, e2⟩ := hy3
        subst e1 e2
        have en : n' = k := by
          obtain ⟨h1, h2⟩ := List.getElem?_eq_some_iff.mp hk
          rw [List.getElem_range] at h2
          exact h2.symm
        subst en
        obtain ⟨c, rfl, hc⟩ := st_tm.mono _ _ _ _ (s3.trans hs3) hy
        refine ⟨rfl, yesT ?_⟩
        refine ⟨_, rfl, _, rfl, sz_of (show 1 ≤ 100000 by decide), fun d hd => ?_⟩
        have s4 : Same H4 (upd H4 d (.tup [.int (0 + (n' : Int))])) := same_new hd _
        refine ⟨c, d, _, _, rfl, rfl, SqT.of (s4 _ _ hc), SqT.of upd_same, ?_, fun e => ?_, (fun _ e => nomatch e), fun _ _ e he => ?_⟩
        · rw [List.length_map]
          have : st.length ≤ 4 := by
            have hm := (mem_foldl_grow (tops.take i) [] [[]] valid_nil st).mp (List.mem_of_getElem? hst)
            rw [List.nil_append] at hm
            rw [hm.1, List.length_take]
            have := hb.len
            omega
          exact sz_of (by simp only [List.length_cons, List.length_nil]; omega)
        · have e' : st = [] := List.map_eq_nil_iff.mp e
          subst e'
          refine hF _ _ s4 rfl (nw_tm st_tm s4 ⟨d, rfl, ?_⟩)
          rw [upd_same]
          simp
        · have s5 := s4.trans (same_new he (.tup (st.map V.int ++ [.int (0 + (n' : Int))])))
          refine hF _ _ s5 rfl (nw_tm st_tm s5 ⟨e, rfl, ?_⟩)
          rw [upd_same]
          simp
      · obtain ⟨L', zs, eL, hL, hz⟩ := hv
        cases eL
        have hL' := nw_sub (TK.same hs3) _ _ hL
        have ef : List.filter (fun _ : Nat => true) (List.range (top + 1).toNat) = List.range (top + 1).toNat := List.filter_eq_self.mpr fun _ _ => rfl
        rw [ef] at hz
        have hz' := paired_mono st_tm.mono (nw_sub (TK.same hs3)) hz
        have hzl : zs.length ≤ 8 := by
          rw [hz.length, List.length_map, List.length_range]
          omega
        refine ⟨q0, L, ys, zs, rfl, rfl, hs3 _ _ hys, hL', sz_of (by omega), ?_⟩
        have tk : TK H3 (upd H3 q0 (.lst (ys ++ zs))) := TK.upd fun xs e => by
          rw [hs3 _ _ hys] at e
          cases e
        refine ⟨_, _, rfl, fun b' o' e' => ?_, upd_same, ?_⟩
        · rw [upd_ne]
          · exact hs3 _ _ (s3 _ _ e')
          · intro e
            rw [e, hq0] at e'
            cases e'
        · rw [take_snoc hst]
          unfold grow
          rw [List.flatMap_append, List.flatMap_cons, List.flatMap_nil, List.append_nil]
          exact paired_tmono st_tm tk (paired_app (paired_mono st_tm.mono hs3 hpy) hz')
    · rintro σ H2 ⟨x5, ys, rfl, s3, hys, hpy⟩
      rw [hws'.length, take_all] at hpy
      refine ⟨_, rfl, q0, _, _, _, _, rfl, s1.trans s3, q0, ys, rfl, ?_, ?_⟩
      · rw [nw_none (s1.free hq0)]
        exact hys
      · rw [take_snoc htop, List.foldl_append]
        exact paired_tmono st_tm (nw_tk (s1.trans s3)) hpy
  · rintro σ H' ⟨p, x2, x3, x4, x5, rfl, s1, hf⟩
    rw [hp.length, take_all] at hf
    exact ⟨_, rfl, q _ _ s1 hf⟩
abbrev s_law_stands : Stmt := top 36
abbrev n_law_stands : List Str := ["_law_boxes_here", "_law_found", "_law_name", "_law_top", "_law_longer", "_law_stand", "_law_number"]
theorem sc_law_stands : FnScope n_law_stands ["_law_boxes_here"] (defScope s_law_stands) := ⟨rfl, rfl, rfl, by decide +kernel, rfl, by decide +kernel, by decide +kernel⟩
theorem ok_law_stands (D : Def K mg "_law_stands" s_law_stands ["_law_boxes_here"]) (T : Txt K mg) : Cal P w K mg base "_law_stands" ["_law_boxes_here"] 1 spStands := by
  refine D.cal sc_law_stands (fun vs H Q E h => ?_) (fun f cdv A outer s H vs Q E hr h => ?_)
  · obtain ⟨v, tops, rfl, _⟩ := h
    rfl
  obtain ⟨v, tops, rfl, ⟨a, vs, rfl, ha, hp⟩, hb, q⟩ := h
  refine ⟨_, (pss_cons (ps_set (i := 1) sc_law_stands.nd rfl (Or.inl rfl) (pe_lst (pa_cons (pe_tup pa_nil) pa_nil)))
    (pss_cons (ps_for PassesOwn.never rfl (pi_listK K (pv 0)) (pg_tupK (n := 2) K rfl (pgs_cons (pg_name (i := 2) sc_law_stands.nd rfl (Or.inl rfl)) (pgs_cons (pg_name (i := 3) sc_law_stands.nd rfl (Or.inl rfl)) pgs_nil))) (pss_cons (ps_set (i := 4) sc_law_stands.nd rfl (Or.inl rfl) (pe_lst pa_nil))
        (pss_cons (ps_for PassesOwn.never rfl (pi_listK K (pv 1)) (pg_name (i := 5) sc_law_stands.nd rfl (Or.inr rfl)) (pss_one (ps_expr (pe_bm PySem.F.plainAttrs_list PySem.F.slot_list_extend PySem.F.type_list_extend mt_extend (pv 4) (pa_cons (pe_lc (own := [("_law_number", 6)]) (g := gName 6) rfl sc_law_stands.nd (pi_range1 rfl T.range (pa_cons (pe_op op_add (pv 3) pe_int) pa_nil)) (blkOk_by (own := [("_law_number", 6)]) (N := n_law_stands) (sc := defScope s_law_stands) (by decide +kernel)) (fun _ _ _ _ _ => (pg_name (i := 6) sc_law_stands.nd rfl (Or.inl rfl))) (fun _ _ _ _ _ => pts_nil) (fun _ _ _ _ _ => (pe_op (op_catAK K) (pv 5) (pe_tup (pa_cons (pv 6) pa_nil))))) pa_nil)))))
        (pss_one (ps_set (i := 1) sc_law_stands.nd rfl (Or.inl rfl) (pv 4))))))
    (pss_one (ps_ret (pv 1))))), ?_⟩
  refine ⟨by decide, fun t ht => ⟨sz_of (show 1 ≤ 100000 by decide), fun l hl => ?_⟩⟩
  have htl : t ≠ l := ne_of_none (upd_same (o := .tup [])) hl
  have s0 : Same H (upd (upd H t (.tup [])) l (.lst [.ref t])) := (same_new ht _).trans (same_new hl _)
  refine ⟨_, rfl, a, rfl, ⟨_, SqL.of (s0 _ _ ha)⟩, for_list (K := K) (a := a) (xs := vs)
    (fun i σ H' => ∃ p x2 x3 x4 x5, σ = [some (.ref a), some (.ref p), x2, x3, x4, x5, none] ∧ Same H H' ∧ IsSts (nw H H') (.ref p) ((tops.take i).foldl grow [[]]))
    ⟨l, none, none, none, none, rfl, s0, l, [.ref t], rfl, ?_, .cons ⟨t, rfl, ?_⟩ .nil⟩ (fun i σ H' _ ⟨_, _, _, _, _, _, s, _⟩ => SqL.of (s _ _ ha)) ?_ ?_⟩
  · rw [nw_none ((same_new ht _).free hl)]
    exact upd_same
  · rw [nw_none ht, upd_ne htl]
    exact upd_same
  · rintro i y σ H' hi ⟨p, x2, x3, x4, x5, rfl, s1, hf⟩
    obtain ⟨top, htop, b, nm, rfl, hbx⟩ := paired_getl hp hi
    have h7 := hb.top top (List.mem_of_getElem? htop)
    obtain ⟨p', ws, ep, hpl, hws⟩ := id hf
    cases ep
    have hpl' : H' p = some (.lst ws) := nw_sub (TK.same s1) _ _ hpl
    have hp0 : H p = none := by
      rcases nw_cases hpl with ⟨xs, _, e⟩ | ⟨e, _⟩
      · cases e
      · exact e
    have hws' : Paired (IsSt H') ws ((tops.take i).foldl grow [[]]) := paired_mono st_tm.mono (nw_sub (TK.same s1)) hws
    have hlen := hb.part i
    refine ⟨b, _, rfl, SqT.of (s1 _ _ hbx), rfl, _, _, rfl, _, _, rfl, rfl, ?_⟩
    refine ⟨by decide, fun q0 hq0 => ?_⟩
    have nqp : p ≠ q0 := ne_of_none hpl' hq0
    have s2 : Same H' (upd H' q0 (.lst [])) := same_new hq0 _
    refine ⟨_, rfl, p, rfl, ⟨_, SqL.of (s2 _ _ hpl')⟩, for_list (K := K) (a := p) (xs := ws)
      (fun j σ H2 => ∃ x5 ys, σ = [some (.ref a), some (.ref p), some (.str nm), some (.int top), some (.ref q0), x5, none] ∧ Same H' H2 ∧ H2 q0 = some (.lst ys) ∧ Paired (IsSt H2) ys (grow (((tops.take i).foldl grow [[]]).take j) top))
      ⟨_, [], rfl, s2, upd_same, .nil⟩ (fun j σ H2 _ ⟨_, _, _, s, _⟩ => SqL.of (s _ _ hpl')) ?_ ?_⟩
    · rintro j y σ H2 hj ⟨x5, ys, rfl, s3, hys, hpy⟩
      obtain ⟨st, hst, hy⟩ := paired_getl hws' hj
      have hj' := (List.getElem?_eq_some_iff.mp hst).1
      have hylen : ys.length ≤ 100000 - 10 := by
        rw [hpy.length, length_grow, List.length_take]
        have e1 : min j ((tops.take i).foldl grow [[]]).length ≤ 4096 := Nat.le_trans (Nat.min_le_right _ _) hlen
        have e2 : (top + 1).toNat ≤ 8 := by omega
        exact Nat.le_trans (Nat.mul_le_mul e1 e2) (by decide)
      refine ⟨_, rfl, .inl ⟨rfl, _, SqL.of hys⟩, ?_⟩
      refine ⟨_, rfl, _, _, rfl, rfl, _, rfl, by omega, by omega, lcP (walk_range (lo := 0) (n := (top + 1).toNat)) (List.range (top + 1).toNat) (fun _ => true) (fun i => st ++ [(i : Int)]) IsSt st_tm.mono (List.length_range) (by omega)
        (fun _ _ => True.intro) (fun k n' H3 x H4 F N hk hs3 hy3 hN hF => ?_) (fun L H3 hs3 hv => ?_)⟩
      · obtain ⟨e1, e2⟩ := hy3
        subst e1 e2
        have en : n' = k := by
          obtain ⟨h1, h2⟩ := List.getElem?_eq_some_iff.mp hk
          rw [List.getElem_range] at h2
          exact h2.symm
        subst en
        obtain ⟨c, rfl, hc⟩ := st_tm.mono _ _ _ _ (s3.trans hs3) hy
        refine ⟨rfl, yesT ?_⟩
        refine ⟨_, rfl, _, rfl, sz_of (show 1 ≤ 100000 by decide), fun d hd => ?_⟩
        have s4 : Same H4 (upd H4 d (.tup [.int (0 + (n' : Int))])) := same_new hd _
        refine ⟨c, d, _, _, rfl, rfl, SqT.of (s4 _ _ hc), SqT.of upd_same, ?_, fun e => ?_, (fun _ e => nomatch e), fun _ _ e he => ?_⟩
        · rw [List.length_map]
          have : st.length ≤ 4 := by
            have hm := (mem_foldl_grow (tops.take i) [] [[]] valid_nil st).mp (List.mem_of_getElem? hst)
            rw [List.nil_append] at hm
            rw [hm.1, List.length_take]
            have := hb.len
            omega
          exact sz_of (by simp only [List.length_cons, List.length_nil]; omega)
        · have e' : st = [] := List.map_eq_nil_iff.mp e
          subst e'
          refine hF _ _ s4 rfl (nw_tm st_tm s4 ⟨d, rfl, ?_⟩)
          rw [upd_same]
          simp
        · have s5 := s4.trans (same_new he (.tup (st.map V.int ++ [.int (0 + (n' : Int))])))
          refine hF _ _ s5 rfl (nw_tm st_tm s5 ⟨e, rfl, ?_⟩)
          rw [upd_same]
          simp
      · obtain ⟨L', zs, eL, hL, hz⟩ := hv
        cases eL
        have hL' := nw_sub (TK.same hs3) _ _ hL
        have ef : List.filter (fun _ : Nat => true) (List.range (top + 1).toNat) = List.range (top + 1).toNat := List.filter_eq_self.mpr fun _ _ => rfl
        rw [ef] at hz
        have hz' := paired_mono st_tm.mono (nw_sub (TK.same hs3)) hz
        have hzl : zs.length ≤ 8 := by
          rw [hz.length, List.length_map, List.length_range]
          omega
        refine ⟨q0, L, ys, zs, rfl, rfl, hs3 _ _ hys, hL', sz_of (by omega), ?_⟩
        have tk : TK H3 (upd H3 q0 (.lst (ys ++ zs))) := TK.upd fun xs e => by
          rw [hs3 _ _ hys] at e
          cases e
        refine ⟨_, _, rfl, fun b' o' e' => ?_, upd_same, ?_⟩
        · rw [upd_ne]
          · exact hs3 _ _ (s3 _ _ e')
          · intro e
            rw [e, hq0] at e'
            cases e'
        · rw [take_snoc hst]
          unfold grow
          rw [List.flatMap_append, List.flatMap_cons, List.flatMap_nil, List.append_nil]
          exact paired_tmono st_tm tk (paired_app (paired_mono st_tm.mono hs3 hpy) hz')
    · rintro σ H2 ⟨x5, ys, rfl, s3, hys, hpy⟩
      rw [hws'.length, take_all] at hpy
      refine ⟨_, rfl, q0, _, _, _, _, rfl, s1.trans s3, q0, ys, rfl, ?_, ?_⟩
      · rw [nw_none (s1.free hq0)]
        exact hys
      · rw [take_snoc htop, List.foldl_append]
        exact paired_tmono st_tm (nw_tk (s1.trans s3)) hpy
  · rintro σ H' ⟨p, x2, x3, x4, x5, rfl, s1, hf⟩
    rw [hp.length, take_all] at hf
    exact ⟨_, rfl, q _ _ s1 hf⟩
end
end Hm
end

section
set_option Elab.async false
set_option linter.all false
set_option maxRecDepth 100000
set_option maxHeartbeats 4000000
/-! is_stand, stands_of, behind, ways_at, the law's behind. -/
namespace Hm
open PySem L2
theorem ixN_nat {n k : Nat} (h : k < n) : ixN n (k : Int) = some k := by
  unfold ixN
  rw [if_pos (by omega), if_pos (by omega)]
  simp
theorem itemI {s : Stand} {i : Nat} (h : i < s.length) : (s.map V.int)[i]? = some (.int (s.getD i 0)) := by
  rw [List.getElem?_map, List.getD_eq_getElem?_getD, List.getElem?_eq_getElem h]
  rfl
theorem getD_some {α : Type} {l : List α} {i : Nat} {x d : α} (h : l[i]? = some x) : l.getD i d = x := by rw [List.getD_eq_getElem?_getD, h]; rfl
def IsOpt : Rp (Option Stand) := fun H v o => match o with
  | none => v = .non
  | some t => IsSt H v t
theorem opt_tm : TMono IsOpt := fun H H' v x t h => by
  cases x with
  | none => exact h
  | some y => exact st_tm _ _ _ _ t h
/-- the numbers of the ways that go -/
def waysF (tops : List Int) (row : List Way) (s : Stand) : List Nat := (List.range row.length).filter fun k => ((row[k]?).bind fun w => beh tops w s).isSome
theorem mem_waysF {tops : List Int} {row : List Way} {s : Stand} {k : Nat} : k ∈ waysF tops row s ↔ ∃ w t, row[k]? = some w ∧ beh tops w s = some t := by
  unfold waysF
  rw [List.mem_filter, List.mem_range]
  constructor
  · rintro ⟨h1, h2⟩
    rw [List.getElem?_eq_getElem h1] at h2
    obtain ⟨t, ht⟩ := Option.isSome_iff_exists.mp h2
    exact ⟨row[k], t, List.getElem?_eq_getElem h1, ht⟩
  · rintro ⟨w, t, h1, h2⟩
    refine ⟨(List.getElem?_eq_some_iff.mp h1).1, ?_⟩
    rw [h1]
    show (beh tops w s).isSome = true
    rw [h2]
    rfl

section
variable {P : Program} {w : World} {K : PySem.W.Frag} {mg : Str → Option Value} {base : Heap}
/-! ### is_stand -/
abbrev s_is_stand : Stmt := top 6
abbrev n_is_stand : List Str := ["boxes", "thing", "number", "box"]
theorem sc_is_stand : FnScope n_is_stand ["boxes", "thing"] (defScope s_is_stand) := ⟨rfl, rfl, rfl, by decide +kernel, rfl, by decide +kernel, by decide +kernel⟩
def spIsStand : Sp := fun vs H Q _ => ∃ vb vt tops s, vs = [vb, vt] ∧ IsBoxes H vb tops ∧ IsSt H vt s ∧ Valid tops s ∧ ∀ H', Same H H' → Q (.bl true) H'
theorem ok_is_stand (D : Def K mg "is_stand" s_is_stand ["boxes", "thing"]) (T : Txt K mg) (c_is_whole : Cal P w K mg base "is_whole" ["thing"] 1 spWhole) : Cal P w K mg base "is_stand" ["boxes", "thing"] 2 spIsStand := by
  refine D.cal sc_is_stand (fun vs H Q E h => ?_) (fun f cdv A outer s H vs Q E hr h => ?_)
  · obtain ⟨vb, vt, tops, s, rfl, _⟩ := h
    rfl
  obtain ⟨vb, vt, tops, st, rfl, ⟨a, vs, rfl, ha, hp⟩, ⟨b, rfl, hb⟩, hv, q⟩ := h
  refine ⟨_, (pss_cons (ps_if (PW.pt (pw_or (pt_not (pt_val (pe_callB (call_isiK K) (by rfl) T.isinstance (by decide +kernel) (pa_cons (pv 1) (pa_cons (pe_bltn (v := .ty "tuple") (by rfl) T.tuple (by decide +kernel) rfl) pa_nil))))) (pw_or1 (pt_cmpR op_ne (pe_callB (call_lenK K) (by rfl) T.len PySem.boot_len (pa_cons (pv 1) pa_nil)) (pe_callB (call_lenK K) (by rfl) T.len PySem.boot_len (pa_cons (pv 0) pa_nil)) (nomark _))))) (pss_one (ps_ret pe_bl)) pss_nil)
    (pss_cons (ps_for PassesOwn.never rfl (pi_zipMK K rfl T.zip (pa_cons (pv 1) (pa_cons (pv 0) pa_nil))) (pg_tupK (n := 2) K rfl (pgs_cons (pg_name (i := 2) sc_is_stand.nd rfl (Or.inl rfl)) (pgs_cons (pg_name (i := 3) sc_is_stand.nd rfl (Or.inl rfl)) pgs_nil))) (pss_one (ps_if (PW.pt (pw_or (pt_not (pt_val (pe_cal c_is_whole (hr.mono (by first | exact Nat.le_refl _ | decide | omega)) rfl (pa_cons (pv 2) pa_nil)))) (pw_or (pt_cmpR op_lt (pv 2) pe_int (nomark _)) (pw_or1 (pt_cmpR op_gt (pv 2) (pe_ix (ix_tupK K) (pv 3) pe_int (fun _ _ => rfl)) (nomark _)))))) (pss_one (ps_ret pe_bl)) pss_nil)))
    (pss_one (ps_ret pe_bl)))), ?_⟩
  refine ⟨_, rfl, _, _, _, _, true, rfl, .ty "tuple", .base (.tup hb), kit_ty (by decide +kernel), true, rfl, ifF rfl ?_⟩
  refine ⟨_, rfl, b, _, rfl, .inr (SqT.of hb), _, rfl, a, _, rfl, .inl (SqL.of ha), rfl, _, rfl, ifF ?_ ?_⟩
  · rw [dInt, List.length_map, hp.length, hv.1]
    simp
  refine ⟨_, rfl, _, rfl, b, a, _, _, rfl, SqT.of hb, SqL.of ha, for_it (walk_zipM (n := tops.length) (by rw [List.length_map]; exact hv.1) hp.length)
    (fun i σ H' => ∃ x2 x3, σ = [some (.ref a), some (.ref b), x2, x3] ∧ Same H H') ⟨none, none, rfl, Same.refl H⟩ (fun i σ H' _ ⟨_, _, _, s⟩ => ⟨SqT.of (s _ _ hb), SqL.of (s _ _ ha)⟩) ?_ ?_⟩
  · rintro i v σ H' H'' hi ⟨x2, x3, rfl, s1⟩ ⟨t, x, y, rfl, ht, rfl, hx, hy⟩
    have s2 : Same H (upd H' t (.tup [x, y])) := s1.trans (same_new ht _)
    have hi' : i < st.length := by rw [hv.1]; exact hi
    have hx' : (st.map V.int)[i]? = some x := hx
    rw [itemI hi'] at hx'
    cases Option.some.inj hx'
    obtain ⟨top, htop, bb, nm, rfl, hbx⟩ := paired_getl hp hy
    have hvi := hv.2 i hi
    rw [getD_some htop] at hvi
    refine ⟨t, _, rfl, SqT.of upd_same, rfl, _, _, rfl, _, _, rfl, rfl, ?_⟩
    refine ⟨_, rfl, _, rfl, true, rfl, ifF rfl ?_⟩
    refine ⟨_, rfl, _, _, rfl, rfl, _, rfl, ifF (decide_eq_false (by omega)) ?_⟩
    refine ⟨_, rfl, _, rfl, bb, _, _, _, rfl, rfl, SqT.of (s2 _ _ hbx), atI_nat (j := 1) rfl, _, _, rfl, rfl, _, rfl, ifF (decide_eq_false (by omega)) ?_⟩
    exact ⟨_, _, rfl, s2⟩
  · rintro σ H' ⟨x2, x3, rfl, s1⟩
    exact q _ s1
/-! ### stands_of -/
abbrev s_stands_of : Stmt := top 10
abbrev n_stands_of : List Str := ["boxes", "cond", "stand"]
theorem sc_stands_of : FnScope n_stands_of ["boxes", "cond"] (defScope s_stands_of) := ⟨rfl, rfl, rfl, by decide +kernel, rfl, by decide +kernel, by decide +kernel⟩
def spStandsOf : Sp := fun vs H Q _ => ∃ vb vc tops c, vs = [vb, vc] ∧ IsBoxes H vb tops ∧ IsCd H vc c ∧ BoxOk tops ∧ c.ok tops.length ∧ ∀ v H', Same H H' → IsSts (nw H H') v ((standsF tops).filter c.holds) → Q v H'
theorem ok_stands_of (D : Def K mg "stands_of" s_stands_of ["boxes", "cond"]) (T : Txt K mg) (c_stands : Cal P w K mg base "stands" ["boxes"] 1 spStands) (c_holds : Cal P w K mg base "holds" ["cond", "ahead", "behind"] 4 (spHolds 2)) : Cal P w K mg base "stands_of" ["boxes", "cond"] 5 spStandsOf := by
  refine D.cal sc_stands_of (fun vs H Q E h => ?_) (fun f cdv A outer s H vs Q E hr h => ?_)
  · obtain ⟨vb, vt, tops, s, rfl, _⟩ := h
    rfl
  obtain ⟨vb, vc, tops, c, rfl, hb, hc, bo, co, q⟩ := h
  refine ⟨_, (pss_one (ps_ret (pe_lc (own := [("stand", 2)]) (g := gName 2) rfl sc_stands_of.nd (pi_listK K (pe_cal c_stands (hr.mono (by first | exact Nat.le_refl _ | decide | omega)) rfl (pa_cons (pv 0) pa_nil))) (blkOk_by (own := [("stand", 2)]) (N := n_stands_of) (sc := defScope s_stands_of) (by decide +kernel)) (fun _ _ _ _ _ => (pg_name (i := 2) sc_stands_of.nd rfl (Or.inl rfl))) (fun _ _ _ _ _ => (pts_one (pt_val (pe_cal c_holds (hr.mono (by first | exact Nat.le_refl _ | decide | omega)) rfl (pa_cons (pv 1) (pa_cons (pv 2) (pa_cons pe_non pa_nil))))))) (fun _ _ _ _ _ => (pv 2))))), ?_⟩
  refine ⟨_, rfl, vb, tops, rfl, hb, bo, fun v1 H1 s1 h1 => ?_⟩
  obtain ⟨L, vs, rfl, hL, hp⟩ := sts_m _ _ _ _ (nw_sub (TK.same s1)) h1
  refine ⟨L, rfl, ⟨_, SqL.of hL⟩, lcP walk_list (standsF tops) c.holds id IsSt st_tm.mono hp.length.symm (by rw [hp.length]; have := bo.stands; omega) (fun H2 s2 => SqL.of (s2 _ _ hL)) (fun i a H2 x H3 F N ha s2 hy hN hF => ?_) (fun D2 H2 s2 hv => ?_)⟩
  · obtain ⟨e1, e2⟩ := hy
    subst e1
    obtain ⟨y, hy1, hy2⟩ := paired_get hp ha
    rw [hy1] at e2
    cases Option.some.inj e2
    have hval : Valid tops a := mem_standsF.mp (List.mem_of_getElem? ha)
    refine ⟨rfl, ?_⟩
    refine ⟨_, rfl, _, rfl, vc, _, _, c, a, rfl, cd_tm _ _ _ _ (TK.same (s1.trans s2)) hc, st_tm _ _ _ _ (TK.same s2) hy2, Nat.lt_succ_of_le co.dep, co.sdep, by rw [hval.1]; exact co.wf, _, rfl, ?_⟩
    refine ite2 (fun e => ?_) (fun e => ?_)
    · exact ⟨_, rfl, hF _ _ (Same.refl _) e (nw_tm st_tm (Same.refl _) (st_tm _ _ _ _ (TK.same s2) hy2))⟩
    · exact hN _ (Same.refl _) (Bool.eq_false_iff.mpr e)
  · rw [List.map_id] at hv
    exact q _ _ (s1.trans s2) (sts_m _ _ _ _ (nw_back s1 (TK.same s2)) hv)
/-! ### behind -/
abbrev s_behind : Stmt := top 12
abbrev n_behind : List Str := ["boxes", "way", "stand", "found", "box", "one", "number"]
theorem sc_behind : FnScope n_behind ["boxes", "way", "stand"] (defScope s_behind) := ⟨rfl, rfl, rfl, by decide +kernel, rfl, by decide +kernel, by decide +kernel⟩
def spBehind : Sp := fun vs H Q _ => ∃ vb vw vt tops wy s places, vs = [vb, vw, vt] ∧ IsBoxes H vb tops ∧ IsWay H vw wy ∧ IsSt H vt s ∧ wy.ok tops.length places ∧ Valid tops s ∧ tops.length ≤ 100 ∧ ∀ v H', Same H H' → IsOpt H' v (beh tops wy s) → Q v H'
theorem ok_behind (D : Def K mg "behind" s_behind ["boxes", "way", "stand"]) (T : Txt K mg) (c_value : Cal P w K mg base "value" ["one", "ahead", "behind"] 2 (spValue 2)) (c_holds : Cal P w K mg base "holds" ["cond", "ahead", "behind"] 4 (spHolds 2)) : Cal P w K mg base "behind" ["boxes", "way", "stand"] 5 spBehind := by
  refine D.cal sc_behind (fun vs H Q E h => ?_) (fun f cdv A outer s H vs Q E hr h => ?_)
  · obtain ⟨vb, vw, vt, tops, wy, s, pl, rfl, _⟩ := h
    rfl
  obtain ⟨vb, vw, vt, tops, wy, st, places, rfl, ⟨a, vs, rfl, ha, hp⟩, ⟨aw, g, pa, ps, rfl, haw, hg, hpa, hps⟩, hst, wo, hv, h100, q⟩ := h
  refine ⟨_, (pss_cons (ps_if (pt_not (pt_val (pe_cal c_holds (hr.mono (by first | exact Nat.le_refl _ | decide | omega)) rfl (pa_cons (pe_ix (ix_tupK K) (pv 1) pe_int (fun _ _ => rfl)) (pa_cons (pv 2) (pa_cons pe_non pa_nil)))))) (pss_one (ps_ret pe_non)) pss_nil)
    (pss_cons (ps_set (i := 3) sc_behind.nd rfl (Or.inl rfl) (pe_callTy (call_listK K) (by rfl) T.list (by decide +kernel) (pa_cons (pv 2) pa_nil)))
    (pss_cons (ps_for PassesOwn.never rfl (pi_tupK K (pe_ix (ix_tupK K) (pv 1) pe_int (fun _ _ => rfl))) (pg_tupK (n := 2) K rfl (pgs_cons (pg_name (i := 4) sc_behind.nd rfl (Or.inl rfl)) (pgs_cons (pg_name (i := 5) sc_behind.nd rfl (Or.inl rfl)) pgs_nil))) (pss_cons (ps_set (i := 6) sc_behind.nd rfl (Or.inl rfl) (pe_cal c_value (hr.mono (by first | exact Nat.le_refl _ | decide | omega)) rfl (pa_cons (pv 5) (pa_cons (pv 2) (pa_cons pe_non pa_nil)))))
        (pss_cons (ps_if (PW.pt (pw_or (pt_cmpR op_lt (pv 6) pe_int (nomark _)) (pw_or1 (pt_cmpR op_gt (pv 6) (pe_ix (ix_tupK K) (pe_ix (ix_listK K) (pv 0) (pv 4) (fun _ _ => rfl)) pe_int (fun _ _ => rfl)) (nomark _))))) (pss_one (ps_ret pe_non)) pss_nil)
        (pss_one (ps_asg (pv 6) (pg_sub (pv 3) (pv 4) set_list))))))
    (pss_one (ps_ret (pe_callTy (call_tupleK K) (by rfl) T.tuple (by decide +kernel) (pa_cons (pv 3) pa_nil))))))), ?_⟩
  refine ⟨_, rfl, aw, _, _, _, rfl, rfl, SqT.of haw, atI_nat (j := 0) rfl, _, rfl, g, _, _, wy.guard, st, rfl, hg, hst, Nat.lt_succ_of_le wo.guard.dep, wo.guard.sdep, by rw [hv.1]; exact wo.guard.wf, _, rfl, ?_⟩
  cases hgd : wy.guard.holds st with
  | false =>
    refine ifT rfl ?_
    refine q _ _ (Same.refl H) ?_
    unfold beh
    rw [hgd]
    rfl
  | true =>
    have hbeh : beh tops wy st = putsF tops st wy.puts st := by
      unfold beh
      rw [hgd, if_pos rfl]
    refine ifF rfl ?_
    obtain ⟨at_, rfl, hat⟩ := hst
    refine ⟨_, rfl, at_, _, rfl, .inr (SqT.of hat), fun l hl => ?_⟩
    have s0 : Same H (upd H l (.lst (st.map V.int))) := same_new hl _
    refine ⟨_, rfl, aw, _, _, _, rfl, rfl, SqT.of (s0 _ _ haw), atI_nat (j := 1) rfl, pa, rfl, ⟨_, SqT.of (s0 _ _ hpa)⟩, for_it walk_tup
      (fun i σ H' => ∃ x4 x5 x6 fnd, σ = [some (.ref a), some (.ref aw), some (.ref at_), some (.ref l), x4, x5, x6] ∧ Same H H' ∧ H' l = some (.lst (fnd.map V.int)) ∧ fnd.length = tops.length ∧ putsF tops st (wy.puts.drop i) fnd = beh tops wy st)
      ⟨none, none, none, st, rfl, s0, upd_same, hv.1, hbeh.symm⟩ (fun i σ H' _ ⟨_, _, _, _, _, s, _⟩ => SqT.of (s _ _ hpa)) ?_ ?_⟩
    · rintro i x σ H' H'' hi ⟨x4, x5, x6, fnd, rfl, s1, hl1, hfl, hpu⟩ ⟨rfl, hx⟩
      obtain ⟨⟨k, e⟩, hke, b, y, rfl, hb, hy⟩ := paired_getl hps hx
      obtain ⟨hlt, hkg⟩ := List.getElem?_eq_some_iff.mp hke
      obtain ⟨hk, eo⟩ := wo.sums _ (List.mem_of_getElem? hke)
      rw [List.drop_eq_getElem_cons hlt, hkg] at hpu
      refine ⟨b, _, rfl, SqT.of (s1 _ _ hb), rfl, _, _, rfl, _, _, rfl, rfl, ?_⟩
      refine ⟨_, rfl, _, rfl, y, _, _, e, st, rfl, sm_tm _ _ _ _ (TK.same s1) hy, ⟨at_, rfl, s1 _ _ hat⟩, Nat.lt_succ_of_le eo.dep, by rw [hv.1]; exact eo.wf, ?_⟩
      have hpu' : (if e.val st < 0 ∨ tops.getD k 0 < e.val st then none else putsF tops st (wy.puts.drop (i + 1)) (fnd.set k (e.val st))) = beh tops wy st := hpu
      refine ⟨_, rfl, _, _, rfl, rfl, _, rfl, ?_⟩
      by_cases c1 : e.val st < 0
      · refine ifT (decide_eq_true c1) (ifT rfl ?_)
        rw [if_pos (.inl c1)] at hpu'
        refine q _ _ s1 ?_
        rw [← hpu']
        rfl
      · refine ifF (decide_eq_false c1) ?_
        obtain ⟨top, htop⟩ : ∃ top, tops[k]? = some top := ⟨_, List.getElem?_eq_getElem hk⟩
        obtain ⟨u, hu, bb, nm, rfl, hbx⟩ := paired_get hp htop
        refine ⟨_, rfl, _, rfl, _, rfl, a, _, _, _, rfl, rfl, SqL.of (s1 _ _ ha), atI_nat hu, bb, _, _, _, rfl, rfl, SqT.of (s1 _ _ hbx), atI_nat (j := 1) rfl, _, _, rfl, rfl, _, rfl, ?_⟩
        rw [getD_some htop] at hpu'
        by_cases c2 : top < e.val st
        · refine ifT (decide_eq_true c2) ?_
          rw [if_pos (.inr c2)] at hpu'
          refine q _ _ s1 ?_
          rw [← hpu']
          rfl
        · refine ifF (decide_eq_false c2) ?_
          rw [if_neg (by rintro (z | z) <;> contradiction)] at hpu'
          refine ⟨_, rfl, _, rfl, _, rfl, l, _, _, k, rfl, rfl, hl1, ixN_nat (by rw [List.length_map, hfl]; exact hk), ?_⟩
          refine ⟨_, _, _, fnd.set k (e.val st), rfl, fun b' o' e' => ?_, ?_, by rw [List.length_set]; exact hfl, hpu'⟩
          · rw [upd_ne]
            · exact s1 _ _ e'
            · intro z
              rw [z, hl] at e'
              cases e'
          · rw [upd_same, List.map_set]
    · rintro σ H' ⟨x4, x5, x6, fnd, rfl, s1, hl1, hfl, hpu⟩
      rw [hps.length, List.drop_length] at hpu
      refine ⟨_, rfl, l, _, rfl, .inl ⟨SqL.of hl1, fun t ht => ?_⟩⟩
      refine q _ _ (s1.trans (same_new ht _)) ?_
      rw [← hpu]
      exact ⟨t, rfl, upd_same⟩
/-! ### the law's behind -/
abbrev s_law_behind : Stmt := top 35
abbrev n_law_behind : List Str := ["_law_boxes_here", "_law_way_here", "_law_stand", "_law_found", "_law_k", "_law_one", "_law_number", "_law_box"]
theorem sc_law_behind : FnScope n_law_behind ["_law_boxes_here", "_law_way_here", "_law_stand"] (defScope s_law_behind) := ⟨rfl, rfl, rfl, by decide +kernel, rfl, by decide +kernel, by decide +kernel⟩
theorem ok_law_behind (D : Def K mg "_law_behind" s_law_behind ["_law_boxes_here", "_law_way_here", "_law_stand"]) (T : Txt K mg) (c_law_value : Cal P w K mg base "_law_value" ["_law_one", "_law_stand"] 2 (spLValue 2)) (c_law_holds : Cal P w K mg base "_law_holds" ["_law_cond_here", "_law_stand"] 4 (spLHolds 2)) : Cal P w K mg base "_law_behind" ["_law_boxes_here", "_law_way_here", "_law_stand"] 5 spBehind := by
  refine D.cal sc_law_behind (fun vs H Q E h => ?_) (fun f cdv A outer s H vs Q E hr h => ?_)
  · obtain ⟨vb, vw, vt, tops, wy, s, pl, rfl, _⟩ := h
    rfl
  obtain ⟨vb, vw, vt, tops, wy, st, places, rfl, ⟨a, vs, rfl, ha, hp⟩, ⟨aw, g, pa, ps, rfl, haw, hg, hpa, hps⟩, hst, wo, hv, h100, q⟩ := h
  refine ⟨_, (pss_cons (ps_if (pt_not (pt_val (pe_cal c_law_holds (hr.mono (by first | exact Nat.le_refl _ | decide | omega)) rfl (pa_cons (pe_ix (ix_tupK K) (pv 1) pe_int (fun _ _ => rfl)) (pa_cons (pv 2) pa_nil))))) (pss_one (ps_ret pe_non)) pss_nil)
    (pss_cons (ps_set (i := 3) sc_law_behind.nd rfl (Or.inl rfl) (pe_callTy (call_listK K) (by rfl) T.list (by decide +kernel) (pa_cons (pv 2) pa_nil)))
    (pss_cons (ps_for PassesOwn.never rfl (pi_tupK K (pe_ix (ix_tupK K) (pv 1) pe_int (fun _ _ => rfl))) (pg_tupK (n := 2) K rfl (pgs_cons (pg_name (i := 4) sc_law_behind.nd rfl (Or.inl rfl)) (pgs_cons (pg_name (i := 5) sc_law_behind.nd rfl (Or.inl rfl)) pgs_nil))) (pss_one (ps_asg (pe_cal c_law_value (hr.mono (by first | exact Nat.le_refl _ | decide | omega)) rfl (pa_cons (pv 5) (pa_cons (pv 2) pa_nil))) (pg_sub (pv 3) (pv 4) set_list))))
    (pss_cons (ps_for PassesOwn.never rfl (pi_zipK K rfl T.zip (pa_cons (pv 3) (pa_cons (pv 0) pa_nil))) (pg_tupK (n := 2) K rfl (pgs_cons (pg_name (i := 6) sc_law_behind.nd rfl (Or.inl rfl)) (pgs_cons (pg_name (i := 7) sc_law_behind.nd rfl (Or.inl rfl)) pgs_nil))) (pss_one (ps_if (PW.pt (pw_or (pt_cmpR op_lt (pv 6) pe_int (nomark _)) (pw_or1 (pt_cmpR op_gt (pv 6) (pe_ix (ix_tupK K) (pv 7) pe_int (fun _ _ => rfl)) (nomark _))))) (pss_one (ps_ret pe_non)) pss_nil)))
    (pss_one (ps_ret (pe_callTy (call_tupleK K) (by rfl) T.tuple (by decide +kernel) (pa_cons (pv 3) pa_nil)))))))), ?_⟩
  refine ⟨_, rfl, aw, _, _, _, rfl, rfl, SqT.of haw, atI_nat (j := 0) rfl, _, rfl, g, _, wy.guard, st, rfl, hg, hst, Nat.lt_succ_of_le wo.guard.dep, wo.guard.sdep, by rw [hv.1]; exact wo.guard.wf, _, rfl, ?_⟩
  cases hgd : wy.guard.holds st with
  | false =>
    refine ifT rfl ?_
    refine q _ _ (Same.refl H) ?_
    unfold beh
    rw [hgd]
    rfl
  | true =>
    have hbeh : beh tops wy st = if Valid tops (setAll st wy.puts st) then some (setAll st wy.puts st) else none := by
      unfold beh
      rw [hgd, if_pos rfl]
      exact putsF_eq tops st wy.puts st hv (fun p hp => (wo.sums p hp).1) wo.rise
    refine ifF rfl ?_
    obtain ⟨at_, rfl, hat⟩ := hst
    refine ⟨_, rfl, at_, _, rfl, .inr (SqT.of hat), fun l hl => ?_⟩
    have s0 : Same H (upd H l (.lst (st.map V.int))) := same_new hl _
    refine ⟨_, rfl, aw, _, _, _, rfl, rfl, SqT.of (s0 _ _ haw), atI_nat (j := 1) rfl, pa, rfl, ⟨_, SqT.of (s0 _ _ hpa)⟩, for_it walk_tup
      (fun i σ H' => ∃ x4 x5 fnd, σ = [some (.ref a), some (.ref aw), some (.ref at_), some (.ref l), x4, x5, none, none] ∧ Same H H' ∧ H' l = some (.lst (fnd.map V.int)) ∧ fnd.length = tops.length ∧ setAll st (wy.puts.drop i) fnd = setAll st wy.puts st)
      ⟨none, none, st, rfl, s0, upd_same, hv.1, rfl⟩ (fun i σ H' _ ⟨_, _, _, _, s, _⟩ => SqT.of (s _ _ hpa)) ?_ ?_⟩
    · rintro i x σ H' H'' hi ⟨x4, x5, fnd, rfl, s1, hl1, hfl, hpu⟩ ⟨rfl, hx⟩
      obtain ⟨⟨k, e⟩, hke, b, y, rfl, hb, hy⟩ := paired_getl hps hx
      obtain ⟨hlt, hkg⟩ := List.getElem?_eq_some_iff.mp hke
      obtain ⟨hk, eo⟩ := wo.sums _ (List.mem_of_getElem? hke)
      rw [List.drop_eq_getElem_cons hlt, hkg] at hpu
      refine ⟨b, _, rfl, SqT.of (s1 _ _ hb), rfl, _, _, rfl, _, _, rfl, rfl, ?_⟩
      refine ⟨_, rfl, _, rfl, y, _, e, st, rfl, sm_tm _ _ _ _ (TK.same s1) hy, ⟨at_, rfl, s1 _ _ hat⟩, Nat.lt_succ_of_le eo.dep, by rw [hv.1]; exact eo.wf, ?_⟩
      refine ⟨_, rfl, _, rfl, l, _, _, k, rfl, rfl, hl1, ixN_nat (by rw [List.length_map, hfl]; exact hk), ?_⟩
      refine ⟨_, _, fnd.set k (e.val st), rfl, fun b' o' e' => ?_, ?_, by rw [List.length_set]; exact hfl, hpu⟩
      · rw [upd_ne]
        · exact s1 _ _ e'
        · intro z
          rw [z, hl] at e'
          cases e'
      · rw [upd_same, List.map_set]
    · rintro σ H' ⟨x4, x5, fnd, rfl, s1, hl1, hfl, hpu⟩
      rw [hps.length, List.drop_length] at hpu
      have hpu' : fnd = setAll st wy.puts st := hpu
      rw [← hpu'] at hbeh
      refine ⟨_, rfl, _, rfl, l, a, _, _, rfl, SqL.of hl1, SqL.of (s1 _ _ ha), for_it (walk_zip (n := tops.length) (by rw [List.length_map, hfl, hp.length]; simp))
        (fun i σ H2 => ∃ x6 x7, σ = [some (.ref a), some (.ref aw), some (.ref at_), some (.ref l), x4, x5, x6, x7] ∧ Same H' H2 ∧ ∀ j, j < i → 0 ≤ fnd.getD j 0 ∧ fnd.getD j 0 ≤ tops.getD j 0)
        ⟨none, none, rfl, Same.refl _, fun j hj => absurd hj (Nat.not_lt_zero j)⟩ (fun i σ H2 _ ⟨_, _, _, s, _⟩ => ⟨SqL.of (s _ _ hl1), SqL.of (s _ _ (s1 _ _ ha))⟩) ?_ ?_⟩
      · rintro i v σ H2 H3 hi ⟨x6, x7, rfl, s2, hok⟩ ⟨t, x, y, rfl, ht, rfl, hx, hy⟩
        have s3 : Same H' (upd H2 t (.tup [x, y])) := s2.trans (same_new ht _)
        have hi' : i < fnd.length := by rw [hfl]; exact hi
        have hx' : (fnd.map V.int)[i]? = some x := hx
        rw [itemI hi'] at hx'
        cases Option.some.inj hx'
        obtain ⟨top, htop, bb, nm, rfl, hbx⟩ := paired_getl hp hy
        refine ⟨t, _, rfl, SqT.of upd_same, rfl, _, _, rfl, _, _, rfl, rfl, ?_⟩
        refine ⟨_, rfl, _, _, rfl, rfl, _, rfl, ?_⟩
        have hno : ¬ (0 ≤ fnd.getD i 0 ∧ fnd.getD i 0 ≤ top) → IsOpt (upd H2 t (.tup [.int (fnd.getD i 0), .ref bb])) .non (beh tops wy st) := fun z => by
          rw [hbeh, if_neg]
          · rfl
          · intro hval
            have z' := hval.2 i hi
            rw [getD_some htop] at z'
            exact z z'
        by_cases c1 : fnd.getD i 0 < 0
        · exact ifT (decide_eq_true c1) (ifT rfl (q _ _ (s1.trans s3) (hno (by omega))))
        · refine ifF (decide_eq_false c1) ?_
          refine ⟨_, rfl, _, rfl, bb, _, _, _, rfl, rfl, SqT.of (s3 _ _ (s1 _ _ hbx)), atI_nat (j := 1) rfl, _, _, rfl, rfl, _, rfl, ?_⟩
          by_cases c2 : top < fnd.getD i 0
          · exact ifT (decide_eq_true c2) (q _ _ (s1.trans s3) (hno (by omega)))
          · refine ifF (decide_eq_false c2) ?_
            refine ⟨_, _, rfl, s3, fun j hj => ?_⟩
            by_cases e : j = i
            · subst e
              rw [getD_some htop]
              omega
            · exact hok j (by omega)
      · rintro σ H2 ⟨x6, x7, rfl, s2, hok⟩
        have hval : Valid tops fnd := ⟨hfl, hok⟩
        refine ⟨_, rfl, l, _, rfl, .inl ⟨SqL.of (s2 _ _ hl1), fun t ht => ?_⟩⟩
        refine q _ _ ((s1.trans s2).trans (same_new ht _)) ?_
        rw [hbeh, if_pos hval]
        exact ⟨t, rfl, upd_same⟩
/-! ### ways_at -/
abbrev s_ways_at : Stmt := top 13
abbrev n_ways_at : List Str := ["boxes", "hand", "place", "stand", "k", "way"]
theorem sc_ways_at : FnScope n_ways_at ["boxes", "hand", "place", "stand"] (defScope s_ways_at) := ⟨rfl, rfl, rfl, by decide +kernel, rfl, by decide +kernel, by decide +kernel⟩
/-- boxes, a hand -/
structure HandOk (tops : List Int) (hand : Hand) : Prop where
  box : BoxOk tops
  rows : hand.length ≤ 8
  row : ∀ row ∈ hand, row.length ≤ 8
  ways : ∀ row ∈ hand, ∀ w ∈ row, w.ok tops.length (hand.length + 1)
def spWaysAt : Sp := fun vs H Q _ => ∃ vb vh vt tops hand p s, vs = [vb, vh, .int (p : Nat), vt] ∧ IsBoxes H vb tops ∧ IsHand H vh hand ∧ IsSt H vt s ∧ HandOk tops hand ∧ p ≤ hand.length ∧ Valid tops s ∧ ∀ v H', Same H H' → LstOf IsNat (nw H H') v (waysF tops (hand.getD p []) s) → Q v H'
theorem ok_ways_at (D : Def K mg "ways_at" s_ways_at ["boxes", "hand", "place", "stand"]) (T : Txt K mg) (c_behind : Cal P w K mg base "behind" ["boxes", "way", "stand"] 5 spBehind) : Cal P w K mg base "ways_at" ["boxes", "hand", "place", "stand"] 6 spWaysAt := by
  refine D.cal sc_ways_at (fun vs H Q E h => ?_) (fun f cdv A outer s H vs Q E hr h => ?_)
  · obtain ⟨vb, vh, vt, tops, hand, p, s, rfl, _⟩ := h
    rfl
  obtain ⟨vb, vh, vt, tops, hand, p, st, rfl, hb, hh, ht, ho, hpl, hv, q⟩ := h
  refine ⟨_, (pss_cons (ps_if (pt_cmpR op_eq (pv 2) (pe_callB (call_lenK K) (by rfl) T.len PySem.boot_len (pa_cons (pv 1) pa_nil)) (nomark _)) (pss_one (ps_ret (pe_lst pa_nil))) pss_nil)
    (pss_one (ps_ret (pe_lc (own := [("k", 4), ("way", 5)]) rfl sc_ways_at.nd (pi_enumK K rfl T.enumerate (pa_cons (pe_ix (ix_listK K) (pv 1) (pv 2) (fun _ _ => rfl)) pa_nil)) (blkOk_by (own := [("k", 4), ("way", 5)]) (N := n_ways_at) (sc := defScope s_ways_at) (by decide +kernel)) (fun _ _ _ _ _ => (pg_tupK (n := 2) K rfl (pgs_cons (pg_name (i := 4) sc_ways_at.nd rfl (Or.inl rfl)) (pgs_cons (pg_name (i := 5) sc_ways_at.nd rfl (Or.inl rfl)) pgs_nil)))) (fun _ _ _ _ _ => (pts_one (pt_cmpR op_notN (pe_cal c_behind (hr.mono (by first | exact Nat.le_refl _ | decide | omega)) rfl (pa_cons (pv 0) (pa_cons (pv 5) (pa_cons (pv 3) pa_nil)))) pe_non (nomark _)))) (fun _ _ _ _ _ => (pv 4)))))), ?_⟩
  obtain ⟨ah, rows, rfl, hah, hrows⟩ := id hh
  refine ⟨_, rfl, _, rfl, ah, _, rfl, .inl (SqL.of hah), rfl, _, rfl, ?_⟩
  by_cases hc : p = hand.length
  · refine ifT ?_ ?_
    · rw [dInt, hrows.length, hc]
      exact decide_eq_true rfl
    refine ⟨Nat.zero_le _, fun l hl => ?_⟩
    refine q _ _ (same_new hl _) ⟨l, [], rfl, ?_, ?_⟩
    · rw [nw_none hl]
      exact upd_same
    · have e : hand.getD p [] = [] := by
        rw [List.getD_eq_getElem?_getD, List.getElem?_eq_none (by omega)]
        rfl
      rw [e]
      exact .nil
  · refine ifF ?_ ?_
    · rw [dInt, hrows.length]
      exact decide_eq_false (by omega)
    have hlt : p < hand.length := by omega
    have hrow : hand[p]? = some hand[p] := List.getElem?_eq_getElem hlt
    rw [getD_some hrow] at q
    obtain ⟨u, hu, ar, ws, rfl, har, hws⟩ := paired_get hrows hrow
    have hmem : hand[p] ∈ hand := List.getElem_mem hlt
    refine ⟨_, rfl, _, rfl, ah, _, _, _, rfl, rfl, SqL.of hah, atI_nat hu, ar, _, rfl, SqL.of har, lcP walk_enum (List.range hand[p].length) (fun k => ((hand[p][k]?).bind fun w => beh tops w st).isSome) id IsNat nat_m (by rw [List.length_range, hws.length])
      (by rw [hws.length]; have := ho.row _ hmem; omega) (fun H2 s2 => SqL.of (s2 _ _ har)) (fun i a H2 x H3 F N ha s2 hy hN hF => ?_) (fun D2 H2 s2 hv2 => ?_)⟩
    · obtain ⟨t, x, y, rfl, ht0, rfl, hx, hy⟩ := hy
      cases Option.some.inj hx
      have ea : a = i := by
        obtain ⟨h1, h2⟩ := List.getElem?_eq_some_iff.mp ha
        rw [List.getElem_range] at h2
        exact h2.symm
      subst ea
      obtain ⟨wy, hwy, hyw⟩ := paired_getl hws hy
      have s3 : Same H2 (upd H2 t (.tup [.int (a : Nat), y])) := same_new ht0 _
      have s03 := s2.trans s3
      refine ⟨t, _, rfl, SqT.of upd_same, rfl, _, _, rfl, _, _, rfl, rfl, rfl, ?_⟩
      refine ⟨_, rfl, _, rfl, _, rfl, vb, y, vt, tops, wy, st, _, rfl, boxes_m _ _ _ _ s03 hb, way_tm _ _ _ _ (TK.same s03) hyw, st_tm _ _ _ _ (TK.same s03) ht, ho.ways _ hmem wy (List.mem_of_getElem? hwy), hv, by have := ho.box.len; omega, fun v H4 s4 hov => ?_⟩
      have ep : (((hand[p])[a]?).bind fun w => beh tops w st).isSome = (beh tops wy st).isSome := by rw [hwy]; rfl
      cases hbe : beh tops wy st with
      | none =>
        rw [hbe] at hov ep
        have e : v = .non := hov
        subst e
        exact ⟨rfl, _, rfl, ifF rfl (hN _ (s3.trans s4) ep)⟩
      | some tt =>
        rw [hbe] at hov ep
        obtain ⟨bt, rfl, _⟩ := hov
        refine ⟨rfl, _, rfl, ifT rfl ?_⟩
        exact ⟨_, rfl, hF _ _ (s3.trans s4) ep rfl⟩
    · rw [List.map_id] at hv2
      exact q _ _ s2 hv2
end
end Hm
end

section
set_option Elab.async false
set_option linter.all false
set_option maxRecDepth 100000
set_option maxHeartbeats 4000000
/-! Dicts as sets of keys, and dicts of lists that grow. -/
namespace Hm
open PySem L2
theorem tk_free {H : Hp} {p : Addr} {o : HO} (h : H p = none) : TK H (upd H p o) := TK.same (same_new h o)
theorem DN.new {P : Program} {w : World} {H : Hp} {d p : Addr} {o : HO} {kvs : List (NestedKey × V)} (x : DN P w H d kvs) (hp : H p = none) : DN P w (upd H p o) d kvs := x.same (same_new hp o)
theorem length_le_of_sub {α : Type} [DecidableEq α] : ∀ {l m : List α}, l.Nodup → (∀ x ∈ l, x ∈ m) → l.length ≤ m.length
  | [], m, _, _ => Nat.zero_le _
  | x :: l, m, hn, hs => by
    rw [List.nodup_cons] at hn
    have hx := hs x List.mem_cons_self
    have ih := length_le_of_sub (l := l) (m := m.erase x) hn.2 fun y hy => by
      have e : y ≠ x := fun e => hn.1 (e ▸ hy)
      exact (List.mem_erase_of_ne e).mpr (hs y (List.mem_cons_of_mem _ hy))
    rw [List.length_erase_of_mem hx] at ih
    have : 0 < m.length := List.length_pos_of_mem hx
    rw [List.length_cons]
    omega
theorem mem_keys {kvs : List (NestedKey × V)} {k : NestedKey} : k ∈ kvs.map (·.1) ↔ (valV kvs k).isSome = true := by
  rw [← valV_any, List.any_eq_true, List.mem_map]
  constructor
  · rintro ⟨x, hx, rfl⟩
    exact ⟨x, hx, decide_eq_true rfl⟩
  · rintro ⟨x, hx, e⟩
    exact ⟨x, hx, of_decide_eq_true e⟩

/-! ### dicts as sets -/
def KeySet (P : Program) (w : World) (H : Hp) (d : Addr) (S : NestedKey → Prop) : Prop := ∃ kvs, DN P w H d kvs ∧ ∀ k, (valV kvs k).isSome = true ↔ S k
section
variable {P : Program} {w : World} {H H' : Hp} {d : Addr} {S : NestedKey → Prop}
theorem KeySet.same (x : KeySet P w H d S) (s : Same H H') : KeySet P w H' d S := let ⟨kvs, a, b⟩ := x; ⟨kvs, a.same s, b⟩
theorem KeySet.keep (x : KeySet P w H d S) (e : H' d = H d) (t : TK H H') : KeySet P w H' d S := let ⟨kvs, a, b⟩ := x; ⟨kvs, a.keep e t, b⟩
theorem KeySet.some (x : KeySet P w H d S) : ∃ φ, H d = some (.ext φ) := let ⟨_, a, _⟩ := x; a.some
theorem KeySet.iff {S' : NestedKey → Prop} (x : KeySet P w H d S) (h : ∀ k, S k ↔ S' k) : KeySet P w H d S' := let ⟨kvs, a, b⟩ := x; ⟨kvs, a, fun k => (b k).trans (h k)⟩
end

/-! ### dicts of lists -/
/-- at d a dict whose values are lists of their own, none of them in F, that hold m's things; no list at a key: m has nothing there -/
def MD {α : Type} (P : Program) (w : World) (U : List NestedKey) (F : Addr → Prop) (H : Hp) (d : Addr) (R : Rp α) (m : NestedKey → List α) : Prop :=
  ∃ kvs, DN P w H d kvs ∧ (∀ k, (valV kvs k).isSome = true → k ∈ U) ∧ (∀ k, valV kvs k = none → m k = []) ∧
    (∀ k v, valV kvs k = some v → ∃ l vs, v = .ref l ∧ ¬ F l ∧ H l = some (.lst vs) ∧ Paired (R H) vs (m k)) ∧
    ∀ k1 k2 l, valV kvs k1 = some (.ref l) → valV kvs k2 = some (.ref l) → k1 = k2
/-- .. at k stands the list at l -/
def MDk {α : Type} (P : Program) (w : World) (U : List NestedKey) (F : Addr → Prop) (H : Hp) (d : Addr) (R : Rp α) (m : NestedKey → List α) (k : NestedKey) (l : Addr) : Prop :=
  ∃ kvs, DN P w H d kvs ∧ (∀ k, (valV kvs k).isSome = true → k ∈ U) ∧ (∀ k, valV kvs k = none → m k = []) ∧
    (∀ k v, valV kvs k = some v → ∃ l vs, v = .ref l ∧ ¬ F l ∧ H l = some (.lst vs) ∧ Paired (R H) vs (m k)) ∧
    (∀ k1 k2 l, valV kvs k1 = some (.ref l) → valV kvs k2 = some (.ref l) → k1 = k2) ∧ valV kvs k = some (.ref l)
section
variable {α : Type} {P : Program} {w : World} {U : List NestedKey} {F F' : Addr → Prop} {H H' : Hp} {d : Addr} {R : Rp α} {m : NestedKey → List α} {k : NestedKey} {l : Addr}
theorem MD.nil {φ : Heap → Prop} {p : Addr} (x : DN P w (upd H p (.ext φ)) p []) : MD P w U F (upd H p (.ext φ)) p R (fun _ => []) :=
  ⟨[], x, fun k e => (by cases e), fun _ _ => rfl, fun k v e => (by cases e), fun k1 k2 l e => (by cases e)⟩
theorem MD.frame (hR : TMono R) (x : MD P w U F H d R m) (s : ∀ c o, ¬ F c → H c = some o → H' c = some o) (t : TK H H') (hd : ¬ F d) : MD P w U F H' d R m := by
  obtain ⟨kvs, a, u, b, c, e⟩ := x
  obtain ⟨φ, q⟩ := a.some
  refine ⟨kvs, a.keep ((s _ _ hd q).trans q.symm) t, u, b, fun k v hv => ?_, e⟩
  obtain ⟨l, vs, h1, h2, h3, h4⟩ := c k v hv
  exact ⟨l, vs, h1, h2, s _ _ h2 h3, paired_tmono hR t h4⟩
theorem MD.same (hR : TMono R) (x : MD P w U F H d R m) (s : Same H H') : MD P w U F H' d R m := by
  obtain ⟨kvs, a, u, b, c, e⟩ := x
  refine ⟨kvs, a.same s, u, b, fun k v hv => ?_, e⟩
  obtain ⟨l, vs, h1, h2, h3, h4⟩ := c k v hv
  exact ⟨l, vs, h1, h2, s _ _ h3, paired_tmono hR (TK.same s) h4⟩
theorem MDk.same (hR : TMono R) (x : MDk P w U F H d R m k l) (s : Same H H') : MDk P w U F H' d R m k l := by
  obtain ⟨kvs, a, u, b, c, e, z⟩ := x
  refine ⟨kvs, a.same s, u, b, fun k v hv => ?_, e, z⟩
  obtain ⟨l, vs, h1, h2, h3, h4⟩ := c k v hv
  exact ⟨l, vs, h1, h2, s _ _ h3, paired_tmono hR (TK.same s) h4⟩
/-- other addresses may be kept apart, where nothing stood yet -/
theorem MD.more (x : MD P w U F H d R m) (h : ∀ c, F' c → F c ∨ H c = none) : MD P w U F' H d R m := by
  obtain ⟨kvs, a, u, b, c, e⟩ := x
  refine ⟨kvs, a, u, b, fun k v hv => ?_, e⟩
  obtain ⟨l, vs, h1, h2, h3, h4⟩ := c k v hv
  refine ⟨l, vs, h1, fun q => ?_, h3, h4⟩
  rcases h l q with z | z
  · exact h2 z
  · rw [h3] at z
    cases z
theorem MD.less (x : MD P w U F H d R m) (h : ∀ c, F' c → F c) : MD P w U F' H d R m := x.more fun c q => .inl (h c q)
theorem MD.at (x : MD P w U F H d R m) (k : NestedKey) : ∃ kvs, DN P w H d kvs ∧ ((valV kvs k = none ∧ m k = []) ∨ ∃ l vs, valV kvs k = some (.ref l) ∧ ¬ F l ∧ H l = some (.lst vs) ∧ Paired (R H) vs (m k)) := by
  obtain ⟨kvs, a, u, b, c, e⟩ := x
  refine ⟨kvs, a, ?_⟩
  cases q : valV kvs k with
  | none => exact .inl ⟨rfl, b k q⟩
  | some v =>
    obtain ⟨l, vs, rfl, h2, h3, h4⟩ := c k v q
    exact .inr ⟨l, vs, rfl, h2, h3, h4⟩
/-- d.setdefault(k, []), the new list at p: what its reading asks behind the arguments -/
theorem MD.setd (hR : TMono R) (x : MD P w U F H d R m) {b p : Addr} (hk : NK H k b) (hp : H p = none) (hpF : ¬ F p) (hkU : k ∈ U) (hU : U.length < 100000) {Q : VK}
    (hQ : ∀ l Hx, (∀ c o, c ≠ d → H c = some o → Hx c = some o) → TK H Hx → MDk P w U F Hx d R m k l → Q (.ref l) Hx) :
    ∃ b' kvs k, V.ref b = .ref b' ∧ DN P w (upd H p (.lst [])) d kvs ∧ NK (upd H p (.lst [])) k b' ∧ kvs.length < sizeLine ∧ (∀ v, valV kvs k = some v → Q v (upd H p (.lst []))) ∧
      (valV kvs k = none → ∀ φ, DN P w (upd (upd H p (.lst [])) d (.ext φ)) d (putK kvs k (.ref p)) → Q (.ref p) (upd (upd H p (.lst [])) d (.ext φ))) := by
  have sp : Same H (upd H p (.lst [])) := same_new hp _
  obtain ⟨kvs, a, u, bb, c, e⟩ := id x
  have hlen : kvs.length ≤ U.length := by
    rw [← List.length_map (f := (·.1))]
    exact length_le_of_sub a.nodup fun k hk => u k (mem_keys.mp hk)
  refine ⟨b, kvs, k, rfl, a.same sp, hk.tk (TK.same sp), sz_lt (by omega), fun v hv => ?_, fun hv φ hd => ?_⟩
  · obtain ⟨l, vs, rfl, h2, h3, h4⟩ := c k v hv
    refine hQ l _ (fun c o _ q => sp _ _ q) (TK.same sp) ?_
    exact ⟨kvs, a.same sp, u, bb, fun k v hv => by
      obtain ⟨l, vs, h1, h2, h3, h4⟩ := c k v hv
      exact ⟨l, vs, h1, h2, sp _ _ h3, paired_tmono hR (TK.same sp) h4⟩, e, hv⟩
  · obtain ⟨φ0, q0⟩ := a.some
    have ndp : d ≠ p := ne_of_none q0 hp
    have tk : TK H (upd (upd H p (.lst [])) d (.ext φ)) := (TK.same sp).trans (TK.upd (a.same sp).noTup)
    refine hQ p _ (fun c o hc q => ?_) tk ⟨putK kvs k (.ref p), hd, fun k' hk' => ?_, fun k' hk' => ?_, fun k' v hv' => ?_, fun k1 k2 l h1 h2 => ?_, ?_⟩
    · rw [upd_ne hc]
      exact sp _ _ q
    · rw [valV_put] at hk'
      by_cases q : k' = k
      · rw [q]
        exact hkU
      · rw [if_neg q] at hk'
        exact u k' hk'
    · rw [valV_put] at hk'
      by_cases q : k' = k
      · rw [if_pos q] at hk'
        cases hk'
      · rw [if_neg q] at hk'
        exact bb k' hk'
    · rw [valV_put] at hv'
      by_cases q : k' = k
      · rw [if_pos q] at hv'
        cases hv'
        refine ⟨p, [], rfl, hpF, ?_, ?_⟩
        · rw [upd_ne ndp.symm, upd_same]
        · rw [q, bb k hv]
          exact .nil
      · rw [if_neg q] at hv'
        obtain ⟨l, vs, h1, h2, h3, h4⟩ := c k' v hv'
        refine ⟨l, vs, h1, h2, ?_, paired_tmono hR tk h4⟩
        rw [upd_ne (ne_of h3 q0 (by intro z; cases z))]
        exact sp _ _ h3
    · have key : ∀ k', valV (putK kvs k (.ref p)) k' = some (.ref l) → (k' = k ∧ l = p) ∨ (k' ≠ k ∧ valV kvs k' = some (.ref l)) := fun k' h => by
        rw [valV_put] at h
        by_cases q : k' = k
        · rw [if_pos q] at h
          cases h
          exact .inl ⟨q, rfl⟩
        · rw [if_neg q] at h
          exact .inr ⟨q, h⟩
      have nop : ∀ k', valV kvs k' = some (.ref p) → False := fun k' h => by
        obtain ⟨l', vs, h1, _, h3, _⟩ := c k' _ h
        cases h1
        rw [hp] at h3
        cases h3
      rcases key k1 h1 with ⟨e1, e2⟩ | ⟨e1, e2⟩ <;> rcases key k2 h2 with ⟨e3, e4⟩ | ⟨e3, e4⟩
      · rw [e1, e3]
      · subst e2
        exact (nop _ e4).elim
      · subst e4
        exact (nop _ e2).elim
      · exact e k1 k2 l e2 e4
    · rw [valV_put, if_pos rfl]
/-- .. then .append(x) of the list at l -/
theorem MDk.app (hR : TMono R) (x : MDk P w U F H d R m k l) {y : V} {a : α} (hy : R H y a) : ∃ vs, H l = some (.lst vs) ∧ vs.length = (m k).length ∧ ¬ F l ∧ l ≠ d ∧ MD P w U F (upd H l (.lst (vs ++ [y]))) d R (fun k' => if k' = k then m k ++ [a] else m k') := by
  obtain ⟨kvs, dn, u, b, c, e, z⟩ := x
  obtain ⟨l', vs, h1, h2, h3, h4⟩ := c k _ z
  cases h1
  obtain ⟨φ, q0⟩ := dn.some
  have nld : l ≠ d := ne_of h3 q0 (by intro z; cases z)
  have nt : ∀ xs, H l ≠ some (.tup xs) := fun xs q => by rw [h3] at q; cases q
  have tk : TK H (upd H l (.lst (vs ++ [y]))) := TK.upd nt
  refine ⟨vs, h3, h4.length, h2, nld, kvs, dn.other nld.symm nt, u, fun k' hk' => ?_, fun k' v hv => ?_, e⟩
  · by_cases q : k' = k
    · rw [q, z] at hk'
      cases hk'
    · show (if k' = k then _ else _) = _
      rw [if_neg q]
      exact b k' hk'
  · by_cases q : k' = k
    · rw [q, z] at hv
      cases hv
      refine ⟨l, _, rfl, h2, upd_same, ?_⟩
      show Paired _ _ (if k' = k then m k ++ [a] else m k')
      rw [if_pos q]
      exact paired_tmono hR tk (paired_app h4 (.cons hy .nil))
    · obtain ⟨l', ws, g1, g2, g3, g4⟩ := c k' v hv
      have nl : l' ≠ l := fun w => q (e k' k l (by rw [hv, g1, w]) z)
      refine ⟨l', ws, g1, g2, by rw [upd_ne nl]; exact g3, ?_⟩
      show Paired _ _ (if k' = k then m k ++ [a] else m k')
      rw [if_neg q]
      exact paired_tmono hR tk g4
end

theorem MD.congr {α : Type} {P : Program} {w : World} {U : List NestedKey} {F : Addr → Prop} {H : Hp} {d : Addr} {R : Rp α} {m m' : NestedKey → List α} (x : MD P w U F H d R m) (h : ∀ k, m k = m' k) : MD P w U F H d R m' := by
  have e : m = m' := funext h
  rw [← e]
  exact x
/-- d.setdefault(k, []).append(y), a statement: what it asks and what it leaves -/
theorem sd_app {α : Type} {P : Program} {w : World} {K : PySem.W.Frag} {U : List NestedKey} {F : Addr → Prop} {R : Rp α} (hR : TMono R) {m : NestedKey → List α} {td ty te : TE} {D : Ends} {σ : L2.St} {H : Hp} {d : Addr} {k : NestedKey} {a : α}
    (x : MD P w U F H d R m) (hF : ∀ c, F c → ∃ o, H c = some o) (hkU : k ∈ U) (hU : U.length < 100000) (hm : (m k).length < 50000)
    (h1 : ∀ Q : VK, Q (.ref d) H → td σ H Q) (h2 : ∀ Q : VK, (∀ b Hy, Same H Hy → NK Hy k b → Q (.ref b) Hy) → ty σ H Q)
    (h3 : ∀ (Hz : Hp) (Q : VK), (∀ c o, c ≠ d → H c = some o → Hz c = some o) → TK H Hz → (∀ v Hw, Same Hz Hw → R Hw v a → Q v Hw) → te σ Hz Q)
    (hk : ∀ H', (∀ c o, F c → c ≠ d → H c = some o → H' c = some o) → TK H H' → MD P w U F H' d R (fun k' => if k' = k then m k ++ [a] else m k') → D.nx σ H') :
    tDrop (tBM K "list" rAppend (tNSetd P w td ty (tLst tNil)) (tCons te tNil)) D σ H := by
  refine h1 _ ?_
  obtain ⟨kv0, dn0, _⟩ := id x
  refine ⟨d, kv0, rfl, dn0, h2 _ fun b Hy sy nk => ⟨Nat.zero_le _, fun p hp => ?_⟩⟩
  have hpF : ¬ F p := fun q => by
    obtain ⟨o, e⟩ := hF p q
    rw [sy _ _ e] at hp
    cases hp
  refine MD.setd (Q := fun x H1 => tyV K "list" x H1 ∧ tCons te tNil σ H1 fun xs H2 => rAppend x xs H2 fun _ H3 => D.nx σ H3) hR (x.same hR sy) nk hp hpF hkU hU fun l Hx fr tk mk => ?_
  have fr0 : ∀ c o, c ≠ d → H c = some o → Hx c = some o := fun c o hc e => fr c o hc (sy _ _ e)
  have tk0 : TK H Hx := (TK.same sy).trans tk
  obtain ⟨kvs, _, _, _, c, _, z⟩ := id mk
  obtain ⟨l', vs, e1, e2, e3, _⟩ := c _ _ z
  cases e1
  refine ⟨.inl ⟨rfl, _, SqL.of e3⟩, h3 Hx _ fr0 tk0 fun v Hw sw hv => ?_⟩
  obtain ⟨vs', g1, g2, g3, g4, g5⟩ := (mk.same hR sw).app hR hv
  refine ⟨l, vs', v, rfl, rfl, g1, sz_lt (by omega), hk _ (fun c o hc hcd e => ?_) ?_ g5⟩
  · rw [upd_ne (fun (q : c = l) => g3 (by rw [← q]; exact hc))]
    exact sw _ _ (fr0 c o hcd e)
  · exact (tk0.trans (TK.same sw)).trans (TK.upd fun xs q => by rw [g1] at q; cases q)
end Hm
end

section
set_option Elab.async false
set_option linter.all false
set_option maxRecDepth 100000
set_option maxHeartbeats 4000000
/-! members, led_on, break_here, own_steps_from, leading_to. -/
namespace Hm
open PySem L2
section
variable {P : Program} {w : World} {K : PySem.W.Frag} {mg : Str → Option Value} {base : Heap}
/-! ### members -/
abbrev s_members : Stmt := top 22
abbrev n_members : List Str := ["some", "found", "thing"]
theorem sc_members : FnScope n_members ["some"] (defScope s_members) := ⟨rfl, rfl, rfl, by decide +kernel, rfl, by decide +kernel, by decide +kernel⟩
def spMembers (P : Program) (w : World) : Sp := fun vs H Q _ => ∃ (v : V) (α : Type) (R : Rp α) (key : α → NestedKey) (xs : List α), vs = [v] ∧ LstOf R H v xs ∧ Mono R ∧ (∀ H u x, R H u x → ∃ b, u = .ref b ∧ NK H (key x) b) ∧ xs.length ≤ 50000 ∧
  ∀ d H', Same H H' → H d = none → KeySet P w H' d (fun k => ∃ x ∈ xs, k = key x) → Q (.ref d) H'
theorem ok_members (D : Def K mg "members" s_members ["some"]) (T : Txt K mg) : Cal P w K mg base "members" ["some"] 1 (spMembers P w) := by
  refine D.cal sc_members (fun vs H Q E h => ?_) (fun f cdv A outer s H vs Q E hr h => ?_)
  · obtain ⟨v, α, R, key, xs, rfl, _⟩ := h
    rfl
  obtain ⟨v, α, R, key, xs, rfl, ⟨a, us, rfl, ha, hp⟩, hR, hkey, hlen, q⟩ := h
  have hu := r64 hr
  refine ⟨_, (pss_cons (ps_set (i := 1) sc_members.nd rfl (Or.inl rfl) (pe_nnewK P w))
    (pss_cons (ps_for PassesOwn.never rfl (pi_listK K (pv 0)) (pg_name (i := 2) sc_members.nd rfl (Or.inl rfl)) (pss_one (ps_nputK P w hu (pv 1) (pv 2) pe_bl)))
    (pss_one (ps_ret (pv 1))))), ?_⟩
  intro d φ hd dn
  have s0 := same_new hd (.ext φ)
  refine ⟨_, rfl, a, rfl, ⟨_, SqL.of (s0 _ _ ha)⟩, for_it walk_list
    (fun i σ H' => ∃ x2 kvs, σ = [some (.ref a), some (.ref d), x2] ∧ Same H H' ∧ DN P w H' d kvs ∧ kvs.length ≤ i ∧ ∀ k, (valV kvs k).isSome = true ↔ ∃ x ∈ xs.take i, k = key x)
    ⟨none, [], rfl, s0, dn, Nat.zero_le _, fun k => by simp [valV]⟩ (fun i σ H' _ ⟨_, _, _, s, _⟩ => SqL.of (s _ _ ha)) ?_ ?_⟩
  · rintro i u σ H' H'' hi ⟨x2, kvs, rfl, s1, dn1, hl, hks⟩ ⟨rfl, hx⟩
    obtain ⟨x, hxx, hxr⟩ := paired_getl hp hx
    obtain ⟨b, rfl, nk⟩ := hkey _ _ _ (hR _ _ _ _ s1 hxr)
    have hi' := (List.getElem?_eq_some_iff.mp hxx).1
    refine ⟨_, rfl, _, rfl, d, b, kvs, key x, rfl, rfl, dn1, nk, sz_lt (by omega), fun φ' dn2 => ?_⟩
    refine ⟨_, _, rfl, fun b' o' e' => ?_, dn2, Nat.le_trans (length_putK _ _ _) (by omega), fun k => ?_⟩
    · rw [upd_ne (fun z => by rw [z, hd] at e'; cases e')]
      exact s1 _ _ e'
    · rw [valV_put, take_snoc hxx]
      by_cases c : k = key x
      · rw [if_pos c]
        exact ⟨fun _ => ⟨x, by simp, c⟩, fun _ => rfl⟩
      · rw [if_neg c, hks]
        constructor
        · rintro ⟨y, hy, e⟩
          exact ⟨y, List.mem_append_left _ hy, e⟩
        · rintro ⟨y, hy, e⟩
          rcases List.mem_append.mp hy with hy | hy
          · exact ⟨y, hy, e⟩
          · rw [List.mem_singleton.mp hy] at e
            exact absurd e c
  · rintro σ H' ⟨x2, kvs, rfl, s1, dn1, hl, hks⟩
    rw [hp.length, take_all] at hks
    exact ⟨_, rfl, q d _ s1 hd ⟨kvs, dn1, hks⟩⟩
/-! ### led_on -/
abbrev s_led_on : Stmt := top 23
abbrev n_led_on : List Str := ["steps", "found", "ahead", "after"]
theorem sc_led_on : FnScope n_led_on ["steps"] (defScope s_led_on) := ⟨rfl, rfl, rfl, by decide +kernel, rfl, by decide +kernel, by decide +kernel⟩
/-- where steps lead from a stand -/
def ledF (steps : List Step) (k : NestedKey) : List Stand := (steps.filter fun q => decide (kSt q.1 = k)).map (·.2)
def spLedOn (P : Program) (w : World) : Sp := fun vs H Q _ => ∃ v steps, vs = [v] ∧ IsSteps H v steps ∧ steps.length ≤ 1000 ∧
  ∀ d H', Same H H' → H d = none → MD P w (steps.map fun q => kSt q.1) (fun c => ∃ o, H c = some o) H' d IsSt (ledF steps) → Q (.ref d) H'
theorem ok_led_on (D : Def K mg "led_on" s_led_on ["steps"]) (T : Txt K mg) : Cal P w K mg base "led_on" ["steps"] 1 (spLedOn P w) := by
  refine D.cal sc_led_on (fun vs H Q E h => ?_) (fun f cdv A outer s H vs Q E hr h => ?_)
  · obtain ⟨v, steps, rfl, _⟩ := h
    rfl
  obtain ⟨v, steps, rfl, ⟨a, us, rfl, ha, hp⟩, hlen, q⟩ := h
  have hu := r64 hr
  refine ⟨_, (pss_cons (ps_set (i := 1) sc_led_on.nd rfl (Or.inl rfl) (pe_nnewK P w))
    (pss_cons (ps_for PassesOwn.never rfl (pi_listK K (pv 0)) (pg_tupK (n := 2) K rfl (pgs_cons (pg_name (i := 2) sc_led_on.nd rfl (Or.inl rfl)) (pgs_cons (pg_name (i := 3) sc_led_on.nd rfl (Or.inl rfl)) pgs_nil))) (pss_one (ps_expr (pe_bm PySem.F.plainAttrs_list PySem.F.slot_list_append PySem.F.type_list_append mt_append (pe_nsetdK P w hu (pv 1) (pv 2) (pe_lst pa_nil) ⟨rfl, rfl, rfl, rfl⟩) (pa_cons (pv 3) pa_nil)))))
    (pss_one (ps_ret (pv 1))))), ?_⟩
  intro d φ hd dn
  have s0 := same_new hd (.ext φ)
  refine ⟨_, rfl, a, rfl, ⟨_, SqL.of (s0 _ _ ha)⟩, for_it walk_list
    (fun i σ H' => ∃ x2 x3, σ = [some (.ref a), some (.ref d), x2, x3] ∧ Same H H' ∧ MD P w (steps.map fun q => kSt q.1) (fun c => ∃ o, H c = some o) H' d IsSt (ledF (steps.take i)))
    ⟨none, none, rfl, s0, MD.nil dn⟩ (fun i σ H' _ ⟨_, _, _, s, _⟩ => SqL.of (s _ _ ha)) ?_ ?_⟩
  · rintro i u σ H' H'' hi ⟨x2, x3, rfl, s1, md⟩ ⟨rfl, hx⟩
    obtain ⟨⟨sa, sb⟩, hq, b, x, y, rfl, hb, hxs, hys⟩ := paired_getl hp hx
    have hi' := (List.getElem?_eq_some_iff.mp hq).1
    refine ⟨b, _, rfl, SqT.of (s1 _ _ hb), rfl, _, _, rfl, _, _, rfl, rfl, ?_⟩
    have hxs' := st_tm.mono _ _ _ _ s1 hxs
    obtain ⟨bx, rfl, hbx⟩ := id hxs'
    refine sd_app st_tm (a := sb) (k := kSt sa) md (fun c ⟨o, e⟩ => ⟨o, s1 _ _ e⟩) (List.mem_map.mpr ⟨_, List.mem_of_getElem? hq, rfl⟩) (by rw [List.length_map]; omega)
      (by unfold ledF; rw [List.length_map]; have := List.length_filter_le (fun q => decide (kSt q.1 = kSt sa)) (steps.take i); rw [List.length_take] at this; omega)
      (fun Q' k => ⟨_, rfl, k⟩) (fun Q' k => ⟨_, rfl, k bx _ (Same.refl _) (key_st hxs')⟩) (fun Hz Q' _ tk k => ⟨_, rfl, k _ _ (Same.refl _) (st_tm _ _ _ _ tk (st_tm.mono _ _ _ _ s1 hys))⟩) fun H3 fr tk md' => ?_
    refine ⟨_, _, rfl, fun c o e => ?_, md'.congr fun k => ?_⟩
    · exact fr c o ⟨o, e⟩ (fun z => by rw [z, hd] at e; cases e) (s1 _ _ e)
    · unfold ledF
      rw [take_snoc hq, List.filter_append, List.map_append, List.filter_cons]
      by_cases c : k = kSt sa
      · rw [if_pos c, c, if_pos (decide_eq_true rfl)]
        rfl
      · rw [if_neg c, if_neg (by rw [decide_eq_true_eq]; exact fun z => c z.symm)]
        simp
  · rintro σ H' ⟨x2, x3, rfl, s1, md⟩
    rw [hp.length, take_all] at md
    exact ⟨_, rfl, q d _ s1 hd md⟩
/-! ### a way of a hand -/
theorem hand_item {H : Hp} {ah : Addr} {hand : Hand} {p k : Nat} {wy : Way} (h : IsHand H (.ref ah) hand) (e : (hand.getD p [])[k]? = some wy) :
    ∃ rows ar ws u row, H ah = some (.lst rows) ∧ rows[p]? = some (.ref ar) ∧ H ar = some (.lst ws) ∧ ws[k]? = some u ∧ IsWay H u wy ∧ row ∈ hand ∧ wy ∈ row := by
  obtain ⟨b, rows, eb, hb, hp⟩ := h
  cases eb
  rw [List.getD_eq_getElem?_getD] at e
  cases hr : hand[p]? with
  | none =>
    rw [hr] at e
    cases e
  | some row =>
    rw [hr] at e
    obtain ⟨u, hu, ar, ws, rfl, har, hws⟩ := paired_get hp hr
    obtain ⟨x, hx, hw⟩ := paired_get hws (show row[k]? = some wy from e)
    exact ⟨rows, ar, ws, x, row, hb, hu, har, hx, hw, List.mem_of_getElem? hr, List.mem_of_getElem? (show row[k]? = some wy from e)⟩
/-! ### break_here -/
abbrev s_break_here : Stmt := top 15
abbrev n_break_here : List Str := ["boxes", "hand", "promised", "note", "place", "stand", "way", "after"]
theorem sc_break_here : FnScope n_break_here ["boxes", "hand", "promised", "note", "place", "stand"] (defScope s_break_here) := ⟨rfl, rfl, rfl, by decide +kernel, rfl, by decide +kernel, by decide +kernel⟩
def Bad (tops : List Int) (row : List Way) (promise : List Step) (s : Stand) (k : Nat) : Prop := ∃ wy t, row[k]? = some wy ∧ beh tops wy s = some t ∧ t ≠ s ∧ (s, t) ∉ promise
theorem bad_iff {tops : List Int} {row : List Way} {promise : List Step} {s : Stand} : (∃ k ∈ waysF tops row s, Bad tops row promise s k) ↔ ∃ wy ∈ row, ∃ t, beh tops wy s = some t ∧ t ≠ s ∧ (s, t) ∉ promise := by
  constructor
  · rintro ⟨k, _, wy, t, h1, h2⟩
    exact ⟨wy, List.mem_of_getElem? h1, t, h2⟩
  · rintro ⟨wy, h1, t, h2, h3⟩
    obtain ⟨k, hk⟩ := List.mem_iff_getElem?.mp h1
    exact ⟨k, mem_waysF.mpr ⟨wy, t, hk, h2⟩, wy, t, hk, h2, h3⟩
def spBreakHere (P : Program) (w : World) : Sp := fun vs H Q _ => ∃ vb vh vn vt pr tops hand c p s, ∃ promise : List Step, vs = [vb, vh, .ref pr, vn, .int (p : Nat), vt] ∧ IsBoxes H vb tops ∧ IsHand H vh hand ∧ KeySet P w H pr (fun k => ∃ q ∈ promise, k = kStep q) ∧ IsCd H vn c ∧ IsSt H vt s ∧
  HandOk tops hand ∧ c.ok tops.length ∧ p ≤ hand.length ∧ Valid tops s ∧
  ∀ v H', Same H H' → (v = .non ∧ ¬ (c.holds s = false ∨ ∃ wy ∈ hand.getD p [], ∃ t, beh tops wy s = some t ∧ t ≠ s ∧ (s, t) ∉ promise) ∨ v ≠ .non ∧ (c.holds s = false ∨ ∃ wy ∈ hand.getD p [], ∃ t, beh tops wy s = some t ∧ t ≠ s ∧ (s, t) ∉ promise)) → Q v H'
theorem ok_break_here (D : Def K mg "break_here" s_break_here ["boxes", "hand", "promised", "note", "place", "stand"]) (T : Txt K mg) (c_holds : Cal P w K mg base "holds" ["cond", "ahead", "behind"] 4 (spHolds 2)) (c_behind : Cal P w K mg base "behind" ["boxes", "way", "stand"] 5 spBehind) (c_ways_at : Cal P w K mg base "ways_at" ["boxes", "hand", "place", "stand"] 6 spWaysAt) :
    Cal P w K mg base "break_here" ["boxes", "hand", "promised", "note", "place", "stand"] 7 (spBreakHere P w) := by
  refine D.cal sc_break_here (fun vs H Q E h => ?_) (fun f cdv A outer s H vs Q E hr h => ?_)
  · obtain ⟨vb, vh, vn, vt, pr, tops, hand, c, p, s, promise, rfl, _⟩ := h
    rfl
  obtain ⟨vb, vh, vn, vt, pr, tops, hand, c, p, st, promise, rfl, hb, hh, hpr, hc, ht, ho, co, hp, hv, q⟩ := h
  have hu := r64 hr
  refine ⟨_, (pss_cons (ps_if (pt_not (pt_val (pe_cal c_holds (hr.mono (by first | exact Nat.le_refl _ | decide | omega)) rfl (pa_cons (pv 3) (pa_cons (pv 5) (pa_cons pe_non pa_nil)))))) (pss_one (ps_ret (pe_tup (pa_cons pe_str pa_nil)))) pss_nil)
    (pss_cons (ps_for PassesOwn.never rfl (pi_listK K (pe_cal c_ways_at (hr.mono (by first | exact Nat.le_refl _ | decide | omega)) rfl (pa_cons (pv 0) (pa_cons (pv 1) (pa_cons (pv 4) (pa_cons (pv 5) pa_nil)))))) (pg_name (i := 6) sc_break_here.nd rfl (Or.inl rfl)) (pss_cons (ps_set (i := 7) sc_break_here.nd rfl (Or.inl rfl) (pe_cal c_behind (hr.mono (by first | exact Nat.le_refl _ | decide | omega)) rfl (pa_cons (pv 0) (pa_cons (pe_ix (ix_listK K) (pe_ix (ix_listK K) (pv 1) (pv 4) (fun _ _ => rfl)) (pv 6) (fun _ _ => rfl)) (pa_cons (pv 5) pa_nil)))))
        (pss_one (ps_if (PW.pt (pw_and (pt_cmpR (op_neDK K hu) (pv 7) (pv 5) (nomark _)) (pw_and1 (pt_cmp (pc_nnotinK P w hu (pe_tup (pa_cons (pv 5) (pa_cons (pv 7) pa_nil))) (pv 2)) rfl)))) (pss_one (ps_ret (pe_tup (pa_cons pe_str (pa_cons (pv 6) pa_nil))))) pss_nil))))
    (pss_one (ps_ret pe_non)))), ?_⟩
  refine ⟨_, rfl, _, rfl, vn, _, _, c, st, rfl, hc, ht, Nat.lt_succ_of_le co.dep, co.sdep, by rw [hv.1]; exact co.wf, _, rfl, ?_⟩
  cases hcs : c.holds st with
  | false =>
    refine ifT rfl ⟨sz_of (show 1 ≤ 100000 by decide), fun t ht0 => ?_⟩
    exact q _ _ (same_new ht0 _) (.inr ⟨fun z => (nomatch z), .inl hcs⟩)
  | true =>
    refine ifF rfl ?_
    refine ⟨_, rfl, _, rfl, _, rfl, _, rfl, vb, vh, vt, tops, hand, p, st, rfl, hb, hh, ht, ho, hp, hv, fun v1 H1 s1 hv1 => ?_⟩
    obtain ⟨L, ks, rfl, hL, hks⟩ := LstOf.mono nat_m _ _ _ _ (nw_sub (TK.same s1)) hv1
    obtain ⟨ah, rows0, rfl, _⟩ := id hh
    refine ⟨L, rfl, ⟨_, SqL.of hL⟩, for_it walk_list
      (fun i σ H' => ∃ x6 x7, σ = [some vb, some (.ref ah), some (.ref pr), some vn, some (.int (p : Nat)), some vt, x6, x7] ∧ Same H1 H' ∧ ∀ k ∈ (waysF tops (hand.getD p []) st).take i, ¬ Bad tops (hand.getD p []) promise st k)
      ⟨none, none, rfl, Same.refl _, fun k hk => by simp at hk⟩ (fun i σ H' _ ⟨_, _, _, s, _⟩ => SqL.of (s _ _ hL)) ?_ ?_⟩
    · rintro i x σ H' H'' hi ⟨x6, x7, rfl, s2, hno⟩ ⟨rfl, hx⟩
      obtain ⟨k, hk, ex⟩ := paired_getl hks hx
      have ex' : x = .int (k : Int) := ex
      subst ex'
      obtain ⟨wy, t, hwy, hbe⟩ := mem_waysF.mp (List.mem_of_getElem? hk)
      have s02 := s1.trans s2
      obtain ⟨rows, ar, ws, u, row, g1, g2, g3, g4, g5, g6, g7⟩ := hand_item (hand_m _ _ _ _ s02 hh) hwy
      refine ⟨_, rfl, _, rfl, _, rfl, ah, _, _, _, rfl, rfl, SqL.of g1, atI_nat g2, _, rfl, ar, _, _, _, rfl, rfl, SqL.of g3, atI_nat g4, _, rfl, vb, u, vt, tops, wy, st, _, rfl, boxes_m _ _ _ _ s02 hb, g5, st_tm.mono _ _ _ _ s02 ht, ho.ways _ g6 wy g7, hv, by have := ho.box.len; omega, fun v3 H3 s3 hov => ?_⟩
      rw [hbe] at hov
      have hov' : IsSt H3 v3 t := hov
      have s03 := s02.trans s3
      have ht3 := st_tm.mono _ _ _ _ s03 ht
      refine ⟨_, rfl, _, rfl, dSt t, dSt st, dp_st hov', dp_st ht3, shaped_st _, shaped_st _, _, rfl, ?_⟩
      rw [eqv_st]
      by_cases c1 : t = st
      · refine ifF (by rw [decide_eq_true c1]; rfl) ?_
        refine ifF rfl ⟨_, _, rfl, s2.trans s3, fun k' hk' => ?_⟩
        rw [take_snoc hk] at hk'
        rcases List.mem_append.mp hk' with z | z
        · exact hno k' z
        · rw [List.mem_singleton.mp z]
          rintro ⟨wy', t', e1, e2, e3, _⟩
          rw [hwy] at e1
          cases e1
          rw [hbe] at e2
          cases e2
          exact e3 c1
      · refine ifT (by rw [decide_eq_false c1]; rfl) ?_
        refine ⟨_, rfl, _, rfl, sz_of (show 2 ≤ 100000 by decide), fun t4 ht4 => ?_⟩
        have s4 : Same H3 (upd H3 t4 (.tup [vt, v3])) := same_new ht4 _
        obtain ⟨kvs, dn, hkv⟩ := hpr.same (s03.trans s4)
        have nk : NK (upd H3 t4 (.tup [vt, v3])) (kStep (st, t)) t4 := key_pair (p := (st, t)) upd_same (st_tm.mono _ _ _ _ s4 ht3) (st_tm.mono _ _ _ _ s4 hov')
        refine ⟨_, rfl, pr, t4, kvs, _, rfl, rfl, dn, nk, _, rfl, ?_⟩
        have hiff : (valV kvs (kStep (st, t))).isSome = true ↔ (st, t) ∈ promise := by
          rw [hkv]
          constructor
          · rintro ⟨q', hq', e⟩
            rw [kStep_inj e]
            exact hq'
          · intro z
            exact ⟨_, z, rfl⟩
        by_cases c2 : (st, t) ∈ promise
        · refine ifF (by rw [hiff.mpr c2]; rfl) ⟨_, _, rfl, (s2.trans s3).trans s4, fun k' hk' => ?_⟩
          rw [take_snoc hk] at hk'
          rcases List.mem_append.mp hk' with z | z
          · exact hno k' z
          · rw [List.mem_singleton.mp z]
            rintro ⟨wy', t', e1, e2, _, e4⟩
            rw [hwy] at e1
            cases e1
            rw [hbe] at e2
            cases e2
            exact e4 c2
        · have e : (valV kvs (kStep (st, t))).isSome = false := Bool.eq_false_iff.mpr fun z => c2 (hiff.mp z)
          refine ifT (by rw [e]; rfl) ⟨_, rfl, sz_of (show 2 ≤ 100000 by decide), fun t5 ht5 => ?_⟩
          exact q _ _ ((s03.trans s4).trans (same_new ht5 _)) (.inr ⟨fun z => (nomatch z), .inr ⟨wy, List.mem_of_getElem? hwy, t, hbe, c1, c2⟩⟩)
    · rintro σ H' ⟨x6, x7, rfl, s2, hno⟩
      rw [hks.length, take_all] at hno
      refine q _ _ (s1.trans s2) (.inl ⟨rfl, ?_⟩)
      rintro (z | z)
      · rw [hcs] at z
        cases z
      · obtain ⟨k, hk, hbad⟩ := bad_iff.mpr z
        exact hno k hk hbad
/-! ### own_steps_from -/
abbrev s_own_steps_from : Stmt := top 16
abbrev n_own_steps_from : List Str := ["boxes", "hand", "place", "stand", "found", "way", "one"]
theorem sc_own_steps_from : FnScope n_own_steps_from ["boxes", "hand", "place", "stand"] (defScope s_own_steps_from) := ⟨rfl, rfl, rfl, by decide +kernel, rfl, by decide +kernel, by decide +kernel⟩
/-- where the k-th way of a row leads -/
def goF (tops : List Int) (row : List Way) (s : Stand) (k : Nat) : Spot := (((row[k]?).bind fun wy => (beh tops wy s).map fun t => (wy.nx, t))).getD (0, [])
def ownF (tops : List Int) (row : List Way) (s : Stand) : List Spot := (waysF tops row s).map (goF tops row s)
theorem mem_ownF {tops : List Int} {row : List Way} {s : Stand} {y : Spot} : y ∈ ownF tops row s ↔ ∃ wy ∈ row, wy.nx = y.1 ∧ beh tops wy s = some y.2 := by
  unfold ownF
  rw [List.mem_map]
  constructor
  · rintro ⟨k, hk, rfl⟩
    obtain ⟨wy, t, h1, h2⟩ := mem_waysF.mp hk
    have e : goF tops row s k = (wy.nx, t) := by
      unfold goF
      rw [h1]
      show ((beh tops wy s).map fun t => (wy.nx, t)).getD (0, []) = _
      rw [h2]
      rfl
    rw [e]
    exact ⟨wy, List.mem_of_getElem? h1, rfl, h2⟩
  · rintro ⟨wy, h1, h2, h3⟩
    obtain ⟨k, hk⟩ := List.mem_iff_getElem?.mp h1
    refine ⟨k, mem_waysF.mpr ⟨wy, y.2, hk, h3⟩, ?_⟩
    unfold goF
    rw [hk]
    show ((beh tops wy s).map fun t => (wy.nx, t)).getD (0, []) = _
    rw [h3, h2]
    rfl
/-- a step, with the spot at its other end -/
def IsLd : Rp Spot := fun H v q => ∃ a x y, v = .ref a ∧ H a = some (.tup [x, y]) ∧ IsSpot H y q
theorem ld_tm : TMono IsLd := fun H H' v q t ⟨a, x, y, e, h, i⟩ => ⟨a, x, y, e, t _ _ h, spot_tm _ _ _ _ t i⟩
def spOwnSteps : Sp := fun vs H Q _ => ∃ vb vh vt tops hand p s, vs = [vb, vh, .int (p : Nat), vt] ∧ IsBoxes H vb tops ∧ IsHand H vh hand ∧ IsSt H vt s ∧ HandOk tops hand ∧ p ≤ hand.length ∧ Valid tops s ∧ ∀ v H', Same H H' → LstOf IsLd (nw H H') v (ownF tops (hand.getD p []) s) → Q v H'
theorem waysF_len (tops : List Int) (row : List Way) (s : Stand) : (waysF tops row s).length ≤ row.length := by
  unfold waysF
  have h := List.length_filter_le (fun k => ((row[k]?).bind fun w => beh tops w s).isSome) (List.range row.length)
  rw [List.length_range] at h
  exact h
theorem HandOk.rowLen {tops : List Int} {hand : Hand} (ho : HandOk tops hand) (p : Nat) : (hand.getD p []).length ≤ 8 := by
  rw [List.getD_eq_getElem?_getD]
  cases e : hand[p]? with
  | none => exact Nat.zero_le _
  | some row => exact ho.row row (List.mem_of_getElem? e)
theorem ok_own_steps_from (D : Def K mg "own_steps_from" s_own_steps_from ["boxes", "hand", "place", "stand"]) (T : Txt K mg) (c_behind : Cal P w K mg base "behind" ["boxes", "way", "stand"] 5 spBehind) (c_ways_at : Cal P w K mg base "ways_at" ["boxes", "hand", "place", "stand"] 6 spWaysAt) :
    Cal P w K mg base "own_steps_from" ["boxes", "hand", "place", "stand"] 7 spOwnSteps := by
  refine D.cal sc_own_steps_from (fun vs H Q E h => ?_) (fun f cdv A outer s H vs Q E hr h => ?_)
  · obtain ⟨vb, vh, vt, tops, hand, p, s, rfl, _⟩ := h
    rfl
  obtain ⟨vb, vh, vt, tops, hand, p, st, rfl, hb, hh, ht, ho, hp, hv, q⟩ := h
  refine ⟨_, (pss_cons (ps_set (i := 4) sc_own_steps_from.nd rfl (Or.inl rfl) (pe_lst pa_nil))
    (pss_cons (ps_for PassesOwn.never rfl (pi_listK K (pe_cal c_ways_at (hr.mono (by first | exact Nat.le_refl _ | decide | omega)) rfl (pa_cons (pv 0) (pa_cons (pv 1) (pa_cons (pv 2) (pa_cons (pv 3) pa_nil)))))) (pg_name (i := 5) sc_own_steps_from.nd rfl (Or.inl rfl)) (pss_cons (ps_set (i := 6) sc_own_steps_from.nd rfl (Or.inl rfl) (pe_ix (ix_listK K) (pe_ix (ix_listK K) (pv 1) (pv 2) (fun _ _ => rfl)) (pv 5) (fun _ _ => rfl)))
        (pss_one (ps_expr (pe_bm PySem.F.plainAttrs_list PySem.F.slot_list_append PySem.F.type_list_append mt_append (pv 4) (pa_cons (pe_tup (pa_cons (pe_tup (pa_cons pe_str (pa_cons (pv 5) pa_nil))) (pa_cons (pe_tup (pa_cons (pe_ix (ix_tupK K) (pv 6) pe_int (fun _ _ => rfl)) (pa_cons (pe_cal c_behind (hr.mono (by first | exact Nat.le_refl _ | decide | omega)) rfl (pa_cons (pv 0) (pa_cons (pv 6) (pa_cons (pv 3) pa_nil)))) pa_nil))) pa_nil))) pa_nil))))))
    (pss_one (ps_ret (pv 4))))), ?_⟩
  refine ⟨Nat.zero_le _, fun d hd => ?_⟩
  have s0 : Same H (upd H d (.lst [])) := same_new hd _
  refine ⟨_, rfl, _, rfl, _, rfl, _, rfl, vb, vh, vt, tops, hand, p, st, rfl, boxes_m _ _ _ _ s0 hb, hand_m _ _ _ _ s0 hh, st_tm.mono _ _ _ _ s0 ht, ho, hp, hv, fun v1 H1 s1 hv1 => ?_⟩
  obtain ⟨L, ks, eL, hL0, hks0⟩ := hv1
  subst eL
  have hL : H1 L = some (.lst ks) := nw_sub (TK.same s1) _ _ hL0
  have hks := paired_mono nat_m (nw_sub (TK.same s1)) hks0
  have ndL : L ≠ d := fun z => by
    rcases nw_cases hL0 with ⟨xs, _, e⟩ | ⟨e, _⟩
    · cases e
    · rw [z, upd_same] at e
      cases e
  have s01 := s0.trans s1
  obtain ⟨ah, rows0, rfl, _⟩ := id hh
  refine ⟨L, rfl, ⟨_, SqL.of hL⟩, for_it walk_list
    (fun i σ H' => ∃ x5 x6 ys, σ = [some vb, some (.ref ah), some (.int (p : Nat)), some vt, some (.ref d), x5, x6] ∧ Same H H' ∧ H' L = some (.lst ks) ∧ H' d = some (.lst ys) ∧ Paired (IsLd H') ys (((waysF tops (hand.getD p []) st).take i).map (goF tops (hand.getD p []) st)))
    ⟨none, none, [], rfl, s01, hL, s1 _ _ upd_same, .nil⟩ (fun i σ H' _ ⟨_, _, _, _, _, s, _⟩ => SqL.of s) ?_ ?_⟩
  · rintro i x σ H'0 H' hi ⟨x5, x6, ys, rfl, s2, hL2, hd2, hys⟩ ⟨rfl, hx⟩
    obtain ⟨k, hk, ex⟩ := paired_getl hks hx
    have ex' : x = .int (k : Int) := ex
    subst ex'
    obtain ⟨wy, t, hwy, hbe⟩ := mem_waysF.mp (List.mem_of_getElem? hk)
    obtain ⟨rows, ar, ws, u, row, g1, g2, g3, g4, g5, g6, g7⟩ := hand_item (hand_m _ _ _ _ s2 hh) hwy
    refine ⟨_, rfl, _, rfl, ah, _, _, _, rfl, rfl, SqL.of g1, atI_nat g2, _, rfl, ar, _, _, _, rfl, rfl, SqL.of g3, atI_nat g4, ?_⟩
    refine ⟨_, rfl, .inl ⟨rfl, _, SqL.of hd2⟩, _, rfl, sz_of (show 2 ≤ 100000 by decide), fun t3 ht3 => ?_⟩
    have s3 : Same H' (upd H' t3 (.tup [.str "own", .int (k : Int)])) := same_new ht3 _
    obtain ⟨aw, gw, pw, ps, rfl, haw, g8⟩ := id g5
    have s03 := s2.trans s3
    refine ⟨_, rfl, aw, _, _, _, rfl, rfl, SqT.of (s3 _ _ haw), atI_nat (j := 2) rfl, _, rfl, _, rfl, _, rfl, vb, .ref aw, vt, tops, wy, st, _, rfl, boxes_m _ _ _ _ s03 hb, way_tm.mono _ _ _ _ s3 g5, st_tm.mono _ _ _ _ s03 ht, ho.ways _ g6 wy g7, hv, by have := ho.box.len; omega, fun v4 H4 s4 hov => ?_⟩
    rw [hbe] at hov
    have hov' : IsSt H4 v4 t := hov
    refine ⟨sz_of (show 2 ≤ 100000 by decide), fun t5 ht5 => ⟨sz_of (show 2 ≤ 100000 by decide), fun t6 ht6 => ?_⟩⟩
    have s5 : Same H4 (upd H4 t5 (.tup [.int (wy.nx : Int), v4])) := same_new ht5 _
    have s6 := same_new ht6 (.tup [.ref t3, .ref t5])
    have s36 := ((s3.trans s4).trans s5).trans s6
    have hn : t5 ≠ t6 := ne_of_none upd_same ht6
    have hlen : ys.length ≤ 8 := by
      rw [hys.length, List.length_map, List.length_take]
      have := waysF_len tops (hand.getD p []) st
      have := ho.rowLen p
      omega
    refine ⟨d, ys, _, rfl, rfl, s36 _ _ hd2, sz_lt (by omega), ?_⟩
    have tk : TK (upd (upd H4 t5 (.tup [.int (wy.nx : Int), v4])) t6 (.tup [.ref t3, .ref t5])) (upd (upd (upd H4 t5 (.tup [.int (wy.nx : Int), v4])) t6 (.tup [.ref t3, .ref t5])) d (.lst (ys ++ [.ref t6]))) := TK.upd fun xs z => by
      rw [s36 _ _ hd2] at z
      cases z
    have hld : IsLd (upd (upd H4 t5 (.tup [.int (wy.nx : Int), v4])) t6 (.tup [.ref t3, .ref t5])) (.ref t6) (wy.nx, t) :=
      ⟨t6, _, _, rfl, upd_same, t5, v4, rfl, s6 _ _ upd_same, st_tm.mono _ _ _ _ (s5.trans s6) hov'⟩
    have ego : goF tops (hand.getD p []) st k = (wy.nx, t) := by
      unfold goF
      rw [hwy]
      show ((beh tops wy st).map fun t => (wy.nx, t)).getD (0, []) = _
      rw [hbe]
      rfl
    refine ⟨_, _, _, rfl, fun c o e => ?_, ?_, upd_same, ?_⟩
    · rw [upd_ne (fun z => by rw [z, hd] at e; cases e)]
      exact s36 _ _ (s2 _ _ e)
    · rw [upd_ne ndL]
      exact s36 _ _ hL2
    · rw [take_snoc hk, List.map_append, List.map_cons, List.map_nil, ego]
      exact paired_tmono ld_tm tk (paired_app (paired_mono ld_tm.mono s36 hys) (.cons hld .nil))
  · rintro σ H' ⟨x5, x6, ys, rfl, s2, hL2, hd2, hys⟩
    rw [hks.length, take_all] at hys
    refine ⟨_, rfl, q _ _ s2 ⟨d, ys, rfl, ?_, paired_tmono ld_tm (nw_tk s2) hys⟩⟩
    rw [nw_none hd]
    exact hd2
end
end Hm
end

section
set_option Elab.async false
set_option linter.all false
set_option maxRecDepth 100000
set_option maxHeartbeats 4000000
/-! leading_to. -/
namespace Hm
open PySem L2
theorem lst_new {α : Type} {R : Rp α} (m : Mono R) {H0 H : Hp} {v : V} {xs : List α} (s : Same H0 H) (h : LstOf R (nw H0 H) v xs) : ∃ L us, v = .ref L ∧ H0 L = none ∧ H L = some (.lst us) ∧ Paired (R H) us xs := by
  obtain ⟨L, us, e, hL, hp⟩ := h
  refine ⟨L, us, e, ?_, nw_sub (TK.same s) _ _ hL, paired_mono m (nw_sub (TK.same s)) hp⟩
  rcases nw_cases hL with ⟨xs, _, z⟩ | ⟨z, _⟩
  · cases z
  · exact z
structure CfgOk (C : Cfg) : Prop where
  ok : C.ok
  hand : HandOk C.tops C.hand
  others : C.others.length ≤ 2
  osteps : ∀ st ∈ C.others, st.length ≤ 1000
  promise : C.promise.length ≤ 50000
def allSpots (C : Cfg) : List Spot := (List.range (C.hand.length + 1)).flatMap fun p => (standsF C.tops).map fun s => (p, s)
theorem mem_allSpots {C : Cfg} {x : Spot} : x ∈ allSpots C ↔ C.In x := by
  unfold allSpots Cfg.In
  rw [List.mem_flatMap]
  constructor
  · rintro ⟨p, hp, hx⟩
    obtain ⟨s, hs, rfl⟩ := List.mem_map.mp hx
    exact ⟨List.mem_range.mp hp, mem_standsF.mp hs⟩
  · rintro ⟨h1, h2⟩
    exact ⟨x.1, List.mem_range.mpr h1, List.mem_map.mpr ⟨x.2, mem_standsF.mpr h2, rfl⟩⟩
theorem len_flat {α : Type} (g : Nat → List α) (b : Nat) : ∀ l : List Nat, (∀ p ∈ l, (g p).length ≤ b) → (l.flatMap g).length ≤ l.length * b
  | [], _ => by simp
  | p :: l, h => by
    rw [List.flatMap_cons, List.length_append, List.length_cons, Nat.succ_mul]
    have h1 := h p List.mem_cons_self
    have h2 := len_flat g b l fun q hq => h q (List.mem_cons_of_mem _ hq)
    omega
theorem allSpots_len {C : Cfg} (h : CfgOk C) : (allSpots C).length ≤ 108 := by
  have q := len_flat (fun p => (standsF C.tops).map fun s => (p, s)) 12 (List.range (C.hand.length + 1)) fun p _ => by rw [List.length_map]; exact h.hand.box.stands
  rw [List.length_range] at q
  have := h.hand.rows
  unfold allSpots
  omega
abbrev spotKeys (C : Cfg) : List NestedKey := (allSpots C).map kSpot
theorem spotKeys_len {C : Cfg} (h : CfgOk C) : (spotKeys C).length < 100000 := by
  have := allSpots_len h
  rw [List.length_map]
  omega
theorem mem_spotKeys {C : Cfg} {x : Spot} (h : C.In x) : kSpot x ∈ spotKeys C := List.mem_map.mpr ⟨x, mem_allSpots.mpr h, rfl⟩
theorem app_mem {m : NestedKey → List Spot} {a x y y0 : Spot} : (x ∈ (if kSpot y = kSpot y0 then m (kSpot y0) ++ [a] else m (kSpot y))) ↔ x ∈ m (kSpot y) ∨ (y = y0 ∧ x = a) := by
  by_cases c : kSpot y = kSpot y0
  · rw [if_pos c, List.mem_append, List.mem_singleton, c]
    have e := kSpot_inj c
    exact ⟨fun h => h.elim .inl fun z => .inr ⟨e, z⟩, fun h => h.elim .inl fun z => .inr z.2⟩
  · rw [if_neg c]
    exact ⟨.inl, fun h => h.elim id fun z => absurd (by rw [z.1]) c⟩
theorem app_len {m : NestedKey → List Spot} {a : Spot} {k0 : NestedKey} {n : Nat} (h : ∀ k, (m k).length ≤ n) (k : NestedKey) : (if k = k0 then m k0 ++ [a] else m k).length ≤ n + 1 := by
  split
  · rw [List.length_append, List.length_singleton]
    have := h k0
    omega
  · have := h k
    omega
theorem mem_take_succ {α : Type} {l : List α} {i : Nat} {a x : α} (h : l[i]? = some a) : x ∈ l.take (i + 1) ↔ x ∈ l.take i ∨ x = a := by rw [take_snoc h, List.mem_append, List.mem_singleton]

section
variable {P : Program} {w : World} {K : PySem.W.Frag} {mg : Str → Option Value} {base : Heap}
abbrev s_leading_to : Stmt := top 17
abbrev n_leading_to : List Str := ["boxes", "hand", "others", "found", "place", "stand", "step", "spot", "number", "steps", "ahead", "after"]
theorem sc_leading_to : FnScope n_leading_to ["boxes", "hand", "others"] (defScope s_leading_to) := ⟨rfl, rfl, rfl, by decide +kernel, rfl, by decide +kernel, by decide +kernel⟩
def spLeading (P : Program) (w : World) : Sp := fun vs H Q _ => ∃ vb vh vo, ∃ C : Cfg, vs = [vb, vh, vo] ∧ IsBoxes H vb C.tops ∧ IsHand H vh C.hand ∧ IsOthers H vo C.others ∧ CfgOk C ∧
  ∀ d H' m, Same H H' → H d = none → (∀ x y, x ∈ m (kSpot y) ↔ C.In x ∧ C.Lead x y) → MD P w (spotKeys C) (fun c => ∃ o, H c = some o) H' d IsLd m → Q (.ref d) H'
theorem ok_leading_to (D : Def K mg "leading_to" s_leading_to ["boxes", "hand", "others"]) (T : Txt K mg) (c_stands : Cal P w K mg base "stands" ["boxes"] 1 spStands) (c_own_steps_from : Cal P w K mg base "own_steps_from" ["boxes", "hand", "place", "stand"] 7 spOwnSteps) :
    Cal P w K mg base "leading_to" ["boxes", "hand", "others"] 8 (spLeading P w) := by
  refine D.cal sc_leading_to (fun vs H Q E h => ?_) (fun f cdv A outer s H vs Q E hr h => ?_)
  · obtain ⟨vb, vh, vo, C, rfl, _⟩ := h
    rfl
  obtain ⟨vb, vh, vo, C, rfl, hb, hh, hoth, co, q⟩ := h
  have hu := r64 hr
  have hU := spotKeys_len co
  refine ⟨_, (pss_cons (ps_set (i := 3) sc_leading_to.nd rfl (Or.inl rfl) (pe_nnewK P w))
    (pss_cons (ps_for PassesOwn.never rfl (pi_range1 rfl T.range (pa_cons (pe_op op_add (pe_callB (call_lenK K) (by rfl) T.len PySem.boot_len (pa_cons (pv 1) pa_nil)) pe_int) pa_nil)) (pg_name (i := 4) sc_leading_to.nd rfl (Or.inl rfl)) (pss_cons (ps_for PassesOwn.never rfl (pi_listK K (pe_cal c_stands (hr.mono (by first | exact Nat.le_refl _ | decide | omega)) rfl (pa_cons (pv 0) pa_nil))) (pg_name (i := 5) sc_leading_to.nd rfl (Or.inl rfl)) (pss_one (ps_for PassesOwn.never rfl (pi_listK K (pe_cal c_own_steps_from (hr.mono (by first | exact Nat.le_refl _ | decide | omega)) rfl (pa_cons (pv 0) (pa_cons (pv 1) (pa_cons (pv 4) (pa_cons (pv 5) pa_nil)))))) (pg_tupK (n := 2) K rfl (pgs_cons (pg_name (i := 6) sc_leading_to.nd rfl (Or.inl rfl)) (pgs_cons (pg_name (i := 7) sc_leading_to.nd rfl (Or.inl rfl)) pgs_nil))) (pss_one (ps_expr (pe_bm PySem.F.plainAttrs_list PySem.F.slot_list_append PySem.F.type_list_append mt_append (pe_nsetdK P w hu (pv 3) (pv 7) (pe_lst pa_nil) ⟨rfl, rfl, rfl, rfl⟩) (pa_cons (pe_tup (pa_cons (pv 6) (pa_cons (pe_tup (pa_cons (pv 4) (pa_cons (pv 5) pa_nil))) pa_nil))) pa_nil)))))))
        (pss_one (ps_for PassesOwn.never rfl (pi_enumK K rfl T.enumerate (pa_cons (pv 2) pa_nil)) (pg_tupK (n := 2) K rfl (pgs_cons (pg_name (i := 8) sc_leading_to.nd rfl (Or.inl rfl)) (pgs_cons (pg_name (i := 9) sc_leading_to.nd rfl (Or.inl rfl)) pgs_nil))) (pss_one (ps_for PassesOwn.never rfl (pi_listK K (pv 9)) (pg_tupK (n := 2) K rfl (pgs_cons (pg_name (i := 10) sc_leading_to.nd rfl (Or.inl rfl)) (pgs_cons (pg_name (i := 11) sc_leading_to.nd rfl (Or.inl rfl)) pgs_nil))) (pss_one (ps_expr (pe_bm PySem.F.plainAttrs_list PySem.F.slot_list_append PySem.F.type_list_append mt_append (pe_nsetdK P w hu (pv 3) (pe_tup (pa_cons (pv 4) (pa_cons (pv 11) pa_nil))) (pe_lst pa_nil) ⟨rfl, rfl, rfl, rfl⟩) (pa_cons (pe_tup (pa_cons (pe_tup (pa_cons pe_str (pa_cons (pv 8) (pa_cons (pv 11) pa_nil)))) (pa_cons (pe_tup (pa_cons (pv 4) (pa_cons (pv 10) pa_nil))) pa_nil))) pa_nil))))))))))
    (pss_one (ps_ret (pv 3))))), ?_⟩
  intro d φ hd dn
  have s0 := same_new hd (.ext φ)
  obtain ⟨ah, rows, rfl, hah, hrows⟩ := id hh
  obtain ⟨ao, os, rfl, hao, hos⟩ := id hoth
  have h8 := co.hand.rows
  refine ⟨_, rfl, ah, _, rfl, .inl (SqL.of (s0 _ _ hah)), _, _, rfl, rfl, _, rfl, by rw [hrows.length]; omega, by rw [hrows.length]; omega, for_it walk_range
    (fun i σ H' => ∃ x4 x5 x6 x7 x8 x9 x10 x11 m, σ = [some vb, some (.ref ah), some (.ref ao), some (.ref d), x4, x5, x6, x7, x8, x9, x10, x11] ∧ Same H H' ∧ (∀ x y, x ∈ m (kSpot y) ↔ C.In x ∧ C.Lead x y ∧ x.1 < i) ∧ (∀ k, (m k).length ≤ 2200 * i) ∧
      MD P w (spotKeys C) (fun c => ∃ o, H c = some o) H' d IsLd m)
    ⟨_, _, _, _, _, _, _, _, _, rfl, s0, fun x y => ⟨fun z => absurd z List.not_mem_nil, fun z => absurd z.2.2 (Nat.not_lt_zero _)⟩, fun k => Nat.zero_le _, MD.nil dn⟩ (fun _ _ _ _ _ => True.intro) ?_ ?_⟩
  · rintro i v σ H'0 H' hi ⟨x4, x5, x6, x7, x8, x9, x10, x11, m, rfl, s1, hm, hml, md⟩ ⟨rfl, hv⟩
    have hv' : v = .int (i : Int) := hv.trans (by show V.int (0 + (i : Int)) = _; rw [Int.zero_add])
    subst hv'
    have hi' : i ≤ C.hand.length := by rw [hrows.length] at hi; omega
    -- the stands
    refine ⟨_, rfl, vb, C.tops, rfl, boxes_m _ _ _ _ s1 hb, co.hand.box, fun v2 H2 s2 hv2 => ?_⟩
    obtain ⟨L, us, rfl, hL0, hL, hus⟩ := lst_new st_tm.mono s2 hv2
    have md2 : MD P w (spotKeys C) (fun c => (∃ o, H c = some o) ∨ c = L) H2 d IsLd m := (md.more fun c z => z.elim .inl fun e => .inr (by rw [e]; exact hL0)).same ld_tm s2
    refine ⟨L, rfl, ⟨_, SqL.of hL⟩, for_it walk_list
      (fun j σ H3 => ∃ x5 x6 x7 m, σ = [some vb, some (.ref ah), some (.ref ao), some (.ref d), some (.int (i : Int)), x5, x6, x7, x8, x9, x10, x11] ∧ Same H H3 ∧ TK H2 H3 ∧ H3 L = some (.lst us) ∧
        (∀ x y, x ∈ m (kSpot y) ↔ C.In x ∧ (C.Lead x y ∧ x.1 < i ∨ C.Own x y ∧ x.1 = i ∧ x.2 ∈ (standsF C.tops).take j)) ∧ (∀ k, (m k).length ≤ 2200 * i + 8 * j) ∧ MD P w (spotKeys C) (fun c => (∃ o, H c = some o) ∨ c = L) H3 d IsLd m)
      ⟨_, _, _, m, rfl, s1.trans s2, TK.refl _, hL, fun x y => ?_, fun k => by have := hml k; omega, md2⟩ (fun j σ H3 _ ⟨_, _, _, _, _, _, _, z, _⟩ => SqL.of z) ?_ ?_⟩
    · rw [hm]
      exact ⟨fun z => ⟨z.1, .inl z.2⟩, fun z => ⟨z.1, z.2.elim id fun u => absurd u.2.2 (by simp)⟩⟩
    · rintro j u σ H3 H3' hj ⟨x5, x6, x7, m3, rfl, s3, tk3, hL3, hm3, hml3, md3⟩ ⟨rfl, hx⟩
      obtain ⟨st, hst, hsu⟩ := paired_getl hus hx
      have hval : Valid C.tops st := mem_standsF.mp (List.mem_of_getElem? hst)
      have hj12 : j < 12 := Nat.lt_of_lt_of_le (List.getElem?_eq_some_iff.mp hst).1 co.hand.box.stands
      have hsu3 : IsSt H3' u st := st_tm _ _ _ _ tk3 hsu
      refine ⟨_, rfl, _, rfl, _, rfl, _, rfl, vb, .ref ah, u, C.tops, C.hand, i, st, rfl, boxes_m _ _ _ _ s3 hb, hand_m _ _ _ _ s3 hh, hsu3, co.hand, hi', hval, fun v4 H4 s4 hv4 => ?_⟩
      obtain ⟨L4, ls, rfl, hL40, hL4, hls⟩ := lst_new ld_tm.mono s4 hv4
      have md4 : MD P w (spotKeys C) (fun c => ((∃ o, H c = some o) ∨ c = L) ∨ c = L4) H4 d IsLd m3 := (md3.more fun c z => z.elim .inl fun e => .inr (by rw [e]; exact hL40)).same ld_tm s4
      have inx : C.In (i, st) := ⟨by show i < _; omega, hval⟩
      refine ⟨L4, rfl, ⟨_, SqL.of hL4⟩, for_it walk_list
        (fun k σ H5 => ∃ x6 x7 m, σ = [some vb, some (.ref ah), some (.ref ao), some (.ref d), some (.int (i : Int)), some u, x6, x7, x8, x9, x10, x11] ∧ Same H H5 ∧ TK H3' H5 ∧ H5 L = some (.lst us) ∧ H5 L4 = some (.lst ls) ∧ Paired (IsLd H5) ls (ownF C.tops (C.hand.getD i []) st) ∧
          (∀ x y, x ∈ m (kSpot y) ↔ C.In x ∧ (C.Lead x y ∧ x.1 < i ∨ C.Own x y ∧ x.1 = i ∧ x.2 ∈ (standsF C.tops).take j ∨ x = (i, st) ∧ y ∈ (ownF C.tops (C.hand.getD i []) st).take k)) ∧ (∀ k', (m k').length ≤ 2200 * i + 8 * j + k) ∧
          MD P w (spotKeys C) (fun c => ((∃ o, H c = some o) ∨ c = L) ∨ c = L4) H5 d IsLd m)
        ⟨_, _, m3, rfl, s3.trans s4, TK.same s4, s4 _ _ hL3, hL4, hls, fun x y => ?_, fun k => by have := hml3 k; omega, md4⟩ (fun k σ H5 _ ⟨_, _, _, _, _, _, _, z, _⟩ => SqL.of z) ?_ ?_⟩
      · rw [hm3]
        exact ⟨fun z => ⟨z.1, z.2.elim .inl fun e => .inr (.inl e)⟩, fun z => ⟨z.1, by rcases z.2 with e | e | e; exact .inl e; exact .inr e; exact absurd e.2 (by simp)⟩⟩
      · rintro k z σ H5 H5' hk ⟨x6, x7, m5, rfl, s5, tk5, hL5, hL45, hls5, hm5, hml5, md5⟩ ⟨rfl, hz⟩
        obtain ⟨y, hy, b, stp, sp, rfl, hb5, hsp⟩ := paired_getl hls5 hz
        have hown := mem_ownF.mp (List.mem_of_getElem? hy)
        have iny : C.In y := co.ok.lead inx (.inl hown)
        have hk8 : k < 8 := by
          have h1 := (List.getElem?_eq_some_iff.mp hy).1
          have h2 : (ownF C.tops (C.hand.getD i []) st).length ≤ 8 := by
            unfold ownF
            rw [List.length_map]
            exact Nat.le_trans (waysF_len _ _ _) (co.hand.rowLen i)
          omega
        refine ⟨b, _, rfl, SqT.of hb5, rfl, _, _, rfl, _, _, rfl, rfl, ?_⟩
        obtain ⟨bs, hs5, rfl, _⟩ := id hsp
        have hsu5 : IsSt H5' u st := st_tm _ _ _ _ tk5 hsu3
        refine sd_app ld_tm (a := (i, st)) (k := kSpot y) md5 (fun c z => ?_) (mem_spotKeys iny) hU (by have := hml5 (kSpot y); omega) (fun Q' r => ⟨_, rfl, r⟩) (fun Q' r => ⟨_, rfl, r bs _ (Same.refl _) (key_spot hsp)⟩)
          (fun Hz Q' _ tk r => ⟨_, rfl, _, rfl, _, rfl, sz_of (show 2 ≤ 100000 by decide), fun t1 ht1 => ⟨sz_of (show 2 ≤ 100000 by decide), fun t2 ht2 => ?_⟩⟩) fun H6 fr tk md6 => ?_
        · rcases z with (⟨o, z⟩ | z) | z
          · exact ⟨o, s5 _ _ z⟩
          · exact ⟨_, by rw [z]; exact hL5⟩
          · exact ⟨_, by rw [z]; exact hL45⟩
        · have z1 := same_new ht1 (.tup [.int (i : Int), u])
          have z2 := same_new ht2 (.tup [stp, .ref t1])
          exact r _ _ (z1.trans z2) ⟨t2, _, _, rfl, upd_same, t1, u, rfl, z2 _ _ upd_same, st_tm.mono _ _ _ _ (z1.trans z2) (st_tm _ _ _ _ tk hsu5)⟩
        · have nd : ∀ c o, H5' c = some o → (∀ f, o ≠ .ext f) → c ≠ d := fun c o e ne z => by
            obtain ⟨kvs, dn5, _⟩ := md5
            obtain ⟨φ5, e5⟩ := dn5.some
            rw [z, e5] at e
            cases e
            exact ne _ rfl
          refine ⟨_, _, _, rfl, fun c o e => ?_, tk5.trans tk, ?_, ?_, paired_tmono ld_tm tk hls5, fun x y' => ?_, fun k' => app_len hml5 k', md6⟩
          · exact fr c o (.inl (.inl ⟨o, e⟩)) (fun z => by rw [z, hd] at e; cases e) (s5 _ _ e)
          · exact fr L _ (.inl (.inr rfl)) (nd _ _ hL5 (by intro f z; cases z)) hL5
          · exact fr L4 _ (.inr rfl) (nd _ _ hL45 (by intro f z; cases z)) hL45
          · rw [app_mem, hm5, mem_take_succ hy]
            constructor
            · rintro (⟨z1, z2 | z2 | z2⟩ | ⟨rfl, rfl⟩)
              · exact ⟨z1, .inl z2⟩
              · exact ⟨z1, .inr (.inl z2)⟩
              · exact ⟨z1, .inr (.inr ⟨z2.1, .inl z2.2⟩)⟩
              · exact ⟨inx, .inr (.inr ⟨rfl, .inr rfl⟩)⟩
            · rintro ⟨z1, z2 | z2 | ⟨z2, z3 | z3⟩⟩
              · exact .inl ⟨z1, .inl z2⟩
              · exact .inl ⟨z1, .inr (.inl z2)⟩
              · exact .inl ⟨z1, .inr (.inr ⟨z2, z3⟩)⟩
              · exact .inr ⟨z3, z2⟩
      · rintro σ H5 ⟨x6, x7, m5, rfl, s5, tk5, hL5, hL45, hls5, hm5, hml5, md5⟩
        rw [hls5.length, take_all] at hm5
        have hol : ls.length ≤ 8 := by
          rw [hls5.length]
          unfold ownF
          rw [List.length_map]
          exact Nat.le_trans (waysF_len _ _ _) (co.hand.rowLen i)
        refine ⟨_, _, _, m5, rfl, s5, tk3.trans tk5, hL5, fun x y => ?_, fun k => by have := hml5 k; omega, md5.less fun c z => .inl z⟩
        rw [hm5, mem_take_succ hst]
        constructor
        · rintro ⟨z1, z2 | z2 | ⟨z2, z3⟩⟩
          · exact ⟨z1, .inl z2⟩
          · exact ⟨z1, .inr ⟨z2.1, z2.2.1, .inl z2.2.2⟩⟩
          · subst z2
            exact ⟨z1, .inr ⟨mem_ownF.mp z3, rfl, .inr rfl⟩⟩
        · rintro ⟨z1, z2 | ⟨z2, z3, z4 | z4⟩⟩
          · exact ⟨z1, .inl z2⟩
          · exact ⟨z1, .inr (.inl ⟨z2, z3, z4⟩)⟩
          · refine ⟨z1, .inr (.inr ⟨Prod.ext z3 z4, mem_ownF.mpr ?_⟩)⟩
            obtain ⟨p, t⟩ := x
            simp only at z3 z4
            subst z3 z4
            exact z2
    · rintro σ H3 ⟨x5, x6, x7, m3, rfl, s3, tk3, hL3, hm3, hml3, md3⟩
      have hus12 : us.length ≤ 12 := by rw [hus.length]; exact co.hand.box.stands
      rw [hus.length, take_all] at hm3
      have md3' : MD P w (spotKeys C) (fun c => ∃ o, H c = some o) H3 d IsLd m3 := md3.less fun c z => .inl z
      refine ⟨_, rfl, ao, _, rfl, SqL.of (s3 _ _ hao), for_it walk_enum
        (fun j σ H4 => ∃ x8 x9 x10 x11 m, σ = [some vb, some (.ref ah), some (.ref ao), some (.ref d), some (.int (i : Int)), x5, x6, x7, x8, x9, x10, x11] ∧ Same H H4 ∧
          (∀ x y, x ∈ m (kSpot y) ↔ C.In x ∧ (C.Lead x y ∧ x.1 < i ∨ C.Own x y ∧ x.1 = i ∨ x.1 = i ∧ y.1 = i ∧ ∃ st ∈ C.others.take j, (x.2, y.2) ∈ st)) ∧ (∀ k, (m k).length ≤ 2200 * i + 100 + 1000 * j) ∧ MD P w (spotKeys C) (fun c => ∃ o, H c = some o) H4 d IsLd m)
        ⟨_, _, _, _, m3, rfl, s3, fun x y => ?_, fun k => by have := hml3 k; omega, md3'⟩ (fun j σ H4 _ ⟨_, _, _, _, _, _, z, _⟩ => SqL.of (z _ _ hao)) ?_ ?_⟩
      · rw [hm3]
        constructor
        · rintro ⟨z1, z2 | z2⟩
          · exact ⟨z1, .inl z2⟩
          · exact ⟨z1, .inr (.inl ⟨z2.1, z2.2.1⟩)⟩
        · rintro ⟨z1, z2 | z2 | z2⟩
          · exact ⟨z1, .inl z2⟩
          · exact ⟨z1, .inr ⟨z2.1, z2.2, mem_standsF.mpr z1.2⟩⟩
          · obtain ⟨_, _, st, hst, _⟩ := z2
            simp at hst
      · rintro j v σ H4 H4' hj ⟨x8, x9, x10, x11, m4, rfl, s4, hm4, hml4, md4⟩ ⟨t, x, y, rfl, ht, rfl, hx, hy⟩
        cases Option.some.inj hx
        obtain ⟨st, hst, ast, qs, rfl, hast, hqs⟩ := paired_getl hos hy
        have hstm := List.mem_of_getElem? hst
        have hst1000 := co.osteps st hstm
        have hj2 : j < 2 := Nat.lt_of_lt_of_le (List.getElem?_eq_some_iff.mp hst).1 co.others
        have s5 : Same H4 (upd H4 t (.tup [.int (j : Nat), .ref ast])) := same_new ht _
        have s45 := s4.trans s5
        refine ⟨t, _, rfl, SqT.of upd_same, rfl, _, _, rfl, _, _, rfl, rfl, ?_⟩
        refine ⟨_, rfl, ast, rfl, ⟨_, SqL.of (s45 _ _ hast)⟩, for_it walk_list
          (fun k σ H6 => ∃ x10 x11 m, σ = [some vb, some (.ref ah), some (.ref ao), some (.ref d), some (.int (i : Int)), x5, x6, x7, some (.int (j : Nat)), some (.ref ast), x10, x11] ∧ Same H H6 ∧
            (∀ x y, x ∈ m (kSpot y) ↔ C.In x ∧ (C.Lead x y ∧ x.1 < i ∨ C.Own x y ∧ x.1 = i ∨ (x.1 = i ∧ y.1 = i ∧ ∃ st ∈ C.others.take j, (x.2, y.2) ∈ st) ∨ x.1 = i ∧ y.1 = i ∧ (x.2, y.2) ∈ st.take k)) ∧ (∀ k', (m k').length ≤ 2200 * i + 100 + 1000 * j + k) ∧
            MD P w (spotKeys C) (fun c => ∃ o, H c = some o) H6 d IsLd m)
          ⟨_, _, m4, rfl, s45, fun x y => ?_, fun k => by have := hml4 k; omega, md4.same ld_tm s5⟩ (fun k σ H6 _ ⟨_, _, _, _, z, _⟩ => SqL.of (z _ _ hast)) ?_ ?_⟩
        · rw [hm4]
          exact ⟨fun z => ⟨z.1, by rcases z.2 with e | e | e; exact .inl e; exact .inr (.inl e); exact .inr (.inr (.inl e))⟩, fun z => ⟨z.1, by rcases z.2 with e | e | e | e; exact .inl e; exact .inr (.inl e); exact .inr (.inr e); exact absurd e.2.2 (by simp)⟩⟩
        · rintro k z σ H6 H6' hk ⟨x10, x11, m6, rfl, s6, hm6, hml6, md6⟩ ⟨rfl, hz⟩
          obtain ⟨⟨sa, sb⟩, hq, b, va, vb', rfl, hb6, hva, hvb⟩ := paired_getl hqs hz
          have hval := co.ok.steps st hstm _ (List.mem_of_getElem? hq)
          have hk1000 := (List.getElem?_eq_some_iff.mp hq).1
          have inx : C.In (i, sa) := ⟨by show i < _; omega, hval.1⟩
          have iny : C.In (i, sb) := ⟨by show i < _; omega, hval.2⟩
          refine ⟨b, _, rfl, SqT.of (s6 _ _ hb6), rfl, _, _, rfl, _, _, rfl, rfl, ?_⟩
          have hva6 := st_tm.mono _ _ _ _ s6 hva
          have hvb6 := st_tm.mono _ _ _ _ s6 hvb
          refine sd_app ld_tm (a := (i, sa)) (k := kSpot (i, sb)) md6 (fun c ⟨o, z⟩ => ⟨o, s6 _ _ z⟩) (mem_spotKeys iny) hU (by have := hml6 (kSpot (i, sb)); omega) (fun Q' r => ⟨_, rfl, r⟩)
            (fun Q' r => ⟨_, rfl, _, rfl, sz_of (show 2 ≤ 100000 by decide), fun t1 ht1 => r t1 _ (same_new ht1 _) (key_place (p := (i, sb)) upd_same (st_tm.mono _ _ _ _ (same_new ht1 _) hvb6))⟩)
            (fun Hz Q' _ tk r => ⟨_, rfl, _, rfl, sz_of (show 3 ≤ 100000 by decide), fun t1 ht1 => ⟨_, rfl, _, rfl, sz_of (show 2 ≤ 100000 by decide), fun t2 ht2 => ⟨sz_of (show 2 ≤ 100000 by decide), fun t3 ht3 => ?_⟩⟩⟩) fun H7 fr tk md7 => ?_
          · have z1 := same_new ht1 (.tup [.str "other", .int (j : Nat), vb'])
            have z2 := same_new ht2 (.tup [.int (i : Int), va])
            have z3 := same_new ht3 (.tup [.ref t1, .ref t2])
            have hva7 := st_tm.mono _ _ _ _ ((z1.trans z2).trans z3) (st_tm _ _ _ _ tk hva6)
            exact r _ _ ((z1.trans z2).trans z3) ⟨t3, _, _, rfl, upd_same, t2, va, rfl, z3 _ _ upd_same, hva7⟩
          · refine ⟨_, _, _, rfl, fun c o e => ?_, fun x y' => ?_, fun k' => app_len hml6 k', md7⟩
            · exact fr c o ⟨o, e⟩ (fun z => by rw [z, hd] at e; cases e) (s6 _ _ e)
            · rw [app_mem, hm6, mem_take_succ hq]
              constructor
              · rintro (⟨z1, z2 | z2 | z2 | z2⟩ | ⟨rfl, rfl⟩)
                · exact ⟨z1, .inl z2⟩
                · exact ⟨z1, .inr (.inl z2)⟩
                · exact ⟨z1, .inr (.inr (.inl z2))⟩
                · exact ⟨z1, .inr (.inr (.inr ⟨z2.1, z2.2.1, .inl z2.2.2⟩))⟩
                · exact ⟨inx, .inr (.inr (.inr ⟨rfl, rfl, .inr rfl⟩))⟩
              · rintro ⟨z1, z2 | z2 | z2 | ⟨z2, z3, z4 | z4⟩⟩
                · exact .inl ⟨z1, .inl z2⟩
                · exact .inl ⟨z1, .inr (.inl z2)⟩
                · exact .inl ⟨z1, .inr (.inr (.inl z2))⟩
                · exact .inl ⟨z1, .inr (.inr (.inr ⟨z2, z3, z4⟩))⟩
                · obtain ⟨e1, e2⟩ := Prod.mk.inj z4
                  exact .inr ⟨Prod.ext z3 e2, Prod.ext z2 e1⟩
        · rintro σ H6 ⟨x10, x11, m6, rfl, s6, hm6, hml6, md6⟩
          rw [hqs.length, take_all] at hm6
          refine ⟨_, _, _, _, m6, rfl, s6, fun x y => ?_, fun k => by have := hml6 k; have := hqs.length; omega, md6⟩
          rw [hm6]
          constructor
          · rintro ⟨z1, z2 | z2 | z2 | z2⟩
            · exact ⟨z1, .inl z2⟩
            · exact ⟨z1, .inr (.inl z2)⟩
            · obtain ⟨e1, e2, st', h1, h2⟩ := z2
              exact ⟨z1, .inr (.inr ⟨e1, e2, st', (mem_take_succ hst).mpr (.inl h1), h2⟩)⟩
            · exact ⟨z1, .inr (.inr ⟨z2.1, z2.2.1, st, (mem_take_succ hst).mpr (.inr rfl), z2.2.2⟩)⟩
          · rintro ⟨z1, z2 | z2 | ⟨e1, e2, st', h1, h2⟩⟩
            · exact ⟨z1, .inl z2⟩
            · exact ⟨z1, .inr (.inl z2)⟩
            · rcases (mem_take_succ hst).mp h1 with h1 | h1
              · exact ⟨z1, .inr (.inr (.inl ⟨e1, e2, st', h1, h2⟩))⟩
              · rw [h1] at h2
                exact ⟨z1, .inr (.inr (.inr ⟨e1, e2, h2⟩))⟩
      · rintro σ H4 ⟨x8, x9, x10, x11, m4, rfl, s4, hm4, hml4, md4⟩
        rw [hos.length, take_all] at hm4
        refine ⟨_, _, _, _, _, _, _, _, m4, rfl, s4, fun x y => ?_, fun k => by have := hml4 k; have := co.others; have := hos.length; omega, md4⟩
        rw [hm4]
        constructor
        · rintro ⟨z1, z2 | z2 | ⟨e1, e2, z2⟩⟩
          · exact ⟨z1, z2.1, by omega⟩
          · exact ⟨z1, .inl z2.1, by omega⟩
          · exact ⟨z1, .inr ⟨e1.trans e2.symm, z2⟩, by omega⟩
        · rintro ⟨z1, z2, z3⟩
          by_cases c : x.1 < i
          · exact ⟨z1, .inl ⟨z2, c⟩⟩
          · have e : x.1 = i := by omega
            rcases z2 with z2 | z2
            · exact ⟨z1, .inr (.inl ⟨z2, e⟩)⟩
            · exact ⟨z1, .inr (.inr ⟨e, z2.1 ▸ e, z2.2⟩)⟩
  · rintro σ H' ⟨x4, x5, x6, x7, x8, x9, x10, x11, m, rfl, s1, hm, hml, md⟩
    refine ⟨_, rfl, q d _ m s1 hd (fun x y => ?_) md⟩
    rw [hm]
    constructor
    · exact fun z => ⟨z.1, z.2.1⟩
    · intro z
      refine ⟨z.1, z.2, ?_⟩
      have := z.1.1
      rw [hrows.length]
      omega
end
end Hm
end

section
set_option Elab.async false
set_option linter.all false
set_option maxRecDepth 100000
set_option maxHeartbeats 4000000
/-! lost, weakest. -/
namespace Hm
open PySem L2
theorem KeySet.len {P : Program} {w : World} {H : Hp} {d : Addr} {S : NestedKey → Prop} {kvs : List (NestedKey × V)} {U : List NestedKey} (a : DN P w H d kvs) (b : ∀ k, (valV kvs k).isSome = true ↔ S k) (hU : ∀ k, S k → k ∈ U) : kvs.length ≤ U.length := by
  rw [← List.length_map (f := (·.1))]
  exact length_le_of_sub a.nodup fun k hk => hU k ((b k).mp (mem_keys.mp hk))
/-- d[k] = v -/
theorem KeySet.put {P : Program} {w : World} {H : Hp} {d b : Addr} {k : NestedKey} {v : V} {S : NestedKey → Prop} (x : KeySet P w H d S) (U : List NestedKey) (hU : ∀ k, S k → k ∈ U) (hl : U.length < 100000) (hk : NK H k b) {Q : Hp → Prop}
    (hq : ∀ φ, KeySet P w (upd H d (.ext φ)) d (fun k' => k' = k ∨ S k') → Q (upd H d (.ext φ))) :
    ∃ a b' kvs k', V.ref d = .ref a ∧ V.ref b = .ref b' ∧ DN P w H a kvs ∧ NK H k' b' ∧ kvs.length < sizeLine ∧ ∀ φ, DN P w (upd H a (.ext φ)) a (putK kvs k' v) → Q (upd H a (.ext φ)) := by
  obtain ⟨kvs, dn, hks⟩ := x
  have q := KeySet.len dn hks hU
  refine ⟨d, b, kvs, k, rfl, rfl, dn, hk, sz_lt (by omega), fun φ dn' => hq φ ⟨_, dn', fun k' => ?_⟩⟩
  rw [valV_put]
  by_cases c : k' = k
  · rw [if_pos c]
    exact ⟨fun _ => .inl c, fun _ => rfl⟩
  · rw [if_neg c, hks]
    exact ⟨.inr, fun z => z.elim (fun z => absurd z c) id⟩
theorem nall_st {H : Hp} : ∀ {s : Stand} {us : List V}, NAll H (s.map .num) us → us = s.map V.int
  | [], us, h => by cases h; rfl
  | x :: s, us, h => by
    rw [List.map_cons] at h
    cases h with
    | cons h1 h2 =>
      cases h1
      rw [List.map_cons, nall_st h2]
theorem st_of_key {H : Hp} {v : V} {s : Stand} (h : NIs H (kSt s) v) : IsSt H v s := by
  unfold kSt at h
  cases h with
  | tup e al =>
    rw [nall_st al] at e
    exact ⟨_, rfl, e⟩
theorem spot_of_key {H : Hp} {b : Addr} {x : Spot} (h : NK H (kSpot x) b) : IsSpot H (.ref b) x := by
  have h' := h.1
  unfold kSpot at h'
  cases h' with
  | tup e al =>
    cases al with
    | cons h1 al =>
      cases al with
      | cons h2 al =>
        cases al
        cases h1
        exact ⟨_, _, rfl, e, st_of_key h2⟩
theorem step_of_key {H : Hp} {b : Addr} {x : Step} (h : NK H (kStep x) b) : IsStep H (.ref b) x := by
  have h' := h.1
  unfold kStep at h'
  cases h' with
  | tup e al =>
    cases al with
    | cons h1 al =>
      cases al with
      | cons h2 al =>
        cases al
        exact ⟨_, _, _, rfl, e, st_of_key h1, st_of_key h2⟩
theorem unkey {α : Type} {f : α → NestedKey} : ∀ {l : List NestedKey}, (∀ k ∈ l, ∃ x, k = f x) → ∃ xs : List α, l = xs.map f
  | [], _ => ⟨[], rfl⟩
  | k :: l, h => by
    obtain ⟨x, rfl⟩ := h k List.mem_cons_self
    obtain ⟨xs, rfl⟩ := unkey fun k hk => h k (List.mem_cons_of_mem _ hk)
    exact ⟨x :: xs, rfl⟩
theorem nodup_of_map {α β : Type} {f : α → β} : ∀ {l : List α}, (l.map f).Nodup → l.Nodup
  | [], _ => List.nodup_nil
  | a :: l, h => by
    rw [List.map_cons, List.nodup_cons] at h
    rw [List.nodup_cons]
    exact ⟨fun z => h.1 (List.mem_map.mpr ⟨a, z, rfl⟩), nodup_of_map h.2⟩
/-- the note of a place -/
theorem CfgOk.noteAt {C : Cfg} (co : CfgOk C) {i : Nat} (hi : i ≤ C.hand.length) : C.notes[i]? = some (C.note i) ∧ (C.note i).ok C.tops.length := by
  have hl : i < C.notes.length := by rw [co.ok.notes]; omega
  have e : C.notes[i]? = some C.notes[i] := List.getElem?_eq_getElem hl
  have e2 : C.note i = C.notes[i] := by
    unfold Cfg.note
    rw [List.getD_eq_getElem?_getD, e]
    rfl
  exact ⟨by rw [e2]; exact e, by rw [e2]; exact co.ok.note _ (List.getElem_mem hl)⟩
/-- only p changed: what is new at the later heap is new at the earlier -/
theorem nw_backL {H0 H1 H2 : Hp} {p : Addr} {l0 l1 : List V} (k : ∀ b o, b ≠ p → H0 b = some o → H1 b = some o) (h0 : H0 p = some (.lst l0)) (h1 : H1 p = some (.lst l1)) (s2 : TK H1 H2) : Same (nw H1 H2) (nw H0 H2) := fun b o h => by
  have nb : b ≠ p := fun e => by
    rw [e] at h
    unfold nw at h
    rw [h1] at h
    cases h
  rcases nw_cases h with ⟨xs, e, rfl⟩ | ⟨e1, e⟩
  · cases q : H0 b with
    | none => rw [nw_none q]; exact s2 _ _ e
    | some u =>
      have z := k _ _ nb q
      rw [e] at z
      rw [← Option.some.inj z] at q
      exact nw_tup q
  · have q : H0 b = none := by
      cases q : H0 b with
      | none => rfl
      | some u =>
        have z := k _ _ nb q
        rw [e1] at z
        cases z
    rw [nw_none q]
    exact e
theorem weak_eq {C : Cfg} {L : Spot → Prop} {g : Nat → Stand → Bool} (h : ∀ p s, g p s = true ↔ ¬ L (p, s)) : C.weak L = (List.range (C.hand.length + 1)).map fun p => (standsF C.tops).filter (g p) := by
  classical
  unfold Cfg.weak
  refine List.map_congr_left fun p _ => List.filter_congr fun s _ => ?_
  rw [Bool.eq_iff_iff, h, decide_eq_true_iff]
section
variable {P : Program} {w : World} {K : PySem.W.Frag} {mg : Str → Option Value} {base : Heap}
/-! ### lost -/
abbrev s_lost : Stmt := top 18
abbrev n_lost : List Str := ["boxes", "hand", "promise", "others", "notes", "promised", "step", "found", "place", "stand", "here", "leading", "waiting", "at", "spot"]
theorem sc_lost : FnScope n_lost ["boxes", "hand", "promise", "others", "notes"] (defScope s_lost) := ⟨rfl, rfl, rfl, by decide +kernel, rfl, by decide +kernel, by decide +kernel⟩
def spLost (P : Program) (w : World) : Sp := fun vs H Q _ => ∃ vb vh vp vo vn, ∃ C : Cfg, vs = [vb, vh, vp, vo, vn] ∧ IsBoxes H vb C.tops ∧ IsHand H vh C.hand ∧ IsSteps H vp C.promise ∧ IsOthers H vo C.others ∧ IsNotes H vn C.notes ∧ CfgOk C ∧
  ∀ d H' (L : Spot → Prop), Same H H' → H d = none → C.Lost L → (∀ x, L x → C.In x) → KeySet P w H' d (fun k => ∃ x, L x ∧ k = kSpot x) → Q (.ref d) H'
theorem ok_lost (D : Def K mg "lost" s_lost ["boxes", "hand", "promise", "others", "notes"]) (T : Txt K mg) (c_stands : Cal P w K mg base "stands" ["boxes"] 1 spStands) (c_break_here : Cal P w K mg base "break_here" ["boxes", "hand", "promised", "note", "place", "stand"] 7 (spBreakHere P w)) (c_leading_to : Cal P w K mg base "leading_to" ["boxes", "hand", "others"] 8 (spLeading P w)) :
    Cal P w K mg base "lost" ["boxes", "hand", "promise", "others", "notes"] 9 (spLost P w) := by
  refine D.cal sc_lost (fun vs H Q E h => ?_) (fun f cdv A outer s H vs Q E hr h => ?_)
  · obtain ⟨vb, vh, vp, vo, vn, C, rfl, _⟩ := h
    rfl
  obtain ⟨vb, vh, vp, vo, vn, C, rfl, hb, hh, hpr, hoth, hnt, co, q⟩ := h
  have hu := r64 hr
  have hU := spotKeys_len co
  obtain ⟨ah, rows, rfl, hah, hrows⟩ := id hh
  obtain ⟨ap, ps, rfl, hap, hps⟩ := id hpr
  obtain ⟨an, ns, rfl, han, hns⟩ := id hnt
  have h8 := co.hand.rows
  refine ⟨_, (pss_cons (ps_set (i := 5) sc_lost.nd rfl (Or.inl rfl) (pe_nnewK P w))
    (pss_cons (ps_for PassesOwn.never rfl (pi_listK K (pv 2)) (pg_name (i := 6) sc_lost.nd rfl (Or.inl rfl)) (pss_one (ps_nputK P w hu (pv 5) (pv 6) pe_bl)))
    (pss_cons (ps_set (i := 7) sc_lost.nd rfl (Or.inl rfl) (pe_nnewK P w))
    (pss_cons (ps_for PassesOwn.never rfl (pi_range1 rfl T.range (pa_cons (pe_op op_add (pe_callB (call_lenK K) (by rfl) T.len PySem.boot_len (pa_cons (pv 1) pa_nil)) pe_int) pa_nil)) (pg_name (i := 8) sc_lost.nd rfl (Or.inl rfl)) (pss_one (ps_for PassesOwn.never rfl (pi_listK K (pe_cal c_stands (hr.mono (by first | exact Nat.le_refl _ | decide | omega)) rfl (pa_cons (pv 0) pa_nil))) (pg_name (i := 9) sc_lost.nd rfl (Or.inl rfl)) (pss_cons (ps_set (i := 10) sc_lost.nd rfl (Or.inl rfl) (pe_cal c_break_here (hr.mono (by first | exact Nat.le_refl _ | decide | omega)) rfl (pa_cons (pv 0) (pa_cons (pv 1) (pa_cons (pv 5) (pa_cons (pe_ix (ix_listK K) (pv 4) (pv 8) (fun _ _ => rfl)) (pa_cons (pv 8) (pa_cons (pv 9) pa_nil))))))))
            (pss_one (ps_if (pt_cmpR op_notN (pv 10) pe_non (nomark _)) (pss_one (ps_nputK P w hu (pv 7) (pe_tup (pa_cons (pv 8) (pa_cons (pv 9) pa_nil))) (pe_tup (pa_cons (pv 10) (pa_cons pe_non pa_nil))))) pss_nil))))))
    (pss_cons (ps_set (i := 11) sc_lost.nd rfl (Or.inl rfl) (pe_cal c_leading_to (hr.mono (by first | exact Nat.le_refl _ | decide | omega)) rfl (pa_cons (pv 0) (pa_cons (pv 1) (pa_cons (pv 3) pa_nil)))))
    (pss_cons (ps_set (i := 12) sc_lost.nd rfl (Or.inl rfl) (pe_callTy (call_nlistK P w) (by rfl) T.list (by decide +kernel) (pa_cons (pv 7) pa_nil)))
    (pss_cons (ps_set (i := 13) sc_lost.nd rfl (Or.inl rfl) pe_int)
    (pss_cons (ps_while PassesOwn.never (pt_cmpR op_lt (pv 13) (pe_callB (call_lenK K) (by rfl) T.len PySem.boot_len (pa_cons (pv 12) pa_nil)) (nomark _)) (pss_cons (ps_for PassesOwn.never rfl (pi_listK K (pe_ngetorK P w hu (pv 11) (pe_ix (ix_listK K) (pv 12) (pv 13) (fun _ _ => rfl)) (pe_lst pa_nil) ⟨rfl, rfl, rfl, rfl⟩)) (pg_tupK (n := 2) K rfl (pgs_cons (pg_name (i := 6) sc_lost.nd rfl (Or.inl rfl)) (pgs_cons (pg_name (i := 14) sc_lost.nd rfl (Or.inl rfl)) pgs_nil))) (pss_one (ps_if (pt_cmp (pc_nnotinK P w hu (pv 14) (pv 7)) rfl) (pss_cons (ps_nputK P w hu (pv 7) (pv 14) (pe_tup (pa_cons (pv 6) (pa_cons (pe_ix (ix_listK K) (pv 12) (pv 13) (fun _ _ => rfl)) pa_nil))))
                (pss_one (ps_expr (pe_bm PySem.F.plainAttrs_list PySem.F.slot_list_append PySem.F.type_list_append mt_append (pv 12) (pa_cons (pv 14) pa_nil))))) pss_nil)))
        (pss_one (ps_set (i := 13) sc_lost.nd rfl (Or.inl rfl) (pe_op op_add (pv 13) pe_int)))))
    (pss_one (ps_ret (pv 7))))))))))), ?_⟩
  intro pr φ hpr0 dn0
  have s0 := same_new hpr0 (.ext φ)
  refine ⟨_, rfl, ap, rfl, ⟨_, SqL.of (s0 _ _ hap)⟩, for_it walk_list
    (fun i σ H' => ∃ x6, σ = [some vb, some (.ref ah), some (.ref ap), some vo, some (.ref an), some (.ref pr), x6, none, none, none, none, none, none, none, none] ∧ Same H H' ∧ KeySet P w H' pr (fun k => ∃ q ∈ C.promise.take i, k = kStep q))
    ⟨_, rfl, s0, [], dn0, fun k => ⟨fun z => (nomatch z), fun ⟨q, z, _⟩ => by simp at z⟩⟩ (fun i σ H' _ ⟨_, _, s, _⟩ => SqL.of (s _ _ hap)) ?_ ?_⟩
  · rintro i u σ H'0 H' hi ⟨x6, rfl, s1, hk⟩ ⟨rfl, hx⟩
    obtain ⟨st, hst, hsu⟩ := paired_getl hps hx
    have hsu' := step_tm.mono _ _ _ _ s1 hsu
    obtain ⟨b, _, _, rfl, _⟩ := id hsu'
    have hU2 : (C.promise.map kStep).length < 100000 := by rw [List.length_map]; have := co.promise; omega
    refine ⟨_, rfl, _, rfl, hk.put (C.promise.map kStep) (fun k ⟨q, hq, e⟩ => List.mem_map.mpr ⟨q, List.mem_of_mem_take hq, e.symm⟩) hU2 (key_step hsu') fun φ2 hk2 => ⟨_, rfl, fun c o e => ?_, hk2.iff fun k => ?_⟩⟩
    · rw [upd_ne (fun z => by rw [z, hpr0] at e; cases e)]
      exact s1 _ _ e
    · rw [take_snoc hst]
      constructor
      · rintro (z | ⟨q, hq, e⟩)
        · exact ⟨st, by simp, z⟩
        · exact ⟨q, List.mem_append_left _ hq, e⟩
      · rintro ⟨q, hq, e⟩
        rcases List.mem_append.mp hq with hq | hq
        · exact .inr ⟨q, hq, e⟩
        · rw [List.mem_singleton.mp hq] at e
          exact .inl e
  rintro σ H1 ⟨x6, rfl, s1, hk1⟩
  rw [hps.length, take_all] at hk1
  intro fd φ2 hfd dn2
  have s2 : Same H1 (upd H1 fd (.ext φ2)) := same_new hfd _
  have s02 := s1.trans s2
  have hfd0 : H fd = none := s1.free hfd
  obtain ⟨φp, hprx⟩ := hk1.some
  have npf : pr ≠ fd := ne_of_none hprx hfd
  refine ⟨_, rfl, ah, _, rfl, .inl (SqL.of (s02 _ _ hah)), _, _, rfl, rfl, _, rfl, by rw [hrows.length]; omega, by rw [hrows.length]; omega, for_it walk_range
    (fun i σ H' => ∃ x8 x9 x10, σ = [some vb, some (.ref ah), some (.ref ap), some vo, some (.ref an), some (.ref pr), x6, some (.ref fd), x8, x9, x10, none, none, none, none] ∧ Same H H' ∧ KeySet P w H' pr (fun k => ∃ q ∈ C.promise, k = kStep q) ∧
      KeySet P w H' fd (fun k => ∃ x, C.In x ∧ C.Brk x ∧ x.1 < i ∧ k = kSpot x))
    ⟨_, _, _, rfl, s02, hk1.same s2, [], dn2, fun k => ⟨fun z => (nomatch z), fun ⟨q, _, _, z, _⟩ => absurd z (Nat.not_lt_zero _)⟩⟩ (fun _ _ _ _ _ => True.intro) ?_ ?_⟩
  · rintro i v σ H'0 H' hi ⟨x8, x9, x10, rfl, s3, hkp, hkf⟩ ⟨rfl, hv⟩
    have hv' : v = .int (i : Int) := hv.trans (by show V.int (0 + (i : Int)) = _; rw [Int.zero_add])
    subst hv'
    have hi' : i ≤ C.hand.length := by rw [hrows.length] at hi; omega
    refine ⟨_, rfl, vb, C.tops, rfl, boxes_m _ _ _ _ s3 hb, co.hand.box, fun v4 H4 s4 hv4 => ?_⟩
    obtain ⟨L, us, rfl, hL0, hL, hus⟩ := lst_new st_tm.mono s4 hv4
    obtain ⟨φf, hfx⟩ := hkf.some
    have nLf : L ≠ fd := fun z => by rw [z, hfx] at hL0; cases hL0
    refine ⟨L, rfl, ⟨_, SqL.of hL⟩, for_it walk_list
      (fun j σ H5 => ∃ x9 x10, σ = [some vb, some (.ref ah), some (.ref ap), some vo, some (.ref an), some (.ref pr), x6, some (.ref fd), some (.int (i : Int)), x9, x10, none, none, none, none] ∧ Same H H5 ∧ TK H4 H5 ∧ H5 L = some (.lst us) ∧ KeySet P w H5 pr (fun k => ∃ q ∈ C.promise, k = kStep q) ∧
        KeySet P w H5 fd (fun k => ∃ x, C.In x ∧ C.Brk x ∧ (x.1 < i ∨ x.1 = i ∧ x.2 ∈ (standsF C.tops).take j) ∧ k = kSpot x))
      ⟨_, _, rfl, s3.trans s4, TK.refl _, hL, hkp.same s4, (hkf.same s4).iff fun k => ?_⟩ (fun j σ H3 _ ⟨_, _, _, _, _, z, _⟩ => SqL.of z) ?_ ?_⟩
    · constructor
      · rintro ⟨x, h1, h2, h3, e⟩
        exact ⟨x, h1, h2, .inl h3, e⟩
      · rintro ⟨x, h1, h2, h3 | h3, e⟩
        · exact ⟨x, h1, h2, h3, e⟩
        · exact absurd h3.2 (by simp)
    · rintro j u σ H5'0 H5 hj ⟨x9, x10, rfl, s5, tk5, hL5, hkp5, hkf5⟩ ⟨rfl, hx⟩
      obtain ⟨st, hst, hsu⟩ := paired_getl hus hx
      have hval : Valid C.tops st := mem_standsF.mp (List.mem_of_getElem? hst)
      have hsu5 : IsSt H5 u st := st_tm _ _ _ _ tk5 hsu
      obtain ⟨hnote, noteOk⟩ := co.noteAt hi'
      obtain ⟨un, hun, hcd⟩ := paired_get hns hnote
      refine ⟨_, rfl, _, rfl, _, rfl, _, rfl, _, rfl, an, _, _, _, rfl, rfl, SqL.of (s5 _ _ han), atI_nat hun, _, rfl, _, rfl, vb, .ref ah, un, u, pr, C.tops, C.hand, C.note i, i, st, C.promise, rfl, boxes_m _ _ _ _ s5 hb, hand_m _ _ _ _ s5 hh, hkp5, cd_tm.mono _ _ _ _ s5 hcd, hsu5, co.hand, noteOk, hi', hval, fun v6 H6 s6 hv6 => ?_⟩
      have inx : C.In (i, st) := ⟨by show i < _; omega, hval⟩
      have hbrk : ((C.note i).holds st = false ∨ ∃ wy ∈ C.hand.getD i [], ∃ t, beh C.tops wy st = some t ∧ t ≠ st ∧ (st, t) ∉ C.promise) ↔ C.Brk (i, st) := Iff.rfl
      rw [hbrk] at hv6
      rcases hv6 with ⟨rfl, hno⟩ | ⟨hne, hyes⟩
      · refine ⟨_, rfl, rfl, _, rfl, ifF rfl ⟨_, _, rfl, s5.trans s6, tk5.trans (TK.same s6), s6 _ _ hL5, hkp5.same s6, (hkf5.same s6).iff fun k => ?_⟩⟩
        constructor
        · rintro ⟨x, h1, h2, h3, e⟩
          exact ⟨x, h1, h2, h3.imp id fun z => ⟨z.1, (mem_take_succ hst).mpr (.inl z.2)⟩, e⟩
        · rintro ⟨x, h1, h2, h3, e⟩
          refine ⟨x, h1, h2, h3.imp id fun z => ⟨z.1, ?_⟩, e⟩
          rcases (mem_take_succ hst).mp z.2 with y | y
          · exact y
          · exact absurd (show C.Brk (i, st) by rw [← y, ← z.1]; exact h2) hno
      · refine ⟨_, rfl, rfl, _, rfl, ifT (by rw [decide_eq_false hne]; rfl) ?_⟩
        refine ⟨_, rfl, sz_of (show 2 ≤ 100000 by decide), fun t1 ht1 => ⟨_, rfl, _, rfl, _, rfl, sz_of (show 2 ≤ 100000 by decide), fun t2 ht2 => ?_⟩⟩
        have s7 : Same H6 (upd H6 t1 (.tup [v6, .non])) := same_new ht1 _
        have s8 : Same (upd H6 t1 (.tup [v6, .non])) (upd (upd H6 t1 (.tup [v6, .non])) t2 (.tup [.int (i : Int), u])) := same_new ht2 _
        have s68 := (s6.trans s7).trans s8
        refine (hkf5.same s68).put (k := kSpot (i, st)) (spotKeys C) (fun k ⟨x, h1, _, _, e⟩ => by rw [e]; exact mem_spotKeys h1) hU (key_place (p := (i, st)) upd_same (st_tm.mono _ _ _ _ s68 hsu5)) fun φ3 hk3 => ?_
        obtain ⟨φg, hfg⟩ := (hkf5.same s68).some
        have frame : ∀ c o, c ≠ fd → H5 c = some o → upd (upd (upd H6 t1 (.tup [v6, .non])) t2 (.tup [.int (i : Int), u])) fd (.ext φ3) c = some o := fun c o ne e => by
          rw [upd_ne ne]
          exact s68 _ _ e
        have tk : TK H5 (upd (upd (upd H6 t1 (.tup [v6, .non])) t2 (.tup [.int (i : Int), u])) fd (.ext φ3)) := (TK.same s68).trans (TK.upd fun xs z => by rw [hfg] at z; cases z)
        obtain ⟨φq, hpq⟩ := hkp5.some
        refine ⟨_, _, rfl, fun c o e => frame c o (fun z => by rw [z, hfd0] at e; cases e) (s5 _ _ e), tk5.trans tk, frame _ _ nLf hL5, hkp5.keep ((frame _ _ npf hpq).trans hpq.symm) tk, hk3.iff fun k => ?_⟩
        constructor
        · rintro (e | ⟨x, h1, h2, h3, e⟩)
          · exact ⟨(i, st), inx, hyes, .inr ⟨rfl, (mem_take_succ hst).mpr (.inr rfl)⟩, e⟩
          · exact ⟨x, h1, h2, h3.imp id fun z => ⟨z.1, (mem_take_succ hst).mpr (.inl z.2)⟩, e⟩
        · rintro ⟨x, h1, h2, h3, e⟩
          rcases h3 with z | z
          · exact .inr ⟨x, h1, h2, .inl z, e⟩
          · rcases (mem_take_succ hst).mp z.2 with y | y
            · exact .inr ⟨x, h1, h2, .inr ⟨z.1, y⟩, e⟩
            · refine .inl (e.trans ?_)
              congr 1
              exact Prod.ext z.1 y
    · rintro σ H5 ⟨x9, x10, rfl, s5, tk5, hL5, hkp5, hkf5⟩
      rw [hus.length, take_all] at hkf5
      refine ⟨_, _, _, rfl, s5, hkp5, hkf5.iff fun k => ?_⟩
      constructor
      · rintro ⟨x, h1, h2, h3, e⟩
        exact ⟨x, h1, h2, by rcases h3 with z | z <;> omega, e⟩
      · rintro ⟨x, h1, h2, h3, e⟩
        refine ⟨x, h1, h2, ?_, e⟩
        by_cases c : x.1 < i
        · exact .inl c
        · exact .inr ⟨by omega, mem_standsF.mpr h1.2⟩
  rintro σ H2 ⟨x8, x9, x10, rfl, s3, hkp, hkf⟩
  refine ⟨_, rfl, _, rfl, _, rfl, vb, .ref ah, vo, C, rfl, boxes_m _ _ _ _ s3 hb, hand_m _ _ _ _ s3 hh, others_m _ _ _ _ s3 hoth, co, fun dl H3 m s4 hdl hm md => ?_⟩
  obtain ⟨kf, dnf, hkf'⟩ := hkf.same s4
  have kfu : ∃ ks : List Spot, kf.map (·.1) = ks.map kSpot := unkey fun k hk => by
    obtain ⟨x, _, _, _, e⟩ := (hkf' k).mp (mem_keys.mp hk)
    exact ⟨x, e⟩
  obtain ⟨ks0, hks0⟩ := kfu
  refine ⟨_, rfl, fd, kf, rfl, dnf, fun wl us0 hwl hus0 => ?_⟩
  have s5 : Same H3 (upd H3 wl (.lst us0)) := same_new hwl _
  have s05 := (s3.trans s4).trans s5
  obtain ⟨φf3, hff3⟩ := dnf.some
  have nfw : fd ≠ wl := ne_of_none hff3 hwl
  have ndw : dl ≠ wl := by
    obtain ⟨_, a, _⟩ := id md
    obtain ⟨_, e⟩ := a.some
    exact ne_of_none e hwl
  have hwl0 : H wl = none := (s3.trans s4).free hwl
  obtain ⟨φf2, hff2⟩ := hkf.some
  have hn0 : ks0.Nodup := nodup_of_map (f := kSpot) (by rw [← hks0]; exact dnf.nodup)
  have hmem0 : ∀ x, x ∈ ks0 ↔ C.In x ∧ C.Brk x := fun x => by
    have e : x ∈ ks0 ↔ kSpot x ∈ kf.map (·.1) := by
      rw [hks0, List.mem_map]
      exact ⟨fun z => ⟨x, z, rfl⟩, fun ⟨y, hy, e⟩ => by rw [← kSpot_inj e]; exact hy⟩
    rw [e, mem_keys, hkf']
    constructor
    · rintro ⟨y, h1, h2, _, e⟩
      rw [kSpot_inj e]
      exact ⟨h1, h2⟩
    · rintro ⟨h1, h2⟩
      exact ⟨x, h1, h2, by have := h1.1; rw [hrows.length]; omega, rfl⟩
  let Iv : Nat → List Spot → L2.St → Hp → Prop := fun at_ ks σ H' => ∃ us x6 x14, σ = [some vb, some (.ref ah), some (.ref ap), some vo, some (.ref an), some (.ref pr), x6, some (.ref fd), x8, x9, x10, some (.ref dl), some (.ref wl), some (.int (at_ : Int)), x14] ∧ Same H H' ∧
    H' wl = some (.lst us) ∧ Paired (IsSpot H') us ks ∧ ks.Nodup ∧ KeySet P w H' fd (fun k => ∃ x ∈ ks, k = kSpot x) ∧ MD P w (spotKeys C) (fun c => (∃ o, H2 c = some o) ∨ c = wl) H' dl IsLd m ∧
    (∀ x ∈ ks, C.In x) ∧ (∀ x, C.In x → C.Brk x → x ∈ ks) ∧ (∀ y ∈ ks.take at_, ∀ x, C.In x → C.Lead x y → x ∈ ks) ∧ (∀ S : Spot → Prop, (∀ x, S x → ¬ C.Brk x ∧ ∀ y, C.Lead x y → S y) → ∀ x ∈ ks, ¬ S x) ∧ at_ ≤ ks.length
  refine ⟨fun n σ H' => ∃ at_ ks, Iv at_ ks σ H' ∧ n = 200 - at_, ⟨200, 0, ks0, ⟨us0, _, _, rfl, s05, upd_same, ?_, hn0, ?_, ?_, fun x hx => ((hmem0 x).mp hx).1, fun x h1 h2 => (hmem0 x).mpr ⟨h1, h2⟩, fun y hy => absurd hy (by simp), fun S hS x hx hs => (hS x hs).1 ((hmem0 x).mp hx).2, Nat.zero_le _⟩, rfl⟩, ?_⟩
  · rw [hks0] at hus0
    refine paired_imp (paired_map' hus0) fun v x _ z => ?_
    obtain ⟨b, rfl, nk⟩ := z
    exact spot_of_key (nk.tk (TK.same s5))
  · refine ⟨kf, dnf.same s5, fun k => ?_⟩
    rw [← mem_keys, hks0, List.mem_map]
    exact ⟨fun ⟨x, hx, e⟩ => ⟨x, hx, e.symm⟩, fun ⟨x, hx, e⟩ => ⟨x, hx, e.symm⟩⟩
  · exact (md.more fun c z => z.elim .inl fun e => .inr (by rw [e]; exact hwl)).same ld_tm s5
  rintro n σ H' ⟨at_, ks, ⟨us, x6, x14, rfl, s6, hw, hus, hn, hkf6, md6, hin, hbrk, hcl, hle, hat⟩, rfl⟩
  have hks108 : ks.length ≤ 108 := Nat.le_trans (length_le_of_sub hn fun x hx => mem_allSpots.mpr (hin x hx)) (allSpots_len co)
  refine ⟨_, rfl, _, rfl, wl, us, rfl, .inl (SqL.of hw), _, _, rfl, rfl, _, rfl, ?_⟩
  by_cases hlt : at_ < us.length
  case neg =>
    refine ifF (decide_eq_false (by omega)) ⟨_, rfl, ?_⟩
    rw [hus.length] at hlt
    have e : at_ = ks.length := by omega
    rw [e, take_all] at hcl
    exact q fd H' (fun x => x ∈ ks) s6 hfd0 ⟨fun x h1 h2 => hbrk x h1 h2, fun x y h1 h2 h3 => hcl y h3 x h1 h2, fun S hS x hx => hle S hS x hx⟩ hin hkf6
  refine ifT (decide_eq_true (by omega)) ⟨fun σ' H'' => ∃ m', m' < 200 - at_ ∧ ∃ at_ ks, Iv at_ ks σ' H'' ∧ m' = 200 - at_, fun σ' H'' z => z, ?_⟩
  -- the spots that lead to it
  obtain ⟨uy, huy⟩ : ∃ uy, us[at_]? = some uy := ⟨_, List.getElem?_eq_getElem hlt⟩
  obtain ⟨y, hy, hyu⟩ := paired_getl hus huy
  obtain ⟨by_, sy, rfl, hby, hsy⟩ := id hyu
  have iny : C.In y := hin y (List.mem_of_getElem? hy)
  obtain ⟨kv0, dn0'⟩ : ∃ kv0, DN P w H' dl kv0 := let ⟨kv, a, _⟩ := md6; ⟨kv, a⟩
  refine ⟨_, rfl, dl, kv0, rfl, dn0', _, rfl, _, rfl, wl, _, _, _, rfl, rfl, SqL.of hw, atI_nat huy, Nat.zero_le _, fun p hp => ?_⟩
  have s7 : Same H' (upd H' p (.lst [])) := same_new hp _
  obtain ⟨kvs, dn, hcase⟩ := (md6.same ld_tm s7).at (kSpot y)
  refine ⟨by_, kvs, kSpot y, rfl, dn, key_spot (spot_tm.mono _ _ _ _ s7 hyu), ?_⟩
  have hgl : ∃ Lp zs, (valV kvs (kSpot y)).getD (.ref p) = V.ref Lp ∧ upd H' p (.lst []) Lp = some (.lst zs) ∧ Paired (IsLd (upd H' p (.lst []))) zs (m (kSpot y)) ∧ Lp ≠ fd ∧ Lp ≠ wl := by
    rcases hcase with ⟨e1, e2⟩ | ⟨l, zs, e1, e2, e3, e4⟩
    · refine ⟨p, [], by rw [e1]; rfl, upd_same, by rw [e2]; exact .nil, fun z => ?_, fun z => ?_⟩
      · obtain ⟨_, e⟩ := hkf6.some
        rw [← z, hp] at e
        cases e
      · rw [← z, hp] at hw
        cases hw
    · exact ⟨l, zs, by rw [e1]; rfl, e3, e4, fun z => e2 (.inl ⟨_, by rw [z]; exact hff2⟩), fun z => e2 (.inr z)⟩
  obtain ⟨Lp, zs, eg, hLp, hzs, nLf, nLw⟩ := hgl
  have hus7 := paired_mono spot_tm.mono s7 hus
  rw [eg]
  refine ⟨Lp, rfl, ⟨_, SqL.of hLp⟩, for_it walk_list
    (fun j σ H8 => ∃ ks', ks <+: ks' ∧ Iv at_ ks' σ H8 ∧ H8 Lp = some (.lst zs) ∧ Paired (IsLd H8) zs (m (kSpot y)) ∧ ∀ x ∈ (m (kSpot y)).take j, x ∈ ks')
    ⟨ks, List.prefix_refl _, ⟨us, _, _, rfl, s6.trans s7, s7 _ _ hw, hus7, hn, hkf6.same s7, md6.same ld_tm s7, hin, hbrk, hcl, hle, hat⟩, hLp, hzs, fun x hx => by simp at hx⟩ (fun j σ H8 _ ⟨_, _, _, z, _⟩ => SqL.of z) ?_ ?_⟩
  · rintro j z σ H8'0 H8 hj ⟨ks', pre, ⟨us', x6', x14', rfl, s8, hw8, hus8, hn8, hkf8, md8, hin8, hbrk8, hcl8, hle8, hat8⟩, hLp8, hzs8, hdone⟩ ⟨rfl, hz⟩
    obtain ⟨x, hx, b, stp, sp, rfl, hb8, hsp⟩ := paired_getl hzs8 hz
    have hld := (hm x y).mp (List.mem_of_getElem? hx)
    obtain ⟨bs, vs8, rfl, hbs, hvs⟩ := id hsp
    refine ⟨b, _, rfl, SqT.of hb8, rfl, _, _, rfl, _, _, rfl, rfl, ?_⟩
    have hks' : ks'.length ≤ 108 := Nat.le_trans (length_le_of_sub hn8 fun x hx => mem_allSpots.mpr (hin8 x hx)) (allSpots_len co)
    obtain ⟨kvf, dnf8, hkvf⟩ := id hkf8
    refine ⟨_, rfl, _, rfl, fd, bs, kvf, kSpot x, rfl, rfl, dnf8, key_spot hsp, _, rfl, ?_⟩
    have hiff : (valV kvf (kSpot x)).isSome = true ↔ x ∈ ks' := by
      rw [hkvf]
      exact ⟨fun ⟨x', h1, e⟩ => by rw [kSpot_inj e]; exact h1, fun z => ⟨x, z, rfl⟩⟩
    by_cases c : x ∈ ks'
    · refine ifF (by rw [hiff.mpr c]; rfl) ⟨ks', pre, ⟨us', _, _, rfl, s8, hw8, hus8, hn8, hkf8, md8, hin8, hbrk8, hcl8, hle8, hat8⟩, hLp8, hzs8, fun x' hx' => ?_⟩
      rcases (mem_take_succ hx).mp hx' with z | z
      · exact hdone x' z
      · rw [z]
        exact c
    · refine ifT (by rw [Bool.eq_false_iff.mpr fun z => c (hiff.mp z)]; rfl) ?_
      have hya : ks'[at_]? = some y := by
        obtain ⟨r, rfl⟩ := pre
        rw [List.getElem?_append_left (by rw [hus.length] at hlt; exact hlt)]
        exact hy
      obtain ⟨uy', huy', _⟩ := paired_get hus8 hya
      refine ⟨_, rfl, _, rfl, _, rfl, wl, _, _, _, rfl, rfl, SqL.of hw8, atI_nat huy', sz_of (show 2 ≤ 100000 by decide), fun t1 ht1 => ⟨_, rfl, _, rfl, ?_⟩⟩
      have s9 : Same H8 (upd H8 t1 (.tup [stp, uy'])) := same_new ht1 _
      refine (hkf8.same s9).put (k := kSpot x) (spotKeys C) (fun k ⟨x', h1, e⟩ => by rw [e]; exact mem_spotKeys (hin8 _ h1)) hU (key_spot (spot_tm.mono _ _ _ _ s9 hsp)) fun φ4 hk4 => ?_
      have hw9 : upd (upd H8 t1 (.tup [stp, uy'])) fd (.ext φ4) wl = some (.lst us') := by
        rw [upd_ne (Ne.symm nfw)]
        exact s9 _ _ hw8
      refine ⟨_, rfl, .inl ⟨rfl, _, SqL.of hw9⟩, _, rfl, wl, us', _, rfl, rfl, hw9, sz_lt (by rw [hus8.length]; omega), ?_⟩
      obtain ⟨φg, hfg⟩ := (hkf8.same s9).some
      have frame : ∀ c o, c ≠ fd → c ≠ wl → H8 c = some o → upd (upd (upd H8 t1 (.tup [stp, uy'])) fd (.ext φ4)) wl (.lst (us' ++ [.ref bs])) c = some o := fun c o n1 n2 e => by
        rw [upd_ne n2, upd_ne n1]
        exact s9 _ _ e
      have tk : TK H8 (upd (upd (upd H8 t1 (.tup [stp, uy'])) fd (.ext φ4)) wl (.lst (us' ++ [.ref bs]))) := ((TK.same s9).trans (TK.upd fun xs z => by rw [hfg] at z; cases z)).trans (TK.upd fun xs z => by rw [hw9] at z; cases z)
      refine ⟨ks' ++ [x], pre.trans (List.prefix_append _ _), ⟨_, _, _, rfl, fun c o e => frame c o (fun z => by rw [z, hfd0] at e; cases e) (fun z => by rw [z, hwl0] at e; cases e) (s8 _ _ e), upd_same, paired_app (paired_tmono spot_tm tk hus8) (.cons (spot_tm _ _ _ _ tk hsp) .nil), ?_, ?_, ?_, fun x' hx' => ?_, fun x' h1 h2 => List.mem_append_left _ (hbrk8 x' h1 h2), fun y' hy' x' h1 h2 => ?_, fun S hS x' hx' => ?_, by rw [List.length_append]; omega⟩, frame _ _ nLf nLw hLp8, paired_tmono ld_tm tk hzs8, fun x' hx' => ?_⟩
      · rw [List.nodup_append]
        exact ⟨hn8, by simp, fun a ha b' hb' e => c (by rw [List.mem_singleton.mp hb'] at e; rw [← e]; exact ha)⟩
      · refine (hk4.keep (upd_ne nfw) (TK.upd fun xs z => by rw [hw9] at z; cases z)).iff fun k => ?_
        constructor
        · rintro (e | ⟨x', h1, e⟩)
          · exact ⟨x, by simp, e⟩
          · exact ⟨x', List.mem_append_left _ h1, e⟩
        · rintro ⟨x', h1, e⟩
          rcases List.mem_append.mp h1 with h1 | h1
          · exact .inr ⟨x', h1, e⟩
          · rw [List.mem_singleton.mp h1] at e
            exact .inl e
      · refine md8.frame ld_tm (fun c' o nF e => frame c' o (fun z => nF (by rw [z]; exact .inl ⟨_, hff2⟩)) (fun z => nF (.inr z)) e) tk fun z => ?_
        rcases z with ⟨o, z⟩ | z
        · rw [hdl] at z
          cases z
        · exact ndw z
      · rcases List.mem_append.mp hx' with z | z
        · exact hin8 _ z
        · rw [List.mem_singleton.mp z]
          exact hld.1
      · rw [List.take_append_of_le_length hat8] at hy'
        exact List.mem_append_left _ (hcl8 y' hy' x' h1 h2)
      · rcases List.mem_append.mp hx' with z | z
        · exact hle8 S hS x' z
        · rw [List.mem_singleton.mp z]
          intro hs
          exact hle8 S hS y (List.mem_of_getElem? hya) ((hS x hs).2 y hld.2)
      · rcases (mem_take_succ hx).mp hx' with z | z
        · exact List.mem_append_left _ (hdone x' z)
        · rw [z]
          simp
  · rintro σ H8 ⟨ks', pre, ⟨us', x6', x14', rfl, s8, hw8, hus8, hn8, hkf8, md8, hin8, hbrk8, hcl8, hle8, hat8⟩, hLp8, hzs8, hdone⟩
    rw [hzs8.length, take_all] at hdone
    have hlt' : at_ < ks.length := by rw [← hus.length]; exact hlt
    have hya : ks'[at_]? = some y := by
      obtain ⟨r, rfl⟩ := pre
      rw [List.getElem?_append_left hlt']
      exact hy
    have hlen := pre.length_le
    refine ⟨_, rfl, _, _, rfl, rfl, 200 - (at_ + 1), by omega, at_ + 1, ks', ⟨us', _, _, rfl, s8, hw8, hus8, hn8, hkf8, md8, hin8, hbrk8, fun y' hy' x' h1 h2 => ?_, hle8, by omega⟩, rfl⟩
    rcases (mem_take_succ hya).mp hy' with z | z
    · exact hcl8 y' z x' h1 h2
    · rw [z] at h2
      exact hdone x' ((hm x' y).mpr ⟨h1, h2⟩)
/-! ### weakest -/
abbrev s_weakest : Stmt := top 19
abbrev n_weakest : List Str := ["boxes", "hand", "promise", "others", "notes", "gone", "paper", "place", "stand"]
theorem sc_weakest : FnScope n_weakest ["boxes", "hand", "promise", "others", "notes"] (defScope s_weakest) := ⟨rfl, rfl, rfl, by decide +kernel, rfl, by decide +kernel, by decide +kernel⟩
def spWeakest : Sp := fun vs H Q _ => ∃ vb vh vp vo vn, ∃ C : Cfg, vs = [vb, vh, vp, vo, vn] ∧ IsBoxes H vb C.tops ∧ IsHand H vh C.hand ∧ IsSteps H vp C.promise ∧ IsOthers H vo C.others ∧ IsNotes H vn C.notes ∧ CfgOk C ∧
  ∀ v H' (L : Spot → Prop), Same H H' → C.Lost L → (∀ x, L x → C.In x) → IsPaper (nw H H') v (C.weak L) → Q v H'
theorem ok_weakest (D : Def K mg "weakest" s_weakest ["boxes", "hand", "promise", "others", "notes"]) (T : Txt K mg) (c_stands : Cal P w K mg base "stands" ["boxes"] 1 spStands) (c_lost : Cal P w K mg base "lost" ["boxes", "hand", "promise", "others", "notes"] 9 (spLost P w)) :
    Cal P w K mg base "weakest" ["boxes", "hand", "promise", "others", "notes"] 10 spWeakest := by
  refine D.cal sc_weakest (fun vs H Q E h => ?_) (fun f cdv A outer s H vs Q E hr h => ?_)
  · obtain ⟨vb, vh, vp, vo, vn, C, rfl, _⟩ := h
    rfl
  obtain ⟨vb, vh, vp, vo, vn, C, rfl, hb, hh, hpr, hoth, hnt, co, q⟩ := h
  have hu := r64 hr
  obtain ⟨ah, rows, rfl, hah, hrows⟩ := id hh
  have h8 := co.hand.rows
  refine ⟨_, (pss_cons (ps_set (i := 5) sc_weakest.nd rfl (Or.inr rfl) (pe_cal c_lost (hr.mono (by first | exact Nat.le_refl _ | decide | omega)) rfl (pa_cons (pv 0) (pa_cons (pv 1) (pa_cons (pv 2) (pa_cons (pv 3) (pa_cons (pv 4) pa_nil)))))))
    (pss_cons (ps_set (i := 6) sc_weakest.nd rfl (Or.inl rfl) (pe_lst pa_nil))
    (pss_cons (ps_for PassesOwn.never rfl (pi_range1 rfl T.range (pa_cons (pe_op op_add (pe_callB (call_lenK K) (by rfl) T.len PySem.boot_len (pa_cons (pv 1) pa_nil)) pe_int) pa_nil)) (pg_name (i := 7) sc_weakest.nd rfl (Or.inr rfl)) (pss_one (ps_expr (pe_bm PySem.F.plainAttrs_list PySem.F.slot_list_append PySem.F.type_list_append mt_append (pv 6) (pa_cons (pe_lc (own := [("stand", 8)]) (g := gName 8) rfl sc_weakest.nd (pi_listK K (pe_cal c_stands (hr.mono (by first | exact Nat.le_refl _ | decide | omega)) rfl (pa_cons (pv 0) pa_nil))) (blkOk_by (own := [("stand", 8)]) (N := n_weakest) (sc := defScope s_weakest) (by decide +kernel)) (fun _ _ _ _ _ => (pg_name (i := 8) sc_weakest.nd rfl (Or.inl rfl))) (fun _ _ _ _ _ => (pts_one (pt_cmp (pc_nnotinK P w hu (pe_tup (pa_cons (pv 7) (pa_cons (pv 8) pa_nil))) (pv 5)) rfl))) (fun _ _ _ _ _ => (pv 8))) pa_nil)))))
    (pss_one (ps_ret (pv 6)))))), ?_⟩
  refine ⟨_, rfl, _, rfl, _, rfl, _, rfl, _, rfl, vb, .ref ah, vp, vo, vn, C, rfl, hb, hh, hpr, hoth, hnt, co, fun gd H1 L s1 hgd hL hLin hkg => ?_⟩
  obtain ⟨g, hg⟩ : ∃ g : Nat → Stand → Bool, ∀ p s, g p s = true ↔ ¬ L (p, s) := by
    classical
    exact ⟨fun p s => decide (¬ L (p, s)), fun p s => decide_eq_true_iff⟩
  refine ⟨Nat.zero_le _, fun pd hpd => ?_⟩
  have s2 : Same H1 (upd H1 pd (.lst [])) := same_new hpd _
  have s02 := s1.trans s2
  have hpd0 : H pd = none := s1.free hpd
  let Hd := upd H1 pd (.lst [])
  have hHd : Hd pd = some (.lst []) := upd_same
  refine ⟨_, rfl, ah, _, rfl, .inl (SqL.of (s02 _ _ hah)), _, _, rfl, rfl, _, rfl, by rw [hrows.length]; omega, by rw [hrows.length]; omega, for_it walk_range
    (fun i σ H' => ∃ x7 x8 ys, σ = [some vb, some (.ref ah), some vp, some vo, some vn, some (.ref gd), some (.ref pd), x7, x8] ∧ (∀ c o, c ≠ pd → Hd c = some o → H' c = some o) ∧ TK Hd H' ∧ H' pd = some (.lst ys) ∧ Paired (IsSts (nw Hd H')) ys (((List.range (C.hand.length + 1)).take i).map fun p => (standsF C.tops).filter (g p)))
    ⟨_, _, [], rfl, fun c o _ e => e, TK.refl _, upd_same, .nil⟩ (fun _ _ _ _ _ => True.intro) ?_ ?_⟩
  · rintro i v σ H'0 H' hi ⟨x7, x8, ys, rfl, fr, tk, hys, hp⟩ ⟨rfl, hv⟩
    have hv' : v = .int (i : Int) := hv.trans (by show V.int (0 + (i : Int)) = _; rw [Int.zero_add])
    subst hv'
    have hi' : i < C.hand.length + 1 := by rw [hrows.length] at hi; omega
    have hri : (List.range (C.hand.length + 1))[i]? = some i := List.getElem?_range hi'
    have sH : Same H H' := fun c o e => fr c o (fun z => by rw [z, hpd0] at e; cases e) (s02 _ _ e)
    refine ⟨_, rfl, .inl ⟨rfl, _, SqL.of hys⟩, ?_⟩
    refine ⟨_, rfl, vb, C.tops, rfl, boxes_m _ _ _ _ sH hb, co.hand.box, fun v4 H4 s4 hv4 => ?_⟩
    obtain ⟨Ls, us, rfl, hL0, hLs, hus⟩ := lst_new st_tm.mono s4 hv4
    obtain ⟨φg, hgx⟩ := hkg.some
    have ngp : gd ≠ pd := ne_of_none hgx hpd
    have hkg4 : KeySet P w H4 gd (fun k => ∃ x, L x ∧ k = kSpot x) := ((hkg.same s2).keep ((fr _ _ ngp (s2 _ _ hgx)).trans (s2 _ _ hgx).symm) tk).same s4
    have hlen12 := co.hand.box.stands
    refine ⟨Ls, rfl, ⟨_, SqL.of hLs⟩, lcP walk_list (standsF C.tops) (g i) id IsSt st_tm.mono hus.length.symm (by rw [hus.length]; omega) (fun H2 s2 => SqL.of (s2 _ _ hLs)) (fun j a H5 x H6 F N ha s5 hy hN hF => ?_) (fun D2 H5 s5 hv5 => ?_)⟩
    · obtain ⟨e1, e2⟩ := hy
      subst e1
      obtain ⟨y, hy1, hy2⟩ := paired_get hus ha
      rw [hy1] at e2
      cases Option.some.inj e2
      have hy6 := st_tm.mono _ _ _ _ s5 hy2
      refine ⟨rfl, _, rfl, _, rfl, sz_of (show 2 ≤ 100000 by decide), fun t ht => ?_⟩
      have s6 := same_new ht (.tup [.int (i : Int), x])
      obtain ⟨kvs, dn, hks⟩ := (hkg4.same s5).same s6
      refine ⟨_, rfl, gd, t, kvs, kSpot (i, a), rfl, rfl, dn, key_place (p := (i, a)) upd_same (st_tm.mono _ _ _ _ s6 hy6), _, rfl, ?_⟩
      have hiff : (valV kvs (kSpot (i, a))).isSome = true ↔ L (i, a) := by
        rw [hks]
        exact ⟨fun ⟨x', h1, e⟩ => by rw [kSpot_inj e]; exact h1, fun z => ⟨_, z, rfl⟩⟩
      by_cases c : L (i, a)
      · refine ifF (by rw [hiff.mpr c]; rfl) (hN _ s6 (Bool.eq_false_iff.mpr fun z => (hg i a).mp z c))
      · refine ifT (by rw [Bool.eq_false_iff.mpr fun z => c (hiff.mp z)]; rfl) ⟨_, rfl, hF _ _ s6 ((hg i a).mpr c) (nw_tm st_tm s6 (st_tm.mono _ _ _ _ s6 hy6))⟩
    · rw [List.map_id] at hv5
      have s45 := s4.trans s5
      have hpd5 : H5 pd = some (.lst ys) := s45 _ _ hys
      have row : IsSts (nw Hd H5) (.ref D2) ((standsF C.tops).filter (g i)) := sts_m _ _ _ _ (nw_backL (fun b o nb e => s4 _ _ (fr b o nb e)) hHd (s4 _ _ hys) (TK.same s5)) hv5
      have keepd : ∀ xs, Same (nw Hd H5) (nw Hd (upd H5 pd (.lst xs))) := fun xs => nw_on fun b o e1 e2 => by
        rw [upd_ne (fun z => by rw [z, hHd] at e1; cases e1)]
        exact e2
      refine ⟨pd, ys, _, rfl, rfl, hpd5, sz_lt (by rw [hp.length, List.length_map, List.length_take, List.length_range]; omega), ?_⟩
      refine ⟨_, _, _, rfl, fun c o n e => ?_, (tk.trans (TK.same s45)).trans (TK.upd fun xs z => by rw [hpd5] at z; cases z), upd_same, ?_⟩
      · rw [upd_ne n]
        exact s45 _ _ (fr c o n e)
      · rw [take_snoc hri, List.map_append]
        exact paired_app (paired_mono sts_m ((nw_same s45).trans (keepd _)) hp) (.cons (sts_m _ _ _ _ (keepd _) row) .nil)
  · rintro σ H' ⟨x7, x8, ys, rfl, fr, tk, hys, hp⟩
    have sH : Same H H' := fun c o e => fr c o (fun z => by rw [z, hpd0] at e; cases e) (s02 _ _ e)
    have e : (List.range (C.hand.length + 1)).take ((rows.length : Int) + 1 - 0).toNat = List.range (C.hand.length + 1) := List.take_of_length_le (by rw [List.length_range, hrows.length]; omega)
    refine ⟨_, rfl, q _ _ L sH hL hLin ⟨pd, ys, rfl, by rw [nw_none hpd0]; exact hys, ?_⟩⟩
    rw [weak_eq hg]
    refine paired_mono sts_m (nw_back s02 tk) ?_
    exact (congrArg (fun l => Paired (IsSts (nw Hd H')) ys (l.map fun p => (standsF C.tops).filter (g p))) e).mp hp
end
end Hm
end

section
set_option Elab.async false
set_option linter.all false
set_option maxRecDepth 100000
set_option maxHeartbeats 4000000
/-! look_at_paper, the class Look, looked. -/
namespace Hm
open PySem L2
/-! ### methods -/
structure MCal (P : Program) (w : World) (K : PySem.W.Frag) (mg : Str → Option Value) (base : Heap) (C : Addr) (m : Str) (ps : List Str) (k : Nat) (sp : Sp) : Prop where
  ex : ∃ f fd, FnOk P w K mg base CX0 k f fd ps sp ∧ Meth K C m f ∧ Binds K fd ps []
structure MkCal (P : Program) (w : World) (K : PySem.W.Frag) (mg : Str → Option Value) (base : Heap) (C : Addr) (x : Str) (ps : List Str) (k : Nat) (sp : Sp) : Prop where
  ex : ∃ f fd, FnOk P w K mg base CX0 k f fd ps sp ∧ Mk K C f ∧ mg x = some (.ref C) ∧ Binds K fd ps []
theorem pe_mk {X : Cx} {C : Addr} {x : Str} {ps : List Str} {k : Nat} {sp : Sp} {p pos : Pos} {e : Expr} {es : List Expr} {t : TA} (M : MkCal X.prog X.w X.K X.mg X.base C x ps k sp) (hr : Room (k + 1) X.A) (hg : Gl X x)
    (ha : PA X (e :: es) t) (hdb : (x == ("__debug__" : Str)) = false := by decide) (he : starEach (e :: es) X.env = (false, eval e X.env) :: starEach es X.env := by rfl) (hpl : (backTo pos (starEach es X.env)).any (·.1) = false := by rfl) :
    PE X (.Call (.Name x p) (e :: es) [] pos) (tMake C sp [] E0 t) := by
  obtain ⟨f, fd, F, m, g, b⟩ := M.ex
  exact pe_make m F hr hg g b .nil pass0 ha hdb he hpl
/-- the method stands in the class as the text says -/
structure DefM (K : PySem.W.Frag) (C : Addr) (m qual : Str) (st : Stmt) (ps : List Str) : Prop where
  ex : ∃ f fd, Fun K m qual st f fd ∧ Meth K C m f ∧ Binds K fd ps []
structure DefI (K : PySem.W.Frag) (mg : Str → Option Value) (C : Addr) (x m qual : Str) (st : Stmt) (ps : List Str) : Prop where
  ex : ∃ f fd, Fun K m qual st f fd ∧ Mk K C f ∧ mg x = some (.ref C) ∧ Binds K fd ps []
section
variable {P : Program} {w : World} {K : PySem.W.Frag} {mg : Str → Option Value} {base : Heap}
theorem DefM.cal {C : Addr} {m qual : Str} {st : Stmt} {N ps : List Str} {k : Nat} {sp : Sp} (D : DefM K C m qual st ps) (S : FnScope N ps (defScope st)) (len : ∀ vs H Q E, sp vs H Q E → vs.length = ps.length)
    (hbody : ∀ (f : Addr) (cdv : Value) (A : Around) (outer : List Env) (s : Shared) (H : Hp) (vs : List V) (Q : VK) (E : XK), Room k (A.deeper (PyProof.Rows.envOfC qual (defScope st) s.heap.objs.size f cdv)) → sp vs H Q E →
      ∃ t, PSs (cxOf CX0 P w K mg base N qual (defScope st) f cdv A outer s H E).nox (defBody st) t ∧ t { nx := fun _ H' => Q .non H', rt := Q } (start N vs) H) : MCal P w K mg base C m ps (k + 1) sp := by
  obtain ⟨f, fd, F, m, b⟩ := D.ex
  exact ⟨f, fd, F.ok S len (fun cdv A outer s H vs Q E hr h => hbody f cdv A outer s H vs Q E hr h), m, b⟩
theorem DefI.cal {C : Addr} {x m qual : Str} {st : Stmt} {N ps : List Str} {k : Nat} {sp : Sp} (D : DefI K mg C x m qual st ps) (S : FnScope N ps (defScope st)) (len : ∀ vs H Q E, sp vs H Q E → vs.length = ps.length)
    (hbody : ∀ (f : Addr) (cdv : Value) (A : Around) (outer : List Env) (s : Shared) (H : Hp) (vs : List V) (Q : VK) (E : XK), Room k (A.deeper (PyProof.Rows.envOfC qual (defScope st) s.heap.objs.size f cdv)) → sp vs H Q E →
      ∃ t, PSs (cxOf CX0 P w K mg base N qual (defScope st) f cdv A outer s H E).nox (defBody st) t ∧ t { nx := fun _ H' => Q .non H', rt := Q } (start N vs) H) : MkCal P w K mg base C x ps (k + 1) sp := by
  obtain ⟨f, fd, F, m, g, b⟩ := D.ex
  exact ⟨f, fd, F.ok S len (fun cdv A outer s H vs Q E hr h => hbody f cdv A outer s H vs Q E hr h), m, g, b⟩
end
structure LookT (K : PySem.W.Frag) (C : Addr) : Prop where
  cl : Cls K C
  nB : NoAttr K C "boxes"
  nH : NoAttr K C "hand"
  nN : NoAttr K C "notes"
  nP : NoAttr K C "promised"
  nO : NoAttr K C "others"
/-! ### the fields of a look -/
theorem lenF {f : Str} {v : V} {fs : List (Str × V)} {n : Nat} (h : fs.length ≤ n) : (putF f v fs).length ≤ n + 1 := Nat.le_trans (length_putF f v fs) (by omega)
def lkF (vb vh vn : V) (pr ot : Addr) : List (Str × V) := putF "others" (.ref ot) (putF "promised" (.ref pr) (putF "notes" vn (putF "hand" vh (putF "boxes" vb []))))
section
variable {vb vh vn : V} {pr ot : Addr}
theorem lk_boxes : (lkF vb vh vn pr ot).lookup ("boxes" : Str) = some vb := by
  unfold lkF
  rw [lookup_putF, if_neg (by decide +kernel), lookup_putF, if_neg (by decide +kernel), lookup_putF, if_neg (by decide +kernel), lookup_putF, if_neg (by decide +kernel), lookup_putF, if_pos rfl]
theorem lk_hand : (lkF vb vh vn pr ot).lookup ("hand" : Str) = some vh := by
  unfold lkF
  rw [lookup_putF, if_neg (by decide +kernel), lookup_putF, if_neg (by decide +kernel), lookup_putF, if_neg (by decide +kernel), lookup_putF, if_pos rfl]
theorem lk_notes : (lkF vb vh vn pr ot).lookup ("notes" : Str) = some vn := by
  unfold lkF
  rw [lookup_putF, if_neg (by decide +kernel), lookup_putF, if_neg (by decide +kernel), lookup_putF, if_pos rfl]
theorem lk_promised : (lkF vb vh vn pr ot).lookup ("promised" : Str) = some (.ref pr) := by
  unfold lkF
  rw [lookup_putF, if_neg (by decide +kernel), lookup_putF, if_pos rfl]
theorem lk_others : (lkF vb vh vn pr ot).lookup ("others" : Str) = some (.ref ot) := by
  unfold lkF
  rw [lookup_putF, if_pos rfl]
theorem lk_no {m : Str} (h1 : ¬ m = "others") (h2 : ¬ m = "promised") (h3 : ¬ m = "notes") (h4 : ¬ m = "hand") (h5 : ¬ m = "boxes") : (lkF vb vh vn pr ot).lookup m = none := by
  unfold lkF
  rw [lookup_putF, if_neg h1, lookup_putF, if_neg h2, lookup_putF, if_neg h3, lookup_putF, if_neg h4, lookup_putF, if_neg h5]
  rfl
end
/-- steps, led on -/
def IsLed (P : Program) (w : World) : Rp (List Step) := fun H v st => ∃ d U F, v = .ref d ∧ MD P w U F H d IsSt (ledF st)
theorem led_m {P : Program} {w : World} : Mono (IsLed P w) := fun H H' v x s ⟨d, U, F, e, h⟩ => ⟨d, U, F, e, h.same st_tm s⟩
/-- stands, as a dict's keys -/
def IsMem (P : Program) (w : World) : Rp (List Stand) := fun H v ss => ∃ d, v = .ref d ∧ KeySet P w H d (fun k => ∃ s ∈ ss, k = kSt s)
theorem mem_m {P : Program} {w : World} : Mono (IsMem P w) := fun H H' v x s ⟨d, e, h⟩ => ⟨d, e, h.same s⟩
theorem DN.nw {P : Program} {w : World} {H H' : Hp} {d : Addr} {kvs : List (NestedKey × V)} (x : DN P w H' d kvs) (s : Same H H') (hd : H d = none) : DN P w (nw H H') d kvs := x.keep (nw_none hd) (nw_tk s)
theorem KeySet.nw {P : Program} {w : World} {H H' : Hp} {d : Addr} {S : NestedKey → Prop} (x : KeySet P w H' d S) (s : Same H H') (hd : H d = none) : KeySet P w (nw H H') d S := let ⟨kvs, a, b⟩ := x; ⟨kvs, a.nw s hd, b⟩
theorem MD.nw {α : Type} {P : Program} {w : World} {U : List NestedKey} {H H' : Hp} {d : Addr} {R : Rp α} {m : NestedKey → List α} (hR : TMono R) (x : MD P w U (fun c => ∃ o, H c = some o) H' d R m) (s : Same H H') (hd : H d = none) : MD P w U (fun c => ∃ o, H c = some o) (nw H H') d R m := by
  obtain ⟨kvs, a, u, b, c, e⟩ := x
  refine ⟨kvs, a.nw s hd, u, b, fun k v hv => ?_, e⟩
  obtain ⟨l, vs, h1, h2, h3, h4⟩ := c k v hv
  have hl : H l = none := by
    cases q : H l with
    | none => rfl
    | some o => exact absurd ⟨o, q⟩ h2
  exact ⟨l, vs, h1, h2, by rw [nw_none hl]; exact h3, paired_tmono hR (nw_tk s) h4⟩
theorem mem_ledF {st : List Step} {s t : Stand} : t ∈ ledF st (kSt s) ↔ (s, t) ∈ st := by
  unfold ledF
  rw [List.mem_map]
  constructor
  · rintro ⟨⟨a, b⟩, h, rfl⟩
    obtain ⟨h1, h2⟩ := List.mem_filter.mp h
    have e := kSt_inj (of_decide_eq_true h2)
    rw [← e]
    exact h1
  · intro h
    exact ⟨(s, t), List.mem_filter.mpr ⟨h, decide_eq_true rfl⟩, rfl⟩
def LookAt (P : Program) (w : World) (C : Addr) (H : Hp) (p : Addr) (G : Cfg) : Prop := ∃ dx vb vh vn pr ot os, H p = some (.ins C dx (lkF vb vh vn pr ot)) ∧ IsBoxes H vb G.tops ∧ IsHand H vh G.hand ∧ IsNotes H vn G.notes ∧
  KeySet P w H pr (fun k => ∃ q ∈ G.promise, k = kStep q) ∧ H ot = some (.lst os) ∧ Paired (IsLed P w H) os G.others
theorem LookAt.same {P : Program} {w : World} {C : Addr} {H H' : Hp} {p : Addr} {G : Cfg} (h : LookAt P w C H p G) (s : Same H H') : LookAt P w C H' p G := by
  obtain ⟨dx, vb, vh, vn, pr, ot, os, h1, h2, h3, h4, h5, h6, h7⟩ := h
  exact ⟨dx, vb, vh, vn, pr, ot, os, s _ _ h1, boxes_m _ _ _ _ s h2, hand_m _ _ _ _ s h3, notes_m _ _ _ _ s h4, h5.same s, s _ _ h6, paired_mono led_m s h7⟩
/-! ### what breaks a paper -/
def OB (C : Cfg) (paper : List (List Stand)) (x : Spot) : Prop := ∃ wy ∈ C.ways x.1, ∃ t, beh C.tops wy x.2 = some t ∧ (¬ InP paper (wy.nx, t) ∨ t ≠ x.2 ∧ (x.2, t) ∉ C.promise)
def XB (C : Cfg) (paper : List (List Stand)) (x : Spot) : Prop := ∃ st ∈ C.others, ∃ t, (x.2, t) ∈ st ∧ ¬ InP paper (x.1, t)
def BA (C : Cfg) (paper : List (List Stand)) (x : Spot) : Prop := (C.note x.1).holds x.2 = false ∨ OB C paper x ∨ XB C paper x
theorem fits_iff {C : Cfg} {paper : List (List Stand)} : C.Fits paper ↔ ∀ x, InP paper x → ¬ BA C paper x := by
  constructor
  · rintro h x hx (b | ⟨wy, hw, t, hb, h1 | h1⟩ | ⟨st, hst, t, hm, h1⟩)
    · exact (h x hx).1 (.inl b)
    · exact h1 ((h x hx).2 (wy.nx, t) (.inl ⟨wy, hw, rfl, hb⟩))
    · exact (h x hx).1 (.inr ⟨wy, hw, t, hb, h1⟩)
    · exact h1 ((h x hx).2 (x.1, t) (.inr ⟨rfl, st, hst, hm⟩))
  · intro h x hx
    refine ⟨?_, fun y hy => ?_⟩
    · rintro (b | ⟨wy, hw, t, hb, h1⟩)
      · exact h x hx (.inl b)
      · exact h x hx (.inr (.inl ⟨wy, hw, t, hb, .inr h1⟩))
    · apply Classical.byContradiction
      intro c
      rcases hy with ⟨wy, hw, e, hb⟩ | ⟨e, st, hst, hm⟩
      · exact h x hx (.inr (.inl ⟨wy, hw, y.2, hb, .inl (by rw [e]; exact c)⟩))
      · exact h x hx (.inr (.inr ⟨st, hst, y.2, hm, by rw [e]; exact c⟩))
/-- a paper as look_at_paper wants it -/
structure PapOk (C : Cfg) (paper : List (List Stand)) : Prop where
  len : paper.length = C.hand.length + 1
  rise : ∀ r ∈ paper, Rising r
  val : ∀ r ∈ paper, ∀ s ∈ r, Valid C.tops s
  size : ∀ r ∈ paper, r.length ≤ 1000
theorem mem_item {P : Program} {w : World} {H : Hp} {ls : List V} {paper : List (List Stand)} (h : Paired (IsMem P w H) ls paper) {i : Nat} (hi : i < paper.length) : ∃ d kvs, ls[i]? = some (.ref d) ∧ DN P w H d kvs ∧ ∀ t, (valV kvs (kSt t)).isSome = true ↔ InP paper (i, t) := by
  obtain ⟨u, hu, d, rfl, kvs, dn, hk⟩ := paired_get h (List.getElem?_eq_getElem hi)
  refine ⟨d, kvs, hu, dn, fun t => ?_⟩
  unfold InP
  rw [hk, getD_some (List.getElem?_eq_getElem hi)]
  exact ⟨fun ⟨s, h1, e⟩ => by rw [kSt_inj e]; exact h1, fun z => ⟨t, z, rfl⟩⟩
theorem isSome_dec {o : Option V} {p : Prop} (h : o.isSome = true ↔ p) (c : p) : (!o.isSome) = false := by rw [h.mpr c]; rfl
theorem isSome_dec' {o : Option V} {p : Prop} (h : o.isSome = true ↔ p) (c : ¬ p) : (!o.isSome) = true := by rw [Bool.eq_false_iff.mpr fun z => c (h.mp z)]; rfl

section
variable {P : Program} {w : World} {K : PySem.W.Frag} {mg : Str → Option Value} {base : Heap}
/-! ### look_at_paper -/
abbrev s_look_at_paper : Stmt := top 21
abbrev n_look_at_paper : List Str := ["boxes", "hand", "paper", "some", "k"]
theorem sc_look_at_paper : FnScope n_look_at_paper ["boxes", "hand", "paper"] (defScope s_look_at_paper) := ⟨rfl, rfl, rfl, by decide +kernel, rfl, by decide +kernel, by decide +kernel⟩
def spLookAt : Sp := fun vs H Q _ => ∃ vb vh vp, ∃ C : Cfg, ∃ paper, vs = [vb, vh, vp] ∧ IsBoxes H vb C.tops ∧ IsHand H vh C.hand ∧ IsPaper H vp paper ∧ CfgOk C ∧ PapOk C paper ∧ ∀ H', Same H H' → Q .non H'
theorem ok_look_at_paper (D : Def K mg "look_at_paper" s_look_at_paper ["boxes", "hand", "paper"]) (T : Txt K mg) (c_is_stand : Cal P w K mg base "is_stand" ["boxes", "thing"] 2 spIsStand) : Cal P w K mg base "look_at_paper" ["boxes", "hand", "paper"] 3 spLookAt := by
  refine D.cal sc_look_at_paper (fun vs H Q E h => ?_) (fun f cdv A outer s H vs Q E hr h => ?_)
  · obtain ⟨vb, vh, vp, C, paper, rfl, _⟩ := h
    rfl
  obtain ⟨vb, vh, vp, C, paper, rfl, hb, ⟨ah, rows, rfl, hah, hrows⟩, ⟨ap, ps, rfl, hap, hps⟩, co, po, q⟩ := h
  have hu := r64 hr
  refine ⟨_, (pss_cons (ps_if (PW.pt (pw_or (pt_not (pt_val (pe_callB (call_isiK K) (by rfl) T.isinstance (by decide +kernel) (pa_cons (pv 2) (pa_cons (pe_bltn (v := .ty "list") (by rfl) T.list (by decide +kernel) rfl) pa_nil))))) (pw_or1 (pt_cmpR op_ne (pe_callB (call_lenK K) (by rfl) T.len PySem.boot_len (pa_cons (pv 2) pa_nil)) (pe_op op_add (pe_callB (call_lenK K) (by rfl) T.len PySem.boot_len (pa_cons (pv 1) pa_nil)) pe_int) (nomark _))))) (pss_one ps_never) pss_nil)
    (pss_one (ps_for PassesOwn.never rfl (pi_listK K (pv 2)) (pg_name (i := 3) sc_look_at_paper.nd rfl (Or.inl rfl)) (pss_cons (ps_if (pt_not (pt_val (pe_callB (call_isiK K) (by rfl) T.isinstance (by decide +kernel) (pa_cons (pv 3) (pa_cons (pe_bltn (v := .ty "list") (by rfl) T.list (by decide +kernel) rfl) pa_nil))))) (pss_one ps_never) pss_nil)
        (pss_one (ps_for PassesOwn.never rfl (pi_range1 rfl T.range (pa_cons (pe_callB (call_lenK K) (by rfl) T.len PySem.boot_len (pa_cons (pv 3) pa_nil)) pa_nil)) (pg_name (i := 4) sc_look_at_paper.nd rfl (Or.inl rfl)) (pss_one (ps_if (PW.pt (pw_or (pt_not (pt_val (pe_cal c_is_stand (hr.mono (by first | exact Nat.le_refl _ | decide | omega)) rfl (pa_cons (pv 0) (pa_cons (pe_ix (ix_listK K) (pv 3) (pv 4) (fun _ _ => rfl)) pa_nil))))) (pw_or1 (PW.pt (pw_and (pt_cmpR op_gt (pv 4) pe_int (nomark _)) (pw_and1 (pt_cmpR (op_geDK K hu) (pe_ix (ix_listK K) (pv 3) (pe_op op_sub (pv 4) pe_int) (fun _ _ => rfl)) (pe_ix (ix_listK K) (pv 3) (pv 4) (fun _ _ => rfl)) (nomark _)))))))) (pss_one ps_never) pss_nil)))))))), ?_⟩
  refine ⟨_, rfl, _, _, _, _, true, rfl, .ty "list", .base (.lst hap), kit_ty (by decide +kernel), true, rfl, ifF rfl ?_⟩
  refine ⟨_, rfl, ap, _, rfl, .inl (SqL.of hap), _, rfl, ah, _, rfl, .inl (SqL.of hah), _, _, rfl, rfl, rfl, _, rfl, ifF ?_ ?_⟩
  · rw [dInt, hps.length, hrows.length, po.len]
    simp
  refine ⟨_, rfl, ap, rfl, ⟨_, SqL.of hap⟩, for_it walk_list (fun i σ H' => ∃ x3 x4, σ = [some vb, some (.ref ah), some (.ref ap), x3, x4] ∧ Same H H') ⟨_, _, rfl, Same.refl _⟩ (fun i σ H' _ ⟨_, _, _, s⟩ => SqL.of (s _ _ hap)) ?_ ?_⟩
  · rintro i u σ H'0 H' hi ⟨x3, x4, rfl, s1⟩ ⟨rfl, hx⟩
    obtain ⟨r, hr', ar, rs, rfl, har, hrs⟩ := paired_getl hps hx
    have hrm := List.mem_of_getElem? hr'
    refine ⟨_, rfl, _, _, _, _, true, rfl, .ty "list", .base (.lst (s1 _ _ har)), kit_ty (by decide +kernel), true, rfl, ifF rfl ?_⟩
    have hsz := po.size r hrm
    refine ⟨_, rfl, ar, _, rfl, .inl (SqL.of (s1 _ _ har)), _, rfl, by rw [hrs.length]; omega, by rw [hrs.length]; omega, for_it walk_range (fun j σ H2 => ∃ x4, σ = [some vb, some (.ref ah), some (.ref ap), some (.ref ar), x4] ∧ Same H H2) ⟨_, rfl, s1⟩ (fun _ _ _ _ _ => True.intro) ?_ ?_⟩
    · rintro j v σ H2'0 H2 hj ⟨x4, rfl, s2⟩ ⟨rfl, hv⟩
      have hv' : v = .int (j : Int) := hv.trans (by show V.int (0 + (j : Int)) = _; rw [Int.zero_add])
      subst hv'
      have hj' : j < r.length := by rw [hrs.length] at hj; omega
      obtain ⟨u, hu', hus⟩ := paired_get hrs (List.getElem?_eq_getElem hj')
      refine ⟨_, rfl, _, rfl, _, rfl, ar, _, _, _, rfl, rfl, SqL.of (s2 _ _ har), atI_nat hu', vb, u, C.tops, _, rfl, boxes_m _ _ _ _ s2 hb, st_tm.mono _ _ _ _ s2 hus, po.val r hrm _ (List.getElem_mem hj'), fun H3 s3 => ?_⟩
      have s23 := s2.trans s3
      refine ⟨true, rfl, ifF rfl ?_⟩
      refine ⟨_, rfl, _, _, rfl, rfl, _, rfl, ?_⟩
      by_cases c : 0 < j
      · refine ifT (decide_eq_true (by omega)) ?_
        have hj1 : j - 1 < r.length := by omega
        obtain ⟨u1, hu1, hus1⟩ := paired_get hrs (List.getElem?_eq_getElem hj1)
        have e1 : ((j : Int) - 1) = ((j - 1 : Nat) : Int) := by omega
        refine ⟨_, rfl, _, rfl, _, _, rfl, rfl, ar, _, _, _, rfl, rfl, SqL.of (s23 _ _ har), by rw [e1]; exact atI_nat hu1, _, rfl, _, rfl, ar, _, _, _, rfl, rfl, SqL.of (s23 _ _ har), atI_nat hu', _, _, dp_st (st_tm.mono _ _ _ _ s23 hus1), dp_st (st_tm.mono _ _ _ _ s23 hus), alike_st _ _, (by intro z; cases z), by rw [depth_st]; decide, _, rfl, ?_⟩
        have hlt : r[j - 1] < r[j] := List.pairwise_iff_getElem.mp (po.rise r hrm) (j - 1) j hj1 hj' (by omega)
        refine ifF (by rw [lt_st, decide_eq_true hlt]; rfl) ⟨_, rfl, s23⟩
      · refine ifF (decide_eq_false (by omega)) (ifF rfl ⟨_, rfl, s23⟩)
    · rintro σ H2 ⟨x4, rfl, s2⟩
      exact ⟨_, _, rfl, s2⟩
  · rintro σ H' ⟨x3, x4, rfl, s1⟩
    exact q _ s1
/-! ### Look.__init__ -/
abbrev s_init__ : Stmt := inClass (top 24) 0
abbrev n_init__ : List Str := ["self", "boxes", "hand", "promise", "others", "notes", "steps"]
theorem sc_init__ : FnScope n_init__ ["self", "boxes", "hand", "promise", "others", "notes"] (defScope s_init__) := ⟨rfl, rfl, rfl, by decide +kernel, rfl, by decide +kernel, by decide +kernel⟩
def spInit (P : Program) (w : World) (C : Addr) : Sp := fun vs H Q _ => ∃ H0 p dx vb vh vp vo vn, ∃ G : Cfg, vs = [.ref p, vb, vh, vp, vo, vn] ∧ Same H0 H ∧ H0 p = none ∧ H p = some (.ins C dx []) ∧ IsBoxes H0 vb G.tops ∧ IsHand H0 vh G.hand ∧ IsSteps H0 vp G.promise ∧ IsOthers H0 vo G.others ∧ IsNotes H0 vn G.notes ∧ CfgOk G ∧
  ∀ H', Same H0 H' → LookAt P w C H' p G → Q .non H'
theorem ok_init {C : Addr} (D : DefI K mg C "Look" "__init__" "Look.__init__" s_init__ ["self", "boxes", "hand", "promise", "others", "notes"]) (T : Txt K mg) (TL : LookT K C) (c_members : Cal P w K mg base "members" ["some"] 1 (spMembers P w)) (c_led_on : Cal P w K mg base "led_on" ["steps"] 1 (spLedOn P w)) :
    MkCal P w K mg base C "Look" ["self", "boxes", "hand", "promise", "others", "notes"] 2 (spInit P w C) := by
  refine D.cal sc_init__ (fun vs H Q E h => ?_) (fun f cdv A outer s H vs Q E hr h => ?_)
  · obtain ⟨H0, p, dx, vb, vh, vp, vo, vn, G, rfl, _⟩ := h
    rfl
  obtain ⟨H0, p, dx, vb, vh, vp, vo, vn, G, rfl, s0, hp0, hp, hb, hh, hpr, hoth, hnt, co, q⟩ := h
  refine ⟨_, (pss_cons (ps_fld (pv 0) (pv 1) rfl)
    (pss_cons (ps_fld (pv 0) (pv 2) rfl)
    (pss_cons (ps_fld (pv 0) (pv 5) rfl)
    (pss_cons (ps_fld (pv 0) (pe_cal c_members (hr.mono (by first | exact Nat.le_refl _ | decide | omega)) rfl (pa_cons (pv 3) pa_nil)) rfl)
    (pss_one (ps_fld (pv 0) (pe_lc (own := [("steps", 6)]) (g := gName 6) rfl sc_init__.nd (pi_listK K (pv 4)) (blkOk_by (own := [("steps", 6)]) (N := n_init__) (sc := defScope s_init__) (by decide +kernel)) (fun _ _ _ _ _ => (pg_name (i := 6) sc_init__.nd rfl (Or.inl rfl))) (fun _ _ _ _ _ => pts_nil) (fun _ _ _ _ _ => (pe_cal c_led_on (hr.mono (by first | exact Nat.le_refl _ | decide | omega)) rfl (pa_cons (pv 6) pa_nil)))) rfl)))))), ?_⟩
  have up : ∀ (H1 : Hp) o, Same H0 H1 → Same H0 (upd H1 p o) := fun H1 o s b u e => by
    rw [upd_ne (fun z => by rw [z, hp0] at e; cases e)]
    exact s _ _ e
  refine ⟨_, rfl, _, rfl, p, C, dx, [], rfl, hp, TL.cl, TL.nB, by decide, ?_⟩
  refine ⟨_, rfl, _, rfl, p, C, dx, _, rfl, upd_same, TL.cl, TL.nH, Nat.lt_of_le_of_lt (lenF (Nat.le_refl 0)) (by decide), ?_⟩
  refine ⟨_, rfl, _, rfl, p, C, dx, _, rfl, upd_same, TL.cl, TL.nN, Nat.lt_of_le_of_lt (lenF (lenF (Nat.le_refl 0))) (by decide), ?_⟩
  have s3 := up _ (.ins C dx (putF "notes" vn (putF "hand" vh (putF "boxes" vb [])))) (up _ (.ins C dx (putF "hand" vh (putF "boxes" vb []))) (up _ (.ins C dx (putF "boxes" vb [])) s0))
  refine ⟨_, rfl, vp, Step, IsStep, kStep, G.promise, rfl, steps_m _ _ _ _ s3 hpr, step_tm.mono, fun H u x h => ?_, co.promise, fun pr H4 s4 hpr4 hks => ?_⟩
  · obtain ⟨b, _, _, rfl, _⟩ := id h
    exact ⟨b, rfl, key_step h⟩
  have hp4 := s4 _ _ (upd_same : _ = some (HO.ins C dx (putF "notes" vn (putF "hand" vh (putF "boxes" vb [])))))
  refine ⟨_, rfl, p, C, dx, _, rfl, hp4, TL.cl, TL.nP, Nat.lt_of_le_of_lt (lenF (lenF (lenF (Nat.le_refl 0)))) (by decide), ?_⟩
  have s5 := up _ (.ins C dx (putF "promised" (.ref pr) (putF "notes" vn (putF "hand" vh (putF "boxes" vb []))))) (s3.trans s4)
  have npp : pr ≠ p := fun z => by rw [z, upd_same] at hpr4; cases hpr4
  obtain ⟨φ, hφ⟩ := hks.some
  have hks5 : KeySet P w (upd H4 p (.ins C dx (putF "promised" (.ref pr) (putF "notes" vn (putF "hand" vh (putF "boxes" vb [])))))) pr (fun k => ∃ x ∈ G.promise, k = kStep x) := hks.keep (upd_ne npp) (TK.upd fun xs z => by rw [hp4] at z; cases z)
  obtain ⟨ao, os, rfl, hao, hos⟩ := id hoth
  refine ⟨_, rfl, ao, rfl, ⟨_, SqL.of (s5 _ _ hao)⟩, lcP walk_list G.others (fun _ => true) id (IsLed P w) led_m hos.length.symm (by rw [hos.length]; have := co.others; omega) (fun H2 s2 => SqL.of (s2 _ _ (s5 _ _ hao))) (fun j st H6 x H7 F N ha s6 hy hN hF => ?_) (fun D2 H6 s6 hv6 => ?_)⟩
  · obtain ⟨e1, e2⟩ := hy
    subst e1
    obtain ⟨y, hy1, hy2⟩ := paired_get hos ha
    rw [hy1] at e2
    cases Option.some.inj e2
    refine ⟨rfl, yesT ?_⟩
    exact ⟨_, rfl, _, st, rfl, steps_m _ _ _ _ (s5.trans s6) hy2, co.osteps st (List.mem_of_getElem? ha), fun d H8 s8 hd md => hF _ _ s8 rfl ⟨d, _, _, rfl, md.nw st_tm s8 hd⟩⟩
  · have ef : List.filter (fun _ : List Step => true) G.others = G.others := List.filter_eq_self.mpr fun _ _ => rfl
    rw [ef, List.map_id] at hv6
    obtain ⟨D3, zs, e3, hD3, hzs⟩ := hv6
    cases e3
    have hp6 := s6 _ _ (upd_same : _ = some (HO.ins C dx (putF "promised" (.ref pr) (putF "notes" vn (putF "hand" vh (putF "boxes" vb []))))))
    refine ⟨_, rfl, p, C, dx, _, rfl, hp6, TL.cl, TL.nO, Nat.lt_of_le_of_lt (lenF (lenF (lenF (lenF (Nat.le_refl 0))))) (by decide), ?_⟩
    have tkp : TK H6 (upd H6 p (.ins C dx (putF "others" (.ref D2) (putF "promised" (.ref pr) (putF "notes" vn (putF "hand" vh (putF "boxes" vb []))))))) := TK.upd fun xs z => by rw [hp6] at z; cases z
    have s7 := up _ (.ins C dx (putF "others" (.ref D2) (putF "promised" (.ref pr) (putF "notes" vn (putF "hand" vh (putF "boxes" vb [])))))) (s5.trans s6)
    have keep : Same (nw (upd H4 p (.ins C dx (putF "promised" (.ref pr) (putF "notes" vn (putF "hand" vh (putF "boxes" vb [])))))) H6) (upd H6 p (.ins C dx (putF "others" (.ref D2) (putF "promised" (.ref pr) (putF "notes" vn (putF "hand" vh (putF "boxes" vb []))))))) := fun b o e => by
      have nb : b ≠ p := fun z => by
        rcases nw_cases e with ⟨xs, e1, _⟩ | ⟨e1, _⟩
        · rw [z, upd_same] at e1
          cases e1
        · rw [z, upd_same] at e1
          cases e1
      rw [upd_ne nb]
      exact nw_sub (TK.same s6) _ _ e
    refine q _ s7 ⟨dx, vb, vh, vn, pr, D2, zs, upd_same, boxes_m _ _ _ _ s7 hb, hand_m _ _ _ _ s7 hh, notes_m _ _ _ _ s7 hnt, (hks5.same s6).keep (upd_ne npp) tkp, keep _ _ hD3, paired_mono led_m keep hzs⟩
/-! ### own_break -/
abbrev s_own_break : Stmt := inClass (top 24) 1
abbrev n_own_break : List Str := ["self", "lists", "place", "stand", "way", "one", "after"]
theorem sc_own_break : FnScope n_own_break ["self", "lists", "place", "stand"] (defScope s_own_break) := ⟨rfl, rfl, rfl, by decide +kernel, rfl, by decide +kernel, by decide +kernel⟩
def spOwnBreak (P : Program) (w : World) (C : Addr) : Sp := fun vs H Q _ => ∃ p al ls pl u s, ∃ G : Cfg, ∃ paper, vs = [.ref p, .ref al, .int (pl : Nat), u] ∧ LookAt P w C H p G ∧ H al = some (.lst ls) ∧ Paired (IsMem P w H) ls paper ∧ IsSt H u s ∧ CfgOk G ∧ paper.length = G.hand.length + 1 ∧ pl ≤ G.hand.length ∧ Valid G.tops s ∧
  ∀ v H', Same H H' → (v = .non ∧ ¬ OB G paper (pl, s) ∨ v ≠ .non ∧ OB G paper (pl, s)) → Q v H'
def OBk (G : Cfg) (paper : List (List Stand)) (x : Spot) (k : Nat) : Prop := ∃ wy t, (G.ways x.1)[k]? = some wy ∧ beh G.tops wy x.2 = some t ∧ (¬ InP paper (wy.nx, t) ∨ t ≠ x.2 ∧ (x.2, t) ∉ G.promise)
theorem ok_own_break {C : Addr} (D : DefM K C "own_break" "Look.own_break" s_own_break ["self", "lists", "place", "stand"]) (T : Txt K mg) (TL : LookT K C) (c_ways_at : Cal P w K mg base "ways_at" ["boxes", "hand", "place", "stand"] 6 spWaysAt) (c_behind : Cal P w K mg base "behind" ["boxes", "way", "stand"] 5 spBehind) :
    MCal P w K mg base C "own_break" ["self", "lists", "place", "stand"] 7 (spOwnBreak P w C) := by
  refine D.cal sc_own_break (fun vs H Q E h => ?_) (fun f cdv A outer s H vs Q E hr h => ?_)
  · obtain ⟨p, al, ls, pl, u, s, G, paper, rfl, _⟩ := h
    rfl
  obtain ⟨p, al, ls, pl, u, st, G, paper, rfl, hlk, hal, hls, hst, co, hpl, hp, hv, q⟩ := h
  have hu := r64 hr
  refine ⟨_, (pss_cons (ps_for PassesOwn.never rfl (pi_listK K (pe_cal c_ways_at (hr.mono (by first | exact Nat.le_refl _ | decide | omega)) rfl (pa_cons (pe_fld (pv 0) rfl) (pa_cons (pe_fld (pv 0) rfl) (pa_cons (pv 2) (pa_cons (pv 3) pa_nil)))))) (pg_name (i := 4) sc_own_break.nd rfl (Or.inl rfl)) (pss_cons (ps_set (i := 5) sc_own_break.nd rfl (Or.inl rfl) (pe_ix (ix_listK K) (pe_ix (ix_listK K) (pe_fld (pv 0) rfl) (pv 2) (fun _ _ => rfl)) (pv 4) (fun _ _ => rfl)))
        (pss_cons (ps_set (i := 6) sc_own_break.nd rfl (Or.inl rfl) (pe_cal c_behind (hr.mono (by first | exact Nat.le_refl _ | decide | omega)) rfl (pa_cons (pe_fld (pv 0) rfl) (pa_cons (pv 5) (pa_cons (pv 3) pa_nil)))))
        (pss_cons (ps_if (pt_cmp (pc_nnotinK P w hu (pv 6) (pe_ix (ix_listK K) (pv 1) (pe_ix (ix_tupK K) (pv 5) pe_int (fun _ _ => rfl)) (fun _ _ => rfl))) rfl) (pss_one (ps_ret (pe_tup (pa_cons pe_str (pa_cons (pv 2) (pa_cons (pv 3) (pa_cons (pv 4) pa_nil))))))) pss_nil)
        (pss_one (ps_if (PW.pt (pw_and (pt_cmpR (op_neDK K hu) (pv 6) (pv 3) (nomark _)) (pw_and1 (pt_cmp (pc_nnotinK P w hu (pe_tup (pa_cons (pv 3) (pa_cons (pv 6) pa_nil))) (pe_fld (pv 0) rfl)) rfl)))) (pss_one (ps_ret (pe_tup (pa_cons pe_str (pa_cons (pv 2) (pa_cons (pv 3) (pa_cons (pv 4) pa_nil))))))) pss_nil))))))
    (pss_one (ps_ret pe_non))), ?_⟩
  obtain ⟨dx, vb, vh, vn, pr, ot, os, hp0, hb, hh, hnt, hpr, hot, hos⟩ := id hlk
  refine ⟨_, rfl, p, C, dx, _, _, rfl, hp0, TL.cl, TL.nB, lk_boxes, _, rfl, p, C, dx, _, _, rfl, hp0, TL.cl, TL.nH, lk_hand, _, rfl, _, rfl, vb, vh, u, G.tops, G.hand, pl, st, rfl, hb, hh, hst, co.hand, hp, hv, fun v1 H1 s1 hv1 => ?_⟩
  obtain ⟨L, ks, rfl, hL, hks⟩ := LstOf.mono nat_m _ _ _ _ (nw_sub (TK.same s1)) hv1
  obtain ⟨ah, rows0, rfl, _⟩ := id hh
  refine ⟨L, rfl, ⟨_, SqL.of hL⟩, for_it walk_list
    (fun i σ H' => ∃ x4 x5 x6, σ = [some (.ref p), some (.ref al), some (.int (pl : Nat)), some u, x4, x5, x6] ∧ Same H1 H' ∧ ∀ k ∈ (waysF G.tops (G.hand.getD pl []) st).take i, ¬ OBk G paper (pl, st) k)
    ⟨_, _, _, rfl, Same.refl _, fun k hk => by simp at hk⟩ (fun i σ H' _ ⟨_, _, _, _, s, _⟩ => SqL.of (s _ _ hL)) ?_ ?_⟩
  · rintro i x σ H'0 H' hi ⟨x4, x5, x6, rfl, s2, hno⟩ ⟨rfl, hx⟩
    obtain ⟨k, hk, ex⟩ := paired_getl hks hx
    have ex' : x = .int (k : Int) := ex
    subst ex'
    obtain ⟨wy, t, hwy, hbe⟩ := mem_waysF.mp (List.mem_of_getElem? hk)
    have hwy' : (G.ways pl)[k]? = some wy := hwy
    have s02 := s1.trans s2
    obtain ⟨rows, ar, ws, uw, row, g1, g2, g3, g4, g5, g6, g7⟩ := hand_item (hand_m _ _ _ _ s02 hh) hwy
    have wok := co.ok.ways _ g6 wy g7
    refine ⟨_, rfl, p, C, dx, _, _, rfl, s02 _ _ hp0, TL.cl, TL.nH, lk_hand, _, rfl, ah, _, _, _, rfl, rfl, SqL.of g1, atI_nat g2, _, rfl, ar, _, _, _, rfl, rfl, SqL.of g3, atI_nat g4, ?_⟩
    refine ⟨_, rfl, p, C, dx, _, _, rfl, s02 _ _ hp0, TL.cl, TL.nB, lk_boxes, _, rfl, _, rfl, vb, uw, u, G.tops, wy, st, _, rfl, boxes_m _ _ _ _ s02 hb, g5, st_tm.mono _ _ _ _ s02 hst, wok, hv, by have := co.hand.box.len; omega, fun v3 H3 s3 hov => ?_⟩
    rw [hbe] at hov
    have hov' : IsSt H3 v3 t := hov
    have s03 := s02.trans s3
    obtain ⟨aw, gw, pw, ps, rfl, haw, g8⟩ := id g5
    obtain ⟨bt, rfl, hbt⟩ := id hov'
    obtain ⟨dm, kvs, hdm, dn, hiff⟩ := mem_item (paired_mono mem_m s03 hls) (show wy.nx < paper.length by rw [hpl]; exact wok.nx)
    refine ⟨_, rfl, _, rfl, _, rfl, aw, _, _, _, rfl, rfl, SqT.of (s3 _ _ haw), atI_nat (j := 2) rfl, al, _, _, _, rfl, rfl, SqL.of (s03 _ _ hal), atI_nat hdm, dm, bt, kvs, kSt t, rfl, rfl, dn, key_st hov', _, rfl, ?_⟩
    have done : ∀ (H4 : Hp), Same H3 H4 → (¬ OBk G paper (pl, st) k) → ∀ k' ∈ (waysF G.tops (G.hand.getD pl []) st).take (i + 1), ¬ OBk G paper (pl, st) k' := fun H4 _ hn k' hk' => by
      rcases (mem_take_succ hk).mp hk' with z | z
      · exact hno k' z
      · rw [z]
        exact hn
    have bad : ∀ H4, Same H3 H4 → (¬ InP paper (wy.nx, t) ∨ t ≠ st ∧ (st, t) ∉ G.promise) → ∀ t5, Q (.ref t5) H4 := fun H4 s4 hbad t5 => q _ _ (s03.trans s4) (.inr ⟨fun z => (nomatch z), wy, List.mem_of_getElem? hwy, t, hbe, hbad⟩)
    by_cases c1 : InP paper (wy.nx, t)
    case neg =>
      exact ifT (isSome_dec' (hiff t) c1) ⟨_, rfl, _, rfl, _, rfl, sz_of (show 4 ≤ 100000 by decide), fun t5 ht5 => bad _ (same_new ht5 _) (.inl c1) t5⟩
    refine ifF (isSome_dec (hiff t) c1) ?_
    have ht3 := st_tm.mono _ _ _ _ s03 hst
    refine ⟨_, rfl, _, rfl, dSt t, dSt st, dp_st hov', dp_st ht3, shaped_st _, shaped_st _, _, rfl, ?_⟩
    rw [eqv_st]
    by_cases c2 : t = st
    · refine ifF (by rw [decide_eq_true c2]; rfl) (ifF rfl ⟨_, _, _, rfl, s2.trans s3, done H3 (Same.refl _) ?_⟩)
      rintro ⟨wy', t', e1, e2, e3⟩
      rw [hwy'] at e1
      cases e1
      rw [hbe] at e2
      cases e2
      rcases e3 with e3 | e3
      · exact e3 c1
      · exact e3.1 c2
    · refine ifT (by rw [decide_eq_false c2]; rfl) ?_
      refine ⟨_, rfl, _, rfl, sz_of (show 2 ≤ 100000 by decide), fun t4 ht4 => ?_⟩
      have s4 : Same H3 (upd H3 t4 (.tup [u, .ref bt])) := same_new ht4 _
      have s04 := s03.trans s4
      obtain ⟨kvs, dn, hkv⟩ := hpr.same s04
      have nk : NK (upd H3 t4 (.tup [u, .ref bt])) (kStep (st, t)) t4 := key_pair (p := (st, t)) upd_same (st_tm.mono _ _ _ _ s4 ht3) (st_tm.mono _ _ _ _ s4 hov')
      refine ⟨_, rfl, p, C, dx, _, _, rfl, s04 _ _ hp0, TL.cl, TL.nP, lk_promised, pr, t4, kvs, _, rfl, rfl, dn, nk, _, rfl, ?_⟩
      have hiff2 : (valV kvs (kStep (st, t))).isSome = true ↔ (st, t) ∈ G.promise := by
        rw [hkv]
        exact ⟨fun ⟨q', hq', e⟩ => by rw [kStep_inj e]; exact hq', fun z => ⟨_, z, rfl⟩⟩
      by_cases c3 : (st, t) ∈ G.promise
      · refine ifF (isSome_dec hiff2 c3) ⟨_, _, _, rfl, (s2.trans s3).trans s4, done _ s4 ?_⟩
        rintro ⟨wy', t', e1, e2, e3⟩
        rw [hwy'] at e1
        cases e1
        rw [hbe] at e2
        cases e2
        rcases e3 with e3 | e3
        · exact e3 c1
        · exact e3.2 c3
      · exact ifT (isSome_dec' hiff2 c3) ⟨_, rfl, _, rfl, _, rfl, sz_of (show 4 ≤ 100000 by decide), fun t5 ht5 => bad _ (s4.trans (same_new ht5 _)) (.inr ⟨c2, c3⟩) t5⟩
  · rintro σ H' ⟨x4, x5, x6, rfl, s2, hno⟩
    rw [hks.length, take_all] at hno
    refine q _ _ (s1.trans s2) (.inl ⟨rfl, ?_⟩)
    rintro ⟨wy, hwy, t, hbe, hbad⟩
    obtain ⟨k, hk⟩ := List.mem_iff_getElem?.mp hwy
    exact hno k (mem_waysF.mpr ⟨wy, t, hk, hbe⟩) ⟨wy, t, hk, hbe, hbad⟩
/-! ### other_break -/
abbrev s_other_break : Stmt := inClass (top 24) 2
abbrev n_other_break : List Str := ["self", "lists", "place", "stand", "number", "led", "after"]
theorem sc_other_break : FnScope n_other_break ["self", "lists", "place", "stand"] (defScope s_other_break) := ⟨rfl, rfl, rfl, by decide +kernel, rfl, by decide +kernel, by decide +kernel⟩
def spOtherBreak (P : Program) (w : World) (C : Addr) : Sp := fun vs H Q _ => ∃ p al ls pl u s, ∃ G : Cfg, ∃ paper, vs = [.ref p, .ref al, .int (pl : Nat), u] ∧ LookAt P w C H p G ∧ H al = some (.lst ls) ∧ Paired (IsMem P w H) ls paper ∧ IsSt H u s ∧ CfgOk G ∧ paper.length = G.hand.length + 1 ∧ pl ≤ G.hand.length ∧ Valid G.tops s ∧
  ∀ v H', Same H H' → (v = .non ∧ ¬ XB G paper (pl, s) ∨ v ≠ .non ∧ XB G paper (pl, s)) → Q v H'
theorem ok_other_break {C : Addr} (D : DefM K C "other_break" "Look.other_break" s_other_break ["self", "lists", "place", "stand"]) (T : Txt K mg) (TL : LookT K C) :
    MCal P w K mg base C "other_break" ["self", "lists", "place", "stand"] 1 (spOtherBreak P w C) := by
  refine D.cal sc_other_break (fun vs H Q E h => ?_) (fun f cdv A outer s H vs Q E hr h => ?_)
  · obtain ⟨p, al, ls, pl, u, s, G, paper, rfl, _⟩ := h
    rfl
  obtain ⟨p, al, ls, pl, u, st, G, paper, rfl, hlk, hal, hls, hst, co, hpl, hp, hv, q⟩ := h
  have hu := r64 hr
  refine ⟨_, (pss_cons (ps_for PassesOwn.never rfl (pi_enumK K rfl T.enumerate (pa_cons (pe_fld (pv 0) rfl) pa_nil)) (pg_tupK (n := 2) K rfl (pgs_cons (pg_name (i := 4) sc_other_break.nd rfl (Or.inl rfl)) (pgs_cons (pg_name (i := 5) sc_other_break.nd rfl (Or.inl rfl)) pgs_nil))) (pss_one (ps_for PassesOwn.never rfl (pi_listK K (pe_ngetorK P w hu (pv 5) (pv 3) (pe_lst pa_nil) ⟨rfl, rfl, rfl, rfl⟩)) (pg_name (i := 6) sc_other_break.nd rfl (Or.inl rfl)) (pss_one (ps_if (pt_cmp (pc_nnotinK P w hu (pv 6) (pe_ix (ix_listK K) (pv 1) (pv 2) (fun _ _ => rfl))) rfl) (pss_one (ps_ret (pe_tup (pa_cons pe_str (pa_cons (pv 2) (pa_cons (pv 3) (pa_cons (pv 4) (pa_cons (pv 6) pa_nil)))))))) pss_nil)))))
    (pss_one (ps_ret pe_non))), ?_⟩
  obtain ⟨dx, vb, vh, vn, pr, ot, os, hp0, hb, hh, hnt, hpr, hot, hos⟩ := id hlk
  refine ⟨_, rfl, p, C, dx, _, _, rfl, hp0, TL.cl, TL.nO, lk_others, ot, _, rfl, SqL.of hot, for_it walk_enum
    (fun i σ H' => ∃ x4 x5 x6, σ = [some (.ref p), some (.ref al), some (.int (pl : Nat)), some u, x4, x5, x6] ∧ Same H H' ∧ ∀ sts ∈ G.others.take i, ∀ t, (st, t) ∈ sts → InP paper (pl, t))
    ⟨_, _, _, rfl, Same.refl _, fun k hk => by simp at hk⟩ (fun i σ H' _ ⟨_, _, _, _, s, _⟩ => SqL.of (s _ _ hot)) ?_ ?_⟩
  · rintro i v σ H'0 H' hi ⟨x4, x5, x6, rfl, s1, hno⟩ ⟨t, x, y, rfl, ht, rfl, hx, hy⟩
    cases Option.some.inj hx
    obtain ⟨sts, hsts, d, U, F, rfl, md⟩ := paired_getl hos hy
    have s2 : Same H (upd H'0 t (.tup [.int (i : Nat), .ref d])) := s1.trans (same_new ht _)
    refine ⟨t, _, rfl, SqT.of upd_same, rfl, _, _, rfl, _, _, rfl, rfl, ?_⟩
    have md2 := md.same st_tm s2
    obtain ⟨kv0, dn0'⟩ : ∃ kv0, DN P w (upd H'0 t (.tup [.int (i : Nat), .ref d])) d kv0 := let ⟨kv, a, _⟩ := md2; ⟨kv, a⟩
    have hst2 := st_tm.mono _ _ _ _ s2 hst
    obtain ⟨bu, rfl, hbu⟩ := id hst2
    refine ⟨_, rfl, d, kv0, rfl, dn0', _, rfl, Nat.zero_le _, fun e he => ?_⟩
    have s3 : Same (upd H'0 t (.tup [.int (i : Nat), .ref d])) (upd (upd H'0 t (.tup [.int (i : Nat), .ref d])) e (.lst [])) := same_new he _
    obtain ⟨kvs, dn, hcase⟩ := (md2.same st_tm s3).at (kSt st)
    refine ⟨bu, kvs, kSt st, rfl, dn, key_st (st_tm.mono _ _ _ _ s3 hst2), ?_⟩
    have hgl : ∃ Lp zs, (valV kvs (kSt st)).getD (.ref e) = V.ref Lp ∧ upd (upd H'0 t (.tup [.int (i : Nat), .ref d])) e (.lst []) Lp = some (.lst zs) ∧ Paired (IsSt (upd (upd H'0 t (.tup [.int (i : Nat), .ref d])) e (.lst []))) zs (ledF sts (kSt st)) := by
      rcases hcase with ⟨e1, e2⟩ | ⟨l, zs, e1, e2, e3, e4⟩
      · exact ⟨e, [], by rw [e1]; rfl, upd_same, by rw [e2]; exact .nil⟩
      · exact ⟨l, zs, by rw [e1]; rfl, e3, e4⟩
    obtain ⟨Lp, zs, eg, hLp, hzs⟩ := hgl
    rw [eg]
    refine ⟨Lp, rfl, ⟨_, SqL.of hLp⟩, for_it walk_list
      (fun j σ H4 => ∃ x6, σ = [some (.ref p), some (.ref al), some (.int (pl : Nat)), some (.ref bu), some (.int (i : Nat)), some (.ref d), x6] ∧ Same (upd (upd H'0 t (.tup [.int (i : Nat), .ref d])) e (.lst [])) H4 ∧ ∀ t ∈ (ledF sts (kSt st)).take j, InP paper (pl, t))
      ⟨_, rfl, Same.refl _, fun k hk => by simp at hk⟩ (fun i σ H' _ ⟨_, _, s, _⟩ => SqL.of (s _ _ hLp)) ?_ ?_⟩
    · rintro j z σ H4'0 H4 hj ⟨x6, rfl, s4, hno2⟩ ⟨rfl, hz⟩
      obtain ⟨t', ht', hzt⟩ := paired_getl hzs hz
      have hzt4 := st_tm.mono _ _ _ _ s4 hzt
      obtain ⟨bz, rfl, hbz⟩ := id hzt4
      have s04 := (s2.trans s3).trans s4
      obtain ⟨dm, kvm, hdm, dnm, hiff⟩ := mem_item (paired_mono mem_m s04 hls) (show pl < paper.length by omega)
      refine ⟨_, rfl, _, rfl, _, rfl, al, _, _, _, rfl, rfl, SqL.of (s04 _ _ hal), atI_nat hdm, dm, bz, kvm, kSt t', rfl, rfl, dnm, key_st hzt4, _, rfl, ?_⟩
      by_cases c : InP paper (pl, t')
      · refine ifF (isSome_dec (hiff t') c) ⟨_, rfl, s4, fun k hk => ?_⟩
        rcases (mem_take_succ ht').mp hk with y | y
        · exact hno2 k y
        · rw [y]
          exact c
      · refine ifT (isSome_dec' (hiff t') c) ⟨_, rfl, _, rfl, _, rfl, _, rfl, sz_of (show 5 ≤ 100000 by decide), fun t5 ht5 => ?_⟩
        exact q _ _ (s04.trans (same_new ht5 _)) (.inr ⟨fun z => (nomatch z), sts, List.mem_of_getElem? hsts, t', mem_ledF.mp (List.mem_of_getElem? ht'), c⟩)
    · rintro σ H4 ⟨x6, rfl, s4, hno2⟩
      rw [hzs.length, take_all] at hno2
      refine ⟨_, _, _, rfl, (s2.trans s3).trans s4, fun k hk t' ht' => ?_⟩
      rcases (mem_take_succ hsts).mp hk with y | y
      · exact hno k y t' ht'
      · rw [y] at ht'
        exact hno2 t' (mem_ledF.mpr ht')
  · rintro σ H' ⟨x4, x5, x6, rfl, s1, hno⟩
    rw [hos.length, take_all] at hno
    refine q _ _ s1 (.inl ⟨rfl, ?_⟩)
    rintro ⟨sts, h1, t, h2, h3⟩
    exact h3 (hno sts h1 t h2)
/-! ### break_at -/
abbrev s_break_at : Stmt := inClass (top 24) 3
abbrev n_break_at : List Str := ["self", "lists", "place", "stand", "found"]
theorem sc_break_at : FnScope n_break_at ["self", "lists", "place", "stand"] (defScope s_break_at) := ⟨rfl, rfl, rfl, by decide +kernel, rfl, by decide +kernel, by decide +kernel⟩
def spBreakAt (P : Program) (w : World) (C : Addr) : Sp := fun vs H Q _ => ∃ p al ls pl u s, ∃ G : Cfg, ∃ paper, vs = [.ref p, .ref al, .int (pl : Nat), u] ∧ LookAt P w C H p G ∧ H al = some (.lst ls) ∧ Paired (IsMem P w H) ls paper ∧ IsSt H u s ∧ CfgOk G ∧ paper.length = G.hand.length + 1 ∧ pl ≤ G.hand.length ∧ Valid G.tops s ∧
  ∀ v H', Same H H' → (v = .non ∧ ¬ BA G paper (pl, s) ∨ v ≠ .non ∧ BA G paper (pl, s)) → Q v H'
theorem ok_break_at {C : Addr} (D : DefM K C "break_at" "Look.break_at" s_break_at ["self", "lists", "place", "stand"]) (T : Txt K mg) (TL : LookT K C) (c_holds : Cal P w K mg base "holds" ["cond", "ahead", "behind"] 4 (spHolds 2))
    (c_own_break : MCal P w K mg base C "own_break" ["self", "lists", "place", "stand"] 7 (spOwnBreak P w C)) (c_other_break : MCal P w K mg base C "other_break" ["self", "lists", "place", "stand"] 1 (spOtherBreak P w C)) :
    MCal P w K mg base C "break_at" ["self", "lists", "place", "stand"] 8 (spBreakAt P w C) := by
  obtain ⟨_, _, G_own_break, m_own_break, b_own_break⟩ := c_own_break.ex
  obtain ⟨_, _, G_other_break, m_other_break, b_other_break⟩ := c_other_break.ex
  refine D.cal sc_break_at (fun vs H Q E h => ?_) (fun f cdv A outer s H vs Q E hr h => ?_)
  · obtain ⟨p, al, ls, pl, u, s, G, paper, rfl, _⟩ := h
    rfl
  obtain ⟨p, al, ls, pl, u, st, G, paper, rfl, hlk, hal, hls, hst, co, hpl, hp, hv, q⟩ := h
  refine ⟨_, (pss_cons (ps_if (pt_not (pt_val (pe_cal c_holds (hr.mono (by first | exact Nat.le_refl _ | decide | omega)) rfl (pa_cons (pe_ix (ix_listK K) (pe_fld (pv 0) rfl) (pv 2) (fun _ _ => rfl)) (pa_cons (pv 3) (pa_cons pe_non pa_nil)))))) (pss_one (ps_ret (pe_tup (pa_cons pe_str (pa_cons (pv 2) (pa_cons (pv 3) pa_nil)))))) pss_nil)
    (pss_cons (ps_set (i := 4) sc_break_at.nd rfl (Or.inl rfl) (pe_meth (pv 0) TL.cl m_own_break G_own_break (hr.mono (by first | exact Nat.le_refl _ | decide | omega)) b_own_break .nil pass0 (pa_cons (pv 1) (pa_cons (pv 2) (pa_cons (pv 3) pa_nil)))))
    (pss_cons (ps_if (pt_cmpR op_isN (pv 4) pe_non (nomark _)) (pss_one (ps_set (i := 4) sc_break_at.nd rfl (Or.inl rfl) (pe_meth (pv 0) TL.cl m_other_break G_other_break (hr.mono (by first | exact Nat.le_refl _ | decide | omega)) b_other_break .nil pass0 (pa_cons (pv 1) (pa_cons (pv 2) (pa_cons (pv 3) pa_nil)))))) pss_nil)
    (pss_one (ps_ret (pv 4)))))), ?_⟩
  obtain ⟨dx, vb, vh, vn, pr, ot, os, hp0, hb, hh, hnt, hpr, hot, hos⟩ := id hlk
  obtain ⟨an, ns, rfl, han, hns⟩ := id hnt
  obtain ⟨hnote, noteOk⟩ := co.noteAt hp
  obtain ⟨un, hun, hcd⟩ := paired_get hns hnote
  refine ⟨_, rfl, p, C, dx, _, _, rfl, hp0, TL.cl, TL.nN, lk_notes, _, rfl, an, _, _, _, rfl, rfl, SqL.of han, atI_nat hun, _, rfl, un, u, _, G.note pl, st, rfl, hcd, hst, Nat.lt_succ_of_le noteOk.dep, noteOk.sdep, by rw [hv.1]; exact noteOk.wf, _, rfl, ?_⟩
  cases hcs : (G.note pl).holds st with
  | false =>
    refine ifT rfl ⟨_, rfl, _, rfl, sz_of (show 3 ≤ 100000 by decide), fun t5 ht5 => ?_⟩
    exact q _ _ (same_new ht5 _) (.inr ⟨fun z => (nomatch z), .inl hcs⟩)
  | true =>
    refine ifF rfl ?_
    refine ⟨_, rfl, p, dx, _, rfl, hp0, lk_no (by decide +kernel) (by decide +kernel) (by decide +kernel) (by decide +kernel) (by decide +kernel), _, rfl, _, rfl, _, rfl, p, al, ls, pl, u, st, G, paper, rfl, hlk, hal, hls, hst, co, hpl, hp, hv, fun v1 H1 s1 hv1 => ?_⟩
    rcases hv1 with ⟨rfl, hno⟩ | ⟨hne, hyes⟩
    · refine ⟨_, rfl, rfl, _, rfl, ifT rfl ?_⟩
      refine ⟨_, rfl, p, dx, _, rfl, s1 _ _ hp0, lk_no (by decide +kernel) (by decide +kernel) (by decide +kernel) (by decide +kernel) (by decide +kernel), _, rfl, _, rfl, _, rfl, p, al, ls, pl, u, st, G, paper, rfl, hlk.same s1, s1 _ _ hal, paired_mono mem_m s1 hls, st_tm.mono _ _ _ _ s1 hst, co, hpl, hp, hv, fun v2 H2 s2 hv2 => ?_⟩
      refine ⟨_, rfl, q _ _ (s1.trans s2) ?_⟩
      rcases hv2 with ⟨rfl, hno2⟩ | ⟨hne2, hyes2⟩
      · refine .inl ⟨rfl, ?_⟩
        rintro (z | z | z)
        · rw [show (G.note (pl, st).1).holds (pl, st).2 = true from hcs] at z
          cases z
        · exact hno z
        · exact hno2 z
      · exact .inr ⟨hne2, .inr (.inr hyes2)⟩
    · refine ⟨_, rfl, rfl, _, rfl, ifF (decide_eq_false hne) ?_⟩
      exact ⟨_, rfl, q _ _ s1 (.inr ⟨hne, .inr (.inl hyes)⟩)⟩
end
end Hm
end

section
set_option Elab.async false
set_option linter.all false
set_option maxRecDepth 100000
set_option maxHeartbeats 4000000
/-! looked. -/
namespace Hm
open PySem L2
/-- the first stand where begin holds and that the first list lacks -/
def bgF (tops : List Int) (c : Cd) (paper : List (List Stand)) : Option Stand := (standsF tops).find? fun s => c.holds s && !decide (s ∈ paper.getD 0 [])
theorem find_at {α : Type} {p : α → Bool} : ∀ {l : List α} {j : Nat} {s : α}, l[j]? = some s → p s = true → (∀ x ∈ l.take j, p x = false) → l.find? p = some s
  | [], j, s, h, _, _ => by simp at h
  | a :: l, 0, s, h, hp, _ => by
    have e : a = s := by simpa using h
    rw [e, List.find?_cons, hp]
  | a :: l, j + 1, s, h, hp, hn => by
    have ha := hn a (by simp)
    rw [List.find?_cons, ha]
    exact find_at (by simpa using h) hp fun x hx => hn x (by rw [List.take_succ_cons]; exact List.mem_cons_of_mem _ hx)
theorem bgF_filter {tops : List Int} {c : Cd} {paper : List (List Stand)} : bgF tops c paper = ((standsF tops).filter c.holds).find? fun s => !decide (s ∈ paper.getD 0 []) := by
  unfold bgF
  rw [List.find?_filter]
  congr 1
  funext s
  simp
/-- what looked answers -/
def LookRes (C : Cfg) (c : Cd) (paper : List (List Stand)) (H : Hp) (v : V) : Prop :=
  (∃ s t u, bgF C.tops c paper = some s ∧ v = .ref t ∧ H t = some (.tup [.str "begin", u]) ∧ IsSt H u s) ∨ (bgF C.tops c paper = none ∧ (v = .non ∧ C.Fits paper ∨ v ≠ .non ∧ ¬ C.Fits paper))
section
variable {P : Program} {w : World} {K : PySem.W.Frag} {mg : Str → Option Value} {base : Heap}
abbrev s_looked : Stmt := top 25
abbrev n_looked : List Str := ["boxes", "hand", "promise", "others", "notes", "begin", "paper", "some", "lists", "stand", "look", "place", "found"]
theorem sc_looked : FnScope n_looked ["boxes", "hand", "promise", "others", "notes", "begin", "paper"] (defScope s_looked) := ⟨rfl, rfl, rfl, by decide +kernel, rfl, by decide +kernel, by decide +kernel⟩
def spLooked : Sp := fun vs H Q _ => ∃ vb vh vp vo vn vg vpp, ∃ G : Cfg, ∃ c paper, vs = [vb, vh, vp, vo, vn, vg, vpp] ∧ IsBoxes H vb G.tops ∧ IsHand H vh G.hand ∧ IsSteps H vp G.promise ∧ IsOthers H vo G.others ∧ IsNotes H vn G.notes ∧ IsCd H vg c ∧ IsPaper H vpp paper ∧
  CfgOk G ∧ c.ok G.tops.length ∧ PapOk G paper ∧ ∀ v H', Same H H' → LookRes G c paper H' v → Q v H'
theorem ok_looked {C : Addr} (D : Def K mg "looked" s_looked ["boxes", "hand", "promise", "others", "notes", "begin", "paper"]) (T : Txt K mg) (TL : LookT K C) (c_look_at_paper : Cal P w K mg base "look_at_paper" ["boxes", "hand", "paper"] 3 spLookAt) (c_members : Cal P w K mg base "members" ["some"] 1 (spMembers P w))
    (c_stands_of : Cal P w K mg base "stands_of" ["boxes", "cond"] 5 spStandsOf) (c_Look : MkCal P w K mg base C "Look" ["self", "boxes", "hand", "promise", "others", "notes"] 2 (spInit P w C)) (c_break_at : MCal P w K mg base C "break_at" ["self", "lists", "place", "stand"] 8 (spBreakAt P w C)) :
    Cal P w K mg base "looked" ["boxes", "hand", "promise", "others", "notes", "begin", "paper"] 9 spLooked := by
  obtain ⟨_, _, G_break_at, m_break_at, b_break_at⟩ := c_break_at.ex
  refine D.cal sc_looked (fun vs H Q E h => ?_) (fun f cdv A outer s H vs Q E hr h => ?_)
  · obtain ⟨vb, vh, vp, vo, vn, vg, vpp, G, c, paper, rfl, _⟩ := h
    rfl
  obtain ⟨vb, vh, vp, vo, vn, vg, vpp, G, c, paper, rfl, hb, hh, hpr, hoth, hnt, hc, hpp, co, cok, po, q⟩ := h
  have hu := r64 hr
  refine ⟨_, (pss_cons (ps_expr (pe_cal c_look_at_paper (hr.mono (by first | exact Nat.le_refl _ | decide | omega)) rfl (pa_cons (pv 0) (pa_cons (pv 1) (pa_cons (pv 6) pa_nil)))))
    (pss_cons (ps_setLc (i := 8) (own := [("some", 7)]) (g := gName 7) rfl sc_looked.nd rfl rfl (sw_true rfl rfl rfl (by decide +kernel)) (pi_listK K (pv 6)) (blkOk_by (own := [("some", 7)]) (N := n_looked) (sc := defScope s_looked) (by decide +kernel)) (fun _ _ _ _ _ => (pg_name (i := 7) sc_looked.nd rfl (Or.inl rfl))) (fun _ _ _ _ _ => pts_nil) (fun _ _ _ _ _ => (pe_cal c_members (hr.mono (by first | exact Nat.le_refl _ | decide | omega)) rfl (pa_cons (pv 7) pa_nil))))
    (pss_cons (ps_for PassesOwn.never rfl (pi_listK K (pe_cal c_stands_of (hr.mono (by first | exact Nat.le_refl _ | decide | omega)) rfl (pa_cons (pv 0) (pa_cons (pv 5) pa_nil)))) (pg_name (i := 9) sc_looked.nd rfl (Or.inl rfl)) (pss_one (ps_if (pt_cmp (pc_nnotinK P w hu (pv 9) (pe_ix (ix_listK K) (pv 8) pe_int (fun _ _ => rfl))) rfl) (pss_one (ps_ret (pe_tup (pa_cons pe_str (pa_cons (pv 9) pa_nil))))) pss_nil)))
    (pss_cons (ps_set (i := 10) sc_looked.nd rfl (Or.inl rfl) (pe_mk c_Look (hr.mono (by first | exact Nat.le_refl _ | decide | omega)) rfl (pa_cons (pv 0) (pa_cons (pv 1) (pa_cons (pv 2) (pa_cons (pv 3) (pa_cons (pv 4) pa_nil)))))))
    (pss_cons (ps_for PassesOwn.never rfl (pi_enumK K rfl T.enumerate (pa_cons (pv 6) pa_nil)) (pg_tupK (n := 2) K rfl (pgs_cons (pg_name (i := 11) sc_looked.nd rfl (Or.inl rfl)) (pgs_cons (pg_name (i := 7) sc_looked.nd rfl (Or.inl rfl)) pgs_nil))) (pss_one (ps_for PassesOwn.never rfl (pi_listK K (pv 7)) (pg_name (i := 9) sc_looked.nd rfl (Or.inl rfl)) (pss_cons (ps_set (i := 12) sc_looked.nd rfl (Or.inl rfl) (pe_meth (pv 10) TL.cl m_break_at G_break_at (hr.mono (by first | exact Nat.le_refl _ | decide | omega)) b_break_at .nil pass0 (pa_cons (pv 8) (pa_cons (pv 11) (pa_cons (pv 9) pa_nil)))))
            (pss_one (ps_if (pt_cmpR op_notN (pv 12) pe_non (nomark _)) (pss_one (ps_ret (pv 12))) pss_nil))))))
    (pss_one (ps_ret pe_non))))))), ?_⟩
  refine ⟨_, rfl, _, rfl, _, rfl, vb, vh, vpp, G, paper, rfl, hb, hh, hpp, co, po, fun H1 s1 => ?_⟩
  obtain ⟨ap, ps, rfl, hap, hps⟩ := id hpp
  have h8 := co.hand.rows
  have hpl := po.len
  refine ⟨_, rfl, ap, rfl, ⟨_, SqL.of (s1 _ _ hap)⟩, lcP walk_list paper (fun _ => true) id (IsMem P w) mem_m hps.length.symm (by rw [hps.length]; omega) (fun H2 s2 => SqL.of (s2 _ _ (s1 _ _ hap))) (fun j ss H2 x H3 F N ha s2 hy hN hF => ?_) (fun al H2 s2 hv2 => ?_)⟩
  · obtain ⟨e1, e2⟩ := hy
    subst e1
    obtain ⟨y, hy1, hy2⟩ := paired_get hps ha
    rw [hy1] at e2
    cases Option.some.inj e2
    refine ⟨rfl, yesT ?_⟩
    refine ⟨_, rfl, _, Stand, IsSt, kSt, ss, rfl, sts_m _ _ _ _ (s1.trans s2) hy2, st_tm.mono, fun H u x h => ?_, by have := po.size ss (List.mem_of_getElem? ha); omega, fun d H4 s4 hd ks => hF _ _ s4 rfl ⟨d, rfl, ks.nw s4 hd⟩⟩
    obtain ⟨b, rfl, _⟩ := id h
    exact ⟨b, rfl, key_st h⟩
  have ef : List.filter (fun _ : List Stand => true) paper = paper := List.filter_eq_self.mpr fun _ _ => rfl
  rw [ef, List.map_id] at hv2
  obtain ⟨al', ls, e2, hal0, hls0⟩ := hv2
  cases e2
  have hal := nw_sub (TK.same s2) _ _ hal0
  have hls := paired_mono mem_m (nw_sub (TK.same s2)) hls0
  have s02 := s1.trans s2
  -- begin
  refine ⟨_, rfl, _, rfl, vb, vg, G.tops, c, rfl, boxes_m _ _ _ _ s02 hb, cd_tm.mono _ _ _ _ s02 hc, co.hand.box, cok, fun v4 H4 s4 hv4 => ?_⟩
  obtain ⟨L, us, rfl, hL0, hL, hus⟩ := lst_new st_tm.mono s4 hv4
  have s04 := s02.trans s4
  refine ⟨L, rfl, ⟨_, SqL.of hL⟩, for_it walk_list
    (fun j σ H5 => ∃ x9, σ = [some vb, some vh, some vp, some vo, some vn, some vg, some (.ref ap), none, some (.ref al), x9, none, none, none] ∧ Same H4 H5 ∧ ∀ s ∈ ((standsF G.tops).filter c.holds).take j, s ∈ paper.getD 0 [])
    ⟨_, rfl, Same.refl _, fun s hs => by simp at hs⟩ (fun i σ H' _ ⟨_, _, s, _⟩ => SqL.of (s _ _ hL)) ?_ ?_⟩
  · rintro j u σ H5'0 H5 hj ⟨x9, rfl, s5, hno⟩ ⟨rfl, hx⟩
    obtain ⟨st, hst, hsu⟩ := paired_getl hus hx
    have s45 := s4.trans s5
    have hsu5 := st_tm.mono _ _ _ _ s5 hsu
    obtain ⟨bu, rfl, hbu⟩ := id hsu5
    obtain ⟨dm, kvs, hdm, dn, hiff⟩ := mem_item (paired_mono mem_m s45 hls) (show 0 < paper.length by omega)
    refine ⟨_, rfl, _, rfl, al, _, _, _, rfl, rfl, SqL.of (s45 _ _ hal), atI_nat (j := 0) hdm, dm, bu, kvs, kSt st, rfl, rfl, dn, key_st hsu5, _, rfl, ?_⟩
    by_cases c1 : st ∈ paper.getD 0 []
    · refine ifF (isSome_dec (hiff st) c1) ⟨_, rfl, s5, fun s hs => ?_⟩
      rcases (mem_take_succ hst).mp hs with z | z
      · exact hno s z
      · rw [z]
        exact c1
    · refine ifT (isSome_dec' (hiff st) c1) ⟨_, rfl, sz_of (show 2 ≤ 100000 by decide), fun t ht => ?_⟩
      have s6 := same_new ht (.tup [.str "begin", .ref bu])
      refine q _ _ ((s04.trans s5).trans s6) (.inl ⟨st, t, _, ?_, rfl, upd_same, st_tm.mono _ _ _ _ s6 hsu5⟩)
      rw [bgF_filter]
      exact find_at hst (by rw [decide_eq_false c1]; rfl) fun x hx => by rw [decide_eq_true (hno x hx)]; rfl
  rintro σ H5 ⟨x9, rfl, s5, hno⟩
  rw [hus.length, take_all] at hno
  have hbg : bgF G.tops c paper = none := by
    rw [bgF_filter, List.find?_eq_none]
    intro s hs
    rw [decide_eq_true (hno s hs)]
    decide
  have s05 := s04.trans s5
  have s25 := s4.trans s5
  -- the look
  refine ⟨_, rfl, _, rfl, _, rfl, _, rfl, _, rfl, fun p dx hp hdx ndp => ?_⟩
  refine ⟨H5, p, dx, vb, vh, vp, vo, vn, G, rfl, (same_new hdx _).trans (same_new (by rw [upd_ne ndp.symm]; exact hp) _), hp, upd_same, boxes_m _ _ _ _ s05 hb, hand_m _ _ _ _ s05 hh, steps_m _ _ _ _ s05 hpr, others_m _ _ _ _ s05 hoth, notes_m _ _ _ _ s05 hnt, co, fun H6 s6 hlk => ⟨rfl, ?_⟩⟩
  have s06 := s05.trans s6
  have s26 := s25.trans s6
  refine ⟨_, rfl, ap, _, rfl, SqL.of (s06 _ _ hap), for_it walk_enum
    (fun i σ H7 => ∃ x7 x9 x11 x12, σ = [some vb, some vh, some vp, some vo, some vn, some vg, some (.ref ap), x7, some (.ref al), x9, some (.ref p), x11, x12] ∧ Same H6 H7 ∧ ∀ x, InP paper x → x.1 < i → ¬ BA G paper x)
    ⟨_, _, _, _, rfl, Same.refl _, fun x _ hx => absurd hx (Nat.not_lt_zero _)⟩ (fun i σ H' _ ⟨_, _, _, _, _, s, _⟩ => SqL.of (s _ _ (s06 _ _ hap))) ?_ ?_⟩
  · rintro i v σ H7'0 H7 hi ⟨x7, x9, x11, x12, rfl, s7, hgood⟩ ⟨t, x, y, rfl, ht, rfl, hx, hy⟩
    cases Option.some.inj hx
    obtain ⟨r, hr', ar, rs, rfl, har, hrs⟩ := paired_getl hps hy
    have hi' := (List.getElem?_eq_some_iff.mp hr').1
    have hrm := List.mem_of_getElem? hr'
    have s8 : Same H6 (upd H7'0 t (.tup [.int (i : Nat), .ref ar])) := s7.trans (same_new ht _)
    have s08 := s06.trans s8
    refine ⟨t, _, rfl, SqT.of upd_same, rfl, _, _, rfl, _, _, rfl, rfl, ?_⟩
    refine ⟨_, rfl, ar, rfl, ⟨_, SqL.of (s08 _ _ har)⟩, for_it walk_list
      (fun j σ H9 => ∃ x9 x12, σ = [some vb, some vh, some vp, some vo, some vn, some vg, some (.ref ap), some (.ref ar), some (.ref al), x9, some (.ref p), some (.int (i : Nat)), x12] ∧ Same H6 H9 ∧ ∀ s ∈ r.take j, ¬ BA G paper (i, s))
      ⟨_, _, rfl, s8, fun s hs => by simp at hs⟩ (fun i σ H' _ ⟨_, _, _, s, _⟩ => SqL.of (s06.trans s _ _ har)) ?_ ?_⟩
    · rintro j u σ H9'0 H9 hj ⟨x9, x12, rfl, s9, hgood2⟩ ⟨rfl, hx⟩
      obtain ⟨st, hst, hsu⟩ := paired_getl hrs hx
      have hval := po.val r hrm st (List.mem_of_getElem? hst)
      have s09 := s06.trans s9
      have s29 := s26.trans s9
      have hlk9 := hlk.same s9
      obtain ⟨dx', vb', vh', vn', pr', ot', os', hp9, _⟩ := id hlk9
      have inst : InP paper (i, st) := by
        show st ∈ paper.getD i []
        rw [getD_some hr']
        exact List.mem_of_getElem? hst
      refine ⟨_, rfl, p, dx', _, rfl, hp9, lk_no (by decide +kernel) (by decide +kernel) (by decide +kernel) (by decide +kernel) (by decide +kernel), _, rfl, _, rfl, _, rfl, p, al, ls, i, u, st, G, paper, rfl, hlk9, s29 _ _ hal, paired_mono mem_m s29 hls, st_tm.mono _ _ _ _ s09 hsu, co, hpl, by omega, hval, fun v1 H10 s10 hv1 => ?_⟩
      rcases hv1 with ⟨rfl, hno1⟩ | ⟨hne, hyes⟩
      · refine ⟨_, rfl, rfl, _, rfl, ifF rfl ⟨_, _, rfl, s9.trans s10, fun s hs => ?_⟩⟩
        rcases (mem_take_succ hst).mp hs with z | z
        · exact hgood2 s z
        · rw [z]
          exact hno1
      · refine ⟨_, rfl, rfl, _, rfl, ifT (by rw [decide_eq_false hne]; rfl) ⟨_, rfl, ?_⟩⟩
        exact q _ _ (s09.trans s10) (.inr ⟨hbg, .inr ⟨hne, fun hf => fits_iff.mp hf (i, st) inst hyes⟩⟩)
    · rintro σ H9 ⟨x9, x12, rfl, s9, hgood2⟩
      rw [hrs.length, take_all] at hgood2
      refine ⟨_, _, _, _, rfl, s9, fun x hx1 hx2 => ?_⟩
      by_cases e : x.1 < i
      · exact hgood x hx1 e
      · have e' : x.1 = i := by omega
        obtain ⟨p1, s1⟩ := x
        simp only at e'
        subst e'
        refine hgood2 s1 ?_
        have hx1' : s1 ∈ paper.getD p1 [] := hx1
        rw [getD_some hr'] at hx1'
        exact hx1'
  · rintro σ H7 ⟨x7, x9, x11, x12, rfl, s7, hgood⟩
    refine q _ _ (s06.trans s7) (.inr ⟨hbg, .inl ⟨rfl, fits_iff.mpr fun x hx => hgood x hx ?_⟩⟩)
    apply Classical.byContradiction
    intro z
    unfold InP at hx
    rw [List.getD_eq_getElem?_getD, List.getElem?_eq_none (by rw [hps.length] at z; omega)] at hx
    simp at hx
end
end Hm
end

section
set_option Elab.async false
set_option linter.all false
set_option maxRecDepth 100000
set_option maxHeartbeats 4000000
/-! The pen: _law_cell, _law_next, _law_boxes, _law_sum, _law_cond, _law_way. -/
namespace Hm
open PySem L2
/-! ### a heap without the pen -/
def mi (p : Addr) (H : Hp) : Hp := fun b => if b = p then none else H b
theorem mi_ne {p b : Addr} {H : Hp} (h : b ≠ p) : mi p H b = H b := if_neg h
theorem mi_some {p b : Addr} {H : Hp} {o : HO} (h : mi p H b = some o) : b ≠ p ∧ H b = some o := by
  unfold mi at h
  split at h
  · cases h
  · rename_i c
    exact ⟨c, h⟩
theorem mi_sub {p : Addr} {H : Hp} : Same (mi p H) H := fun b o h => (mi_some h).2
theorem mi_same {p : Addr} {H H' : Hp} (s : Same H H') : Same (mi p H) (mi p H') := fun b o h => by
  obtain ⟨h1, h2⟩ := mi_some h
  rw [mi_ne h1]
  exact s _ _ h2
/-- the script, tracked (not at the pen), or in the written part -/
def KL (K : PySem.W.Frag) (a : Addr) (xs : List V) : Prop := ∃ (o : Obj) (its : Array Value) (n : Nat), K.lookup a = some o ∧ o.cls = .type "list" ∧ o.dict = none ∧ o.data = .seq its n ∧ its.size ≤ sizeLine ∧ Vals xs its.toList
def ScAt (K : PySem.W.Frag) (H : Hp) (p sc : Addr) (ns : List Int) : Prop := (sc ≠ p ∧ Rd H sc (.lst (ns.map V.int))) ∨ KL K sc (ns.map V.int)
theorem ScAt.sq {K : PySem.W.Frag} {H : Hp} {p sc : Addr} {ns : List Int} (h : ScAt K H p sc ns) : SqL K H sc (ns.map V.int) := h.imp (fun z => z.2) id
theorem rd_fr {H H' : Hp} {p sc : Addr} {u : HO} (k : ∀ b o, b ≠ p → H b = some o → H' b = some o) (n : sc ≠ p) (h : Rd H sc u) : Rd H' sc u := h.imp (fun z => k _ _ n z) fun ⟨o, z⟩ => ⟨o, k _ _ n z⟩
theorem rd_some {H : Hp} {sc : Addr} {u : HO} (h : Rd H sc u) : ∃ o, H sc = some o := by
  rcases h with h | ⟨o, h⟩
  · exact ⟨_, h⟩
  · exact ⟨_, h⟩
theorem ScAt.fr {K : PySem.W.Frag} {H H' : Hp} {p sc : Addr} {ns : List Int} (h : ScAt K H p sc ns) (k : ∀ b o, b ≠ p → H b = some o → H' b = some o) : ScAt K H' p sc ns := h.imp (fun z => ⟨z.1, rd_fr k z.1 z.2⟩) id
theorem ScAt.of {K : PySem.W.Frag} {H : Hp} {p sc : Addr} {ns : List Int} (h : SqL K H sc (ns.map V.int)) (hp : H p = none) : ScAt K H p sc ns := by
  rcases h with h | h
  · refine .inl ⟨fun e => ?_, h⟩
    obtain ⟨o, z⟩ := rd_some h
    rw [e, hp] at z
    cases z
  · exact .inr h
/-- the pen: the script and a count -/
def PenAt (K : PySem.W.Frag) (H : Hp) (p sc : Addr) (N : Nat) : Prop := ∃ (ns : List Int) (n : Nat), H p = some (.lst [.ref sc, .int (n : Int)]) ∧ ScAt K H p sc ns ∧ ns.length ≤ 1000 ∧ n ≤ N
section
variable {K : PySem.W.Frag}
theorem PenAt.same {H H' : Hp} {p sc : Addr} {N : Nat} (h : PenAt K H p sc N) (s : Same H H') : PenAt K H' p sc N := let ⟨ns, n, a, b, d⟩ := h; ⟨ns, n, s _ _ a, b.fr fun c o _ e => s _ _ e, d⟩
theorem PenAt.le {H : Hp} {p sc : Addr} {N M : Nat} (h : PenAt K H p sc N) (l : N ≤ M) : PenAt K H p sc M := let ⟨ns, n, a, b, d, e⟩ := h; ⟨ns, n, a, b, d, Nat.le_trans e l⟩
theorem PenAt.noTup {H : Hp} {p sc : Addr} {N : Nat} (h : PenAt K H p sc N) (xs : List V) : H p ≠ some (.tup xs) := fun e => by
  obtain ⟨ns, n, a, _⟩ := h
  rw [a] at e
  cases e
theorem PenAt.some {H : Hp} {p sc : Addr} {N : Nat} (h : PenAt K H p sc N) : ∃ xs, H p = Option.some (.lst xs) := let ⟨_, _, a, _⟩ := h; ⟨_, a⟩
theorem PenAt.ne {H : Hp} {p sc d : Addr} {N : Nat} (h : PenAt K H p sc N) (hd : H d = none) : d ≠ p := fun e => by
  obtain ⟨xs, a⟩ := h.some
  rw [e, a] at hd
  cases hd
/-- all but the pen is kept -/
structure PenTo (K : PySem.W.Frag) (p sc : Addr) (H H' : Hp) (N : Nat) : Prop where
  fr : ∀ b o, b ≠ p → H b = some o → H' b = some o
  pen : PenAt K H' p sc N
variable {p sc : Addr} {H H1 H2 : Hp} {N N1 N2 : Nat}
theorem PenTo.trans (a : PenTo K p sc H H1 N1) (b : PenTo K p sc H1 H2 N2) : PenTo K p sc H H2 N2 := ⟨fun c o n e => b.fr c o n (a.fr c o n e), b.pen⟩
theorem PenTo.same (a : PenTo K p sc H H1 N1) (s : Same H1 H2) : PenTo K p sc H H2 N1 := ⟨fun c o n e => s _ _ (a.fr c o n e), a.pen.same s⟩
theorem PenTo.of (h : PenAt K H p sc N) (s : Same H H1) : PenTo K p sc H H1 N := ⟨fun c o _ e => s _ _ e, h.same s⟩
theorem PenTo.le (a : PenTo K p sc H H1 N1) (l : N1 ≤ N2) : PenTo K p sc H H1 N2 := ⟨a.fr, a.pen.le l⟩
theorem PenTo.mi (a : PenTo K p sc H H1 N1) : Same (mi p H) (mi p H1) := fun b o h => by
  obtain ⟨h1, h2⟩ := mi_some h
  rw [mi_ne h1]
  exact a.fr _ _ h1 h2
theorem PenTo.tk (h : PenAt K H p sc N) (a : PenTo K p sc H H1 N1) : TK H H1 := fun b xs e => a.fr _ _ (fun z => h.noTup xs (by rw [← z]; exact e)) e
/-- what is new there stands without the pen -/
theorem nw_mi (h : PenAt K H p sc N) (t : TK H H1) : Same (nw H H1) (mi p H1) := fun b o e => by
  obtain ⟨xs, a⟩ := h.some
  have nb : b ≠ p := fun z => by
    rcases nw_cases e with ⟨ys, e1, _⟩ | ⟨e1, _⟩
    · rw [z, a] at e1
      cases e1
    · rw [z, a] at e1
      cases e1
  rw [mi_ne nb]
  exact nw_sub t _ _ e
theorem nw_tkP (a : PenTo K p sc H H1 N1) : TK H1 (nw H H1) := fun b xs e => by
  cases q : H b with
  | none => rw [nw_none q]; exact e
  | some u =>
    by_cases nb : b = p
    · exact absurd e (by rw [nb]; exact a.pen.noTup xs)
    · have z := a.fr _ _ nb q
      rw [e] at z
      rw [← Option.some.inj z] at q
      exact nw_tup q
/-- another, new object is written -/
theorem PenTo.put {d : Addr} {o : HO} (h : PenAt K H p sc N) (a : PenTo K p sc H H1 N1) (hd : H d = none) : PenTo K p sc H (upd H1 d o) N1 := by
  have ndp := h.ne hd
  refine ⟨fun c o n e => ?_, ?_⟩
  · rw [upd_ne (fun z => by rw [z, hd] at e; cases e)]
    exact a.fr _ _ n e
  · obtain ⟨ns, n, h1, _, _, h4⟩ := a.pen
    obtain ⟨ns0, n0, _, s0, l0, _⟩ := h
    refine ⟨ns0, n, by rw [upd_ne ndp.symm]; exact h1, ?_, l0, h4⟩
    rcases s0 with ⟨z1, z2⟩ | z
    · refine .inl ⟨z1, ?_⟩
      obtain ⟨o', z3⟩ := rd_some z2
      have nsd : sc ≠ d := fun e => by rw [e, hd] at z3; cases z3
      refine rd_fr (p := d) (fun b o n e => ?_) nsd (rd_fr a.fr z1 z2)
      rw [upd_ne n]
      exact e
    · exact .inr z
end

section
variable {P : Program} {w : World} {K : PySem.W.Frag} {mg : Str → Option Value} {base : Heap}
/-! ### _law_cell -/
abbrev s_law_cell : Stmt := top 27
abbrev n_law_cell : List Str := ["_law_script", "_law_k", "_law_base"]
theorem sc_law_cell : FnScope n_law_cell ["_law_script", "_law_k"] (defScope s_law_cell) := ⟨rfl, rfl, rfl, by decide +kernel, rfl, by decide +kernel, by decide +kernel⟩
def spCell (K : PySem.W.Frag) : Sp := fun vs H Q _ => ∃ sc, ∃ ns : List Int, ∃ k : Nat, vs = [.ref sc, .int (k : Int)] ∧ SqL K H sc (ns.map V.int) ∧ k ≤ 1000000000 ∧ ∀ i : Int, Q (.int i) H
theorem ok_law_cell (D : Def K mg "_law_cell" s_law_cell ["_law_script", "_law_k"]) (T : Txt K mg) : Cal P w K mg base "_law_cell" ["_law_script", "_law_k"] 1 (spCell K) := by
  refine D.cal sc_law_cell (fun vs H Q E h => ?_) (fun f cdv A outer s H vs Q E hr h => ?_)
  · obtain ⟨sc, ns, k, rfl, _⟩ := h
    rfl
  obtain ⟨sc, ns, k, rfl, hsc, hk, q⟩ := h
  refine ⟨_, (pss_cons (ps_if (pt_cmpR op_lt (pv 1) (pe_callB (call_lenK K) (by rfl) T.len PySem.boot_len (pa_cons (pv 0) pa_nil)) (nomark _)) (pss_one (ps_ret (pe_ix (ix_listK K) (pv 0) (pv 1) (fun _ _ => rfl)))) pss_nil)
    (pss_cons (ps_set (i := 2) sc_law_cell.nd rfl (Or.inl rfl) pe_int)
    (pss_cons (ps_if (pt_cmpR op_gt (pe_callB (call_lenK K) (by rfl) T.len PySem.boot_len (pa_cons (pv 0) pa_nil)) pe_int (nomark _)) (pss_one (ps_set (i := 2) sc_law_cell.nd rfl (Or.inl rfl) (pe_ix (ix_listK K) (pv 0) (pe_op op_mod (pe_op op_add (pe_op op_mul (pv 1) pe_int) pe_int) (pe_callB (call_lenK K) (by rfl) T.len PySem.boot_len (pa_cons (pv 0) pa_nil))) (fun _ _ => rfl)))) pss_nil)
    (pss_one (ps_ret (pe_op op_add (pe_op op_add (pe_op op_add (pe_op op_mul (pv 2) pe_int) (pe_op op_mul (pe_op op_mul (pv 1) (pv 1)) pe_int)) (pe_op op_mul pe_int (pv 1))) pe_int)))))), ?_⟩
  have item : ∀ j : Nat, j < ns.length → ∃ x, (ns.map V.int)[j]? = some (V.int x) := fun j hj => ⟨ns[j], by rw [List.getElem?_map, List.getElem?_eq_getElem hj]; rfl⟩
  have fin : ∀ b : Int, ∀ Qx : VK, (∀ i : Int, Qx (.int i) H) → Qx (.int (b * 31 + (k : Int) * (k : Int) * 7919 + 101 * (k : Int) + 17)) H := fun b Qx h => h _
  refine ⟨_, rfl, _, rfl, sc, _, rfl, .inl (hsc), _, _, rfl, rfl, _, rfl, ?_⟩
  rw [List.length_map]
  by_cases c : k < ns.length
  · refine ifT (decide_eq_true (by omega)) ?_
    obtain ⟨x, hx⟩ := item k c
    exact ⟨_, rfl, _, rfl, sc, _, _, _, rfl, rfl, hsc, atI_nat hx, q _⟩
  · refine ifF (decide_eq_false (by omega)) ?_
    refine ⟨_, rfl, sc, _, rfl, .inl (hsc), _, _, rfl, rfl, _, rfl, ?_⟩
    rw [List.length_map]
    by_cases c2 : 0 < ns.length
    · refine ifT (decide_eq_true (by omega)) ?_
      have hj : (k * 7 + 3) % ns.length < ns.length := Nat.mod_lt _ c2
      obtain ⟨x, hx⟩ := item _ hj
      have e : ((k : Int) * 7 + 3) % (ns.length : Int) = (((k * 7 + 3) % ns.length : Nat) : Int) := by
        rw [Int.natCast_emod]
        congr 1
      refine ⟨_, rfl, _, rfl, _, _, rfl, rfl, .inr (by decide), _, _, rfl, rfl, _, rfl, sc, _, rfl, .inl (hsc), _, _, rfl, rfl, by rw [List.length_map]; omega, sc, _, _, _, rfl, rfl, hsc, by rw [List.length_map, e]; exact atI_nat hx, ?_⟩
      exact ⟨_, rfl, _, _, rfl, rfl, .inr (by decide), _, rfl, _, rfl, _, _, rfl, rfl, .inl (by constructor <;> omega), _, _, rfl, rfl, .inr (by decide), _, _, rfl, rfl, _, rfl, _, _, rfl, rfl, .inl (by decide), _, _, rfl, rfl, _, _, rfl, rfl, q _⟩
    · refine ifF (decide_eq_false (by omega)) ?_
      exact ⟨_, rfl, _, _, rfl, rfl, .inr (by decide), _, rfl, _, rfl, _, _, rfl, rfl, .inl (by constructor <;> omega), _, _, rfl, rfl, .inr (by decide), _, _, rfl, rfl, _, rfl, _, _, rfl, rfl, .inl (by decide), _, _, rfl, rfl, _, _, rfl, rfl, q _⟩
/-! ### _law_next -/
abbrev s_law_next : Stmt := top 28
abbrev n_law_next : List Str := ["_law_pen", "_law_many", "_law_cell_here"]
theorem sc_law_next : FnScope n_law_next ["_law_pen", "_law_many"] (defScope s_law_next) := ⟨rfl, rfl, rfl, by decide +kernel, rfl, by decide +kernel, by decide +kernel⟩
def spNext (K : PySem.W.Frag) : Sp := fun vs H Q _ => ∃ p sc many N, vs = [.ref p, .int many] ∧ PenAt K H p sc N ∧ N ≤ 100000000 ∧ 0 < many ∧ ∀ (r : Nat) H', (r : Int) < many → PenTo K p sc H H' (N + 1) → Q (.int (r : Int)) H'
theorem ok_law_next (D : Def K mg "_law_next" s_law_next ["_law_pen", "_law_many"]) (T : Txt K mg) (c_law_cell : Cal P w K mg base "_law_cell" ["_law_script", "_law_k"] 1 (spCell K)) : Cal P w K mg base "_law_next" ["_law_pen", "_law_many"] 2 (spNext K) := by
  refine D.cal sc_law_next (fun vs H Q E h => ?_) (fun f cdv A outer s H vs Q E hr h => ?_)
  · obtain ⟨p, sc, many, N, rfl, _⟩ := h
    rfl
  obtain ⟨p, sc, many, N, rfl, ⟨ns, n, hp, hsc, hns, hnN⟩, hN, hm, q⟩ := h
  refine ⟨_, (pss_cons (ps_set (i := 2) sc_law_next.nd rfl (Or.inl rfl) (pe_op op_mod (pe_cal c_law_cell (hr.mono (by first | exact Nat.le_refl _ | decide | omega)) rfl (pa_cons (pe_ix (ix_listK K) (pv 0) pe_int (fun _ _ => rfl)) (pa_cons (pe_ix (ix_listK K) (pv 0) pe_int (fun _ _ => rfl)) pa_nil))) pe_int))
    (pss_cons (ps_asg (pe_op op_add (pe_ix (ix_listK K) (pv 0) pe_int (fun _ _ => rfl)) pe_int) (pg_sub (pv 0) pe_int set_list))
    (pss_one (ps_ret (pe_op op_mod (pe_op op_fdiv (pe_op op_mod (pe_op op_mul (pe_op op_add (pv 2) (pe_op op_mul pe_int (pe_ix (ix_listK K) (pv 0) pe_int (fun _ _ => rfl)))) pe_int) pe_int) pe_int) (pv 1)))))), ?_⟩
  refine ⟨_, rfl, p, _, _, _, rfl, rfl, SqL.of hp, atI_nat (j := 0) rfl, _, rfl, p, _, _, _, rfl, rfl, SqL.of hp, atI_nat (j := 1) rfl, sc, ns, n, rfl, hsc.sq, by omega, fun i => ?_⟩
  refine ⟨_, _, rfl, rfl, (by show (0 : Int) < 4294967291; decide), ?_⟩
  refine ⟨_, rfl, p, _, _, _, rfl, rfl, SqL.of hp, atI_nat (j := 1) rfl, _, _, rfl, rfl, _, rfl, p, _, _, 1, rfl, rfl, hp, ixN_nat (k := 1) (by show 1 < 2; decide), ?_⟩
  have hp2 : upd H p (.lst ([V.ref sc, .int (n : Int)].set 1 (.int ((n : Int) + 1)))) p = some (.lst [V.ref sc, .int ((n + 1 : Nat) : Int)]) := upd_same
  refine ⟨_, rfl, _, rfl, p, _, _, _, rfl, rfl, SqL.of hp2, atI_nat (j := 1) rfl, _, _, rfl, rfl, .inl (by decide), _, _, rfl, rfl, _, _, rfl, rfl, .inr (by decide), _, _, rfl, rfl, (by show (0 : Int) < 2147483647; decide), _, _, rfl, rfl, ⟨by decide, by decide⟩, _, rfl, _, _, rfl, rfl, hm, ?_⟩
  obtain ⟨r, hr1, hr2⟩ : ∃ r : Nat, ((i % 4294967291 + 13 * ((n + 1 : Nat) : Int)) * 48271 % 2147483647 / 3 % many) = (r : Int) ∧ (r : Int) < many := by
    refine ⟨((i % 4294967291 + 13 * ((n + 1 : Nat) : Int)) * 48271 % 2147483647 / 3 % many).toNat, ?_, ?_⟩
    · rw [Int.toNat_of_nonneg (Int.emod_nonneg _ (by omega))]
    · rw [Int.toNat_of_nonneg (Int.emod_nonneg _ (by omega))]
      exact Int.emod_lt_of_pos _ hm
  show Q (.int ((i % 4294967291 + 13 * ((n + 1 : Nat) : Int)) * 48271 % 2147483647 / 3 % many)) _
  rw [hr1]
  refine q r _ hr2 ⟨fun b o nb e => by rw [upd_ne nb]; exact e, ns, n + 1, hp2, hsc.fr (fun b o nb e => by rw [upd_ne nb]; exact e), hns, by omega⟩
/-! ### _law_boxes -/
abbrev s_law_boxes : Stmt := top 29
abbrev n_law_boxes : List Str := ["_law_pen", "_law_most", "_law_boxes_here", "_law_room", "_law_k", "_law_top", "_law_letter"]
theorem sc_law_boxes : FnScope n_law_boxes ["_law_pen", "_law_most"] (defScope s_law_boxes) := ⟨rfl, rfl, rfl, by decide +kernel, rfl, by decide +kernel, by decide +kernel⟩
theorem room_app (tops : List Int) (t : Int) : room (tops ++ [t]) = room tops * (t + 1).toNat := by
  unfold room
  rw [List.foldl_append]
  rfl
def spBoxes (K : PySem.W.Frag) : Sp := fun vs H Q _ => ∃ p sc N, vs = [.ref p, .int 12] ∧ PenAt K H p sc N ∧ N ≤ 1000000 ∧ ∀ v H' tops, PenTo K p sc H H' (N + 100) → BoxOk tops → IsBoxes (nw H H') v tops → Q v H'
theorem ok_law_boxes (D : Def K mg "_law_boxes" s_law_boxes ["_law_pen", "_law_most"]) (T : Txt K mg) (c_law_next : Cal P w K mg base "_law_next" ["_law_pen", "_law_many"] 2 (spNext K)) : Cal P w K mg base "_law_boxes" ["_law_pen", "_law_most"] 3 (spBoxes K) := by
  refine D.cal sc_law_boxes (fun vs H Q E h => ?_) (fun f cdv A outer s H vs Q E hr h => ?_)
  · obtain ⟨p, sc, N, rfl, _⟩ := h
    rfl
  obtain ⟨p, sc, N, rfl, hp, hN, q⟩ := h
  refine ⟨_, (pss_cons (ps_set (i := 2) sc_law_boxes.nd rfl (Or.inl rfl) (pe_lst pa_nil))
    (pss_cons (ps_set (i := 3) sc_law_boxes.nd rfl (Or.inl rfl) (pv 1))
    (pss_cons (ps_for PassesOwn.never rfl (pi_range1 rfl T.range (pa_cons (pe_op op_add pe_int (pe_cal c_law_next (hr.mono (by first | exact Nat.le_refl _ | decide | omega)) rfl (pa_cons (pv 0) (pa_cons pe_int pa_nil)))) pa_nil)) (pg_name (i := 4) sc_law_boxes.nd rfl (Or.inl rfl)) (pss_cons (ps_set (i := 5) sc_law_boxes.nd rfl (Or.inl rfl) (pe_op op_add pe_int (pe_cal c_law_next (hr.mono (by first | exact Nat.le_refl _ | decide | omega)) rfl (pa_cons (pv 0) (pa_cons (pe_ix (ix_listK K) (pe_lst (pa_cons pe_int (pa_cons pe_int (pa_cons pe_int pa_nil)))) (pe_cal c_law_next (hr.mono (by first | exact Nat.le_refl _ | decide | omega)) rfl (pa_cons (pv 0) (pa_cons pe_int pa_nil))) (fun _ _ => rfl)) pa_nil)))))
        (pss_cons (ps_set (i := 6) sc_law_boxes.nd rfl (Or.inl rfl) (pe_ix ix_str pe_str (pv 4) (fun _ _ => rfl)))
        (pss_one (ps_if (pt_cmpR op_gt (pv 3) pe_int (nomark _)) (pss_cons (ps_expr (pe_bm PySem.F.plainAttrs_list PySem.F.slot_list_append PySem.F.type_list_append mt_append (pv 2) (pa_cons (pe_tup (pa_cons (pe_op op_repS (pv 6) (pe_op op_add pe_int (pe_cal c_law_next (hr.mono (by first | exact Nat.le_refl _ | decide | omega)) rfl (pa_cons (pv 0) (pa_cons pe_int pa_nil))))) (pa_cons (pe_callB (call_min2 rfl) (by rfl) T.min (by decide +kernel) (pa_cons (pv 5) (pa_cons (pe_op op_sub (pv 3) pe_int) pa_nil))) pa_nil))) pa_nil)))
            (pss_one (ps_set (i := 3) sc_law_boxes.nd rfl (Or.inl rfl) (pe_op op_fdivN (pv 3) (pe_op op_add pe_int (pe_callB (call_min2 rfl) (by rfl) T.min (by decide +kernel) (pa_cons (pv 5) (pa_cons (pe_op op_sub (pv 3) pe_int) pa_nil)))))))) pss_nil)))))
    (pss_one (ps_ret (pv 2)))))), ?_⟩
  refine ⟨Nat.zero_le _, fun d hd => ?_⟩
  have ndp := hp.ne hd
  have s0 : Same H (upd H d (.lst [])) := same_new hd _
  refine ⟨_, rfl, ?_⟩
  refine ⟨_, rfl, p, sc, _, N, rfl, hp.same s0, by omega, by decide, fun m H1 hm p1 => ?_⟩
  have p01 : PenTo K p sc H H1 (N + 1) := (PenTo.of hp s0).trans p1
  refine ⟨_, _, rfl, rfl, _, rfl, by omega, by omega, for_it walk_range
    (fun i σ H' => ∃ (R : Nat) (tops : List Int) (ys : List V), ∃ x4 x5 x6, σ = [some (.ref p), some (.int 12), some (.ref d), some (.int (R : Int)), x4, x5, x6] ∧ PenTo K p sc H H' (N + 1 + 3 * i) ∧ H' d = some (.lst ys) ∧ Paired (IsBox H') ys tops ∧ tops.length ≤ i ∧ (tops = [] → R = 12 ∧ i = 0) ∧
      (∀ t ∈ tops, 1 ≤ t ∧ t ≤ 7) ∧ 1 ≤ R ∧ room tops * R ≤ 12)
    ⟨12, [], [], _, _, _, rfl, p01, p1.fr _ _ ndp upd_same, .nil, Nat.le_refl _, fun _ => ⟨rfl, rfl⟩, fun t ht => absurd ht List.not_mem_nil, by decide, by decide⟩ (fun _ _ _ _ _ => True.intro) ?_ ?_⟩
  · rintro i v σ H'0 H' hi ⟨R, tops, ys, x4, x5, x6, rfl, pt, hys, hbx, hlen, hne, htops, hR, hroom⟩ ⟨rfl, hv⟩
    have hv' : v = .int (i : Int) := hv.trans (by show V.int (0 + (i : Int)) = _; rw [Int.zero_add])
    subst hv'
    have hi4 : i < 4 := by omega
    have hpH := pt.pen
    refine ⟨_, rfl, sz_of (show 3 ≤ 100000 by decide), fun l hl => ⟨_, rfl, p, sc, _, _, rfl, hpH.same (same_new hl _), by omega, by decide, fun r2 H3 hr2 p3 => ?_⟩⟩
    have nlp := hpH.ne hl
    have hl3 := p3.fr _ _ nlp upd_same
    obtain ⟨mx, hmx, hm1, hm2⟩ : ∃ mx : Int, [V.int 2, V.int 3, V.int 7][r2]? = some (V.int mx) ∧ 0 < mx ∧ mx ≤ 7 := by
      have h3 : r2 < 3 := by omega
      match r2, h3 with
      | 0, _ => exact ⟨2, rfl, by decide, by decide⟩
      | 1, _ => exact ⟨3, rfl, by decide, by decide⟩
      | 2, _ => exact ⟨7, rfl, by decide, by decide⟩
      | (n + 3), h => omega
    have pt3 : PenTo K p sc H H3 (N + 1 + 3 * i + 1) := (pt.same (same_new hl _)).trans p3
    refine ⟨l, _, _, _, rfl, rfl, SqL.of hl3, atI_nat hmx, p, sc, _, _, rfl, p3.pen, by omega, hm1, fun r4 H4 hr4 p4 => ?_⟩
    have pt4 := pt3.trans p4
    have nd4 : d ≠ p := ndp
    have ndl : d ≠ l := ne_of_none hys hl
    have hys4 : H4 d = some (.lst ys) := p4.fr _ _ ndp (p3.fr _ _ ndp (by rw [upd_ne ndl]; exact hys))
    have tk4 : TK H' H4 := ((TK.same (same_new hl _)).trans (p3.tk (hpH.same (same_new hl _)))).trans (p4.tk p3.pen)
    refine ⟨_, _, rfl, rfl, ?_⟩
    obtain ⟨ch, hch⟩ : ∃ ch, ("kxmbz" : Str).cps.toList[i]? = some ch := ⟨_, List.getElem?_eq_getElem (Nat.lt_of_lt_of_le hi4 (by decide +kernel))⟩
    refine ⟨_, rfl, _, _, _, rfl, rfl, by decide +kernel, atI_nat hch, ?_⟩
    refine ⟨_, rfl, _, _, rfl, rfl, _, rfl, ?_⟩
    by_cases c : 1 < R
    case neg =>
      refine ifF (decide_eq_false (by omega)) ⟨R, tops, ys, _, _, _, rfl, pt4.le (by omega), hys4, paired_tmono box_tm tk4 hbx, by omega, fun e => ?_, htops, hR, hroom⟩
      have := (hne e).1
      omega
    refine ifT (decide_eq_true (by omega)) ?_
    refine ⟨_, rfl, .inl ⟨rfl, _, SqL.of hys4⟩, _, rfl, _, rfl, p, sc, _, _, rfl, p4.pen, by omega, by decide, fun r5 H5 hr5 p5 => ?_⟩
    have pt5 := pt4.trans p5
    have hys5 := p5.fr _ _ ndp hys4
    have tk5 := tk4.trans (p5.tk p4.pen)
    refine ⟨_, _, rfl, rfl, _, _, rfl, rfl, by omega, by omega, by show 1 ≤ 1000; decide, _, rfl, _, rfl, _, _, rfl, rfl, _, _, rfl, sz_of (show 2 ≤ 100000 by decide), fun t6 ht6 => ?_⟩
    obtain ⟨t, et, ht1, ht2, ht3⟩ : ∃ t : Int, (if (R : Int) - 1 < 1 + (r4 : Int) then (R : Int) - 1 else 1 + (r4 : Int)) = t ∧ 1 ≤ t ∧ t ≤ 7 ∧ t + 1 ≤ R := by
      refine ⟨_, rfl, ?_⟩
      split <;> omega
    have s6 := same_new ht6 (.tup [.str (Txt.mul ⟨#[ch]⟩ (1 + (r5 : Int))), .int t])
    rw [et]
    have hys6 := s6 _ _ hys5
    refine ⟨d, ys, _, rfl, rfl, hys6, sz_lt (by rw [hbx.length]; omega), ?_⟩
    refine ⟨_, rfl, _, rfl, _, rfl, _, _, rfl, rfl, _, _, rfl, _, _, rfl, rfl, _, _, rfl, rfl, ?_, ?_⟩
    · rw [et]
      constructor <;> omega
    rw [et]
    have ed : (R : Int).fdiv (1 + t) = ((R / (t + 1).toNat : Nat) : Int) := by
      rw [Int.fdiv_eq_ediv_of_nonneg _ (by omega), Int.natCast_ediv, Int.toNat_of_nonneg (by omega), Int.add_comm]
    have hle : (t + 1).toNat ≤ R := by omega
    have htk : TK H' (upd (upd H5 t6 (.tup [.str (Txt.mul ⟨#[ch]⟩ (1 + (r5 : Int))), .int t])) d (.lst (ys ++ [.ref t6]))) := (tk5.trans (TK.same s6)).trans (TK.upd fun xs z => by rw [hys6] at z; cases z)
    refine ⟨R / (t + 1).toNat, tops ++ [t], ys ++ [.ref t6], _, _, _, by rw [← ed]; rfl, ?_, upd_same, paired_app (paired_tmono box_tm htk hbx) (.cons ⟨t6, Txt.mul ⟨#[ch]⟩ (1 + (r5 : Int)), rfl, ?_⟩ .nil), by rw [List.length_append, List.length_singleton]; omega, fun e => by simp at e, fun u hu => ?_, ?_, ?_⟩
    · exact ((PenTo.put hp (pt5.same s6) hd).le (by omega))
    · rw [upd_ne (fun z => by rw [z, hys5] at ht6; cases ht6)]
      exact upd_same
    · rcases List.mem_append.mp hu with z | z
      · exact htops u z
      · rw [List.mem_singleton.mp z]
        exact ⟨ht1, ht2⟩
    · exact Nat.div_pos hle (by omega)
    · rw [room_app, Nat.mul_assoc]
      exact Nat.le_trans (Nat.mul_le_mul_left _ (Nat.mul_div_le _ _)) hroom
  · rintro σ H' ⟨R, tops, ys, x4, x5, x6, rfl, pt, hys, hbx, hlen, hne, htops, hR, hroom⟩
    refine ⟨_, rfl, q _ _ tops (pt.le (by omega)) ⟨fun e => ?_, by omega, htops, ?_⟩ ⟨d, ys, rfl, by rw [nw_none hd]; exact hys, paired_tmono box_tm (nw_tkP pt) hbx⟩⟩
    · have := (hne e).2
      omega
    · exact Nat.le_trans (Nat.le_mul_of_pos_right _ hR) hroom
/-! ### _law_sum -/
abbrev s_law_sum : Stmt := top 30
abbrev n_law_sum : List Str := ["_law_pen", "_law_boxes_here", "_law_deep", "_law_way_here"]
theorem sc_law_sum : FnScope n_law_sum ["_law_pen", "_law_boxes_here", "_law_deep"] (defScope s_law_sum) := ⟨rfl, rfl, rfl, by decide +kernel, rfl, by decide +kernel, by decide +kernel⟩
theorem pick2 {r : Nat} {x y : V} (h : r < 2) : [x, y][r]? = some (if r = 0 then x else y) := by
  match r, h with
  | 0, _ => rfl
  | 1, _ => rfl
def spSum (K : PySem.W.Frag) (n c : Nat) : Sp := fun vs H Q _ => ∃ p sc vb d N tops, vs = [.ref p, vb, .int ((d : Nat) : Int)] ∧ PenAt K H p sc N ∧ N + 1000 * n ≤ 20000000 ∧ IsBoxes (mi p H) vb tops ∧ BoxOk tops ∧ d < n ∧ ∀ v H' e, PenTo K p sc H H' (N + c) → IsSm H' v e → e.wf tops.length → e.dep ≤ d → Q v H'
theorem ok_law_sum {n c c' : Nat} (hc3 : 3 ≤ c') (hcc : 1 + 2 * c ≤ c') (hc1 : c ≤ 100) (D : Def K mg "_law_sum" s_law_sum ["_law_pen", "_law_boxes_here", "_law_deep"]) (T : Txt K mg) (c_law_next : Cal P w K mg base "_law_next" ["_law_pen", "_law_many"] 2 (spNext K)) (c_law_sum : Cal P w K mg base "_law_sum" ["_law_pen", "_law_boxes_here", "_law_deep"] (n + 2) (spSum K n c)) :
    Cal P w K mg base "_law_sum" ["_law_pen", "_law_boxes_here", "_law_deep"] (n + 3) (spSum K (n + 1) c') := by
  refine D.cal sc_law_sum (fun vs H Q E h => ?_) (fun f cdv A outer s H vs Q E hr h => ?_)
  · obtain ⟨p, sc, vb, d, N, tops, rfl, _⟩ := h
    rfl
  obtain ⟨p, sc, vb, d, N, tops, rfl, hp, hN, hb, bo, hd, q⟩ := h
  refine ⟨_, (pss_cons (ps_set (i := 3) sc_law_sum.nd rfl (Or.inl rfl) (pe_cal c_law_next (hr.mono (by first | exact Nat.le_refl _ | decide | omega)) rfl (pa_cons (pv 0) (pa_cons pe_int pa_nil))))
    (pss_cons (ps_if (PW.pt (pw_or (pt_cmpR op_eq (pv 2) pe_int (nomark _)) (pw_or1 (pt_cmpR op_lt (pv 3) pe_int (nomark _))))) (pss_cons (ps_if (pt_cmpR op_eq (pe_op op_mod (pv 3) pe_int) pe_int (nomark _)) (pss_one (ps_ret (pe_tup (pa_cons pe_str (pa_cons (pe_cal c_law_next (hr.mono (by first | exact Nat.le_refl _ | decide | omega)) rfl (pa_cons (pv 0) (pa_cons (pe_callB (call_lenK K) (by rfl) T.len PySem.boot_len (pa_cons (pv 1) pa_nil)) pa_nil))) pa_nil))))) pss_nil)
        (pss_one (ps_ret (pe_tup (pa_cons pe_str (pa_cons (pe_cal c_law_next (hr.mono (by first | exact Nat.le_refl _ | decide | omega)) rfl (pa_cons (pv 0) (pa_cons (pe_ix (ix_listK K) (pe_lst (pa_cons pe_int (pa_cons pe_int (pa_cons pe_int (pa_cons pe_int pa_nil))))) (pe_cal c_law_next (hr.mono (by first | exact Nat.le_refl _ | decide | omega)) rfl (pa_cons (pv 0) (pa_cons pe_int pa_nil))) (fun _ _ => rfl)) pa_nil))) pa_nil)))))) pss_nil)
    (pss_one (ps_ret (pe_tup (pa_cons (pe_ix (ix_listK K) (pe_lst (pa_cons pe_str (pa_cons pe_str pa_nil))) (pe_op op_mod (pv 3) pe_int) (fun _ _ => rfl)) (pa_cons (pe_cal c_law_sum (hr.mono (by first | exact Nat.le_refl _ | decide | omega)) rfl (pa_cons (pv 0) (pa_cons (pv 1) (pa_cons (pe_op op_sub (pv 2) pe_int) pa_nil)))) (pa_cons (pe_cal c_law_sum (hr.mono (by first | exact Nat.le_refl _ | decide | omega)) rfl (pa_cons (pv 0) (pa_cons (pv 1) (pa_cons (pe_op op_sub (pv 2) pe_int) pa_nil)))) pa_nil)))))))), ?_⟩
  obtain ⟨ba, bs, rfl, hba, hbs⟩ := id hb
  refine ⟨_, rfl, p, sc, _, N, rfl, hp, by omega, by decide, fun r H1 hr1 p1 => ?_⟩
  have hba1 := p1.mi _ _ hba
  have hbl : 1 ≤ tops.length := by
    have := bo.ne
    cases tops with
    | nil => exact absurd rfl this
    | cons a b => rw [List.length_cons]; omega
  have h2 : d = 0 ∨ (d ≠ 0 ∧ r < 3) ∨ (d ≠ 0 ∧ ¬ r < 3) := by omega
  rcases h2 with c0 | c0 | c0
  case' inl => refine ⟨_, rfl, rfl, _, rfl, ifT (by rw [dInt]; exact decide_eq_true (by omega)) (ifT rfl ?_)⟩
  case' inr.inl => refine ⟨_, rfl, rfl, _, rfl, ifF (by rw [dInt]; exact decide_eq_false (by omega)) ⟨_, rfl, _, _, rfl, rfl, _, rfl, ifT (decide_eq_true (by omega)) ?_⟩⟩
  case' inr.inr => refine ⟨_, rfl, rfl, _, rfl, ifF (by rw [dInt]; exact decide_eq_false (by omega)) ⟨_, rfl, _, _, rfl, rfl, _, rfl, ifF (decide_eq_false (by omega)) ?_⟩⟩
  case inr.inr =>
    refine ⟨sz_of (show 2 ≤ 100000 by decide), fun l hl => ?_⟩
    have s2 := same_new hl (.lst [.str "plus", .str "minus"])
    have em : (r : Int) % 2 = ((r % 2 : Nat) : Int) := by omega
    have ed : (d : Int) - 1 = ((d - 1 : Nat) : Int) := by omega
    refine ⟨_, rfl, _, _, rfl, rfl, (by show (0 : Int) < 2; decide), l, _, _, _, rfl, rfl, SqL.of upd_same, (by rw [em]; exact atI_nat (pick2 (Nat.mod_lt _ (by decide)))), ?_⟩
    have pt2 := p1.same s2
    refine ⟨_, rfl, _, rfl, _, rfl, _, _, rfl, rfl, p, sc, .ref ba, d - 1, _, tops, by rw [← ed]; rfl, pt2.pen, by omega, boxes_m _ _ _ _ pt2.mi hb, bo, by omega, fun v3 H3 e3 p3 h3 w3 d3 => ?_⟩
    have pt3 := pt2.trans p3
    refine ⟨_, rfl, _, rfl, _, rfl, _, _, rfl, rfl, p, sc, .ref ba, d - 1, _, tops, by rw [← ed]; rfl, pt3.pen, by omega, boxes_m _ _ _ _ pt3.mi hb, bo, by omega, fun v4 H4 e4 p4 h4 w4 d4 => ?_⟩
    have pt4 := pt3.trans p4
    refine ⟨sz_of (show 3 ≤ 100000 by decide), fun t ht => ?_⟩
    have s5 := same_new ht (.tup [if r % 2 = 0 then .str "plus" else .str "minus", v3, v4])
    have h3' := sm_tm _ _ _ _ ((p4.tk p3.pen).trans (TK.same s5)) h3
    have h4' := sm_tm _ _ _ _ (TK.same s5) h4
    have pt5 : PenTo K p sc H (upd H4 t (.tup [if r % 2 = 0 then .str "plus" else .str "minus", v3, v4])) (N + c') := (pt4.same s5).le (by omega)
    by_cases z : r % 2 = 0
    · rw [if_pos z] at pt5 h3' h4' ⊢
      exact q _ _ (.plus e3 e4) pt5 (.plus upd_same h3' h4') ⟨w3, w4⟩ (by show max e3.dep e4.dep + 1 ≤ d; omega)
    · rw [if_neg z] at pt5 h3' h4' ⊢
      exact q _ _ (.minus e3 e4) pt5 (.minus upd_same h3' h4') ⟨w3, w4⟩ (by show max e3.dep e4.dep + 1 ≤ d; omega)
  all_goals
    refine ⟨_, rfl, _, _, rfl, rfl, (by show (0 : Int) < 2; decide), rfl, _, rfl, ?_⟩
    refine ite2 (fun _ => ?_) (fun _ => ?_)
    · refine ⟨_, rfl, _, rfl, ba, _, rfl, .inl (SqL.of (mi_some hba1).2), p, sc, _, _, rfl, p1.pen, by omega, by rw [hbs.length]; omega, fun r2 H2 hr2 p2 => ⟨sz_of (show 2 ≤ 100000 by decide), fun t ht => ?_⟩⟩
      rw [hbs.length] at hr2
      exact q _ _ (.box r2) (((p1.trans p2).same (same_new ht _)).le (by omega)) (.box upd_same) (by show r2 < tops.length; omega) (Nat.zero_le _)
    · refine ⟨_, rfl, sz_of (show 4 ≤ 100000 by decide), fun l hl => ⟨_, rfl, p, sc, _, _, rfl, p1.pen.same (same_new hl _), by omega, by decide, fun r2 H3 hr2 p3 => ?_⟩⟩
      have hl3 := p3.fr _ _ (p1.pen.ne hl) upd_same
      obtain ⟨mx, hmx, hm1⟩ : ∃ mx : Int, [V.int 3, V.int 4, V.int 8, V.int 100][r2]? = some (V.int mx) ∧ 0 < mx := by
        have h3 : r2 < 4 := by omega
        match r2, h3 with
        | 0, _ => exact ⟨3, rfl, by decide⟩
        | 1, _ => exact ⟨4, rfl, by decide⟩
        | 2, _ => exact ⟨8, rfl, by decide⟩
        | 3, _ => exact ⟨100, rfl, by decide⟩
        | (n + 4), h => omega
      refine ⟨l, _, _, _, rfl, rfl, SqL.of hl3, atI_nat hmx, p, sc, _, _, rfl, p3.pen, by omega, hm1, fun r4 H4 hr4 p4 => ⟨sz_of (show 2 ≤ 100000 by decide), fun t ht => ?_⟩⟩
      exact q _ _ (.num (r4 : Int)) (((((p1.same (same_new hl _)).trans p3).trans p4).same (same_new ht _)).le (by omega)) (.num upd_same) True.intro (Nat.zero_le _)
theorem law_sum_all (D : Def K mg "_law_sum" s_law_sum ["_law_pen", "_law_boxes_here", "_law_deep"]) (T : Txt K mg) (c_law_next : Cal P w K mg base "_law_next" ["_law_pen", "_law_many"] 2 (spNext K)) : Cal P w K mg base "_law_sum" ["_law_pen", "_law_boxes_here", "_law_deep"] 4 (spSum K 2 30) :=
  ok_law_sum (c := 10) (by decide) (by decide) (by decide) D T c_law_next (ok_law_sum (c := 0) (by decide) (by decide) (by decide) D T c_law_next (D.vac (fun vs H Q E h => by
    obtain ⟨p, sc, vb, d, N, tops, _, _, _, _, _, h, _⟩ := h
    exact absurd h (Nat.not_lt_zero _))))
/-! ### _law_cond -/
abbrev s_law_cond : Stmt := top 31
abbrev n_law_cond : List Str := ["_law_pen", "_law_boxes_here", "_law_deep", "_law_way_here"]
theorem sc_law_cond : FnScope n_law_cond ["_law_pen", "_law_boxes_here", "_law_deep"] (defScope s_law_cond) := ⟨rfl, rfl, rfl, by decide +kernel, rfl, by decide +kernel, by decide +kernel⟩
def spCond (K : PySem.W.Frag) (n c : Nat) : Sp := fun vs H Q _ => ∃ p sc vb d N tops, vs = [.ref p, vb, .int ((d : Nat) : Int)] ∧ PenAt K H p sc N ∧ N + 1000 * n ≤ 10000000 ∧ IsBoxes (mi p H) vb tops ∧ BoxOk tops ∧ d < n ∧ ∀ v H' e, PenTo K p sc H H' (N + c) → IsCd H' v e → e.wf tops.length → e.dep ≤ d → e.sdep 1 → Q v H'
theorem ok_law_cond {n c c' : Nat} (hc3 : 70 ≤ c') (hcc : 1 + 2 * c ≤ c') (hc1 : c ≤ 100) (D : Def K mg "_law_cond" s_law_cond ["_law_pen", "_law_boxes_here", "_law_deep"]) (T : Txt K mg) (c_law_next : Cal P w K mg base "_law_next" ["_law_pen", "_law_many"] 2 (spNext K)) (c_law_sum : Cal P w K mg base "_law_sum" ["_law_pen", "_law_boxes_here", "_law_deep"] 4 (spSum K 2 30))
    (c_law_cond : Cal P w K mg base "_law_cond" ["_law_pen", "_law_boxes_here", "_law_deep"] (n + 4) (spCond K n c)) : Cal P w K mg base "_law_cond" ["_law_pen", "_law_boxes_here", "_law_deep"] (n + 5) (spCond K (n + 1) c') := by
  refine D.cal sc_law_cond (fun vs H Q E h => ?_) (fun f cdv A outer s H vs Q E hr h => ?_)
  · obtain ⟨p, sc, vb, d, N, tops, rfl, _⟩ := h
    rfl
  obtain ⟨p, sc, vb, d, N, tops, rfl, hp, hN, hb, bo, hd, q⟩ := h
  refine ⟨_, (pss_cons (ps_set (i := 3) sc_law_cond.nd rfl (Or.inl rfl) (pe_cal c_law_next (hr.mono (by first | exact Nat.le_refl _ | decide | omega)) rfl (pa_cons (pv 0) (pa_cons pe_int pa_nil))))
    (pss_cons (ps_if (pt_cmpR op_eq (pv 3) pe_int (nomark _)) (pss_one (ps_ret (pe_tup (pa_cons pe_str pa_nil)))) pss_nil)
    (pss_cons (ps_if (PW.pt (pw_or (pt_cmpR op_eq (pv 2) pe_int (nomark _)) (pw_or1 (pt_cmpR op_lt (pv 3) pe_int (nomark _))))) (pss_one (ps_ret (pe_tup (pa_cons (pe_ix (ix_listK K) (pe_lst (pa_cons pe_str (pa_cons pe_str pa_nil))) (pe_op op_mod (pe_op op_fdiv (pv 3) pe_int) pe_int) (fun _ _ => rfl)) (pa_cons (pe_cal c_law_sum (hr.mono (by first | exact Nat.le_refl _ | decide | omega)) rfl (pa_cons (pv 0) (pa_cons (pv 1) (pa_cons (pe_op op_mod (pv 3) pe_int) pa_nil)))) (pa_cons (pe_cal c_law_sum (hr.mono (by first | exact Nat.le_refl _ | decide | omega)) rfl (pa_cons (pv 0) (pa_cons (pv 1) (pa_cons pe_int pa_nil)))) pa_nil)))))) pss_nil)
    (pss_cons (ps_if (pt_cmpR op_lt (pv 3) pe_int (nomark _)) (pss_one (ps_ret (pe_tup (pa_cons pe_str (pa_cons (pe_cal c_law_cond (hr.mono (by first | exact Nat.le_refl _ | decide | omega)) rfl (pa_cons (pv 0) (pa_cons (pv 1) (pa_cons (pe_op op_sub (pv 2) pe_int) pa_nil)))) pa_nil))))) pss_nil)
    (pss_one (ps_ret (pe_tup (pa_cons (pe_ix (ix_listK K) (pe_lst (pa_cons pe_str (pa_cons pe_str pa_nil))) (pe_op op_mod (pv 3) pe_int) (fun _ _ => rfl)) (pa_cons (pe_cal c_law_cond (hr.mono (by first | exact Nat.le_refl _ | decide | omega)) rfl (pa_cons (pv 0) (pa_cons (pv 1) (pa_cons (pe_op op_sub (pv 2) pe_int) pa_nil)))) (pa_cons (pe_cal c_law_cond (hr.mono (by first | exact Nat.le_refl _ | decide | omega)) rfl (pa_cons (pv 0) (pa_cons (pv 1) (pa_cons (pe_op op_sub (pv 2) pe_int) pa_nil)))) pa_nil)))))))))), ?_⟩
  refine ⟨_, rfl, p, sc, _, N, rfl, hp, by omega, by decide, fun r H1 hr1 p1 => ?_⟩
  refine ⟨_, rfl, rfl, _, rfl, ?_⟩
  by_cases cy : r = 0
  · refine ifT (by rw [dInt]; exact decide_eq_true (by omega)) ⟨sz_of (show 1 ≤ 100000 by decide), fun t ht => ?_⟩
    exact q _ _ .yes ((p1.same (same_new ht _)).le (by omega)) (.yes upd_same) True.intro (Nat.zero_le _) True.intro
  refine ifF (by rw [dInt]; exact decide_eq_false (by omega)) ?_
  have h2 : d = 0 ∨ (d ≠ 0 ∧ r < 5) ∨ (d ≠ 0 ∧ ¬ r < 5) := by omega
  rcases h2 with c0 | c0 | c0
  case' inl => refine ⟨_, rfl, rfl, _, rfl, ifT (by rw [dInt]; exact decide_eq_true (by omega)) (ifT rfl ?_)⟩
  case' inr.inl => refine ⟨_, rfl, rfl, _, rfl, ifF (by rw [dInt]; exact decide_eq_false (by omega)) ⟨_, rfl, _, _, rfl, rfl, _, rfl, ifT (decide_eq_true (by omega)) ?_⟩⟩
  case' inr.inr => refine ⟨_, rfl, rfl, _, rfl, ifF (by rw [dInt]; exact decide_eq_false (by omega)) ⟨_, rfl, _, _, rfl, rfl, _, rfl, ifF (decide_eq_false (by omega)) ?_⟩⟩
  case inr.inr =>
    have ed : (d : Int) - 1 = ((d - 1 : Nat) : Int) := by omega
    refine ⟨_, rfl, _, _, rfl, rfl, _, rfl, ?_⟩
    by_cases c7 : r < 7
    · refine ifT (decide_eq_true (by omega)) ?_
      refine ⟨_, rfl, _, rfl, _, rfl, _, _, rfl, rfl, p, sc, vb, d - 1, _, tops, by rw [← ed]; rfl, p1.pen, by omega, boxes_m _ _ _ _ p1.mi hb, bo, by omega, fun v3 H3 e3 p3 h3 w3 d3 sd3 => ⟨sz_of (show 2 ≤ 100000 by decide), fun t ht => ?_⟩⟩
      have s5 := same_new ht (.tup [.str "not", v3])
      exact q _ _ (.not e3) (((p1.trans p3).same s5).le (by omega)) (.not upd_same (cd_tm _ _ _ _ (TK.same s5) h3)) w3 (by show e3.dep + 1 ≤ d; omega) sd3
    refine ifF (decide_eq_false (by omega)) ?_
    refine ⟨sz_of (show 2 ≤ 100000 by decide), fun l hl => ?_⟩
    have s2 := same_new hl (.lst [.str "both", .str "either"])
    have em : (r : Int) % 2 = ((r % 2 : Nat) : Int) := by omega
    refine ⟨_, rfl, _, _, rfl, rfl, (by show (0 : Int) < 2; decide), l, _, _, _, rfl, rfl, SqL.of upd_same, (by rw [em]; exact atI_nat (pick2 (Nat.mod_lt _ (by decide)))), ?_⟩
    have pt2 := p1.same s2
    refine ⟨_, rfl, _, rfl, _, rfl, _, _, rfl, rfl, p, sc, vb, d - 1, _, tops, by rw [← ed]; rfl, pt2.pen, by omega, boxes_m _ _ _ _ pt2.mi hb, bo, by omega, fun v3 H3 e3 p3 h3 w3 d3 sd3 => ?_⟩
    have pt3 := pt2.trans p3
    refine ⟨_, rfl, _, rfl, _, rfl, _, _, rfl, rfl, p, sc, vb, d - 1, _, tops, by rw [← ed]; rfl, pt3.pen, by omega, boxes_m _ _ _ _ pt3.mi hb, bo, by omega, fun v4 H4 e4 p4 h4 w4 d4 sd4 => ?_⟩
    have pt4 := pt3.trans p4
    refine ⟨sz_of (show 3 ≤ 100000 by decide), fun t ht => ?_⟩
    have s5 := same_new ht (.tup [if r % 2 = 0 then .str "both" else .str "either", v3, v4])
    have h3' := cd_tm _ _ _ _ ((p4.tk p3.pen).trans (TK.same s5)) h3
    have h4' := cd_tm _ _ _ _ (TK.same s5) h4
    have pt5 : PenTo K p sc H (upd H4 t (.tup [if r % 2 = 0 then .str "both" else .str "either", v3, v4])) (N + c') := (pt4.same s5).le (by omega)
    by_cases z : r % 2 = 0
    · rw [if_pos z] at pt5 h3' h4' ⊢
      exact q _ _ (.both e3 e4) pt5 (.both upd_same h3' h4') ⟨w3, w4⟩ (by show max e3.dep e4.dep + 1 ≤ d; omega) ⟨sd3, sd4⟩
    · rw [if_neg z] at pt5 h3' h4' ⊢
      exact q _ _ (.either e3 e4) pt5 (.either upd_same h3' h4') ⟨w3, w4⟩ (by show max e3.dep e4.dep + 1 ≤ d; omega) ⟨sd3, sd4⟩
  all_goals
    refine ⟨sz_of (show 2 ≤ 100000 by decide), fun l hl => ?_⟩
    have s2 := same_new hl (.lst [.str "is", .str "less"])
    have em : (r : Int) / 2 % 2 = ((r / 2 % 2 : Nat) : Int) := by omega
    have em2 : (r : Int) % 2 = ((r % 2 : Nat) : Int) := by omega
    refine ⟨_, rfl, _, _, rfl, rfl, ⟨by decide, by decide⟩, _, _, rfl, rfl, (by show (0 : Int) < 2; decide), l, _, _, _, rfl, rfl, SqL.of upd_same, (by rw [em]; exact atI_nat (pick2 (Nat.mod_lt _ (by decide)))), ?_⟩
    have pt2 := p1.same s2
    refine ⟨_, rfl, _, rfl, _, rfl, _, _, rfl, rfl, (by show (0 : Int) < 2; decide), p, sc, vb, r % 2, _, tops, by rw [← em2]; rfl, pt2.pen, by omega, boxes_m _ _ _ _ pt2.mi hb, bo, Nat.mod_lt _ (by decide), fun v3 H3 e3 p3 h3 w3 d3 => ?_⟩
    have pt3 := pt2.trans p3
    refine ⟨_, rfl, _, rfl, p, sc, vb, 1, _, tops, rfl, pt3.pen, by omega, boxes_m _ _ _ _ pt3.mi hb, bo, by decide, fun v4 H4 e4 p4 h4 w4 d4 => ?_⟩
    have pt4 := pt3.trans p4
    have d3' : e3.dep ≤ 1 := Nat.le_trans d3 (Nat.le_of_lt_succ (Nat.mod_lt _ (by decide)))
    refine ⟨sz_of (show 3 ≤ 100000 by decide), fun t ht => ?_⟩
    have s5 := same_new ht (.tup [if r / 2 % 2 = 0 then .str "is" else .str "less", v3, v4])
    have h3' := sm_tm _ _ _ _ ((p4.tk p3.pen).trans (TK.same s5)) h3
    have h4' := sm_tm _ _ _ _ (TK.same s5) h4
    have pt5 : PenTo K p sc H (upd H4 t (.tup [if r / 2 % 2 = 0 then .str "is" else .str "less", v3, v4])) (N + c') := (pt4.same s5).le (by omega)
    by_cases z : r / 2 % 2 = 0
    · rw [if_pos z] at pt5 h3' h4' ⊢
      exact q _ _ (.is e3 e4) pt5 (.is upd_same h3' h4') ⟨w3, w4⟩ (Nat.zero_le _) ⟨d3', d4⟩
    · rw [if_neg z] at pt5 h3' h4' ⊢
      exact q _ _ (.less e3 e4) pt5 (.less upd_same h3' h4') ⟨w3, w4⟩ (Nat.zero_le _) ⟨d3', d4⟩
theorem law_cond_all (D : Def K mg "_law_cond" s_law_cond ["_law_pen", "_law_boxes_here", "_law_deep"]) (T : Txt K mg) (c_law_next : Cal P w K mg base "_law_next" ["_law_pen", "_law_many"] 2 (spNext K)) (c_law_sum : Cal P w K mg base "_law_sum" ["_law_pen", "_law_boxes_here", "_law_deep"] 4 (spSum K 2 30)) : Cal P w K mg base "_law_cond" ["_law_pen", "_law_boxes_here", "_law_deep"] 6 (spCond K 2 200) :=
  ok_law_cond (c := 80) (by decide) (by decide) (by decide) D T c_law_next c_law_sum (ok_law_cond (c := 0) (by decide) (by decide) (by decide) D T c_law_next c_law_sum (D.vac (fun vs H Q E h => by
    obtain ⟨p, sc, vb, d, N, tops, _, _, _, _, _, h, _⟩ := h
    exact absurd h (Nat.not_lt_zero _))))
/-! ### _law_way -/
abbrev s_law_way : Stmt := top 32
abbrev n_law_way : List Str := ["_law_pen", "_law_boxes_here", "_law_places", "_law_deep", "_law_guard", "_law_puts", "_law_k"]
theorem sc_law_way : FnScope n_law_way ["_law_pen", "_law_boxes_here", "_law_places", "_law_deep"] (defScope s_law_way) := ⟨rfl, rfl, rfl, by decide +kernel, rfl, by decide +kernel, by decide +kernel⟩
def spWay (K : PySem.W.Frag) : Sp := fun vs H Q _ => ∃ p sc vb places N tops, vs = [.ref p, vb, .int ((places : Nat) : Int), .int 1] ∧ PenAt K H p sc N ∧ N ≤ 2000000 ∧ IsBoxes (mi p H) vb tops ∧ BoxOk tops ∧ 1 ≤ places ∧ ∀ v H' wy, PenTo K p sc H H' (N + 400) → IsWay H' v wy → wy.ok tops.length places → Q v H'
theorem ok_law_way (D : Def K mg "_law_way" s_law_way ["_law_pen", "_law_boxes_here", "_law_places", "_law_deep"]) (T : Txt K mg) (c_law_next : Cal P w K mg base "_law_next" ["_law_pen", "_law_many"] 2 (spNext K)) (c_law_sum : Cal P w K mg base "_law_sum" ["_law_pen", "_law_boxes_here", "_law_deep"] 4 (spSum K 2 30)) (c_law_cond : Cal P w K mg base "_law_cond" ["_law_pen", "_law_boxes_here", "_law_deep"] 6 (spCond K 2 200)) :
    Cal P w K mg base "_law_way" ["_law_pen", "_law_boxes_here", "_law_places", "_law_deep"] 7 (spWay K) := by
  refine D.cal sc_law_way (fun vs H Q E h => ?_) (fun f cdv A outer s H vs Q E hr h => ?_)
  · obtain ⟨p, sc, vb, places, N, tops, rfl, _⟩ := h
    rfl
  obtain ⟨p, sc, vb, places, N, tops, rfl, hp, hN, hb, bo, hpl, q⟩ := h
  refine ⟨_, (pss_cons (ps_set (i := 4) sc_law_way.nd rfl (Or.inl rfl) (pe_cal c_law_cond (hr.mono (by first | exact Nat.le_refl _ | decide | omega)) rfl (pa_cons (pv 0) (pa_cons (pv 1) (pa_cons (pv 3) pa_nil)))))
    (pss_cons (ps_set (i := 5) sc_law_way.nd rfl (Or.inl rfl) (pe_lst pa_nil))
    (pss_cons (ps_for PassesOwn.never rfl (pi_range1 rfl T.range (pa_cons (pe_callB (call_lenK K) (by rfl) T.len PySem.boot_len (pa_cons (pv 1) pa_nil)) pa_nil)) (pg_name (i := 6) sc_law_way.nd rfl (Or.inl rfl)) (pss_one (ps_if (pt_cmpR op_lt (pe_cal c_law_next (hr.mono (by first | exact Nat.le_refl _ | decide | omega)) rfl (pa_cons (pv 0) (pa_cons pe_int pa_nil))) pe_int (nomark _)) (pss_one (ps_expr (pe_bm PySem.F.plainAttrs_list PySem.F.slot_list_append PySem.F.type_list_append mt_append (pv 5) (pa_cons (pe_tup (pa_cons (pv 6) (pa_cons (pe_cal c_law_sum (hr.mono (by first | exact Nat.le_refl _ | decide | omega)) rfl (pa_cons (pv 0) (pa_cons (pv 1) (pa_cons pe_int pa_nil)))) pa_nil))) pa_nil)))) pss_nil)))
    (pss_one (ps_ret (pe_tup (pa_cons (pv 4) (pa_cons (pe_callTy (call_tupleK K) (by rfl) T.tuple (by decide +kernel) (pa_cons (pv 5) pa_nil)) (pa_cons (pe_cal c_law_next (hr.mono (by first | exact Nat.le_refl _ | decide | omega)) rfl (pa_cons (pv 0) (pa_cons (pv 2) pa_nil))) pa_nil))))))))), ?_⟩
  refine ⟨_, rfl, _, rfl, _, rfl, p, sc, vb, 1, N, tops, rfl, hp, by omega, hb, bo, by decide, fun vg H1 eg p1 hg wg dg sdg => ?_⟩
  refine ⟨Nat.zero_le _, fun d hd => ?_⟩
  have s2 := same_new hd (.lst [])
  have ndp := p1.pen.ne hd
  obtain ⟨ba, bs, rfl, hba, hbs⟩ := id hb
  have hd0 : mi p H d = none := by
    rw [mi_ne ndp]
    cases z : H d with
    | none => rfl
    | some o =>
      have := p1.fr _ _ ndp z
      rw [hd] at this
      cases this
  have hd0' : H d = none := by rw [mi_ne ndp] at hd0; exact hd0
  have pt2 := p1.same s2
  have hba2 := pt2.mi _ _ hba
  have h4 := bo.len
  refine ⟨_, rfl, ba, _, rfl, .inl (SqL.of (mi_some hba2).2), _, rfl, by omega, by rw [hbs.length]; omega, for_it walk_range
    (fun i σ H' => ∃ (puts : List (Nat × Sm)) (ys : List V), ∃ x6, σ = [some (.ref p), some (.ref ba), some (.int (places : Int)), some (.int 1), some vg, some (.ref d), x6] ∧ PenTo K p sc H H' (N + 200 + 31 * i) ∧ H' d = some (.lst ys) ∧ IsCd H' vg eg ∧ Paired (IsPut H') ys puts ∧ puts.length ≤ i ∧
      (∀ u ∈ puts, u.1 < i ∧ u.1 < tops.length ∧ u.2.ok tops.length) ∧ puts.Pairwise (fun a b => a.1 < b.1))
    ⟨[], [], _, rfl, pt2, upd_same, cd_tm _ _ _ _ (TK.same s2) hg, .nil, Nat.le_refl _, fun u hu => absurd hu List.not_mem_nil, .nil⟩ (fun _ _ _ _ _ => True.intro) ?_ ?_⟩
  · rintro i v σ H'0 H' hi ⟨puts, ys, x6, rfl, pt, hys, hgH, hps, hlen, hputs, hrise⟩ ⟨rfl, hv⟩
    have hv' : v = .int (i : Int) := hv.trans (by show V.int (0 + (i : Int)) = _; rw [Int.zero_add])
    subst hv'
    have hi4 : i < tops.length := by rw [hbs.length] at hi; omega
    refine ⟨_, rfl, p, sc, _, _, rfl, pt.pen, by omega, by decide, fun r H3 hr3 p3 => ?_⟩
    have pt3 := pt.trans p3
    have hys3 := p3.fr _ _ ndp hys
    have tk3 := p3.tk pt.pen
    refine ⟨_, _, rfl, rfl, _, rfl, ?_⟩
    by_cases c : r < 3
    case neg =>
      exact ifF (decide_eq_false (by omega)) ⟨puts, ys, _, rfl, pt3.le (by omega), hys3, cd_tm _ _ _ _ tk3 hgH, paired_tmono put_tm tk3 hps, by omega, fun u hu => ⟨by have := (hputs u hu).1; omega, (hputs u hu).2⟩, hrise⟩
    refine ifT (decide_eq_true (by omega)) ?_
    refine ⟨_, rfl, .inl ⟨rfl, _, SqL.of hys3⟩, _, rfl, _, rfl, _, rfl, p, sc, .ref ba, 1, _, tops, rfl, pt3.pen, by omega, boxes_m _ _ _ _ pt3.mi hb, bo, by decide, fun v4 H4 e4 p4 h4' w4 d4 => ⟨sz_of (show 2 ≤ 100000 by decide), fun t ht => ?_⟩⟩
    have s5 := same_new ht (.tup [.int (i : Int), v4])
    have hys5 := s5 _ _ (p4.fr _ _ ndp hys3)
    refine ⟨d, ys, _, rfl, rfl, hys5, sz_lt (by rw [hps.length]; omega), ?_⟩
    have tk5 : TK H3 (upd (upd H4 t (.tup [.int (i : Int), v4])) d (.lst (ys ++ [.ref t]))) := ((p4.tk pt3.pen).trans (TK.same s5)).trans (TK.upd fun xs z => by rw [hys5] at z; cases z)
    have tk45 : TK H4 (upd (upd H4 t (.tup [.int (i : Int), v4])) d (.lst (ys ++ [.ref t]))) := (TK.same s5).trans (TK.upd fun xs z => by rw [hys5] at z; cases z)
    have ntd : t ≠ d := fun z => by rw [z, p4.fr _ _ ndp hys3] at ht; cases ht
    refine ⟨puts ++ [(i, e4)], _, _, rfl, (PenTo.put hp ((pt3.trans p4).same s5) hd0').le (by omega), upd_same, cd_tm _ _ _ _ (tk3.trans tk5) hgH, paired_app (paired_tmono put_tm (tk3.trans tk5) hps) (.cons ⟨t, v4, rfl, by rw [upd_ne ntd]; exact upd_same, sm_tm _ _ _ _ tk45 h4'⟩ .nil), by rw [List.length_append, List.length_singleton]; omega, fun u hu => ?_, ?_⟩
    · rcases List.mem_append.mp hu with z | z
      · exact ⟨by have := (hputs u z).1; omega, (hputs u z).2⟩
      · rw [List.mem_singleton.mp z]
        exact ⟨Nat.lt_succ_self _, hi4, w4, d4⟩
    · rw [List.pairwise_append]
      refine ⟨hrise, by simp, fun a ha b hb => ?_⟩
      rw [List.mem_singleton.mp hb]
      exact (hputs a ha).1
  · rintro σ H' ⟨puts, ys, x6, rfl, pt, hys, hgH, hps, hlen, hputs, hrise⟩
    refine ⟨_, rfl, _, rfl, d, _, rfl, .inl ⟨SqL.of hys, fun t ht => ?_⟩⟩
    have s3 := same_new ht (.tup ys)
    have pt3 := pt.same s3
    refine ⟨_, rfl, _, rfl, p, sc, _, _, rfl, pt3.pen, by rw [hbs.length]; omega, by omega, fun r H4 hr4 p4 => ⟨sz_of (show 3 ≤ 100000 by decide), fun t5 ht5 => ?_⟩⟩
    have s5 := same_new ht5 (.tup [vg, .ref t, .int (r : Int)])
    have tk := (p4.tk pt3.pen).trans (TK.same s5)
    have tk' := (TK.same s3).trans tk
    refine q _ _ ⟨eg, puts, r⟩ (((pt3.trans p4).same s5).le (by rw [hbs.length]; omega)) ⟨t5, vg, t, ys, rfl, upd_same, cd_tm _ _ _ _ tk' hgH, tk _ _ upd_same, paired_tmono put_tm tk' hps⟩ ⟨⟨wg, dg, sdg⟩, fun u hu => (hputs u hu).2, hrise, by show r < places; omega⟩
end
end Hm
end

section
set_option Elab.async false
set_option linter.all false
set_option maxRecDepth 100000
set_option maxHeartbeats 4000000
/-! _law_hand, _law_steps, _law_own_steps, _law_lacking. -/
namespace Hm
open PySem L2 PySem.W
theorem nw_tk2 {p D : Addr} {H H' : Hp} (k : ∀ b o, b ≠ p → b ≠ D → H b = some o → H' b = some o) (hp : ∀ xs, H' p ≠ some (.tup xs)) (hD : ∀ xs, H' D ≠ some (.tup xs)) : TK H' (nw H H') := fun b xs e => by
  cases q : H b with
  | none => rw [nw_none q]; exact e
  | some u =>
    have z := k b u (fun z => hp xs (by rw [← z]; exact e)) (fun z => hD xs (by rw [← z]; exact e)) q
    rw [e] at z
    rw [← Option.some.inj z] at q
    exact nw_tup q
theorem paired_take {α β : Type} {F : α → β → Prop} {xs : List α} {ys : List β} (h : Paired F xs ys) : ∀ n : Nat, Paired F (xs.take n) (ys.take n) := by
  induction h with
  | nil => intro n; rw [List.take_nil, List.take_nil]; exact .nil
  | cons a b ih =>
    intro n
    cases n with
    | zero => exact .nil
    | succ n => rw [List.take_succ_cons, List.take_succ_cons]; exact .cons a (ih n)
theorem paired_cut {β : Type} {F : V → β → Prop} {xs : List V} {ys : List β} (h : Paired F xs ys) (lo hi : Option Int) : ∃ zs, Paired F (cutV xs lo hi) zs ∧ (∀ z ∈ zs, z ∈ ys) ∧ zs.length ≤ ys.length := by
  unfold cutV
  exact ⟨_, paired_take (paired_drop h _) _, fun z hz => List.mem_of_mem_drop (List.mem_of_mem_take hz), by rw [List.length_take, List.length_drop]; omega⟩
theorem len_flat2 {α β : Type} (g : β → List α) (b : Nat) : ∀ l : List β, (∀ p ∈ l, (g p).length ≤ b) → (l.flatMap g).length ≤ l.length * b
  | [], _ => by simp
  | p :: l, h => by
    rw [List.flatMap_cons, List.length_append, List.length_cons, Nat.succ_mul]
    have h1 := h p List.mem_cons_self
    have h2 := len_flat2 g b l fun q hq => h q (List.mem_cons_of_mem _ hq)
    omega
section
variable {P : Program} {w : World} {K : PySem.W.Frag} {mg : Str → Option Value} {base : Heap}
/-! ### _law_hand -/
abbrev s_law_hand : Stmt := top 38
abbrev n_law_hand : List Str := ["_law_pen", "_law_boxes_here", "_law_many", "_law_row", "_law_way_here"]
theorem sc_law_hand : FnScope n_law_hand ["_law_pen", "_law_boxes_here"] (defScope s_law_hand) := ⟨rfl, rfl, rfl, by decide +kernel, rfl, by decide +kernel, by decide +kernel⟩
abbrev cs_law_hand : Scope := match defBody s_law_hand with
  | [_, .Return (some (.ListComp _ _ sc _)) _] => sc
  | _ => defScope s_law_hand
def spHand (K : PySem.W.Frag) : Sp := fun vs H Q _ => ∃ p sc vb N tops, vs = [.ref p, vb] ∧ PenAt K H p sc N ∧ N ≤ 1000000 ∧ IsBoxes (mi p H) vb tops ∧ BoxOk tops ∧ ∀ v H' hand, PenTo K p sc H H' (N + 10000) → IsHand (nw H H') v hand → HandOk tops hand → Q v H'
theorem ok_law_hand (D : Def K mg "_law_hand" s_law_hand ["_law_pen", "_law_boxes_here"]) (T : Txt K mg) (c_law_next : Cal P w K mg base "_law_next" ["_law_pen", "_law_many"] 2 (spNext K)) (c_law_way : Cal P w K mg base "_law_way" ["_law_pen", "_law_boxes_here", "_law_places", "_law_deep"] 7 (spWay K)) :
    Cal P w K mg base "_law_hand" ["_law_pen", "_law_boxes_here"] 8 (spHand K) := by
  refine D.cal sc_law_hand (fun vs H Q E h => ?_) (fun f cdv A outer s H vs Q E hr h => ?_)
  · obtain ⟨p, sc, vb, N, tops, rfl, _⟩ := h
    rfl
  obtain ⟨p, sc, vb, N, tops, rfl, hp, hN, hb, bo, q⟩ := h
  refine ⟨_, (pss_cons (ps_set (i := 2) sc_law_hand.nd rfl (Or.inr rfl) (pe_cal c_law_next (hr.mono (by first | exact Nat.le_refl _ | decide | omega)) rfl (pa_cons (pv 0) (pa_cons pe_int pa_nil))))
    (pss_one (ps_ret (pe_lc (own := [("_law_row", 3)]) (g := gName 3) rfl sc_law_hand.nd (pi_range1 rfl T.range (pa_cons (pv 2) pa_nil)) (blkOk_by (own := [("_law_row", 3)]) (N := n_law_hand) (sc := defScope s_law_hand) (by decide +kernel)) (fun _ _ _ _ _ => (pg_name (i := 3) sc_law_hand.nd rfl (Or.inl rfl))) (fun _ _ _ _ _ => pts_nil) (fun _ _ _ _ _ => (pe_lc (own := [("_law_way_here", 4)]) (g := gName 4) rfl sc_law_hand.nd (pi_range1 rfl T.range (pa_cons (pe_op op_add pe_int (pe_cal c_law_next (hr.mono (by first | exact Nat.le_refl _ | decide | omega)) rfl (pa_cons (pv 0) (pa_cons pe_int pa_nil)))) pa_nil)) (blkOk_by (own := [("_law_way_here", 4)]) (N := n_law_hand) (sc := (relS cs_law_hand (defScope s_law_hand))) (by decide +kernel)) (fun _ _ _ _ _ => (pg_name (i := 4) sc_law_hand.nd rfl (Or.inl rfl))) (fun _ _ _ _ _ => pts_nil) (fun _ _ _ _ _ => (pe_cal c_law_way (hr.mono (by first | exact Nat.le_refl _ | decide | omega)) rfl (pa_cons (pv 0) (pa_cons (pv 1) (pa_cons (pe_op op_add (pv 2) pe_int) (pa_cons pe_int pa_nil)))))))))))), ?_⟩
  refine ⟨_, rfl, p, sc, _, N, rfl, hp, by omega, by decide, fun many H1 hmany p1 => ?_⟩
  refine ⟨_, rfl, _, rfl, by omega, by omega, fun d hd => ?_⟩
  have ndp := p1.pen.ne hd
  have hd0 : H d = none := by
    cases z : H d with
    | none => rfl
    | some o =>
      have := p1.fr _ _ ndp z
      rw [hd] at this
      cases this
  have s2 := same_new hd (.lst [])
  have hHd : upd H1 d (.lst []) d = some (.lst []) := upd_same
  refine lc_it walk_range
    (fun i H' => ∃ (ys : List V) (hand : Hand), PenTo K p sc H H' (N + 1 + 1700 * i) ∧ (∀ b o, b ≠ p → b ≠ d → upd H1 d (.lst []) b = some o → H' b = some o) ∧ H' d = some (.lst ys) ∧ Paired (IsRow (nw (upd H1 d (.lst [])) H')) ys hand ∧ hand.length = i ∧
      (∀ row ∈ hand, row.length ≤ 8) ∧ ∀ row ∈ hand, ∀ wy ∈ row, wy.ok tops.length (many + 1))
    ⟨[], [], p1.same s2, fun b o _ _ e => e, hHd, .nil, rfl, fun row h => absurd h List.not_mem_nil, fun row h => absurd h List.not_mem_nil⟩ (fun _ _ _ _ => True.intro) ?_ ?_
  · rintro i x H'0 H' hi ⟨ys, hand, pt, fr, hys, hrows, hlen, hrl, hok⟩ ⟨rfl, hv⟩
    have hi4 : i < many := by omega
    refine ⟨rfl, yesT ?_⟩
    refine ⟨_, rfl, p, sc, _, _, rfl, pt.pen, by omega, by decide, fun m H3 hm p3 => ?_⟩
    have pt3 := pt.trans p3
    refine ⟨_, _, rfl, rfl, _, rfl, by omega, by omega, fun e he => ?_⟩
    have nep := pt3.pen.ne he
    have hys3 := p3.fr _ _ ndp hys
    have ned : e ≠ d := fun z => by rw [z, hys3] at he; cases he
    have heI : H' e = none := by
      cases z : H' e with
      | none => rfl
      | some o =>
        have := p3.fr _ _ nep z
        rw [he] at this
        cases this
    have heD : upd H1 d (.lst []) e = none := by
      cases z : upd H1 d (.lst []) e with
      | none => rfl
      | some o =>
        have := fr e o nep ned z
        rw [heI] at this
        cases this
    refine lc_it walk_range
      (fun j H5 => ∃ (zs : List V) (row : List Way), PenTo K p sc H' H5 (N + 1 + 1700 * i + 1 + 400 * j) ∧ H5 e = some (.lst zs) ∧ Paired (IsWay H5) zs row ∧ row.length = j ∧ ∀ wy ∈ row, wy.ok tops.length (many + 1))
      ⟨[], [], p3.same (same_new he _), upd_same, .nil, rfl, fun row h => absurd h List.not_mem_nil⟩ (fun _ _ _ _ => True.intro) ?_ ?_
    · rintro j x2 H5'0 H5 hj ⟨zs, row, pt5, hzs, hways, hjl, hok5⟩ ⟨rfl, hv2⟩
      have hj4 : j < 4 := by omega
      refine ⟨rfl, yesT ?_⟩
      have p05 := pt.trans pt5
      refine ⟨_, rfl, _, rfl, _, rfl, _, _, rfl, rfl, p, sc, vb, many + 1, _, tops, rfl, p05.pen, by omega, boxes_m _ _ _ _ p05.mi hb, bo, by omega, fun v6 H6 wy p6 hw6 ok6 => ?_⟩
      have hzs6 := p6.fr _ _ nep hzs
      have tk6 := p6.tk p05.pen
      have tkU : TK H6 (upd H6 e (.lst (zs ++ [v6]))) := TK.upd fun xs z => by rw [hzs6] at z; cases z
      refine ⟨zs, hzs6, sz_lt (by rw [hways.length]; omega), zs ++ [v6], row ++ [wy], (PenTo.put pt.pen (pt5.trans p6) heI).le (by omega), upd_same, paired_app (paired_tmono way_tm (tk6.trans tkU) hways) (.cons (way_tm _ _ _ _ tkU hw6) .nil), by rw [List.length_append, List.length_singleton, hjl], fun wy' hwy' => ?_⟩
      rcases List.mem_append.mp hwy' with z | z
      · exact hok5 wy' z
      · rw [List.mem_singleton.mp z]
        exact ok6
    · rintro H5 ⟨zs, row, pt5, hzs, hways, hjl, hok5⟩
      have p05 := pt.trans pt5
      have hys5 : H5 d = some (.lst ys) := pt5.fr _ _ ndp hys
      refine ⟨ys, hys5, sz_lt (by rw [hrows.length]; omega), ?_⟩
      have fr5 : ∀ b o, b ≠ p → b ≠ d → upd H1 d (.lst []) b = some o → H5 b = some o := fun b o n1 n2 z => pt5.fr _ _ n1 (fr b o n1 n2 z)
      have keepd : ∀ xs, Same (nw (upd H1 d (.lst [])) H5) (nw (upd H1 d (.lst [])) (upd H5 d (.lst xs))) := fun xs => nw_on fun b o e1 e2 => by
        rw [upd_ne (fun z => by rw [z, hHd] at e1; cases e1)]
        exact e2
      have keep5 : Same (nw (upd H1 d (.lst [])) H') (nw (upd H1 d (.lst [])) H5) := nw_on fun b o e1 e2 => pt5.fr _ _ (fun z => by
        obtain ⟨xs, hx⟩ := (p1.same s2).pen.some
        rw [z, hx] at e1
        cases e1) e2
      have rowI : IsRow (nw (upd H1 d (.lst [])) H5) (.ref e) row := ⟨e, zs, rfl, by rw [nw_none heD]; exact hzs, paired_tmono way_tm (nw_tk2 fr5 p05.pen.noTup fun xs z => by rw [hys5] at z; cases z) hways⟩
      refine ⟨ys ++ [.ref e], hand ++ [row], (PenTo.put hp p05 hd0).le (by omega), fun b o n1 n2 z => by rw [upd_ne n2]; exact fr5 b o n1 n2 z, upd_same, paired_app (paired_mono row_m (keep5.trans (keepd _)) hrows) (.cons (row_m _ _ _ _ (keepd _) rowI) .nil), by rw [List.length_append, List.length_singleton, hlen], fun r hr' => ?_, fun r hr' => ?_⟩
      · rcases List.mem_append.mp hr' with z | z
        · exact hrl r z
        · rw [List.mem_singleton.mp z]
          omega
      · rcases List.mem_append.mp hr' with z | z
        · exact hok r z
        · rw [List.mem_singleton.mp z]
          exact hok5
  · rintro H' ⟨ys, hand, pt, fr, hys, hrows, hlen, hrl, hok⟩
    have hlen' : hand.length = many := by omega
    obtain ⟨xs0, hx0⟩ := hp.some
    obtain ⟨xs1, hx1⟩ := (p1.same s2).pen.some
    have tkd : TK (upd H1 d (.lst [])) H' := fun b xs z => fr b _ (fun y => by rw [y, hx1] at z; cases z) (fun y => by rw [y, hHd] at z; cases z) z
    refine q _ _ hand (pt.le (by omega)) ⟨d, ys, rfl, by rw [nw_none hd0]; exact hys, paired_mono row_m (nw_backL (p := p) (fun b o n z => (p1.same s2).fr b o n z) hx0 hx1 tkd) hrows⟩ ⟨bo, by omega, hrl, fun row h1 wy h2 => by rw [hlen']; exact hok row h1 wy h2⟩
/-! ### _law_steps -/
abbrev s_law_steps : Stmt := top 39
abbrev n_law_steps : List Str := ["_law_pen", "_law_some", "_law_share", "_law_number", "_law_found", "_law_ahead", "_law_after"]
theorem sc_law_steps : FnScope n_law_steps ["_law_pen", "_law_some", "_law_share"] (defScope s_law_steps) := ⟨rfl, rfl, rfl, by decide +kernel, rfl, by decide +kernel, by decide +kernel⟩
def spSteps (K : PySem.W.Frag) : Sp := fun vs H Q _ => ∃ p sc v share N ss, vs = [.ref p, v, .int share] ∧ PenAt K H p sc N ∧ N ≤ 1000000 ∧ IsSts (mi p H) v ss ∧ ss.length ≤ 12 ∧
  ∀ v' H' steps, PenTo K p sc H H' (N + 1) → IsSteps (nw H H') v' steps → steps.length ≤ 144 → (∀ q ∈ steps, q.1 ∈ ss ∧ q.2 ∈ ss) → Q v' H'
theorem ok_law_steps (D : Def K mg "_law_steps" s_law_steps ["_law_pen", "_law_some", "_law_share"]) (T : Txt K mg) (c_law_next : Cal P w K mg base "_law_next" ["_law_pen", "_law_many"] 2 (spNext K)) : Cal P w K mg base "_law_steps" ["_law_pen", "_law_some", "_law_share"] 3 (spSteps K) := by
  refine D.cal sc_law_steps (fun vs H Q E h => ?_) (fun f cdv A outer s H vs Q E hr h => ?_)
  · obtain ⟨p, sc, v, share, N, ss, rfl, _⟩ := h
    rfl
  obtain ⟨p, sc, v, share, N, ss, rfl, hp, hN, ⟨a, us, rfl, ha, hus⟩, hss, q⟩ := h
  have hu := r64 hr
  refine ⟨_, (pss_cons (ps_set (i := 3) sc_law_steps.nd rfl (Or.inl rfl) (pe_cal c_law_next (hr.mono (by first | exact Nat.le_refl _ | decide | omega)) rfl (pa_cons (pv 0) (pa_cons pe_int pa_nil))))
    (pss_cons (ps_set (i := 4) sc_law_steps.nd rfl (Or.inl rfl) (pe_lst pa_nil))
    (pss_cons (ps_for PassesOwn.never rfl (pi_listK K (pv 1)) (pg_name (i := 5) sc_law_steps.nd rfl (Or.inl rfl)) (pss_one (ps_for PassesOwn.never rfl (pi_listK K (pv 1)) (pg_name (i := 6) sc_law_steps.nd rfl (Or.inl rfl)) (pss_cons (ps_set (i := 3) sc_law_steps.nd rfl (Or.inl rfl) (pe_op op_mod (pe_op op_add (pe_op op_mul (pv 3) pe_int) pe_int) pe_int))
            (pss_one (ps_if (PW.pt (pw_and (pt_cmpR (op_neDK K hu) (pv 5) (pv 6) (nomark _)) (pw_and1 (pt_cmpR op_lt (pe_op op_mod (pe_op op_fdiv (pv 3) pe_int) pe_int) (pv 2) (nomark _))))) (pss_one (ps_expr (pe_bm PySem.F.plainAttrs_list PySem.F.slot_list_append PySem.F.type_list_append mt_append (pv 4) (pa_cons (pe_tup (pa_cons (pv 5) (pa_cons (pv 6) pa_nil))) pa_nil)))) pss_nil))))))
    (pss_one (ps_ret (pv 4)))))), ?_⟩
  refine ⟨_, rfl, p, sc, _, N, rfl, hp, by omega, by decide, fun r0 H1 hr0 p1 => ⟨Nat.zero_le _, fun d hd => ?_⟩⟩
  have ndp := p1.pen.ne hd
  have hd0 : H d = none := by
    cases z : H d with
    | none => rfl
    | some o =>
      have := p1.fr _ _ ndp z
      rw [hd] at this
      cases this
  have ha0 := mi_some ha
  have nad : a ≠ d := fun z => by rw [z, hd0] at ha0; cases ha0.2
  have s2 := same_new hd (.lst [])
  have pt2 := p1.same s2
  have husH : Paired (IsSt H) us ss := paired_mono st_tm.mono mi_sub hus
  have hst : ∀ {H' : Hp} {M : Nat}, PenTo K p sc H H' M → Paired (IsSt H') us ss := fun pt => paired_tmono st_tm (pt.tk hp) husH
  refine ⟨_, rfl, a, rfl, ⟨_, SqL.of (pt2.fr _ _ ha0.1 ha0.2)⟩, for_it walk_list
    (fun i σ H' => ∃ (num : Int) (ys : List V) (steps : List Step), ∃ x5 x6, σ = [some (.ref p), some (.ref a), some (.int share), some (.int num), some (.ref d), x5, x6] ∧ PenTo K p sc H H' (N + 1) ∧ H' d = some (.lst ys) ∧ Paired (IsStep H') ys steps ∧ steps.length ≤ 12 * i ∧ ∀ q ∈ steps, q.1 ∈ ss ∧ q.2 ∈ ss)
    ⟨_, [], [], _, _, rfl, pt2, upd_same, .nil, Nat.zero_le _, fun q hq => absurd hq List.not_mem_nil⟩ (fun i σ H' _ ⟨_, _, _, _, _, _, pt, _⟩ => SqL.of (pt.fr _ _ ha0.1 ha0.2)) ?_ ?_⟩
  · rintro i u σ H'0 H' hi ⟨num, ys, steps, x5, x6, rfl, pt, hys, hst1, hlen, hin⟩ ⟨rfl, hx⟩
    obtain ⟨s1, hs1, _⟩ := paired_getl hus hx
    have hi12 : i < 12 := by have := (List.getElem?_eq_some_iff.mp hs1).1; omega
    refine ⟨_, rfl, a, rfl, ⟨_, SqL.of (pt.fr _ _ ha0.1 ha0.2)⟩, for_it walk_list
      (fun j σ H' => ∃ (num : Int) (ys : List V) (steps : List Step), ∃ x6, σ = [some (.ref p), some (.ref a), some (.int share), some (.int num), some (.ref d), some u, x6] ∧ PenTo K p sc H H' (N + 1) ∧ H' d = some (.lst ys) ∧ Paired (IsStep H') ys steps ∧ steps.length ≤ 12 * i + j ∧ ∀ q ∈ steps, q.1 ∈ ss ∧ q.2 ∈ ss)
      ⟨_, ys, steps, _, rfl, pt, hys, hst1, by omega, hin⟩ (fun i σ H' _ ⟨_, _, _, _, _, pt, _⟩ => SqL.of (pt.fr _ _ ha0.1 ha0.2)) ?_ ?_⟩
    · rintro j u2 σ H3'0 H3 hj ⟨num, ys, steps, x6, rfl, pt3, hys3, hst3, hlen3, hin3⟩ ⟨rfl, hx2⟩
      obtain ⟨s1', hs1', hu1⟩ := paired_getl (hst pt3) hx
      rw [hs1] at hs1'
      cases hs1'
      obtain ⟨s2', hs2, hu2⟩ := paired_getl (hst pt3) hx2
      have hj12 : j < 12 := by have := (List.getElem?_eq_some_iff.mp hs2).1; omega
      refine ⟨_, rfl, _, _, rfl, rfl, .inr (by decide), _, _, rfl, rfl, _, _, rfl, rfl, (by show (0 : Int) < 2147483647; decide), ?_⟩
      refine ⟨_, rfl, _, rfl, dSt s1, dSt s2', dp_st hu1, dp_st hu2, shaped_st _, shaped_st _, _, rfl, ?_⟩
      rw [eqv_st]
      by_cases c1 : s1 = s2'
      · exact ifF (by rw [decide_eq_true c1]; rfl) (ifF rfl ⟨_, ys, steps, _, rfl, pt3, hys3, hst3, by omega, hin3⟩)
      refine ifT (by rw [decide_eq_false c1]; rfl) ?_
      refine ⟨_, rfl, _, _, rfl, rfl, ⟨by decide, by decide⟩, _, _, rfl, rfl, (by show (0 : Int) < 32; decide), _, rfl, _, _, rfl, rfl, _, rfl, ?_⟩
      refine ite2 (fun _ => ?_) (fun _ => ?_)
      · refine ⟨_, rfl, .inl ⟨rfl, _, SqL.of hys3⟩, _, rfl, _, rfl, sz_of (show 2 ≤ 100000 by decide), fun t ht => ?_⟩
        have s4 := same_new ht (.tup [u, u2])
        have hys4 := s4 _ _ hys3
        have ntd : t ≠ d := fun z => by rw [z, hys3] at ht; cases ht
        refine ⟨d, ys, _, rfl, rfl, hys4, sz_lt (by rw [hst3.length]; omega), ?_⟩
        have tk : TK H3 (upd (upd H3 t (.tup [u, u2])) d (.lst (ys ++ [.ref t]))) := (TK.same s4).trans (TK.upd fun xs z => by rw [hys4] at z; cases z)
        refine ⟨_, ys ++ [.ref t], steps ++ [(s1, s2')], _, rfl, PenTo.put hp (pt3.same s4) hd0, upd_same, paired_app (paired_tmono step_tm tk hst3) (.cons ⟨t, u, u2, rfl, by rw [upd_ne ntd]; exact upd_same, st_tm _ _ _ _ tk hu1, st_tm _ _ _ _ tk hu2⟩ .nil), by rw [List.length_append, List.length_singleton]; omega, fun q hq => ?_⟩
        rcases List.mem_append.mp hq with z | z
        · exact hin3 q z
        · rw [List.mem_singleton.mp z]
          exact ⟨List.mem_of_getElem? hs1, List.mem_of_getElem? hs2⟩
      · exact ⟨_, ys, steps, _, rfl, pt3, hys3, hst3, by omega, hin3⟩
    · rintro σ H3 ⟨num, ys, steps, x6, rfl, pt3, hys3, hst3, hlen3, hin3⟩
      have := hus.length
      exact ⟨_, ys, steps, _, _, rfl, pt3, hys3, hst3, by omega, hin3⟩
  · rintro σ H' ⟨num, ys, steps, x5, x6, rfl, pt, hys, hst1, hlen, hin⟩
    have := hus.length
    exact ⟨_, rfl, q _ _ steps pt ⟨d, ys, rfl, by rw [nw_none hd0]; exact hys, paired_tmono step_tm (nw_tkP pt) hst1⟩ (by omega) hin⟩
/-! ### _law_own_steps -/
abbrev s_law_own_steps : Stmt := top 40
abbrev n_law_own_steps : List Str := ["_law_boxes_here", "_law_hand_here", "_law_some", "_law_found", "_law_row", "_law_way_here", "_law_stand", "_law_after"]
theorem sc_law_own_steps : FnScope n_law_own_steps ["_law_boxes_here", "_law_hand_here", "_law_some"] (defScope s_law_own_steps) := ⟨rfl, rfl, rfl, by decide +kernel, rfl, by decide +kernel, by decide +kernel⟩
def spLOwnSteps : Sp := fun vs H Q _ => ∃ vb vh v tops hand, vs = [vb, vh, v] ∧ IsBoxes H vb tops ∧ IsHand H vh hand ∧ IsSts H v (standsF tops) ∧ HandOk tops hand ∧
  ∀ v' H' steps, Same H H' → IsSteps (nw H H') v' steps → steps.length ≤ 1000 → (∀ q ∈ steps, Valid tops q.1 ∧ Valid tops q.2) → Q v' H'
def stepKeys (tops : List Int) : List NestedKey := (standsF tops).flatMap fun a => (standsF tops).map fun b => kStep (a, b)
theorem stepKeys_len {tops : List Int} (h : BoxOk tops) : (stepKeys tops).length ≤ 144 := by
  have q := len_flat2 (fun a => (standsF tops).map fun b => kStep (a, b)) 12 (standsF tops) fun p _ => by rw [List.length_map]; exact h.stands
  have := h.stands
  unfold stepKeys
  omega
theorem mem_stepKeys {tops : List Int} {a b : Stand} (ha : Valid tops a) (hb : Valid tops b) : kStep (a, b) ∈ stepKeys tops := List.mem_flatMap.mpr ⟨a, mem_standsF.mpr ha, List.mem_map.mpr ⟨b, mem_standsF.mpr hb, rfl⟩⟩
theorem ok_law_own_steps (D : Def K mg "_law_own_steps" s_law_own_steps ["_law_boxes_here", "_law_hand_here", "_law_some"]) (T : Txt K mg) (c_law_behind : Cal P w K mg base "_law_behind" ["_law_boxes_here", "_law_way_here", "_law_stand"] 5 spBehind) : Cal P w K mg base "_law_own_steps" ["_law_boxes_here", "_law_hand_here", "_law_some"] 6 spLOwnSteps := by
  refine D.cal sc_law_own_steps (fun vs H Q E h => ?_) (fun f cdv A outer s H vs Q E hr h => ?_)
  · obtain ⟨vb, vh, v, tops, hand, rfl, _⟩ := h
    rfl
  obtain ⟨vb, vh, v, tops, hand, rfl, hb, ⟨ah, rows, rfl, hah, hrows⟩, ⟨a, us, rfl, ha, hus⟩, ho, q⟩ := h
  have hu := r64 hr
  refine ⟨_, (pss_cons (ps_set (i := 3) sc_law_own_steps.nd rfl (Or.inl rfl) (pe_nnewK P w))
    (pss_cons (ps_for PassesOwn.never rfl (pi_listK K (pv 1)) (pg_name (i := 4) sc_law_own_steps.nd rfl (Or.inl rfl)) (pss_one (ps_for PassesOwn.never rfl (pi_listK K (pv 4)) (pg_name (i := 5) sc_law_own_steps.nd rfl (Or.inl rfl)) (pss_one (ps_for PassesOwn.never rfl (pi_listK K (pv 2)) (pg_name (i := 6) sc_law_own_steps.nd rfl (Or.inl rfl)) (pss_cons (ps_set (i := 7) sc_law_own_steps.nd rfl (Or.inl rfl) (pe_cal c_law_behind (hr.mono (by first | exact Nat.le_refl _ | decide | omega)) rfl (pa_cons (pv 0) (pa_cons (pv 5) (pa_cons (pv 6) pa_nil)))))
                (pss_one (ps_if (PW.pt (pw_and (pt_cmpR op_notN (pv 7) pe_non (nomark _)) (pw_and1 (pt_cmpR (op_neDK K hu) (pv 7) (pv 6) (nomark _))))) (pss_one (ps_nputK P w hu (pv 3) (pe_tup (pa_cons (pv 6) (pa_cons (pv 7) pa_nil))) pe_bl)) pss_nil))))))))
    (pss_one (ps_ret (pe_callB (call_nsortK K P w dStep hu) (by rfl) T.sorted (by decide +kernel) (pa_cons (pv 3) pa_nil)))))), ?_⟩
  intro d φ hd dn
  have s0 := same_new hd (.ext φ)
  have hU := stepKeys_len ho.box
  let Iv : Option V → L2.St → Hp → Prop := fun x4 σ H' => ∃ x5 x6 x7, ∃ S : NestedKey → Prop, σ = [some vb, some (.ref ah), some (.ref a), some (.ref d), x4, x5, x6, x7] ∧ Same H H' ∧ KeySet P w H' d S ∧ ∀ k, S k → ∃ s t, Valid tops s ∧ Valid tops t ∧ k = kStep (s, t)
  refine ⟨_, rfl, ah, rfl, ⟨_, SqL.of (s0 _ _ hah)⟩, for_it walk_list (fun i σ H' => ∃ x4, Iv x4 σ H') ⟨_, _, _, _, fun _ => False, rfl, s0, ⟨[], dn, fun k => ⟨fun z => (nomatch z), fun z => z.elim⟩⟩, fun k z => z.elim⟩ (fun i σ H' _ ⟨_, _, _, _, _, _, s, _⟩ => SqL.of (s _ _ hah)) ?_ ?_⟩
  · rintro i u σ H'0 H' hi ⟨x4, x5, x6, x7, S, rfl, s1, hks, hS⟩ ⟨rfl, hx⟩
    obtain ⟨row, hrow, ar, ws, rfl, har, hws⟩ := paired_getl hrows hx
    have hrm := List.mem_of_getElem? hrow
    refine ⟨_, rfl, ar, rfl, ⟨_, SqL.of (s1 _ _ har)⟩, for_it walk_list (fun j σ H' => ∃ x4, x4 = some (.ref ar) ∧ Iv x4 σ H') ⟨_, rfl, _, _, _, S, rfl, s1, hks, hS⟩ (fun i σ H' _ ⟨_, _, _, _, _, _, _, s, _⟩ => SqL.of (s _ _ har)) ?_ ?_⟩
    · rintro j uw σ H2'0 H2 hj ⟨_, rfl, x5, x6, x7, S, rfl, s2, hks, hS⟩ ⟨rfl, hx2⟩
      obtain ⟨wy, hwy, huw⟩ := paired_getl hws hx2
      have hwm := List.mem_of_getElem? hwy
      refine ⟨_, rfl, a, rfl, ⟨_, SqL.of (s2 _ _ ha)⟩, for_it walk_list (fun k σ H' => ∃ x6 x7, ∃ S : NestedKey → Prop, σ = [some vb, some (.ref ah), some (.ref a), some (.ref d), some (.ref ar), some uw, x6, x7] ∧ Same H H' ∧ KeySet P w H' d S ∧ ∀ k, S k → ∃ s t, Valid tops s ∧ Valid tops t ∧ k = kStep (s, t))
        ⟨_, _, S, rfl, s2, hks, hS⟩ (fun i σ H' _ ⟨_, _, _, _, s, _⟩ => SqL.of (s _ _ ha)) ?_ ?_⟩
      · rintro k u σ H3'0 H3 hk ⟨x6, x7, S, rfl, s3, hks, hS⟩ ⟨rfl, hx3⟩
        obtain ⟨st, hst, hsu⟩ := paired_getl hus hx3
        have hval := mem_standsF.mp (List.mem_of_getElem? hst)
        have wok := ho.ways row hrm wy hwm
        refine ⟨_, rfl, _, rfl, _, rfl, vb, uw, u, tops, wy, st, _, rfl, boxes_m _ _ _ _ s3 hb, way_tm.mono _ _ _ _ s3 huw, st_tm.mono _ _ _ _ s3 hsu, wok, hval, by have := ho.box.len; omega, fun v4 H4 s4 hov => ?_⟩
        have s04 := s3.trans s4
        cases hbe : beh tops wy st with
        | none =>
          rw [hbe] at hov
          have e : v4 = .non := hov
          subst e
          exact ⟨_, rfl, rfl, _, rfl, ifF rfl (ifF rfl ⟨_, _, S, rfl, s04, hks.same s4, hS⟩)⟩
        | some t =>
          rw [hbe] at hov
          have hov' : IsSt H4 v4 t := hov
          obtain ⟨bt, rfl, hbt⟩ := id hov'
          have hst4 := st_tm.mono _ _ _ _ s04 hsu
          refine ⟨_, rfl, rfl, _, rfl, ifT rfl ?_⟩
          refine ⟨_, rfl, _, rfl, dSt t, dSt st, dp_st hov', dp_st hst4, shaped_st _, shaped_st _, _, rfl, ?_⟩
          rw [eqv_st]
          by_cases c1 : t = st
          · exact ifF (by rw [decide_eq_true c1]; rfl) ⟨_, _, S, rfl, s04, hks.same s4, hS⟩
          refine ifT (by rw [decide_eq_false c1]; rfl) ?_
          refine ⟨_, rfl, _, rfl, _, rfl, sz_of (show 2 ≤ 100000 by decide), fun t5 ht5 => ?_⟩
          have s5 := same_new ht5 (.tup [u, .ref bt])
          refine ((hks.same s4).same s5).put (k := kStep (st, t)) (stepKeys tops) (fun k hk => ?_) (by omega) (key_pair (p := (st, t)) upd_same (st_tm.mono _ _ _ _ s5 hst4) (st_tm.mono _ _ _ _ s5 hov')) fun φ2 hk2 => ⟨_, _, _, rfl, fun c o e => ?_, hk2, fun k hk => ?_⟩
          · obtain ⟨a1, b1, h1, h2, e⟩ := hS k hk
            rw [e]
            exact mem_stepKeys h1 h2
          · rw [upd_ne (fun z => by rw [z, hd] at e; cases e)]
            exact s5 _ _ (s04 _ _ e)
          · rcases hk with e | z
            · exact ⟨st, t, hval, beh_valid wok hval hbe, e⟩
            · exact hS k z
      · rintro σ H3 ⟨x6, x7, S, rfl, s3, hks, hS⟩
        exact ⟨_, rfl, _, _, _, S, rfl, s3, hks, hS⟩
    · rintro σ H2 ⟨_, rfl, x5, x6, x7, S, rfl, s2, hks, hS⟩
      exact ⟨_, _, _, _, S, rfl, s2, hks, hS⟩
  · rintro σ H' ⟨x4, x5, x6, x7, S, rfl, s1, hks, hS⟩
    obtain ⟨kvs, dn1, hkv⟩ := hks
    obtain ⟨bs, hbs⟩ : ∃ bs : List Step, kvs.map (·.1) = bs.map kStep := unkey fun k hk => by
      obtain ⟨s, t, _, _, e⟩ := hS k ((hkv k).mp (mem_keys.mp hk))
      exact ⟨(s, t), e⟩
    have hval : ∀ q ∈ bs, Valid tops q.1 ∧ Valid tops q.2 := fun q hq => by
      have hm : kStep q ∈ kvs.map (·.1) := by rw [hbs]; exact List.mem_map.mpr ⟨q, hq, rfl⟩
      obtain ⟨s, t, h1, h2, e⟩ := hS _ ((hkv _).mp (mem_keys.mp hm))
      rw [kStep_inj e]
      exact ⟨h1, h2⟩
    have hlen : bs.length ≤ 144 := by
      have q := KeySet.len dn1 hkv (U := stepKeys tops) fun k hk => by
        obtain ⟨a1, b1, h1, h2, e⟩ := hS k hk
        rw [e]
        exact mem_stepKeys h1 h2
      have e : kvs.length = bs.length := by
        have := congrArg List.length hbs
        rw [List.length_map, List.length_map] at this
        exact this
      omega
    refine ⟨_, rfl, d, kvs, bs, IsStep H', rfl, dn1, fun ys hy => ?_, fun x b hx => dp_step hx, AllAlike.of fun _ _ => alike_step _ _, Sortable.tuples fun b => ⟨_, _, rfl⟩, fun b _ => by rw [depth_step]; decide, fun l ys hl hy => ?_⟩
    · rw [hbs] at hy
      exact paired_imp (paired_map' hy) fun v x _ ⟨b, e, nk⟩ => by rw [e]; exact step_of_key nk
    · have s2 := same_new hl (.lst ys)
      refine q _ _ _ (s1.trans s2) ⟨l, ys, rfl, by rw [nw_none (s1.free hl)]; exact upd_same, paired_tmono step_tm ((TK.same s2).trans (nw_tk (s1.trans s2))) hy⟩ (by rw [List.length_mergeSort]; omega) fun q' hq' => hval q' (List.mem_mergeSort.mp hq')
/-! ### _law_lacking -/
abbrev s_law_lacking : Stmt := top 47
abbrev n_law_lacking : List Str := ["_law_pen", "_law_paper", "_law_some", "_law_lacking_here", "_law_place", "_law_k", "_law_stand"]
theorem sc_law_lacking : FnScope n_law_lacking ["_law_pen", "_law_paper", "_law_some"] (defScope s_law_lacking) := ⟨rfl, rfl, rfl, by decide +kernel, rfl, by decide +kernel, by decide +kernel⟩
def spLacking (K : PySem.W.Frag) : Sp := fun vs H Q _ => ∃ p sc v vs' N paper ss, vs = [.ref p, v, vs'] ∧ PenAt K H p sc N ∧ N ≤ 1000000 ∧ IsPaper (mi p H) v paper ∧ IsSts (mi p H) vs' ss ∧ ss.length ≤ 12 ∧ paper.length ≤ 9 ∧
  ∀ v' H' xs, PenTo K p sc H H' (N + 4) → IsSpots (nw H H') v' xs → (∀ x ∈ xs, x.1 < paper.length ∧ x.2 ∈ ss ∧ ¬ InP paper x) → Q v' H'
theorem ok_law_lacking (D : Def K mg "_law_lacking" s_law_lacking ["_law_pen", "_law_paper", "_law_some"]) (T : Txt K mg) (c_law_next : Cal P w K mg base "_law_next" ["_law_pen", "_law_many"] 2 (spNext K)) : Cal P w K mg base "_law_lacking" ["_law_pen", "_law_paper", "_law_some"] 3 (spLacking K) := by
  refine D.cal sc_law_lacking (fun vs H Q E h => ?_) (fun f cdv A outer s H vs Q E hr h => ?_)
  · obtain ⟨p, sc, v, vs', N, paper, ss, rfl, _⟩ := h
    rfl
  obtain ⟨p, sc, v, vs', N, paper, ss, rfl, hp, hN, hpap, hsts, hss, hpl, q⟩ := h
  have hu := r64 hr
  have hu5 := r65 hr
  refine ⟨_, (pss_cons (ps_set (i := 3) sc_law_lacking.nd rfl (Or.inr rfl) (pe_lst pa_nil))
    (pss_cons (ps_for PassesOwn.never rfl (pi_range1 rfl T.range (pa_cons (pe_callB (call_lenK K) (by rfl) T.len PySem.boot_len (pa_cons (pv 1) pa_nil)) pa_nil)) (pg_name (i := 4) sc_law_lacking.nd rfl (Or.inr rfl)) (pss_one (ps_expr (pe_bm PySem.F.plainAttrs_list PySem.F.slot_list_extend PySem.F.type_list_extend mt_extend (pv 3) (pa_cons (pe_lc (own := [("_law_stand", 6)]) (g := gName 6) rfl sc_law_lacking.nd (pi_listK K (pv 2)) (blkOk_by (own := [("_law_stand", 6)]) (N := n_law_lacking) (sc := defScope s_law_lacking) (by decide +kernel)) (fun _ _ _ _ _ => (pg_name (i := 6) sc_law_lacking.nd rfl (Or.inl rfl))) (fun _ _ _ _ _ => (pts_one (pt_cmpR (op_notInDK K hu5) (pv 6) (pe_ix (ix_listK K) (pv 1) (pv 4) (fun _ _ => rfl)) (by rfl)))) (fun _ _ _ _ _ => (pe_tup (pa_cons (pv 4) (pa_cons (pv 6) pa_nil))))) pa_nil)))))
    (pss_cons (ps_if (pt_cmpR (op_eqDK K hu) (pv 3) (pe_lst pa_nil) (nomark _)) (pss_one (ps_ret (pe_lst pa_nil))) pss_nil)
    (pss_one (ps_ret (pe_lc (own := [("_law_k", 5)]) (g := gName 5) rfl sc_law_lacking.nd (pi_range1 rfl T.range (pa_cons pe_int pa_nil)) (blkOk_by (own := [("_law_k", 5)]) (N := n_law_lacking) (sc := defScope s_law_lacking) (by decide +kernel)) (fun _ _ _ _ _ => (pg_name (i := 5) sc_law_lacking.nd rfl (Or.inl rfl))) (fun _ _ _ _ _ => pts_nil) (fun _ _ _ _ _ => (pe_ix (ix_listK K) (pv 3) (pe_cal c_law_next (hr.mono (by first | exact Nat.le_refl _ | decide | omega)) rfl (pa_cons (pv 0) (pa_cons (pe_callB (call_lenK K) (by rfl) T.len PySem.boot_len (pa_cons (pv 3) pa_nil)) pa_nil))) (fun _ _ => rfl))))))))), ?_⟩
  have hpapH := paper_m _ _ _ _ mi_sub hpap
  have hstsH := sts_m _ _ _ _ mi_sub hsts
  obtain ⟨ap, rs, rfl, hap, hrs⟩ := id hpapH
  obtain ⟨a, us, rfl, ha, hus⟩ := id hstsH
  refine ⟨Nat.zero_le _, fun d hd => ?_⟩
  have s0 : Same H (upd H d (.lst [])) := same_new hd _
  have nad : a ≠ d := ne_of_none ha hd
  refine ⟨_, rfl, ap, _, rfl, .inl (SqL.of (s0 _ _ hap)), _, rfl, by omega, by rw [hrs.length]; omega, for_it walk_range
    (fun i σ H' => ∃ (ys : List V) (xs : List Spot), ∃ x4 x5 x6, σ = [some (.ref p), some (.ref ap), some (.ref a), some (.ref d), x4, x5, x6] ∧ Same H H' ∧ H' d = some (.lst ys) ∧ Paired (IsSpot H') ys xs ∧ xs.length ≤ 12 * i ∧ ∀ x ∈ xs, x.1 < paper.length ∧ x.2 ∈ ss ∧ ¬ InP paper x)
    ⟨[], [], _, _, _, rfl, s0, upd_same, .nil, Nat.zero_le _, fun x hx => absurd hx List.not_mem_nil⟩ (fun _ _ _ _ _ => True.intro) ?_ ?_⟩
  · rintro i v σ H'0 H' hi ⟨ys, xs, x4, x5, x6, rfl, s1, hys, hxs, hlen, hin⟩ ⟨rfl, hv⟩
    have hv' : v = .int (i : Int) := hv.trans (by show V.int (0 + (i : Int)) = _; rw [Int.zero_add])
    subst hv'
    have hi' : i < paper.length := by rw [hrs.length] at hi; omega
    obtain ⟨u, hu', hru⟩ := paired_get hrs (List.getElem?_eq_getElem hi')
    have hgd : paper.getD i [] = paper[i] := getD_some (List.getElem?_eq_getElem hi')
    refine ⟨_, rfl, .inl ⟨rfl, _, SqL.of hys⟩, ?_⟩
    refine ⟨_, rfl, a, rfl, ⟨_, SqL.of (s1 _ _ ha)⟩, lcP walk_list ss (fun s => !decide (s ∈ paper[i])) (fun s => ((i, s) : Spot)) IsSpot spot_tm.mono hus.length.symm (by rw [hus.length]; omega) (fun H2 s2 => SqL.of (s2 _ _ (s1 _ _ ha))) (fun j st H2 x H3 F N' hst s2 hy hN' hF => ?_) (fun D2 H2 s2 hv2 => ?_)⟩
    · obtain ⟨e1, e2⟩ := hy
      subst e1
      obtain ⟨y, hy1, hy2⟩ := paired_get hus hst
      rw [hy1] at e2
      cases Option.some.inj e2
      have s12 := s1.trans s2
      have hy3 := st_tm.mono _ _ _ _ s12 hy2
      refine ⟨rfl, ?_⟩
      refine ⟨_, rfl, _, rfl, _, rfl, ap, _, _, _, rfl, rfl, SqL.of (s12 _ _ hap), atI_nat hu', dSt st, _, dp_st hy3, dp_lst (fun v x h => dp_st h) (sts_m _ _ _ _ s12 hru), shaped_st _, shaped_lst lay_st (fun x => by rw [depth_st]; decide) _, _, rfl, ?_⟩
      rw [any_eqv eqv_st]
      by_cases c : st ∈ paper[i]
      · exact ifF (by simp [c]) (hN' _ (Same.refl _) (by simp [c]))
      · refine ifT (by simp [c]) ⟨_, rfl, _, rfl, sz_of (show 2 ≤ 100000 by decide), fun t ht => ?_⟩
        have s4 := same_new ht (.tup [.int (i : Int), x])
        exact hF _ _ s4 (by simp [c]) (nw_tm spot_tm s4 ⟨t, x, rfl, upd_same, st_tm.mono _ _ _ _ s4 hy3⟩)
    · obtain ⟨D3, zs, e3, hD3, hzs⟩ := hv2
      cases e3
      have hD2 := nw_sub (TK.same s2) _ _ hD3
      have hzs2 := paired_mono spot_tm.mono (nw_sub (TK.same s2)) hzs
      have hys2 := s2 _ _ hys
      have hfl : (ss.filter fun s => !decide (s ∈ paper[i])).length ≤ 12 := Nat.le_trans (List.length_filter_le _ _) hss
      have hzl : zs.length ≤ 12 := by rw [hzs.length, List.length_map]; exact hfl
      refine ⟨d, D2, ys, zs, rfl, rfl, hys2, hD2, sz_of (by rw [hxs.length]; omega), ?_⟩
      have tk : TK H2 (upd H2 d (.lst (ys ++ zs))) := TK.upd fun xs z => by rw [hys2] at z; cases z
      refine ⟨ys ++ zs, xs ++ _, _, _, _, rfl, fun c o e => ?_, upd_same, paired_app (paired_tmono spot_tm ((TK.same s2).trans tk) hxs) (paired_tmono spot_tm tk hzs2), by rw [List.length_append, List.length_map]; omega, fun x hx => ?_⟩
      · rw [upd_ne (fun z => by rw [z, hd] at e; cases e)]
        exact s2 _ _ (s1 _ _ e)
      · rcases List.mem_append.mp hx with z | z
        · exact hin x z
        · obtain ⟨s, hs, rfl⟩ := List.mem_map.mp z
          obtain ⟨h1, h2⟩ := List.mem_filter.mp hs
          refine ⟨hi', h1, ?_⟩
          unfold InP
          show s ∉ paper.getD i []
          rw [hgd]
          intro c
          rw [decide_eq_true c] at h2
          cases h2
  rintro σ H' ⟨ys, xs, x4, x5, x6, rfl, s1, hys, hxs, hlen, hin⟩
  have hl108 : xs.length ≤ 108 := by have := hrs.length; omega
  refine ⟨_, rfl, Nat.zero_le _, fun e he => ?_⟩
  have s2 := same_new he (.lst [])
  have s02 := s1.trans s2
  refine ⟨_, .list [], dp_lst (fun v x h => dp_spot h) (show LstOf IsSpot (upd H' e (.lst [])) (.ref d) xs from ⟨d, ys, rfl, s2 _ _ hys, paired_mono spot_tm.mono s2 hxs⟩), .lst (SqL.of upd_same) .nil, shaped_lst lay_spot (fun x => by rw [depth_spot]; decide) _, by decide +kernel, _, rfl, ?_⟩
  cases xs with
  | nil =>
    refine ifT (by simp [PyData.eqv, PyData.eqvAll]) ⟨Nat.zero_le _, fun l hl => ?_⟩
    have s3 := same_new hl (.lst [])
    exact q _ _ [] (PenTo.of (hp.le (by omega)) (s02.trans s3)) ⟨l, [], rfl, by rw [nw_none (s02.free hl)]; exact upd_same, .nil⟩ fun x hx => absurd hx List.not_mem_nil
  | cons x0 xr =>
    refine ifF (by simp [PyData.eqv, PyData.eqvAll]) ?_
    have hys2 := s2 _ _ hys
    have hxs2 := paired_mono spot_tm.mono s2 hxs
    have hpos : 0 < ys.length := by rw [hxs.length]; exact Nat.succ_pos _
    refine ⟨_, rfl, by omega, by omega, fun D hD => ?_⟩
    have pt0 : PenTo K p sc H (upd H' e (.lst [])) N := PenTo.of hp s02
    have nDp := pt0.pen.ne hD
    have ndD : d ≠ D := ne_of_none hys2 hD
    have hD0 : H D = none := s02.free hD
    have ndp := hp.ne hd
    refine lc_it walk_range
      (fun i H3 => ∃ (zs : List V) (sp : List Spot), PenTo K p sc H H3 (N + i) ∧ H3 d = some (.lst ys) ∧ Paired (IsSpot H3) ys (x0 :: xr) ∧ H3 D = some (.lst zs) ∧ Paired (IsSpot H3) zs sp ∧ sp.length ≤ i ∧ ∀ x ∈ sp, x.1 < paper.length ∧ x.2 ∈ ss ∧ ¬ InP paper x)
      ⟨[], [], pt0.same (same_new hD _), by rw [upd_ne ndD]; exact hys2, paired_mono spot_tm.mono (same_new hD _) hxs2, upd_same, .nil, Nat.le_refl _, fun x hx => absurd hx List.not_mem_nil⟩ (fun _ _ _ _ => True.intro) ?_ ?_
    · rintro i x H3'0 H3 hi ⟨zs, sp, pt3, hys3, hxs3, hzs3, hsp3, hsl, hspin⟩ ⟨rfl, hv⟩
      have hi4 : i < 4 := by omega
      refine ⟨rfl, yesT ?_⟩
      refine ⟨_, rfl, _, rfl, _, rfl, d, _, rfl, .inl (SqL.of hys3), p, sc, _, _, rfl, pt3.pen, by omega, by omega, fun r H4 hr4 p4 => ?_⟩
      have hr' : r < ys.length := by omega
      obtain ⟨y, hy, hyu⟩ := paired_getl hxs3 (List.getElem?_eq_getElem hr')
      have hys4 := p4.fr _ _ ndp hys3
      have hzs4 := p4.fr _ _ nDp hzs3
      have tk4 := p4.tk pt3.pen
      refine ⟨d, _, _, _, rfl, rfl, SqL.of hys4, atI_nat (List.getElem?_eq_getElem hr'), zs, hzs4, sz_lt (by rw [hsp3.length]; omega), ?_⟩
      have tk : TK H4 (upd H4 D (.lst (zs ++ [ys[r]]))) := TK.upd fun xs z => by rw [hzs4] at z; cases z
      refine ⟨_, sp ++ [y], (PenTo.put hp (pt3.trans p4) hD0).le (by omega), by rw [upd_ne ndD]; exact hys4, paired_tmono spot_tm (tk4.trans tk) hxs3, upd_same, paired_app (paired_tmono spot_tm (tk4.trans tk) hsp3) (.cons (spot_tm _ _ _ _ (tk4.trans tk) hyu) .nil), by rw [List.length_append, List.length_singleton]; omega, fun x hx => ?_⟩
      rcases List.mem_append.mp hx with z | z
      · exact hspin x z
      · rw [List.mem_singleton.mp z]
        exact hin y (List.mem_of_getElem? hy)
    · rintro H3 ⟨zs, sp, pt3, hys3, hxs3, hzs3, hsp3, hsl, hspin⟩
      exact q _ _ sp (pt3.le (by omega)) ⟨D, zs, rfl, by rw [nw_none hD0]; exact hzs3, paired_tmono spot_tm (nw_tkP pt3) hsp3⟩ hspin
end
end Hm
end

section
set_option Elab.async false
set_option linter.all false
set_option maxRecDepth 100000
set_option maxHeartbeats 4000000
/-! _law_drawn. -/
namespace Hm
open PySem L2 PySem.W
/-- the five things that are drawn -/
structure DataAt (H : Hp) (vb vh vp vo vn : V) (C : Cfg) : Prop where
  b : IsBoxes H vb C.tops
  h : IsHand H vh C.hand
  p : IsSteps H vp C.promise
  o : IsOthers H vo C.others
  n : IsNotes H vn C.notes
theorem DataAt.same {H H' : Hp} {vb vh vp vo vn : V} {C : Cfg} (d : DataAt H vb vh vp vo vn C) (s : Same H H') : DataAt H' vb vh vp vo vn C :=
  ⟨boxes_m _ _ _ _ s d.b, hand_m _ _ _ _ s d.h, steps_m _ _ _ _ s d.p, others_m _ _ _ _ s d.o, notes_m _ _ _ _ s d.n⟩
theorem pick4 {a b c d : Int} {r : Nat} (h : r < 4) : ∃ m : Int, [V.int a, V.int b, V.int c, V.int d][r]? = some (V.int m) := by
  match r, h with
  | 0, _ => exact ⟨_, rfl⟩
  | 1, _ => exact ⟨_, rfl⟩
  | 2, _ => exact ⟨_, rfl⟩
  | 3, _ => exact ⟨_, rfl⟩
theorem free_back {K : PySem.W.Frag} {p sc d : Addr} {H H1 : Hp} {N : Nat} (a : PenTo K p sc H H1 N) (hd : H1 d = none) (n : d ≠ p) : H d = none := by
  cases z : H d with
  | none => rfl
  | some o =>
    have := a.fr _ _ n z
    rw [hd] at this
    cases this
/-- a list that is new -/
theorem new_lst {α : Type} {R : Rp α} {H0 H : Hp} {v : V} {xs : List α} (h : LstOf R (nw H0 H) v xs) (hm : Mono R) (t : TK H0 H) : ∃ L us, v = .ref L ∧ H0 L = none ∧ H L = some (.lst us) ∧ Paired (R H) us xs := by
  obtain ⟨L, us, e, hL, hp⟩ := h
  refine ⟨L, us, e, ?_, nw_sub t _ _ hL, paired_mono hm (nw_sub t) hp⟩
  rcases nw_cases hL with ⟨xs, _, z⟩ | ⟨z, _⟩
  · cases z
  · exact z
section
variable {P : Program} {w : World} {K : PySem.W.Frag} {mg : Str → Option Value} {base : Heap}
abbrev s_law_drawn : Stmt := top 41
abbrev n_law_drawn : List Str := ["_law_script", "_law_pen", "_law_boxes_here", "_law_hand_here", "_law_some", "_law_promise", "_law_own", "_law_step", "_law_others", "_law_notes", "_law_place", "_law_other"]
theorem sc_law_drawn : FnScope n_law_drawn ["_law_script"] (defScope s_law_drawn) := ⟨rfl, rfl, rfl, by decide +kernel, rfl, by decide +kernel, by decide +kernel⟩
def spDrawn (K : PySem.W.Frag) : Sp := fun vs H Q _ => ∃ sc, ∃ ns : List Int, vs = [.ref sc] ∧ SqL K H sc (ns.map V.int) ∧ ns.length ≤ 1000 ∧ ∀ L H' vb vh vp vo vn p C, Same H H' → H' L = some (.lst [vb, vh, vp, vo, vn, .ref p]) → L ≠ p → PenAt K H' p sc 100000 → DataAt (mi p H') vb vh vp vo vn C → CfgOk C → Q (.ref L) H'
theorem ok_law_drawn (D : Def K mg "_law_drawn" s_law_drawn ["_law_script"]) (T : Txt K mg) (c_law_next : Cal P w K mg base "_law_next" ["_law_pen", "_law_many"] 2 (spNext K)) (c_law_boxes : Cal P w K mg base "_law_boxes" ["_law_pen", "_law_most"] 3 (spBoxes K)) (c_law_hand : Cal P w K mg base "_law_hand" ["_law_pen", "_law_boxes_here"] 8 (spHand K))
    (c_law_stands : Cal P w K mg base "_law_stands" ["_law_boxes_here"] 1 spStands) (c_law_steps : Cal P w K mg base "_law_steps" ["_law_pen", "_law_some", "_law_share"] 3 (spSteps K)) (c_law_own_steps : Cal P w K mg base "_law_own_steps" ["_law_boxes_here", "_law_hand_here", "_law_some"] 6 spLOwnSteps) (c_law_cond : Cal P w K mg base "_law_cond" ["_law_pen", "_law_boxes_here", "_law_deep"] 6 (spCond K 2 200)) :
    Cal P w K mg base "_law_drawn" ["_law_script"] 9 (spDrawn K) := by
  refine D.cal sc_law_drawn (fun vs H Q E h => ?_) (fun f cdv A outer s H vs Q E hr h => ?_)
  · obtain ⟨sc, ns, rfl, _⟩ := h
    rfl
  obtain ⟨sc, ns, rfl, hsc, hns, q⟩ := h
  have hu := r64 hr
  have hu5 := r65 hr
  refine ⟨_, (pss_cons (ps_set (i := 1) sc_law_drawn.nd rfl (Or.inr rfl) (pe_lst (pa_cons (pv 0) (pa_cons pe_int pa_nil))))
    (pss_cons (ps_set (i := 2) sc_law_drawn.nd rfl (Or.inl rfl) (pe_cal c_law_boxes (hr.mono (by first | exact Nat.le_refl _ | decide | omega)) rfl (pa_cons (pv 1) (pa_cons pe_int pa_nil))))
    (pss_cons (ps_set (i := 3) sc_law_drawn.nd rfl (Or.inl rfl) (pe_cal c_law_hand (hr.mono (by first | exact Nat.le_refl _ | decide | omega)) rfl (pa_cons (pv 1) (pa_cons (pv 2) pa_nil))))
    (pss_cons (ps_set (i := 4) sc_law_drawn.nd rfl (Or.inr rfl) (pe_cal c_law_stands (hr.mono (by first | exact Nat.le_refl _ | decide | omega)) rfl (pa_cons (pv 2) pa_nil)))
    (pss_cons (ps_set (i := 5) sc_law_drawn.nd rfl (Or.inl rfl) (pe_cal c_law_steps (hr.mono (by first | exact Nat.le_refl _ | decide | omega)) rfl (pa_cons (pv 1) (pa_cons (pv 4) (pa_cons (pe_ix (ix_listK K) (pe_lst (pa_cons pe_int (pa_cons pe_int (pa_cons pe_int (pa_cons pe_int pa_nil))))) (pe_cal c_law_next (hr.mono (by first | exact Nat.le_refl _ | decide | omega)) rfl (pa_cons (pv 1) (pa_cons pe_int pa_nil))) (fun _ _ => rfl)) pa_nil)))))
    (pss_cons (ps_if (pt_cmpR op_gt (pe_cal c_law_next (hr.mono (by first | exact Nat.le_refl _ | decide | omega)) rfl (pa_cons (pv 1) (pa_cons pe_int pa_nil))) pe_int (nomark _)) (pss_cons (ps_set (i := 6) sc_law_drawn.nd rfl (Or.inl rfl) (pe_cal c_law_own_steps (hr.mono (by first | exact Nat.le_refl _ | decide | omega)) rfl (pa_cons (pv 2) (pa_cons (pv 3) (pa_cons (pv 4) pa_nil)))))
        (pss_one (ps_for PassesOwn.never rfl (pi_listK K (pe_slice sl_list (pv 6) (po_some (pe_cal c_law_next (hr.mono (by first | exact Nat.le_refl _ | decide | omega)) rfl (pa_cons (pv 1) (pa_cons pe_int pa_nil)))) po_none)) (pg_name (i := 7) sc_law_drawn.nd rfl (Or.inl rfl)) (pss_one (ps_if (pt_cmpR (op_notInDK K hu5) (pv 7) (pv 5) (by rfl)) (pss_one (ps_expr (pe_bm PySem.F.plainAttrs_list PySem.F.slot_list_append PySem.F.type_list_append mt_append (pv 5) (pa_cons (pv 7) pa_nil)))) pss_nil))))) pss_nil)
    (pss_cons (ps_setLc (i := 8) (own := [("_law_other", 11)]) (g := gName 11) rfl sc_law_drawn.nd rfl rfl (sw_true rfl rfl rfl (by decide +kernel)) (pi_range1 rfl T.range (pa_cons (pe_cal c_law_next (hr.mono (by first | exact Nat.le_refl _ | decide | omega)) rfl (pa_cons (pv 1) (pa_cons pe_int pa_nil))) pa_nil)) (blkOk_by (own := [("_law_other", 11)]) (N := n_law_drawn) (sc := defScope s_law_drawn) (by decide +kernel)) (fun _ _ _ _ _ => (pg_name (i := 11) sc_law_drawn.nd rfl (Or.inl rfl))) (fun _ _ _ _ _ => pts_nil) (fun _ _ _ _ _ => (pe_cal c_law_steps (hr.mono (by first | exact Nat.le_refl _ | decide | omega)) rfl (pa_cons (pv 1) (pa_cons (pv 4) (pa_cons (pe_ix (ix_listK K) (pe_lst (pa_cons pe_int (pa_cons pe_int (pa_cons pe_int (pa_cons pe_int pa_nil))))) (pe_cal c_law_next (hr.mono (by first | exact Nat.le_refl _ | decide | omega)) rfl (pa_cons (pv 1) (pa_cons pe_int pa_nil))) (fun _ _ => rfl)) pa_nil))))))
    (pss_cons (ps_set (i := 9) sc_law_drawn.nd rfl (Or.inl rfl) (pe_lst pa_nil))
    (pss_cons (ps_for PassesOwn.never rfl (pi_range1 rfl T.range (pa_cons (pe_op op_add (pe_callB (call_lenK K) (by rfl) T.len PySem.boot_len (pa_cons (pv 3) pa_nil)) pe_int) pa_nil)) (pg_name (i := 10) sc_law_drawn.nd rfl (Or.inl rfl)) (pss_one (ps_expr (pe_bm PySem.F.plainAttrs_list PySem.F.slot_list_append PySem.F.type_list_append mt_append (pv 9) (pa_cons (pe_ix (ix_listK K) (pe_lst (pa_cons (pe_tup (pa_cons pe_str pa_nil)) (pa_cons (pe_tup (pa_cons pe_str (pa_cons (pe_cal c_law_cond (hr.mono (by first | exact Nat.le_refl _ | decide | omega)) rfl (pa_cons (pv 1) (pa_cons (pv 2) (pa_cons pe_int pa_nil)))) pa_nil))) (pa_cons (pe_cal c_law_cond (hr.mono (by first | exact Nat.le_refl _ | decide | omega)) rfl (pa_cons (pv 1) (pa_cons (pv 2) (pa_cons pe_int pa_nil)))) pa_nil)))) (pe_cal c_law_next (hr.mono (by first | exact Nat.le_refl _ | decide | omega)) rfl (pa_cons (pv 1) (pa_cons pe_int pa_nil))) (fun _ _ => rfl)) pa_nil)))))
    (pss_one (ps_ret (pe_lst (pa_cons (pv 2) (pa_cons (pv 3) (pa_cons (pe_callB (call_sortK K dStep hu) (by rfl) T.sorted (by decide +kernel) (pa_cons (pv 5) pa_nil)) (pa_cons (pv 8) (pa_cons (pv 9) (pa_cons (pv 1) pa_nil)))))))))))))))))), ?_⟩
  -- the pen
  refine ⟨_, rfl, sz_of (show 2 ≤ 100000 by decide), fun p hp => ?_⟩
  have s1 : Same H (upd H p (.lst [.ref sc, .int 0])) := same_new hp _
  have pen1 : PenAt K (upd H p (.lst [.ref sc, .int 0])) p sc 0 := ⟨ns, 0, upd_same, (ScAt.of hsc hp).fr fun b o _ e => s1 _ _ e, hns, Nat.le_refl _⟩
  -- boxes
  refine ⟨_, rfl, p, sc, 0, rfl, pen1, by decide, fun vb H2 tops p2 bo hb0 => ?_⟩
  have hb2 := boxes_m _ _ _ _ (nw_mi pen1 (p2.tk pen1)) hb0
  -- hand
  refine ⟨_, rfl, _, rfl, p, sc, vb, _, tops, rfl, p2.pen, by omega, hb2, bo, fun vh H3 hand p3 hh0 ho => ?_⟩
  have p13 := p2.trans p3
  have hb3 := boxes_m _ _ _ _ p3.mi hb2
  have hh3 := hand_m _ _ _ _ (nw_mi p2.pen (p3.tk p2.pen)) hh0
  -- stands
  refine ⟨_, rfl, vb, tops, rfl, boxes_m _ _ _ _ mi_sub hb3, bo, fun vs4 H4 s4 hs0 => ?_⟩
  have p14 := p13.same s4
  have hb4 := boxes_m _ _ _ _ (mi_same s4) hb3
  have hh4 := hand_m _ _ _ _ (mi_same s4) hh3
  have hs4 := sts_m _ _ _ _ (nw_mi p13.pen (TK.same s4)) hs0
  have h12 := bo.stands
  -- promise
  refine ⟨_, rfl, _, rfl, sz_of (show 4 ≤ 100000 by decide), fun l5 hl5 => ?_⟩
  have p45 : PenTo K p sc H4 (upd H4 l5 (.lst [.int 0, .int 8, .int 24, .int 32])) _ := PenTo.of p14.pen (same_new hl5 _)
  refine ⟨_, rfl, p, sc, _, _, rfl, p45.pen, by omega, by decide, fun r6 H6 hr6 p6 => ?_⟩
  have p46 := p45.trans p6
  obtain ⟨m6, hm6⟩ := pick4 (a := 0) (b := 8) (c := 24) (d := 32) (show r6 < 4 by omega)
  refine ⟨l5, _, _, _, rfl, rfl, SqL.of (p6.fr _ _ (p14.pen.ne hl5) upd_same), atI_nat hm6, p, sc, vs4, m6, _, _, rfl, p46.pen, by omega, sts_m _ _ _ _ p46.mi hs4, h12, fun vp H7 prom0 p7 hp0 hlp0 hvp0 => ?_⟩
  have p47 := p46.trans p7
  obtain ⟨ap, us0, rfl, hap6, hap7, hus7⟩ := new_lst hp0 step_tm.mono (p7.tk p46.pen)
  have nap := p46.pen.ne hap6
  have hap4 := free_back p46 hap6 nap
  -- more of it
  refine ⟨_, rfl, p, sc, _, _, rfl, p47.pen, by omega, by decide, fun r8 H8 hr8 p8 => ?_⟩
  have p48 := p47.trans p8
  have hap8 := p8.fr _ _ nap hap7
  have hus8 := paired_tmono step_tm (p8.tk p47.pen) hus7
  have hval0 : ∀ q ∈ prom0, Valid tops q.1 ∧ Valid tops q.2 := fun q hq => ⟨mem_standsF.mp (hvp0 q hq).1, mem_standsF.mp (hvp0 q hq).2⟩
  refine ⟨_, _, rfl, rfl, _, rfl, ?_⟩
  refine ite2 (fun _ => ?thn) (fun _ => ?els)
  case' thn =>
    refine ⟨_, rfl, _, rfl, _, rfl, vb, vh, vs4, tops, hand, rfl, boxes_m _ _ _ _ mi_sub (boxes_m _ _ _ _ p48.mi hb4), hand_m _ _ _ _ mi_sub (hand_m _ _ _ _ p48.mi hh4), sts_m _ _ _ _ mi_sub (sts_m _ _ _ _ p48.mi hs4), ho, fun vw H9 own s9 hw0 hlw hvw => ?_⟩
    obtain ⟨aw, ws, rfl, haw8, haw9, hws9⟩ := new_lst hw0 step_tm.mono (TK.same s9)
    have p49 := p48.same s9
    have naw := p48.pen.ne haw8
    refine ⟨_, rfl, _, rfl, p, sc, _, _, rfl, p49.pen, by omega, by decide, fun r10 H10 hr10 p10 => ?_⟩
    have p410 := p49.trans p10
    refine ⟨_, rfl, aw, ws, rfl, SqL.of (p10.fr _ _ naw haw9), fun c hc => ?_⟩
    have s11 := same_new hc (.lst (cutV ws (some (r10 : Int)) none))
    obtain ⟨cs, hcs0, hcsin, hcsl⟩ := paired_cut (paired_tmono step_tm ((p10.tk p49.pen).trans (TK.same s11)) hws9) (some (r10 : Int)) none
    have p411 := p410.same s11
    have hap10 := p10.fr _ _ nap (s9 _ _ hap8)
    have nca : c ≠ ap := fun z => by rw [z, hap10] at hc; cases hc
    refine ⟨c, rfl, ⟨_, SqL.of upd_same⟩, for_it walk_list
      (fun i σ H' => ∃ (us : List V) (prom : List Step), ∃ x7, σ = [some (.ref sc), some (.ref p), some vb, some vh, some vs4, some (.ref ap), some (.ref aw), x7, none, none, none, none] ∧ PenTo K p sc H4 H' 40000 ∧ H' ap = some (.lst us) ∧ H' c = some (.lst (cutV ws (some (r10 : Int)) none)) ∧ Paired (IsStep H') us prom ∧
        Paired (IsStep H') (cutV ws (some (r10 : Int)) none) cs ∧ prom.length ≤ 144 + i ∧ ∀ q ∈ prom, Valid tops q.1 ∧ Valid tops q.2)
      ⟨us0, prom0, _, rfl, p411.le (by omega), s11 _ _ hap10, upd_same, paired_tmono step_tm (((TK.same s9).trans (p10.tk p49.pen)).trans (TK.same s11)) hus8, hcs0, by omega, hval0⟩ (fun i σ H' _ ⟨_, _, _, _, _, _, z, _⟩ => SqL.of z) ?step ?_⟩
    case step =>
      rintro i u σ H12'0 H12 hi ⟨us, prom, x7, rfl, pt, hap, hc12, hus, hcs, hlen, hval⟩ ⟨rfl, hx⟩
      obtain ⟨st, hst, hsu⟩ := paired_getl hcs hx
      have hi1000 : i < 1000 := by have := (List.getElem?_eq_some_iff.mp hst).1; omega
      refine ⟨_, rfl, _, rfl, dStep st, _, dp_step hsu, dp_lst (fun v x h => dp_step h) (show LstOf IsStep H12 (.ref ap) prom from ⟨ap, us, rfl, hap, hus⟩), shaped_step _, shaped_lst lay_step (fun x => by rw [depth_step]; decide) _, _, rfl, ?_⟩
      rw [any_eqv eqv_step]
      by_cases c1 : st ∈ prom
      · exact ifF (by simp [c1]) ⟨us, prom, _, rfl, pt, hap, hc12, hus, hcs, by omega, hval⟩
      refine ifT (by simp [c1]) ⟨_, rfl, .inl ⟨rfl, _, SqL.of hap⟩, _, rfl, ap, us, _, rfl, rfl, hap, sz_lt (by rw [hus.length]; omega), ?_⟩
      have tk : TK H12 (upd H12 ap (.lst (us ++ [u]))) := TK.upd fun xs z => by rw [hap] at z; cases z
      refine ⟨us ++ [u], prom ++ [st], _, rfl, PenTo.put p14.pen pt hap4, upd_same, by rw [upd_ne nca]; exact hc12, paired_app (paired_tmono step_tm tk hus) (.cons (step_tm _ _ _ _ tk hsu) .nil), paired_tmono step_tm tk hcs, by rw [List.length_append, List.length_singleton]; omega, fun q hq => ?_⟩
      rcases List.mem_append.mp hq with z | z
      · exact hval q z
      · rw [List.mem_singleton.mp z]
        exact hvw st (hcsin st (List.mem_of_getElem? hst))
    rintro σ H12 ⟨us, prom, x7, rfl, pt, hap, _, hus, _, hlen, hval⟩
    have hlen : prom.length ≤ 2000 := by rw [hcs0.length] at hlen; omega
  case' els =>
    obtain ⟨us, hueq⟩ : ∃ us, us = us0 := ⟨_, rfl⟩
    obtain ⟨prom, hpeq⟩ : ∃ prom, prom = prom0 := ⟨_, rfl⟩
    have pt : PenTo K p sc H4 H8 40000 := p48.le (by omega)
    have hap := hap8
    have hus := hus8
    have hlen : prom0.length ≤ 2000 := by omega
    have hval := hval0
    rw [← hueq] at hap hus
    rw [← hpeq] at hus hlen hval
  all_goals
    -- others
    refine ⟨_, rfl, p, sc, _, _, rfl, pt.pen, by omega, by decide, fun r13 H13 hr13 p13' => ?_⟩
    have pt13 := pt.trans p13'
    refine ⟨_, rfl, by omega, by omega, fun d hd => ?_⟩
    have ndp := pt13.pen.ne hd
    have hd4 := free_back pt13 hd ndp
    have hap13 := p13'.fr _ _ nap hap
    have nda : ap ≠ d := ne_of_none hap13 hd
    have pd : PenTo K p sc H4 (upd H13 d (.lst [])) 40001 := (pt13.same (same_new hd _)).le (by omega)
    have hHd : upd H13 d (.lst []) d = some (.lst []) := upd_same
    obtain ⟨xsp, hxsp⟩ := pd.pen.some
    refine lc_it walk_range
      (fun i H' => ∃ (ys : List V) (others : List (List Step)), PenTo K p sc H4 H' (40001 + 2 * i) ∧ (∀ b o, b ≠ p → b ≠ d → upd H13 d (.lst []) b = some o → H' b = some o) ∧ H' d = some (.lst ys) ∧ Paired (IsSteps (nw (upd H13 d (.lst [])) H')) ys others ∧ others.length ≤ i ∧
        ∀ st ∈ others, st.length ≤ 144 ∧ ∀ q ∈ st, Valid tops q.1 ∧ Valid tops q.2)
      ⟨[], [], pd, fun b o _ _ e => e, hHd, .nil, Nat.le_refl _, fun st h => absurd h List.not_mem_nil⟩ (fun _ _ _ _ => True.intro) ?_ ?_
    · rintro i x H14'0 H14 hi ⟨ys, others, pt14, fr, hys, hos, hol, hok⟩ ⟨rfl, hv⟩
      have hi2 : i < 3 := by omega
      refine ⟨rfl, yesT ?_⟩
      refine ⟨_, rfl, _, rfl, sz_of (show 4 ≤ 100000 by decide), fun l hl => ?_⟩
      have pt15 := pt14.same (same_new hl (.lst [.int 0, .int 1, .int 2, .int 5]))
      refine ⟨_, rfl, p, sc, _, _, rfl, pt15.pen, by omega, by decide, fun r16 H16 hr16 p16 => ?_⟩
      obtain ⟨m16, hm16⟩ := pick4 (a := 0) (b := 1) (c := 2) (d := 5) (show r16 < 4 by omega)
      have pt16 := pt15.trans p16
      refine ⟨l, _, _, _, rfl, rfl, SqL.of (p16.fr _ _ (pt14.pen.ne hl) upd_same), atI_nat hm16, p, sc, vs4, m16, _, _, rfl, pt16.pen, by omega, sts_m _ _ _ _ pt16.mi hs4, h12, fun v17 H17 st p17 h17 hl17 hv17 => ?_⟩
      have pt17 := pt16.trans p17
      have fr17 : ∀ b o, b ≠ p → H14 b = some o → H17 b = some o := fun b o n e => p17.fr _ _ n (p16.fr _ _ n (same_new hl _ _ _ e))
      have hys17 := fr17 _ _ ndp hys
      have keepd : ∀ xs, Same (nw (upd H13 d (.lst [])) H17) (nw (upd H13 d (.lst [])) (upd H17 d (.lst xs))) := fun xs => nw_on fun b o e1 e2 => by
        rw [upd_ne (fun z => by rw [z, hHd] at e1; cases e1)]
        exact e2
      have keep17 : Same (nw (upd H13 d (.lst [])) H14) (nw (upd H13 d (.lst [])) H17) := nw_on fun b o e1 e2 => fr17 _ _ (fun z => by rw [z, hxsp] at e1; cases e1) e2
      obtain ⟨a17, us17, rfl, ha16, ha17, hus17⟩ := new_lst h17 step_tm.mono (p17.tk pt16.pen)
      have na17 := pt16.pen.ne ha16
      have ha14 : H14 a17 = none := by
        cases z : H14 a17 with
        | none => rfl
        | some o =>
          have := p16.fr _ _ na17 (same_new hl (.lst [.int 0, .int 1, .int 2, .int 5]) _ _ z)
          rw [ha16] at this
          cases this
      have haD : upd H13 d (.lst []) a17 = none := by
        cases z : upd H13 d (.lst []) a17 with
        | none => rfl
        | some o =>
          have := fr a17 o na17 (fun z => by rw [z, hys17] at ha17; rw [z, hys] at ha14; cases ha14) z
          rw [ha14] at this
          cases this
      have stI : IsSteps (nw (upd H13 d (.lst [])) H17) (.ref a17) st := ⟨a17, us17, rfl, by rw [nw_none haD]; exact ha17, paired_tmono step_tm (nw_tk2 (fun b o n1 n2 z => fr17 b o n1 (fr b o n1 n2 z)) pt17.pen.noTup fun xs z => by rw [hys17] at z; cases z) hus17⟩
      refine ⟨ys, hys17, sz_lt (by rw [hos.length]; omega), ys ++ [.ref a17], others ++ [st], (PenTo.put p14.pen pt17 hd4).le (by omega), fun b o n1 n2 z => by rw [upd_ne n2]; exact fr17 b o n1 (fr b o n1 n2 z), upd_same, paired_app (paired_mono steps_m (keep17.trans (keepd _)) hos) (.cons (steps_m _ _ _ _ (keepd _) stI) .nil), by rw [List.length_append, List.length_singleton]; omega, fun s hs => ?_⟩
      rcases List.mem_append.mp hs with z | z
      · exact hok s z
      · rw [List.mem_singleton.mp z]
        exact ⟨hl17, fun q hq => ⟨mem_standsF.mp (hv17 q hq).1, mem_standsF.mp (hv17 q hq).2⟩⟩
    · rintro H14 ⟨yo, others, pt14, fr14, hyo, hos14, hol, hok⟩
      have hap14 := fr14 _ _ nap nda (by rw [upd_ne nda]; exact hap13)
      have tkd : TK (upd H13 d (.lst [])) H14 := fun b xs z => fr14 b _ (fun y => by rw [y, hxsp] at z; cases z) (fun y => by rw [y, hHd] at z; cases z) z
      have hus14 : Paired (IsStep H14) us prom := paired_tmono step_tm (((p13'.tk pt.pen).trans (TK.same (same_new hd _))).trans tkd) hus
      have ho14 : IsOthers (mi p H14) (.ref d) others := ⟨d, yo, rfl, by rw [mi_ne ndp]; exact hyo, paired_mono steps_m (nw_mi pd.pen tkd) hos14⟩
      -- notes
      refine ⟨Nat.zero_le _, fun dn hdn => ?_⟩
      have ndnp := pt14.pen.ne hdn
      have s15 := same_new hdn (.lst [])
      have hh4' := hand_m _ _ _ _ mi_sub hh4
      obtain ⟨ah, rows, rfl, hah, hrows⟩ := id hh4
      have hah' := mi_some hah
      have h8 := ho.rows
      refine ⟨_, rfl, ah, _, rfl, .inl (SqL.of ((pt14.same s15).fr _ _ hah'.1 hah'.2)), _, _, rfl, rfl, _, rfl, by rw [hrows.length]; omega, by rw [hrows.length]; omega, for_it walk_range
        (fun i σ H' => ∃ (zs : List V) (cs : List Cd), ∃ x10 x6 x7, σ = [some (.ref sc), some (.ref p), some vb, some (.ref ah), some vs4, some (.ref ap), x6, x7, some (.ref d), some (.ref dn), x10, none] ∧ PenTo K p sc H14 H' (41000 + 500 * i) ∧ H' dn = some (.lst zs) ∧ Paired (IsCd H') zs cs ∧ cs.length = i ∧ ∀ c ∈ cs, c.ok tops.length)
        ⟨[], [], _, _, _, rfl, (PenTo.of pt14.pen s15).le (by omega), upd_same, .nil, rfl, fun c h => absurd h List.not_mem_nil⟩ (fun _ _ _ _ _ => True.intro) ?_ ?_⟩
      · rintro i v σ H16'0 H16 hi ⟨zs, cs, x10, x6, x7, rfl, pt16, hzs, hcs, hcl, hcok⟩ ⟨rfl, hv⟩
        have hi9 : i < 9 := by rw [hrows.length] at hi; omega
        have pt416 : PenTo K p sc H4 H16 _ := pt14.trans pt16
        refine ⟨_, rfl, .inl ⟨rfl, _, SqL.of hzs⟩, ?_⟩
        refine ⟨sz_of (show 1 ≤ 100000 by decide), fun t1 ht1 => ?_⟩
        have p17 := pt416.same (same_new ht1 (.tup [.str "yes"]))
        refine ⟨_, rfl, _, rfl, p, sc, vb, 0, _, tops, rfl, p17.pen, by omega, boxes_m _ _ _ _ p17.mi hb4, bo, by decide, fun v18 H18 c18 p18 hc18 wf18 dp18 sd18 => ⟨sz_of (show 2 ≤ 100000 by decide), fun t2 ht2 => ?_⟩⟩
        have p19 := (p17.trans p18).same (same_new ht2 (.tup [.str "not", v18]))
        refine ⟨_, rfl, _, rfl, p, sc, vb, 1, _, tops, rfl, p19.pen, by omega, boxes_m _ _ _ _ p19.mi hb4, bo, by decide, fun v20 H20 c20 p20 hc20 wf20 dp20 sd20 => ⟨sz_of (show 3 ≤ 100000 by decide), fun l hl => ?_⟩⟩
        have p21 := (p19.trans p20).same (same_new hl (.lst [.ref t1, .ref t2, v20]))
        refine ⟨_, rfl, p, sc, _, _, rfl, p21.pen, by omega, by decide, fun r22 H22 hr22 p22 => ?_⟩
        have p422 := p21.trans p22
        have tk1822 : TK H18 H22 := (((TK.same (same_new ht2 (.tup [.str "not", v18]))).trans (p20.tk p19.pen)).trans (TK.same (same_new hl _))).trans (p22.tk p21.pen)
        have tk2022 : TK H20 H22 := (TK.same (same_new hl (.lst [.ref t1, .ref t2, v20]))).trans (p22.tk p21.pen)
        have tk2 : TK (upd H18 t2 (.tup [.str "not", v18])) H22 := (p20.tk p19.pen).trans tk2022
        have tk1 : TK (upd H16 t1 (.tup [.str "yes"])) H22 := ((p18.tk p17.pen).trans tk1822)
        have pn22 : PenTo K p sc H16 H22 (41000 + 500 * i + 200 + 200 + 1) := ⟨fun b o n e => p22.fr _ _ n (same_new hl _ _ _ (p20.fr _ _ n (same_new ht2 _ _ _ (p18.fr _ _ n (same_new ht1 _ _ _ e))))), p22.pen.le (by omega)⟩
        have hzs22 := pn22.fr _ _ ndnp hzs
        obtain ⟨vx, cx, hvx, hcx, okx⟩ : ∃ vx cx, [V.ref t1, .ref t2, v20][r22]? = some vx ∧ IsCd H22 vx cx ∧ Cd.ok tops.length cx := by
          have h3 : r22 < 3 := by omega
          match r22, h3 with
          | 0, _ => exact ⟨_, .yes, rfl, .yes (tk1 _ _ upd_same), True.intro, Nat.zero_le _, True.intro⟩
          | 1, _ => exact ⟨_, .not c18, rfl, .not (tk2 _ _ upd_same) (cd_tm _ _ _ _ tk1822 hc18), wf18, Nat.succ_le_succ dp18, sd18⟩
          | 2, _ => exact ⟨_, c20, rfl, cd_tm _ _ _ _ tk2022 hc20, wf20, dp20, sd20⟩
          | (n + 3), h => omega
        refine ⟨l, _, _, _, rfl, rfl, SqL.of (p22.fr _ _ ((p19.trans p20).pen.ne hl) upd_same), atI_nat hvx, dn, zs, _, rfl, rfl, hzs22, sz_lt (by rw [hcs.length]; omega), ?_⟩
        have tk : TK H22 (upd H22 dn (.lst (zs ++ [vx]))) := TK.upd fun xs z => by rw [hzs22] at z; cases z
        refine ⟨zs ++ [vx], cs ++ [cx], _, _, _, rfl, (PenTo.put pt14.pen (pt16.trans pn22) hdn).le (by omega), upd_same, paired_app (paired_tmono cd_tm ((pn22.tk pt16.pen).trans tk) hcs) (.cons (cd_tm _ _ _ _ tk hcx) .nil), by rw [List.length_append, List.length_singleton, hcl], fun c hc => ?_⟩
        rcases List.mem_append.mp hc with z | z
        · exact hcok c z
        · rw [List.mem_singleton.mp z]
          exact okx
      · rintro σ H16 ⟨zs, cs, x10, x6, x7, rfl, pt16, hzs, hcs, hcl, hcok⟩
        have p416 : PenTo K p sc H4 H16 _ := pt14.trans pt16
        have hap16 := pt16.fr _ _ nap hap14
        have hus16 := paired_tmono step_tm (pt16.tk pt14.pen) hus14
        refine ⟨_, rfl, _, rfl, _, rfl, ap, us, prom, IsStep H16, rfl, SqL.of hap16, hus16, fun x b hx => dp_step hx, AllAlike.of fun _ _ => alike_step _ _, Sortable.tuples fun b => ⟨_, _, rfl⟩, fun b _ => by rw [depth_step]; decide, fun l ys hl hy => ?_⟩
        have s17 := same_new hl (.lst ys)
        refine ⟨_, rfl, _, rfl, _, rfl, sz_of (show 6 ≤ 100000 by decide), fun L hL => ?_⟩
        have s18 := same_new hL (.lst [vb, .ref ah, .ref l, .ref d, .ref dn, .ref p])
        have s1618 := s17.trans s18
        have pF : PenTo K p sc H4 _ _ := p416.same s1618
        have nlp := p416.pen.ne hl
        have penF := pF.pen
        refine q L _ vb (.ref ah) (.ref l) (.ref d) (.ref dn) p ⟨tops, hand, prom.mergeSort (dataLe false dStep), others, cs⟩ (fun b o e => ?_) upd_same (fun z => ?_) (penF.le (by rw [hrows.length]; omega)) ⟨boxes_m _ _ _ _ pF.mi hb4, hand_m _ _ _ _ pF.mi hh4, ⟨l, ys, rfl, ?_, paired_tmono step_tm ?_ hy⟩, others_m _ _ _ _ (pt16.mi.trans (mi_same s1618)) ho14, ⟨dn, zs, rfl, ?_, paired_tmono cd_tm ?_ hcs⟩⟩ ⟨⟨ho.ways, fun st hst q hq => (hok st hst).2 q hq, ?_, hcok⟩, ho, ?_, fun st hst => by have := (hok st hst).1; omega, ?_⟩
        · exact pF.fr _ _ (fun z => by rw [z, hp] at e; cases e) (s4 _ _ (p3.fr _ _ (fun z => by rw [z, hp] at e; cases e) (p2.fr _ _ (fun z => by rw [z, hp] at e; cases e) (s1 _ _ e))))
        · rw [z] at hL
          obtain ⟨xs, hxs⟩ := (p416.same s17).pen.some
          rw [hL] at hxs
          cases hxs
        · rw [mi_ne nlp]
          exact s18 _ _ upd_same
        · intro b xs e
          rw [mi_ne (fun z => p416.pen.noTup xs (by rw [← z]; exact e))]
          exact s1618 _ _ e
        · rw [mi_ne ndnp]
          exact s1618 _ _ hzs
        · intro b xs e
          rw [mi_ne (fun z => p416.pen.noTup xs (by rw [← z]; exact e))]
          exact s1618 _ _ e
        · show cs.length = hand.length + 1
          rw [hcl, hrows.length]
          omega
        · show others.length ≤ 2
          omega
        · show (prom.mergeSort (dataLe false dStep)).length ≤ 50000
          rw [List.length_mergeSort]
          omega
end
end Hm
end

section
set_option Elab.async false
set_option linter.all false
set_option maxRecDepth 100000
set_option maxHeartbeats 4000000
/-! _law_leads, _law_breaks, _law_kept, _law_more, _law_begin_due. -/
namespace Hm
open PySem L2 PySem.W
theorem row_of {H : Hp} {ah : Addr} {hand : Hand} {p : Nat} {row : List Way} (h : IsHand H (.ref ah) hand) (e : hand[p]? = some row) : ∃ rows ar ws, H ah = some (.lst rows) ∧ rows[p]? = some (.ref ar) ∧ H ar = some (.lst ws) ∧ Paired (IsWay H) ws row := by
  obtain ⟨b, rows, eb, hb, hp⟩ := h
  cases eb
  obtain ⟨u, hu, ar, ws, rfl, har, hws⟩ := paired_get hp e
  exact ⟨rows, ar, ws, hb, hu, har, hws⟩
theorem ways_some {C : Cfg} {p : Nat} {row : List Way} (e : C.hand[p]? = some row) : C.ways p = row := getD_some e
theorem ways_none {C : Cfg} {p : Nat} (h : C.hand.length ≤ p) : C.ways p = [] := by
  unfold Cfg.ways
  rw [List.getD_eq_getElem?_getD, List.getElem?_eq_none h]
  rfl
section
variable {P : Program} {w : World} {K : PySem.W.Frag} {mg : Str → Option Value} {base : Heap}
/-! ### _law_leads -/
abbrev s_law_leads : Stmt := top 42
abbrev n_law_leads : List Str := ["_law_boxes_here", "_law_hand_here", "_law_others", "_law_place", "_law_stand", "_law_found", "_law_way_here", "_law_after", "_law_steps_here", "_law_ahead"]
theorem sc_law_leads : FnScope n_law_leads ["_law_boxes_here", "_law_hand_here", "_law_others", "_law_place", "_law_stand"] (defScope s_law_leads) := ⟨rfl, rfl, rfl, by decide +kernel, rfl, by decide +kernel, by decide +kernel⟩
def spLLeads : Sp := fun vs H Q _ => ∃ vb vh vo u p s, ∃ C : Cfg, vs = [vb, vh, vo, .int ((p : Nat) : Int), u] ∧ IsBoxes H vb C.tops ∧ IsHand H vh C.hand ∧ IsOthers H vo C.others ∧ IsSt H u s ∧ CfgOk C ∧ p ≤ C.hand.length ∧ Valid C.tops s ∧
  ∀ v H' xs, Same H H' → IsSpots (nw H H') v xs → xs.length ≤ 2100 → (∀ y, y ∈ xs ↔ C.Lead (p, s) y) → Q v H'
theorem ok_law_leads (D : Def K mg "_law_leads" s_law_leads ["_law_boxes_here", "_law_hand_here", "_law_others", "_law_place", "_law_stand"]) (T : Txt K mg) (c_law_behind : Cal P w K mg base "_law_behind" ["_law_boxes_here", "_law_way_here", "_law_stand"] 5 spBehind) : Cal P w K mg base "_law_leads" ["_law_boxes_here", "_law_hand_here", "_law_others", "_law_place", "_law_stand"] 6 spLLeads := by
  refine D.cal sc_law_leads (fun vs H Q E h => ?_) (fun f cdv A outer s H vs Q E hr h => ?_)
  · obtain ⟨vb, vh, vo, u, p, s, C, rfl, _⟩ := h
    rfl
  obtain ⟨vb, vh, vo, u, p, st, C, rfl, hb, hh, ⟨ao, os, rfl, hao, hos⟩, hst, co, hp, hv, q⟩ := h
  have hu := r64 hr
  refine ⟨_, (pss_cons (ps_set (i := 5) sc_law_leads.nd rfl (Or.inl rfl) (pe_lst pa_nil))
    (pss_cons (ps_if (pt_cmpR op_lt (pv 3) (pe_callB (call_lenK K) (by rfl) T.len PySem.boot_len (pa_cons (pv 1) pa_nil)) (nomark _)) (pss_one (ps_for PassesOwn.never rfl (pi_listK K (pe_ix (ix_listK K) (pv 1) (pv 3) (fun _ _ => rfl))) (pg_name (i := 6) sc_law_leads.nd rfl (Or.inl rfl)) (pss_cons (ps_set (i := 7) sc_law_leads.nd rfl (Or.inl rfl) (pe_cal c_law_behind (hr.mono (by first | exact Nat.le_refl _ | decide | omega)) rfl (pa_cons (pv 0) (pa_cons (pv 6) (pa_cons (pv 4) pa_nil)))))
            (pss_one (ps_if (pt_cmpR op_notN (pv 7) pe_non (nomark _)) (pss_one (ps_expr (pe_bm PySem.F.plainAttrs_list PySem.F.slot_list_append PySem.F.type_list_append mt_append (pv 5) (pa_cons (pe_tup (pa_cons (pe_ix (ix_tupK K) (pv 6) pe_int (fun _ _ => rfl)) (pa_cons (pv 7) pa_nil))) pa_nil)))) pss_nil))))) pss_nil)
    (pss_cons (ps_for PassesOwn.never rfl (pi_listK K (pv 2)) (pg_name (i := 8) sc_law_leads.nd rfl (Or.inl rfl)) (pss_one (ps_expr (pe_bm PySem.F.plainAttrs_list PySem.F.slot_list_extend PySem.F.type_list_extend mt_extend (pv 5) (pa_cons (pe_lc (own := [("_law_ahead", 9), ("_law_after", 7)]) rfl sc_law_leads.nd (pi_listK K (pv 8)) (blkOk_by (own := [("_law_ahead", 9), ("_law_after", 7)]) (N := n_law_leads) (sc := defScope s_law_leads) (by decide +kernel)) (fun _ _ _ _ _ => (pg_tupK (n := 2) K rfl (pgs_cons (pg_name (i := 9) sc_law_leads.nd rfl (Or.inl rfl)) (pgs_cons (pg_name (i := 7) sc_law_leads.nd rfl (Or.inl rfl)) pgs_nil)))) (fun _ _ _ _ _ => (pts_one (pt_cmpR (op_eqDK K hu) (pv 9) (pv 4) (nomark _)))) (fun _ _ _ _ _ => (pe_tup (pa_cons (pv 3) (pa_cons (pv 7) pa_nil))))) pa_nil)))))
    (pss_one (ps_ret (pv 5)))))), ?_⟩
  obtain ⟨ah, rows, rfl, hah, hrows⟩ := id hh
  refine ⟨Nat.zero_le _, fun d hd => ?_⟩
  have s0 : Same H (upd H d (.lst [])) := same_new hd _
  refine ⟨_, rfl, _, rfl, ah, _, rfl, .inl (SqL.of (s0 _ _ hah)), _, _, rfl, rfl, _, rfl, ?_⟩
  refine ite2 (fun hc => ?thn) (fun hc => ?els)
  case' thn =>
    have hlt : p < C.hand.length := by
      have := of_decide_eq_true hc
      rw [hrows.length] at this
      omega
    obtain ⟨rows', ar, ws, g1, g2, g3, g4⟩ := row_of hh (List.getElem?_eq_getElem hlt)
    have hways := ways_some (List.getElem?_eq_getElem hlt)
    have hrm : C.hand[p] ∈ C.hand := List.getElem_mem hlt
    have hr8 := co.hand.row _ hrm
    refine ⟨_, rfl, _, rfl, ah, _, _, _, rfl, rfl, SqL.of (s0 _ _ g1), atI_nat g2, ar, rfl, ⟨_, SqL.of (s0 _ _ g3)⟩, for_it walk_list
      (fun i σ H' => ∃ (ys : List V) (xs : List Spot), ∃ x6 x7, σ = [some vb, some (.ref ah), some (.ref ao), some (.int (p : Int)), some u, some (.ref d), x6, x7, none, none] ∧ Same H H' ∧ H' d = some (.lst ys) ∧ Paired (IsSpot H') ys xs ∧ xs.length ≤ i ∧ ∀ y, y ∈ xs ↔ ∃ wy ∈ C.hand[p].take i, wy.nx = y.1 ∧ beh C.tops wy st = some y.2)
      ⟨[], [], _, _, rfl, s0, upd_same, .nil, Nat.le_refl _, fun y => ⟨fun h => absurd h List.not_mem_nil, fun ⟨_, h, _⟩ => by simp at h⟩⟩ (fun i σ H' _ ⟨_, _, _, _, _, s, _⟩ => SqL.of (s _ _ g3)) ?step ?_⟩
    case step =>
      rintro i uw σ H1'0 H1 hi ⟨ys, xs, x6, x7, rfl, s1, hys, hxs, hlen, hmem⟩ ⟨rfl, hx⟩
      obtain ⟨wy, hwy, huw⟩ := paired_getl g4 hx
      have wok := co.ok.ways _ hrm wy (List.mem_of_getElem? hwy)
      have hi8 : i < 8 := by have := (List.getElem?_eq_some_iff.mp hwy).1; omega
      obtain ⟨aw, gw, pw, ps, rfl, haw, hgw, hpw⟩ := id huw
      refine ⟨_, rfl, _, rfl, _, rfl, vb, _, u, C.tops, wy, st, _, rfl, boxes_m _ _ _ _ s1 hb, way_tm.mono _ _ _ _ s1 huw, st_tm.mono _ _ _ _ s1 hst, wok, hv, by have := co.hand.box.len; omega, fun v2 H2 s2 hov => ?_⟩
      have s02 := s1.trans s2
      cases hbe : beh C.tops wy st with
      | none =>
        rw [hbe] at hov
        have e : v2 = .non := hov
        subst e
        refine ⟨_, rfl, rfl, _, rfl, ifF rfl ⟨ys, xs, _, _, rfl, s02, s2 _ _ hys, paired_mono spot_tm.mono s2 hxs, by omega, fun y => ?_⟩⟩
        rw [hmem]
        constructor
        · rintro ⟨wy', h1, h2⟩
          exact ⟨wy', (mem_take_succ hwy).mpr (.inl h1), h2⟩
        · rintro ⟨wy', h1, h2⟩
          rcases (mem_take_succ hwy).mp h1 with z | z
          · exact ⟨wy', z, h2⟩
          · rw [z, hbe] at h2
            cases h2.2
      | some t =>
        rw [hbe] at hov
        have hov' : IsSt H2 v2 t := hov
        obtain ⟨bt, rfl, hbt⟩ := id hov'
        refine ⟨_, rfl, rfl, _, rfl, ifT rfl ?_⟩
        have hys2 := s2 _ _ hys
        refine ⟨_, rfl, .inl ⟨rfl, _, SqL.of hys2⟩, _, rfl, aw, _, _, _, rfl, rfl, SqT.of (s02 _ _ haw), atI_nat (j := 2) rfl, _, rfl, sz_of (show 2 ≤ 100000 by decide), fun t3 ht3 => ?_⟩
        have s3 := same_new ht3 (.tup [.int (wy.nx : Int), .ref bt])
        have hys3 := s3 _ _ hys2
        have ntd : t3 ≠ d := fun z => by rw [z, hys2] at ht3; cases ht3
        refine ⟨d, ys, _, rfl, rfl, hys3, sz_lt (by rw [hxs.length]; omega), ?_⟩
        have tk : TK H2 (upd (upd H2 t3 (.tup [.int (wy.nx : Int), .ref bt])) d (.lst (ys ++ [.ref t3]))) := (TK.same s3).trans (TK.upd fun xs z => by rw [hys3] at z; cases z)
        refine ⟨_, xs ++ [(wy.nx, t)], _, _, rfl, fun c o e => ?_, upd_same, paired_app (paired_tmono spot_tm ((TK.same s2).trans tk) hxs) (.cons ⟨t3, _, rfl, by rw [upd_ne ntd]; exact upd_same, st_tm _ _ _ _ tk hov'⟩ .nil), by rw [List.length_append, List.length_singleton]; omega, fun y => ?_⟩
        · rw [upd_ne (fun z => by rw [z, hd] at e; cases e)]
          exact s3 _ _ (s02 _ _ e)
        · rw [List.mem_append, hmem, List.mem_singleton]
          constructor
          · rintro (⟨wy', h1, h2⟩ | rfl)
            · exact ⟨wy', (mem_take_succ hwy).mpr (.inl h1), h2⟩
            · exact ⟨wy, (mem_take_succ hwy).mpr (.inr rfl), rfl, hbe⟩
          · rintro ⟨wy', h1, h2⟩
            rcases (mem_take_succ hwy).mp h1 with z | z
            · exact .inl ⟨wy', z, h2⟩
            · rw [z, hbe] at h2
              exact .inr (Prod.ext h2.1.symm (Option.some.inj h2.2).symm)
    rintro σ H1 ⟨ys, xs, x6, x7, rfl, s1, hys, hxs, hlen, hmem⟩
    have hown : ∀ y, y ∈ xs ↔ C.Own (p, st) y := fun y => by
      rw [hmem, g4.length, take_all, ← hways]
      exact Iff.rfl
    have hl8 : xs.length ≤ 8 := by have := g4.length; omega
  case' els =>
    obtain ⟨ys, hyeq⟩ : ∃ ys : List V, ys = [] := ⟨_, rfl⟩
    obtain ⟨xs, hxeq⟩ : ∃ xs : List Spot, xs = [] := ⟨_, rfl⟩
    have s1 := s0
    have hys : upd H d (.lst []) d = some (.lst ys) := by rw [hyeq]; exact upd_same
    have hxs : Paired (IsSpot (upd H d (.lst []))) ys xs := by rw [hyeq, hxeq]; exact .nil
    have hl8 : xs.length ≤ 8 := by rw [hxeq]; exact Nat.zero_le _
    have hge : C.hand.length ≤ p := by
      have := of_decide_eq_false (Bool.eq_false_iff.mpr hc)
      rw [hrows.length] at this
      omega
    have hown : ∀ y, y ∈ xs ↔ C.Own (p, st) y := fun y => by
      rw [hxeq]
      refine ⟨fun h => absurd h List.not_mem_nil, fun ⟨wy, hwy, _⟩ => ?_⟩
      rw [show C.ways (p, st).1 = [] from ways_none hge] at hwy
      exact absurd hwy List.not_mem_nil
  all_goals
    refine ⟨_, rfl, ao, rfl, ⟨_, SqL.of (s1 _ _ hao)⟩, for_it walk_list
      (fun i σ H' => ∃ (ys : List V) (xs : List Spot), ∃ x6 x7 x8 x9, σ = [some vb, some (.ref ah), some (.ref ao), some (.int (p : Int)), some u, some (.ref d), x6, x7, x8, x9] ∧ Same H H' ∧ H' d = some (.lst ys) ∧ Paired (IsSpot H') ys xs ∧ xs.length ≤ 8 + 1000 * i ∧ ∀ y, y ∈ xs ↔ C.Own (p, st) y ∨ p = y.1 ∧ ∃ sts ∈ C.others.take i, (st, y.2) ∈ sts)
      ⟨ys, xs, _, _, _, _, rfl, s1, hys, hxs, by omega, fun y => by rw [hown]; simp⟩ (fun i σ H' _ ⟨_, _, _, _, _, _, _, s, _⟩ => SqL.of (s _ _ hao)) ?_ ?_⟩
    · rintro i us σ H2'0 H2 hi ⟨ys, xs, x6, x7, x8, x9, rfl, s2, hys, hxs, hlen, hmem⟩ ⟨rfl, hx⟩
      obtain ⟨sts, hsts, as, qs, rfl, has, hqs⟩ := paired_getl hos hx
      have hstm := List.mem_of_getElem? hsts
      have h1000 := co.osteps sts hstm
      have hi2 : i < 2 := Nat.lt_of_lt_of_le (List.getElem?_eq_some_iff.mp hsts).1 co.others
      have ndH : ∀ {b o}, H b = some o → b ≠ d := fun e z => by rw [z, hd] at e; cases e
      refine ⟨_, rfl, .inl ⟨rfl, _, SqL.of hys⟩, ?_⟩
      refine ⟨_, rfl, as, rfl, ⟨_, SqL.of (s2 _ _ has)⟩, lcP walk_list sts (fun q => decide (q.1 = st)) (fun q => ((p, q.2) : Spot)) IsSpot spot_tm.mono hqs.length.symm (by rw [hqs.length]; omega) (fun H3 s3 => SqL.of (s3 _ _ (s2 _ _ has))) (fun j q H3 x H4 F N' hq s3 hy hN' hF => ?_) (fun D2 H3 s3 hv3 => ?_)⟩
      · obtain ⟨e1, e2⟩ := hy
        subst e1
        obtain ⟨y, hy1, b, xa, xb, rfl, hbb, hxa, hxb⟩ := paired_get hqs hq
        rw [hy1] at e2
        cases Option.some.inj e2
        have s23 := s2.trans s3
        refine ⟨b, _, rfl, SqT.of (s23 _ _ hbb), rfl, _, _, rfl, _, _, rfl, rfl, rfl, ?_⟩
        refine ⟨_, rfl, _, rfl, dSt q.1, dSt st, dp_st (st_tm.mono _ _ _ _ s23 hxa), dp_st (st_tm.mono _ _ _ _ s23 hst), shaped_st _, shaped_st _, _, rfl, ?_⟩
        rw [eqv_st]
        by_cases c : q.1 = st
        · refine ifT (decide_eq_true c) ⟨_, rfl, _, rfl, sz_of (show 2 ≤ 100000 by decide), fun t ht => ?_⟩
          have s4 := same_new ht (.tup [.int (p : Int), xb])
          exact hF _ _ s4 (decide_eq_true c) (nw_tm spot_tm s4 ⟨t, xb, rfl, upd_same, st_tm.mono _ _ _ _ (s23.trans s4) hxb⟩)
        · exact ifF (decide_eq_false c) (hN' _ (Same.refl _) (decide_eq_false c))
      · obtain ⟨D3, zs, e3, hD3, hzs⟩ := hv3
        cases e3
        have hD2 := nw_sub (TK.same s3) _ _ hD3
        have hzs2 := paired_mono spot_tm.mono (nw_sub (TK.same s3)) hzs
        have hys2 := s3 _ _ hys
        have hfl : (sts.filter fun q => decide (q.1 = st)).length ≤ 1000 := Nat.le_trans (List.length_filter_le _ _) h1000
        have hzl : zs.length ≤ 1000 := by rw [hzs.length, List.length_map]; exact hfl
        refine ⟨d, D2, ys, zs, rfl, rfl, hys2, hD2, sz_of (by rw [hxs.length]; omega), ?_⟩
        have tk : TK H3 (upd H3 d (.lst (ys ++ zs))) := TK.upd fun xs z => by rw [hys2] at z; cases z
        refine ⟨ys ++ zs, xs ++ _, _, _, _, _, rfl, fun c o e => ?_, upd_same, paired_app (paired_tmono spot_tm ((TK.same s3).trans tk) hxs) (paired_tmono spot_tm tk hzs2), by rw [List.length_append, List.length_map]; omega, fun y => ?_⟩
        · rw [upd_ne (ndH e)]
          exact s3 _ _ (s2 _ _ e)
        · rw [List.mem_append, hmem, List.mem_map]
          constructor
          · rintro ((z | ⟨z1, st', z2, z3⟩) | ⟨q, hq, rfl⟩)
            · exact .inl z
            · exact .inr ⟨z1, st', (mem_take_succ hsts).mpr (.inl z2), z3⟩
            · obtain ⟨h1, h2⟩ := List.mem_filter.mp hq
              have e := of_decide_eq_true h2
              exact .inr ⟨rfl, sts, (mem_take_succ hsts).mpr (.inr rfl), by rw [← e]; exact h1⟩
          · rintro (z | ⟨z1, st', z2, z3⟩)
            · exact .inl (.inl z)
            · rcases (mem_take_succ hsts).mp z2 with z | z
              · exact .inl (.inr ⟨z1, st', z, z3⟩)
              · rw [z] at z3
                exact .inr ⟨(st, y.2), List.mem_filter.mpr ⟨z3, decide_eq_true rfl⟩, Prod.ext z1 rfl⟩
    · rintro σ H2 ⟨ys, xs, x6, x7, x8, x9, rfl, s2, hys, hxs, hlen, hmem⟩
      have hol := hos.length
      have ho2 := co.others
      refine ⟨_, rfl, q _ _ xs s2 ⟨d, ys, rfl, by rw [nw_none hd]; exact hys, paired_tmono spot_tm (nw_tk s2) hxs⟩ (by omega) fun y => ?_⟩
      rw [hmem, hol, take_all]
      exact Iff.rfl
/-! ### _law_breaks -/
abbrev s_law_breaks : Stmt := top 43
abbrev n_law_breaks : List Str := ["_law_boxes_here", "_law_hand_here", "_law_promise", "_law_note", "_law_place", "_law_stand", "_law_way_here", "_law_after"]
theorem sc_law_breaks : FnScope n_law_breaks ["_law_boxes_here", "_law_hand_here", "_law_promise", "_law_note", "_law_place", "_law_stand"] (defScope s_law_breaks) := ⟨rfl, rfl, rfl, by decide +kernel, rfl, by decide +kernel, by decide +kernel⟩
def spLBreaks : Sp := fun vs H Q _ => ∃ vb vh vp vn u p s, ∃ C : Cfg, vs = [vb, vh, vp, vn, .int ((p : Nat) : Int), u] ∧ IsBoxes H vb C.tops ∧ IsHand H vh C.hand ∧ IsSteps H vp C.promise ∧ IsCd H vn (C.note p) ∧ IsSt H u s ∧ CfgOk C ∧ p ≤ C.hand.length ∧ Valid C.tops s ∧
  ∀ b H', Same H H' → (b = true ↔ C.Brk (p, s)) → Q (.bl b) H'
theorem ok_law_breaks (D : Def K mg "_law_breaks" s_law_breaks ["_law_boxes_here", "_law_hand_here", "_law_promise", "_law_note", "_law_place", "_law_stand"]) (T : Txt K mg) (c_law_behind : Cal P w K mg base "_law_behind" ["_law_boxes_here", "_law_way_here", "_law_stand"] 5 spBehind) (c_law_holds : Cal P w K mg base "_law_holds" ["_law_cond_here", "_law_stand"] 4 (spLHolds 2)) :
    Cal P w K mg base "_law_breaks" ["_law_boxes_here", "_law_hand_here", "_law_promise", "_law_note", "_law_place", "_law_stand"] 6 spLBreaks := by
  refine D.cal sc_law_breaks (fun vs H Q E h => ?_) (fun f cdv A outer s H vs Q E hr h => ?_)
  · obtain ⟨vb, vh, vp, vn, u, p, s, C, rfl, _⟩ := h
    rfl
  obtain ⟨vb, vh, vp, vn, u, p, st, C, rfl, hb, hh, hpr, hnt, hst, co, hp, hv, q⟩ := h
  have hu := r64 hr
  have hu5 := r65 hr
  refine ⟨_, (pss_cons (ps_if (pt_not (pt_val (pe_cal c_law_holds (hr.mono (by first | exact Nat.le_refl _ | decide | omega)) rfl (pa_cons (pv 3) (pa_cons (pv 5) pa_nil))))) (pss_one (ps_ret pe_bl)) pss_nil)
    (pss_cons (ps_if (pt_cmpR op_lt (pv 4) (pe_callB (call_lenK K) (by rfl) T.len PySem.boot_len (pa_cons (pv 1) pa_nil)) (nomark _)) (pss_one (ps_for PassesOwn.never rfl (pi_listK K (pe_ix (ix_listK K) (pv 1) (pv 4) (fun _ _ => rfl))) (pg_name (i := 6) sc_law_breaks.nd rfl (Or.inl rfl)) (pss_cons (ps_set (i := 7) sc_law_breaks.nd rfl (Or.inl rfl) (pe_cal c_law_behind (hr.mono (by first | exact Nat.le_refl _ | decide | omega)) rfl (pa_cons (pv 0) (pa_cons (pv 6) (pa_cons (pv 5) pa_nil)))))
            (pss_one (ps_if (PW.pt (pw_and (pt_cmpR op_notN (pv 7) pe_non (nomark _)) (pw_and (pt_cmpR (op_neDK K hu) (pv 7) (pv 5) (nomark _)) (pw_and1 (pt_cmpR (op_notInDK K hu5) (pe_tup (pa_cons (pv 5) (pa_cons (pv 7) pa_nil))) (pv 2) (by rfl)))))) (pss_one (ps_ret pe_bl)) pss_nil))))) pss_nil)
    (pss_one (ps_ret pe_bl)))), ?_⟩
  obtain ⟨ah, rows, rfl, hah, hrows⟩ := id hh
  obtain ⟨hnote, noteOk⟩ := co.noteAt hp
  refine ⟨_, rfl, _, rfl, vn, u, C.note p, st, rfl, hnt, hst, Nat.lt_succ_of_le noteOk.dep, noteOk.sdep, by rw [hv.1]; exact noteOk.wf, _, rfl, ?_⟩
  cases hcs : (C.note p).holds st with
  | false => exact ifT rfl (q true _ (Same.refl _) ⟨fun _ => .inl hcs, fun _ => rfl⟩)
  | true =>
    refine ifF rfl ?_
    have nob : ∀ {b}, ¬ C.PB (p, st) → b = false → (b = true ↔ C.Brk (p, st)) := fun n e => by
      rw [e]
      refine ⟨fun z => (nomatch z), ?_⟩
      rintro (z | z)
      · rw [show (C.note (p, st).1).holds (p, st).2 = true from hcs] at z
        cases z
      · exact absurd z n
    refine ⟨_, rfl, _, rfl, ah, _, rfl, .inl (SqL.of hah), _, _, rfl, rfl, _, rfl, ?_⟩
    by_cases hc : p < C.hand.length
    case neg =>
      refine ifF (decide_eq_false (by rw [hrows.length]; omega)) (q false _ (Same.refl _) (nob (fun ⟨wy, hwy, _⟩ => ?_) rfl))
      rw [show C.ways (p, st).1 = [] from ways_none (by show C.hand.length ≤ p; omega)] at hwy
      exact absurd hwy List.not_mem_nil
    refine ifT (decide_eq_true (by rw [hrows.length]; omega)) ?_
    obtain ⟨rows', ar, ws, g1, g2, g3, g4⟩ := row_of hh (List.getElem?_eq_getElem hc)
    have hways := ways_some (List.getElem?_eq_getElem hc)
    have hrm : C.hand[p] ∈ C.hand := List.getElem_mem hc
    refine ⟨_, rfl, _, rfl, ah, _, _, _, rfl, rfl, SqL.of g1, atI_nat g2, ar, rfl, ⟨_, SqL.of g3⟩, for_it walk_list
      (fun i σ H' => ∃ x6 x7, σ = [some vb, some (.ref ah), some vp, some vn, some (.int (p : Int)), some u, x6, x7] ∧ Same H H' ∧ ∀ wy ∈ C.hand[p].take i, ¬ ∃ t, beh C.tops wy st = some t ∧ t ≠ st ∧ (st, t) ∉ C.promise)
      ⟨_, _, rfl, Same.refl _, fun wy h => by simp at h⟩ (fun i σ H' _ ⟨_, _, _, s, _⟩ => SqL.of (s _ _ g3)) ?_ ?_⟩
    · rintro i uw σ H1'0 H1 hi ⟨x6, x7, rfl, s1, hno⟩ ⟨rfl, hx⟩
      obtain ⟨wy, hwy, huw⟩ := paired_getl g4 hx
      have wok := co.ok.ways _ hrm wy (List.mem_of_getElem? hwy)
      refine ⟨_, rfl, _, rfl, _, rfl, vb, _, u, C.tops, wy, st, _, rfl, boxes_m _ _ _ _ s1 hb, way_tm.mono _ _ _ _ s1 huw, st_tm.mono _ _ _ _ s1 hst, wok, hv, by have := co.hand.box.len; omega, fun v2 H2 s2 hov => ?_⟩
      have s02 := s1.trans s2
      have done : (¬ ∃ t, beh C.tops wy st = some t ∧ t ≠ st ∧ (st, t) ∉ C.promise) → ∀ wy' ∈ C.hand[p].take (i + 1), ¬ ∃ t, beh C.tops wy' st = some t ∧ t ≠ st ∧ (st, t) ∉ C.promise := fun n wy' h => by
        rcases (mem_take_succ hwy).mp h with z | z
        · exact hno wy' z
        · rw [z]
          exact n
      cases hbe : beh C.tops wy st with
      | none =>
        rw [hbe] at hov
        have e : v2 = .non := hov
        subst e
        exact ⟨_, rfl, rfl, _, rfl, ifF rfl (ifF rfl ⟨_, _, rfl, s02, done fun ⟨t, h, _⟩ => by rw [hbe] at h; cases h⟩)⟩
      | some t =>
        rw [hbe] at hov
        have hov' : IsSt H2 v2 t := hov
        obtain ⟨bt, rfl, hbt⟩ := id hov'
        have hst2 := st_tm.mono _ _ _ _ s02 hst
        refine ⟨_, rfl, rfl, _, rfl, ifT rfl ?_⟩
        refine ⟨_, rfl, _, rfl, dSt t, dSt st, dp_st hov', dp_st hst2, shaped_st _, shaped_st _, _, rfl, ?_⟩
        rw [eqv_st]
        by_cases c1 : t = st
        · exact ifF (by rw [decide_eq_true c1]; rfl) (ifF rfl ⟨_, _, rfl, s02, done fun ⟨t', h1, h2, _⟩ => by rw [hbe] at h1; cases h1; exact h2 c1⟩)
        refine ifT (by rw [decide_eq_false c1]; rfl) ?_
        refine ⟨_, rfl, _, rfl, sz_of (show 2 ≤ 100000 by decide), fun t4 ht4 => ?_⟩
        have s4 : Same H2 (upd H2 t4 (.tup [u, .ref bt])) := same_new ht4 _
        have s04 := s02.trans s4
        refine ⟨_, rfl, dStep (st, t), _, dp_step (q := (st, t)) ⟨t4, _, _, rfl, upd_same, st_tm.mono _ _ _ _ s4 hst2, st_tm.mono _ _ _ _ s4 hov'⟩, dp_lst (fun v x h => dp_step h) (steps_m _ _ _ _ s04 hpr), shaped_step _, shaped_lst lay_step (fun x => by rw [depth_step]; decide) _, _, rfl, ?_⟩
        rw [any_eqv eqv_step]
        by_cases c2 : (st, t) ∈ C.promise
        · exact ifF (by simp [c2]) ⟨_, _, rfl, s04, done fun ⟨t', h1, _, h2⟩ => by rw [hbe] at h1; cases h1; exact h2 c2⟩
        · refine ifT (by simp [c2]) (q true _ s04 ⟨fun _ => .inr ⟨wy, ?_, t, hbe, c1, c2⟩, fun _ => rfl⟩)
          rw [show C.ways (p, st).1 = C.hand[p] from hways]
          exact List.mem_of_getElem? hwy
    · rintro σ H1 ⟨x6, x7, rfl, s1, hno⟩
      rw [g4.length, take_all] at hno
      refine q false _ s1 (nob (fun ⟨wy, hwy, h⟩ => ?_) rfl)
      rw [show C.ways (p, st).1 = C.hand[p] from hways] at hwy
      exact hno wy hwy h
/-! ### _law_kept -/
abbrev s_law_kept : Stmt := top 44
abbrev n_law_kept : List Str := ["_law_spots", "_law_leads_here", "_law_spot", "_law_left", "_law_size", "_law_one"]
theorem sc_law_kept : FnScope n_law_kept ["_law_spots", "_law_leads_here"] (defScope s_law_kept) := ⟨rfl, rfl, rfl, by decide +kernel, rfl, by decide +kernel, by decide +kernel⟩
def LeadD (P : Program) (w : World) (H : Hp) (d : Addr) (C : Cfg) : Prop := ∃ kvs, DN P w H d kvs ∧ ∀ x, C.In x → ∃ v xs, valV kvs (kSpot x) = some v ∧ IsSpots H v xs ∧ xs.length ≤ 2100 ∧ ∀ y, y ∈ xs ↔ C.Lead x y
theorem LeadD.same {P : Program} {w : World} {H H' : Hp} {d : Addr} {C : Cfg} (h : LeadD P w H d C) (s : Same H H') : LeadD P w H' d C := by
  obtain ⟨kvs, dn, h⟩ := h
  refine ⟨kvs, dn.same s, fun x hx => ?_⟩
  obtain ⟨v, xs, h1, h2, h3⟩ := h x hx
  exact ⟨v, xs, h1, spots_m _ _ _ _ s h2, h3⟩
theorem kp_tm (v : V) : TMono (fun H x (q : Spot) => IsKeyPair H v x (kSpot q)) := fun H H' x q t ⟨a, b, e, h, nk⟩ => ⟨a, b, e, t _ _ h, nk.tk t⟩
theorem eqv_nil (xs : List Spot) : PyData.eqv (.list (xs.map dSpot)) (.list []) = decide (xs = []) := by
  cases xs with
  | nil => simp [PyData.eqv, PyData.eqvAll]
  | cons a b => simp [PyData.eqv, PyData.eqvAll]
theorem drop_keys {kvs : List (NestedKey × V)} {k k' : NestedKey} : (valV (dropK kvs k) k').isSome = true ↔ k' ≠ k ∧ (valV kvs k').isSome = true := by
  rw [← mem_keys, ← mem_keys, List.mem_map, List.mem_map]
  unfold dropK
  constructor
  · rintro ⟨x, hx, rfl⟩
    obtain ⟨h1, h2⟩ := List.mem_filter.mp hx
    exact ⟨of_decide_eq_true h2, x, h1, rfl⟩
  · rintro ⟨h1, x, h2, rfl⟩
    exact ⟨x, List.mem_filter.mpr ⟨h2, decide_eq_true h1⟩, rfl⟩
theorem drop_lt {kvs : List (NestedKey × V)} {k : NestedKey} (h : (valV kvs k).isSome = true) : (dropK kvs k).length < kvs.length := by
  rw [← mem_keys, List.mem_map] at h
  obtain ⟨x, hx, e⟩ := h
  unfold dropK
  rw [List.length_filter_lt_length_iff_exists]
  exact ⟨x, hx, by rw [decide_eq_true_eq]; exact fun z => z e⟩
def spKept (P : Program) (w : World) : Sp := fun vs H Q _ => ∃ vs0 dl sp, ∃ C : Cfg, vs = [vs0, .ref dl] ∧ IsSpots H vs0 sp ∧ sp.Nodup ∧ sp.length ≤ 1000 ∧ (∀ x ∈ sp, C.In x) ∧ LeadD P w H dl C ∧
  ∀ d H' (S : Spot → Prop), Same H H' → H d = none → KeySet P w H' d (fun k => ∃ x, S x ∧ k = kSpot x) → (∀ x, S x → x ∈ sp) → (∀ x, S x → ∀ y, C.Lead x y → S y) → Q (.ref d) H'
theorem ok_law_kept (D : Def K mg "_law_kept" s_law_kept ["_law_spots", "_law_leads_here"]) (T : Txt K mg) : Cal P w K mg base "_law_kept" ["_law_spots", "_law_leads_here"] 1 (spKept P w) := by
  refine D.cal sc_law_kept (fun vs H Q E h => ?_) (fun f cdv A outer s H vs Q E hr h => ?_)
  · obtain ⟨vs0, dl, sp, C, rfl, _⟩ := h
    rfl
  obtain ⟨vs0, dl, sp, C, rfl, ⟨as, us, rfl, has, hus⟩, hnd, hlen, hin, hld, q⟩ := h
  have hu := r64 hr
  refine ⟨_, (pss_cons (ps_set (i := 3) sc_law_kept.nd rfl (Or.inr rfl) (pe_callTy (call_ndictK K P w hu) (by rfl) T.dict (by decide +kernel) (pa_cons (pe_lc (own := [("_law_spot", 2)]) (g := gName 2) rfl sc_law_kept.nd (pi_listK K (pv 0)) (blkOk_by (own := [("_law_spot", 2)]) (N := n_law_kept) (sc := defScope s_law_kept) (by decide +kernel)) (fun _ _ _ _ _ => (pg_name (i := 2) sc_law_kept.nd rfl (Or.inl rfl))) (fun _ _ _ _ _ => pts_nil) (fun _ _ _ _ _ => (pe_tup (pa_cons (pv 2) (pa_cons pe_bl pa_nil))))) pa_nil)))
    (pss_cons (ps_set (i := 4) sc_law_kept.nd rfl (Or.inl rfl) (pe_un un_neg pe_int))
    (pss_cons (ps_while PassesOwn.never (pt_cmpR op_ne (pv 4) (pe_callB (call_nlenK P w) (by rfl) T.len PySem.boot_len (pa_cons (pv 3) pa_nil)) (nomark _)) (pss_cons (ps_set (i := 4) sc_law_kept.nd rfl (Or.inl rfl) (pe_callB (call_nlenK P w) (by rfl) T.len PySem.boot_len (pa_cons (pv 3) pa_nil)))
        (pss_one (ps_for PassesOwn.never rfl (pi_listK K (pv 0)) (pg_name (i := 2) sc_law_kept.nd rfl (Or.inl rfl)) (pss_one (ps_if (PW.pt (pw_and (pt_cmp (pc_ninK P w hu (pv 2) (pv 3)) rfl) (pw_and1 (pt_cmpR (op_neDK K hu) (pe_lc (own := [("_law_one", 5)]) (g := gName 5) rfl sc_law_kept.nd (pi_listK K (pe_ngetK P w hu (pv 1) (pv 2) (fun _ _ => rfl))) (blkOk_by (own := [("_law_one", 5)]) (N := n_law_kept) (sc := defScope s_law_kept) (by decide +kernel)) (fun _ _ _ _ _ => (pg_name (i := 5) sc_law_kept.nd rfl (Or.inl rfl))) (fun _ _ _ _ _ => (pts_one (pt_cmp (pc_nnotinK P w hu (pv 5) (pv 3)) rfl))) (fun _ _ _ _ _ => (pv 5))) (pe_lst pa_nil) (nomark _))))) (pss_one (ps_expr (pe_npopK P w hu (pv 3) (pv 2) ⟨rfl, rfl, rfl, rfl⟩))) pss_nil))))))
    (pss_one (ps_ret (pv 3)))))), ?_⟩
  refine ⟨_, rfl, as, rfl, ⟨_, SqL.of has⟩, lcP walk_list sp (fun _ => true) id (fun H x (q : Spot) => IsKeyPair H (.bl true) x (kSpot q)) (kp_tm _).mono hus.length.symm (by rw [hus.length]; omega) (fun H2 s2 => SqL.of (s2 _ _ has)) (fun j sx H2 x H3 F N' hsx s2 hy hN' hF => ?_) (fun D2 H2 s2 hv2 => ?_)⟩
  · obtain ⟨e1, e2⟩ := hy
    subst e1
    obtain ⟨y, hy1, hyu⟩ := paired_get hus hsx
    rw [hy1] at e2
    cases Option.some.inj e2
    obtain ⟨b, _, rfl, _⟩ := id hyu
    refine ⟨rfl, yesT ?_⟩
    refine ⟨_, rfl, sz_of (show 2 ≤ 100000 by decide), fun t ht => ?_⟩
    have s4 := same_new ht (.tup [.ref b, .bl true])
    exact hF _ _ s4 rfl (nw_tm (kp_tm _) s4 ⟨t, b, rfl, upd_same, (key_spot (spot_tm.mono _ _ _ _ (s2.trans s4) hyu))⟩)
  have ef : List.filter (fun _ : Spot => true) sp = sp := List.filter_eq_self.mpr fun _ _ => rfl
  rw [ef, List.map_id] at hv2
  obtain ⟨D3, zs, e3, hD3, hzs⟩ := hv2
  cases e3
  have hD2 := nw_sub (TK.same s2) _ _ hD3
  have hzs2 := paired_mono (kp_tm (.bl true)).mono (nw_sub (TK.same s2)) hzs
  have hkn : (sp.map kSpot).Nodup := List.pairwise_map.mpr (hnd.imp fun h e => h (kSpot_inj e))
  refine ⟨D2, zs, sp.map kSpot, .bl true, rfl, SqL.of hD2, paired_map hzs2, hkn, fun d φ hd dn => ?_⟩
  have s3 := s2.trans (same_new hd (.ext φ))
  have hd0 := s2.free hd
  refine ⟨_, rfl, ?_⟩
  let Iv : Int → List (NestedKey × V) → (Spot → Prop) → L2.St → Hp → Prop := fun z kvs S σ H' => ∃ x2, σ = [some (.ref as), some (.ref dl), x2, some (.ref d), some (.int z), none] ∧ Same H H' ∧ DN P w H' d kvs ∧ (∀ k, (valV kvs k).isSome = true ↔ ∃ x, S x ∧ k = kSpot x) ∧ (∀ x, S x → x ∈ sp)
  refine ⟨fun m σ H' => ∃ z kvs S, Iv z kvs S σ H' ∧ (z = (kvs.length : Int) → ∀ x, S x → ∀ y, C.Lead x y → S y) ∧ m = 2 * kvs.length + (if z = (kvs.length : Int) then 0 else 1), ⟨_, -1, _, fun x => x ∈ sp, ⟨_, rfl, s3, dn, fun k => ?_, fun x h => h⟩, fun z => by omega, rfl⟩, ?_⟩
  · rw [← mem_keys, List.map_map]
    have e : ((fun x : NestedKey × V => x.1) ∘ fun k => (k, V.bl true)) = id := rfl
    rw [e, List.map_id, List.mem_map]
    exact ⟨fun ⟨x, h1, h2⟩ => ⟨x, h1, h2.symm⟩, fun ⟨x, h1, h2⟩ => ⟨x, h1, h2.symm⟩⟩
  rintro m σ H' ⟨z, kvs, S, ⟨x2, rfl, s4, dn4, hks4, hS4⟩, hz, rfl⟩
  refine ⟨_, rfl, _, rfl, d, kvs, rfl, dn4, rfl, _, rfl, ?_⟩
  rw [dInt]
  by_cases c : z = (kvs.length : Int)
  · refine ifF (by rw [decide_eq_true c]; rfl) ⟨_, rfl, ?_⟩
    exact q d H' S s4 hd0 ⟨kvs, dn4, hks4⟩ hS4 (hz c)
  refine ifT (by rw [decide_eq_false c]; rfl) ⟨fun σ' H'' => ∃ m', m' < 2 * kvs.length + (if z = (kvs.length : Int) then 0 else 1) ∧ ∃ z kvs S, Iv z kvs S σ' H'' ∧ (z = (kvs.length : Int) → ∀ x, S x → ∀ y, C.Lead x y → S y) ∧ m' = 2 * kvs.length + (if z = (kvs.length : Int) then 0 else 1), fun σ' H'' z => z, ?_⟩
  refine ⟨_, rfl, d, kvs, rfl, dn4, ?_⟩
  refine ⟨_, rfl, as, rfl, ⟨_, SqL.of (s4 _ _ has)⟩, for_it walk_list
    (fun i σ H5 => ∃ kvs' S', Iv (kvs.length : Int) kvs' S' σ H5 ∧ kvs'.length ≤ kvs.length ∧ (kvs'.length = kvs.length → ∀ x ∈ sp.take i, S' x → ∀ y, C.Lead x y → S' y))
    ⟨kvs, S, ⟨_, rfl, s4, dn4, hks4, hS4⟩, Nat.le_refl _, fun _ x hx => by simp at hx⟩ (fun i σ H5 _ ⟨_, _, ⟨_, _, s, _⟩, _⟩ => SqL.of (s _ _ has)) ?_ ?_⟩
  · rintro i u σ H5'0 H5 hi ⟨kvs', S', ⟨x2', rfl, s5, dn5, hks5, hS5⟩, hle, hcl⟩ ⟨rfl, hx⟩
    obtain ⟨x, hxx, hxu⟩ := paired_getl hus hx
    have hxu5 := spot_tm.mono _ _ _ _ s5 hxu
    obtain ⟨b, _, rfl, _⟩ := id hxu
    have hinx := hin x (List.mem_of_getElem? hxx)
    have keep : ∀ {H6 : Hp}, Same H5 H6 → (kvs'.length = kvs.length → S' x → ∀ y, C.Lead x y → S' y) → ∃ kvs'' S'', Iv (kvs.length : Int) kvs'' S'' [some (.ref as), some (.ref dl), some (.ref b), some (.ref d), some (.int (kvs.length : Int)), none] H6 ∧ kvs''.length ≤ kvs.length ∧ (kvs''.length = kvs.length → ∀ x ∈ sp.take (i + 1), S'' x → ∀ y, C.Lead x y → S'' y) := fun s6 hn =>
      ⟨kvs', S', ⟨_, rfl, s5.trans s6, dn5.same s6, hks5, hS5⟩, hle, fun e x' hx' => by
        rcases (mem_take_succ hxx).mp hx' with z | z
        · exact hcl e x' z
        · rw [z]
          exact hn e⟩
    have hiff : (valV kvs' (kSpot x)).isSome = true ↔ S' x := by
      rw [hks5]
      exact ⟨fun ⟨x', h1, e⟩ => by rw [kSpot_inj e]; exact h1, fun z => ⟨x, z, rfl⟩⟩
    refine ⟨_, rfl, _, rfl, d, b, kvs', kSpot x, rfl, rfl, dn5, key_spot hxu5, _, rfl, ?_⟩
    by_cases cx : S' x
    case neg =>
      exact ifF (Bool.eq_false_iff.mpr fun z => cx (hiff.mp z)) (ifF rfl (keep (Same.refl _) fun _ z => absurd z cx))
    refine ifT (hiff.mpr cx) ?_
    obtain ⟨kvl, dnl, hlead⟩ := hld.same s5
    obtain ⟨v, xs, hv, ⟨L, ls, rfl, hL, hls⟩, hxl, hxm⟩ := hlead x hinx
    have hdec : ∃ g : Spot → Bool, ∀ y, g y = true ↔ ¬ S' y := by
      classical
      exact ⟨fun y => decide (¬ S' y), fun y => decide_eq_true_iff⟩
    obtain ⟨g, hg⟩ := hdec
    refine ⟨_, rfl, _, rfl, dl, b, kvl, kSpot x, .ref L, rfl, rfl, dnl, key_spot hxu5, hv, L, rfl, ⟨_, SqL.of hL⟩, lcP walk_list xs g id IsSpot spot_tm.mono hls.length.symm (by rw [hls.length]; omega) (fun H2 s2 => SqL.of (s2 _ _ hL)) (fun j y H6 u6 H7 F N' hyx s6 hy hN' hF => ?_) (fun D4 H6 s6 hv6 => ?_)⟩
    · obtain ⟨e1, e2⟩ := hy
      subst e1
      obtain ⟨uy, hy1, hyu⟩ := paired_get hls hyx
      rw [hy1] at e2
      cases Option.some.inj e2
      have hyu6 := spot_tm.mono _ _ _ _ s6 hyu
      obtain ⟨bo, _, rfl, _⟩ := id hyu6
      refine ⟨rfl, ?_⟩
      refine ⟨_, rfl, _, rfl, d, bo, kvs', kSpot y, rfl, rfl, dn5.same s6, key_spot hyu6, _, rfl, ?_⟩
      have hiffy : (valV kvs' (kSpot y)).isSome = true ↔ S' y := by
        rw [hks5]
        exact ⟨fun ⟨x', h1, e⟩ => by rw [kSpot_inj e]; exact h1, fun z => ⟨y, z, rfl⟩⟩
      by_cases cy : S' y
      · exact ifF (isSome_dec hiffy cy) (hN' _ (Same.refl _) (Bool.eq_false_iff.mpr fun z => (hg y).mp z cy))
      · exact ifT (isSome_dec' hiffy cy) ⟨_, rfl, hF _ _ (Same.refl _) ((hg y).mpr cy) (nw_tm spot_tm (Same.refl _) hyu6)⟩
    · rw [List.map_id] at hv6
      obtain ⟨D5, zs5, e5, hD5, hzs5⟩ := hv6
      cases e5
      refine ⟨Nat.zero_le _, fun e he => ?_⟩
      have s7 := same_new he (.lst [])
      have s67 := s6.trans s7
      have hD6 : LstOf IsSpot (upd H6 e (.lst [])) (.ref D4) (xs.filter g) := ⟨D4, zs5, rfl, s7 _ _ (nw_sub (TK.same s6) _ _ hD5), paired_mono spot_tm.mono ((nw_sub (TK.same s6)).trans s7) hzs5⟩
      refine ⟨_, .list [], dp_lst (fun v x h => dp_spot h) hD6, .lst (SqL.of upd_same) .nil, shaped_lst lay_spot (fun x => by rw [depth_spot]; decide) _, by decide +kernel, _, rfl, ?_⟩
      rw [eqv_nil]
      by_cases ce : xs.filter g = []
      · refine ifF (by rw [decide_eq_true ce]; rfl) (keep s67 fun _ _ y hy => ?_)
        apply Classical.byContradiction
        intro n
        have : y ∈ xs.filter g := List.mem_filter.mpr ⟨(hxm y).mpr hy, (hg y).mpr n⟩
        rw [ce] at this
        exact absurd this List.not_mem_nil
      · refine ifT (by rw [decide_eq_false ce]; rfl) ?_
        have dn7 := dn5.same s67
        obtain ⟨vv, hvv⟩ := Option.isSome_iff_exists.mp (hiff.mpr cx)
        refine ⟨_, rfl, d, kvs', rfl, dn7, _, rfl, b, kvs', kSpot x, vv, rfl, dn7, key_spot (spot_tm.mono _ _ _ _ s67 hxu5), hvv, fun φ' dn8 => ?_⟩
        have hlt := drop_lt (hiff.mpr cx)
        refine ⟨_, fun y => S' y ∧ y ≠ x, ⟨_, rfl, fun c o ec => ?_, dn8, fun k => ?_, fun y hy => hS5 y hy.1⟩, by omega, fun e => by omega⟩
        · rw [upd_ne (fun z => by rw [z, hd0] at ec; cases ec)]
          exact s67 _ _ (s5 _ _ ec)
        · rw [drop_keys, hks5]
          constructor
          · rintro ⟨h1, y, h2, rfl⟩
            exact ⟨y, ⟨h2, fun e => h1 (by rw [e])⟩, rfl⟩
          · rintro ⟨y, ⟨h1, h2⟩, rfl⟩
            exact ⟨fun e => h2 (kSpot_inj e), y, h1, rfl⟩
  · rintro σ H5 ⟨kvs', S', ⟨x2', rfl, s5, dn5, hks5, hS5⟩, hle, hcl⟩
    rw [hus.length, take_all] at hcl
    refine ⟨_, ?_, (kvs.length : Int), kvs', S', ⟨_, rfl, s5, dn5, hks5, hS5⟩, fun e x hx => hcl (by omega) x (hS5 x hx) hx, rfl⟩
    rw [if_neg c]
    split <;> omega
/-! ### _law_more -/
abbrev s_law_more : Stmt := top 46
abbrev n_law_more : List Str := ["_law_paper", "_law_place", "_law_stand", "_law_found", "_law_some"]
theorem sc_law_more : FnScope n_law_more ["_law_paper", "_law_place", "_law_stand"] (defScope s_law_more) := ⟨rfl, rfl, rfl, by decide +kernel, rfl, by decide +kernel, by decide +kernel⟩
def spMore : Sp := fun vs H Q _ => ∃ v p u s, ∃ C : Cfg, ∃ paper, vs = [v, .int ((p : Nat) : Int), u] ∧ IsPaper H v paper ∧ PapOk C paper ∧ CfgOk C ∧ p < paper.length ∧ IsSt H u s ∧ Valid C.tops s ∧ ¬ InP paper (p, s) ∧ (∀ r ∈ paper, r.length ≤ 900) ∧
  ∀ v' H' paper', Same H H' → IsPaper H' v' paper' → PapOk C paper' → (∀ y, InP paper' y ↔ InP paper y ∨ y = (p, s)) → Q v' H'
theorem ok_law_more (D : Def K mg "_law_more" s_law_more ["_law_paper", "_law_place", "_law_stand"]) (T : Txt K mg) : Cal P w K mg base "_law_more" ["_law_paper", "_law_place", "_law_stand"] 1 spMore := by
  refine D.cal sc_law_more (fun vs H Q E h => ?_) (fun f cdv A outer s H vs Q E hr h => ?_)
  · obtain ⟨v, p, u, s, C, paper, rfl, _⟩ := h
    rfl
  obtain ⟨v, p, u, st, C, paper, rfl, ⟨ap, ps, rfl, hap, hps⟩, po, co, hp, hst, hv, hno, h900, q⟩ := h
  have hu := r64 hr
  refine ⟨_, (pss_cons (ps_setLc (i := 3) (own := [("_law_some", 4)]) (g := gName 4) rfl sc_law_more.nd rfl rfl (sw_true rfl rfl rfl (by decide +kernel)) (pi_listK K (pv 0)) (blkOk_by (own := [("_law_some", 4)]) (N := n_law_more) (sc := defScope s_law_more) (by decide +kernel)) (fun _ _ _ _ _ => (pg_name (i := 4) sc_law_more.nd rfl (Or.inl rfl))) (fun _ _ _ _ _ => pts_nil) (fun _ _ _ _ _ => (pe_callTy (call_listK K) (by rfl) T.list (by decide +kernel) (pa_cons (pv 4) pa_nil))))
    (pss_cons (ps_asg (pe_callB (call_sortK K dSt hu) (by rfl) T.sorted (by decide +kernel) (pa_cons (pe_op op_cat (pe_ix (ix_listK K) (pv 3) (pv 1) (fun _ _ => rfl)) (pe_lst (pa_cons (pv 2) pa_nil))) pa_nil)) (pg_sub (pv 3) (pv 1) set_list))
    (pss_one (ps_ret (pv 3))))), ?_⟩
  have hpl := po.len
  have h8 := co.hand.rows
  refine ⟨_, rfl, ap, rfl, ⟨_, SqL.of hap⟩, lcP walk_list paper (fun _ => true) id IsSts sts_m hps.length.symm (by rw [hps.length]; omega) (fun H2 s2 => SqL.of (s2 _ _ hap)) (fun j r H2 x H3 F N' hr' s2 hy hN' hF => ?_) (fun d H2 s2 hv2 => ?_)⟩
  · obtain ⟨e1, e2⟩ := hy
    subst e1
    obtain ⟨y, hy1, hyu⟩ := paired_get hps hr'
    rw [hy1] at e2
    cases Option.some.inj e2
    obtain ⟨ar, rs, rfl, har, hrs⟩ := sts_m _ _ _ _ s2 hyu
    refine ⟨rfl, yesT ?_⟩
    refine ⟨_, rfl, ar, rs, rfl, .inl (SqL.of har), fun l hl => ?_⟩
    have s4 := same_new hl (.lst rs)
    exact hF _ _ s4 rfl ⟨l, rs, rfl, by rw [nw_none hl]; exact upd_same, paired_tmono st_tm ((TK.same s4).trans (nw_tk s4)) hrs⟩
  have ef : List.filter (fun _ : List Stand => true) paper = paper := List.filter_eq_self.mpr fun _ _ => rfl
  rw [ef, List.map_id] at hv2
  obtain ⟨d', ys, e2, hd0, hys0⟩ := hv2
  cases e2
  have hd2 := nw_sub (TK.same s2) _ _ hd0
  have hys := paired_mono sts_m (nw_sub (TK.same s2)) hys0
  have hdH : H d = none := by
    rcases nw_cases hd0 with ⟨xs, _, z⟩ | ⟨z, _⟩
    · cases z
    · exact z
  have hrow := List.getElem?_eq_getElem hp
  obtain ⟨ur, hur, ar, rs, rfl, har, hrs⟩ := paired_get hys hrow
  have hrm : paper[p] ∈ paper := List.getElem_mem hp
  have hr9 := h900 _ hrm
  have hst2 := st_tm.mono _ _ _ _ s2 hst
  have hrv := po.val _ hrm
  -- sorted(found[place] + [stand])
  refine ⟨_, rfl, _, rfl, d, _, _, _, rfl, rfl, SqL.of hd2, atI_nat hur, _, rfl, sz_of (show 1 ≤ 100000 by decide), fun l1 hl1 => ?_⟩
  have s3 := same_new hl1 (.lst [u])
  refine ⟨ar, l1, rs, [u], rfl, rfl, s3 _ _ har, upd_same, sz_of (by rw [hrs.length, List.length_singleton]; omega), fun l2 hl2 => ?_⟩
  have s4 := same_new hl2 (.lst (rs ++ [u]))
  have s34 := s3.trans s4
  have hcat : Paired (IsSt (upd (upd H2 l1 (.lst [u])) l2 (.lst (rs ++ [u])))) (rs ++ [u]) (paper[p] ++ [st]) := paired_app (paired_mono st_tm.mono s34 hrs) (.cons (st_tm.mono _ _ _ _ s34 hst2) .nil)
  have hvals : ∀ s ∈ paper[p] ++ [st], Valid C.tops s := fun s hs => by
    rcases List.mem_append.mp hs with z | z
    · exact hrv s z
    · rw [List.mem_singleton.mp z]
      exact hv
  have hne : ∀ s ∈ paper[p] ++ [st], ∃ x r, dSt s = .tuple (x :: r) := fun s hs => by
    have hl := (hvals s hs).1
    have hb := co.hand.box.ne
    cases s with
    | nil => exact absurd (List.eq_nil_of_length_eq_zero hl.symm) hb
    | cons a b => exact ⟨.int a, b.map .int, rfl⟩
  refine ⟨l2, rs ++ [u], paper[p] ++ [st], IsSt _, rfl, SqL.of upd_same, hcat, fun x b hx => dp_st hx, AllAlike.of fun _ _ => alike_st _ _, .inl (fun dd hd => by
    obtain ⟨s, hs, rfl⟩ := List.mem_map.mp hd
    exact hne s hs), fun b _ => by rw [depth_st]; decide, fun l3 zs hl3 hzs => ?_⟩
  have s5 := same_new hl3 (.lst zs)
  have s25 := s34.trans s5
  have hd5 := s25 _ _ hd2
  have hplen : p < ys.length := by rw [hys.length]; exact hp
  refine ⟨_, rfl, _, rfl, d, ys, _, p, rfl, rfl, hd5, ixN_nat hplen, ?_⟩
  let row' := (paper[p] ++ [st]).mergeSort (dataLe false dSt)
  have hmem : ∀ s, s ∈ row' ↔ s ∈ paper[p] ∨ s = st := fun s => by
    show s ∈ (paper[p] ++ [st]).mergeSort (dataLe false dSt) ↔ _
    rw [List.mem_mergeSort, List.mem_append, List.mem_singleton]
  have hnd : (paper[p] ++ [st]).Nodup := by
    rw [List.nodup_append]
    refine ⟨List.Pairwise.imp (S := fun a b => a ≠ b) (fun {a b} h e => lt_irr b (by rw [e] at h; exact h)) (po.rise _ hrm), by simp, fun a ha b hb e => hno ?_⟩
    rw [List.mem_singleton.mp hb] at e
    show st ∈ paper.getD p []
    rw [getD_some hrow, ← e]
    exact ha
  -- what stands in the end
  have hl3d : l3 ≠ d := fun z => by rw [z, s34 _ _ hd2] at hl3; cases hl3
  have tkd : TK (upd (upd (upd H2 l1 (.lst [u])) l2 (.lst (rs ++ [u]))) l3 (.lst zs)) (upd (upd (upd (upd H2 l1 (.lst [u])) l2 (.lst (rs ++ [u]))) l3 (.lst zs)) d (.lst (ys.set p (.ref l3)))) := TK.upd fun xs z => by rw [hd5] at z; cases z
  have hypos : ∃ y0 r0, ys[0]? = some y0 ∧ IsSts H2 y0 r0 := by
    obtain ⟨r, _, h⟩ := paired_getl hys (List.getElem?_eq_getElem (show 0 < ys.length by omega))
    exact ⟨_, _, List.getElem?_eq_getElem (show 0 < ys.length by omega), h⟩
  have hrowK : ∀ (v : V) (r : List Stand), IsSts H2 v r → IsSts (upd (upd (upd (upd H2 l1 (.lst [u])) l2 (.lst (rs ++ [u]))) l3 (.lst zs)) d (.lst (ys.set p (.ref l3)))) v r := by
    rintro v r ⟨a, ws, rfl, ha, hws⟩
    have nad : a ≠ d := fun z => by
      rw [z, hd2] at ha
      cases ha
      obtain ⟨y0, r0, h1, b, xs, rfl, h3, _⟩ := hypos
      obtain ⟨s0, _, b', e, h4⟩ := paired_getl hws h1
      cases e
      rw [h3] at h4
      cases h4
    exact ⟨a, ws, rfl, by rw [upd_ne nad]; exact s25 _ _ ha, paired_tmono st_tm ((TK.same s25).trans tkd) hws⟩
  refine ⟨_, rfl, q (.ref d) _ (paper.set p row') (fun c o e => ?_) ⟨d, _, rfl, upd_same, paired_set (paired_imp hys fun v r _ h => hrowK v r h) p ⟨l3, zs, rfl, by rw [upd_ne hl3d]; exact upd_same, paired_tmono st_tm ((TK.same s5).trans tkd) hzs⟩⟩ ⟨by rw [List.length_set]; exact hpl, fun r hr => ?_, fun r hr => ?_, fun r hr => ?_⟩ fun y => ?_⟩
  · rw [upd_ne (fun z => by rw [z, hdH] at e; cases e)]
    exact s25 _ _ (s2 _ _ e)
  · rcases List.mem_or_eq_of_mem_set hr with z | z
    · exact po.rise r z
    · rw [z]
      exact sort_rising hnd
  · rcases List.mem_or_eq_of_mem_set hr with z | z
    · exact po.val r z
    · rw [z]
      intro s hs
      rcases (hmem s).mp hs with y | y
      · exact hrv s y
      · rw [y]
        exact hv
  · rcases List.mem_or_eq_of_mem_set hr with z | z
    · exact po.size r z
    · rw [z]
      show ((paper[p] ++ [st]).mergeSort (dataLe false dSt)).length ≤ 1000
      rw [List.length_mergeSort, List.length_append, List.length_singleton]
      omega
  · obtain ⟨p', s'⟩ := y
    show s' ∈ (paper.set p row').getD p' [] ↔ s' ∈ paper.getD p' [] ∨ (p', s') = (p, st)
    rw [List.getD_eq_getElem?_getD, List.getD_eq_getElem?_getD]
    by_cases e : p' = p
    · subst e
      rw [List.getElem?_set_self hp, hrow]
      show s' ∈ row' ↔ s' ∈ paper[p'] ∨ _
      rw [hmem]
      exact ⟨fun z => z.imp id fun y => by rw [y], fun z => z.imp id fun y => (Prod.mk.inj y).2⟩
    · rw [List.getElem?_set_ne (Ne.symm e)]
      exact ⟨.inl, fun z => z.elim id fun y => absurd (Prod.mk.inj y).1 e⟩
/-! ### _law_begin_due -/
abbrev s_law_begin_due : Stmt := top 48
abbrev n_law_begin_due : List Str := ["_law_paper", "_law_begin", "_law_some", "_law_stand"]
theorem sc_law_begin_due : FnScope n_law_begin_due ["_law_paper", "_law_begin", "_law_some"] (defScope s_law_begin_due) := ⟨rfl, rfl, rfl, by decide +kernel, rfl, by decide +kernel, by decide +kernel⟩
def spBeginDue : Sp := fun vs H Q _ => ∃ v vg vs' c paper tops, vs = [v, vg, vs'] ∧ IsPaper H v paper ∧ 0 < paper.length ∧ IsCd H vg c ∧ IsSts H vs' (standsF tops) ∧ c.ok tops.length ∧
  ∀ v' H', Same H H' → ((∃ s t u, bgF tops c paper = some s ∧ v' = .ref t ∧ H' t = some (.tup [.str "begin", u]) ∧ IsSt H' u s) ∨ (bgF tops c paper = none ∧ v' = .non)) → Q v' H'
theorem ok_law_begin_due (D : Def K mg "_law_begin_due" s_law_begin_due ["_law_paper", "_law_begin", "_law_some"]) (T : Txt K mg) (c_law_holds : Cal P w K mg base "_law_holds" ["_law_cond_here", "_law_stand"] 4 (spLHolds 2)) : Cal P w K mg base "_law_begin_due" ["_law_paper", "_law_begin", "_law_some"] 5 spBeginDue := by
  refine D.cal sc_law_begin_due (fun vs H Q E h => ?_) (fun f cdv A outer s H vs Q E hr h => ?_)
  · obtain ⟨v, vg, vs', c, paper, tops, rfl, _⟩ := h
    rfl
  obtain ⟨v, vg, vs', c, paper, tops, rfl, ⟨ap, ps, rfl, hap, hps⟩, hpos, hc, ⟨a, us, rfl, ha, hus⟩, cok, q⟩ := h
  have hu5 := r65 hr
  refine ⟨_, (pss_cons (ps_for PassesOwn.never rfl (pi_listK K (pv 2)) (pg_name (i := 3) sc_law_begin_due.nd rfl (Or.inl rfl)) (pss_one (ps_if (PW.pt (pw_and (pt_val (pe_cal c_law_holds (hr.mono (by first | exact Nat.le_refl _ | decide | omega)) rfl (pa_cons (pv 1) (pa_cons (pv 3) pa_nil)))) (pw_and1 (pt_cmpR (op_notInDK K hu5) (pv 3) (pe_ix (ix_listK K) (pv 0) pe_int (fun _ _ => rfl)) (by rfl))))) (pss_one (ps_ret (pe_tup (pa_cons pe_str (pa_cons (pv 3) pa_nil))))) pss_nil)))
    (pss_one (ps_ret pe_non))), ?_⟩
  have hrow := List.getElem?_eq_getElem hpos
  obtain ⟨u0, hu0, h0⟩ := paired_get hps hrow
  have e0 : paper.getD 0 [] = paper[0] := getD_some hrow
  refine ⟨_, rfl, a, rfl, ⟨_, SqL.of ha⟩, for_it walk_list
    (fun i σ H' => ∃ x3, σ = [some (.ref ap), some vg, some (.ref a), x3] ∧ Same H H' ∧ ∀ s ∈ (standsF tops).take i, (c.holds s && !decide (s ∈ paper.getD 0 [])) = false)
    ⟨_, rfl, Same.refl _, fun s hs => by simp at hs⟩ (fun i σ H' _ ⟨_, _, s, _⟩ => SqL.of (s _ _ ha)) ?_ ?_⟩
  · rintro i u σ H1'0 H1 hi ⟨x3, rfl, s1, hno⟩ ⟨rfl, hx⟩
    obtain ⟨st, hst, hsu⟩ := paired_getl hus hx
    have hval : Valid tops st := mem_standsF.mp (List.mem_of_getElem? hst)
    have hsu1 := st_tm.mono _ _ _ _ s1 hsu
    have done : (c.holds st && !decide (st ∈ paper.getD 0 [])) = false → ∀ s ∈ (standsF tops).take (i + 1), (c.holds s && !decide (s ∈ paper.getD 0 [])) = false := fun n s hs => by
      rcases (mem_take_succ hst).mp hs with z | z
      · exact hno s z
      · rw [z]
        exact n
    refine ⟨_, rfl, _, rfl, vg, u, c, st, rfl, cd_tm.mono _ _ _ _ s1 hc, hsu1, Nat.lt_succ_of_le cok.dep, cok.sdep, by rw [hval.1]; exact cok.wf, _, rfl, ?_⟩
    cases hcs : c.holds st with
    | false => exact ifF rfl (ifF rfl ⟨_, rfl, s1, done (by rw [hcs]; rfl)⟩)
    | true =>
      refine ifT rfl ?_
      refine ⟨_, rfl, _, rfl, ap, _, _, _, rfl, rfl, SqL.of (s1 _ _ hap), atI_nat (j := 0) hu0, dSt st, _, dp_st hsu1, dp_lst (fun v x h => dp_st h) (sts_m _ _ _ _ s1 h0), shaped_st _, shaped_lst lay_st (fun x => by rw [depth_st]; decide) _, _, rfl, ?_⟩
      rw [any_eqv eqv_st]
      by_cases c1 : st ∈ paper[0]
      · exact ifF (by simp [c1]) ⟨_, rfl, s1, done (by rw [hcs, e0]; simp [c1])⟩
      · refine ifT (by simp [c1]) ⟨_, rfl, sz_of (show 2 ≤ 100000 by decide), fun t ht => ?_⟩
        have s2 := same_new ht (.tup [.str "begin", u])
        refine q _ _ (s1.trans s2) (.inl ⟨st, t, u, ?_, rfl, upd_same, st_tm.mono _ _ _ _ s2 hsu1⟩)
        exact find_at hst (by rw [hcs, e0]; simp [c1]) hno
  · rintro σ H1 ⟨x3, rfl, s1, hno⟩
    rw [hus.length, take_all] at hno
    refine q _ _ s1 (.inr ⟨?_, rfl⟩)
    unfold bgF
    rw [List.find?_eq_none]
    intro s hs
    rw [hno s hs]
    decide
end
end Hm
end

section
set_option Elab.async false
set_option linter.all false
set_option maxRecDepth 100000
set_option maxHeartbeats 4000000
/-! _law_fitting. -/
namespace Hm
open PySem L2 PySem.W
/-- a paper by a test -/
def paperOf (C : Cfg) (g : Nat → Stand → Bool) : List (List Stand) := (List.range (C.hand.length + 1)).map fun p => (standsF C.tops).filter (g p)
theorem papOk_of {C : Cfg} (co : CfgOk C) (g : Nat → Stand → Bool) : PapOk C (paperOf C g) ∧ ∀ r ∈ paperOf C g, r.length ≤ 12 := by
  have hr : ∀ r ∈ paperOf C g, ∃ p, r = (standsF C.tops).filter (g p) := fun r h => by
    obtain ⟨p, _, e⟩ := List.mem_map.mp h
    exact ⟨p, e.symm⟩
  have h12 : ∀ r ∈ paperOf C g, r.length ≤ 12 := fun r h => by
    obtain ⟨p, rfl⟩ := hr r h
    exact Nat.le_trans (List.length_filter_le _ _) co.hand.box.stands
  refine ⟨⟨by unfold paperOf; rw [List.length_map, List.length_range], fun r h => ?_, fun r h s hs => ?_, fun r h => by have := h12 r h; omega⟩, h12⟩
  · obtain ⟨p, rfl⟩ := hr r h
    exact rising_filter _ (rising_standsF _)
  · obtain ⟨p, rfl⟩ := hr r h
    exact mem_standsF.mp (List.mem_filter.mp hs).1
theorem in_paperOf {C : Cfg} {g : Nat → Stand → Bool} {x : Spot} : InP (paperOf C g) x ↔ C.In x ∧ g x.1 x.2 = true := by
  obtain ⟨p, s⟩ := x
  unfold InP paperOf Cfg.In
  rw [List.getD_eq_getElem?_getD, List.getElem?_map]
  by_cases c : p < C.hand.length + 1
  · rw [List.getElem?_range c]
    simp only [Option.map_some, Option.getD_some, List.mem_filter, mem_standsF]
    exact ⟨fun h => ⟨⟨c, h.1⟩, h.2⟩, fun h => ⟨h.1.2, h.2⟩⟩
  · have e : (List.range (C.hand.length + 1))[p]? = none := by
      rw [List.getElem?_eq_none_iff, List.length_range]
      omega
    rw [e]
    simp only [Option.map_none, Option.getD_none, List.not_mem_nil, false_iff]
    exact fun h => c h.1.1
theorem not_mem_take {l : List Stand} (h : Rising l) {j : Nat} {s : Stand} (e : l[j]? = some s) : s ∉ l.take j := fun m => by
  obtain ⟨k, hk⟩ := List.mem_iff_getElem?.mp m
  rw [List.getElem?_take] at hk
  split at hk
  · rename_i hkj
    obtain ⟨h1, e1⟩ := List.getElem?_eq_some_iff.mp hk
    obtain ⟨h2, e2⟩ := List.getElem?_eq_some_iff.mp e
    have q := List.pairwise_iff_getElem.mp h k j h1 h2 hkj
    rw [e1, e2] at q
    exact lt_irr s q
  · cases hk
section
variable {P : Program} {w : World} {K : PySem.W.Frag} {mg : Str → Option Value} {base : Heap}
abbrev s_law_fitting : Stmt := top 45
abbrev n_law_fitting : List Str := ["_law_boxes_here", "_law_hand_here", "_law_promise", "_law_others", "_law_notes", "_law_first", "_law_spots", "_law_leads_here", "_law_at", "_law_place", "_law_stand", "_law_good", "_law_left", "_law_paper"]
theorem sc_law_fitting : FnScope n_law_fitting ["_law_boxes_here", "_law_hand_here", "_law_promise", "_law_others", "_law_notes", "_law_first"] (defScope s_law_fitting) := ⟨rfl, rfl, rfl, by decide +kernel, rfl, by decide +kernel, by decide +kernel⟩
def spFitting : Sp := fun vs H Q _ => ∃ vb vh vp vo vn fl, ∃ C : Cfg, ∃ bs : List Bool, vs = [vb, vh, vp, vo, vn, .ref fl] ∧ DataAt H vb vh vp vo vn C ∧ H fl = some (.lst (bs.map V.bl)) ∧ 0 < bs.length ∧ CfgOk C ∧
  ∀ v H' paper, Same H H' → IsPaper H' v paper → PapOk C paper → C.Fits paper → Q v H'
theorem ok_law_fitting (D : Def K mg "_law_fitting" s_law_fitting ["_law_boxes_here", "_law_hand_here", "_law_promise", "_law_others", "_law_notes", "_law_first"]) (T : Txt K mg) (c_law_stands : Cal P w K mg base "_law_stands" ["_law_boxes_here"] 1 spStands) (c_law_leads : Cal P w K mg base "_law_leads" ["_law_boxes_here", "_law_hand_here", "_law_others", "_law_place", "_law_stand"] 6 spLLeads)
    (c_law_breaks : Cal P w K mg base "_law_breaks" ["_law_boxes_here", "_law_hand_here", "_law_promise", "_law_note", "_law_place", "_law_stand"] 6 spLBreaks) (c_law_kept : Cal P w K mg base "_law_kept" ["_law_spots", "_law_leads_here"] 1 (spKept P w)) : Cal P w K mg base "_law_fitting" ["_law_boxes_here", "_law_hand_here", "_law_promise", "_law_others", "_law_notes", "_law_first"] 7 spFitting := by
  refine D.cal sc_law_fitting (fun vs H Q E h => ?_) (fun f cdv A outer s H vs Q E hr h => ?_)
  · obtain ⟨vb, vh, vp, vo, vn, fl, C, bs, rfl, _⟩ := h
    rfl
  obtain ⟨vb, vh, vp, vo, vn, fl, C, bs, rfl, dat, hfl, hbs, co, q⟩ := h
  have hu := r64 hr
  have hU := spotKeys_len co
  obtain ⟨ah, rows, rfl, hah, hrows⟩ := id dat.h
  obtain ⟨an, ns, rfl, han, hns⟩ := id dat.n
  have h8 := co.hand.rows
  have h12 := co.hand.box.stands
  refine ⟨_, (pss_cons (ps_set (i := 6) sc_law_fitting.nd rfl (Or.inl rfl) (pe_lst pa_nil))
    (pss_cons (ps_set (i := 7) sc_law_fitting.nd rfl (Or.inl rfl) (pe_nnewK P w))
    (pss_cons (ps_set (i := 8) sc_law_fitting.nd rfl (Or.inl rfl) pe_int)
    (pss_cons (ps_for PassesOwn.never rfl (pi_range1 rfl T.range (pa_cons (pe_op op_add (pe_callB (call_lenK K) (by rfl) T.len PySem.boot_len (pa_cons (pv 1) pa_nil)) pe_int) pa_nil)) (pg_name (i := 9) sc_law_fitting.nd rfl (Or.inr rfl)) (pss_one (ps_for PassesOwn.never rfl (pi_listK K (pe_cal c_law_stands (hr.mono (by first | exact Nat.le_refl _ | decide | omega)) rfl (pa_cons (pv 0) pa_nil))) (pg_name (i := 10) sc_law_fitting.nd rfl (Or.inl rfl)) (pss_cons (ps_set (i := 8) sc_law_fitting.nd rfl (Or.inl rfl) (pe_op op_add (pv 8) pe_int))
            (pss_cons (ps_nputK P w hu (pv 7) (pe_tup (pa_cons (pv 9) (pa_cons (pv 10) pa_nil))) (pe_cal c_law_leads (hr.mono (by first | exact Nat.le_refl _ | decide | omega)) rfl (pa_cons (pv 0) (pa_cons (pv 1) (pa_cons (pv 3) (pa_cons (pv 9) (pa_cons (pv 10) pa_nil)))))))
            (pss_cons (ps_set (i := 11) sc_law_fitting.nd rfl (Or.inl rfl) (pe_not (pe_cal c_law_breaks (hr.mono (by first | exact Nat.le_refl _ | decide | omega)) rfl (pa_cons (pv 0) (pa_cons (pv 1) (pa_cons (pv 2) (pa_cons (pe_ix (ix_listK K) (pv 4) (pv 9) (fun _ _ => rfl)) (pa_cons (pv 9) (pa_cons (pv 10) pa_nil)))))))))
            (pss_one (ps_if (PW.pt (pw_and (pt_val (pv 11)) (pw_and1 (PW.pt (pw_or (pt_cmpR op_isN (pv 5) pe_non (nomark _)) (pw_or1 (pt_val (pe_ix (ix_listK K) (pv 5) (pe_op op_mod (pv 8) (pe_callB (call_lenK K) (by rfl) T.len PySem.boot_len (pa_cons (pv 5) pa_nil))) (fun _ _ => rfl))))))))) (pss_one (ps_expr (pe_bm PySem.F.plainAttrs_list PySem.F.slot_list_append PySem.F.type_list_append mt_append (pv 6) (pa_cons (pe_tup (pa_cons (pv 9) (pa_cons (pv 10) pa_nil))) pa_nil)))) pss_nil))))))))
    (pss_cons (ps_set (i := 12) sc_law_fitting.nd rfl (Or.inr rfl) (pe_cal c_law_kept (hr.mono (by first | exact Nat.le_refl _ | decide | omega)) rfl (pa_cons (pv 6) (pa_cons (pv 7) pa_nil))))
    (pss_cons (ps_set (i := 13) sc_law_fitting.nd rfl (Or.inl rfl) (pe_lst pa_nil))
    (pss_cons (ps_for PassesOwn.never rfl (pi_range1 rfl T.range (pa_cons (pe_op op_add (pe_callB (call_lenK K) (by rfl) T.len PySem.boot_len (pa_cons (pv 1) pa_nil)) pe_int) pa_nil)) (pg_name (i := 9) sc_law_fitting.nd rfl (Or.inr rfl)) (pss_one (ps_expr (pe_bm PySem.F.plainAttrs_list PySem.F.slot_list_append PySem.F.type_list_append mt_append (pv 13) (pa_cons (pe_lc (own := [("_law_stand", 10)]) (g := gName 10) rfl sc_law_fitting.nd (pi_listK K (pe_cal c_law_stands (hr.mono (by first | exact Nat.le_refl _ | decide | omega)) rfl (pa_cons (pv 0) pa_nil))) (blkOk_by (own := [("_law_stand", 10)]) (N := n_law_fitting) (sc := defScope s_law_fitting) (by decide +kernel)) (fun _ _ _ _ _ => (pg_name (i := 10) sc_law_fitting.nd rfl (Or.inl rfl))) (fun _ _ _ _ _ => (pts_one (pt_cmp (pc_ninK P w hu (pe_tup (pa_cons (pv 9) (pa_cons (pv 10) pa_nil))) (pv 12)) rfl))) (fun _ _ _ _ _ => (pv 10))) pa_nil)))))
    (pss_one (ps_ret (pv 13)))))))))), ?_⟩
  refine ⟨Nat.zero_le _, fun ds hds => ?_⟩
  have s0 := same_new hds (.lst [])
  intro dl φ hdl dn0
  have s1 := same_new hdl (.ext φ)
  have s01 := s0.trans s1
  have ndsl : ds ≠ dl := ne_of_none (upd_same (o := .lst [])) hdl
  have hdl0 : H dl = none := s0.free hdl
  let Hb := upd (upd H ds (.lst [])) dl (.ext φ)
  have hbds : Hb ds = some (.lst []) := by show upd _ _ _ ds = _; rw [upd_ne ndsl]; exact upd_same
  have hbdl : Hb dl = some (.ext φ) := upd_same
  have nds : ∀ {b o}, H b = some o → b ≠ ds := fun e z => by rw [z, hds] at e; cases e
  have ndl : ∀ {b o}, H b = some o → b ≠ dl := fun e z => by rw [z, hdl0] at e; cases e
  let Fr : Hp → Prop := fun H' => ∀ b o, b ≠ ds → b ≠ dl → Hb b = some o → H' b = some o
  have frS : ∀ {H'}, Fr H' → Same H H' := fun fr b o e => fr b o (nds e) (ndl e) (s01 _ _ e)
  let Ld : Hp → (Spot → Prop) → Prop := fun H' Pr => ∃ kvs, DN P w H' dl kvs ∧ (∀ k, (valV kvs k).isSome = true → k ∈ spotKeys C) ∧ ∀ x, C.In x → Pr x → ∃ v xs, valV kvs (kSpot x) = some v ∧ IsSpots (nw Hb H') v xs ∧ xs.length ≤ 2100 ∧ ∀ y, y ∈ xs ↔ C.Lead x y
  let Sp : Hp → (Spot → Prop) → Prop := fun H' Pr => ∃ ys sp, H' ds = some (.lst ys) ∧ Paired (IsSpot H') ys sp ∧ sp.Nodup ∧ ∀ x ∈ sp, C.In x ∧ ¬ C.Brk x ∧ Pr x
  have ldS : ∀ {H1 H2 : Hp} {Pr : Spot → Prop}, Ld H1 Pr → Same H1 H2 → Ld H2 Pr := fun ⟨kvs, a, b, c⟩ s => ⟨kvs, a.same s, b, fun x h1 h2 => by
    obtain ⟨v, xs, g1, g2, g3⟩ := c x h1 h2
    exact ⟨v, xs, g1, spots_m _ _ _ _ (nw_same s) g2, g3⟩⟩
  have spS : ∀ {H1 H2 : Hp} {Pr : Spot → Prop}, Sp H1 Pr → Same H1 H2 → Sp H2 Pr := fun ⟨ys, sp, a, b, c⟩ s => ⟨ys, sp, s _ _ a, paired_mono spot_tm.mono s b, c⟩
  have ldI : ∀ {H1 : Hp} {Pr Pr' : Spot → Prop}, Ld H1 Pr → (∀ x, C.In x → Pr' x → Pr x) → Ld H1 Pr' := fun ⟨kvs, a, b, c⟩ h => ⟨kvs, a, b, fun x h1 h2 => c x h1 (h x h1 h2)⟩
  have spI : ∀ {H1 : Hp} {Pr Pr' : Spot → Prop}, Sp H1 Pr → (∀ x, C.In x → Pr x → Pr' x) → Sp H1 Pr' := fun ⟨ys, sp, a, b, c, d⟩ h => ⟨ys, sp, a, b, c, fun x hx => ⟨(d x hx).1, (d x hx).2.1, h x (d x hx).1 (d x hx).2.2⟩⟩
  refine ⟨_, rfl, ah, _, rfl, .inl (SqL.of (s01 _ _ hah)), _, _, rfl, rfl, _, rfl, by rw [hrows.length]; omega, by rw [hrows.length]; omega, for_it walk_range
    (fun i σ H' => ∃ (n : Nat), ∃ x9 x10 x11, σ = [some vb, some (.ref ah), some vp, some vo, some (.ref an), some (.ref fl), some (.ref ds), some (.ref dl), some (.int (n : Int)), x9, x10, x11, none, none] ∧ Fr H' ∧ Ld H' (fun x => x.1 < i) ∧ Sp H' (fun x => x.1 < i))
    ⟨0, _, _, _, rfl, fun b o _ _ e => e, ⟨[], dn0, fun k e => (nomatch e), fun x _ h => absurd h (Nat.not_lt_zero _)⟩, ⟨[], [], hbds, .nil, .nil, fun x h => absurd h List.not_mem_nil⟩⟩ (fun _ _ _ _ _ => True.intro) ?_ ?_⟩
  · rintro i v σ H'0 H' hi ⟨n, x9, x10, x11, rfl, fr, ld, sp0⟩ ⟨rfl, hv⟩
    have hv' : v = .int (i : Int) := hv.trans (by show V.int (0 + (i : Int)) = _; rw [Int.zero_add])
    subst hv'
    have hi' : i ≤ C.hand.length := by rw [hrows.length] at hi; omega
    refine ⟨_, rfl, vb, C.tops, rfl, boxes_m _ _ _ _ (frS fr) dat.b, co.hand.box, fun v2 H2 s2 hv2 => ?_⟩
    obtain ⟨L, us, rfl, hL0, hL, hus⟩ := lst_new st_tm.mono s2 hv2
    have nLds : L ≠ ds := fun z => by
      obtain ⟨ys, _, a, _⟩ := sp0
      rw [z, a] at hL0
      cases hL0
    have nLdl : L ≠ dl := fun z => by
      obtain ⟨_, a, _⟩ := ld
      obtain ⟨_, a⟩ := a.some
      rw [z, a] at hL0
      cases hL0
    refine ⟨L, rfl, ⟨_, SqL.of hL⟩, for_it walk_list
      (fun j σ H3 => ∃ (n : Nat), ∃ x10 x11, σ = [some vb, some (.ref ah), some vp, some vo, some (.ref an), some (.ref fl), some (.ref ds), some (.ref dl), some (.int (n : Int)), some (.int (i : Int)), x10, x11, none, none] ∧ Fr H3 ∧ TK H2 H3 ∧ H3 L = some (.lst us) ∧
        Ld H3 (fun x => x.1 < i ∨ x.1 = i ∧ x.2 ∈ (standsF C.tops).take j) ∧ Sp H3 (fun x => x.1 < i ∨ x.1 = i ∧ x.2 ∈ (standsF C.tops).take j))
      ⟨n, _, _, rfl, fun b o n1 n2 e => s2 _ _ (fr b o n1 n2 e), TK.refl _, hL, ldI (ldS ld s2) (fun x _ h => h.elim id fun z => absurd z.2 (by simp)), spI (spS sp0 s2) fun x _ h => .inl h⟩ (fun j σ H3 _ ⟨_, _, _, _, _, _, z, _⟩ => SqL.of z) ?_ ?_⟩
    · rintro j u σ H3'0 H3 hj ⟨n, x10, x11, rfl, fr3, tk3, hL3, ld3, sp3⟩ ⟨rfl, hx⟩
      obtain ⟨st, hst, hsu⟩ := paired_getl hus hx
      have hval : Valid C.tops st := mem_standsF.mp (List.mem_of_getElem? hst)
      have hsu3 : IsSt H3 u st := st_tm _ _ _ _ tk3 hsu
      have inx : C.In (i, st) := ⟨by show i < _; omega, hval⟩
      have sH3 := frS fr3
      refine ⟨_, rfl, _, _, rfl, rfl, ?_⟩
      -- the leads
      refine ⟨_, rfl, _, rfl, _, rfl, _, rfl, _, rfl, vb, .ref ah, vo, u, i, st, C, rfl, boxes_m _ _ _ _ sH3 dat.b, hand_m _ _ _ _ sH3 dat.h, others_m _ _ _ _ sH3 dat.o, hsu3, co, hi', hval, fun v4 H4 xs s4 hv4 hxl hxm => ?_⟩
      obtain ⟨La, ls, rfl, hLa0, hLa, hls⟩ := lst_new spot_tm.mono s4 hv4
      refine ⟨_, rfl, _, rfl, _, rfl, sz_of (show 2 ≤ 100000 by decide), fun t5 ht5 => ?_⟩
      have s5 := same_new ht5 (.tup [.int (i : Int), u])
      have s45 := s4.trans s5
      obtain ⟨kvs, dn, hkU, hld⟩ := ldS ld3 s45
      have hkl : kvs.length ≤ (spotKeys C).length := by
        rw [← List.length_map (f := (·.1))]
        exact length_le_of_sub dn.nodup fun k hk => hkU k (mem_keys.mp hk)
      have nk5 : NK (upd H4 t5 (.tup [.int (i : Int), u])) (kSpot (i, st)) t5 := key_place (p := (i, st)) upd_same (st_tm.mono _ _ _ _ s45 hsu3)
      refine ⟨dl, t5, kvs, kSpot (i, st), rfl, rfl, dn, nk5, sz_lt (by omega), fun φ6 dn6 => ?_⟩
      obtain ⟨φ5, hφ5⟩ := dn.some
      have tk6 : TK (upd H4 t5 (.tup [.int (i : Int), u])) (upd (upd H4 t5 (.tup [.int (i : Int), u])) dl (.ext φ6)) := TK.upd fun xs z => by rw [hφ5] at z; cases z
      have fr36 : ∀ b o, b ≠ dl → H3 b = some o → upd (upd H4 t5 (.tup [.int (i : Int), u])) dl (.ext φ6) b = some o := fun b o n1 e => by
        rw [upd_ne n1]
        exact s45 _ _ e
      have tk36 : TK H3 (upd (upd H4 t5 (.tup [.int (i : Int), u])) dl (.ext φ6)) := (TK.same s45).trans tk6
      have fr6 : Fr (upd (upd H4 t5 (.tup [.int (i : Int), u])) dl (.ext φ6)) := fun b o n1 n2 e => fr36 b o n2 (fr3 b o n1 n2 e)
      obtain ⟨ys3, sp3l, hys3, hsp3, hspn, hspi⟩ := id sp3
      have hds6 := fr36 _ _ ndsl hys3
      have nLads : La ≠ ds := fun z => by rw [z, hys3] at hLa0; cases hLa0
      have nLadl : La ≠ dl := fun z => by
        obtain ⟨_, a, _⟩ := ld3
        obtain ⟨_, a⟩ := a.some
        rw [z, a] at hLa0
        cases hLa0
      have hbLa : Hb La = none := by
        cases z : Hb La with
        | none => rfl
        | some o =>
          have := fr3 La o nLads nLadl z
          rw [hLa0] at this
          cases this
      have keepb : ∀ {Hx : Hp}, (∀ b o, b ≠ ds → b ≠ dl → H3 b = some o → Hx b = some o) → Same (nw Hb H3) (nw Hb Hx) := fun k => nw_on fun b o e1 e2 => k b o (fun z => by rw [z, hbds] at e1; cases e1) (fun z => by rw [z, hbdl] at e1; cases e1) e2
      have tkn : ∀ {Hx : Hp} {ys : List V} {φx : Heap → Prop}, Fr Hx → Hx ds = some (.lst ys) → Hx dl = some (.ext φx) → TK Hx (nw Hb Hx) := fun f e1 e2 => nw_tk2 f (fun xs z => by rw [e1] at z; cases z) fun xs z => by rw [e2] at z; cases z
      have ld6 : Ld (upd (upd H4 t5 (.tup [.int (i : Int), u])) dl (.ext φ6)) (fun x => x.1 < i ∨ x.1 = i ∧ x.2 ∈ (standsF C.tops).take (j + 1)) := by
        refine ⟨_, dn6, fun k hk => ?_, fun x hx1 hx2 => ?_⟩
        · rw [valV_put] at hk
          by_cases e : k = kSpot (i, st)
          · rw [e]
            exact mem_spotKeys inx
          · rw [if_neg e] at hk
            exact hkU k hk
        · by_cases e : x = (i, st)
          · subst e
            refine ⟨.ref La, xs, by rw [valV_put, if_pos rfl], ⟨La, ls, rfl, ?_, paired_tmono spot_tm (((TK.same s5).trans tk6).trans (tkn fr6 hds6 upd_same)) hls⟩, hxl, hxm⟩
            rw [nw_none hbLa, upd_ne nLadl]
            exact s5 _ _ hLa
          · have hp : x.1 < i ∨ x.1 = i ∧ x.2 ∈ (standsF C.tops).take j := hx2.imp id fun z => ⟨z.1, ((mem_take_succ hst).mp z.2).elim id fun y => absurd (Prod.ext z.1 y) e⟩
            obtain ⟨v, xs', g1, g2, g3⟩ := hld x hx1 hp
            refine ⟨v, xs', by rw [valV_put, if_neg (fun z => e (kSpot_inj z))]; exact g1, spots_m _ _ _ _ (nw_on fun b o e1 e2 => ?_) g2, g3⟩
            rw [upd_ne (fun z => by rw [z, hbdl] at e1; cases e1)]
            exact e2
      have sp6 : Sp (upd (upd H4 t5 (.tup [.int (i : Int), u])) dl (.ext φ6)) (fun x => x.1 < i ∨ x.1 = i ∧ x.2 ∈ (standsF C.tops).take j) := ⟨ys3, sp3l, hds6, paired_tmono spot_tm tk36 hsp3, hspn, hspi⟩
      have hL6 := fr36 _ _ nLdl hL3
      have sH6 := frS fr6
      have hsu6 := st_tm _ _ _ _ tk36 hsu3
      -- the breaks
      obtain ⟨hnote, noteOk⟩ := co.noteAt hi'
      obtain ⟨un, hun, hcd⟩ := paired_get hns hnote
      refine ⟨_, rfl, _, rfl, _, rfl, _, rfl, _, rfl, an, _, _, _, rfl, rfl, SqL.of (sH6 _ _ han), atI_nat hun, _, rfl, _, rfl, vb, .ref ah, vp, un, u, i, st, C, rfl, boxes_m _ _ _ _ sH6 dat.b, hand_m _ _ _ _ sH6 dat.h, steps_m _ _ _ _ sH6 dat.p, cd_tm.mono _ _ _ _ sH6 hcd, hsu6, co, hi', hval, fun b7 H7 s7 hb7 => ?_⟩
      refine ⟨_, rfl, ?_⟩
      have sH7 := sH6.trans s7
      have fr7 : Fr H7 := fun b o n1 n2 e => s7 _ _ (fr6 b o n1 n2 e)
      have ld7 := ldS ld6 s7
      have sp7 := spS sp6 s7
      have tk7 : TK H2 H7 := (tk3.trans tk36).trans (TK.same s7)
      have hL7 := s7 _ _ hL6
      have hne : ((n : Int) + 1) = ((n + 1 : Nat) : Int) := by omega
      have more : Sp H7 (fun x => x.1 < i ∨ x.1 = i ∧ x.2 ∈ (standsF C.tops).take (j + 1)) := spI sp7 fun x _ h => h.imp id fun z => ⟨z.1, (mem_take_succ hst).mpr (.inl z.2)⟩
      refine ⟨_, rfl, _, rfl, ?_⟩
      cases hbb : b7 with
      | true => exact ifF rfl (ifF rfl ⟨n + 1, _, _, by rw [← hne]; rfl, fr7, tk7, hL7, ld7, more⟩)
      | false =>
        refine ifT rfl ?_
        have hmod : (n + 1) % bs.length < bs.length := Nat.mod_lt _ hbs
        have hitem : (bs.map V.bl)[(n + 1) % bs.length]? = some (.bl bs[(n + 1) % bs.length]) := by rw [List.getElem?_map, List.getElem?_eq_getElem hmod]; rfl
        have emod : ((n : Int) + 1) % ((bs.map V.bl).length : Int) = (((n + 1) % bs.length : Nat) : Int) := by
          rw [List.length_map, hne, Int.natCast_emod]
        refine ⟨_, rfl, rfl, _, rfl, ifF rfl ?_⟩
        refine ⟨_, rfl, _, rfl, _, rfl, fl, _, rfl, .inl (SqL.of (sH7 _ _ hfl)), _, _, rfl, rfl, by rw [List.length_map]; omega, fl, _, _, _, rfl, rfl, SqL.of (sH7 _ _ hfl), (by rw [emod]; exact atI_nat hitem), _, rfl, ?_⟩
        refine ite2 (fun _ => ?_) (fun _ => ⟨n + 1, _, _, by rw [← hne]; rfl, fr7, tk7, hL7, ld7, more⟩)
        obtain ⟨ys7, sp7l, hys7, hsp7, hspn7, hspi7⟩ := id sp7
        refine ⟨_, rfl, .inl ⟨rfl, _, SqL.of hys7⟩, _, rfl, _, rfl, sz_of (show 2 ≤ 100000 by decide), fun t8 ht8 => ?_⟩
        have s8 := same_new ht8 (.tup [.int (i : Int), u])
        have hys8 := s8 _ _ hys7
        have nt8 : t8 ≠ ds := fun z => by rw [z, hys7] at ht8; cases ht8
        have hl108 : sp7l.length ≤ 108 := Nat.le_trans (length_le_of_sub hspn7 fun x hx => mem_allSpots.mpr (hspi7 x hx).1) (allSpots_len co)
        refine ⟨ds, ys7, _, rfl, rfl, hys8, sz_lt (by rw [hsp7.length]; omega), ?_⟩
        have tk9 : TK (upd H7 t8 (.tup [.int (i : Int), u])) (upd (upd H7 t8 (.tup [.int (i : Int), u])) ds (.lst (ys7 ++ [.ref t8]))) := TK.upd fun xs z => by rw [hys8] at z; cases z
        have tk79 := (TK.same s8).trans tk9
        have hnb : ¬ C.Brk (i, st) := fun z => by
          rw [hb7.mpr z] at hbb
          cases hbb
        have hsu7 := st_tm.mono _ _ _ _ s7 hsu6
        refine ⟨n + 1, _, _, by rw [← hne]; rfl, fun b o n1 n2 e => by rw [upd_ne n1]; exact s8 _ _ (fr7 b o n1 n2 e), tk7.trans tk79, by rw [upd_ne nLds]; exact s8 _ _ hL7, ?_, ⟨_, sp7l ++ [(i, st)], upd_same, paired_app (paired_tmono spot_tm tk79 hsp7) (.cons ⟨t8, u, rfl, by rw [upd_ne nt8]; exact upd_same, st_tm _ _ _ _ tk79 hsu7⟩ .nil), ?_, fun x hx => ?_⟩⟩
        · obtain ⟨kvs8, dn8, hkU8, hld8⟩ := ldS ld7 s8
          refine ⟨kvs8, dn8.other (Ne.symm ndsl) (fun xs z => by rw [hys8] at z; cases z), hkU8, fun x h1 h2 => ?_⟩
          obtain ⟨v, xs', g1, g2, g3⟩ := hld8 x h1 h2
          refine ⟨v, xs', g1, spots_m _ _ _ _ (nw_on fun b o e1 e2 => ?_) g2, g3⟩
          rw [upd_ne (fun z => by rw [z, hbds] at e1; cases e1)]
          exact e2
        · rw [List.nodup_append]
          refine ⟨hspn7, by simp, fun a ha b hb e => ?_⟩
          rw [List.mem_singleton.mp hb] at e
          rw [e] at ha
          rcases (hspi7 _ ha).2.2 with z | z
          · exact absurd z (Nat.lt_irrefl _)
          · exact not_mem_take (rising_standsF _) hst z.2
        · rcases List.mem_append.mp hx with z | z
          · obtain ⟨h1, h2, h3⟩ := hspi7 x z
            exact ⟨h1, h2, h3.imp id fun z => ⟨z.1, (mem_take_succ hst).mpr (.inl z.2)⟩⟩
          · rw [List.mem_singleton.mp z]
            exact ⟨inx, hnb, .inr ⟨rfl, (mem_take_succ hst).mpr (.inr rfl)⟩⟩
    · rintro σ H3 ⟨n, x10, x11, rfl, fr3, tk3, hL3, ld3, sp3⟩
      rw [hus.length, take_all] at ld3 sp3
      refine ⟨n, _, _, _, rfl, fr3, ldI ld3 fun x h1 h2 => ?_, spI sp3 fun x h1 h2 => by rcases h2 with z | z <;> omega⟩
      by_cases c : x.1 < i
      · exact .inl c
      · exact .inr ⟨by omega, mem_standsF.mpr h1.2⟩
  rintro σ H1 ⟨n, x9, x10, x11, rfl, fr, ⟨kvs, dn, hkU, hld⟩, ⟨ys, sp, hys, hsp, hspn, hspi⟩⟩
  have sH1 := frS fr
  have tkb : TK Hb H1 := fun b xs z => fr b _ (fun y => by rw [y, hbds] at z; cases z) (fun y => by rw [y, hbdl] at z; cases z) z
  have hl108 : sp.length ≤ 108 := Nat.le_trans (length_le_of_sub hspn fun x hx => mem_allSpots.mpr (hspi x hx).1) (allSpots_len co)
  have hLD : LeadD P w H1 dl C := ⟨kvs, dn, fun x hx => by
    obtain ⟨v, xs, g1, g2, g3⟩ := hld x hx (by have := hx.1; rw [hrows.length]; omega)
    exact ⟨v, xs, g1, spots_m _ _ _ _ (nw_sub tkb) g2, g3⟩⟩
  refine ⟨_, rfl, _, rfl, .ref ds, dl, sp, C, rfl, ⟨ds, ys, rfl, hys, hsp⟩, hspn, by omega, fun x hx => (hspi x hx).1, hLD, fun gd H2 S s2 hgd hkg hSsp hScl => ?_⟩
  have sH2 := sH1.trans s2
  obtain ⟨g, hg⟩ : ∃ g : Nat → Stand → Bool, ∀ p s, g p s = true ↔ S (p, s) := by
    classical
    exact ⟨fun p s => decide (S (p, s)), fun p s => decide_eq_true_iff⟩
  refine ⟨Nat.zero_le _, fun pd hpd => ?_⟩
  have s3 : Same H2 (upd H2 pd (.lst [])) := same_new hpd _
  have hpd0 : H pd = none := sH2.free hpd
  let Hd := upd H2 pd (.lst [])
  have hHd : Hd pd = some (.lst []) := upd_same
  have sHd := sH2.trans s3
  refine ⟨_, rfl, ah, _, rfl, .inl (SqL.of (sHd _ _ hah)), _, _, rfl, rfl, _, rfl, by rw [hrows.length]; omega, by rw [hrows.length]; omega, for_it walk_range
    (fun i σ H' => ∃ x9 x10 ys, σ = [some vb, some (.ref ah), some vp, some vo, some (.ref an), some (.ref fl), some (.ref ds), some (.ref dl), some (.int (n : Int)), x9, x10, x11, some (.ref gd), some (.ref pd)] ∧ (∀ c o, c ≠ pd → Hd c = some o → H' c = some o) ∧ TK Hd H' ∧ H' pd = some (.lst ys) ∧
      Paired (IsSts (nw Hd H')) ys (((List.range (C.hand.length + 1)).take i).map fun p => (standsF C.tops).filter (g p)))
    ⟨_, _, [], rfl, fun c o _ e => e, TK.refl _, upd_same, .nil⟩ (fun _ _ _ _ _ => True.intro) ?_ ?_⟩
  · rintro i v σ H'0 H' hi ⟨x9, x10, ys, rfl, fr, tk, hys, hp⟩ ⟨rfl, hv⟩
    have hv' : v = .int (i : Int) := hv.trans (by show V.int (0 + (i : Int)) = _; rw [Int.zero_add])
    subst hv'
    have hi' : i < C.hand.length + 1 := by rw [hrows.length] at hi; omega
    have hri : (List.range (C.hand.length + 1))[i]? = some i := List.getElem?_range hi'
    have sH : Same H H' := fun c o e => fr c o (fun z => by rw [z, hpd0] at e; cases e) (sHd _ _ e)
    refine ⟨_, rfl, .inl ⟨rfl, _, SqL.of hys⟩, ?_⟩
    refine ⟨_, rfl, vb, C.tops, rfl, boxes_m _ _ _ _ sH dat.b, co.hand.box, fun v4 H4 s4 hv4 => ?_⟩
    obtain ⟨Ls, us, rfl, hL0, hLs, hus⟩ := lst_new st_tm.mono s4 hv4
    obtain ⟨φg, hgx⟩ := hkg.some
    have ngp : gd ≠ pd := ne_of_none hgx hpd
    have hkg4 : KeySet P w H4 gd (fun k => ∃ x, S x ∧ k = kSpot x) := ((hkg.same s3).keep ((fr _ _ ngp (s3 _ _ hgx)).trans (s3 _ _ hgx).symm) tk).same s4
    refine ⟨Ls, rfl, ⟨_, SqL.of hLs⟩, lcP walk_list (standsF C.tops) (g i) id IsSt st_tm.mono hus.length.symm (by rw [hus.length]; omega) (fun H2 s2 => SqL.of (s2 _ _ hLs)) (fun j a H5 x H6 F N ha s5 hy hN hF => ?_) (fun D2 H5 s5 hv5 => ?_)⟩
    · obtain ⟨e1, e2⟩ := hy
      subst e1
      obtain ⟨y, hy1, hy2⟩ := paired_get hus ha
      rw [hy1] at e2
      cases Option.some.inj e2
      have hy6 := st_tm.mono _ _ _ _ s5 hy2
      refine ⟨rfl, _, rfl, _, rfl, sz_of (show 2 ≤ 100000 by decide), fun t ht => ?_⟩
      have s6 := same_new ht (.tup [.int (i : Int), x])
      obtain ⟨kvs, dn, hks⟩ := (hkg4.same s5).same s6
      refine ⟨_, rfl, gd, t, kvs, kSpot (i, a), rfl, rfl, dn, key_place (p := (i, a)) upd_same (st_tm.mono _ _ _ _ s6 hy6), _, rfl, ?_⟩
      have hiff : (valV kvs (kSpot (i, a))).isSome = true ↔ S (i, a) := by
        rw [hks]
        exact ⟨fun ⟨x', h1, e⟩ => by rw [kSpot_inj e]; exact h1, fun z => ⟨_, z, rfl⟩⟩
      by_cases c : S (i, a)
      · exact ifT (hiff.mpr c) ⟨_, rfl, hF _ _ s6 ((hg i a).mpr c) (nw_tm st_tm s6 (st_tm.mono _ _ _ _ s6 hy6))⟩
      · exact ifF (Bool.eq_false_iff.mpr fun z => c (hiff.mp z)) (hN _ s6 (Bool.eq_false_iff.mpr fun z => c ((hg i a).mp z)))
    · rw [List.map_id] at hv5
      have s45 := s4.trans s5
      have hpd5 : H5 pd = some (.lst ys) := s45 _ _ hys
      have row : IsSts (nw Hd H5) (.ref D2) ((standsF C.tops).filter (g i)) := sts_m _ _ _ _ (nw_backL (fun b o nb e => s4 _ _ (fr b o nb e)) hHd (s4 _ _ hys) (TK.same s5)) hv5
      have keepd : ∀ xs, Same (nw Hd H5) (nw Hd (upd H5 pd (.lst xs))) := fun xs => nw_on fun b o e1 e2 => by
        rw [upd_ne (fun z => by rw [z, hHd] at e1; cases e1)]
        exact e2
      refine ⟨pd, ys, _, rfl, rfl, hpd5, sz_lt (by rw [hp.length, List.length_map, List.length_take, List.length_range]; omega), ?_⟩
      refine ⟨_, _, _, rfl, fun c o n e => ?_, (tk.trans (TK.same s45)).trans (TK.upd fun xs z => by rw [hpd5] at z; cases z), upd_same, ?_⟩
      · rw [upd_ne n]
        exact s45 _ _ (fr c o n e)
      · rw [take_snoc hri, List.map_append]
        exact paired_app (paired_mono sts_m ((nw_same s45).trans (keepd _)) hp) (.cons (sts_m _ _ _ _ (keepd _) row) .nil)
  · rintro σ H' ⟨x9, x10, ys, rfl, fr, tk, hys, hp⟩
    have sH : Same H H' := fun c o e => fr c o (fun z => by rw [z, hpd0] at e; cases e) (sHd _ _ e)
    have e : (List.range (C.hand.length + 1)).take ((rows.length : Int) + 1 - 0).toNat = List.range (C.hand.length + 1) := List.take_of_length_le (by rw [List.length_range, hrows.length]; omega)
    have hp' : Paired (IsSts (nw Hd H')) ys (paperOf C g) := (congrArg (fun l => Paired (IsSts (nw Hd H')) ys (l.map fun p => (standsF C.tops).filter (g p))) e).mp hp
    refine ⟨_, rfl, q _ _ (paperOf C g) sH ⟨pd, ys, rfl, hys, paired_mono sts_m (nw_sub tk) hp'⟩ (papOk_of co g).1 fun x hx => ?_⟩
    obtain ⟨h1, h2⟩ := in_paperOf.mp hx
    have hS := (hg x.1 x.2).mp h2
    exact ⟨(hspi x (hSsp x hS)).2.1, fun y hy => in_paperOf.mpr ⟨co.ok.lead h1 hy, (hg y.1 y.2).mpr (hScl x hS y hy)⟩⟩
end
end Hm
end

section
set_option Elab.async false
set_option linter.all false
set_option maxRecDepth 100000
set_option maxHeartbeats 4000000
/-! The law. -/
namespace Hm
open PySem L2 PySem.W
theorem weak_paper {C : Cfg} (L : Spot → Prop) : ∃ g : Nat → Stand → Bool, C.weak L = paperOf C g ∧ ∀ p s, g p s = true ↔ ¬ L (p, s) := by
  classical
  have h : ∀ p s, decide (¬ L (p, s)) = true ↔ ¬ L (p, s) := fun p s => decide_eq_true_iff
  exact ⟨fun p s => decide (¬ L (p, s)), weak_eq h, h⟩
theorem begin_ok : PyData.strOk ("begin" : Str) = true := by decide +kernel
theorem eqv_bg (s : Stand) : PyData.eqv (.tuple [.str "begin", dSt s]) (.tuple [.str "begin", dSt s]) = true := by
  rw [PyData.eqv, PyData.eqvAll, PyData.eqvAll, PyData.eqvAll, eqv_st, PyData.eqv]
  simp
theorem bg_nowhere (tops : List Int) (paper : List (List Stand)) : bgF tops (.not .yes) paper = none := by
  unfold bgF
  rw [List.find?_eq_none]
  intro s _
  show ¬ (false && !decide (s ∈ paper.getD 0 [])) = true
  simp
theorem nowhere_ok (n : Nat) : (Cd.not .yes).ok n := ⟨True.intro, by decide, True.intro⟩
/-- a copy of a paper: what list(row) for each row gives -/
theorem filter_all {α : Type} (l : List α) : l.filter (fun _ => true) = l := List.filter_eq_self.mpr fun _ _ => rfl
section
variable {P : Program} {w : World} {K : PySem.W.Frag} {mg : Str → Option Value} {base : Heap}
abbrev s_law : Stmt := top 49
abbrev n_law : List Str := ["_law_script", "_law_boxes_here", "_law_hand_here", "_law_promise", "_law_others", "_law_notes", "_law_pen", "_law_some", "_law_paper", "_law_begin", "_law_nowhere", "_law_found", "_law_place", "_law_stand", "_law_first", "_law_own", "_law_k", "_law_row"]
theorem sc_law : FnScope n_law ["_law_script"] (defScope s_law) := ⟨rfl, rfl, rfl, by decide +kernel, rfl, by decide +kernel, by decide +kernel⟩
def spLaw (K : PySem.W.Frag) : Sp := fun vs H Q _ => ∃ (a : Addr) (ns : List Int), vs = [.ref a] ∧ SqL K H a (ns.map V.int) ∧ ns.length ≤ 63 ∧ ∀ H', Q (.bl true) H'
theorem ok_law {f0 : Addr} {fd0 : FuncData} (F : Fun K "law" "law" s_law f0 fd0) (T : Txt K mg) (c_law_drawn : Cal P w K mg base "_law_drawn" ["_law_script"] 9 (spDrawn K)) (c_law_stands : Cal P w K mg base "_law_stands" ["_law_boxes_here"] 1 spStands) (c_weakest : Cal P w K mg base "weakest" ["boxes", "hand", "promise", "others", "notes"] 10 spWeakest)
    (c_law_cond : Cal P w K mg base "_law_cond" ["_law_pen", "_law_boxes_here", "_law_deep"] 6 (spCond K 2 200)) (c_looked : Cal P w K mg base "looked" ["boxes", "hand", "promise", "others", "notes", "begin", "paper"] 9 spLooked) (c_law_begin_due : Cal P w K mg base "_law_begin_due" ["_law_paper", "_law_begin", "_law_some"] 5 spBeginDue) (c_law_lacking : Cal P w K mg base "_law_lacking" ["_law_pen", "_law_paper", "_law_some"] 3 (spLacking K))
    (c_law_more : Cal P w K mg base "_law_more" ["_law_paper", "_law_place", "_law_stand"] 1 spMore) (c_law_next : Cal P w K mg base "_law_next" ["_law_pen", "_law_many"] 2 (spNext K)) (c_law_fitting : Cal P w K mg base "_law_fitting" ["_law_boxes_here", "_law_hand_here", "_law_promise", "_law_others", "_law_notes", "_law_first"] 7 spFitting) :
    FnOk P w K mg base CX0 11 f0 fd0 ["_law_script"] (spLaw K) := by
  refine F.ok sc_law (fun vs H Q E h => ?_) (fun cdv A outer s H vs Q E hr h => ?_)
  · obtain ⟨a, ns, rfl, _⟩ := h
    rfl
  obtain ⟨sc, ns, rfl, hsc, hns, q⟩ := h
  have hu := r64 hr
  have hu5 := r65 hr
  refine ⟨_, (pss_cons (ps_asg (pe_cal c_law_drawn (hr.mono (by first | exact Nat.le_refl _ | decide | omega)) rfl (pa_cons (pv 0) pa_nil)) (pg_unlK (n := 6) K rfl (pgs_cons (pg_name (i := 1) sc_law.nd rfl (Or.inl rfl)) (pgs_cons (pg_name (i := 2) sc_law.nd rfl (Or.inl rfl)) (pgs_cons (pg_name (i := 3) sc_law.nd rfl (Or.inl rfl)) (pgs_cons (pg_name (i := 4) sc_law.nd rfl (Or.inl rfl)) (pgs_cons (pg_name (i := 5) sc_law.nd rfl (Or.inl rfl)) (pgs_cons (pg_name (i := 6) sc_law.nd rfl (Or.inr rfl)) pgs_nil))))))))
    (pss_cons (ps_set (i := 7) sc_law.nd rfl (Or.inl rfl) (pe_cal c_law_stands (hr.mono (by first | exact Nat.le_refl _ | decide | omega)) rfl (pa_cons (pv 1) pa_nil)))
    (pss_cons (ps_set (i := 8) sc_law.nd rfl (Or.inr rfl) (pe_cal c_weakest (hr.mono (by first | exact Nat.le_refl _ | decide | omega)) rfl (pa_cons (pv 1) (pa_cons (pv 2) (pa_cons (pv 3) (pa_cons (pv 4) (pa_cons (pv 5) pa_nil)))))))
    (pss_cons (ps_set (i := 9) sc_law.nd rfl (Or.inl rfl) (pe_cal c_law_cond (hr.mono (by first | exact Nat.le_refl _ | decide | omega)) rfl (pa_cons (pv 6) (pa_cons (pv 1) (pa_cons pe_int pa_nil)))))
    (pss_cons (ps_set (i := 10) sc_law.nd rfl (Or.inl rfl) (pe_tup (pa_cons pe_str (pa_cons (pe_tup (pa_cons pe_str pa_nil)) pa_nil))))
    (pss_cons (ps_set (i := 11) sc_law.nd rfl (Or.inl rfl) (pe_cal c_looked (hr.mono (by first | exact Nat.le_refl _ | decide | omega)) rfl (pa_cons (pv 1) (pa_cons (pv 2) (pa_cons (pv 3) (pa_cons (pv 4) (pa_cons (pv 5) (pa_cons (pv 9) (pa_cons (pe_lc (own := [("_law_row", 17)]) (g := gName 17) rfl sc_law.nd (pi_listK K (pv 8)) (blkOk_by (own := [("_law_row", 17)]) (N := n_law) (sc := defScope s_law) (by decide +kernel)) (fun _ _ _ _ _ => (pg_name (i := 17) sc_law.nd rfl (Or.inl rfl))) (fun _ _ _ _ _ => pts_nil) (fun _ _ _ _ _ => (pe_callTy (call_listK K) (by rfl) T.list (by decide +kernel) (pa_cons (pv 17) pa_nil)))) pa_nil)))))))))
    (pss_cons (ps_if (pt_cmpR (op_neDK K hu) (pv 11) (pe_cal c_law_begin_due (hr.mono (by first | exact Nat.le_refl _ | decide | omega)) rfl (pa_cons (pv 8) (pa_cons (pv 9) (pa_cons (pv 7) pa_nil)))) (nomark _)) (pss_one (ps_ret pe_bl)) pss_nil)
    (pss_cons (ps_for PassesOwn.never rfl (pi_listK K (pe_cal c_law_lacking (hr.mono (by first | exact Nat.le_refl _ | decide | omega)) rfl (pa_cons (pv 6) (pa_cons (pv 8) (pa_cons (pv 7) pa_nil))))) (pg_tupK (n := 2) K rfl (pgs_cons (pg_name (i := 12) sc_law.nd rfl (Or.inr rfl)) (pgs_cons (pg_name (i := 13) sc_law.nd rfl (Or.inl rfl)) pgs_nil))) (pss_one (ps_if (pt_cmpR op_isN (pe_cal c_looked (hr.mono (by first | exact Nat.le_refl _ | decide | omega)) rfl (pa_cons (pv 1) (pa_cons (pv 2) (pa_cons (pv 3) (pa_cons (pv 4) (pa_cons (pv 5) (pa_cons (pv 10) (pa_cons (pe_cal c_law_more (hr.mono (by first | exact Nat.le_refl _ | decide | omega)) rfl (pa_cons (pv 8) (pa_cons (pv 12) (pa_cons (pv 13) pa_nil)))) pa_nil)))))))) pe_non (nomark _)) (pss_one (ps_ret pe_bl)) pss_nil)))
    (pss_cons (ps_setLc (i := 14) (own := [("_law_k", 16)]) (g := gName 16) rfl sc_law.nd rfl rfl (sw_true rfl rfl rfl (by decide +kernel)) (pi_range1 rfl T.range (pa_cons pe_int pa_nil)) (blkOk_by (own := [("_law_k", 16)]) (N := n_law) (sc := defScope s_law) (by decide +kernel)) (fun _ _ _ _ _ => (pg_name (i := 16) sc_law.nd rfl (Or.inl rfl))) (fun _ _ _ _ _ => pts_nil) (fun _ _ _ _ _ => (pe_cmpR op_gt (pe_cal c_law_next (hr.mono (by first | exact Nat.le_refl _ | decide | omega)) rfl (pa_cons (pv 6) (pa_cons pe_int pa_nil))) pe_int (nomark _))))
    (pss_cons (ps_set (i := 15) sc_law.nd rfl (Or.inl rfl) (pe_cal c_law_fitting (hr.mono (by first | exact Nat.le_refl _ | decide | omega)) rfl (pa_cons (pv 1) (pa_cons (pv 2) (pa_cons (pv 3) (pa_cons (pv 4) (pa_cons (pv 5) (pa_cons (pv 14) pa_nil))))))))
    (pss_cons (ps_if (pt_cmpR op_notN (pe_cal c_looked (hr.mono (by first | exact Nat.le_refl _ | decide | omega)) rfl (pa_cons (pv 1) (pa_cons (pv 2) (pa_cons (pv 3) (pa_cons (pv 4) (pa_cons (pv 5) (pa_cons (pv 10) (pa_cons (pv 15) pa_nil)))))))) pe_non (nomark _)) (pss_one (ps_ret pe_bl)) pss_nil)
    (pss_cons (ps_for PassesOwn.never rfl (pi_range1 rfl T.range (pa_cons (pe_callB (call_lenK K) (by rfl) T.len PySem.boot_len (pa_cons (pv 15) pa_nil)) pa_nil)) (pg_name (i := 12) sc_law.nd rfl (Or.inr rfl)) (pss_one (ps_if (pt_cmpR (op_neDK K hu) (pe_lc (own := [("_law_stand", 13)]) (g := gName 13) rfl sc_law.nd (pi_listK K (pe_ix (ix_listK K) (pv 15) (pv 12) (fun _ _ => rfl))) (blkOk_by (own := [("_law_stand", 13)]) (N := n_law) (sc := defScope s_law) (by decide +kernel)) (fun _ _ _ _ _ => (pg_name (i := 13) sc_law.nd rfl (Or.inl rfl))) (fun _ _ _ _ _ => (pts_one (pt_cmpR (op_notInDK K hu5) (pv 13) (pe_ix (ix_listK K) (pv 8) (pv 12) (fun _ _ => rfl)) (by rfl)))) (fun _ _ _ _ _ => (pv 13))) (pe_lst pa_nil) (nomark _)) (pss_one (ps_ret pe_bl)) pss_nil)))
    (pss_one (ps_ret pe_bl)))))))))))))), ?_⟩
  -- the drawing
  refine ⟨_, rfl, sc, ns, rfl, hsc, by omega, fun L H1 vb vh vp vo vn p C s1 hL nLp pen1 dat1 co => ?_⟩
  refine ⟨L, _, rfl, SqL.of hL, rfl, _, _, rfl, _, _, rfl, _, _, rfl, _, _, rfl, _, _, rfl, _, _, rfl, rfl, ?_⟩
  have datH := dat1.same mi_sub
  have h8 := co.hand.rows
  have h12 := co.hand.box.stands
  -- the stands
  refine ⟨_, rfl, vb, C.tops, rfl, datH.b, co.hand.box, fun vs2 H2 s2 hs0 => ?_⟩
  have hs2 := sts_m _ _ _ _ (nw_mi pen1 (TK.same s2)) hs0
  have pen2 := pen1.same s2
  have dat2 := dat1.same (mi_same s2)
  have datH2 := dat2.same mi_sub
  -- the weakest paper
  refine ⟨_, rfl, _, rfl, _, rfl, _, rfl, _, rfl, vb, vh, vp, vo, vn, C, rfl, datH2.b, datH2.h, datH2.p, datH2.o, datH2.n, co, fun vq H3 Ls s3 hLost hLin hp0 => ?_⟩
  obtain ⟨g, hweak, hg⟩ := weak_paper (C := C) Ls
  have hfits := weak_fits co.ok hLost
  have hwin : ∀ x, InP (C.weak Ls) x ↔ C.In x ∧ ¬ Ls x := fun x => weak_in
  obtain ⟨po, po12⟩ := papOk_of co g
  rw [← hweak] at po po12
  have hp3 := paper_m _ _ _ _ (nw_mi pen2 (TK.same s3)) hp0
  have pen3 := pen2.same s3
  have dat3 := dat2.same (mi_same s3)
  have hs3 := sts_m _ _ _ _ (mi_same s3) hs2
  -- begin
  refine ⟨_, rfl, _, rfl, p, sc, vb, 1, _, C.tops, rfl, pen3, by omega, dat3.b, co.hand.box, by decide, fun vg H4 cg p4 hg4 wg dg sdg => ?_⟩
  have cgok : cg.ok C.tops.length := ⟨wg, dg, sdg⟩
  have dat4 := dat3.same p4.mi
  have hp4 := paper_m _ _ _ _ p4.mi hp3
  have hs4 := sts_m _ _ _ _ p4.mi hs3
  -- nowhere
  refine ⟨sz_of (show 1 ≤ 100000 by decide), fun t1 ht1 => ⟨sz_of (show 2 ≤ 100000 by decide), fun t2 ht2 => ?_⟩⟩
  have s5a := same_new ht1 (.tup [.str "yes"])
  have s5b := same_new ht2 (.tup [.str "not", .ref t1])
  have s5 := s5a.trans s5b
  have hno5 : IsCd (upd (upd H4 t1 (.tup [.str "yes"])) t2 (.tup [.str "not", .ref t1])) (.ref t2) (.not .yes) := .not upd_same (.yes (s5b _ _ upd_same))
  have pen5 := p4.pen.same s5
  have dat5 := dat4.same (mi_same s5)
  have datH5 := dat5.same mi_sub
  have hp5 := paper_m _ _ _ _ (mi_same s5) hp4
  have hs5 := sts_m _ _ _ _ (mi_same s5) hs4
  have hg5 := cd_tm.mono _ _ _ _ s5 hg4
  have hpH5 := paper_m _ _ _ _ mi_sub hp5
  -- looked at the weakest, with begin
  obtain ⟨aq, qs, rfl, haq, hqs⟩ := id hpH5
  have hplen : (C.weak Ls).length = C.hand.length + 1 := po.len
  refine ⟨_, rfl, _, rfl, _, rfl, _, rfl, _, rfl, _, rfl, _, rfl, aq, rfl, ⟨_, SqL.of haq⟩, lcP walk_list (C.weak Ls) (fun _ => true) id IsSts sts_m hqs.length.symm (by rw [hqs.length]; omega) (fun H2 s2 => SqL.of (s2 _ _ haq)) (fun j r H6 x H7 F N' hr' s6 hy hN' hF => ?_) (fun d6 H6 s6 hv6 => ?_)⟩
  · obtain ⟨e1, e2⟩ := hy
    subst e1
    obtain ⟨y, hy1, hyu⟩ := paired_get hqs hr'
    rw [hy1] at e2
    cases Option.some.inj e2
    obtain ⟨ar, rs, rfl, har, hrs⟩ := sts_m _ _ _ _ s6 hyu
    refine ⟨rfl, yesT ?_⟩
    refine ⟨_, rfl, ar, rs, rfl, .inl (SqL.of har), fun l hl => ?_⟩
    have s7 := same_new hl (.lst rs)
    exact hF _ _ s7 rfl ⟨l, rs, rfl, by rw [nw_none hl]; exact upd_same, paired_tmono st_tm ((TK.same s7).trans (nw_tk s7)) hrs⟩
  rw [filter_all, List.map_id] at hv6
  have hv6' : IsPaper H6 (.ref d6) (C.weak Ls) := paper_m _ _ _ _ (nw_sub (TK.same s6)) hv6
  have pen6 := pen5.same s6
  have dat6 := dat5.same (mi_same s6)
  have datH6 := dat6.same mi_sub
  refine ⟨vb, vh, vp, vo, vn, vg, .ref d6, C, cg, C.weak Ls, rfl, datH6.b, datH6.h, datH6.p, datH6.o, datH6.n, cd_tm.mono _ _ _ _ s6 hg5, hv6', co, cgok, po, fun vf H7 s7 hres => ?_⟩
  have s57 := s6.trans s7
  have pen7 := pen5.same s57
  have dat7 := dat5.same (mi_same s57)
  have hp7 := paper_m _ _ _ _ (mi_same s57) hp5
  have hs7 := sts_m _ _ _ _ (mi_same s57) hs5
  have hno7 := cd_tm.mono _ _ _ _ s57 hno5
  have hg7 := cd_tm.mono _ _ _ _ s57 hg5
  -- found != due
  refine ⟨_, rfl, _, rfl, _, rfl, _, rfl, .ref aq, vg, vs2, cg, C.weak Ls, C.tops, rfl, paper_m _ _ _ _ mi_sub hp7, by omega, hg7, sts_m _ _ _ _ mi_sub hs7, cgok, fun vd H8 s8 hdue => ?_⟩
  have hsame : ∃ d, Dp K H8 vf d ∧ Dp K H8 vd d ∧ SeqAt.shaped d = true ∧ PyData.eqv d d = true := by
    rcases hres with ⟨s, t, u, e1, rfl, h1, h2⟩ | ⟨e1, h1⟩
    · rcases hdue with ⟨s', t', u', e2, rfl, h3, h4⟩ | ⟨e2, _⟩
      · rw [e1] at e2
        cases e2
        exact ⟨.tuple [.str "begin", dSt s], .tup (SqT.of (s8 _ _ h1)) (.cons (.str _) (.cons (dp_st (st_tm.mono _ _ _ _ s8 h2)) .nil)), .tup (SqT.of h3) (.cons (.str _) (.cons (dp_st h4) .nil)), shaped_of (by simp [PyData.canLay0, PyData.canLayAll0, lay_st, begin_ok]) (by simp [PyData.depth, PyData.depthAll, depth_st]), eqv_bg s⟩
      · rw [e1] at e2
        cases e2
    · rcases hdue with ⟨s', t', u', e2, _⟩ | ⟨e2, rfl⟩
      · rw [e1] at e2
        cases e2
      · rcases h1 with ⟨rfl, _⟩ | ⟨_, h⟩
        · exact ⟨.none, .non, .non, by decide +kernel, by simp [PyData.eqv]⟩
        · exact absurd hfits h
  obtain ⟨dd, hd1, hd2, hd3, hd4⟩ := hsame
  refine ⟨dd, dd, hd1, hd2, hd3, hd3, _, rfl, ifF (by rw [hd4]; rfl) ?_⟩
  have pen8 := pen7.same s8
  have dat8 := dat7.same (mi_same s8)
  have hp8 := paper_m _ _ _ _ (mi_same s8) hp7
  have hs8 := sts_m _ _ _ _ (mi_same s8) hs7
  have hno8 := cd_tm.mono _ _ _ _ s8 hno7
  -- the lacking spots
  refine ⟨_, rfl, _, rfl, _, rfl, p, sc, .ref aq, vs2, _, C.weak Ls, standsF C.tops, rfl, pen8, by omega, hp8, hs8, h12, by omega, fun v9 H9 xs p9 hv9 hxs => ?_⟩
  have dat9 := dat8.same p9.mi
  have hp9 := paper_m _ _ _ _ p9.mi hp8
  have hno9 := cd_tm _ _ _ _ (p9.tk pen8) hno8
  obtain ⟨a9, us9, rfl, ha98, ha9, hus9⟩ := new_lst hv9 spot_tm.mono (p9.tk pen8)
  refine ⟨a9, rfl, ⟨_, SqL.of ha9⟩, for_it walk_list
    (fun i σ H' => ∃ x12 x13, σ = [some (.ref sc), some vb, some vh, some vp, some vo, some vn, some (.ref p), some vs2, some (.ref aq), some vg, some (.ref t2), some vf, x12, x13, none, none, none, none] ∧ Same H9 H')
    ⟨_, _, rfl, Same.refl _⟩ (fun i σ H' _ ⟨_, _, _, s⟩ => SqL.of (s _ _ ha9)) ?_ ?_⟩
  · rintro i u σ H10'0 H10 hi ⟨x12, x13, rfl, s10⟩ ⟨rfl, hx⟩
    obtain ⟨⟨pl, st⟩, hxx, bu, yu, rfl, hbu, hyu⟩ := paired_getl hus9 hx
    obtain ⟨hpl, hstm, hnin⟩ := hxs _ (List.mem_of_getElem? hxx)
    have hpl' : pl < (C.weak Ls).length := hpl
    have hval : Valid C.tops st := mem_standsF.mp hstm
    refine ⟨bu, _, rfl, SqT.of (s10 _ _ hbu), rfl, _, _, rfl, _, _, rfl, rfl, ?_⟩
    have dat10 := (dat9.same (mi_same s10)).same mi_sub
    have hp10 := paper_m _ _ _ _ mi_sub (paper_m _ _ _ _ (mi_same s10) hp9)
    refine ⟨_, rfl, _, rfl, _, rfl, _, rfl, _, rfl, _, rfl, _, rfl, _, rfl, _, rfl, .ref aq, pl, yu, st, C, C.weak Ls, rfl, hp10, po, co, hpl', st_tm.mono _ _ _ _ s10 hyu, hval, hnin, fun r hr => by have := po12 r hr; omega, fun v11 H11 paper' s11 hp11 po11 hin11 => ?_⟩
    have dat11 := dat10.same s11
    refine ⟨vb, vh, vp, vo, vn, .ref t2, v11, C, .not .yes, paper', rfl, dat11.b, dat11.h, dat11.p, dat11.o, dat11.n, cd_tm.mono _ _ _ _ (s10.trans s11) hno9, hp11, co, nowhere_ok _, po11, fun v12 H12 s12 hres12 => ?_⟩
    have inx : C.In (pl, st) := ⟨by rw [hplen] at hpl'; exact hpl', hval⟩
    have hlost : Ls (pl, st) := Classical.byContradiction fun n => hnin ((hwin _).mpr ⟨inx, n⟩)
    have hnf : ¬ C.Fits paper' := fun hf => fits_not_lost hLost hf ((hin11 (pl, st)).mpr (.inr rfl)) hlost
    rcases hres12 with ⟨s, t, u, e1, _⟩ | ⟨_, ⟨_, h⟩ | ⟨hne, _⟩⟩
    · rw [bg_nowhere] at e1
      cases e1
    · exact absurd h hnf
    · exact ⟨rfl, _, rfl, ifF (decide_eq_false hne) ⟨_, _, rfl, (s10.trans s11).trans s12⟩⟩
  rintro σ H10 ⟨x12, x13, rfl, s10⟩
  have pen10 := p9.pen.same s10
  have dat10 := dat9.same (mi_same s10)
  have hp10 := paper_m _ _ _ _ (mi_same s10) hp9
  have hno10 := cd_tm.mono _ _ _ _ s10 hno9
  -- first
  refine ⟨_, rfl, by omega, by omega, fun d hd => ?_⟩
  have ndp := pen10.ne hd
  refine lc_it walk_range
    (fun i H' => ∃ (bs : List Bool), PenTo K p sc H10 H' (200000 + i) ∧ H' d = some (.lst (bs.map V.bl)) ∧ bs.length = i)
    ⟨[], (PenTo.of pen10 (same_new hd _)).le (by omega), upd_same, rfl⟩ (fun _ _ _ _ => True.intro) ?_ ?_
  · rintro i x H11'0 H11 hi ⟨bs, pt, hbs, hbl⟩ ⟨rfl, hv⟩
    have hi7 : i < 7 := by omega
    refine ⟨rfl, yesT ?_⟩
    refine ⟨_, rfl, p, sc, _, _, rfl, pt.pen, by omega, by decide, fun r H12 hr12 p12 => ?_⟩
    have hbs12 := p12.fr _ _ ndp hbs
    refine ⟨_, _, rfl, rfl, _, hbs12, sz_lt (by rw [List.length_map]; omega), bs ++ [decide ((0 : Int) < (r : Int))], PenTo.put pen10 ((pt.trans p12).le (by omega)) hd, ?_, by rw [List.length_append, List.length_singleton, hbl]⟩
    rw [upd_same, List.map_append]
    rfl
  rintro H11 ⟨bs, pt11, hbs, hbl⟩
  have dat11 := dat10.same pt11.mi
  have datH11 := dat11.same mi_sub
  have hp11 := paper_m _ _ _ _ mi_sub (paper_m _ _ _ _ pt11.mi hp10)
  have hno11 := cd_tm _ _ _ _ (pt11.tk pen10) hno10
  -- a paper that fits
  refine ⟨_, rfl, _, rfl, _, rfl, _, rfl, _, rfl, _, rfl, vb, vh, vp, vo, vn, d, C, bs, rfl, datH11, hbs, by rw [hbl]; decide, co, fun v12 H12 own s12 hown poo hof => ?_⟩
  have dat12 := datH11.same s12
  have hp12 := paper_m _ _ _ _ s12 hp11
  refine ⟨_, rfl, _, rfl, _, rfl, _, rfl, _, rfl, _, rfl, _, rfl, vb, vh, vp, vo, vn, .ref t2, v12, C, .not .yes, own, rfl, dat12.b, dat12.h, dat12.p, dat12.o, dat12.n, cd_tm.mono _ _ _ _ s12 hno11, hown, co, nowhere_ok _, poo, fun v13 H13 s13 hres13 => ?_⟩
  have hnon : v13 = .non := by
    rcases hres13 with ⟨s, t, u, e1, _⟩ | ⟨_, ⟨h, _⟩ | ⟨_, h⟩⟩
    · rw [bg_nowhere] at e1
      cases e1
    · exact h
    · exact absurd hof h
  subst hnon
  refine ⟨rfl, _, rfl, ifF rfl ?_⟩
  have hown13 := paper_m _ _ _ _ s13 hown
  have hp13 := paper_m _ _ _ _ s13 hp12
  obtain ⟨ao, os, rfl, hao, hos⟩ := id hown13
  obtain ⟨aq', qs', eq', haq', hqs'⟩ := id hp13
  cases eq'
  have holen := poo.len
  refine ⟨_, rfl, ao, _, rfl, .inl (SqL.of hao), _, rfl, by omega, by rw [hos.length]; omega, for_it walk_range
    (fun i σ H' => ∃ x12 x13, σ = [some (.ref sc), some vb, some vh, some vp, some vo, some vn, some (.ref p), some vs2, some (.ref aq), some vg, some (.ref t2), some vf, x12, x13, some (.ref d), some (.ref ao), none, none] ∧ Same H13 H')
    ⟨_, _, rfl, Same.refl _⟩ (fun _ _ _ _ _ => True.intro) ?_ ?_⟩
  · rintro i v σ H14'0 H14 hi ⟨x12, x13, rfl, s14⟩ ⟨rfl, hv⟩
    have hv' : v = .int (i : Int) := hv.trans (by show V.int (0 + (i : Int)) = _; rw [Int.zero_add])
    subst hv'
    have hio : i < own.length := by rw [hos.length] at hi; omega
    have hiq : i < (C.weak Ls).length := by omega
    obtain ⟨uo, huo, ro, ors, rfl, hro, hors⟩ := paired_get hos (List.getElem?_eq_getElem hio)
    obtain ⟨uq, huq, hrq⟩ := paired_get hqs' (List.getElem?_eq_getElem hiq)
    have hsz := poo.size _ (List.getElem_mem hio)
    refine ⟨_, rfl, _, rfl, ao, _, _, _, rfl, rfl, SqL.of (s14 _ _ hao), atI_nat huo, ro, rfl, ⟨_, SqL.of (s14 _ _ hro)⟩, lcP walk_list own[i] (fun s => !decide (s ∈ (C.weak Ls)[i])) id IsSt st_tm.mono hors.length.symm (by rw [hors.length]; omega) (fun H2 s2 => SqL.of (s2 _ _ (s14 _ _ hro))) (fun j st H15 x H16 F N' hst s15 hy hN' hF => ?_) (fun d15 H15 s15 hv15 => ?_)⟩
    · obtain ⟨e1, e2⟩ := hy
      subst e1
      obtain ⟨y, hy1, hyu⟩ := paired_get hors hst
      rw [hy1] at e2
      cases Option.some.inj e2
      have s145 := s14.trans s15
      have hy3 := st_tm.mono _ _ _ _ s145 hyu
      refine ⟨rfl, ?_⟩
      refine ⟨_, rfl, _, rfl, _, rfl, aq, _, _, _, rfl, rfl, SqL.of (s145 _ _ haq'), atI_nat huq, dSt st, _, dp_st hy3, dp_lst (fun v x h => dp_st h) (sts_m _ _ _ _ s145 hrq), shaped_st _, shaped_lst lay_st (fun x => by rw [depth_st]; decide) _, _, rfl, ?_⟩
      rw [any_eqv eqv_st]
      by_cases c : st ∈ (C.weak Ls)[i]
      · exact ifF (by simp [c]) (hN' _ (Same.refl _) (by simp [c]))
      · exact ifT (by simp [c]) ⟨_, rfl, hF _ _ (Same.refl _) (by simp [c]) (nw_tm st_tm (Same.refl _) hy3)⟩
    · have hempty : own[i].filter (fun s => !decide (s ∈ (C.weak Ls)[i])) = [] := by
        rw [List.filter_eq_nil_iff]
        intro s hs
        have hin : InP own (i, s) := by
          show s ∈ own.getD i []
          rw [getD_some (List.getElem?_eq_getElem hio)]
          exact hs
        have hw : InP (C.weak Ls) (i, s) := (hwin _).mpr ⟨⟨by show i < _; omega, poo.val _ (List.getElem_mem hio) s hs⟩, fits_not_lost hLost hof hin⟩
        have hw' : s ∈ (C.weak Ls).getD i [] := hw
        rw [getD_some (List.getElem?_eq_getElem hiq)] at hw'
        simp [hw']
      rw [hempty] at hv15
      obtain ⟨d16, zs, e16, hd16, hzs⟩ := hv15
      cases e16
      cases hzs
      have hd15 := nw_sub (TK.same s15) _ _ hd16
      refine ⟨Nat.zero_le _, fun e he => ?_⟩
      have s16 := same_new he (.lst [])
      refine ⟨.list [], .list [], .lst (SqL.of (s16 _ _ hd15)) .nil, .lst (SqL.of upd_same) .nil, by decide +kernel, by decide +kernel, _, rfl, ifF (by simp [PyData.eqv, PyData.eqvAll]) ⟨_, _, rfl, (s14.trans s15).trans s16⟩⟩
  · rintro σ H14 ⟨x12, x13, rfl, s14⟩
    exact q _
end
end Hm
end

section
set_option Elab.async false
set_option linter.all false
set_option maxRecDepth 100000
set_option maxHeartbeats 4000000
/-! What the top has written: the defs, the class, the law's promise. -/
namespace Hm
open PySem L2
section
variable {K : PySem.W.Frag} {h : Heap} {mg : Str → Option Value} {f : Addr} {od an : Option Addr} {sl : Array (Option Value)} {oc kV dc pm cd ct : Value}
theorem df_is_whole (X : K.In h) (G : h.Ns mainGlobals mg) (a : PySem.W.nsIn K mainGlobals "is_whole" = some (some (.ref f))) (l : K.lookup f = some ⟨oc, od, .func (PySem.W.fnOf "is_whole" "is_whole" (defArgs s_is_whole) (defBody s_is_whole) (defScope s_is_whole) .none kV dc pm an cd ct), sl⟩) (c : PySem.W.codeIn K cd "is_whole" = true) (k : PySem.W.keepIn K (.ref f) = true) : Def K mg "is_whole" s_is_whole ["thing"] := by
  have F := fun_mk (st := s_is_whole) l c k
  exact ⟨f, _, F, PySem.W.mg_of X G a, F.binds (ps := ["thing"]) fun _ _ _ _ _ _ us hl => match us, hl with | [_], _ => rfl⟩
theorem df_stands (X : K.In h) (G : h.Ns mainGlobals mg) (a : PySem.W.nsIn K mainGlobals "stands" = some (some (.ref f))) (l : K.lookup f = some ⟨oc, od, .func (PySem.W.fnOf "stands" "stands" (defArgs s_stands) (defBody s_stands) (defScope s_stands) .none kV dc pm an cd ct), sl⟩) (c : PySem.W.codeIn K cd "stands" = true) (k : PySem.W.keepIn K (.ref f) = true) : Def K mg "stands" s_stands ["boxes"] := by
  have F := fun_mk (st := s_stands) l c k
  exact ⟨f, _, F, PySem.W.mg_of X G a, F.binds (ps := ["boxes"]) fun _ _ _ _ _ _ us hl => match us, hl with | [_], _ => rfl⟩
theorem df_is_stand (X : K.In h) (G : h.Ns mainGlobals mg) (a : PySem.W.nsIn K mainGlobals "is_stand" = some (some (.ref f))) (l : K.lookup f = some ⟨oc, od, .func (PySem.W.fnOf "is_stand" "is_stand" (defArgs s_is_stand) (defBody s_is_stand) (defScope s_is_stand) .none kV dc pm an cd ct), sl⟩) (c : PySem.W.codeIn K cd "is_stand" = true) (k : PySem.W.keepIn K (.ref f) = true) : Def K mg "is_stand" s_is_stand ["boxes", "thing"] := by
  have F := fun_mk (st := s_is_stand) l c k
  exact ⟨f, _, F, PySem.W.mg_of X G a, F.binds (ps := ["boxes", "thing"]) fun _ _ _ _ _ _ us hl => match us, hl with | [_, _], _ => rfl⟩
theorem df_value (X : K.In h) (G : h.Ns mainGlobals mg) (a : PySem.W.nsIn K mainGlobals "value" = some (some (.ref f))) (l : K.lookup f = some ⟨oc, od, .func (PySem.W.fnOf "value" "value" (defArgs s_value) (defBody s_value) (defScope s_value) .none kV dc pm an cd ct), sl⟩) (c : PySem.W.codeIn K cd "value" = true) (k : PySem.W.keepIn K (.ref f) = true) : Def K mg "value" s_value ["one", "ahead", "behind"] := by
  have F := fun_mk (st := s_value) l c k
  exact ⟨f, _, F, PySem.W.mg_of X G a, F.binds (ps := ["one", "ahead", "behind"]) fun _ _ _ _ _ _ us hl => match us, hl with | [_, _, _], _ => rfl⟩
theorem df_holds (X : K.In h) (G : h.Ns mainGlobals mg) (a : PySem.W.nsIn K mainGlobals "holds" = some (some (.ref f))) (l : K.lookup f = some ⟨oc, od, .func (PySem.W.fnOf "holds" "holds" (defArgs s_holds) (defBody s_holds) (defScope s_holds) .none kV dc pm an cd ct), sl⟩) (c : PySem.W.codeIn K cd "holds" = true) (k : PySem.W.keepIn K (.ref f) = true) : Def K mg "holds" s_holds ["cond", "ahead", "behind"] := by
  have F := fun_mk (st := s_holds) l c k
  exact ⟨f, _, F, PySem.W.mg_of X G a, F.binds (ps := ["cond", "ahead", "behind"]) fun _ _ _ _ _ _ us hl => match us, hl with | [_, _, _], _ => rfl⟩
theorem df_stands_of (X : K.In h) (G : h.Ns mainGlobals mg) (a : PySem.W.nsIn K mainGlobals "stands_of" = some (some (.ref f))) (l : K.lookup f = some ⟨oc, od, .func (PySem.W.fnOf "stands_of" "stands_of" (defArgs s_stands_of) (defBody s_stands_of) (defScope s_stands_of) .none kV dc pm an cd ct), sl⟩) (c : PySem.W.codeIn K cd "stands_of" = true) (k : PySem.W.keepIn K (.ref f) = true) : Def K mg "stands_of" s_stands_of ["boxes", "cond"] := by
  have F := fun_mk (st := s_stands_of) l c k
  exact ⟨f, _, F, PySem.W.mg_of X G a, F.binds (ps := ["boxes", "cond"]) fun _ _ _ _ _ _ us hl => match us, hl with | [_, _], _ => rfl⟩
theorem df_behind (X : K.In h) (G : h.Ns mainGlobals mg) (a : PySem.W.nsIn K mainGlobals "behind" = some (some (.ref f))) (l : K.lookup f = some ⟨oc, od, .func (PySem.W.fnOf "behind" "behind" (defArgs s_behind) (defBody s_behind) (defScope s_behind) .none kV dc pm an cd ct), sl⟩) (c : PySem.W.codeIn K cd "behind" = true) (k : PySem.W.keepIn K (.ref f) = true) : Def K mg "behind" s_behind ["boxes", "way", "stand"] := by
  have F := fun_mk (st := s_behind) l c k
  exact ⟨f, _, F, PySem.W.mg_of X G a, F.binds (ps := ["boxes", "way", "stand"]) fun _ _ _ _ _ _ us hl => match us, hl with | [_, _, _], _ => rfl⟩
theorem df_ways_at (X : K.In h) (G : h.Ns mainGlobals mg) (a : PySem.W.nsIn K mainGlobals "ways_at" = some (some (.ref f))) (l : K.lookup f = some ⟨oc, od, .func (PySem.W.fnOf "ways_at" "ways_at" (defArgs s_ways_at) (defBody s_ways_at) (defScope s_ways_at) .none kV dc pm an cd ct), sl⟩) (c : PySem.W.codeIn K cd "ways_at" = true) (k : PySem.W.keepIn K (.ref f) = true) : Def K mg "ways_at" s_ways_at ["boxes", "hand", "place", "stand"] := by
  have F := fun_mk (st := s_ways_at) l c k
  exact ⟨f, _, F, PySem.W.mg_of X G a, F.binds (ps := ["boxes", "hand", "place", "stand"]) fun _ _ _ _ _ _ us hl => match us, hl with | [_, _, _, _], _ => rfl⟩
theorem df_break_here (X : K.In h) (G : h.Ns mainGlobals mg) (a : PySem.W.nsIn K mainGlobals "break_here" = some (some (.ref f))) (l : K.lookup f = some ⟨oc, od, .func (PySem.W.fnOf "break_here" "break_here" (defArgs s_break_here) (defBody s_break_here) (defScope s_break_here) .none kV dc pm an cd ct), sl⟩) (c : PySem.W.codeIn K cd "break_here" = true) (k : PySem.W.keepIn K (.ref f) = true) : Def K mg "break_here" s_break_here ["boxes", "hand", "promised", "note", "place", "stand"] := by
  have F := fun_mk (st := s_break_here) l c k
  exact ⟨f, _, F, PySem.W.mg_of X G a, F.binds (ps := ["boxes", "hand", "promised", "note", "place", "stand"]) fun _ _ _ _ _ _ us hl => match us, hl with | [_, _, _, _, _, _], _ => rfl⟩
theorem df_own_steps_from (X : K.In h) (G : h.Ns mainGlobals mg) (a : PySem.W.nsIn K mainGlobals "own_steps_from" = some (some (.ref f))) (l : K.lookup f = some ⟨oc, od, .func (PySem.W.fnOf "own_steps_from" "own_steps_from" (defArgs s_own_steps_from) (defBody s_own_steps_from) (defScope s_own_steps_from) .none kV dc pm an cd ct), sl⟩) (c : PySem.W.codeIn K cd "own_steps_from" = true) (k : PySem.W.keepIn K (.ref f) = true) : Def K mg "own_steps_from" s_own_steps_from ["boxes", "hand", "place", "stand"] := by
  have F := fun_mk (st := s_own_steps_from) l c k
  exact ⟨f, _, F, PySem.W.mg_of X G a, F.binds (ps := ["boxes", "hand", "place", "stand"]) fun _ _ _ _ _ _ us hl => match us, hl with | [_, _, _, _], _ => rfl⟩
theorem df_leading_to (X : K.In h) (G : h.Ns mainGlobals mg) (a : PySem.W.nsIn K mainGlobals "leading_to" = some (some (.ref f))) (l : K.lookup f = some ⟨oc, od, .func (PySem.W.fnOf "leading_to" "leading_to" (defArgs s_leading_to) (defBody s_leading_to) (defScope s_leading_to) .none kV dc pm an cd ct), sl⟩) (c : PySem.W.codeIn K cd "leading_to" = true) (k : PySem.W.keepIn K (.ref f) = true) : Def K mg "leading_to" s_leading_to ["boxes", "hand", "others"] := by
  have F := fun_mk (st := s_leading_to) l c k
  exact ⟨f, _, F, PySem.W.mg_of X G a, F.binds (ps := ["boxes", "hand", "others"]) fun _ _ _ _ _ _ us hl => match us, hl with | [_, _, _], _ => rfl⟩
theorem df_lost (X : K.In h) (G : h.Ns mainGlobals mg) (a : PySem.W.nsIn K mainGlobals "lost" = some (some (.ref f))) (l : K.lookup f = some ⟨oc, od, .func (PySem.W.fnOf "lost" "lost" (defArgs s_lost) (defBody s_lost) (defScope s_lost) .none kV dc pm an cd ct), sl⟩) (c : PySem.W.codeIn K cd "lost" = true) (k : PySem.W.keepIn K (.ref f) = true) : Def K mg "lost" s_lost ["boxes", "hand", "promise", "others", "notes"] := by
  have F := fun_mk (st := s_lost) l c k
  exact ⟨f, _, F, PySem.W.mg_of X G a, F.binds (ps := ["boxes", "hand", "promise", "others", "notes"]) fun _ _ _ _ _ _ us hl => match us, hl with | [_, _, _, _, _], _ => rfl⟩
theorem df_weakest (X : K.In h) (G : h.Ns mainGlobals mg) (a : PySem.W.nsIn K mainGlobals "weakest" = some (some (.ref f))) (l : K.lookup f = some ⟨oc, od, .func (PySem.W.fnOf "weakest" "weakest" (defArgs s_weakest) (defBody s_weakest) (defScope s_weakest) .none kV dc pm an cd ct), sl⟩) (c : PySem.W.codeIn K cd "weakest" = true) (k : PySem.W.keepIn K (.ref f) = true) : Def K mg "weakest" s_weakest ["boxes", "hand", "promise", "others", "notes"] := by
  have F := fun_mk (st := s_weakest) l c k
  exact ⟨f, _, F, PySem.W.mg_of X G a, F.binds (ps := ["boxes", "hand", "promise", "others", "notes"]) fun _ _ _ _ _ _ us hl => match us, hl with | [_, _, _, _, _], _ => rfl⟩
theorem df_look_at_paper (X : K.In h) (G : h.Ns mainGlobals mg) (a : PySem.W.nsIn K mainGlobals "look_at_paper" = some (some (.ref f))) (l : K.lookup f = some ⟨oc, od, .func (PySem.W.fnOf "look_at_paper" "look_at_paper" (defArgs s_look_at_paper) (defBody s_look_at_paper) (defScope s_look_at_paper) .none kV dc pm an cd ct), sl⟩) (c : PySem.W.codeIn K cd "look_at_paper" = true) (k : PySem.W.keepIn K (.ref f) = true) : Def K mg "look_at_paper" s_look_at_paper ["boxes", "hand", "paper"] := by
  have F := fun_mk (st := s_look_at_paper) l c k
  exact ⟨f, _, F, PySem.W.mg_of X G a, F.binds (ps := ["boxes", "hand", "paper"]) fun _ _ _ _ _ _ us hl => match us, hl with | [_, _, _], _ => rfl⟩
theorem df_members (X : K.In h) (G : h.Ns mainGlobals mg) (a : PySem.W.nsIn K mainGlobals "members" = some (some (.ref f))) (l : K.lookup f = some ⟨oc, od, .func (PySem.W.fnOf "members" "members" (defArgs s_members) (defBody s_members) (defScope s_members) .none kV dc pm an cd ct), sl⟩) (c : PySem.W.codeIn K cd "members" = true) (k : PySem.W.keepIn K (.ref f) = true) : Def K mg "members" s_members ["some"] := by
  have F := fun_mk (st := s_members) l c k
  exact ⟨f, _, F, PySem.W.mg_of X G a, F.binds (ps := ["some"]) fun _ _ _ _ _ _ us hl => match us, hl with | [_], _ => rfl⟩
theorem df_led_on (X : K.In h) (G : h.Ns mainGlobals mg) (a : PySem.W.nsIn K mainGlobals "led_on" = some (some (.ref f))) (l : K.lookup f = some ⟨oc, od, .func (PySem.W.fnOf "led_on" "led_on" (defArgs s_led_on) (defBody s_led_on) (defScope s_led_on) .none kV dc pm an cd ct), sl⟩) (c : PySem.W.codeIn K cd "led_on" = true) (k : PySem.W.keepIn K (.ref f) = true) : Def K mg "led_on" s_led_on ["steps"] := by
  have F := fun_mk (st := s_led_on) l c k
  exact ⟨f, _, F, PySem.W.mg_of X G a, F.binds (ps := ["steps"]) fun _ _ _ _ _ _ us hl => match us, hl with | [_], _ => rfl⟩
theorem df_looked (X : K.In h) (G : h.Ns mainGlobals mg) (a : PySem.W.nsIn K mainGlobals "looked" = some (some (.ref f))) (l : K.lookup f = some ⟨oc, od, .func (PySem.W.fnOf "looked" "looked" (defArgs s_looked) (defBody s_looked) (defScope s_looked) .none kV dc pm an cd ct), sl⟩) (c : PySem.W.codeIn K cd "looked" = true) (k : PySem.W.keepIn K (.ref f) = true) : Def K mg "looked" s_looked ["boxes", "hand", "promise", "others", "notes", "begin", "paper"] := by
  have F := fun_mk (st := s_looked) l c k
  exact ⟨f, _, F, PySem.W.mg_of X G a, F.binds (ps := ["boxes", "hand", "promise", "others", "notes", "begin", "paper"]) fun _ _ _ _ _ _ us hl => match us, hl with | [_, _, _, _, _, _, _], _ => rfl⟩
theorem df_law_cell (X : K.In h) (G : h.Ns mainGlobals mg) (a : PySem.W.nsIn K mainGlobals "_law_cell" = some (some (.ref f))) (l : K.lookup f = some ⟨oc, od, .func (PySem.W.fnOf "_law_cell" "_law_cell" (defArgs s_law_cell) (defBody s_law_cell) (defScope s_law_cell) .none kV dc pm an cd ct), sl⟩) (c : PySem.W.codeIn K cd "_law_cell" = true) (k : PySem.W.keepIn K (.ref f) = true) : Def K mg "_law_cell" s_law_cell ["_law_script", "_law_k"] := by
  have F := fun_mk (st := s_law_cell) l c k
  exact ⟨f, _, F, PySem.W.mg_of X G a, F.binds (ps := ["_law_script", "_law_k"]) fun _ _ _ _ _ _ us hl => match us, hl with | [_, _], _ => rfl⟩
theorem df_law_next (X : K.In h) (G : h.Ns mainGlobals mg) (a : PySem.W.nsIn K mainGlobals "_law_next" = some (some (.ref f))) (l : K.lookup f = some ⟨oc, od, .func (PySem.W.fnOf "_law_next" "_law_next" (defArgs s_law_next) (defBody s_law_next) (defScope s_law_next) .none kV dc pm an cd ct), sl⟩) (c : PySem.W.codeIn K cd "_law_next" = true) (k : PySem.W.keepIn K (.ref f) = true) : Def K mg "_law_next" s_law_next ["_law_pen", "_law_many"] := by
  have F := fun_mk (st := s_law_next) l c k
  exact ⟨f, _, F, PySem.W.mg_of X G a, F.binds (ps := ["_law_pen", "_law_many"]) fun _ _ _ _ _ _ us hl => match us, hl with | [_, _], _ => rfl⟩
theorem df_law_boxes (X : K.In h) (G : h.Ns mainGlobals mg) (a : PySem.W.nsIn K mainGlobals "_law_boxes" = some (some (.ref f))) (l : K.lookup f = some ⟨oc, od, .func (PySem.W.fnOf "_law_boxes" "_law_boxes" (defArgs s_law_boxes) (defBody s_law_boxes) (defScope s_law_boxes) .none kV dc pm an cd ct), sl⟩) (c : PySem.W.codeIn K cd "_law_boxes" = true) (k : PySem.W.keepIn K (.ref f) = true) : Def K mg "_law_boxes" s_law_boxes ["_law_pen", "_law_most"] := by
  have F := fun_mk (st := s_law_boxes) l c k
  exact ⟨f, _, F, PySem.W.mg_of X G a, F.binds (ps := ["_law_pen", "_law_most"]) fun _ _ _ _ _ _ us hl => match us, hl with | [_, _], _ => rfl⟩
theorem df_law_sum (X : K.In h) (G : h.Ns mainGlobals mg) (a : PySem.W.nsIn K mainGlobals "_law_sum" = some (some (.ref f))) (l : K.lookup f = some ⟨oc, od, .func (PySem.W.fnOf "_law_sum" "_law_sum" (defArgs s_law_sum) (defBody s_law_sum) (defScope s_law_sum) .none kV dc pm an cd ct), sl⟩) (c : PySem.W.codeIn K cd "_law_sum" = true) (k : PySem.W.keepIn K (.ref f) = true) : Def K mg "_law_sum" s_law_sum ["_law_pen", "_law_boxes_here", "_law_deep"] := by
  have F := fun_mk (st := s_law_sum) l c k
  exact ⟨f, _, F, PySem.W.mg_of X G a, F.binds (ps := ["_law_pen", "_law_boxes_here", "_law_deep"]) fun _ _ _ _ _ _ us hl => match us, hl with | [_, _, _], _ => rfl⟩
theorem df_law_cond (X : K.In h) (G : h.Ns mainGlobals mg) (a : PySem.W.nsIn K mainGlobals "_law_cond" = some (some (.ref f))) (l : K.lookup f = some ⟨oc, od, .func (PySem.W.fnOf "_law_cond" "_law_cond" (defArgs s_law_cond) (defBody s_law_cond) (defScope s_law_cond) .none kV dc pm an cd ct), sl⟩) (c : PySem.W.codeIn K cd "_law_cond" = true) (k : PySem.W.keepIn K (.ref f) = true) : Def K mg "_law_cond" s_law_cond ["_law_pen", "_law_boxes_here", "_law_deep"] := by
  have F := fun_mk (st := s_law_cond) l c k
  exact ⟨f, _, F, PySem.W.mg_of X G a, F.binds (ps := ["_law_pen", "_law_boxes_here", "_law_deep"]) fun _ _ _ _ _ _ us hl => match us, hl with | [_, _, _], _ => rfl⟩
theorem df_law_way (X : K.In h) (G : h.Ns mainGlobals mg) (a : PySem.W.nsIn K mainGlobals "_law_way" = some (some (.ref f))) (l : K.lookup f = some ⟨oc, od, .func (PySem.W.fnOf "_law_way" "_law_way" (defArgs s_law_way) (defBody s_law_way) (defScope s_law_way) .none kV dc pm an cd ct), sl⟩) (c : PySem.W.codeIn K cd "_law_way" = true) (k : PySem.W.keepIn K (.ref f) = true) : Def K mg "_law_way" s_law_way ["_law_pen", "_law_boxes_here", "_law_places", "_law_deep"] := by
  have F := fun_mk (st := s_law_way) l c k
  exact ⟨f, _, F, PySem.W.mg_of X G a, F.binds (ps := ["_law_pen", "_law_boxes_here", "_law_places", "_law_deep"]) fun _ _ _ _ _ _ us hl => match us, hl with | [_, _, _, _], _ => rfl⟩
theorem df_law_value (X : K.In h) (G : h.Ns mainGlobals mg) (a : PySem.W.nsIn K mainGlobals "_law_value" = some (some (.ref f))) (l : K.lookup f = some ⟨oc, od, .func (PySem.W.fnOf "_law_value" "_law_value" (defArgs s_law_value) (defBody s_law_value) (defScope s_law_value) .none kV dc pm an cd ct), sl⟩) (c : PySem.W.codeIn K cd "_law_value" = true) (k : PySem.W.keepIn K (.ref f) = true) : Def K mg "_law_value" s_law_value ["_law_one", "_law_stand"] := by
  have F := fun_mk (st := s_law_value) l c k
  exact ⟨f, _, F, PySem.W.mg_of X G a, F.binds (ps := ["_law_one", "_law_stand"]) fun _ _ _ _ _ _ us hl => match us, hl with | [_, _], _ => rfl⟩
theorem df_law_holds (X : K.In h) (G : h.Ns mainGlobals mg) (a : PySem.W.nsIn K mainGlobals "_law_holds" = some (some (.ref f))) (l : K.lookup f = some ⟨oc, od, .func (PySem.W.fnOf "_law_holds" "_law_holds" (defArgs s_law_holds) (defBody s_law_holds) (defScope s_law_holds) .none kV dc pm an cd ct), sl⟩) (c : PySem.W.codeIn K cd "_law_holds" = true) (k : PySem.W.keepIn K (.ref f) = true) : Def K mg "_law_holds" s_law_holds ["_law_cond_here", "_law_stand"] := by
  have F := fun_mk (st := s_law_holds) l c k
  exact ⟨f, _, F, PySem.W.mg_of X G a, F.binds (ps := ["_law_cond_here", "_law_stand"]) fun _ _ _ _ _ _ us hl => match us, hl with | [_, _], _ => rfl⟩
theorem df_law_behind (X : K.In h) (G : h.Ns mainGlobals mg) (a : PySem.W.nsIn K mainGlobals "_law_behind" = some (some (.ref f))) (l : K.lookup f = some ⟨oc, od, .func (PySem.W.fnOf "_law_behind" "_law_behind" (defArgs s_law_behind) (defBody s_law_behind) (defScope s_law_behind) .none kV dc pm an cd ct), sl⟩) (c : PySem.W.codeIn K cd "_law_behind" = true) (k : PySem.W.keepIn K (.ref f) = true) : Def K mg "_law_behind" s_law_behind ["_law_boxes_here", "_law_way_here", "_law_stand"] := by
  have F := fun_mk (st := s_law_behind) l c k
  exact ⟨f, _, F, PySem.W.mg_of X G a, F.binds (ps := ["_law_boxes_here", "_law_way_here", "_law_stand"]) fun _ _ _ _ _ _ us hl => match us, hl with | [_, _, _], _ => rfl⟩
theorem df_law_stands (X : K.In h) (G : h.Ns mainGlobals mg) (a : PySem.W.nsIn K mainGlobals "_law_stands" = some (some (.ref f))) (l : K.lookup f = some ⟨oc, od, .func (PySem.W.fnOf "_law_stands" "_law_stands" (defArgs s_law_stands) (defBody s_law_stands) (defScope s_law_stands) .none kV dc pm an cd ct), sl⟩) (c : PySem.W.codeIn K cd "_law_stands" = true) (k : PySem.W.keepIn K (.ref f) = true) : Def K mg "_law_stands" s_law_stands ["_law_boxes_here"] := by
  have F := fun_mk (st := s_law_stands) l c k
  exact ⟨f, _, F, PySem.W.mg_of X G a, F.binds (ps := ["_law_boxes_here"]) fun _ _ _ _ _ _ us hl => match us, hl with | [_], _ => rfl⟩
theorem df_law_hand (X : K.In h) (G : h.Ns mainGlobals mg) (a : PySem.W.nsIn K mainGlobals "_law_hand" = some (some (.ref f))) (l : K.lookup f = some ⟨oc, od, .func (PySem.W.fnOf "_law_hand" "_law_hand" (defArgs s_law_hand) (defBody s_law_hand) (defScope s_law_hand) .none kV dc pm an cd ct), sl⟩) (c : PySem.W.codeIn K cd "_law_hand" = true) (k : PySem.W.keepIn K (.ref f) = true) : Def K mg "_law_hand" s_law_hand ["_law_pen", "_law_boxes_here"] := by
  have F := fun_mk (st := s_law_hand) l c k
  exact ⟨f, _, F, PySem.W.mg_of X G a, F.binds (ps := ["_law_pen", "_law_boxes_here"]) fun _ _ _ _ _ _ us hl => match us, hl with | [_, _], _ => rfl⟩
theorem df_law_steps (X : K.In h) (G : h.Ns mainGlobals mg) (a : PySem.W.nsIn K mainGlobals "_law_steps" = some (some (.ref f))) (l : K.lookup f = some ⟨oc, od, .func (PySem.W.fnOf "_law_steps" "_law_steps" (defArgs s_law_steps) (defBody s_law_steps) (defScope s_law_steps) .none kV dc pm an cd ct), sl⟩) (c : PySem.W.codeIn K cd "_law_steps" = true) (k : PySem.W.keepIn K (.ref f) = true) : Def K mg "_law_steps" s_law_steps ["_law_pen", "_law_some", "_law_share"] := by
  have F := fun_mk (st := s_law_steps) l c k
  exact ⟨f, _, F, PySem.W.mg_of X G a, F.binds (ps := ["_law_pen", "_law_some", "_law_share"]) fun _ _ _ _ _ _ us hl => match us, hl with | [_, _, _], _ => rfl⟩
theorem df_law_own_steps (X : K.In h) (G : h.Ns mainGlobals mg) (a : PySem.W.nsIn K mainGlobals "_law_own_steps" = some (some (.ref f))) (l : K.lookup f = some ⟨oc, od, .func (PySem.W.fnOf "_law_own_steps" "_law_own_steps" (defArgs s_law_own_steps) (defBody s_law_own_steps) (defScope s_law_own_steps) .none kV dc pm an cd ct), sl⟩) (c : PySem.W.codeIn K cd "_law_own_steps" = true) (k : PySem.W.keepIn K (.ref f) = true) : Def K mg "_law_own_steps" s_law_own_steps ["_law_boxes_here", "_law_hand_here", "_law_some"] := by
  have F := fun_mk (st := s_law_own_steps) l c k
  exact ⟨f, _, F, PySem.W.mg_of X G a, F.binds (ps := ["_law_boxes_here", "_law_hand_here", "_law_some"]) fun _ _ _ _ _ _ us hl => match us, hl with | [_, _, _], _ => rfl⟩
theorem df_law_drawn (X : K.In h) (G : h.Ns mainGlobals mg) (a : PySem.W.nsIn K mainGlobals "_law_drawn" = some (some (.ref f))) (l : K.lookup f = some ⟨oc, od, .func (PySem.W.fnOf "_law_drawn" "_law_drawn" (defArgs s_law_drawn) (defBody s_law_drawn) (defScope s_law_drawn) .none kV dc pm an cd ct), sl⟩) (c : PySem.W.codeIn K cd "_law_drawn" = true) (k : PySem.W.keepIn K (.ref f) = true) : Def K mg "_law_drawn" s_law_drawn ["_law_script"] := by
  have F := fun_mk (st := s_law_drawn) l c k
  exact ⟨f, _, F, PySem.W.mg_of X G a, F.binds (ps := ["_law_script"]) fun _ _ _ _ _ _ us hl => match us, hl with | [_], _ => rfl⟩
theorem df_law_leads (X : K.In h) (G : h.Ns mainGlobals mg) (a : PySem.W.nsIn K mainGlobals "_law_leads" = some (some (.ref f))) (l : K.lookup f = some ⟨oc, od, .func (PySem.W.fnOf "_law_leads" "_law_leads" (defArgs s_law_leads) (defBody s_law_leads) (defScope s_law_leads) .none kV dc pm an cd ct), sl⟩) (c : PySem.W.codeIn K cd "_law_leads" = true) (k : PySem.W.keepIn K (.ref f) = true) : Def K mg "_law_leads" s_law_leads ["_law_boxes_here", "_law_hand_here", "_law_others", "_law_place", "_law_stand"] := by
  have F := fun_mk (st := s_law_leads) l c k
  exact ⟨f, _, F, PySem.W.mg_of X G a, F.binds (ps := ["_law_boxes_here", "_law_hand_here", "_law_others", "_law_place", "_law_stand"]) fun _ _ _ _ _ _ us hl => match us, hl with | [_, _, _, _, _], _ => rfl⟩
theorem df_law_breaks (X : K.In h) (G : h.Ns mainGlobals mg) (a : PySem.W.nsIn K mainGlobals "_law_breaks" = some (some (.ref f))) (l : K.lookup f = some ⟨oc, od, .func (PySem.W.fnOf "_law_breaks" "_law_breaks" (defArgs s_law_breaks) (defBody s_law_breaks) (defScope s_law_breaks) .none kV dc pm an cd ct), sl⟩) (c : PySem.W.codeIn K cd "_law_breaks" = true) (k : PySem.W.keepIn K (.ref f) = true) : Def K mg "_law_breaks" s_law_breaks ["_law_boxes_here", "_law_hand_here", "_law_promise", "_law_note", "_law_place", "_law_stand"] := by
  have F := fun_mk (st := s_law_breaks) l c k
  exact ⟨f, _, F, PySem.W.mg_of X G a, F.binds (ps := ["_law_boxes_here", "_law_hand_here", "_law_promise", "_law_note", "_law_place", "_law_stand"]) fun _ _ _ _ _ _ us hl => match us, hl with | [_, _, _, _, _, _], _ => rfl⟩
theorem df_law_kept (X : K.In h) (G : h.Ns mainGlobals mg) (a : PySem.W.nsIn K mainGlobals "_law_kept" = some (some (.ref f))) (l : K.lookup f = some ⟨oc, od, .func (PySem.W.fnOf "_law_kept" "_law_kept" (defArgs s_law_kept) (defBody s_law_kept) (defScope s_law_kept) .none kV dc pm an cd ct), sl⟩) (c : PySem.W.codeIn K cd "_law_kept" = true) (k : PySem.W.keepIn K (.ref f) = true) : Def K mg "_law_kept" s_law_kept ["_law_spots", "_law_leads_here"] := by
  have F := fun_mk (st := s_law_kept) l c k
  exact ⟨f, _, F, PySem.W.mg_of X G a, F.binds (ps := ["_law_spots", "_law_leads_here"]) fun _ _ _ _ _ _ us hl => match us, hl with | [_, _], _ => rfl⟩
theorem df_law_fitting (X : K.In h) (G : h.Ns mainGlobals mg) (a : PySem.W.nsIn K mainGlobals "_law_fitting" = some (some (.ref f))) (l : K.lookup f = some ⟨oc, od, .func (PySem.W.fnOf "_law_fitting" "_law_fitting" (defArgs s_law_fitting) (defBody s_law_fitting) (defScope s_law_fitting) .none kV dc pm an cd ct), sl⟩) (c : PySem.W.codeIn K cd "_law_fitting" = true) (k : PySem.W.keepIn K (.ref f) = true) : Def K mg "_law_fitting" s_law_fitting ["_law_boxes_here", "_law_hand_here", "_law_promise", "_law_others", "_law_notes", "_law_first"] := by
  have F := fun_mk (st := s_law_fitting) l c k
  exact ⟨f, _, F, PySem.W.mg_of X G a, F.binds (ps := ["_law_boxes_here", "_law_hand_here", "_law_promise", "_law_others", "_law_notes", "_law_first"]) fun _ _ _ _ _ _ us hl => match us, hl with | [_, _, _, _, _, _], _ => rfl⟩
theorem df_law_more (X : K.In h) (G : h.Ns mainGlobals mg) (a : PySem.W.nsIn K mainGlobals "_law_more" = some (some (.ref f))) (l : K.lookup f = some ⟨oc, od, .func (PySem.W.fnOf "_law_more" "_law_more" (defArgs s_law_more) (defBody s_law_more) (defScope s_law_more) .none kV dc pm an cd ct), sl⟩) (c : PySem.W.codeIn K cd "_law_more" = true) (k : PySem.W.keepIn K (.ref f) = true) : Def K mg "_law_more" s_law_more ["_law_paper", "_law_place", "_law_stand"] := by
  have F := fun_mk (st := s_law_more) l c k
  exact ⟨f, _, F, PySem.W.mg_of X G a, F.binds (ps := ["_law_paper", "_law_place", "_law_stand"]) fun _ _ _ _ _ _ us hl => match us, hl with | [_, _, _], _ => rfl⟩
theorem df_law_lacking (X : K.In h) (G : h.Ns mainGlobals mg) (a : PySem.W.nsIn K mainGlobals "_law_lacking" = some (some (.ref f))) (l : K.lookup f = some ⟨oc, od, .func (PySem.W.fnOf "_law_lacking" "_law_lacking" (defArgs s_law_lacking) (defBody s_law_lacking) (defScope s_law_lacking) .none kV dc pm an cd ct), sl⟩) (c : PySem.W.codeIn K cd "_law_lacking" = true) (k : PySem.W.keepIn K (.ref f) = true) : Def K mg "_law_lacking" s_law_lacking ["_law_pen", "_law_paper", "_law_some"] := by
  have F := fun_mk (st := s_law_lacking) l c k
  exact ⟨f, _, F, PySem.W.mg_of X G a, F.binds (ps := ["_law_pen", "_law_paper", "_law_some"]) fun _ _ _ _ _ _ us hl => match us, hl with | [_, _, _], _ => rfl⟩
theorem df_law_begin_due (X : K.In h) (G : h.Ns mainGlobals mg) (a : PySem.W.nsIn K mainGlobals "_law_begin_due" = some (some (.ref f))) (l : K.lookup f = some ⟨oc, od, .func (PySem.W.fnOf "_law_begin_due" "_law_begin_due" (defArgs s_law_begin_due) (defBody s_law_begin_due) (defScope s_law_begin_due) .none kV dc pm an cd ct), sl⟩) (c : PySem.W.codeIn K cd "_law_begin_due" = true) (k : PySem.W.keepIn K (.ref f) = true) : Def K mg "_law_begin_due" s_law_begin_due ["_law_paper", "_law_begin", "_law_some"] := by
  have F := fun_mk (st := s_law_begin_due) l c k
  exact ⟨f, _, F, PySem.W.mg_of X G a, F.binds (ps := ["_law_paper", "_law_begin", "_law_some"]) fun _ _ _ _ _ _ us hl => match us, hl with | [_, _, _], _ => rfl⟩
theorem df_own_break {C : Addr} (a : PySem.W.findIn K (.ref C) "own_break" = some (some (.ref f))) (i : PySem.W.isFn K (.ref f) = true) (l : K.lookup f = some ⟨oc, od, .func (PySem.W.fnOf "own_break" "Look.own_break" (defArgs s_own_break) (defBody s_own_break) (defScope s_own_break) .none kV dc pm an cd ct), sl⟩) (c : PySem.W.codeIn K cd "Look.own_break" = true) (k : PySem.W.keepIn K (.ref f) = true) : DefM K C "own_break" "Look.own_break" s_own_break ["self", "lists", "place", "stand"] := by
  have F := fun_mk (st := s_own_break) l c k
  exact ⟨f, _, F, ⟨a, i, k⟩, F.binds (ps := ["self", "lists", "place", "stand"]) fun _ _ _ _ _ _ us hl => match us, hl with | [_, _, _, _], _ => rfl⟩
theorem df_other_break {C : Addr} (a : PySem.W.findIn K (.ref C) "other_break" = some (some (.ref f))) (i : PySem.W.isFn K (.ref f) = true) (l : K.lookup f = some ⟨oc, od, .func (PySem.W.fnOf "other_break" "Look.other_break" (defArgs s_other_break) (defBody s_other_break) (defScope s_other_break) .none kV dc pm an cd ct), sl⟩) (c : PySem.W.codeIn K cd "Look.other_break" = true) (k : PySem.W.keepIn K (.ref f) = true) : DefM K C "other_break" "Look.other_break" s_other_break ["self", "lists", "place", "stand"] := by
  have F := fun_mk (st := s_other_break) l c k
  exact ⟨f, _, F, ⟨a, i, k⟩, F.binds (ps := ["self", "lists", "place", "stand"]) fun _ _ _ _ _ _ us hl => match us, hl with | [_, _, _, _], _ => rfl⟩
theorem df_break_at {C : Addr} (a : PySem.W.findIn K (.ref C) "break_at" = some (some (.ref f))) (i : PySem.W.isFn K (.ref f) = true) (l : K.lookup f = some ⟨oc, od, .func (PySem.W.fnOf "break_at" "Look.break_at" (defArgs s_break_at) (defBody s_break_at) (defScope s_break_at) .none kV dc pm an cd ct), sl⟩) (c : PySem.W.codeIn K cd "Look.break_at" = true) (k : PySem.W.keepIn K (.ref f) = true) : DefM K C "break_at" "Look.break_at" s_break_at ["self", "lists", "place", "stand"] := by
  have F := fun_mk (st := s_break_at) l c k
  exact ⟨f, _, F, ⟨a, i, k⟩, F.binds (ps := ["self", "lists", "place", "stand"]) fun _ _ _ _ _ _ us hl => match us, hl with | [_, _, _, _], _ => rfl⟩
theorem df_init {C : Addr} (X : K.In h) (G : h.Ns mainGlobals mg) (aC : PySem.W.nsIn K mainGlobals "Look" = some (some (.ref C))) (mk : PySem.W.makesIn K C = true) (kc : PySem.W.keepIn K (.ref C) = true) (a : PySem.W.findIn K (.ref C) "__init__" = some (some (.ref f))) (i : PySem.W.isFn K (.ref f) = true) (l : K.lookup f = some ⟨oc, od, .func (PySem.W.fnOf "__init__" "Look.__init__" (defArgs s_init__) (defBody s_init__) (defScope s_init__) .none kV dc pm an cd ct), sl⟩) (c : PySem.W.codeIn K cd "Look.__init__" = true) (k : PySem.W.keepIn K (.ref f) = true) : DefI K mg C "Look" "__init__" "Look.__init__" s_init__ ["self", "boxes", "hand", "promise", "others", "notes"] := by
  have F := fun_mk (st := s_init__) l c k
  exact ⟨f, _, F, ⟨mk, a, i, kc⟩, PySem.W.mg_of X G aC, F.binds (ps := ["self", "boxes", "hand", "promise", "others", "notes"]) fun _ _ _ _ _ _ us hl => match us, hl with | [_, _, _, _, _, _], _ => rfl⟩
theorem txt_mk (X : K.In h) (G : h.Ns mainGlobals mg) (z_len : PySem.W.nsIn K mainGlobals "len" = some none) (z_range : PySem.W.nsIn K mainGlobals "range" = some none) (z_zip : PySem.W.nsIn K mainGlobals "zip" = some none) (z_enumerate : PySem.W.nsIn K mainGlobals "enumerate" = some none) (z_isinstance : PySem.W.nsIn K mainGlobals "isinstance" = some none) (z_int : PySem.W.nsIn K mainGlobals "int" = some none) (z_bool : PySem.W.nsIn K mainGlobals "bool" = some none) (z_tuple : PySem.W.nsIn K mainGlobals "tuple" = some none) (z_list : PySem.W.nsIn K mainGlobals "list" = some none) (z_dict : PySem.W.nsIn K mainGlobals "dict" = some none) (z_sorted : PySem.W.nsIn K mainGlobals "sorted" = some none) (z_min : PySem.W.nsIn K mainGlobals "min" = some none) : Txt K mg := ⟨PySem.W.mg_none_of X G z_len, PySem.W.mg_none_of X G z_range, PySem.W.mg_none_of X G z_zip, PySem.W.mg_none_of X G z_enumerate, PySem.W.mg_none_of X G z_isinstance, PySem.W.mg_none_of X G z_int, PySem.W.mg_none_of X G z_bool, PySem.W.mg_none_of X G z_tuple, PySem.W.mg_none_of X G z_list, PySem.W.mg_none_of X G z_dict, PySem.W.mg_none_of X G z_sorted, PySem.W.mg_none_of X G z_min⟩
theorem look_mk {C : Addr} (pg : PySem.W.plainGet K C Str.empty = true) (hd : PySem.W.hasDictIn K C = true) (po : PySem.W.plainOver K C = true) (sa : PySem.W.findIn K (.ref C) "__setattr__" = some (some (.builtin "object.__setattr__"))) (n_boxes : PySem.W.findIn K (.ref C) "boxes" = some none) (n_hand : PySem.W.findIn K (.ref C) "hand" = some none) (n_notes : PySem.W.findIn K (.ref C) "notes" = some none) (n_promised : PySem.W.findIn K (.ref C) "promised" = some none) (n_others : PySem.W.findIn K (.ref C) "others" = some none) : LookT K C := ⟨⟨pg, hd, po, sa⟩, n_boxes, n_hand, n_notes, n_promised, n_others⟩
end
theorem all_mk {l : PySem.W.OpenLaw} {w : World} {K : PySem.W.Frag} {h : Heap} {mg : Str → Option Value} {fa C fl : Addr} (X : K.In h) (G : h.Ns mainGlobals mg) (hfa : mg "law" = some (.ref fa)) (T : Txt K mg) (TL : LookT K C)
    (d_is_whole : Def K mg "is_whole" s_is_whole ["thing"])
    (d_stands : Def K mg "stands" s_stands ["boxes"])
    (d_is_stand : Def K mg "is_stand" s_is_stand ["boxes", "thing"])
    (d_value : Def K mg "value" s_value ["one", "ahead", "behind"])
    (d_holds : Def K mg "holds" s_holds ["cond", "ahead", "behind"])
    (d_stands_of : Def K mg "stands_of" s_stands_of ["boxes", "cond"])
    (d_behind : Def K mg "behind" s_behind ["boxes", "way", "stand"])
    (d_ways_at : Def K mg "ways_at" s_ways_at ["boxes", "hand", "place", "stand"])
    (d_break_here : Def K mg "break_here" s_break_here ["boxes", "hand", "promised", "note", "place", "stand"])
    (d_own_steps_from : Def K mg "own_steps_from" s_own_steps_from ["boxes", "hand", "place", "stand"])
    (d_leading_to : Def K mg "leading_to" s_leading_to ["boxes", "hand", "others"])
    (d_lost : Def K mg "lost" s_lost ["boxes", "hand", "promise", "others", "notes"])
    (d_weakest : Def K mg "weakest" s_weakest ["boxes", "hand", "promise", "others", "notes"])
    (d_look_at_paper : Def K mg "look_at_paper" s_look_at_paper ["boxes", "hand", "paper"])
    (d_members : Def K mg "members" s_members ["some"])
    (d_led_on : Def K mg "led_on" s_led_on ["steps"])
    (d_looked : Def K mg "looked" s_looked ["boxes", "hand", "promise", "others", "notes", "begin", "paper"])
    (d_law_cell : Def K mg "_law_cell" s_law_cell ["_law_script", "_law_k"])
    (d_law_next : Def K mg "_law_next" s_law_next ["_law_pen", "_law_many"])
    (d_law_boxes : Def K mg "_law_boxes" s_law_boxes ["_law_pen", "_law_most"])
    (d_law_sum : Def K mg "_law_sum" s_law_sum ["_law_pen", "_law_boxes_here", "_law_deep"])
    (d_law_cond : Def K mg "_law_cond" s_law_cond ["_law_pen", "_law_boxes_here", "_law_deep"])
    (d_law_way : Def K mg "_law_way" s_law_way ["_law_pen", "_law_boxes_here", "_law_places", "_law_deep"])
    (d_law_value : Def K mg "_law_value" s_law_value ["_law_one", "_law_stand"])
    (d_law_holds : Def K mg "_law_holds" s_law_holds ["_law_cond_here", "_law_stand"])
    (d_law_behind : Def K mg "_law_behind" s_law_behind ["_law_boxes_here", "_law_way_here", "_law_stand"])
    (d_law_stands : Def K mg "_law_stands" s_law_stands ["_law_boxes_here"])
    (d_law_hand : Def K mg "_law_hand" s_law_hand ["_law_pen", "_law_boxes_here"])
    (d_law_steps : Def K mg "_law_steps" s_law_steps ["_law_pen", "_law_some", "_law_share"])
    (d_law_own_steps : Def K mg "_law_own_steps" s_law_own_steps ["_law_boxes_here", "_law_hand_here", "_law_some"])
    (d_law_drawn : Def K mg "_law_drawn" s_law_drawn ["_law_script"])
    (d_law_leads : Def K mg "_law_leads" s_law_leads ["_law_boxes_here", "_law_hand_here", "_law_others", "_law_place", "_law_stand"])
    (d_law_breaks : Def K mg "_law_breaks" s_law_breaks ["_law_boxes_here", "_law_hand_here", "_law_promise", "_law_note", "_law_place", "_law_stand"])
    (d_law_kept : Def K mg "_law_kept" s_law_kept ["_law_spots", "_law_leads_here"])
    (d_law_fitting : Def K mg "_law_fitting" s_law_fitting ["_law_boxes_here", "_law_hand_here", "_law_promise", "_law_others", "_law_notes", "_law_first"])
    (d_law_more : Def K mg "_law_more" s_law_more ["_law_paper", "_law_place", "_law_stand"])
    (d_law_lacking : Def K mg "_law_lacking" s_law_lacking ["_law_pen", "_law_paper", "_law_some"])
    (d_law_begin_due : Def K mg "_law_begin_due" s_law_begin_due ["_law_paper", "_law_begin", "_law_some"])
    (d_own_break : DefM K C "own_break" "Look.own_break" s_own_break ["self", "lists", "place", "stand"])
    (d_other_break : DefM K C "other_break" "Look.other_break" s_other_break ["self", "lists", "place", "stand"])
    (d_break_at : DefM K C "break_at" "Look.break_at" s_break_at ["self", "lists", "place", "stand"])
    (d_init : DefI K mg C "Look" "__init__" "Look.__init__" s_init__ ["self", "boxes", "hand", "promise", "others", "notes"])
    {od an : Option Addr} {sl : Array (Option Value)} {oc kV dc pm cd ct : Value}
    (aL : PySem.W.nsIn K mainGlobals "law" = some (some (.ref fl))) (lL : K.lookup fl = some ⟨oc, od, .func (PySem.W.fnOf "law" "law" (defArgs s_law) (defBody s_law) (defScope s_law) .none kV dc pm an cd ct), sl⟩) (cL : PySem.W.codeIn K cd "law" = true) (kL : PySem.W.keepIn K (.ref fl) = true) :
    ∃ fd : FuncData, (∀ (s : Shared) (v : Value), BindsTo s fd ⟨[v], []⟩ [("_law_script", v)]) ∧ ∀ base : Heap, K.In base → base.Ns mainGlobals mg → FnOk l.prog w K mg base CX0 11 fa fd ["_law_script"] (spLaw K) := by
  have e := hfa.symm.trans (PySem.W.mg_of X G aL)
  cases e
  refine ⟨PySem.W.fnOf "law" "law" (defArgs s_law) (defBody s_law) (defScope s_law) .none kV dc pm an cd ct, fun s v => .of_eq rfl, fun base _ _ => ?_⟩
  have c_is_whole := ok_is_whole (P := l.prog) (w := w) (base := base) d_is_whole T
  have c_stands := ok_stands (P := l.prog) (w := w) (base := base) d_stands T
  have c_value := value_all (P := l.prog) (w := w) (base := base) d_value T
  have c_holds := holds_all (P := l.prog) (w := w) (base := base) d_holds T c_value
  have c_is_stand := ok_is_stand (P := l.prog) (w := w) (base := base) d_is_stand T c_is_whole
  have c_stands_of := ok_stands_of (P := l.prog) (w := w) (base := base) d_stands_of T c_stands c_holds
  have c_behind := ok_behind (P := l.prog) (w := w) (base := base) d_behind T c_value c_holds
  have c_ways_at := ok_ways_at (P := l.prog) (w := w) (base := base) d_ways_at T c_behind
  have c_members := ok_members (P := l.prog) (w := w) (base := base) d_members T
  have c_led_on := ok_led_on (P := l.prog) (w := w) (base := base) d_led_on T
  have c_break_here := ok_break_here (P := l.prog) (w := w) (base := base) d_break_here T c_holds c_behind c_ways_at
  have c_own_steps_from := ok_own_steps_from (P := l.prog) (w := w) (base := base) d_own_steps_from T c_behind c_ways_at
  have c_leading_to := ok_leading_to (P := l.prog) (w := w) (base := base) d_leading_to T c_stands c_own_steps_from
  have c_lost := ok_lost (P := l.prog) (w := w) (base := base) d_lost T c_stands c_break_here c_leading_to
  have c_weakest := ok_weakest (P := l.prog) (w := w) (base := base) d_weakest T c_stands c_lost
  have c_look_at_paper := ok_look_at_paper (P := l.prog) (w := w) (base := base) d_look_at_paper T c_is_stand
  have c_Look := ok_init (P := l.prog) (w := w) (base := base) d_init T TL c_members c_led_on
  have c_own_break := ok_own_break (P := l.prog) (w := w) (base := base) d_own_break T TL c_ways_at c_behind
  have c_other_break := ok_other_break (P := l.prog) (w := w) (base := base) d_other_break T TL
  have c_break_at := ok_break_at (P := l.prog) (w := w) (base := base) d_break_at T TL c_holds c_own_break c_other_break
  have c_looked := ok_looked (P := l.prog) (w := w) (base := base) d_looked T TL c_look_at_paper c_members c_stands_of c_Look c_break_at
  have c_law_cell := ok_law_cell (P := l.prog) (w := w) (base := base) d_law_cell T
  have c_law_next := ok_law_next (P := l.prog) (w := w) (base := base) d_law_next T c_law_cell
  have c_law_boxes := ok_law_boxes (P := l.prog) (w := w) (base := base) d_law_boxes T c_law_next
  have c_law_sum := law_sum_all (P := l.prog) (w := w) (base := base) d_law_sum T c_law_next
  have c_law_cond := law_cond_all (P := l.prog) (w := w) (base := base) d_law_cond T c_law_next c_law_sum
  have c_law_way := ok_law_way (P := l.prog) (w := w) (base := base) d_law_way T c_law_next c_law_sum c_law_cond
  have c_law_value := law_value_all (P := l.prog) (w := w) (base := base) d_law_value T
  have c_law_holds := law_holds_all (P := l.prog) (w := w) (base := base) d_law_holds T c_law_value
  have c_law_behind := ok_law_behind (P := l.prog) (w := w) (base := base) d_law_behind T c_law_value c_law_holds
  have c_law_stands := ok_law_stands (P := l.prog) (w := w) (base := base) d_law_stands T
  have c_law_hand := ok_law_hand (P := l.prog) (w := w) (base := base) d_law_hand T c_law_next c_law_way
  have c_law_steps := ok_law_steps (P := l.prog) (w := w) (base := base) d_law_steps T c_law_next
  have c_law_own_steps := ok_law_own_steps (P := l.prog) (w := w) (base := base) d_law_own_steps T c_law_behind
  have c_law_drawn := ok_law_drawn (P := l.prog) (w := w) (base := base) d_law_drawn T c_law_next c_law_boxes c_law_hand c_law_stands c_law_steps c_law_own_steps c_law_cond
  have c_law_leads := ok_law_leads (P := l.prog) (w := w) (base := base) d_law_leads T c_law_behind
  have c_law_breaks := ok_law_breaks (P := l.prog) (w := w) (base := base) d_law_breaks T c_law_behind c_law_holds
  have c_law_kept := ok_law_kept (P := l.prog) (w := w) (base := base) d_law_kept T
  have c_law_fitting := ok_law_fitting (P := l.prog) (w := w) (base := base) d_law_fitting T c_law_stands c_law_leads c_law_breaks c_law_kept
  have c_law_more := ok_law_more (P := l.prog) (w := w) (base := base) d_law_more T
  have c_law_lacking := ok_law_lacking (P := l.prog) (w := w) (base := base) d_law_lacking T c_law_next
  have c_law_begin_due := ok_law_begin_due (P := l.prog) (w := w) (base := base) d_law_begin_due T c_law_holds
  exact ok_law (fun_mk (st := s_law) lL cL kL) T c_law_drawn c_law_stands c_weakest c_law_cond c_looked c_law_begin_due c_law_lacking c_law_more c_law_next c_law_fitting
theorem walk {l : PySem.W.OpenLaw} {q : Program} {loose : List Str} {XP : (Str → Option Value) → Heap → Prop} {YP : World → Heap → Prop} {d : DefRec} {K : Params → PySem.W.Frag} (hn : l.most = some 63) (hdf : d.params.defaults = [])
    (hY : ∀ (w : World) (h : Heap), YP w h → (K w.params).In h)
    (F : ∀ (w : World) (mg : Str → Option Value) (fa : Addr) (h : Heap), (K w.params).In h → h.Ns mainGlobals mg → mg d.name = some (.ref fa) →
      ∃ fd : FuncData, (∀ (s : Shared) (u : Value), BindsTo s fd ⟨[u], []⟩ [("_law_script", u)]) ∧ ∀ base : Heap, (K w.params).In base → base.Ns mainGlobals mg → FnOk l.prog w (K w.params) mg base CX0 11 fa fd ["_law_script"] (spLaw (K w.params))) :
    PySem.W.WalkO q loose XP YP l.row.toRowW d [] (fun f vs => PySem.call f vs) :=
  L2.walk_of (n := 63) (k := 11) (x := "_law_script") (CX := fun _ => CX0) (sp := fun w => spLaw (K w.params)) hn (by decide) hdf ⟨rfl, by decide, by decide⟩ hY F (fun _ _ a ns hl _ hS => ⟨a, ns, rfl, hS, hl, fun _ => rfl⟩) fun _ _ _ _ _ z => z
end Hm
end

open PySem PySem.W PyProof.Rows in
set_option maxRecDepth 100000 in
set_option maxHeartbeats 0 in
theorem PySem.Challenge.cw_handpromise_k47_whole_no_paper_is_weaker_holds : PySem.Challenge.rw_handpromise_k47_whole_no_paper_is_weaker.Holds := by
  w_on; o_law; k_head; (case hw => w_witness2)
  k_fill
  refine Hm.walk (l := PySem.Challenge.rw_handpromise_k47_whole_no_paper_is_weaker) rfl rfl (fun w h Y => PySem.W.kIn_of Y) ?F
  case F =>
    intro w mg fa h KX G hmg
    refine' Hm.all_mk KX G hmg ?T ?TL ?d_is_whole ?d_stands ?d_is_stand ?d_value ?d_holds ?d_stands_of ?d_behind ?d_ways_at ?d_break_here ?d_own_steps_from ?d_leading_to ?d_lost ?d_weakest ?d_look_at_paper ?d_members ?d_led_on ?d_looked ?d_law_cell ?d_law_next ?d_law_boxes ?d_law_sum ?d_law_cond ?d_law_way ?d_law_value ?d_law_holds ?d_law_behind ?d_law_stands ?d_law_hand ?d_law_steps ?d_law_own_steps ?d_law_drawn ?d_law_leads ?d_law_breaks ?d_law_kept ?d_law_fitting ?d_law_more ?d_law_lacking ?d_law_begin_due ?d_own_break ?d_other_break ?d_break_at ?d_init ?aL ?lL ?cL ?kL
    (case T => refine' Hm.txt_mk KX G ?_ ?_ ?_ ?_ ?_ ?_ ?_ ?_ ?_ ?_ ?_ ?_ <;> k_is)
    case d_init =>
      refine' Hm.df_init KX G ?aC ?mk ?kc ?a ?i ?l ?c ?k
      (case aC => k_is)
      (case mk => k_is)
      (case kc => k_is)
      (case a => k_is)
      (case i => k_is)
      (case l => k_is)
      (case c => k_is)
      (case k => k_is)
    case TL =>
      refine' Hm.look_mk ?pg ?hd ?po ?sa ?n1 ?n2 ?n3 ?n4 ?n5
      (case pg => k_is)
      (case hd => k_is)
      (case po => k_is)
      (case sa => k_is)
      (case n1 => k_is)
      (case n2 => k_is)
      (case n3 => k_is)
      (case n4 => k_is)
      (case n5 => k_is)
    case d_is_whole =>
      refine' Hm.df_is_whole KX G ?a ?l ?c ?k
      (case a => k_is)
      (case l => k_is)
      (case c => k_is)
      (case k => k_is)
    case d_stands =>
      refine' Hm.df_stands KX G ?a ?l ?c ?k
      (case a => k_is)
      (case l => k_is)
      (case c => k_is)
      (case k => k_is)
    case d_is_stand =>
      refine' Hm.df_is_stand KX G ?a ?l ?c ?k
      (case a => k_is)
      (case l => k_is)
      (case c => k_is)
      (case k => k_is)
    case d_value =>
      refine' Hm.df_value KX G ?a ?l ?c ?k
      (case a => k_is)
      (case l => k_is)
      (case c => k_is)
      (case k => k_is)
    case d_holds =>
      refine' Hm.df_holds KX G ?a ?l ?c ?k
      (case a => k_is)
      (case l => k_is)
      (case c => k_is)
      (case k => k_is)
    case d_stands_of =>
      refine' Hm.df_stands_of KX G ?a ?l ?c ?k
      (case a => k_is)
      (case l => k_is)
      (case c => k_is)
      (case k => k_is)
    case d_behind =>
      refine' Hm.df_behind KX G ?a ?l ?c ?k
      (case a => k_is)
      (case l => k_is)
      (case c => k_is)
      (case k => k_is)
    case d_ways_at =>
      refine' Hm.df_ways_at KX G ?a ?l ?c ?k
      (case a => k_is)
      (case l => k_is)
      (case c => k_is)
      (case k => k_is)
    case d_break_here =>
      refine' Hm.df_break_here KX G ?a ?l ?c ?k
      (case a => k_is)
      (case l => k_is)
      (case c => k_is)
      (case k => k_is)
    case d_own_steps_from =>
      refine' Hm.df_own_steps_from KX G ?a ?l ?c ?k
      (case a => k_is)
      (case l => k_is)
      (case c => k_is)
      (case k => k_is)
    case d_leading_to =>
      refine' Hm.df_leading_to KX G ?a ?l ?c ?k
      (case a => k_is)
      (case l => k_is)
      (case c => k_is)
      (case k => k_is)
    case d_lost =>
      refine' Hm.df_lost KX G ?a ?l ?c ?k
      (case a => k_is)
      (case l => k_is)
      (case c => k_is)
      (case k => k_is)
    case d_weakest =>
      refine' Hm.df_weakest KX G ?a ?l ?c ?k
      (case a => k_is)
      (case l => k_is)
      (case c => k_is)
      (case k => k_is)
    case d_look_at_paper =>
      refine' Hm.df_look_at_paper KX G ?a ?l ?c ?k
      (case a => k_is)
      (case l => k_is)
      (case c => k_is)
      (case k => k_is)
    case d_members =>
      refine' Hm.df_members KX G ?a ?l ?c ?k
      (case a => k_is)
      (case l => k_is)
      (case c => k_is)
      (case k => k_is)
    case d_led_on =>
      refine' Hm.df_led_on KX G ?a ?l ?c ?k
      (case a => k_is)
      (case l => k_is)
      (case c => k_is)
      (case k => k_is)
    case d_looked =>
      refine' Hm.df_looked KX G ?a ?l ?c ?k
      (case a => k_is)
      (case l => k_is)
      (case c => k_is)
      (case k => k_is)
    case d_law_cell =>
      refine' Hm.df_law_cell KX G ?a ?l ?c ?k
      (case a => k_is)
      (case l => k_is)
      (case c => k_is)
      (case k => k_is)
    case d_law_next =>
      refine' Hm.df_law_next KX G ?a ?l ?c ?k
      (case a => k_is)
      (case l => k_is)
      (case c => k_is)
      (case k => k_is)
    case d_law_boxes =>
      refine' Hm.df_law_boxes KX G ?a ?l ?c ?k
      (case a => k_is)
      (case l => k_is)
      (case c => k_is)
      (case k => k_is)
    case d_law_sum =>
      refine' Hm.df_law_sum KX G ?a ?l ?c ?k
      (case a => k_is)
      (case l => k_is)
      (case c => k_is)
      (case k => k_is)
    case d_law_cond =>
      refine' Hm.df_law_cond KX G ?a ?l ?c ?k
      (case a => k_is)
      (case l => k_is)
      (case c => k_is)
      (case k => k_is)
    case d_law_way =>
      refine' Hm.df_law_way KX G ?a ?l ?c ?k
      (case a => k_is)
      (case l => k_is)
      (case c => k_is)
      (case k => k_is)
    case d_law_value =>
      refine' Hm.df_law_value KX G ?a ?l ?c ?k
      (case a => k_is)
      (case l => k_is)
      (case c => k_is)
      (case k => k_is)
    case d_law_holds =>
      refine' Hm.df_law_holds KX G ?a ?l ?c ?k
      (case a => k_is)
      (case l => k_is)
      (case c => k_is)
      (case k => k_is)
    case d_law_behind =>
      refine' Hm.df_law_behind KX G ?a ?l ?c ?k
      (case a => k_is)
      (case l => k_is)
      (case c => k_is)
      (case k => k_is)
    case d_law_stands =>
      refine' Hm.df_law_stands KX G ?a ?l ?c ?k
      (case a => k_is)
      (case l => k_is)
      (case c => k_is)
      (case k => k_is)
    case d_law_hand =>
      refine' Hm.df_law_hand KX G ?a ?l ?c ?k
      (case a => k_is)
      (case l => k_is)
      (case c => k_is)
      (case k => k_is)
    case d_law_steps =>
      refine' Hm.df_law_steps KX G ?a ?l ?c ?k
      (case a => k_is)
      (case l => k_is)
      (case c => k_is)
      (case k => k_is)
    case d_law_own_steps =>
      refine' Hm.df_law_own_steps KX G ?a ?l ?c ?k
      (case a => k_is)
      (case l => k_is)
      (case c => k_is)
      (case k => k_is)
    case d_law_drawn =>
      refine' Hm.df_law_drawn KX G ?a ?l ?c ?k
      (case a => k_is)
      (case l => k_is)
      (case c => k_is)
      (case k => k_is)
    case d_law_leads =>
      refine' Hm.df_law_leads KX G ?a ?l ?c ?k
      (case a => k_is)
      (case l => k_is)
      (case c => k_is)
      (case k => k_is)
    case d_law_breaks =>
      refine' Hm.df_law_breaks KX G ?a ?l ?c ?k
      (case a => k_is)
      (case l => k_is)
      (case c => k_is)
      (case k => k_is)
    case d_law_kept =>
      refine' Hm.df_law_kept KX G ?a ?l ?c ?k
      (case a => k_is)
      (case l => k_is)
      (case c => k_is)
      (case k => k_is)
    case d_law_fitting =>
      refine' Hm.df_law_fitting KX G ?a ?l ?c ?k
      (case a => k_is)
      (case l => k_is)
      (case c => k_is)
      (case k => k_is)
    case d_law_more =>
      refine' Hm.df_law_more KX G ?a ?l ?c ?k
      (case a => k_is)
      (case l => k_is)
      (case c => k_is)
      (case k => k_is)
    case d_law_lacking =>
      refine' Hm.df_law_lacking KX G ?a ?l ?c ?k
      (case a => k_is)
      (case l => k_is)
      (case c => k_is)
      (case k => k_is)
    case d_law_begin_due =>
      refine' Hm.df_law_begin_due KX G ?a ?l ?c ?k
      (case a => k_is)
      (case l => k_is)
      (case c => k_is)
      (case k => k_is)
    case d_own_break =>
      refine' Hm.df_own_break ?a ?i ?l ?c ?k
      (case a => k_is)
      (case i => k_is)
      (case l => k_is)
      (case c => k_is)
      (case k => k_is)
    case d_other_break =>
      refine' Hm.df_other_break ?a ?i ?l ?c ?k
      (case a => k_is)
      (case i => k_is)
      (case l => k_is)
      (case c => k_is)
      (case k => k_is)
    case d_break_at =>
      refine' Hm.df_break_at ?a ?i ?l ?c ?k
      (case a => k_is)
      (case i => k_is)
      (case l => k_is)
      (case c => k_is)
      (case k => k_is)
    (case aL => k_is)
    (case lL => k_is)
    (case cL => k_is)
    (case kL => k_is)
