import PyProof.Rows.All
import Wide.All
import OpenK.AllK
import Wide.FinOn
import PySem.Challenge.RW_undobystate_k30_whole_products
import HandS.ForMost
import HandS.Exc
import HandS.ExcOwn
import HandS.ExcInit
import HandS.ExcField
import HandS.WordsExc
import HandS.IsInst
import HandS.Conv
import HandS.Style
import HandS.NoneIn
import HandS.TupAny
import HandS.Wide
import HandS.SortRule
import HandS.SortInts
import HandS.SetFor
import KE.KDictDisplayH
set_option Elab.async false
set_option linter.all false
set_option maxRecDepth 100000
set_option maxHeartbeats 4000000
/-! Systems, words, reach, pairs, regular systems: the mathematics, plain Lean. -/
namespace Ub

structure Sys where
  n : Nat
  s : Nat
  cs : List (List Nat)

structure Sys.Ok (S : Sys) : Prop where
  n1 : 1 ≤ S.n
  n8 : S.n ≤ 8
  s0 : S.s < S.n
  m4 : S.cs.length ≤ 4
  row : ∀ r ∈ S.cs, r.length = S.n
  ent : ∀ r ∈ S.cs, ∀ x ∈ r, x < S.n

def step (S : Sys) (x c : Nat) : Nat := (S.cs.getD c []).getD x 0
def led (S : Sys) (x : Nat) (w : List Nat) : Nat := w.foldl (step S) x
def Wd (S : Sys) (w : List Nat) : Prop := ∀ c ∈ w, c < S.cs.length
def Reach (S : Sys) (a x : Nat) : Prop := ∃ w, Wd S w ∧ led S a w = x
def PR (S : Sys) (a b : Nat) (p : Nat × Nat) : Prop := ∃ w, Wd S w ∧ led S a w = p.1 ∧ led S b w = p.2
def Det (S : Sys) (a b : Nat) : Prop := ∀ x y y', PR S a b (x, y) → PR S a b (x, y') → y = y'
def Reg (S : Sys) : Prop := ∀ c, c < S.cs.length → Det S (step S S.s c) S.s

/-! ### lists -/
theorem len_le_of_subset {α : Type} [DecidableEq α] : ∀ {l m : List α}, l.Nodup → (∀ x ∈ l, x ∈ m) → l.length ≤ m.length
  | [], _, _, _ => Nat.zero_le _
  | a :: l, m, hn, hs => by
    rw [List.nodup_cons] at hn
    have h1 : a ∈ m := hs a List.mem_cons_self
    have h2 : ∀ x ∈ l, x ∈ m.erase a := fun x hx => by
      have hne : x ≠ a := fun e => hn.1 (e ▸ hx)
      exact (List.mem_erase_of_ne hne).mpr (hs x (List.mem_cons_of_mem _ hx))
    have h3 := len_le_of_subset hn.2 h2
    rw [List.length_erase_of_mem h1] at h3
    have h4 : 0 < m.length := List.length_pos_of_mem h1
    rw [List.length_cons]
    omega
theorem subset_of_len {α : Type} [DecidableEq α] {l m : List α} (hn : l.Nodup) (hs : ∀ x ∈ l, x ∈ m) (hl : m.length ≤ l.length) : ∀ x ∈ m, x ∈ l := fun x hx => by
  by_cases h : x ∈ l
  · exact h
  · have h1 : (x :: l).Nodup := List.nodup_cons.mpr ⟨h, hn⟩
    have h2 := len_le_of_subset h1 (m := m) (fun y hy => by
      rcases List.mem_cons.mp hy with e | hy
      · exact e ▸ hx
      · exact hs y hy)
    rw [List.length_cons] at h2
    omega
theorem nodup_map_on {α β : Type} {f : α → β} : ∀ {l : List α}, l.Nodup → (∀ x ∈ l, ∀ y ∈ l, f x = f y → x = y) → (l.map f).Nodup
  | [], _, _ => List.nodup_nil
  | a :: l, hn, hi => by
    rw [List.nodup_cons] at hn
    rw [List.map_cons, List.nodup_cons]
    refine ⟨fun h => ?_, nodup_map_on hn.2 fun x hx y hy => hi x (List.mem_cons_of_mem _ hx) y (List.mem_cons_of_mem _ hy)⟩
    obtain ⟨y, hy, e⟩ := List.mem_map.mp h
    have := hi y (List.mem_cons_of_mem _ hy) a List.mem_cons_self e
    exact hn.1 (this ▸ hy)
/-- an injective map of a finite list into itself is onto -/
theorem onto_of_inj {α : Type} [DecidableEq α] {l : List α} {f : α → α} (hn : l.Nodup) (hm : ∀ x ∈ l, f x ∈ l) (hi : ∀ x ∈ l, ∀ y ∈ l, f x = f y → x = y) : ∀ y ∈ l, ∃ x ∈ l, f x = y := fun y hy => by
  have h1 := nodup_map_on hn hi
  have h2 : y ∈ l.map f := subset_of_len h1 (fun x hx => by
    obtain ⟨z, hz, e⟩ := List.mem_map.mp hx
    exact e ▸ hm z hz) (by rw [List.length_map]; exact Nat.le_refl _) y hy
  obtain ⟨x, hx, e⟩ := List.mem_map.mp h2
  exact ⟨x, hx, e⟩
theorem count_map_one {α β : Type} [DecidableEq α] [DecidableEq β] {f : α → β} {l : List α} {y : β} (hn : l.Nodup) (hi : ∀ x ∈ l, ∀ y ∈ l, f x = f y → x = y) (hy : ∃ x ∈ l, f x = y) : (l.map f).count y = 1 := by
  have h1 := nodup_map_on hn hi
  obtain ⟨x, hx, e⟩ := hy
  have h2 : y ∈ l.map f := List.mem_map.mpr ⟨x, hx, e⟩
  have h3 : (l.map f).count y ≤ 1 := List.nodup_iff_count.mp h1 y
  have h4 : 0 < (l.map f).count y := List.count_pos_iff.mpr h2
  omega
/-- two strictly ascending lists with the same members are one -/
theorem asc_unique {r : Nat → Nat → Prop} (irr : ∀ x, ¬ r x x) (tr : ∀ x y, r x y → ¬ r y x) : ∀ {l m : List Nat}, l.Pairwise r → m.Pairwise r → (∀ x, x ∈ l ↔ x ∈ m) → l = m
  | [], [], _, _, _ => rfl
  | [], b :: m, _, _, h => by have := (h b).mpr List.mem_cons_self; cases this
  | a :: l, [], _, _, h => by have := (h a).mp List.mem_cons_self; cases this
  | a :: l, b :: m, hl, hm, h => by
    rw [List.pairwise_cons] at hl hm
    have e : a = b := by
      have h1 := (h a).mp List.mem_cons_self
      have h2 := (h b).mpr List.mem_cons_self
      rcases List.mem_cons.mp h1 with e | h1
      · exact e
      · rcases List.mem_cons.mp h2 with e | h2
        · exact e.symm
        · exact absurd (hl.1 b h2) (tr _ _ (hm.1 a h1))
    subst e
    have h' : ∀ x, x ∈ l ↔ x ∈ m := fun x => by
      constructor
      · intro hx
        rcases List.mem_cons.mp ((h x).mp (List.mem_cons_of_mem _ hx)) with e | hx'
        · exact absurd (e ▸ hl.1 x hx) (irr a)
        · exact hx'
      · intro hx
        rcases List.mem_cons.mp ((h x).mpr (List.mem_cons_of_mem _ hx)) with e | hx'
        · exact absurd (e ▸ hm.1 x hx) (irr a)
        · exact hx'
    rw [asc_unique irr tr hl.2 hm.2 h']
theorem lt_unique {l m : List Nat} (hl : l.Pairwise (· < ·)) (hm : m.Pairwise (· < ·)) (h : ∀ x, x ∈ l ↔ x ∈ m) : l = m :=
  asc_unique (fun x => Nat.lt_irrefl x) (fun x y a b => Nat.lt_irrefl x (Nat.lt_trans a b)) hl hm h
theorem lt_of_le_nodup : ∀ {l : List Int}, l.Pairwise (· ≤ ·) → l.Nodup → l.Pairwise (· < ·)
  | [], _, _ => List.Pairwise.nil
  | a :: l, h, hn => by
    rw [List.pairwise_cons] at h
    rw [List.nodup_cons] at hn
    refine List.pairwise_cons.mpr ⟨fun x hx => ?_, lt_of_le_nodup h.2 hn.2⟩
    have h1 := h.1 x hx
    have h2 : x ≠ a := fun e => hn.1 (e ▸ hx)
    show a < x
    omega
theorem range_lt (n : Nat) : (List.range n).Pairwise (· < ·) := List.pairwise_lt_range
/-- a sorted arrangement of a list of naturals (as ints) is the strictly ascending one -/
theorem sorted_is {ys : List Int} {l c : List Nat} (hp : ys.Perm (l.map Int.ofNat)) (hs : ys.Pairwise (· ≤ ·)) (hn : l.Nodup) (hc : c.Pairwise (· < ·)) (h : ∀ x, x ∈ l ↔ x ∈ c) : ys = c.map Int.ofNat := by
  have hm : (l.map Int.ofNat).Nodup := nodup_map_on hn fun x _ y _ e => Int.ofNat.inj e
  have hyn : ys.Nodup := hp.nodup_iff.mpr hm
  have hlt := lt_of_le_nodup hs hyn
  -- back to naturals
  have hall : ∀ y ∈ ys, ∃ x ∈ l, y = Int.ofNat x := fun y hy => by
    obtain ⟨x, hx, e⟩ := List.mem_map.mp (hp.mem_iff.mp hy)
    exact ⟨x, hx, e.symm⟩
  have hy : ys = (ys.map Int.toNat).map Int.ofNat := by
    rw [List.map_map]
    conv => lhs; rw [← List.map_id ys]
    refine List.map_congr_left fun y hy => ?_
    obtain ⟨x, _, e⟩ := hall y hy
    rw [e]; rfl
  rw [hy]
  congr 1
  refine lt_unique ?_ hc fun x => ?_
  · rw [List.pairwise_map]
    refine List.Pairwise.imp_of_mem (fun {a b} ha hb hab => ?_) hlt
    obtain ⟨x, _, ex⟩ := hall a ha
    obtain ⟨y, _, ey⟩ := hall b hb
    subst ex ey
    show x < y
    exact Int.ofNat_lt.mp hab
  · rw [← h x]
    constructor
    · intro hx
      obtain ⟨y, hy, e⟩ := List.mem_map.mp hx
      obtain ⟨z, hz, ez⟩ := hall y hy
      rw [ez] at e
      exact (show z = x from e) ▸ hz
    · intro hx
      refine List.mem_map.mpr ⟨Int.ofNat x, hp.mem_iff.mpr (List.mem_map.mpr ⟨x, hx, rfl⟩), rfl⟩

/-! ### words -/
theorem led_nil {S : Sys} {x : Nat} : led S x [] = x := rfl
theorem led_app {S : Sys} {x : Nat} {u v : List Nat} : led S x (u ++ v) = led S (led S x u) v := by
  unfold led; rw [List.foldl_append]
theorem led_snoc {S : Sys} {x c : Nat} {u : List Nat} : led S x (u ++ [c]) = step S (led S x u) c := by
  rw [led_app]; rfl
theorem led_cons {S : Sys} {x c : Nat} {u : List Nat} : led S x (c :: u) = led S (step S x c) u := rfl
theorem Wd.nil {S : Sys} : Wd S [] := fun c h => nomatch h
theorem Wd.app {S : Sys} {u v : List Nat} (hu : Wd S u) (hv : Wd S v) : Wd S (u ++ v) := fun c h => by
  rcases List.mem_append.mp h with h | h
  · exact hu c h
  · exact hv c h
theorem Wd.one {S : Sys} {c : Nat} (h : c < S.cs.length) : Wd S [c] := fun d hd => by
  have : d = c := by simpa using hd
  omega
theorem Wd.head {S : Sys} {c : Nat} {u : List Nat} (h : Wd S (c :: u)) : c < S.cs.length := h c List.mem_cons_self
theorem Wd.tail {S : Sys} {c : Nat} {u : List Nat} (h : Wd S (c :: u)) : Wd S u := fun d hd => h d (List.mem_cons_of_mem _ hd)

theorem getD_some {α : Type} {l : List α} {i : Nat} {d x : α} (h : l[i]? = some x) : l.getD i d = x := by
  rw [List.getD_eq_getElem?_getD, h]; rfl
theorem row_at {S : Sys} {c : Nat} (h : c < S.cs.length) : S.cs[c]? = some (S.cs.getD c []) := by
  rw [List.getD_eq_getElem?_getD, List.getElem?_eq_getElem h]; rfl
theorem row_mem {S : Sys} {c : Nat} (h : c < S.cs.length) : S.cs.getD c [] ∈ S.cs := List.mem_of_getElem? (row_at h)
theorem step_at {S : Sys} (ok : S.Ok) {x c : Nat} (hx : x < S.n) (hc : c < S.cs.length) : (S.cs.getD c [])[x]? = some (step S x c) := by
  have hl := ok.row _ (row_mem hc)
  unfold step
  rw [List.getD_eq_getElem?_getD, List.getD_eq_getElem?_getD, List.getElem?_eq_getElem (by rw [← List.getD_eq_getElem?_getD, hl]; exact hx)]
  rfl
theorem step_lt {S : Sys} (ok : S.Ok) {x c : Nat} (hx : x < S.n) (hc : c < S.cs.length) : step S x c < S.n :=
  ok.ent _ (row_mem hc) _ (List.mem_of_getElem? (step_at ok hx hc))
theorem led_lt {S : Sys} (ok : S.Ok) : ∀ {w : List Nat} {x : Nat}, x < S.n → Wd S w → led S x w < S.n
  | [], _, hx, _ => hx
  | c :: w, x, hx, hw => led_lt ok (w := w) (x := step S x c) (step_lt ok hx hw.head) hw.tail

theorem Reach.refl {S : Sys} {a : Nat} : Reach S a a := ⟨[], .nil, rfl⟩
theorem Reach.step {S : Sys} {a x c : Nat} (h : Reach S a x) (hc : c < S.cs.length) : Reach S a (step S x c) := by
  obtain ⟨w, hw, e⟩ := h
  exact ⟨w ++ [c], hw.app (.one hc), by rw [led_snoc, e]⟩
theorem Reach.lt {S : Sys} (ok : S.Ok) {a x : Nat} (ha : a < S.n) (h : Reach S a x) : x < S.n := by
  obtain ⟨w, hw, e⟩ := h
  exact e ▸ led_lt ok ha hw
theorem PR.refl {S : Sys} {a b : Nat} : PR S a b (a, b) := ⟨[], .nil, rfl, rfl⟩
theorem PR.step {S : Sys} {a b x y c : Nat} (h : PR S a b (x, y)) (hc : c < S.cs.length) : PR S a b (step S x c, step S y c) := by
  obtain ⟨w, hw, e1, e2⟩ := h
  have e1 : led S a w = x := e1
  have e2 : led S b w = y := e2
  exact ⟨w ++ [c], hw.app (.one hc), by rw [led_snoc, e1], by rw [led_snoc, e2]⟩
theorem PR.lt {S : Sys} (ok : S.Ok) {a b : Nat} {p : Nat × Nat} (ha : a < S.n) (hb : b < S.n) (h : PR S a b p) : p.1 < S.n ∧ p.2 < S.n := by
  obtain ⟨w, hw, e1, e2⟩ := h
  exact ⟨e1 ▸ led_lt ok ha hw, e2 ▸ led_lt ok hb hw⟩
/-- what holds a and is closed holds all that is reached -/
theorem reach_closed {S : Sys} {P : Nat → Prop} (hs : ∀ x c, P x → c < S.cs.length → P (step S x c)) : ∀ {w : List Nat} {a : Nat}, P a → Wd S w → P (led S a w)
  | [], _, ha, _ => ha
  | c :: w, a, ha, hw => reach_closed hs (w := w) (a := step S a c) (hs a c ha hw.head) hw.tail
theorem pr_closed {S : Sys} {P : Nat → Nat → Prop} (hs : ∀ x y c, P x y → c < S.cs.length → P (step S x c) (step S y c)) : ∀ {w : List Nat} {a b : Nat}, P a b → Wd S w → P (led S a w) (led S b w)
  | [], _, _, ha, _ => ha
  | c :: w, a, b, ha, hw => pr_closed hs (w := w) (a := step S a c) (b := step S b c) (hs a b c ha hw.head) hw.tail
/-- pairs of one state -/
theorem pr_diag {S : Sys} {a : Nat} {p : Nat × Nat} (h : PR S a a p) : p.1 = p.2 ∧ Reach S a p.1 := by
  obtain ⟨w, hw, e1, e2⟩ := h
  exact ⟨e1.symm.trans e2, w, hw, e1⟩
theorem pr_of_reach {S : Sys} {a x : Nat} (h : Reach S a x) : PR S a a (x, x) := by
  obtain ⟨w, hw, e⟩ := h
  exact ⟨w, hw, e, e⟩

/-! ### the canonical lists -/
open Classical in
noncomputable def reachL (S : Sys) (a : Nat) : List Nat := (List.range S.n).filter fun x => decide (Reach S a x)
noncomputable def states (S : Sys) : List Nat := reachL S S.s
open Classical in
theorem mem_reachL {S : Sys} (ok : S.Ok) {a x : Nat} (ha : a < S.n) : x ∈ reachL S a ↔ Reach S a x := by
  unfold reachL
  rw [List.mem_filter, List.mem_range]
  constructor
  · intro h
    exact of_decide_eq_true h.2
  · intro h
    exact ⟨h.lt ok ha, decide_eq_true h⟩
theorem asc_reachL {S : Sys} {a : Nat} : (reachL S a).Pairwise (· < ·) := (range_lt S.n).filter _
theorem nodup_of_lt {l : List Nat} (h : l.Pairwise (· < ·)) : l.Nodup := h.imp fun h => Nat.ne_of_lt h
theorem nodup_reachL {S : Sys} {a : Nat} : (reachL S a).Nodup := nodup_of_lt asc_reachL
theorem mem_states {S : Sys} (ok : S.Ok) {x : Nat} : x ∈ states S ↔ Reach S S.s x := mem_reachL ok ok.s0
theorem asc_states {S : Sys} : (states S).Pairwise (· < ·) := asc_reachL
theorem nodup_states {S : Sys} : (states S).Nodup := nodup_reachL
theorem len_reachL {S : Sys} {a : Nat} : (reachL S a).length ≤ S.n := by
  have := List.length_filter_le (fun x => @decide (Reach S a x) (Classical.propDecidable _)) (List.range S.n)
  rw [List.length_range] at this
  exact this
theorem len_states {S : Sys} : (states S).length ≤ S.n := len_reachL
theorem start_mem {S : Sys} (ok : S.Ok) : S.s ∈ states S := (mem_states ok).mpr .refl
theorem states_pos {S : Sys} (ok : S.Ok) : 0 < (states S).length := List.length_pos_of_mem (start_mem ok)
theorem states_lt {S : Sys} (ok : S.Ok) {x : Nat} (h : x ∈ states S) : x < S.n := ((mem_states ok).mp h).lt ok ok.s0
/-- what any sort of a list of just the reached states gives -/
theorem sorted_reach {S : Sys} (ok : S.Ok) {a : Nat} (ha : a < S.n) {ys : List Int} {l : List Nat} (hp : ys.Perm (l.map Int.ofNat)) (hs : ys.Pairwise (· ≤ ·)) (hn : l.Nodup) (h : ∀ x, x ∈ l ↔ Reach S a x) : ys = (reachL S a).map Int.ofNat :=
  sorted_is hp hs hn asc_reachL fun x => (h x).trans (mem_reachL ok ha).symm
open Classical in
noncomputable def failing (S : Sys) : List Nat := (List.range S.cs.length).filter fun c => !decide (Det S (step S S.s c) S.s)
theorem failing_nil {S : Sys} : failing S = [] ↔ Reg S := by
  unfold failing
  rw [List.filter_eq_nil_iff]
  constructor
  · intro h c hc
    have := h c (List.mem_range.mpr hc)
    simpa using this
  · intro h c hc
    have := h c (List.mem_range.mp hc)
    simpa using this

/-! ### counterparts -/
/-- for each state the list of its counterparts, in some order -/
structure RowsOf (S : Sys) (a b : Nat) (L : List (List Nat)) : Prop where
  len : L.length = S.n
  nd : ∀ (i : Nat) (l : List Nat), L[i]? = some l → l.Nodup
  mem : ∀ (i : Nat) (l : List Nat), L[i]? = some l → ∀ y, y ∈ l ↔ PR S a b (i, y)
theorem det_iff {S : Sys} (ok : S.Ok) {a b : Nat} (ha : a < S.n) (hb : b < S.n) {L : List (List Nat)} (R : RowsOf S a b L) : (∀ l ∈ L, l.length ≤ 1) ↔ Det S a b := by
  constructor
  · intro h x y y' h1 h2
    have hx := (h1.lt ok ha hb).1
    have hx : x < S.n := hx
    obtain ⟨l, hl⟩ : ∃ l, L[x]? = some l := ⟨_, List.getElem?_eq_getElem (by rw [R.len]; exact hx)⟩
    have m1 := (R.mem x l hl y).mpr h1
    have m2 := (R.mem x l hl y').mpr h2
    have hlen := h l (List.mem_of_getElem? hl)
    match l, m1, m2, hlen with
    | [z], m1, m2, _ =>
      have e1 : y = z := by simpa using m1
      have e2 : y' = z := by simpa using m2
      rw [e1, e2]
    | _ :: _ :: _, _, _, hlen => simp at hlen
  · intro h l hl
    obtain ⟨i, hi⟩ := List.getElem?_of_mem hl
    have hn := R.nd i l hi
    match l, hn, hi with
    | [], _, _ => simp
    | [_], _, _ => simp
    | x :: y :: r, hn, hi =>
      have h1 := (R.mem i _ hi x).mp (by simp)
      have h2 := (R.mem i _ hi y).mp (by simp)
      have e := h i x y h1 h2
      rw [List.nodup_cons] at hn
      exact absurd (by rw [e]; simp) hn.1
theorem det_max {S : Sys} (ok : S.Ok) {a b : Nat} (ha : a < S.n) (hb : b < S.n) {L : List (List Nat)} (R : RowsOf S a b L) {m : Nat} (hm : m ∈ L.map List.length) (hle : ∀ k ∈ L.map List.length, k ≤ m) : m = 1 ↔ Det S a b := by
  rw [← det_iff ok ha hb R]
  have hpos : 1 ≤ m := by
    obtain ⟨l, hl⟩ : ∃ l, L[a]? = some l := ⟨_, List.getElem?_eq_getElem (by rw [R.len]; exact ha)⟩
    have m1 := (R.mem a l hl b).mpr .refl
    have h1 := List.length_pos_of_mem m1
    have h2 := hle l.length (List.mem_map.mpr ⟨l, List.mem_of_getElem? hl, rfl⟩)
    omega
  constructor
  · intro e l hl
    have := hle l.length (List.mem_map.mpr ⟨l, hl, rfl⟩)
    omega
  · intro h
    obtain ⟨l, hl, e⟩ := List.mem_map.mp hm
    have := h l hl
    omega

/-! ### bounds -/
theorem pairs_len {n : Nat} {K : List (Nat × Nat)} (hn : K.Nodup) (h : ∀ p ∈ K, p.1 < n ∧ p.2 < n) : K.length ≤ n * n := by
  have h1 : K.length ≤ ((List.range n).flatMap fun i => (List.range n).map fun j => (i, j)).length := len_le_of_subset hn fun p hp => by
    rw [List.mem_flatMap]
    exact ⟨p.1, List.mem_range.mpr (h p hp).1, List.mem_map.mpr ⟨p.2, List.mem_range.mpr (h p hp).2, rfl⟩⟩
  have h2 : ((List.range n).flatMap fun i => (List.range n).map fun j => (i, j)).length = n * n := by
    rw [List.length_flatMap]
    simp [List.map_const']
  omega
theorem singles_len {n : Nat} {K : List Nat} (hn : K.Nodup) (h : ∀ p ∈ K, p < n) : K.length ≤ n := by
  have h1 : K.length ≤ (List.range n).length := len_le_of_subset hn fun p hp => List.mem_range.mpr (h p hp)
  rwa [List.length_range] at h1
theorem sq8 {n : Nat} (h : n ≤ 8) : n * n ≤ 64 := by
  have := Nat.mul_le_mul h h
  omega

/-! ### regular systems: products -/
/-- left cancellation -/
theorem cancel {S : Sys} (rg : Reg S) : ∀ {v w w' : List Nat}, Wd S v → Wd S w → Wd S w' → led S S.s (v ++ w) = led S S.s (v ++ w') → led S S.s w = led S S.s w'
  | [], w, w', _, _, _, e => e
  | c :: v, w, w', hv, hw, hw', e => by
    have e' : led S (step S S.s c) (v ++ w) = led S (step S S.s c) (v ++ w') := e
    refine cancel rg hv.tail hw hw' ?_
    exact rg c hv.head (led S (step S S.s c) (v ++ w)) _ _ ⟨v ++ w, hv.tail.app hw, rfl, rfl⟩ ⟨v ++ w', hv.tail.app hw', e'.symm, rfl⟩
open Classical in
/-- some way to a state -/
noncomputable def way (S : Sys) (x : Nat) : List Nat := if h : Reach S S.s x then Classical.choose h else []
theorem way_ok {S : Sys} {x : Nat} (h : Reach S S.s x) : Wd S (way S x) ∧ led S S.s (way S x) = x := by
  unfold way
  rw [dif_pos h]
  exact Classical.choose_spec h
theorem reach_led {S : Sys} {w : List Nat} (h : Wd S w) : Reach S S.s (led S S.s w) := ⟨w, h, rfl⟩
/-- behind any word v every reachable state is reached again -/
theorem behind {S : Sys} (ok : S.Ok) (rg : Reg S) {v : List Nat} (hv : Wd S v) : ∀ y, Reach S S.s y → ∃ x, Reach S S.s x ∧ led S S.s (v ++ way S x) = y := fun y hy => by
  obtain ⟨x, hx, e⟩ := onto_of_inj (f := fun x => led S S.s (v ++ way S x)) (nodup_states (S := S)) (fun x hx => (mem_states ok).mpr (reach_led (hv.app (way_ok ((mem_states ok).mp hx)).1)))
    (fun x hx y hy e => by
      have h1 := way_ok ((mem_states ok).mp hx)
      have h2 := way_ok ((mem_states ok).mp hy)
      have := cancel rg hv h1.1 h2.1 e
      rw [h1.2, h2.2] at this
      exact this) y ((mem_states ok).mpr hy)
  exact ⟨x, (mem_states ok).mp hx, e⟩
/-- the congruence -/
theorem congr_word {S : Sys} (ok : S.Ok) (rg : Reg S) {v w w' : List Nat} (hv : Wd S v) (hw : Wd S w) (hw' : Wd S w') (e : led S S.s w = led S S.s w') : led S S.s (v ++ w) = led S S.s (v ++ w') := by
  have key : ∀ u, Wd S u → led S S.s (v ++ u) = led S S.s (v ++ way S (led S S.s u)) := fun u hu => by
    obtain ⟨x, hx, ex⟩ := behind ok rg hv _ (reach_led (hv.app hu))
    have h1 := way_ok hx
    have h2 := cancel rg hv h1.1 hu ex
    rw [h1.2] at h2
    rw [← h2]
    exact ex.symm
  rw [key w hw, key w' hw', e]
noncomputable def mul (S : Sys) (x y : Nat) : Nat := led S y (way S x)
theorem mul_led {S : Sys} (ok : S.Ok) (rg : Reg S) {x y : Nat} {u : List Nat} (hu : Wd S u) (hx : led S S.s u = x) (hy : Reach S S.s y) : led S y u = mul S x y := by
  obtain ⟨v, hv, rfl⟩ := hy
  subst hx
  unfold mul
  have h := way_ok (reach_led (S := S) hu)
  rw [← led_app, ← led_app]
  exact congr_word ok rg hv hu h.1 h.2.symm
theorem mul_words {S : Sys} (ok : S.Ok) (rg : Reg S) {u v : List Nat} (hu : Wd S u) (hv : Wd S v) : mul S (led S S.s u) (led S S.s v) = led S S.s (v ++ u) := by
  rw [← mul_led ok rg hu rfl (reach_led hv), led_app]
theorem mul_reach {S : Sys} (ok : S.Ok) (rg : Reg S) {x y : Nat} (hx : Reach S S.s x) (hy : Reach S S.s y) : Reach S S.s (mul S x y) := by
  obtain ⟨u, hu, rfl⟩ := hx
  obtain ⟨v, hv, rfl⟩ := hy
  rw [mul_words ok rg hu hv]
  exact reach_led (hv.app hu)
theorem mul_one {S : Sys} (ok : S.Ok) (rg : Reg S) {x : Nat} (hx : Reach S S.s x) : mul S x S.s = x := by
  obtain ⟨u, hu, rfl⟩ := hx
  exact (mul_words ok rg hu .nil)
theorem one_mul {S : Sys} (ok : S.Ok) (rg : Reg S) {x : Nat} (hx : Reach S S.s x) : mul S S.s x = x := by
  obtain ⟨u, hu, rfl⟩ := hx
  have := mul_words ok rg (u := []) .nil hu
  rw [List.append_nil] at this
  exact this
theorem mul_assoc {S : Sys} (ok : S.Ok) (rg : Reg S) {x y z : Nat} (hx : Reach S S.s x) (hy : Reach S S.s y) (hz : Reach S S.s z) : mul S (mul S x y) z = mul S x (mul S y z) := by
  obtain ⟨u, hu, rfl⟩ := hx
  obtain ⟨v, hv, rfl⟩ := hy
  obtain ⟨w, hw, rfl⟩ := hz
  rw [mul_words ok rg hu hv, mul_words ok rg hv hw, mul_words ok rg (hv.app hu) hw, mul_words ok rg hu (hw.app hv), List.append_assoc]
theorem inv_exists {S : Sys} (ok : S.Ok) (rg : Reg S) {x : Nat} (hx : Reach S S.s x) : ∃ y, Reach S S.s y ∧ mul S x y = S.s := by
  obtain ⟨u, hu, rfl⟩ := hx
  obtain ⟨y, hy, e⟩ := behind ok rg hu S.s .refl
  have h := way_ok hy
  refine ⟨y, hy, ?_⟩
  have e1 : led S S.s (u ++ (way S y ++ u)) = led S S.s (u ++ []) := by
    rw [← List.append_assoc, led_app, e, List.append_nil]
  have e2 := cancel rg hu (h.1.app hu) .nil e1
  have e3 := mul_words ok rg hu h.1
  rw [h.2] at e3
  rw [e3, e2]
  rfl
theorem inv_other {S : Sys} (ok : S.Ok) (rg : Reg S) {x y : Nat} (hx : Reach S S.s x) (hy : Reach S S.s y) (e : mul S x y = S.s) : mul S y x = S.s := by
  obtain ⟨u, hu, rfl⟩ := hx
  obtain ⟨v, hv, rfl⟩ := hy
  rw [mul_words ok rg hu hv] at e
  rw [mul_words ok rg hv hu]
  have e1 : led S S.s (v ++ (u ++ v)) = led S S.s (v ++ []) := by
    rw [← List.append_assoc, led_app, e, List.append_nil]
  exact cancel rg hv (hu.app hv) .nil e1
theorem mul_inj_right {S : Sys} (ok : S.Ok) (rg : Reg S) {x y y' : Nat} (hx : Reach S S.s x) (hy : Reach S S.s y) (hy' : Reach S S.s y') (e : mul S x y = mul S x y') : y = y' := by
  obtain ⟨z, hz, ez⟩ := inv_exists ok rg hx
  have ez' := inv_other ok rg hx hz ez
  have h1 := mul_assoc ok rg hz hx hy
  have h2 := mul_assoc ok rg hz hx hy'
  rw [ez', one_mul ok rg hy] at h1
  rw [ez', one_mul ok rg hy'] at h2
  rw [h1, h2, e]
theorem mul_inj_left {S : Sys} (ok : S.Ok) (rg : Reg S) {x x' y : Nat} (hx : Reach S S.s x) (hx' : Reach S S.s x') (hy : Reach S S.s y) (e : mul S x y = mul S x' y) : x = x' := by
  obtain ⟨z, hz, ez⟩ := inv_exists ok rg hy
  have h1 := mul_assoc ok rg hx hy hz
  have h2 := mul_assoc ok rg hx' hy hz
  rw [ez, mul_one ok rg hx] at h1
  rw [ez, mul_one ok rg hx'] at h2
  rw [← h1, ← h2, e]
theorem row_count {S : Sys} (ok : S.Ok) (rg : Reg S) {x y : Nat} (hx : x ∈ states S) (hy : y ∈ states S) : ((states S).map (mul S x)).count y = 1 := by
  have rx := (mem_states ok).mp hx
  have hi : ∀ a ∈ states S, ∀ b ∈ states S, mul S x a = mul S x b → a = b := fun a ha b hb e => mul_inj_right ok rg rx ((mem_states ok).mp ha) ((mem_states ok).mp hb) e
  exact count_map_one nodup_states hi (onto_of_inj nodup_states (fun a ha => (mem_states ok).mpr (mul_reach ok rg rx ((mem_states ok).mp ha))) hi y hy)
theorem col_count {S : Sys} (ok : S.Ok) (rg : Reg S) {x y : Nat} (hx : x ∈ states S) (hy : y ∈ states S) : ((states S).map fun z => mul S z x).count y = 1 := by
  have rx := (mem_states ok).mp hx
  have hi : ∀ a ∈ states S, ∀ b ∈ states S, mul S a x = mul S b x → a = b := fun a ha b hb e => mul_inj_left ok rg ((mem_states ok).mp ha) ((mem_states ok).mp hb) rx e
  exact count_map_one nodup_states hi (onto_of_inj nodup_states (fun a ha => (mem_states ok).mpr (mul_reach ok rg ((mem_states ok).mp ha) rx)) hi y hy)
noncomputable def row (S : Sys) (x : Nat) : List Nat := (states S).map (mul S x)
noncomputable def rows (S : Sys) : List (List Nat) := (states S).map (row S)
end Ub

/-! The search that finds every node once: its invariant, plain Lean. -/
namespace Ub
section
variable {α : Type} {m : Nat} {nxt : α → Nat → α} {a : α}
def Rch (m : Nat) (nxt : α → Nat → α) (a x : α) : Prop := ∃ w : List Nat, (∀ c ∈ w, c < m) ∧ w.foldl nxt a = x
theorem Rch.refl : Rch m nxt a a := ⟨[], fun _ h => (nomatch h), rfl⟩
theorem Rch.next {x : α} {c : Nat} (h : Rch m nxt a x) (hc : c < m) : Rch m nxt a (nxt x c) := by
  obtain ⟨w, hw, e⟩ := h
  refine ⟨w ++ [c], fun d hd => ?_, by rw [List.foldl_append, e]; rfl⟩
  rcases List.mem_append.mp hd with hd | hd
  · exact hw d hd
  · have : d = c := by simpa using hd
    omega
theorem rch_closed {P : α → Prop} (hs : ∀ x c, P x → c < m → P (nxt x c)) : ∀ {w : List Nat} {a : α}, P a → (∀ c ∈ w, c < m) → P (w.foldl nxt a)
  | [], _, ha, _ => ha
  | c :: w, a, ha, hw => rch_closed hs (w := w) (a := nxt a c) (hs a c ha (hw c List.mem_cons_self)) fun d hd => hw d (List.mem_cons_of_mem _ hd)
/-- keys: what is found; Wt: of these, what waits; Ex: what is being looked at -/
structure BI (m : Nat) (nxt : α → Nat → α) (a : α) (keys Wt : List α) (Ex : α → Prop) : Prop where
  nd : keys.Nodup
  ini : a ∈ keys
  rch : ∀ x ∈ keys, Rch m nxt a x
  wt : ∀ x ∈ Wt, x ∈ keys
  cl : ∀ y ∈ keys, y ∉ Wt → ¬ Ex y → ∀ c, c < m → nxt y c ∈ keys
variable {keys Wt : List α} {Ex : α → Prop} {x : α} {c : Nat}
theorem BI.start : BI m nxt a [a] [a] fun _ => False := by
  refine ⟨by simp, by simp, fun x hx => ?_, fun x hx => hx, fun y hy hn => absurd hy hn⟩
  have : x = a := by simpa using hx
  subst this
  exact .refl
theorem BI.pop (h : BI m nxt a keys (x :: Wt) fun _ => False) : BI m nxt a keys Wt (fun y => y = x) :=
  ⟨h.nd, h.ini, h.rch, fun y hy => h.wt y (List.mem_cons_of_mem _ hy), fun y hy hn he => h.cl y hy (fun q => (List.mem_cons.mp q).elim he hn) fun f => f⟩
theorem BI.add (h : BI m nxt a keys Wt Ex) (hx : x ∈ keys) (hc : c < m) (hn : nxt x c ∉ keys) : BI m nxt a (keys ++ [nxt x c]) (Wt ++ [nxt x c]) Ex := by
  refine ⟨?_, List.mem_append_left _ h.ini, fun y hy => ?_, fun y hy => ?_, fun y hy hw he d hd => ?_⟩
  · rw [List.nodup_append]
    refine ⟨h.nd, by simp, fun y hy z hz => ?_⟩
    have : z = nxt x c := by simpa using hz
    intro e
    exact hn (this ▸ e ▸ hy)
  · rcases List.mem_append.mp hy with hy | hy
    · exact h.rch y hy
    · have : y = nxt x c := by simpa using hy
      subst this
      exact (h.rch x hx).next hc
  · rcases List.mem_append.mp hy with hy | hy
    · exact List.mem_append_left _ (h.wt y hy)
    · exact List.mem_append_right _ hy
  · rcases List.mem_append.mp hy with hy | hy
    · exact List.mem_append_left _ (h.cl y hy (fun q => hw (List.mem_append_left _ q)) he d hd)
    · exact absurd (List.mem_append_right _ hy) hw
theorem BI.close (h : BI m nxt a keys Wt fun y => y = x) (hc : ∀ c, c < m → nxt x c ∈ keys) : BI m nxt a keys Wt fun _ => False := by
  refine ⟨h.nd, h.ini, h.rch, h.wt, fun y hy hn _ c hm => ?_⟩
  by_cases e : y = x
  · subst e
    exact hc c hm
  · exact h.cl y hy hn e c hm
theorem BI.done (h : BI m nxt a keys [] fun _ => False) (x : α) : x ∈ keys ↔ Rch m nxt a x := by
  refine ⟨h.rch x, fun ⟨w, hw, e⟩ => ?_⟩
  rw [← e]
  exact rch_closed (P := fun y => y ∈ keys) (fun y c hy hc => h.cl y hy (fun q => nomatch q) (fun f => f) c hc) h.ini hw
end
def step2 (S : Sys) (p : Nat × Nat) (c : Nat) : Nat × Nat := (step S p.1 c, step S p.2 c)
theorem fold2 {S : Sys} : ∀ {w : List Nat} {p : Nat × Nat}, w.foldl (step2 S) p = (led S p.1 w, led S p.2 w)
  | [], _ => rfl
  | c :: w, p => by
    show w.foldl (step2 S) (step2 S p c) = _
    rw [fold2]
    rfl
theorem pr_iff {S : Sys} {a b : Nat} {p : Nat × Nat} : PR S a b p ↔ Rch S.cs.length (step2 S) (a, b) p := by
  constructor
  · rintro ⟨w, hw, e1, e2⟩
    exact ⟨w, hw, by rw [fold2, e1, e2]⟩
  · rintro ⟨w, hw, e⟩
    rw [fold2] at e
    exact ⟨w, hw, by rw [← e], by rw [← e]⟩
theorem reach_iff {S : Sys} {a x : Nat} : Reach S a x ↔ Rch S.cs.length (step S) a x := Iff.rfl
theorem BI.len1 {S : Sys} (ok : S.Ok) {a : Nat} (ha : a < S.n) {keys Wt : List Nat} {Ex : Nat → Prop} (h : BI S.cs.length (step S) a keys Wt Ex) : keys.length ≤ S.n :=
  singles_len h.nd fun x hx => Reach.lt ok ha (reach_iff.mpr (h.rch x hx))
theorem BI.lt1 {S : Sys} (ok : S.Ok) {a : Nat} (ha : a < S.n) {keys Wt : List Nat} {Ex : Nat → Prop} (h : BI S.cs.length (step S) a keys Wt Ex) {x : Nat} (hx : x ∈ keys) : x < S.n :=
  Reach.lt ok ha (reach_iff.mpr (h.rch x hx))
theorem BI.lt2 {S : Sys} (ok : S.Ok) {a b : Nat} (ha : a < S.n) (hb : b < S.n) {keys Wt : List (Nat × Nat)} {Ex : Nat × Nat → Prop} (h : BI S.cs.length (step2 S) (a, b) keys Wt Ex) {x : Nat × Nat} (hx : x ∈ keys) : x.1 < S.n ∧ x.2 < S.n :=
  PR.lt ok ha hb (pr_iff.mpr (h.rch x hx))
theorem BI.len2 {S : Sys} (ok : S.Ok) {a b : Nat} (ha : a < S.n) (hb : b < S.n) {keys Wt : List (Nat × Nat)} {Ex : Nat × Nat → Prop} (h : BI S.cs.length (step2 S) (a, b) keys Wt Ex) : keys.length ≤ 64 :=
  Nat.le_trans (pairs_len h.nd fun x hx => h.lt2 ok ha hb hx) (sq8 ok.n8)
end Ub

namespace Ub
open PySem PySem.Spec PyProof.Rows L2
/-! ### the text by places -/
def top (i : Nat) : Stmt := PySem.Challenge.pw_undobystate_k30_whole_products.main.body.getD i (.Pass ⟨0, 0, 0, 0⟩)

/-! ### a def of the text, a def that may be called -/
structure Dfn (K : PySem.W.Frag) (mg : Str → Option Value) (x : Str) (st : Stmt) (ps : List Str) : Prop where
  ex : ∃ (f : Addr) (fd : FuncData), Fun K x x st f fd ∧ mg x = some (.ref f) ∧ Binds K fd ps []
structure Cal (P : Program) (w : World) (K : PySem.W.Frag) (mg : Str → Option Value) (base : Heap) (CX : CXT) (k : Nat) (x : Str) (sp : Sp) : Prop where
  ex : ∃ (f : Addr) (fd : FuncData) (ps : List Str), FnOk P w K mg base CX k f fd ps sp ∧ mg x = some (.ref f) ∧ PySem.W.keepIn K (.ref f) = true ∧ Binds K fd ps []
section
variable {P : Program} {w : World} {K : PySem.W.Frag} {mg : Str → Option Value} {base : Heap} {x : Str} {st : Stmt} {N ps : List Str} {k : Nat} {sp : Sp}
theorem cal_of (D : Dfn K mg x st ps) (S : FnScope N ps (defScope st)) (len : ∀ vs H Q E, sp vs H Q E → vs.length = ps.length)
    (hbody : ∀ (f : Addr) (cdv : Value) (A : Around) (outer : List Env) (s : Shared) (H : Hp) (vs : List V) (Q : VK) (E : XK), Room k (A.deeper (envOfC x (defScope st) s.heap.objs.size f cdv)) → sp vs H Q E →
      ∃ t, PSs (cxOf CX0 P w K mg base N x (defScope st) f cdv A outer s H E).nox (defBody st) t ∧ t { nx := fun _ H' => Q .non H', rt := Q } (start N vs) H) : Cal P w K mg base CX0 (k + 1) x sp := by
  obtain ⟨f, fd, F, g, b⟩ := D.ex
  exact ⟨f, fd, ps, F.ok S len (hbody f), g, F.kp, b⟩
theorem calX_of (D : Dfn K mg x st ps) (S : FnScope N ps (defScope st)) (len : ∀ vs H Q E, sp vs H Q E → vs.length = ps.length)
    (hbody : ∀ (f : Addr) (cdv : Value) (A : Around) (outer : List Env) (s : Shared) (H : Hp) (vs : List V) (Q : VK) (E : XK), Room k (A.deeper (envOfC x (defScope st) s.heap.objs.size f cdv)) → sp vs H Q E →
      ∃ t, PSs (cxOf (L2.CX P w) P w K mg base N x (defScope st) f cdv A outer s H E) (defBody st) t ∧ t { nx := fun _ H' => Q .non H', rt := Q } (start N vs) H) : Cal P w K mg base (L2.CX P w) (k + 1) x sp := by
  obtain ⟨f, fd, F, g, b⟩ := D.ex
  exact ⟨f, fd, ps, F.okX S len (hbody f), g, F.kp, b⟩
end
section
variable {X : Cx} {k j : Nat} {x : Str} {sp : Sp} {p pos : Pos} {e : Expr} {es : List Expr} {t : TA}
theorem pe_k (c : Cal X.prog X.w X.K X.mg X.base CX0 k x sp) (hr : Room j X.A) (hk : k ≤ j) (hg : Gl X x) (ha : PA X (e :: es) t)
    (hdb : (x == ("__debug__" : Str)) = false := by decide) (he : starEach (e :: es) X.env = (false, eval e X.env) :: starEach es X.env := by rfl) (hpl : (backTo pos (starEach es X.env)).any (·.1) = false := by rfl) :
    PE X (.Call (.Name x p) (e :: es) [] pos) (tCall sp [] E0 t) := by
  obtain ⟨f, fd, ps, F, hm, kp, b⟩ := c.ex
  exact pe_call F (hr.mono hk) hg hm kp b .nil pass0 ha hdb he hpl
/-- a def that may raise, where nothing is let out -/
theorem pe_kx (c : Cal X.prog X.w X.K X.mg X.base (L2.CX X.prog X.w) k x sp) (hr : Room j X.A) (hk : k ≤ j) (hg : Gl X x) (ha : PA X (e :: es) t)
    (hdb : (x == ("__debug__" : Str)) = false := by decide) (he : starEach (e :: es) X.env = (false, eval e X.env) :: starEach es X.env := by rfl) (hpl : (backTo pos (starEach es X.env)).any (·.1) = false := by rfl) :
    PE X (.Call (.Name x p) (e :: es) [] pos) (tCall sp [] E0 t) := by
  obtain ⟨f, fd, ps, F, hm, kp, b⟩ := c.ex
  exact pe_call F (hr.mono hk) hg hm kp b .nil passL ha hdb he hpl
end

/-! ### the built-ins are still the built-ins -/
structure Bl (mg : Str → Option Value) : Prop where
  isinstance : mg "isinstance" = none
  int : mg "int" = none
  bool : mg "bool" = none
  str : mg "str" = none
  tuple : mg "tuple" = none
  list : mg "list" = none
  len : mg "len" = none
  all : mg "all" = none
  any : mg "any" = none
  range : mg "range" = none
  max : mg "max" = none
  sorted : mg "sorted" = none
  abs : mg "abs" = none

/-! ### isinstance(x, T), T a built-in type -/
section
variable {X : Cx} {e : Expr} {te : TE} {p p2 pos : Pos}
theorem pe_isi {x : Str} {T : String} (hm : X.mg "isinstance" = none) (he : PE X e te) (hx : X.mg x = none) (hv : bootBuiltins x = some (.type T)) (hg : Gl X "isinstance" := by rfl) (hgx : Gl X x := by rfl)
    (hn : x ≠ "__name__" := by decide) (hd : (x == ("__debug__" : Str)) = false := by decide)
    (h1 : starEach (e :: [.Name x p2]) X.env = (false, eval e X.env) :: starEach [.Name x p2] X.env := by rfl) (h2 : starEach [.Name x p2] X.env = (false, eval (.Name x p2) X.env) :: starEach [] X.env := by rfl)
    (hpl : (backTo pos (starEach [.Name x p2] X.env)).any (·.1) = false := by rfl) :
    PE X (.Call (.Name "isinstance" p) [e, .Name x p2] [] pos) (tCB (rIsi X.K) (tCons te (tCons (tC (.ty T)) tNil))) :=
  pe_callB call_isi hg hm PyProof.Rows.boot_isinstance (pa_cons he (pa_cons (pe_bltn (v := .ty T) (pos := p2) hgx hx hv rfl hn hd) pa_nil h2) h1) (by decide) (by decide) h1 hpl
theorem isi_at {K : PySem.W.Frag} {H : Hp} {Q : VK} {x : V} {t T : String} {b : Bool} (h : TyX K H x (.type t)) (k : kitB t T = some b) (q : Q (.bl b) H) : rIsi K [x, .ty T] H Q :=
  ⟨x, .ty T, .type t, .type T, b, rfl, .ty T, h, kit_ty k, q⟩
end
theorem k_ii : kitB "int" "int" = some true := by decide +kernel
theorem k_ib : kitB "int" "bool" = some false := by decide +kernel
theorem k_tt : kitB "tuple" "tuple" = some true := by decide +kernel

/-! ### values, systems on the heap -/
abbrev vN (x : Nat) : V := .int (x : Int)
theorem same_upd {H : Hp} {p : Addr} {o : HO} (h : H p = none) : Same H (upd H p o) := fun b x e => by
  rw [upd_ne (ne_of_none e h)]
  exact e
/-- rows of states on the heap -/
structure RowsAt (H : Hp) (rs : List Addr) (cs : List (List Nat)) : Prop where
  len : rs.length = cs.length
  at_ : ∀ (i : Nat) (r : Addr) (row : List Nat), rs[i]? = some r → cs[i]? = some row → H r = some (.tup (row.map vN))
/-- a system at a -/
structure SysAt (H : Hp) (a : Addr) (S : Sys) : Prop where
  ok : S.Ok
  ex : ∃ (ca : Addr) (rs : List Addr), H a = some (.tup [vN S.n, vN S.s, .ref ca]) ∧ H ca = some (.tup (rs.map V.ref)) ∧ RowsAt H rs S.cs
theorem RowsAt.same {H H' : Hp} {rs : List Addr} {cs : List (List Nat)} (e : ∀ b xs, H b = some (.tup xs) → H' b = some (.tup xs)) (h : RowsAt H rs cs) : RowsAt H' rs cs :=
  ⟨h.len, fun i r row h1 h2 => e _ _ (h.at_ i r row h1 h2)⟩
theorem SysAt.tups {H H' : Hp} {a : Addr} {S : Sys} (e : ∀ b xs, H b = some (.tup xs) → H' b = some (.tup xs)) (h : SysAt H a S) : SysAt H' a S := by
  obtain ⟨ca, rs, h1, h2, h3⟩ := h.ex
  exact ⟨h.ok, ca, rs, e _ _ h1, e _ _ h2, h3.same e⟩
theorem SysAt.same {H H' : Hp} {a : Addr} {S : Sys} (e : Same H H') (h : SysAt H a S) : SysAt H' a S := h.tups fun b xs q => e b _ q
theorem nat_le62 {n : Nat} (h : n ≤ 1000) : -(2 ^ 62) ≤ (n : Int) ∧ (n : Int) < 2 ^ 62 := by omega
theorem sz100 {n : Nat} (h : n ≤ 1000) : n ≤ sizeLine := Nat.le_of_lt (small1000 h)
theorem map_at {α β : Type} {f : α → β} {l : List α} {i : Nat} {x : α} (h : l[i]? = some x) : (l.map f)[i]? = some (f x) := by
  rw [List.getElem?_map, h]; rfl
theorem of_map_at {α β : Type} {f : α → β} {l : List α} {i : Nat} {y : β} (h : (l.map f)[i]? = some y) : ∃ x, l[i]? = some x ∧ y = f x := by
  rw [List.getElem?_map] at h
  cases e : l[i]? with
  | none => rw [e] at h; cases h
  | some x => rw [e] at h; exact ⟨x, rfl, (Option.some.inj h).symm⟩
/-- where a step reads -/
theorem SysAt.step {H : Hp} {a : Addr} {S : Sys} (h : SysAt H a S) {x c : Nat} (hx : x < S.n) (hc : c < S.cs.length) :
    ∃ ca rs r xs, H a = some (.tup [vN S.n, vN S.s, .ref ca]) ∧ H ca = some (.tup rs) ∧ rs[c]? = some (.ref r) ∧ H r = some (.tup xs) ∧ xs[x]? = some (vN (Ub.step S x c)) := by
  obtain ⟨ca, rs, h1, h2, h3⟩ := h.ex
  have hr : c < rs.length := by rw [h3.len]; exact hc
  have e1 : rs[c]? = some rs[c] := List.getElem?_eq_getElem hr
  exact ⟨ca, _, rs[c], _, h1, h2, map_at e1, h3.at_ c _ _ e1 (row_at hc), map_at (step_at h.ok hx hc)⟩
theorem SysAt.num {H : Hp} {a : Addr} {S : Sys} (h : SysAt H a S) : ∃ ca rs, H a = some (.tup [vN S.n, vN S.s, .ref ca]) ∧ H ca = some (.tup rs) ∧ rs.length = S.cs.length := by
  obtain ⟨ca, rs, h1, h2, h3⟩ := h.ex
  exact ⟨ca, _, h1, h2, by rw [List.length_map, h3.len]⟩
end Ub

/-! The layer's rules once more, the written part K a letter of its own (so that a comprehension's element may use them). -/
namespace Ub
open PySem PySem.Spec PyProof.Rows L2
section
variable {X : Cx} {pos p p2 apos cpos : Pos} {e a b l o : Expr} {es : List Expr} {te ta tb tl to : TE} {t : TA} {tg : Expr}
theorem kixT (K : PySem.W.Frag) (h : X.K = K := by rfl) : IxR X (rIxT K) := by
  subst h; exact ix_tup
theorem kixL (K : PySem.W.Frag) (h : X.K = K := by rfl) : IxR X (rIxL K) := by
  subst h; exact ix_list
def rLenK (K : PySem.W.Frag) : List V → Hp → VK → Prop := fun xs H Q => ∃ x n, xs = [x] ∧ LenV K x H n ∧ Q (.int n) H
theorem klen (K : PySem.W.Frag) (h : X.K = K := by rfl) : CallR X (.builtin "len") (rLenK K) := by
  subst h; exact call_len
theorem kall (K : PySem.W.Frag) (hc : X.calm = true := by rfl) (h : X.K = K := by rfl) : CallR X (.builtin "all") (rAll K) := by
  subst h; exact cr_all hc
theorem kany (K : PySem.W.Frag) (hc : X.calm = true := by rfl) (h : X.K = K := by rfl) : CallR X (.builtin "any") (rAny K) := by
  subst h; exact cr_any hc
theorem kmax (K : PySem.W.Frag) (hc : X.calm = true := by rfl) (h : X.K = K := by rfl) : CallR X (.builtin "max") (rMax K) := by
  subst h; exact cr_max hc
theorem ksortI (K : PySem.W.Frag) (h : X.K = K := by rfl) : CallR X (.builtin "sorted") (rSortedI K) := by
  subst h; exact cr_sortedI
theorem ksortP (K : PySem.W.Frag) (h : X.K = K := by rfl) : CallR X (.builtin "sorted") (rSortedPO K) := by
  subst h; exact cr_sortedPO
def rListOf (K : PySem.W.Frag) : List V → Hp → VK → Prop := fun xs H Q => ∃ p ys, xs = [.ref p] ∧ (SqL K H p ys ∨ SqT K H p ys) ∧ ∀ l, H l = none → Q (.ref l) (upd H l (.lst ys))
theorem klistOf (K : PySem.W.Frag) (h : X.K = K := by rfl) : CallR X (.type "list") (rListOf K) := by
  subst h; exact call_list_of
/-- tuple(a list) -/
def rTupOf (K : PySem.W.Frag) : List V → Hp → VK → Prop := fun xs H Q => ∃ p ys, xs = [.ref p] ∧ SqL K H p ys ∧ ∀ l, H l = none → Q (.ref l) (upd H l (.tup ys))
theorem ktupOf (K : PySem.W.Frag) (h : X.K = K := by rfl) : CallR X (.type "tuple") (rTupOf K) := by
  subst h
  intro pins s σ H xs us Q I r hq
  obtain ⟨p, ys, e, hs, q⟩ := hq
  exact call_tuple_of pins s σ H xs us Q I r ⟨p, ys, e, .inl ⟨hs, q⟩⟩
theorem kindex (K : PySem.W.Frag) (h : X.K = K := by rfl) : MtR X "list.index" (rIndex K) := by
  subst h; exact mt_index
theorem klcount (K : PySem.W.Frag) (h : X.K = K := by rfl) : MtR X "list.count" (rCntI K) := by
  subst h; exact mt_lcount
theorem kin (K : PySem.W.Frag) (h : X.K = K := by rfl) : OpR X (compareOp .In) (rIn K false) := by
  subst h; exact op_in_seq
theorem knotin (K : PySem.W.Frag) (h : X.K = K := by rfl) : OpR X (compareOp .NotIn) (rIn K true) := by
  subst h; exact op_notIn_seq
theorem keqD (K : PySem.W.Frag) (hu : X.A.units + 64 < cLine) (h : X.K = K := by rfl) : OpR X (compareOp .Eq) (rEqD K) := by
  subst h; exact op_eqD hu
theorem kneD (K : PySem.W.Frag) (hu : X.A.units + 64 < cLine) (h : X.K = K := by rfl) : OpR X (compareOp .NotEq) (rNeD K) := by
  subst h; exact op_neD hu
theorem kcat (K : PySem.W.Frag) (h : X.K = K := by rfl) : OpR X (binaryOp .Add) (rCatA K) := by
  subst h; exact op_catA
theorem kslL (K : PySem.W.Frag) (h : X.K = K := by rfl) : SlR X (rSlL K) := by
  subst h; exact sl_list
theorem kpiL (K : PySem.W.Frag) (hl : PE X l tl) (h : X.K = K := by rfl) : PI X tg l (iList K tl) := by
  subst h; exact pi_list hl
theorem kpiT (K : PySem.W.Frag) (hl : PE X l tl) (h : X.K = K := by rfl) : PI X tg l (iTup K tl) := by
  subst h; exact pi_tup hl
theorem kgT (K : PySem.W.Frag) {k : Nat} {t : TGs} {n : Nat} (hc : X.calm = true) (h : PGs X es t)
    (hn : (assignEach es X.env).length = n := by rfl) (hst : (assignEach es X.env).findIdx? (·.1) = none := by rfl) (hk : X.K = K := by rfl) : PG X (.Tuple es k pos) (gTup K n t) := by
  subst hk; exact pg_tup hc h hn hst
theorem kgL (K : PySem.W.Frag) {k : Nat} {t : TGs} {n : Nat} (hc : X.calm = true) (h : PGs X es t)
    (hn : (assignEach es X.env).length = n := by rfl) (hst : (assignEach es X.env).findIdx? (·.1) = none := by rfl) (hk : X.K = K := by rfl) : PG X (.Tuple es k pos) (gUnl K n t) := by
  subst hk; exact pg_unl hc h hn hst
theorem kisi (K : PySem.W.Frag) {x : Str} {T : String} (hm : X.mg "isinstance" = none) (he : PE X e te) (hx : X.mg x = none) (hv : bootBuiltins x = some (.type T)) (hg : Gl X "isinstance" := by rfl) (hgx : Gl X x := by rfl)
    (hn : x ≠ "__name__" := by decide) (hd : (x == ("__debug__" : Str)) = false := by decide)
    (h1 : starEach (e :: [.Name x p2]) X.env = (false, eval e X.env) :: starEach [.Name x p2] X.env := by rfl) (h2 : starEach [.Name x p2] X.env = (false, eval (.Name x p2) X.env) :: starEach [] X.env := by rfl)
    (hpl : (backTo pos (starEach [.Name x p2] X.env)).any (·.1) = false := by rfl) (hk : X.K = K := by rfl) :
    PE X (.Call (.Name "isinstance" p) [e, .Name x p2] [] pos) (tCB (rIsi K) (tCons te (tCons (tC (.ty T)) tNil))) := by
  subst hk; exact pe_isi hm he hx hv hg hgx hn hd h1 h2 hpl
/-- a test by truth -/
def tTr (K : PySem.W.Frag) (ta : TE) : TT := fun σ H Q => ta σ H fun x H' => ∃ k, TruV K x H' k ∧ Q k H'
theorem ktru (K : PySem.W.Frag) (ha : PE X a ta) (he : ∀ whole, isTrue a X.env whole = (do let v ← whole; standAt a.pos; holding [v] (truthy v)) := by intro _; rfl) (hk : X.K = K := by rfl) : PT X a (tTr K ta) := by
  subst hk; exact pt_truth ha he
theorem kbm (K : PySem.W.Frag) {name : Str} {T id : String} {r : V → List V → Hp → VK → Prop} (pa : PlainAttrs T) (slot : Slot T name id) (hty : typeOf (.builtin id) = pure (.type "method_descriptor")) (hm : MtR X id r) (ho : PE X o to) (ha : PA X (e :: es) t)
    (hbase : attributeBase o name X.env (eval o X.env) = eval o X.env := by rfl)
    (hfew : ((backTo cpos (starEach (e :: es) X.env)).all (fun x => !x.1) && (backToKw cpos (keywordEach [] X.env)).all (fun x => x.1.isSome)
      && decide ((e :: es).length + ([] : List Keyword).length + (if ([] : List Keyword).isEmpty then 0 else 1) < 30)) = true := by rfl)
    (hline : (apos.endLine == cpos.line) = true := by rfl) (hs : starEach (e :: es) X.env = (false, eval e X.env) :: starEach es X.env := by rfl) (hplain : (backTo cpos (starEach es X.env)).any (·.1) = false := by rfl) (hk : X.K = K := by rfl) :
    PE X (.Call (.Attribute o name apos) (e :: es) [] cpos) (tBM K T r to t) := by
  subst hk; exact pe_bm pa slot hty hm ho ha hbase hfew hline hs hplain
end
end Ub

/-! Rules that the layer lacks: a display of one pair whose key is a tuple; sorted of a dict whose keys are pairs of ints; tuple(list) known to its object; count of such a tuple. -/
namespace Ub
open PySem PySem.Spec PyProof.Rows L2
/-! ### {k: v}, k a tuple -/
def tDisp1 (tk tv : TE) : TE := fun σ H Q => ∀ p, H p = none → tk σ (upd H p (.dT [])) fun x H1 => tv σ H1 fun y H2 =>
  H2 p = some (.dT []) ∧ ∃ (b : Addr) (k : List L2.Key), x = .ref b ∧ H2 b = some (.tup (k.map kV)) ∧ Q (.ref p) (upd H2 p (.dT [(k, y)]))
section
variable {X : Cx} {pos : Pos} {k v : Expr} {tk tv : TE}
theorem pe_disp1 (hu : X.A.units + 1 < cLine) (hk : PE X k tk) (hv : PE X v tv) : PE X (.Dict [some k] [v] pos) (tDisp1 tk tv) := by
  refine ⟨fun pins s σ H Q I q => ?_⟩
  have hn := I.hok.fresh (Nat.le_refl s.heap.objs.size)
  have I1 := I.laid (a := s.heap.objs.size) (o := .dT []) (h' := s.heap.push { cls := .type "dict", data := .dict #[] }) (t' := s.toks) (fun _ _ q => Heap.get?_push_of_some _ q) (Nat.le_refl _) (dt_empty s.heap I.big)
  have hz := zip_pairTrees [some k] [v] X.env pos rfl rfl
  have hl := pairTrees_length [some k] [v] X.env pos rfl rfl
  rw [arm_eval_Dict, hz, dictDisplay_pairs _ (fun e => by rw [e] at hl; cases hl) (by rw [hl]; show (1 : Nat) < 17; decide)]
  refine wpAny_bind (wpAny_standAt (wpAny_bind (wpAny_subDictH (knd := tupleKind (mixKind X.prog X.w)) (show X.A.units < cLine by omega) (by rw [hl]; show (1 : Nat) ≤ 15; decide) ?_)))
  refine pairTrees_cons_walk (thn (hk.run pins _ σ _ _ I1 (q _ hn)) fun u s1 ⟨x, H1, I2, rx, q1⟩ => thn (hv.run pins s1 σ H1 _ I2 q1) fun u2 s2 ⟨y, H2, I3, ry, e, b, ks, ex, eb, q2⟩ => pairTrees_nil_walk ?_)
  subst ex
  obtain rfl : u = Value.ref b := rx
  obtain ⟨_, hd, xs0, r0, dd⟩ := dt_of I3.hok e
  cases r0
  refine ⟨[(ks, b, u2)], ⟨rfl, rfl, key_of I3.hok eb, trivial⟩, dd, fun h' tk dd' hs => wpAny_pure ⟨.ref s.heap.objs.size, _, ?_, rfl, q2⟩⟩
  obtain ⟨o, es, ep, ho, h2, h3, h4, _, h5⟩ := dd'
  refine d_write I3 (by rw [e]; exact True.intro) hs ⟨o, ho⟩ ⟨(show (1 : Nat) ≤ sizeLine by decide), hd, [(ks, b, u2)], .cons ⟨rfl, ?_, ry⟩ .nil, o, es, ep, ho, h2, h3, h4, h5⟩
  rw [upd_ne (ne_of eb e (fun z => nomatch z))]
  exact eb
end

/-! ### pairs of ints on the heap, sorted -/
abbrev PairsAt (H : Hp) (bs : List Addr) (qs : List (Int × Int)) : Prop := Paired (fun b (q : Int × Int) => H b = some (.tup [.int q.1, .int q.2])) bs qs
theorem paired_perm {α β : Type} {R : α → β → Prop} {as bs : List α} (p : bs.Perm as) : ∀ {ps : List β}, Paired R as ps → ∃ qs, qs.Perm ps ∧ Paired R bs qs := by
  induction p with
  | nil => intro ps r; cases r; exact ⟨[], .refl _, .nil⟩
  | cons x p ih =>
    intro ps r
    cases r with
    | cons h t =>
      obtain ⟨qs, h1, h2⟩ := ih t
      exact ⟨_, .cons _ h1, .cons h h2⟩
  | swap x y l =>
    intro ps r
    cases r with
    | cons h t =>
      cases t with
      | cons h' t => exact ⟨_, .swap _ _ _, .cons h' (.cons h t)⟩
  | trans p1 p2 ih1 ih2 =>
    intro ps r
    obtain ⟨qs, h1, h2⟩ := ih2 r
    obtain ⟨rs, h3, h4⟩ := ih1 h2
    exact ⟨rs, h3.trans h1, h4⟩
def pkey (q : Int × Int) : List L2.Key := [Sum.inl q.1, Sum.inl q.2]
/-- the pair at a value -/
def pairOf (H : Hp) : Value → Int × Int
  | .ref a => match H a with
    | some (.tup [.int x, .int y]) => (x, y)
    | _ => (0, 0)
  | _ => (0, 0)
theorem pairOf_at {H : Hp} {a : Addr} {x y : Int} (h : H a = some (.tup [.int x, .int y])) : pairOf H (.ref a) = (x, y) := by
  simp only [pairOf, h]
theorem paired_mem {α β : Type} {R : α → β → Prop} : ∀ {as : List α} {bs : List β}, Paired R as bs → ∀ a ∈ as, ∃ b ∈ bs, R a b
  | _, _, .cons h t, a, ha => by
    rcases List.mem_cons.mp ha with e | ha
    · subst e; exact ⟨_, List.mem_cons_self, h⟩
    · obtain ⟨b, hb, r⟩ := paired_mem t a ha
      exact ⟨b, List.mem_cons_of_mem _ hb, r⟩
section
variable {X : Cx} {pins : List (Addr × Obj)} {σ : L2.St} {H : Hp} {s : Shared}
theorem isPair_of (I : Inv X pins σ H s) {a : Addr} {x y : Int} (h : H a = some (.tup [.int x, .int y])) : Srt.IsPair s.heap (.ref a) x y := by
  obtain ⟨_, its2, r2, o, ho, hc, n, hd⟩ := I.hok _ _ h
  obtain ⟨u1, u2, rfl, ri, rj⟩ := vals2 r2
  obtain ⟨t1, rfl⟩ := ri
  obtain ⟨t2, rfl⟩ := rj
  exact ⟨a, o, t1, t2, n, rfl, ho, hc, hd⟩
/-- a list of refs out of a permutation -/
theorem refs_perm {out : List Value} {as : List Addr} (p : out.Perm (as.map Value.ref)) : ∃ bs : List Addr, out = bs.map Value.ref ∧ bs.Perm as := by
  have hall : ∀ u ∈ out, ∃ a, u = Value.ref a := fun u hu => by
    obtain ⟨a, _, e⟩ := List.mem_map.mp (p.mem_iff.mp hu)
    exact ⟨a, e.symm⟩
  have hex : ∀ l : List Value, (∀ u ∈ l, ∃ a, u = Value.ref a) → ∃ bs : List Addr, l = bs.map Value.ref := by
    intro l
    induction l with
    | nil => intro _; exact ⟨[], rfl⟩
    | cons u l ih =>
      intro h
      obtain ⟨a, rfl⟩ := h u List.mem_cons_self
      obtain ⟨bs, e⟩ := ih fun v hv => h v (List.mem_cons_of_mem _ hv)
      exact ⟨a :: bs, by rw [e]; rfl⟩
  obtain ⟨bs, e⟩ := hex out hall
  refine ⟨bs, e, ?_⟩
  rw [e] at p
  have h2 := p.map (fun u : Value => match u with | .ref a => a | _ => 0)
  rw [List.map_map, List.map_map] at h2
  have e1 : ∀ l : List Addr, l.map ((fun u : Value => match u with | .ref a => a | _ => (0 : Addr)) ∘ Value.ref) = l := fun l => by
    conv => rhs; rw [← List.map_id l]
    rfl
  rw [e1, e1] at h2
  exact h2
/-- sorted(d), d a dict whose keys are pairs of ints: its keys in some order -/
def rSortedDT : List V → Hp → VK → Prop := fun xs H Q => ∃ (d : Addr) (kvs : List (List L2.Key × V)) (ps : List (Int × Int)), xs = [.ref d] ∧ H d = some (.dT kvs) ∧ kvs.map (·.1) = ps.map pkey ∧
  ∀ (bs : List Addr) (qs : List (Int × Int)) (p : Addr), qs.Perm ps → PairsAt H bs qs → H p = none → Q (.ref p) (upd H p (.lst (bs.map V.ref)))
theorem keys_pairs {H : Hp} : ∀ {kvs : List (List L2.Key × V)} {xs : List (List L2.Key × Addr × Value)} {ps : List (Int × Int)}, KT H kvs xs → kvs.map (·.1) = ps.map pkey → PairsAt H (xs.map fun x => x.2.1) ps
  | _, _, [], .nil, _ => .nil
  | _, _, _ :: _, .nil, e => nomatch e
  | _, _, [], .cons _ _, e => nomatch e
  | p :: kvs, x :: xs, q :: ps, .cons h t, e => by
    have e1 : p.1 = pkey q := (List.cons.inj e).1
    refine .cons ?_ (keys_pairs t (List.cons.inj e).2)
    have h2 := h.2.1
    rw [e1] at h2
    exact h2
theorem csortDT (hc : X.calm = true := by rfl) : CallR X (.builtin "sorted") rSortedDT := by
  intro pins s σ H xs us Q I r q
  obtain ⟨d, kvs, ps, rfl, hd, hks, q⟩ := q
  obtain ⟨u, rfl, rx⟩ := vals1 r
  cases rx
  obtain ⟨z, hs, ks, pr, o, es, ep, ho, hx, hdt, he, hn⟩ := (show ObjOk X.prog X.w H s.heap d (.dT kvs) from I.hok _ _ hd)
  have l1 : es.size = ks.length := size_of_entries he
  have l2 : kvs.length = ks.length := Paired.length pr
  have P0 := keys_pairs pr hks
  generalize has : (ks.map fun x => x.2.1) = as at P0
  refine Calls.call_function_entry PyProof.Rows.kind_sorted PyProof.Rows.plain_sorted PyProof.Rows.entry_sorted (PyProof.Rows.args_sorted1 _) ?_
  unfold Builtin.«sorted»
  refine wpAny_bind (m := checkCount "sorted" 1 1 _) (wpAny_pure ?_)
  refine wpAny_bind (PySem.W.kdu_collect (A := X.A.in1) (kdl_raw hs hx hdt) (I.ok.hd hc) ho (by omega) fun h' tk acc kp it => ?_)
  have ea : acc.toList = as.map Value.ref := by
    rw [← has, List.map_map]
    have hl : acc.toList.length = ks.length := by rw [Array.length_toList, it.1]; exact l1
    apply List.ext_getElem?
    intro j
    rw [List.getElem?_map]
    cases hj : acc.toList[j]? with
    | none =>
      have h1 := List.getElem?_eq_none_iff.mp hj
      rw [List.getElem?_eq_none (by omega)]
      all_goals rfl
    | some v =>
      obtain ⟨en, hen, hv⟩ := it.2 j v (by rw [← Array.getElem?_toList]; exact hj)
      have qe := entry_at he j
      rw [hen] at qe
      cases hb : ks[j]? with
      | none =>
        rw [hb] at qe
        exact nomatch (show some en = none from qe)
      | some b =>
        rw [hb] at qe
        have e2 : en = entryOfKey (tupleKind (mixKind X.prog X.w)) b := Option.some.inj qe
        rw [hv, e2]
        all_goals rfl
  have hal : acc.toList.length ≤ sizeLine := by
    rw [Array.length_toList, it.1]
    omega
  have I1 : Inv X pins σ H { s with heap := h', toks := tk } := I.kept kp
  refine wpAny_bind (wpAny_newList ?_ hal)
  have hoL : (h'.push (seqObj "list" acc.toList.toArray 0)).get? h'.objs.size = some (seqObj "list" acc.toList.toArray 0) := Heap.get?_push_size _ rfl
  have I2 : Inv X pins σ H { s with heap := h'.push (seqObj "list" acc.toList.toArray 0), toks := tk } := I1.kept (t' := tk) fun b o e => Heap.get?_push_of_some _ e
  show wpAny _ _ _ _ _ { s with heap := h'.push (seqObj "list" acc.toList.toArray 0), toks := tk }
  have hpair : ∀ v ∈ acc.toList, Srt.IsPair (h'.push (seqObj "list" acc.toList.toArray 0)) v (pairOf H v).1 (pairOf H v).2 := fun v hv => by
    rw [ea] at hv
    obtain ⟨a, ha, rfl⟩ := List.mem_map.mp hv
    obtain ⟨qq, _, hq⟩ := paired_mem P0 a ha
    rw [pairOf_at hq]
    exact isPair_of I2 hq
  refine wpAny_bind (wpAny_holding (wpAny_call_entry PyProof.Rows.slot_list_sort ⟨_, hoL, rfl⟩ PyProof.Rows.entry_list_sort
    (SrtO.list_sort_ord (s := { s with heap := h'.push (seqObj "list" acc.toList.toArray 0), toks := tk }) (SrtO.swo_lex (pairOf H)) hoL hal (fun h2 => SrtO.pairs_sortableO (by omega) hpair fun o e => ?_)
      fun out g1 g2 => ⟨_, rfl, ?_⟩) (PyProof.Rows.args_list_sort _)))
  · have e' : some o = some (seqObj "list" acc.toList.toArray 0) := e.symm.trans hoL
    cases e'
    intro c
    exact absurd (Value.type.inj c) (by decide)
  · obtain ⟨e', he'⟩ := PyProof.Rows.sortedHeap_at (vs := acc.toList) (out := out.toArray) hoL
    have hperm := g2.perm
    rw [ea] at hperm
    obtain ⟨bs, eb, pb⟩ := refs_perm hperm
    obtain ⟨qs, pq, rq⟩ := paired_perm pb P0
    have hlen : (bs.map V.ref).length ≤ sizeLine := by
      rw [List.length_map, pb.length_eq]
      have e := congrArg List.length ea
      rw [List.length_map] at e
      rw [← e]
      exact hal
    refine wpAny_pure ⟨_, rfl, .ref h'.objs.size, upd H h'.objs.size (.lst (bs.map V.ref)), I1.laid (t' := tk) (fun b u e => ?_) (Nat.le_refl _)
      (show ObjOk X.prog X.w _ _ _ (.lst (bs.map V.ref)) from ⟨hlen, out, e', by rw [eb]; exact vals_refs bs, he'⟩), rfl, q bs qs _ pq rq (I1.hok.fresh (Nat.le_refl _))⟩
    have hb : b < h'.objs.size := Heap.lt_size e
    rw [PyProof.Rows.sortedHeap_old (Nat.ne_of_lt hb) (by rw [size_push']; exact Nat.lt_succ_of_lt hb)]
    exact Heap.get?_push_of_some _ e
/-- sorted(xs), xs a list of pairs of ints -/
def rSortedLP (K : PySem.W.Frag) : List V → Hp → VK → Prop := fun xs H Q => ∃ (a : Addr) (as : List Addr) (ps : List (Int × Int)), xs = [.ref a] ∧ SqL K H a (as.map V.ref) ∧ PairsAt H as ps ∧
  ∀ (bs : List Addr) (qs : List (Int × Int)) (p : Addr), qs.Perm ps → PairsAt H bs qs → H p = none → Q (.ref p) (upd H p (.lst (bs.map V.ref)))
/-- the pair at a value of the layer -/
def pairOfV (H : Hp) : V → Int × Int
  | .ref a => pairOf H (.ref a)
  | _ => (0, 0)
theorem vrefs_perm {out : List V} {as : List Addr} (p : out.Perm (as.map V.ref)) : ∃ bs : List Addr, out = bs.map V.ref ∧ bs.Perm as := by
  have hex : ∀ l : List V, (∀ u ∈ l, ∃ a, u = V.ref a) → ∃ bs : List Addr, l = bs.map V.ref := by
    intro l
    induction l with
    | nil => intro _; exact ⟨[], rfl⟩
    | cons u l ih =>
      intro h
      obtain ⟨a, rfl⟩ := h u List.mem_cons_self
      obtain ⟨bs, e⟩ := ih fun v hv => h v (List.mem_cons_of_mem _ hv)
      exact ⟨a :: bs, by rw [e]; rfl⟩
  obtain ⟨bs, e⟩ := hex out fun u hu => by
    obtain ⟨a, _, e⟩ := List.mem_map.mp (p.mem_iff.mp hu)
    exact ⟨a, e.symm⟩
  refine ⟨bs, e, ?_⟩
  rw [e] at p
  have h2 := p.map (fun u : V => match u with | .ref a => a | _ => 0)
  rw [List.map_map, List.map_map] at h2
  have e1 : ∀ l : List Addr, l.map ((fun u : V => match u with | .ref a => a | _ => (0 : Addr)) ∘ V.ref) = l := fun l => by
    conv => rhs; rw [← List.map_id l]
    rfl
  rw [e1, e1] at h2
  exact h2
theorem csortLP (K : PySem.W.Frag) (h : X.K = K := by rfl) : CallR X (.builtin "sorted") (rSortedLP K) := by
  subst h
  intro pins s σ H xs us Q I r q
  obtain ⟨a, as, ps, rfl, hs, hP, q⟩ := q
  refine cr_sortedPO pins s σ H [.ref a] us Q I r ⟨a, _, pairOfV H, rfl, hs, fun x hx => ?_, fun ys p _ hb hp => ?_⟩
  · obtain ⟨b, hb, rfl⟩ := List.mem_map.mp hx
    obtain ⟨qq, _, hq⟩ := paired_mem hP b hb
    refine ⟨b, rfl, ?_⟩
    show H b = some (.tup [.int (pairOf H (.ref b)).1, .int (pairOf H (.ref b)).2])
    rw [pairOf_at hq]
    exact hq
  · obtain ⟨bs, rfl, pb⟩ := vrefs_perm hb.perm
    obtain ⟨qs, pq, rq⟩ := paired_perm pb hP
    exact q bs qs p pq rq hp
end

/-! ### tuple(a list), known to its object (no dict of its own) -/
def frzT (its : List Value) (xs : List V) : HO := .frz ({ cls := .type "tuple", data := .seq its.toArray } : Obj) (.tup xs)
def rTupF (K : PySem.W.Frag) : List V → Hp → VK → Prop := fun xs H Q => ∃ p ys, xs = [.ref p] ∧ SqL K H p ys ∧ ∀ l its, H l = none → Q (.ref l) (upd H l (frzT its ys))
section
variable {X : Cx}
theorem ktupF (K : PySem.W.Frag) (h : X.K = K := by rfl) : CallR X (.type "tuple") (rTupF K) := by
  subst h
  intro pins s σ H xs us Q I r h
  obtain ⟨p, ys, rfl, hq, q⟩ := h
  obtain ⟨u, rfl, rx⟩ := vals1 r
  cases rx
  obtain ⟨its, r', pl, hz⟩ := I.list hq
  have hlen := r'.length
  refine call_tuple_list pl.isList (fun h' kp => ?_) (by simp only [List.size_toArray] <;> omega)
  have I1 : Inv X pins σ H { s with heap := h' } := I.kept (t' := s.toks) kp
  have I2 : Inv X pins σ (upd H h'.objs.size (frzT its ys)) { s with heap := h'.push { cls := .type "tuple", data := .seq its.toArray } } :=
    I1.laid (t' := s.toks) (fun b o e => Heap.get?_push_of_some _ e) (Nat.le_refl _) (show ObjOk X.prog X.w _ _ _ (frzT its ys) from ⟨Heap.get?_push_size _ rfl, hz, its, r', IsTup.new _ _⟩)
  exact ⟨.ref h'.objs.size, _, I2, rfl, q _ _ (I1.hok.fresh (Nat.le_refl _))⟩
/-- list(a list), known to its object -/
def rListF (K : PySem.W.Frag) : List V → Hp → VK → Prop := fun xs H Q => ∃ p ys, xs = [.ref p] ∧ SqL K H p ys ∧ ∀ l o, H l = none → Q (.ref l) (upd H l (.frz o (.lst ys)))
theorem klistF (K : PySem.W.Frag) (h : X.K = K := by rfl) : CallR X (.type "list") (rListF K) := by
  subst h
  intro pins s σ H xs us Q I r h
  obtain ⟨p, ys, rfl, hq, q⟩ := h
  obtain ⟨u, rfl, rx⟩ := vals1 r
  cases rx
  obtain ⟨its, r', pl, hz⟩ := I.list hq
  have hlen := r'.length
  obtain ⟨o, ho, hc, n, hd⟩ := pl.isList
  refine call_list_seq p (.inl rfl) ho hc hd (fun h' c' kp e => ?_) (by simp only [List.size_toArray] <;> omega)
  exact ⟨.ref s.heap.objs.size, _, I.laid (t' := s.toks) kp (Nat.le_refl _) (show ObjOk X.prog X.w _ h' _ (.frz _ (.lst ys)) from ⟨e, hz, its, c', r', e⟩), rfl, q _ _ (I.hok.fresh (Nat.le_refl _))⟩
/-! ### t.count(n), t such a tuple of ints -/
def tTCount (to ta : TE) : TE := fun σ H Q => to σ H fun x H1 => (∃ p its xs, x = .ref p ∧ H1 p = some (frzT its xs)) ∧ ta σ H1 fun y H2 => ∃ (p : Addr) (its : List Value) (ns : List Int) (k : Int), x = .ref p ∧ y = .int k ∧ H2 p = some (frzT its (ns.map V.int)) ∧ Q (.int (ns.count k : Nat)) H2
variable {o e : Expr} {to ta : TE} {apos cpos : Pos}
theorem pe_tcount (ho : PE X o to) (ha : PE X e ta)
    (hbase : attributeBase o "count" X.env (eval o X.env) = eval o X.env := by rfl)
    (hfew : ((backTo cpos (starEach [e] X.env)).all (fun x => !x.1) && (backToKw cpos (keywordEach [] X.env)).all (fun x => x.1.isSome)
      && decide (([e] : List Expr).length + ([] : List Keyword).length + (if ([] : List Keyword).isEmpty then 0 else 1) < 30)) = true := by rfl)
    (hline : (apos.endLine == cpos.line) = true := by rfl) (hs : starEach [e] X.env = (false, eval e X.env) :: starEach [] X.env := by rfl) (hplain : (backTo cpos (starEach [] X.env)).any (·.1) = false := by rfl) :
    PE X (.Call (.Attribute o "count" apos) [e] [] cpos) (tTCount to ta) := by
  refine ⟨fun pins s σ H Q I h => ?_⟩
  refine wpAny_Call_method_late hbase hfew hline rfl (thn (ho.run pins s σ H _ I h) fun v s1 ⟨x, H1, I1, r1, ⟨p, its, xs, ex, hp⟩, q1⟩ => ?_)
  subst ex
  obtain rfl : v = Value.ref p := r1
  obtain ⟨hob, _⟩ := (show ObjOk X.prog X.w H1 s1.heap p (frzT its xs) from I1.hok _ _ hp)
  refine ⟨"tuple", "tuple.count", PySem.F.plainAttrs_tuple, PySem.F.slot_tuple_count, PySem.F.type_tuple_count, ⟨_, hob, rfl⟩, fun b q => ?_, ?_⟩
  · cases q
    exact ⟨_, hob, rfl⟩
  rw [hs]
  refine Calls.callWith_builtin (by show (false || (backTo cpos (starEach [] X.env)).any (·.1)) = false; rw [hplain] <;> rfl) (Calls.evalArgs_plain ?_)
  refine Calls.spliced_cons (thn (ha.run pins s1 σ H1 _ I1 q1) fun u s2 ⟨y, H2, I2, r2, p', its', ns, k, ep, ey, hp2, q2⟩ => Calls.spliced_nil ?_)
  cases ep
  subst ey
  obtain ⟨t, rfl⟩ := r2
  obtain ⟨hob2, hz, its2, rv, ht⟩ := (show ObjOk X.prog X.w H2 s2.heap p (frzT its' (ns.map V.int)) from I2.hok _ _ hp2)
  obtain ⟨o2, ho2, hc2, n2, hd2⟩ := ht
  rw [hob2] at ho2
  cases ho2
  injection hd2 with hd2 hn2
  have e2 : its' = its2 := by simpa using congrArg Array.toList hd2
  subst e2
  have hi := ints_of_vals rv
  refine call_meets PySem.F.slot_tuple_count ⟨_, hob2, rfl⟩ PySem.F.entry_tuple_count (PySem.F.args_tuple_count_2 _ _)
    (SeqAt.tuple_countAt p its'.toArray _ none _ (.int k t) (eqk k)) ⟨hob2, fun y hy => (eqk_gives hi y (by simpa using hy)).at _ _, ?_⟩
  have ec : its'.toArray.toList.countP (eqk k) = ns.count k := eqk_count hi
  refine ⟨.int (ns.count k : Nat), H2, I2.tok _, ⟨s2.toks, ?_⟩, q2⟩
  show Value.int ((its'.toArray.toList.countP (eqk k) : Nat) : Int) s2.toks = Value.int ((ns.count k : Nat) : Int) s2.toks
  rw [ec]
end
end Ub

/-! Words on the heap, dicts of nodes. -/
namespace Ub
open PySem PySem.Spec PyProof.Rows L2
/-! ### places within a def's text -/
def xNoE : Expr := .Constant .none 0 ⟨0, 0, 0, 0⟩
def xNoS : Stmt := .Pass ⟨0, 0, 0, 0⟩
def xRet : Stmt → Expr
  | .Return (some e) _ => e
  | _ => xNoE
def xVal : Stmt → Expr
  | .Assign _ e _ => e
  | _ => xNoE
def xTest : Stmt → Expr
  | .If e _ _ _ => e
  | _ => xNoE
def xIter : Stmt → Expr
  | .For _ e _ _ _ => e
  | _ => xNoE
def xBody : Stmt → List Stmt
  | .If _ b _ _ => b
  | .For _ _ b _ _ => b
  | _ => []
def xAt (l : List Stmt) (i : Nat) : Stmt := l.getD i xNoS
def xNth (l : List Expr) (i : Nat) : Expr := l.getD i xNoE
def xFn : Expr → Expr
  | .Call e _ _ _ => e
  | _ => xNoE
def xArgs : Expr → List Expr
  | .Call _ l _ _ => l
  | _ => []
def xOb : Expr → Expr
  | .Attribute e _ _ => e
  | _ => xNoE
def xVs : Expr → List Expr
  | .BoolOp _ l _ => l
  | _ => []
def xLeft : Expr → Expr
  | .Compare e _ _ _ => e
  | _ => xNoE
def xElt : Expr → Expr
  | .ListComp e _ _ _ => e
  | _ => xNoE
def xScope : Expr → Scope
  | .ListComp _ _ s _ => s
  | _ => { kind := .function, names := [], isGenerator := false, isCoroutine := false, more := [] }
theorem seq0 (n : Nat) : seqIndex? 0 (n + 1) = some 0 := by
  unfold seqIndex?
  simp
/-- a word and one command more -/
theorem cat_snoc {K : PySem.W.Frag} {H : Hp} {Q : VK} {t t2 : Addr} {u : List Nat} {i : Nat} (ht : H t = some (.tup (u.map vN))) (hl : u.length + 1 ≤ 1000) (h2 : H t2 = none)
    (q : ∀ (t3 : Addr) (H3 : Hp), Same H H3 → H3 t3 = some (.tup ((u ++ [i]).map vN)) → Q (.ref t3) H3) : rCatA K (.ref t) (.ref t2) (upd H t2 (.tup [vN i])) Q := by
  have sm : Same H (upd H t2 (.tup [vN i])) := same_upd h2
  refine ⟨t, t2, u.map vN, [vN i], rfl, rfl, SqT.of (sm _ _ ht), SqT.of upd_same, ?_, fun e => ?_, fun _ e => (nomatch e), fun _ _ p hp => ?_⟩
  · rw [List.length_map]
    exact sz100 hl
  · have e' : u = [] := List.map_eq_nil_iff.mp e
    subst e'
    exact q t2 _ sm upd_same
  · refine q p _ (sm.trans (same_upd hp)) ?_
    rw [upd_same, List.map_append]
    rfl
/-! ### a dict of states -/
def dkOf (L : List (Nat × Addr)) : List (L2.Key × V) := L.map fun e => (Sum.inl (e.1 : Int), V.ref e.2)
theorem dkOf_some : ∀ {L : List (Nat × Addr)} {e : Nat × Addr}, (L.map (·.1)).Nodup → e ∈ L → valV (dkOf L) (Sum.inl (e.1 : Int)) = some (.ref e.2)
  | [], _, _, h => nomatch h
  | f :: L, e, hn, h => by
    rw [List.map_cons, List.nodup_cons] at hn
    rcases List.mem_cons.mp h with rfl | h
    · exact valV_pos rfl
    · have : ¬ (Sum.inl (f.1 : Int) : L2.Key) = Sum.inl (e.1 : Int) := fun q => by
        have e1 : f.1 = e.1 := by
          have := Sum.inl.inj q
          omega
        exact hn.1 (e1 ▸ List.mem_map.mpr ⟨e, h, rfl⟩)
      exact (valV_neg this).trans (dkOf_some hn.2 h)
theorem dkOf_none : ∀ {L : List (Nat × Addr)} {x : Nat}, x ∉ L.map (·.1) → valV (dkOf L) (Sum.inl (x : Int)) = none
  | [], _, _ => rfl
  | f :: L, x, h => by
    rw [List.map_cons, List.mem_cons, not_or] at h
    have : ¬ (Sum.inl (f.1 : Int) : L2.Key) = Sum.inl (x : Int) := fun q => by
      have := Sum.inl.inj q
      exact h.1 (by omega)
    exact (valV_neg this).trans (dkOf_none h.2)
theorem dkOf_put {L : List (Nat × Addr)} {x : Nat} {t : Addr} (h : x ∉ L.map (·.1)) : putK (dkOf L) (Sum.inl (x : Int)) (.ref t) = dkOf (L ++ [(x, t)]) := by
  rw [putK_new _ (dkOf_none h)]
  unfold dkOf
  rw [List.map_append]
  rfl
theorem dkOf_keys (L : List (Nat × Addr)) : (dkOf L).map (·.1) = (L.map (·.1)).map fun x => (Sum.inl (x : Int) : L2.Key) := by
  unfold dkOf
  rw [List.map_map, List.map_map]
  rfl
theorem dkOf_len (L : List (Nat × Addr)) : (dkOf L).length = L.length := List.length_map _
theorem mem_fst {α β : Type} {L : List (α × β)} {x : α} (h : x ∈ L.map (·.1)) : ∃ t, (x, t) ∈ L := by
  obtain ⟨⟨y, t⟩, he, e⟩ := List.mem_map.mp h
  cases e
  exact ⟨t, he⟩
/-! ### a dict of pairs of states -/
def nkey (p : Nat × Nat) : List L2.Key := [Sum.inl (p.1 : Int), Sum.inl (p.2 : Int)]
theorem nkey_inj {p q : Nat × Nat} (h : nkey p = nkey q) : p = q := by
  obtain ⟨a, b⟩ := p
  obtain ⟨c, d⟩ := q
  unfold nkey at h
  have h1 := Sum.inl.inj (List.cons.inj h).1
  have h2 := Sum.inl.inj (List.cons.inj (List.cons.inj h).2).1
  have e1 : a = c := by omega
  have e2 : b = d := by omega
  rw [e1, e2]
def dtOf (L : List ((Nat × Nat) × V)) : List (List L2.Key × V) := L.map fun e => (nkey e.1, e.2)
theorem dtOf_some : ∀ {L : List ((Nat × Nat) × V)} {e : (Nat × Nat) × V}, (L.map (·.1)).Nodup → e ∈ L → valV (dtOf L) (nkey e.1) = some e.2
  | [], _, _, h => nomatch h
  | f :: L, e, hn, h => by
    rw [List.map_cons, List.nodup_cons] at hn
    rcases List.mem_cons.mp h with rfl | h
    · exact valV_pos rfl
    · have : ¬ nkey f.1 = nkey e.1 := fun q => by
        have e1 : f.1 = e.1 := nkey_inj q
        exact hn.1 (e1 ▸ List.mem_map.mpr ⟨e, h, rfl⟩)
      exact (valV_neg this).trans (dtOf_some hn.2 h)
theorem dtOf_none : ∀ {L : List ((Nat × Nat) × V)} {x : Nat × Nat}, x ∉ L.map (·.1) → valV (dtOf L) (nkey x) = none
  | [], _, _ => rfl
  | f :: L, x, h => by
    rw [List.map_cons, List.mem_cons, not_or] at h
    have : ¬ nkey f.1 = nkey x := fun q => h.1 (nkey_inj q).symm
    exact (valV_neg this).trans (dtOf_none h.2)
theorem dtOf_put {L : List ((Nat × Nat) × V)} {x : Nat × Nat} {v : V} (h : x ∉ L.map (·.1)) : putK (dtOf L) (nkey x) v = dtOf (L ++ [(x, v)]) := by
  rw [putK_new _ (dtOf_none h)]
  unfold dtOf
  rw [List.map_append]
  rfl
theorem dtOf_len (L : List ((Nat × Nat) × V)) : (dtOf L).length = L.length := List.length_map _
theorem dtOf_keys (L : List ((Nat × Nat) × V)) : (dtOf L).map (·.1) = ((L.map (·.1)).map fun p => ((p.1 : Int), (p.2 : Int))).map pkey := by
  unfold dtOf
  rw [List.map_map, List.map_map, List.map_map]
  rfl
/-! ### frames -/
/-- all but the object at p is as it was -/
def But (p : Addr) (H H' : Hp) : Prop := ∀ b o, b ≠ p → H b = some o → H' b = some o
theorem Same.upd2 {H0 H : Hp} {d : Addr} {o : HO} (sm : Same H0 H) (hd : H0 d = none) : Same H0 (upd H d o) := fun b q e => by
  rw [upd_ne (ne_of_none e hd)]
  exact sm b q e
end Ub

namespace Ub
open PySem PySem.Spec PyProof.Rows L2
section
variable {P : Program} {w : World} {K : PySem.W.Frag} {mg : Str → Option Value} {base : Heap}
/-! ### is_whole -/
abbrev sIsWhole : Stmt := top 7
def spIsWhole : Sp := fun vs H Q _ => ∃ v lo hi : Int, vs = [.int v, .int lo, .int hi] ∧ Q (.bl (decide (lo ≤ v) && decide (v ≤ hi))) H
theorem sc_is_whole : FnScope ["value", "low", "high"] ["value", "low", "high"] (defScope sIsWhole) := ⟨rfl, rfl, rfl, by decide +kernel, rfl, by decide +kernel, by decide +kernel⟩
theorem cal_is_whole (D : Dfn K mg "is_whole" sIsWhole ["value", "low", "high"]) (B : Bl mg) : Cal P w K mg base CX0 1 "is_whole" spIsWhole := by
  refine cal_of D sc_is_whole (fun vs H Q E h => ?_) (fun f cdv A outer s H vs Q E hr h => ?_)
  · obtain ⟨v, lo, hi, rfl, _⟩ := h
    rfl
  · obtain ⟨v, lo, hi, rfl, q⟩ := h
    refine ⟨_, pss_one (ps_ret (pe_and (pe_isi B.isinstance (pv 0) B.int PyProof.Rows.boot_int)
      (pe_and (pe_not (pe_isi B.isinstance (pv 0) B.bool PyProof.Rows.boot_bool)) (pe_one (pe_chain op_le op_le (pv 1) (pv 0) (pv 2)))))), ?_⟩
    refine ⟨_, rfl, _, _, _, _, true, rfl, .ty _, .base (.int _), kit_ty k_ii, true, rfl, iteT ?_⟩
    refine ⟨_, rfl, _, _, _, _, false, rfl, .ty _, .base (.int _), kit_ty k_ib, false, rfl, true, rfl, iteT ?_⟩
    refine ⟨_, rfl, _, rfl, _, _, rfl, rfl, _, rfl, ite2 (fun c => ?_) (fun c => ?_)⟩
    · refine ⟨_, rfl, _, _, rfl, rfl, ?_⟩
      rw [c, Bool.true_and] at q
      exact q
    · rw [eq_false_of_ne_true c, Bool.false_and] at q
      exact q
/-! ### is_state -/
abbrev sIsState : Stmt := top 9
def spIsState : Sp := fun vs H Q _ => ∃ (a : Addr) (S : Sys) (x : Int), vs = [.ref a, .int x] ∧ SysAt H a S ∧ Q (.bl (decide (0 ≤ x) && decide (x ≤ (S.n : Int) - 1))) H
theorem sc_is_state : FnScope ["system", "value"] ["system", "value"] (defScope sIsState) := ⟨rfl, rfl, rfl, by decide +kernel, rfl, by decide +kernel, by decide +kernel⟩
theorem cal_is_state (D : Dfn K mg "is_state" sIsState ["system", "value"]) (c1 : Cal P w K mg base CX0 1 "is_whole" spIsWhole) : Cal P w K mg base CX0 2 "is_state" spIsState := by
  refine cal_of D sc_is_state (fun vs H Q E h => ?_) (fun f cdv A outer s H vs Q E hr h => ?_)
  · obtain ⟨a, S, x, rfl, _⟩ := h
    rfl
  · obtain ⟨a, S, x, rfl, hS, q⟩ := h
    obtain ⟨ca, rs, h1, h2, h3⟩ := hS.num
    refine ⟨_, pss_one (ps_ret (pe_k c1 hr (by decide) (by rfl) (pa_cons (pv 1) (pa_cons pe_int (pa_cons (pe_op op_sub (pe_ix ix_tup (pv 0) pe_int (fun _ _ => rfl)) pe_int) pa_nil))))), ?_⟩
    exact ⟨_, rfl, .ref a, rfl, a, _, 0, vN S.n, rfl, rfl, SqT.of h1, atI_nat (j := 0) rfl, _, _, rfl, rfl, x, 0, (S.n : Int) - 1, rfl, q⟩
/-! ### states_of -/
abbrev sStatesOf : Stmt := top 10
def spStatesOf : Sp := fun vs H Q _ => ∃ (a : Addr) (S : Sys), vs = [.ref a] ∧ SysAt H a S ∧ ∀ p, H p = none → Q (.ref p) (upd H p (.lst ((List.range S.n).map vN)))
theorem sc_states_of : FnScope ["system"] ["system"] (defScope sStatesOf) := ⟨rfl, rfl, rfl, by decide +kernel, rfl, by decide +kernel, by decide +kernel⟩
theorem rg0 (n : Nat) : rgV 0 (n : Int) = (List.range n).map vN := by
  unfold rgV
  rw [show ((n : Int) - 0).toNat = n by omega]
  refine List.map_congr_left fun i _ => ?_
  show V.int (0 + (i : Int)) = V.int (i : Int)
  rw [Int.zero_add]
theorem rgok {n : Nat} (h : n ≤ 1000) : RgOk 0 (n : Int) := by
  unfold RgOk
  have e : (2 : Nat) ^ 24 = 16777216 := by decide
  rw [e]
  omega
theorem cal_states_of (D : Dfn K mg "states_of" sStatesOf ["system"]) (B : Bl mg) : Cal P w K mg base CX0 1 "states_of" spStatesOf := by
  refine cal_of D sc_states_of (fun vs H Q E h => ?_) (fun f cdv A outer s H vs Q E hr h => ?_)
  · obtain ⟨a, S, rfl, _⟩ := h
    rfl
  · obtain ⟨a, S, rfl, hS, q⟩ := h
    obtain ⟨ca, rs, h1, h2, h3⟩ := hS.num
    refine ⟨_, pss_one (ps_ret (pe_listRg rfl (by rfl) B.list (prg_1 (by rfl) B.range (pe_ix ix_tup (pv 0) pe_int (fun _ _ => rfl))))), ?_⟩
    refine ⟨.ref a, rfl, a, _, 0, vN S.n, rfl, rfl, SqT.of h1, atI_nat (j := 0) rfl, _, rfl, rgok (Nat.le_trans hS.ok.n8 (by decide)), fun p hp => ?_⟩
    rw [rg0]
    exact q p hp
/-! ### step -/
abbrev sStep : Stmt := top 11
def spStep : Sp := fun vs H Q _ => ∃ (a : Addr) (S : Sys) (x c : Nat), vs = [.ref a, vN x, vN c] ∧ SysAt H a S ∧ x < S.n ∧ c < S.cs.length ∧ Q (vN (step S x c)) H
theorem sc_step : FnScope ["system", "state", "command"] ["system", "state", "command"] (defScope sStep) := ⟨rfl, rfl, rfl, by decide +kernel, rfl, by decide +kernel, by decide +kernel⟩
theorem cal_step (D : Dfn K mg "step" sStep ["system", "state", "command"]) : Cal P w K mg base CX0 1 "step" spStep := by
  refine cal_of D sc_step (fun vs H Q E h => ?_) (fun f cdv A outer s H vs Q E hr h => ?_)
  · obtain ⟨a, S, x, c, rfl, _⟩ := h
    rfl
  · obtain ⟨a, S, x, c, rfl, hS, hx, hc, q⟩ := h
    obtain ⟨ca, rs, r, xs, h1, h2, h3, h4, h5⟩ := hS.step hx hc
    refine ⟨_, pss_one (ps_ret (pe_ix ix_tup (pe_ix ix_tup (pe_ix ix_tup (pv 0) pe_int (fun _ _ => rfl)) (pv 2) (fun _ _ => rfl)) (pv 1) (fun _ _ => rfl))), ?_⟩
    exact ⟨.ref a, rfl, a, _, 2, .ref ca, rfl, rfl, SqT.of h1, atI_nat (j := 2) rfl, vN c, rfl, ca, _, c, .ref r, rfl, rfl, SqT.of h2, atI_nat h3, vN x, rfl, r, _, x, _, rfl, rfl, SqT.of h4, atI_nat h5, q⟩
/-! ### led -/
abbrev sLed : Stmt := top 12
/-- a word on the heap -/
def spLed (K : PySem.W.Frag) : Sp := fun vs H Q _ => ∃ (a wa : Addr) (S : Sys) (x : Nat) (u : List Nat), vs = [.ref a, vN x, .ref wa] ∧ SysAt H a S ∧ x < S.n ∧ SqT K H wa (u.map vN) ∧ Wd S u ∧ Q (vN (led S x u)) H
theorem sc_led : FnScope ["system", "state", "sequence", "here", "command"] ["system", "state", "sequence"] (defScope sLed) := ⟨rfl, rfl, rfl, by decide +kernel, rfl, by decide +kernel, by decide +kernel⟩
theorem led_take {S : Sys} {x : Nat} {u : List Nat} {i c : Nat} (h : u[i]? = some c) : led S x (u.take (i + 1)) = step S (led S x (u.take i)) c := by
  rw [List.take_add_one, h]
  exact led_snoc
theorem cal_led (D : Dfn K mg "led" sLed ["system", "state", "sequence"]) (c1 : Cal P w K mg base CX0 1 "step" spStep) : Cal P w K mg base CX0 2 "led" (spLed K) := by
  refine cal_of D sc_led (fun vs H Q E h => ?_) (fun f cdv A outer s H vs Q E hr h => ?_)
  · obtain ⟨a, wa, S, x, u, rfl, _⟩ := h
    rfl
  · obtain ⟨a, wa, S, x, u, rfl, hS, hx, hw, hu, q⟩ := h
    refine ⟨_, pss_cons (ps_set (i := 3) sc_led.nd rfl (.inl rfl) (pv 1))
      (pss_cons (ps_for PassesOwn.never rfl (pi_tup (pv 2)) (pg_name (i := 4) sc_led.nd rfl (.inl rfl))
        (pss_one (ps_set (i := 3) sc_led.nd rfl (.inl rfl) (pe_k c1 hr (by decide) (by rfl) (pa_cons (pv 0) (pa_cons (pv 3) (pa_cons (pv 4) pa_nil)))))))
      (pss_one (ps_ret (pv 3)))), ?_⟩
    refine ⟨_, rfl, _, rfl, wa, rfl, ⟨_, hw⟩, for_tup (K := K) (xs := u.map vN) (fun i σ H' => ∃ y, σ = [some (.ref a), some (vN x), some (.ref wa), some (vN (led S x (u.take i))), y] ∧ H' = H) ⟨none, rfl, rfl⟩ ?_ ?_ ?_⟩
    · rintro i σ H' _ ⟨_, _, rfl⟩
      exact hw
    · rintro i y σ H' hi ⟨z, rfl, rfl⟩
      obtain ⟨c, hc, rfl⟩ := of_map_at hi
      have hcl : c < S.cs.length := hu c (List.mem_of_getElem? hc)
      refine ⟨_, rfl, _, rfl, _, rfl, a, S, led S x (u.take i), c, rfl, hS, ?_, hcl, some (vN c), ?_, rfl⟩
      · exact led_lt hS.ok hx fun d hd => hu d (List.mem_of_mem_take hd)
      · rw [led_take hc]
        rfl
    · rintro σ H' ⟨z, rfl, rfl⟩
      rw [List.length_map, List.take_length]
      exact ⟨_, rfl, q⟩
end
end Ub

namespace Ub
open PySem PySem.Spec PyProof.Rows L2
section
variable {P : Program} {w : World} {K : PySem.W.Frag} {mg : Str → Option Value} {base : Heap}
theorem all_replicate_true (n : Nat) : (List.replicate n true).all id = true := by
  rw [List.all_eq_true]
  intro x hx
  exact (List.mem_replicate.mp hx).2
/-! ### is_system -/
abbrev sIsSystem : Stmt := top 8
theorem sc_is_system : FnScope ["value", "states", "start", "commands", "command", "state"] ["value"] (defScope sIsSystem) := ⟨rfl, rfl, rfl, by decide +kernel, rfl, by decide +kernel, by decide +kernel⟩
def spIsSystem : Sp := fun vs H Q _ => ∃ (a : Addr) (S : Sys), vs = [.ref a] ∧ SysAt H a S ∧ ∀ H', Same H H' → Q (.bl true) H'
theorem cal_is_system (D : Dfn K mg "is_system" sIsSystem ["value"]) (B : Bl mg) (c_is_whole : Cal P w K mg base CX0 1 "is_whole" spIsWhole) (g1 : ∃ t, mg "MOST_STATES" = some (.int 8 t)) (g2 : ∃ t, mg "MOST_COMMANDS" = some (.int 4 t)) :
    Cal P w K mg base CX0 2 "is_system" spIsSystem := by
  obtain ⟨t1, g1⟩ := g1
  obtain ⟨t2, g2⟩ := g2
  refine cal_of D sc_is_system (fun vs H Q E h => ?_) (fun f cdv A outer s H vs Q E hr h => ?_)
  · obtain ⟨a, S, rfl, _⟩ := h
    rfl
  · obtain ⟨a, S, rfl, hS, q⟩ := h
    obtain ⟨ca, rs, h1, h2, h3⟩ := hS.ex
    have ok := hS.ok
    refine ⟨_, (pss_cons (ps_if (PW.pt (pw_or (pt_not (pt_val (kisi K B.isinstance (pv 0) B.tuple PyProof.Rows.boot_tuple))) (pw_or (pt_cmpR op_ne (pe_callB (klen K) (by rfl) B.len PySem.boot_len (pa_cons (pv 0) pa_nil)) pe_int (nomark _)) (pw_or1 (pt_not (pt_val (pe_k c_is_whole hr (by decide) (by rfl) (pa_cons (pe_ix (kixT K) (pv 0) pe_int (fun _ _ => rfl)) (pa_cons pe_int (pa_cons (pe_glob (v := .int 8) (by rfl) g1 ⟨_, rfl⟩) pa_nil)))))))))) pss_never pss_nil)
      (pss_cons (ps_asg (pv 0) (kgT K rfl (pgs_cons (pg_name (i := 1) sc_is_system.nd rfl (.inr rfl)) (pgs_cons (pg_name (i := 2) sc_is_system.nd rfl (.inl rfl)) (pgs_cons (pg_name (i := 3) sc_is_system.nd rfl (.inl rfl)) pgs_nil)))))
      (pss_cons (ps_if (PW.pt (pw_or (pt_not (pt_val (pe_k c_is_whole hr (by decide) (by rfl) (pa_cons (pv 2) (pa_cons pe_int (pa_cons (pe_op op_sub (pv 1) pe_int) pa_nil)))))) (pw_or (pt_not (pt_val (kisi K B.isinstance (pv 3) B.tuple PyProof.Rows.boot_tuple))) (pw_or1 (pt_cmpR op_gt (pe_callB (klen K) (by rfl) B.len PySem.boot_len (pa_cons (pv 3) pa_nil)) (pe_glob (v := .int 4) (by rfl) g2 ⟨_, rfl⟩) (nomark _)))))) pss_never pss_nil)
      (pss_cons (ps_for PassesOwn.never rfl (kpiT K (pv 3)) (pg_name (i := 4) sc_is_system.nd rfl (.inl rfl)) (pss_cons (ps_if (PW.pt (pw_or (pt_not (pt_val (kisi K B.isinstance (pv 4) B.tuple PyProof.Rows.boot_tuple))) (pw_or1 (pt_cmpR op_ne (pe_callB (klen K) (by rfl) B.len PySem.boot_len (pa_cons (pv 4) pa_nil)) (pv 1) (nomark _))))) pss_never pss_nil)
      (pss_one (ps_if (pt_not (pt_val (pe_callB (kall K) (by rfl) B.all (by decide +kernel) (pa_cons (pe_lc (own := [("state", 5)]) (g := (gName 5)) (tt := tYes) rfl sc_is_system.nd (kpiT K (pv 4)) (blkOk_by (N := ["value", "states", "start", "commands", "command", "state"]) (sc := defScope sIsSystem) (by decide +kernel)) (fun _ _ _ _ _ => (pg_name (i := 5) sc_is_system.nd rfl (.inl rfl))) (fun _ _ _ _ _ => pts_nil) (fun _ _ _ _ _ => (pe_k c_is_whole hr (by decide) (by rfl) (pa_cons (pv 5) (pa_cons pe_int (pa_cons (pe_op op_sub (pv 1) pe_int) pa_nil)))))) pa_nil)))) pss_never pss_nil))))
      (pss_one (ps_ret pe_bl)))))), ?_⟩
    -- the first test
    refine ⟨.ref a, rfl, _, _, _, _, true, rfl, .ty _, .base (.tup h1), kit_ty k_tt, true, rfl, iteF ?_⟩
    refine ⟨.ref a, rfl, _, 3, rfl, .inr ⟨_, SqT.of h1, rfl⟩, rfl, _, rfl, ?_⟩
    refine iteNS rfl ?_
    refine ⟨.ref a, rfl, a, _, 0, vN S.n, rfl, rfl, SqT.of h1, atI_nat (j := 0) rfl, (S.n : Int), 1, 8, rfl, true, ?_, iteF ?_⟩
    · have := ok.n1; have := ok.n8
      rw [decide_eq_true (by omega), decide_eq_true (by omega)]
      rfl
    -- states, start, commands = value
    refine ⟨.ref a, rfl, a, _, rfl, SqT.of h1, rfl, _, _, rfl, _, _, rfl, _, _, rfl, rfl, ?_⟩
    -- the second test
    refine ⟨_, rfl, _, rfl, _, _, rfl, rfl, (S.s : Int), 0, (S.n : Int) - 1, rfl, true, ?_, iteF ?_⟩
    · have := ok.s0
      rw [decide_eq_true (by omega), decide_eq_true (by omega)]
      rfl
    refine ⟨_, rfl, _, _, _, _, true, rfl, .ty _, .base (.tup h2), kit_ty k_tt, true, rfl, iteF ?_⟩
    refine ⟨_, rfl, _, S.cs.length, rfl, .inr ⟨_, SqT.of h2, by rw [List.length_map, h3.len]⟩, _, _, rfl, rfl, _, rfl, ite2 (fun c => ?_) (fun _ => ?_)⟩
    · have := ok.m4
      have := of_decide_eq_true c
      omega
    -- the loop
    refine ⟨_, rfl, ca, rfl, ⟨_, SqT.of h2⟩, for_tup (K := K) (xs := rs.map V.ref) (fun i σ H' => ∃ y, σ = [some (.ref a), some (vN S.n), some (vN S.s), some (.ref ca), y, none] ∧ Same H H') ⟨none, rfl, Same.refl H⟩ ?_ ?_ ?_⟩
    · rintro i σ H' _ ⟨_, _, sm⟩
      exact SqT.of (sm _ _ h2)
    · rintro i y σ H' hi ⟨z, rfl, sm⟩
      obtain ⟨r, hr1, rfl⟩ := of_map_at hi
      have hlt : i < S.cs.length := by
        have := (List.getElem?_eq_some_iff.mp hr1).1
        have := h3.len
        omega
      have hrow := row_at hlt
      have hT := sm _ _ (h3.at_ i r _ hr1 hrow)
      have hlen : (S.cs.getD i []).length = S.n := ok.row _ (row_mem hlt)
      refine ⟨_, rfl, _, _, _, _, true, rfl, .ty _, .base (.tup hT), kit_ty k_tt, true, rfl, iteF ?_⟩
      refine ⟨_, rfl, _, S.n, rfl, .inr ⟨_, SqT.of hT, by rw [List.length_map, hlen]⟩, _, rfl, rfl, _, rfl, iteNS rfl ?_⟩
      -- all([..])
      refine ⟨_, rfl, r, rfl, ⟨_, SqT.of hT⟩, fun D hD => lc_tup (K := K) (xs := (S.cs.getD i []).map vN) (fun j G => Same H' G ∧ G D = some (.lst ((List.replicate j true).map V.bl))) ?_ ?_ ?_ ?_⟩
      · exact ⟨same_upd hD, upd_same⟩
      · rintro j G _ ⟨sG, _⟩
        exact SqT.of (sG _ _ hT)
      · rintro j x G hj ⟨sG, eG⟩
        obtain ⟨y, hy, rfl⟩ := of_map_at hj
        have hyn : y < S.n := ok.ent _ (row_mem hlt) y (List.mem_of_getElem? hy)
        have hjl : j < S.n := by
          have := (List.getElem?_eq_some_iff.mp hy).1
          omega
        refine ⟨rfl, _, rfl, _, rfl, _, _, rfl, rfl, (y : Int), 0, (S.n : Int) - 1, rfl, _, eG, ?_, ?_, ?_⟩
        · rw [List.length_map, List.length_replicate]
          have := ok.n8
          exact small1000 (by omega)
        · intro b o e
          rw [upd_ne (ne_of_none e hD)]
          exact sG _ _ e
        · rw [upd_same, decide_eq_true (by omega), decide_eq_true (by omega), List.replicate_succ', List.map_append]
          rfl
      · rintro G ⟨sG, eG⟩
        refine ⟨D, _, rfl, SqL.of eG, ?_⟩
        refine ⟨_, rfl, ?_⟩
        rw [all_replicate_true]
        refine iteF ?_
        exact ⟨_, rfl, sm.trans sG⟩
    · rintro σ H' ⟨z, rfl, sm⟩
      exact q H' sm
/-! ### check_system -/
abbrev sCheckSystem : Stmt := top 13
def spCheckSystem : Sp := fun vs H Q _ => ∃ (a : Addr) (S : Sys), vs = [.ref a] ∧ SysAt H a S ∧ ∀ H', Same H H' → Q .non H'
theorem sc_check_system : FnScope ["system"] ["system"] (defScope sCheckSystem) := ⟨rfl, rfl, rfl, by decide +kernel, rfl, by decide +kernel, by decide +kernel⟩
theorem cal_check_system (D : Dfn K mg "check_system" sCheckSystem ["system"]) (c1 : Cal P w K mg base CX0 2 "is_system" spIsSystem) : Cal P w K mg base CX0 3 "check_system" spCheckSystem := by
  refine cal_of D sc_check_system (fun vs H Q E h => ?_) (fun f cdv A outer s H vs Q E hr h => ?_)
  · obtain ⟨a, S, rfl, _⟩ := h
    rfl
  · obtain ⟨a, S, rfl, hS, q⟩ := h
    refine ⟨_, pss_one (ps_if (pt_not (pt_val (pe_k c1 hr (by decide) (by rfl) (pa_cons (pv 0) pa_nil)))) pss_never pss_nil), ?_⟩
    exact ⟨_, rfl, a, S, rfl, hS, fun H' sm => ⟨true, rfl, iteF (q H' sm)⟩⟩
end
end Ub

namespace Ub
open PySem PySem.Spec PyProof.Rows L2
section
variable {P : Program} {w : World} {K : PySem.W.Frag} {mg : Str → Option Value} {base : Heap}
/-! ### reached -/
abbrev sReached : Stmt := top 19
theorem sc_reached : FnScope ["system", "state", "found", "waiting", "here", "command", "later"] ["system", "state"] (defScope sReached) := ⟨rfl, rfl, rfl, by decide +kernel, rfl, by decide +kernel, by decide +kernel⟩
structure ReachedAt (H : Hp) (d : Addr) (S : Sys) (a : Nat) (L : List (Nat × Addr)) : Prop where
  dict : H d = some (.dK (dkOf L))
  nd : (L.map (·.1)).Nodup
  mem : ∀ x, x ∈ L.map (·.1) ↔ Reach S a x
  val : ∀ e ∈ L, ∃ u, H e.2 = some (.tup (u.map vN)) ∧ Wd S u ∧ led S a u = e.1
def spReached : Sp := fun vs H Q _ => ∃ (p : Addr) (S : Sys) (a : Nat), vs = [.ref p, vN a] ∧ SysAt H p S ∧ a < S.n ∧ ∀ H' d L, Same H H' → H d = none → ReachedAt H' d S a L → Q (.ref d) H'
/-- what the search knows of the words -/
def Vals1 (H : Hp) (S : Sys) (a : Nat) (L : List (Nat × Addr)) : Prop := ∀ e ∈ L, ∃ u, H e.2 = some (.tup (u.map vN)) ∧ Wd S u ∧ led S a u = e.1 ∧ u.length < L.length
theorem cal_reached (D : Dfn K mg "reached" sReached ["system", "state"]) (B : Bl mg) (c_step : Cal P w K mg base CX0 1 "step" spStep) : Cal P w K mg base CX0 2 "reached" spReached := by
  refine cal_of D sc_reached (fun vs H Q E h => ?_) (fun f cdv A outer s H vs Q E hr h => ?_)
  · obtain ⟨p, S, a, rfl, _⟩ := h
    rfl
  · obtain ⟨p, S, a, rfl, hS, ha, q⟩ := h
    have ok := hS.ok
    obtain ⟨ca, rs, h1, h2, h3⟩ := hS.num
    refine ⟨_, (pss_cons (ps_set (i := 2) sc_reached.nd rfl (.inl rfl) (pe_disp (pps_cons (pv 1) (pe_tup pa_nil) pps_nil) (by rfl) (by rfl) (fun z => by cases z) (by decide)))
      (pss_cons (ps_set (i := 3) sc_reached.nd rfl (.inl rfl) (pe_lst (pa_cons (pv 1) pa_nil)))
      (pss_cons (ps_while PassesOwn.never (pt_cmpR op_gt (pe_callB (klen K) (by rfl) B.len PySem.boot_len (pa_cons (pv 3) pa_nil)) pe_int (nomark _)) (pss_cons (ps_set (i := 4) sc_reached.nd rfl (.inl rfl) (kbm K PySem.F.plainAttrs_list PySem.F.slot_list_pop PySem.F.type_list_pop mt_popAt (pv 3) (pa_cons pe_int pa_nil)))
      (pss_one (ps_for PassesOwn.never rfl (pi_range1 (by rfl) B.range (pa_cons (pe_callB (klen K) (by rfl) B.len PySem.boot_len (pa_cons (pe_ix (kixT K) (pv 0) pe_int (fun _ _ => rfl)) pa_nil)) pa_nil)) (pg_name (i := 5) sc_reached.nd rfl (.inl rfl)) (pss_cons (ps_set (i := 6) sc_reached.nd rfl (.inl rfl) (pe_k c_step hr (by decide) (by rfl) (pa_cons (pv 0) (pa_cons (pv 4) (pa_cons (pv 5) pa_nil)))))
      (pss_one (ps_if (pt_cmp (pc_dnotin (hu_of hr) (pv 6) (pv 2))) (pss_cons (ps_dput (hu_of hr) (pv 2) (pv 6) (pe_op (kcat K) (pe_dget (hu_of hr) (pv 2) (pv 4) (fun _ _ => rfl)) (pe_tup (pa_cons (pv 5) pa_nil))) rfl)
      (pss_one (ps_expr (kbm K PySem.F.plainAttrs_list PySem.F.slot_list_append PySem.F.type_list_append mt_append (pv 3) (pa_cons (pv 6) pa_nil))))) pss_nil)))))))
      (pss_one (ps_ret (pv 2)))))), ?_⟩
    -- found = {state: ()}
    refine fun d hd => ⟨_, rfl, Nat.zero_le _, fun t0 ht0 => ⟨?_, [(Sum.inl (a : Int), .ref t0)], rfl, (show (1 : Nat) ≤ 15 by decide), ?_⟩⟩
    · rw [upd_ne (ne_of_none upd_same ht0), upd_same]
    -- waiting = [state]
    refine ⟨_, rfl, (show (1 : Nat) ≤ sizeLine by decide), fun wl hwl => ?_⟩
    have sm0 : Same H (upd (upd (upd (upd H d (.dK [])) t0 (.tup [])) d (.dK (mergeK [] [(Sum.inl (a : Int), .ref t0)]))) wl (.lst [vN a])) := by
      refine Same.upd2 (Same.upd2 (Same.upd2 (same_upd hd) ?_) hd) ?_
      · exact (same_upd hd).free ht0
      · exact (Same.upd2 (Same.upd2 (same_upd hd) ((same_upd hd).free ht0)) hd).free hwl
    have hdw : d ≠ wl := ne_of_none (o := .dK (mergeK [] [(Sum.inl (a : Int), .ref t0)])) upd_same hwl
    have htd : t0 ≠ d := (ne_of_none upd_same ht0).symm
    have htw : t0 ≠ wl := ne_of_none (o := .tup []) (by rw [upd_ne htd, upd_same]) hwl
    have hwH : H wl = none := (Same.upd2 (Same.upd2 (same_upd hd) ((same_upd hd).free ht0)) hd).free hwl
    -- the search
    refine ⟨fun mm σ H' => ∃ (L : List (Nat × Addr)) (Wt : List Nat) (y4 y5 y6 : Option V), σ = [some (.ref p), some (vN a), some (.ref d), some (.ref wl), y4, y5, y6] ∧ Same H H' ∧ H' d = some (.dK (dkOf L)) ∧ H' wl = some (.lst (Wt.map vN)) ∧
        BI S.cs.length (step S) a (L.map (·.1)) Wt (fun _ => False) ∧ Vals1 H' S a L ∧ Wt.length ≤ L.length ∧ mm = 2 * (S.n - L.length) + Wt.length,
      ⟨_, [(a, t0)], [a], none, none, none, rfl, sm0, ?_, upd_same, BI.start, ?_, Nat.le_refl _, rfl⟩, ?_⟩
    · rw [upd_ne hdw, upd_same]
      rfl
    · intro e he
      have : e = (a, t0) := by simpa using he
      subst this
      refine ⟨[], ?_, Wd.nil, rfl, (show (0 : Nat) < 1 by decide)⟩
      rw [upd_ne htw, upd_ne htd, upd_same]
      rfl
    · rintro mm σ H' ⟨L, Wt, y4, y5, y6, rfl, sm, hdd, hww, bi, va, hWL, rfl⟩
      -- len(waiting) > 0
      refine ⟨.ref wl, rfl, _, (Wt.map vN).length, rfl, .inl ⟨_, SqL.of hww, rfl⟩, _, _, rfl, rfl, _, rfl, ite2 (fun c => ?_) (fun c => ?_)⟩
      · -- here = waiting.pop(0)
        obtain ⟨x, Wt', rfl⟩ : ∃ x Wt', Wt = x :: Wt' := by
          cases Wt with
          | nil => exact absurd (of_decide_eq_true c) (by show ¬ ((0 : Int) < 0); omega)
          | cons x r => exact ⟨x, r, rfl⟩
        have hxk : x ∈ L.map (·.1) := bi.wt x List.mem_cons_self
        have hxn : x < S.n := bi.lt1 ok ha hxk
        have bi1 := bi.pop
        refine ⟨fun σ' G => ∃ m', m' < 2 * (S.n - L.length) + (x :: Wt').length ∧ ∃ (L : List (Nat × Addr)) (Wt : List Nat) (y4 y5 y6 : Option V), σ' = [some (.ref p), some (vN a), some (.ref d), some (.ref wl), y4, y5, y6] ∧ Same H G ∧ G d = some (.dK (dkOf L)) ∧ G wl = some (.lst (Wt.map vN)) ∧
            BI S.cs.length (step S) a (L.map (·.1)) Wt (fun _ => False) ∧ Vals1 G S a L ∧ Wt.length ≤ L.length ∧ m' = 2 * (S.n - L.length) + Wt.length, fun σ' G hN => hN, ?_⟩
        refine ⟨.ref wl, rfl, .inl ⟨rfl, _, SqL.of hww⟩, wl, _, 0, 0, vN x, rfl, rfl, hww, by decide, by decide, ?_, rfl, ?_⟩
        · rw [List.length_map]
          exact seq0 _
        show (_ : Prop)
        have sm1 : Same H (upd H' wl (.lst (Wt'.map vN))) := Same.upd2 sm hwH
        have hsys1 : SysAt (upd H' wl (.lst (Wt'.map vN))) p S := hS.same sm1
        -- for command in range(len(system[2]))
        refine ⟨.ref p, rfl, p, _, 2, .ref ca, rfl, rfl, SqT.of (sm1 _ _ h1), atI_nat (j := 2) rfl, _, S.cs.length, rfl, .inr ⟨_, SqT.of (sm1 _ _ h2), h3.symm⟩, (S.cs.length : Int), rfl, ?_, ?_,
          for_range (lo := 0) (n := S.cs.length) (fun i σ' G => ∃ (L' : List (Nat × Addr)) (Wt : List Nat) (y5 y6 : Option V), σ' = [some (.ref p), some (vN a), some (.ref d), some (.ref wl), some (vN x), y5, y6] ∧ Same H G ∧ G d = some (.dK (dkOf L')) ∧ G wl = some (.lst (Wt.map vN)) ∧
            BI S.cs.length (step S) a (L'.map (·.1)) Wt (fun y => y = x) ∧ x ∈ L'.map (·.1) ∧ (∀ c, c < i → step S x c ∈ L'.map (·.1)) ∧ Vals1 G S a L' ∧ Wt.length ≤ L'.length ∧ 2 * (S.n - L'.length) + Wt.length + 1 ≤ 2 * (S.n - L.length) + (x :: Wt').length) ?_ ?_ ?_⟩
        · have := ok.m4; omega
        · have := ok.m4; omega
        · refine ⟨L, Wt', y5, y6, rfl, sm1, ?_, upd_same, bi1, hxk, fun c hc => absurd hc (Nat.not_lt_zero _), ?_, Nat.le_of_succ_le hWL, Nat.le_refl _⟩
          · have : d ≠ wl := ne_of hdd hww (fun z => nomatch z)
            rw [upd_ne this]
            exact hdd
          · intro e he
            obtain ⟨u, hu, r⟩ := va e he
            refine ⟨u, ?_, r⟩
            rw [upd_ne (ne_of hu hww (fun z => nomatch z))]
            exact hu
        · rintro i σ' G hi ⟨L', Wt, y5, y6, rfl, smG, hdG, hwG, biG, hxG, clG, vaG, hWG, hm⟩
          rw [Int.zero_add]
          have hsG : SysAt G p S := hS.same smG
          -- later = step(system, here, command)
          refine ⟨_, rfl, _, rfl, _, rfl, p, S, x, i, rfl, hsG, hxn, hi, ?_⟩
          -- if later not in found
          refine ⟨_, rfl, _, rfl, d, _, rfl, DGet.k (k := Sum.inl (step S x i : Int)) hdG, _, rfl, ?_⟩
          by_cases hk : step S x i ∈ L'.map (·.1)
          · obtain ⟨t, ht⟩ := mem_fst hk
            rw [dkOf_some (e := (step S x i, t)) biG.nd ht]
            refine iteF ?_
            refine ⟨L', Wt, some (vN i), some (vN (step S x i)), rfl, smG, hdG, hwG, biG, hxG, fun c hc => ?_, vaG, hWG, hm⟩
            by_cases e : c = i
            · subst e; exact hk
            · exact clG c (by omega)
          · rw [dkOf_none hk]
            refine iteT ?_
            obtain ⟨t, ht⟩ := mem_fst hxG
            obtain ⟨u, hu, wu, lu, nu⟩ := vaG _ ht
            have lu : led S a u = x := lu
            have hLn := biG.len1 ok ha
            rw [List.length_map] at hLn
            have biA := biG.add hxG hi hk
            have hLn' := biA.len1 ok ha
            rw [List.length_append, List.length_map] at hLn'
            have hLn' : L'.length + 1 ≤ S.n := hLn'
            -- found[here] + (command,)
            refine ⟨.ref d, rfl, vN x, rfl, d, .ref t, rfl, ?_, _, rfl, (show (1 : Nat) ≤ sizeLine by decide), fun t2 ht2 => cat_snoc hu (by have := ok.n8; omega) ht2 fun t3 G3 sm3 ht3 => ?_⟩
            · have e := dkOf_some (e := (x, t)) biG.nd ht
              rw [← e]
              exact DGet.k (k := Sum.inl (x : Int)) hdG
            have hd3 := sm3 _ _ hdG
            have hw3 := sm3 _ _ hwG
            -- found[later] = ..
            refine ⟨.ref d, rfl, vN (step S x i), rfl, d, _, rfl, DPut.k (k := Sum.inl (step S x i : Int)) hd3 ?_, ?_⟩
            · rw [dkOf_len]
              have := ok.n8
              exact small1000 (by omega)
            rw [dkOf_put hk]
            have hdw3 : d ≠ wl := ne_of hd3 hw3 (fun z => nomatch z)
            have hw4 : (upd G3 d (.dK (dkOf (L' ++ [(step S x i, t3)])))) wl = some (.lst (Wt.map vN)) := by
              rw [upd_ne hdw3.symm]
              exact hw3
            -- waiting.append(later)
            have hWl : Wt.length ≤ 1000 := by
              have := ok.n8
              omega
            refine ⟨.ref wl, rfl, .inl ⟨rfl, _, SqL.of hw4⟩, vN (step S x i), rfl, wl, _, _, rfl, rfl, hw4, ?_, ?_⟩
            · rw [List.length_map]
              exact small1000 hWl
            refine ⟨L' ++ [(step S x i, t3)], Wt ++ [step S x i], some (vN i), some (vN (step S x i)), rfl, ?_, ?_, ?_, ?_, ?_, ?_, ?_, ?_, ?_⟩
            · exact Same.upd2 (Same.upd2 (smG.trans sm3) hd) hwH
            · rw [upd_ne hdw3, upd_same]
            · rw [upd_same, List.map_append]
              rfl
            · rw [List.map_append]
              exact biA
            · rw [List.map_append]
              exact List.mem_append_left _ hxG
            · intro c hc
              rw [List.map_append]
              by_cases e : c = i
              · subst e
                exact List.mem_append_right _ (by simp)
              · exact List.mem_append_left _ (clG c (by omega))
            · intro e he
              have key : ∀ (b : Addr) (xs : List V), G3 b = some (.tup xs) → (upd (upd G3 d (.dK (dkOf (L' ++ [(step S x i, t3)])))) wl (.lst (Wt.map vN ++ [vN (step S x i)]))) b = some (.tup xs) := fun b xs hb => by
                rw [upd_ne (ne_of hb hw3 (fun z => nomatch z)), upd_ne (ne_of hb hd3 (fun z => nomatch z))]
                exact hb
              rcases List.mem_append.mp he with he | he
              · obtain ⟨v, hv, wv, lv, nv⟩ := vaG e he
                refine ⟨v, key _ _ (sm3 _ _ hv), wv, lv, ?_⟩
                rw [List.length_append]
                exact Nat.lt_of_lt_of_le nv (Nat.le_add_right _ _)
              · have : e = (step S x i, t3) := by simpa using he
                subst this
                refine ⟨u ++ [i], key _ _ ht3, wu.app (.one hi), ?_, ?_⟩
                · rw [led_snoc, lu]
                · rw [List.length_append, List.length_append]
                  show u.length + 1 < L'.length + 1
                  omega
            · rw [List.length_append, List.length_append]
              exact Nat.add_le_add_right hWG 1
            · rw [List.length_append, List.length_append]
              show 2 * (S.n - (L'.length + 1)) + (Wt.length + 1) + 1 ≤ _
              omega
        · rintro σ' G ⟨L', Wt, y5, y6, rfl, smG, hdG, hwG, biG, hxG, clG, vaG, hWG, hm⟩
          exact ⟨_, by omega, L', Wt, _, _, _, rfl, smG, hdG, hwG, biG.close clG, vaG, hWG, rfl⟩
      · -- the end
        have hW : Wt = [] := by
          cases Wt with
          | nil => rfl
          | cons x r =>
            refine absurd (decide_eq_true ?_) c
            show (0 : Int) < _
            rw [List.length_map, List.length_cons]
            omega
        subst hW
        refine ⟨.ref d, rfl, q H' d L sm hd ⟨hdd, bi.nd, fun x => bi.done x, fun e he => ?_⟩⟩
        obtain ⟨u, h1, h2, h3, _⟩ := va e he
        exact ⟨u, h1, h2, h3⟩
end
end Ub

namespace Ub
open PySem PySem.Spec PyProof.Rows L2
section
variable {P : Program} {w : World} {K : PySem.W.Frag} {mg : Str → Option Value} {base : Heap}
/-! ### reachable_of -/
abbrev sReachableOf : Stmt := top 20
theorem sc_reachable_of : FnScope ["system"] ["system"] (defScope sReachableOf) := ⟨rfl, rfl, rfl, by decide +kernel, rfl, by decide +kernel, by decide +kernel⟩
def spReachable : Sp := fun vs H Q _ => ∃ (p : Addr) (S : Sys), vs = [.ref p] ∧ SysAt H p S ∧ ∀ H' t, Same H H' → H t = none → H' t = some (.tup ((states S).map vN)) → Q (.ref t) H'
theorem cal_reachable_of (D : Dfn K mg "reachable_of" sReachableOf ["system"]) (B : Bl mg) (c_reached : Cal P w K mg base CX0 2 "reached" spReached) : Cal P w K mg base CX0 3 "reachable_of" spReachable := by
  refine cal_of D sc_reachable_of (fun vs H Q E h => ?_) (fun f cdv A outer s H vs Q E hr h => ?_)
  · obtain ⟨p, S, rfl, _⟩ := h
    rfl
  · obtain ⟨p, S, rfl, hS, q⟩ := h
    have ok := hS.ok
    obtain ⟨ca, rs, h1, h2, h3⟩ := hS.num
    refine ⟨_, (pss_one (ps_ret (pe_callTy (ktupOf K) (by rfl) B.tuple PyProof.Rows.boot_tuple (pa_cons (pe_callB (call_sortedDI rfl) (by rfl) B.sorted (by decide +kernel) (pa_cons (pe_k c_reached hr (by decide) (by rfl) (pa_cons (pv 0) (pa_cons (pe_ix (kixT K) (pv 0) pe_int (fun _ _ => rfl)) pa_nil))) pa_nil)) pa_nil)))), ?_⟩
    refine ⟨.ref p, rfl, .ref p, rfl, p, _, 1, vN S.s, rfl, rfl, SqT.of h1, atI_nat (j := 1) rfl, p, S, S.s, rfl, hS, ok.s0, fun H' d L sm hd R => ?_⟩
    have hlen : (L.map (·.1)).length ≤ S.n := singles_len R.nd fun x hx => ((R.mem x).mp hx).lt ok ok.s0
    refine ⟨d, _, (L.map (·.1)).map Int.ofNat, rfl, .inl R.dict, ?_, ?_, fun ys t hp hs ht => ?_⟩
    · rw [dkOf_keys, List.map_map, List.map_map, List.map_map]
      rfl
    · have := ok.n8
      rw [List.length_map]
      omega
    · have e := sorted_reach ok ok.s0 hp hs R.nd R.mem
      subst e
      refine ⟨t, _, rfl, SqL.of upd_same, fun l hl => ?_⟩
      have sm1 : Same H (upd H' t (.lst (((reachL S S.s).map Int.ofNat).map V.int))) := sm.trans (same_upd ht)
      refine q _ l (sm1.trans (same_upd hl)) (sm1.free hl) ?_
      rw [upd_same, List.map_map]
      rfl
/-! ### pairs_from -/
abbrev sPairsFrom : Stmt := top 15
theorem sc_pairs_from : FnScope ["system", "one", "other", "found", "waiting", "fresh", "pair", "command", "later"] ["system", "one", "other"] (defScope sPairsFrom) := ⟨rfl, rfl, rfl, by decide +kernel, rfl, by decide +kernel, by decide +kernel⟩
structure PairsD (H : Hp) (d : Addr) (S : Sys) (a b : Nat) (L : List ((Nat × Nat) × V)) : Prop where
  dict : H d = some (.dT (dtOf L))
  nd : (L.map (·.1)).Nodup
  mem : ∀ x, x ∈ L.map (·.1) ↔ PR S a b x
def spPairsFrom : Sp := fun vs H Q _ => ∃ (p : Addr) (S : Sys) (a b : Nat), vs = [.ref p, vN a, vN b] ∧ SysAt H p S ∧ a < S.n ∧ b < S.n ∧ ∀ H' d L, Same H H' → PairsD H' d S a b L → Q (.ref d) H'
def Vals2 (H : Hp) (L : List ((Nat × Nat) × V)) : Prop := ∀ e ∈ L, ∃ (t : Addr) (u : List Nat), e.2 = .ref t ∧ H t = some (.tup (u.map vN)) ∧ u.length < L.length
/-- pairs at their addresses -/
def EAt (H : Hp) (E : List (Addr × (Nat × Nat))) : Prop := ∀ e ∈ E, H e.1 = some (.tup [vN e.2.1, vN e.2.2])
def eV (e : Addr × (Nat × Nat)) : V := .ref e.1
theorem EAt.same {H H' : Hp} {E : List (Addr × (Nat × Nat))} (h : EAt H E) (sm : ∀ b xs, H b = some (.tup xs) → H' b = some (.tup xs)) : EAt H' E := fun e he => sm _ _ (h e he)
theorem Vals2.same {H H' : Hp} {L : List ((Nat × Nat) × V)} (h : Vals2 H L) (sm : ∀ b xs, H b = some (.tup xs) → H' b = some (.tup xs)) : Vals2 H' L := fun e he => by
  obtain ⟨t, u, h1, h2, h3⟩ := h e he
  exact ⟨t, u, h1, sm _ _ h2, h3⟩
theorem cal_pairs_from (D : Dfn K mg "pairs_from" sPairsFrom ["system", "one", "other"]) (B : Bl mg) (c_step : Cal P w K mg base CX0 1 "step" spStep) : Cal P w K mg base CX0 2 "pairs_from" spPairsFrom := by
  refine cal_of D sc_pairs_from (fun vs H Q E h => ?_) (fun f cdv A outer s H vs Q E hr h => ?_)
  · obtain ⟨p, S, a, b, rfl, _⟩ := h
    rfl
  · obtain ⟨p, S, a, b, rfl, hS, ha, hb, q⟩ := h
    have ok := hS.ok
    obtain ⟨ca, rs, h1, h2, h3⟩ := hS.num
    refine ⟨_, (pss_cons (ps_set (i := 3) sc_pairs_from.nd rfl (.inl rfl) (pe_disp1 (hu_of hr) (pe_tup (pa_cons (pv 1) (pa_cons (pv 2) pa_nil))) (pe_tup pa_nil)))
      (pss_cons (ps_set (i := 4) sc_pairs_from.nd rfl (.inl rfl) (pe_lst (pa_cons (pe_tup (pa_cons (pv 1) (pa_cons (pv 2) pa_nil))) pa_nil)))
      (pss_cons (ps_while PassesOwn.never (ktru K (pv 4)) (pss_cons (ps_set (i := 5) sc_pairs_from.nd rfl (.inl rfl) (pe_lst pa_nil))
      (pss_cons (ps_for PassesOwn.never rfl (kpiL K (pv 4)) (pg_name (i := 6) sc_pairs_from.nd rfl (.inl rfl)) (pss_one (ps_for PassesOwn.never rfl (pi_range1 (by rfl) B.range (pa_cons (pe_callB (klen K) (by rfl) B.len PySem.boot_len (pa_cons (pe_ix (kixT K) (pv 0) pe_int (fun _ _ => rfl)) pa_nil)) pa_nil)) (pg_name (i := 7) sc_pairs_from.nd rfl (.inl rfl)) (pss_cons (ps_set (i := 8) sc_pairs_from.nd rfl (.inl rfl) (pe_tup (pa_cons (pe_k c_step hr (by decide) (by rfl) (pa_cons (pv 0) (pa_cons (pe_ix (kixT K) (pv 6) pe_int (fun _ _ => rfl)) (pa_cons (pv 7) pa_nil)))) (pa_cons (pe_k c_step hr (by decide) (by rfl) (pa_cons (pv 0) (pa_cons (pe_ix (kixT K) (pv 6) pe_int (fun _ _ => rfl)) (pa_cons (pv 7) pa_nil)))) pa_nil))))
      (pss_one (ps_if (pt_cmp (pc_dnotin (hu_of hr) (pv 8) (pv 3))) (pss_cons (ps_dput (hu_of hr) (pv 3) (pv 8) (pe_op (kcat K) (pe_dget (hu_of hr) (pv 3) (pv 6) (fun _ _ => rfl)) (pe_tup (pa_cons (pv 7) pa_nil))) rfl)
      (pss_one (ps_expr (kbm K PySem.F.plainAttrs_list PySem.F.slot_list_append PySem.F.type_list_append mt_append (pv 5) (pa_cons (pv 8) pa_nil))))) pss_nil))))))
      (pss_one (ps_set (i := 4) sc_pairs_from.nd rfl (.inl rfl) (pv 5))))))
      (pss_one (ps_ret (pv 3)))))), ?_⟩
    -- found = {(one, other): ()}
    refine fun d hd => ⟨_, rfl, _, rfl, (show (2 : Nat) ≤ sizeLine by decide), fun tk htk => ⟨Nat.zero_le _, fun t0 ht0 => ⟨?_, tk, nkey (a, b), rfl, ?_, ?_⟩⟩⟩
    · rw [upd_ne (ne_of_none (by rw [upd_ne (ne_of_none upd_same htk)]; exact upd_same) ht0), upd_ne (ne_of_none upd_same htk), upd_same]
    · rw [upd_ne (ne_of_none upd_same ht0), upd_same]
      rfl
    -- waiting = [(one, other)]
    have smA : Same H (upd (upd H d (.dT [])) tk (.tup [vN a, vN b])) := Same.upd2 (same_upd hd) ((same_upd hd).free htk)
    have smB : Same H (upd (upd (upd H d (.dT [])) tk (.tup [vN a, vN b])) t0 (.tup [])) := Same.upd2 smA (smA.free ht0)
    have smC : Same H (upd (upd (upd (upd H d (.dT [])) tk (.tup [vN a, vN b])) t0 (.tup [])) d (.dT [(nkey (a, b), .ref t0)])) := Same.upd2 smB hd
    refine ⟨_, rfl, _, rfl, (show (2 : Nat) ≤ sizeLine by decide), fun t1 ht1 => ⟨(show (1 : Nat) ≤ sizeLine by decide), fun wl hwl => ?_⟩⟩
    have smD := Same.upd2 (o := .tup [vN a, vN b]) smC (smC.free ht1)
    have smE := Same.upd2 (o := .lst [V.ref t1]) smD (smD.free hwl)
    have hdt0 : t0 ≠ d := (ne_of_none (by rw [upd_ne (ne_of_none upd_same htk), upd_same]) ht0).symm
    have hdt1 : d ≠ t1 := ne_of_none upd_same ht1
    have ht01 : t0 ≠ t1 := ne_of_none (o := .tup []) (by rw [upd_ne hdt0, upd_same]) ht1
    have hdwl : d ≠ wl := ne_of_none (o := .dT [(nkey (a, b), .ref t0)]) (by rw [upd_ne hdt1, upd_same]) hwl
    have ht0wl : t0 ≠ wl := ne_of_none (o := .tup []) (by rw [upd_ne ht01, upd_ne hdt0, upd_same]) hwl
    have ht1wl : t1 ≠ wl := ne_of_none upd_same hwl
    -- the search
    refine ⟨fun mm σ G => ∃ (wl : Addr) (E : List (Addr × (Nat × Nat))) (L : List ((Nat × Nat) × V)) (y5 y6 y7 y8 : Option V), σ = [some (.ref p), some (vN a), some (vN b), some (.ref d), some (.ref wl), y5, y6, y7, y8] ∧ Same H G ∧ G d = some (.dT (dtOf L)) ∧ G wl = some (.lst (E.map eV)) ∧ EAt G E ∧
        BI S.cs.length (step2 S) (a, b) (L.map (·.1)) (E.map (·.2)) (fun _ => False) ∧ Vals2 G L ∧ mm = 2 * (64 - L.length) + E.length,
      ⟨_, wl, [(t1, (a, b))], [((a, b), .ref t0)], none, none, none, none, rfl, smE, ?_, ?_, ?_, BI.start, ?_, rfl⟩, ?_⟩
    · rw [upd_ne hdwl, upd_ne hdt1, upd_same]
      rfl
    · exact upd_same
    · intro e he
      have : e = (t1, (a, b)) := by simpa using he
      subst this
      rw [upd_ne ht1wl]
      exact upd_same
    · intro e he
      have : e = ((a, b), .ref t0) := by simpa using he
      subst this
      refine ⟨t0, [], rfl, ?_, (show (0 : Nat) < 1 by decide)⟩
      rw [upd_ne ht0wl, upd_ne ht01, upd_ne hdt0, upd_same]
      rfl
    · rintro mm σ G ⟨wl, E, L, y5, y6, y7, y8, rfl, sm, hdd, hww, hE, bi, va, rfl⟩
      refine ⟨.ref wl, rfl, _, .inl ⟨_, SqL.of hww, rfl⟩, ?_⟩
      cases E with
      | nil =>
        refine iteF ?_
        exact ⟨.ref d, rfl, q G d L sm ⟨hdd, bi.nd, fun x => (bi.done x).trans pr_iff.symm⟩⟩
      | cons e0 E0 =>
        refine iteT ?_
        refine ⟨fun σ' G' => ∃ m', m' < 2 * (64 - L.length) + (e0 :: E0).length ∧ ∃ (wl : Addr) (E : List (Addr × (Nat × Nat))) (L : List ((Nat × Nat) × V)) (y5 y6 y7 y8 : Option V), σ' = [some (.ref p), some (vN a), some (vN b), some (.ref d), some (.ref wl), y5, y6, y7, y8] ∧ Same H G' ∧ G' d = some (.dT (dtOf L)) ∧ G' wl = some (.lst (E.map eV)) ∧ EAt G' E ∧
            BI S.cs.length (step2 S) (a, b) (L.map (·.1)) (E.map (·.2)) (fun _ => False) ∧ Vals2 G' L ∧ m' = 2 * (64 - L.length) + E.length, fun σ' G' hN => hN, ?_⟩
        generalize hEE : e0 :: E0 = E at hww hE bi ⊢
        have hE1 : 1 ≤ E.length := by rw [← hEE, List.length_cons]; omega
        clear hEE e0 E0
        -- fresh = []
        refine ⟨Nat.zero_le _, fun fr hfr => ?_⟩
        have smF : Same G (upd G fr (.lst [])) := same_upd hfr
        have hfrH : H fr = none := sm.free hfr
        have hwf : wl ≠ fr := ne_of_none hww hfr
        -- for pair in waiting
        refine ⟨.ref wl, rfl, wl, rfl, ⟨_, SqL.of (smF _ _ hww)⟩, for_list (K := K) (xs := E.map eV) (fun j σ' G' => ∃ (F : List (Addr × (Nat × Nat))) (L' : List ((Nat × Nat) × V)) (y6 y7 y8 : Option V), σ' = [some (.ref p), some (vN a), some (vN b), some (.ref d), some (.ref wl), some (.ref fr), y6, y7, y8] ∧ Same H G' ∧ G' d = some (.dT (dtOf L')) ∧ G' wl = some (.lst (E.map eV)) ∧ G' fr = some (.lst (F.map eV)) ∧ EAt G' E ∧ EAt G' F ∧
            BI S.cs.length (step2 S) (a, b) (L'.map (·.1)) ((E.drop j).map (·.2) ++ F.map (·.2)) (fun _ => False) ∧ Vals2 G' L' ∧ L'.length = L.length + F.length) ?_ ?_ ?_ ?_⟩
        · refine ⟨[], L, y6, y7, y8, rfl, sm.trans smF, smF _ _ hdd, smF _ _ hww, upd_same, hE.same fun b xs h => smF _ _ h, (fun e he => nomatch he), ?_, va.same fun b xs h => smF _ _ h, rfl⟩
          rw [List.drop_zero, List.map_nil, List.append_nil]
          exact bi
        · rintro j σ' G' _ ⟨F, L', y6, y7, y8, _, _, _, hw', _⟩
          exact SqL.of hw'
        · rintro j x σ' G' hj ⟨F, L', y6, y7, y8, rfl, smG, hdG, hwG, hfG, hEG, hFG, biG, vaG, hln⟩
          obtain ⟨⟨ea, x1, x2⟩, he, rfl⟩ := of_map_at hj
          have hjl : j < E.length := (List.getElem?_eq_some_iff.mp he).1
          have hmem := List.mem_of_getElem? he
          have hT := hEG _ hmem
          have hT : G' ea = some (.tup [vN x1, vN x2]) := hT
          have hdrop : E.drop j = (ea, (x1, x2)) :: E.drop (j + 1) := by
            rw [List.drop_eq_getElem_cons hjl]
            congr 1
            exact Option.some.inj ((List.getElem?_eq_getElem hjl).symm.trans he)
          rw [hdrop] at biG
          have hxk : (x1, x2) ∈ L'.map (·.1) := biG.wt _ (List.mem_append_left _ List.mem_cons_self)
          have hxn := biG.lt2 ok ha hb hxk
          have hx1 : x1 < S.n := hxn.1
          have hx2 : x2 < S.n := hxn.2
          have bi1 := biG.pop
          -- for command in range(len(system[2]))
          refine ⟨.ref p, rfl, p, _, 2, .ref ca, rfl, rfl, SqT.of (smG _ _ h1), atI_nat (j := 2) rfl, _, S.cs.length, rfl, .inr ⟨_, SqT.of (smG _ _ h2), h3.symm⟩, (S.cs.length : Int), rfl, ?_, ?_,
            for_range (lo := 0) (n := S.cs.length) (fun i σ' G' => ∃ (F : List (Addr × (Nat × Nat))) (L' : List ((Nat × Nat) × V)) (y7 y8 : Option V), σ' = [some (.ref p), some (vN a), some (vN b), some (.ref d), some (.ref wl), some (.ref fr), some (.ref ea), y7, y8] ∧ Same H G' ∧ G' d = some (.dT (dtOf L')) ∧ G' wl = some (.lst (E.map eV)) ∧ G' fr = some (.lst (F.map eV)) ∧ EAt G' E ∧ EAt G' F ∧
              BI S.cs.length (step2 S) (a, b) (L'.map (·.1)) ((E.drop (j + 1)).map (·.2) ++ F.map (·.2)) (fun y => y = (x1, x2)) ∧ (x1, x2) ∈ L'.map (·.1) ∧ (∀ c, c < i → step2 S (x1, x2) c ∈ L'.map (·.1)) ∧ Vals2 G' L' ∧ L'.length = L.length + F.length) ?_ ?_ ?_⟩
          · have := ok.m4; omega
          · have := ok.m4; omega
          · exact ⟨F, L', y7, y8, rfl, smG, hdG, hwG, hfG, hEG, hFG, bi1, hxk, fun c hc => absurd hc (Nat.not_lt_zero _), vaG, hln⟩
          · rintro i σ' G' hi ⟨F, L', y7, y8, rfl, smG, hdG, hwG, hfG, hEG, hFG, biG, hxk, clG, vaG, hln⟩
            rw [Int.zero_add]
            have hT : G' ea = some (.tup [vN x1, vN x2]) := hEG _ hmem
            have hsG : SysAt G' p S := hS.same smG
            -- later = (step(..), step(..))
            refine ⟨_, rfl, .ref ea, rfl, ea, _, 0, vN x1, rfl, rfl, SqT.of hT, atI_nat (j := 0) rfl, _, rfl, p, S, x1, i, rfl, hsG, hx1, hi, ?_⟩
            refine ⟨_, rfl, .ref ea, rfl, ea, _, 1, vN x2, rfl, rfl, SqT.of hT, atI_nat (j := 1) rfl, _, rfl, p, S, x2, i, rfl, hsG, hx2, hi, ?_⟩
            refine ⟨(show (2 : Nat) ≤ sizeLine by decide), fun tl htl => ?_⟩
            have smT : Same G' (upd G' tl (.tup [vN (step S x1 i), vN (step S x2 i)])) := same_upd htl
            have hdT := smT _ _ hdG
            -- if later not in found
            refine ⟨.ref tl, rfl, .ref d, rfl, d, _, rfl, DGet.t (k := nkey (step2 S (x1, x2) i)) hdT upd_same, _, rfl, ?_⟩
            by_cases hk : step2 S (x1, x2) i ∈ L'.map (·.1)
            · obtain ⟨t, ht⟩ := mem_fst hk
              rw [dtOf_some (e := (step2 S (x1, x2) i, t)) biG.nd ht]
              refine iteF ?_
              refine ⟨F, L', some (vN i), some (.ref tl), rfl, smG.trans smT, hdT, smT _ _ hwG, smT _ _ hfG, hEG.same fun b xs h => smT _ _ h, hFG.same fun b xs h => smT _ _ h, biG, hxk, fun c hc => ?_, vaG.same fun b xs h => smT _ _ h, hln⟩
              by_cases e : c = i
              · subst e; exact hk
              · exact clG c (by omega)
            · rw [dtOf_none hk]
              refine iteT ?_
              obtain ⟨v, hv⟩ := mem_fst hxk
              obtain ⟨t, u, rfl, hu, nu⟩ := vaG _ hv
              have biA := biG.add hxk hi hk
              have hLn := biA.len2 ok ha hb
              rw [List.length_append, List.length_map] at hLn
              have hLn : L'.length + 1 ≤ 64 := hLn
              -- found[pair] + (command,)
              refine ⟨.ref d, rfl, .ref ea, rfl, d, .ref t, rfl, ?_, _, rfl, (show (1 : Nat) ≤ sizeLine by decide), fun t2 ht2 => cat_snoc (smT _ _ hu) (by omega) ht2 fun t3 G3 sm3 ht3 => ?_⟩
              · have e := dtOf_some (e := ((x1, x2), V.ref t)) biG.nd hv
                rw [← e]
                exact DGet.t (k := nkey (x1, x2)) hdT (smT _ _ hT)
              have hd3 := sm3 _ _ hdT
              have hf3 := sm3 _ _ (smT _ _ hfG)
              have htl3 := sm3 _ _ (upd_same (H := G') (a := tl) (o := .tup [vN (step S x1 i), vN (step S x2 i)]))
              -- found[later] = ..
              refine ⟨.ref d, rfl, .ref tl, rfl, d, _, rfl, DPut.t (k := nkey (step2 S (x1, x2) i)) hd3 htl3 ?_, ?_⟩
              · rw [dtOf_len]
                exact small1000 (by omega)
              rw [dtOf_put hk]
              have hdf3 : d ≠ fr := ne_of hd3 hf3 (fun z => nomatch z)
              have hf4 : (upd G3 d (.dT (dtOf (L' ++ [(step2 S (x1, x2) i, V.ref t3)])))) fr = some (.lst (F.map eV)) := by
                rw [upd_ne hdf3.symm]
                exact hf3
              -- fresh.append(later)
              refine ⟨.ref fr, rfl, .inl ⟨rfl, _, SqL.of hf4⟩, .ref tl, rfl, fr, _, _, rfl, rfl, hf4, ?_, ?_⟩
              · rw [List.length_map]
                exact small1000 (by omega)
              have key : ∀ (b : Addr) (xs : List V), G3 b = some (.tup xs) → (upd (upd G3 d (.dT (dtOf (L' ++ [(step2 S (x1, x2) i, V.ref t3)])))) fr (.lst (F.map eV ++ [.ref tl]))) b = some (.tup xs) := fun b xs hb => by
                rw [upd_ne (ne_of hb hf3 (fun z => nomatch z)), upd_ne (ne_of hb hd3 (fun z => nomatch z))]
                exact hb
              have keyG : ∀ (b : Addr) (xs : List V), G' b = some (.tup xs) → (upd (upd G3 d (.dT (dtOf (L' ++ [(step2 S (x1, x2) i, V.ref t3)])))) fr (.lst (F.map eV ++ [.ref tl]))) b = some (.tup xs) := fun b xs hb => key b xs (sm3 _ _ (smT _ _ hb))
              refine ⟨F ++ [(tl, step2 S (x1, x2) i)], L' ++ [(step2 S (x1, x2) i, V.ref t3)], some (vN i), some (.ref tl), rfl, ?_, ?_, ?_, ?_, ?_, ?_, ?_, ?_, ?_, ?_, ?_⟩
              · exact Same.upd2 (Same.upd2 ((smG.trans smT).trans sm3) hd) hfrH
              · rw [upd_ne hdf3, upd_same]
              · rw [upd_ne (ne_of_none hww hfr), upd_ne (ne_of (sm3 _ _ (smT _ _ hwG)) hd3 (fun z => nomatch z))]
                exact sm3 _ _ (smT _ _ hwG)
              · rw [upd_same, List.map_append]
                rfl
              · exact hEG.same keyG
              · intro e he
                rcases List.mem_append.mp he with he | he
                · exact keyG _ _ (hFG e he)
                · have : e = (tl, step2 S (x1, x2) i) := by simpa using he
                  subst this
                  exact key _ _ htl3
              · rw [List.map_append, List.map_append, ← List.append_assoc]
                exact biA
              · rw [List.map_append]
                exact List.mem_append_left _ hxk
              · intro c hc
                rw [List.map_append]
                by_cases e : c = i
                · subst e
                  exact List.mem_append_right _ (by simp)
                · exact List.mem_append_left _ (clG c (by omega))
              · intro e he
                rcases List.mem_append.mp he with he | he
                · obtain ⟨t', v, ev, hv, nv⟩ := vaG e he
                  refine ⟨t', v, ev, keyG _ _ hv, ?_⟩
                  rw [List.length_append]
                  exact Nat.lt_of_lt_of_le nv (Nat.le_add_right _ _)
                · have : e = (step2 S (x1, x2) i, V.ref t3) := by simpa using he
                  subst this
                  refine ⟨t3, u ++ [i], rfl, key _ _ ht3, ?_⟩
                  rw [List.length_append, List.length_append]
                  show u.length + 1 < L'.length + 1
                  omega
              · rw [List.length_append, List.length_append, hln]
                rfl
          · rintro σ' G' ⟨F, L', y7, y8, rfl, smG, hdG, hwG, hfG, hEG, hFG, biG, hxk, clG, vaG, hln⟩
            exact ⟨F, L', _, _, _, rfl, smG, hdG, hwG, hfG, hEG, hFG, biG.close clG, vaG, hln⟩
        · rintro σ' G' ⟨F, L', y6, y7, y8, rfl, smG, hdG, hwG, hfG, hEG, hFG, biG, vaG, hln⟩
          rw [List.length_map, List.drop_length, List.map_nil, List.nil_append] at biG
          have h64 := biG.len2 ok ha hb
          rw [List.length_map] at h64
          refine ⟨.ref fr, rfl, 2 * (64 - L'.length) + F.length, by omega, fr, F, L', some (.ref fr), y6, y7, y8, rfl, smG, hdG, hfG, hFG, biG, vaG, rfl⟩
end
end Ub

namespace Ub
open PySem PySem.Spec PyProof.Rows L2
/-- pairs of naturals as ints -/
def pint (p : Nat × Nat) : Int × Int := ((p.1 : Int), (p.2 : Int))
theorem paired_map {α β : Type} {f : α → β} : ∀ l : List α, Paired (fun (q : β) (x : α) => q = f x) (l.map f) l
  | [] => .nil
  | _ :: l => .cons rfl (paired_map l)
theorem of_paired_map {α β : Type} {f : α → β} : ∀ {qs : List β} {l : List α}, Paired (fun (q : β) (x : α) => q = f x) qs l → qs = l.map f
  | _, _, .nil => rfl
  | _, _, .cons h t => by rw [List.map_cons, of_paired_map t, h]
theorem perm_map_back {α β : Type} {f : α → β} {qs : List β} {l : List α} (p : qs.Perm (l.map f)) : ∃ l' : List α, l'.Perm l ∧ qs = l'.map f := by
  obtain ⟨l', h1, h2⟩ := paired_perm p (paired_map l)
  exact ⟨l', h1, of_paired_map h2⟩
/-- the counterparts by the list of the pairs -/
def cpRow (ns : List (Nat × Nat)) (i : Nat) : List Nat := (ns.filter fun p => p.1 == i).map (·.2)
def cpRows (ns : List (Nat × Nat)) (n : Nat) : List (List Nat) := (List.range n).map (cpRow ns)
theorem nodup_cpRow {ns : List (Nat × Nat)} (h : ns.Nodup) (i : Nat) : (cpRow ns i).Nodup := by
  refine nodup_map_on (h.filter _) fun x hx y hy e => ?_
  have h1 := (List.mem_filter.mp hx).2
  have h2 := (List.mem_filter.mp hy).2
  have h1 : x.1 = i := by simpa using h1
  have h2 : y.1 = i := by simpa using h2
  exact Prod.ext (h1.trans h2.symm) e
theorem mem_cpRow {ns : List (Nat × Nat)} {i y : Nat} : y ∈ cpRow ns i ↔ (i, y) ∈ ns := by
  unfold cpRow
  rw [List.mem_map]
  constructor
  · rintro ⟨⟨a, b⟩, h, rfl⟩
    obtain ⟨h1, h2⟩ := List.mem_filter.mp h
    have : a = i := by simpa using h2
    exact this ▸ h1
  · intro h
    exact ⟨(i, y), List.mem_filter.mpr ⟨h, by simp⟩, rfl⟩
theorem rowsOf_cp {S : Sys} {a b : Nat} {ns : List (Nat × Nat)} (hn : ns.Nodup) (hm : ∀ x, x ∈ ns ↔ PR S a b x) : RowsOf S a b (cpRows ns S.n) := by
  refine ⟨by rw [cpRows, List.length_map, List.length_range], fun i l h => ?_, fun i l h y => ?_⟩
  · obtain ⟨x, hx, rfl⟩ := of_map_at h
    exact nodup_cpRow hn _
  · obtain ⟨x, hx, rfl⟩ := of_map_at h
    have : x = i := by
      rw [List.getElem?_range (by
        have := (List.getElem?_eq_some_iff.mp hx).1
        rwa [List.length_range] at this)] at hx
      exact (Option.some.inj hx).symm
    subst this
    rw [mem_cpRow, hm]
theorem cpRow_take {ns : List (Nat × Nat)} {i k : Nat} {p : Nat × Nat} (h : ns[k]? = some p) : cpRow (ns.take (k + 1)) i = if p.1 = i then cpRow (ns.take k) i ++ [p.2] else cpRow (ns.take k) i := by
  unfold cpRow
  rw [List.take_add_one, h, List.filter_append, List.map_append]
  by_cases e : p.1 = i
  · rw [if_pos e]
    simp [e]
  · rw [if_neg e]
    simp [e]
theorem cpRow_len {ns : List (Nat × Nat)} {i : Nat} : (cpRow ns i).length ≤ ns.length := by
  unfold cpRow
  rw [List.length_map]
  exact List.length_filter_le _ _
theorem cpRows_succ (ns : List (Nat × Nat)) (i : Nat) : cpRows ns (i + 1) = cpRows ns i ++ [cpRow ns i] := by
  unfold cpRows
  rw [List.range_succ, List.map_append]
  rfl
theorem RowsAt.snoc {H H' : Hp} {rs : List Addr} {cs : List (List Nat)} {r : Addr} {row : List Nat} (h : RowsAt H rs cs) (sm : ∀ b xs, H b = some (.tup xs) → H' b = some (.tup xs)) (hr : H' r = some (.tup (row.map vN))) : RowsAt H' (rs ++ [r]) (cs ++ [row]) := by
  refine ⟨by rw [List.length_append, List.length_append, h.len]; rfl, fun i r' row' h1 h2 => ?_⟩
  by_cases hi : i < rs.length
  · rw [List.getElem?_append_left hi] at h1
    rw [List.getElem?_append_left (by rw [← h.len]; exact hi)] at h2
    exact sm _ _ (h.at_ i r' row' h1 h2)
  · have e : i = rs.length := by
      have := (List.getElem?_eq_some_iff.mp h1).1
      rw [List.length_append] at this
      have : i < rs.length + 1 := this
      omega
    subst e
    have h1' : r = r' := by simpa using h1
    have h2' : row = row' := by
      rw [h.len] at h2
      simpa using h2
    subst h1' h2'
    exact hr
theorem PairsAt.get {H : Hp} : ∀ {bs : List Addr} {qs : List (Int × Int)}, PairsAt H bs qs → ∀ {k : Nat} {b : Addr}, bs[k]? = some b → ∃ q, qs[k]? = some q ∧ H b = some (.tup [.int q.1, .int q.2])
  | _, _, .nil, _, _, h => by simp at h
  | _, _, .cons h _, 0, _, e => by
    have e := Option.some.inj e
    subst e
    exact ⟨_, rfl, h⟩
  | _, _, .cons _ t, k + 1, b, e => PairsAt.get t (k := k) (b := b) e
theorem PairsAt.len {H : Hp} {bs : List Addr} {qs : List (Int × Int)} (h : PairsAt H bs qs) : bs.length = qs.length := Paired.length h
theorem PairsAt.same {H H' : Hp} {bs : List Addr} {qs : List (Int × Int)} (h : PairsAt H bs qs) (sm : ∀ b xs, H b = some (.tup xs) → H' b = some (.tup xs)) : PairsAt H' bs qs := Paired.mapP h fun _ _ q => sm _ _ q
section
variable {P : Program} {w : World} {K : PySem.W.Frag} {mg : Str → Option Value} {base : Heap}
/-! ### counterparts_of -/
abbrev sCounterpartsOf : Stmt := top 16
theorem sc_counterparts_of : FnScope ["system", "one", "other", "found", "first", "second", "state"] ["system", "one", "other"] (defScope sCounterpartsOf) := ⟨rfl, rfl, rfl, by decide +kernel, rfl, by decide +kernel, by decide +kernel⟩
def spCounterparts : Sp := fun vs H Q _ => ∃ (p : Addr) (S : Sys) (a b : Nat), vs = [.ref p, vN a, vN b] ∧ SysAt H p S ∧ a < S.n ∧ b < S.n ∧ ∀ H' t rs R, Same H H' → H' t = some (.lst (rs.map V.ref)) → RowsAt H' rs R → RowsOf S a b R → Q (.ref t) H'
theorem cal_counterparts_of (D : Dfn K mg "counterparts_of" sCounterpartsOf ["system", "one", "other"]) (B : Bl mg) (c_pairs_from : Cal P w K mg base CX0 2 "pairs_from" spPairsFrom) (c_states_of : Cal P w K mg base CX0 1 "states_of" spStatesOf) : Cal P w K mg base CX0 3 "counterparts_of" spCounterparts := by
  refine cal_of D sc_counterparts_of (fun vs H Q E h => ?_) (fun f cdv A outer s H vs Q E hr h => ?_)
  · obtain ⟨p, S, a, b, rfl, _⟩ := h
    rfl
  · obtain ⟨p, S, a, b, rfl, hS, ha, hb, q⟩ := h
    have ok := hS.ok
    refine ⟨_, (pss_cons (ps_set (i := 3) sc_counterparts_of.nd rfl (.inr rfl) (pe_callB csortDT (by rfl) B.sorted (by decide +kernel) (pa_cons (pe_k c_pairs_from hr (by decide) (by rfl) (pa_cons (pv 0) (pa_cons (pv 1) (pa_cons (pv 2) pa_nil)))) pa_nil)))
      (pss_one (ps_ret (pe_lc (own := [("state", 6)]) (g := (gName 6)) (tt := tYes) rfl sc_counterparts_of.nd (kpiL K (pe_k c_states_of hr (by decide) (by rfl) (pa_cons (pv 0) pa_nil))) (blkOk_by (N := ["system", "one", "other", "found", "first", "second", "state"]) (sc := defScope sCounterpartsOf) (by decide +kernel)) (fun _ _ _ _ _ => (pg_name (i := 6) sc_counterparts_of.nd rfl (.inr rfl))) (fun _ _ _ _ _ => pts_nil) (fun _ _ _ _ _ => (pe_callTy (ktupOf K) (by rfl) B.tuple PyProof.Rows.boot_tuple (pa_cons (pe_lc (own := [("first", 4), ("second", 5)]) (g := (gTup K 2 (gCons (gName 4) (gCons (gName 5) gNil)))) rfl sc_counterparts_of.nd (kpiL K (pv 3)) (blkOk_by (N := ["system", "one", "other", "found", "first", "second", "state"]) (sc := relS (xScope (xRet (xAt (defBody sCounterpartsOf) 1))) (defScope sCounterpartsOf)) (by decide +kernel)) (fun _ _ _ _ _ => (kgT K rfl (pgs_cons (pg_name (i := 4) sc_counterparts_of.nd rfl (.inl rfl)) (pgs_cons (pg_name (i := 5) sc_counterparts_of.nd rfl (.inl rfl)) pgs_nil)))) (fun _ _ _ _ _ => pts_one (pt_cmpR op_eq (pv 4) (pv 6) (nomark _))) (fun _ _ _ _ _ => (pv 5))) pa_nil))))))), ?_⟩
    -- found = sorted(pairs_from(..))
    refine ⟨.ref p, rfl, _, rfl, _, rfl, p, S, a, b, rfl, hS, ha, hb, fun H1 d L sm1 PD => ?_⟩
    refine ⟨d, _, (L.map (fun (e : (Nat × Nat) × V) => e.1)).map pint, rfl, PD.dict, dtOf_keys L, fun bs qs t hperm hP ht => ?_⟩
    obtain ⟨ns, hns, rfl⟩ := perm_map_back hperm
    have hnd : ns.Nodup := hns.nodup_iff.mpr PD.nd
    have hmem : ∀ x, x ∈ ns ↔ PR S a b x := fun x => hns.mem_iff.trans (PD.mem x)
    have hlen64 : ns.length ≤ 64 := Nat.le_trans (pairs_len hnd fun x hx => ((hmem x).mp hx).lt ok ha hb) (sq8 ok.n8)
    have hbl : bs.length = ns.length := by rw [hP.len, List.length_map]
    have sm2 : Same H (upd H1 t (.lst (bs.map V.ref))) := sm1.trans (same_upd ht)
    have hP2 : PairsAt (upd H1 t (.lst (bs.map V.ref))) bs (ns.map pint) := hP.same fun b xs e => same_upd ht _ _ e
    have ht2 : (upd H1 t (.lst (bs.map V.ref))) t = some (.lst (bs.map V.ref)) := upd_same
    generalize upd H1 t (.lst (bs.map V.ref)) = H2 at sm2 hP2 ht2 ⊢
    -- the comprehension over states_of(system)
    refine ⟨.ref p, rfl, p, S, rfl, hS.same sm2, fun la hla => ⟨la, rfl, ⟨_, SqL.of upd_same⟩, fun D hD => lc_list (K := K) (a := la) (xs := (List.range S.n).map vN)
      (fun i G => Same (upd H2 la (.lst ((List.range S.n).map vN))) G ∧ ∃ rs : List Addr, G D = some (.lst (rs.map V.ref)) ∧ RowsAt G rs (cpRows ns i)) ?_ ?_ ?_ ?_⟩⟩
    · exact ⟨same_upd hD, [], upd_same, rfl, fun i r row h => by simp at h⟩
    · rintro i G _ ⟨sG, _⟩
      exact SqL.of (sG _ _ upd_same)
    · rintro i x G hi ⟨sG, rs, hGD, hR⟩
      obtain ⟨y, hy, rfl⟩ := of_map_at hi
      have hin : i < S.n := by
        have := (List.getElem?_eq_some_iff.mp hy).1
        rwa [List.length_range] at this
      obtain rfl : y = i := by
        rw [List.getElem?_range hin] at hy
        exact (Option.some.inj hy).symm
      have smG : Same H2 G := (same_upd hla).trans sG
      have htG := smG _ _ ht2
      have hPG := hP2.same fun b xs e => smG _ _ e
      -- tuple([second for first, second in found if first == state])
      refine ⟨rfl, ⟨.ref t, rfl, t, rfl, ⟨_, SqL.of htG⟩, fun D2 hD2 => lc_list (K := K) (a := t) (xs := bs.map V.ref) (fun k G2 => Same G G2 ∧ G2 D2 = some (.lst ((cpRow (ns.take k) y).map vN))) ?_ ?_ ?_ ?_⟩⟩
      · refine ⟨same_upd hD2, ?_⟩
        rw [upd_same]
        rfl
      · rintro k G2 _ ⟨s2, _⟩
        exact SqL.of (s2 _ _ htG)
      · rintro k x G2 hk ⟨s2, h2⟩
        obtain ⟨b1, hb1, rfl⟩ := of_map_at hk
        obtain ⟨q1, hq1, hT⟩ := hPG.get hb1
        obtain ⟨⟨x1, x2⟩, hx, rfl⟩ := of_map_at hq1
        have hT2 : G2 b1 = some (.tup [vN x1, vN x2]) := s2 _ _ hT
        refine ⟨b1, _, rfl, SqT.of hT2, rfl, _, _, rfl, _, _, rfl, rfl, rfl, ?_⟩
        refine ⟨_, rfl, _, rfl, rfl, _, rfl, ?_⟩
        have hrow := cpRow_take (i := y) hx
        by_cases e : x1 = y
        · subst e
          rw [decide_eq_true rfl]
          refine iteT ⟨_, rfl, _, h2, ?_, ?_, ?_⟩
          · rw [List.length_map]
            have h3 := cpRow_len (ns := ns.take k) (i := x1)
            have h4 := List.length_take_le k ns
            have h5 : (ns.take k).length ≤ ns.length := by rw [List.length_take]; exact Nat.min_le_right _ _
            exact small1000 (by omega)
          · exact Same.upd2 s2 hD2
          · rw [upd_same, hrow, if_pos rfl, List.map_append]
            rfl
        · rw [decide_eq_false (fun z => e (by have := V.int.inj z; omega))]
          refine iteF ⟨s2, ?_⟩
          rw [hrow, if_neg e]
          exact h2
      · rintro G2 ⟨s2, h2⟩
        rw [List.length_map, hbl, List.take_length] at h2
        refine ⟨D2, _, rfl, SqL.of h2, fun r hr2 => ?_⟩
        have s3 : Same G (upd G2 r (.tup ((cpRow ns y).map vN))) := s2.trans (same_upd hr2)
        refine ⟨_, s3 _ _ hGD, ?_, ?_, rs ++ [r], ?_, ?_⟩
        · rw [List.length_map, hR.len, cpRows, List.length_map, List.length_range]
          have := ok.n8
          exact small1000 (by omega)
        · exact Same.upd2 (sG.trans s3) hD
        · rw [upd_same, List.map_append]
          rfl
        · rw [cpRows_succ]
          have key : ∀ (b : Addr) (xs : List V), (upd G2 r (.tup ((cpRow ns y).map vN))) b = some (.tup xs) → (upd (upd G2 r (.tup ((cpRow ns y).map vN))) D (.lst (rs.map V.ref ++ [.ref r]))) b = some (.tup xs) := fun b xs e => by
            rw [upd_ne (ne_of e (s3 _ _ hGD) (fun z => nomatch z))]
            exact e
          exact hR.snoc (fun b xs e => key _ _ (s3 _ _ e)) (key _ _ upd_same)
    · rintro G ⟨sG, rs, hGD, hR⟩
      rw [List.length_map, List.length_range] at hR
      exact q G D rs _ (sm2.trans ((same_upd hla).trans sG)) hGD hR (rowsOf_cp hnd hmem)
/-! ### determines -/
open Classical in
noncomputable def detB (S : Sys) (a b : Nat) : Bool := decide (Det S a b)
open Classical in
theorem detB_true {S : Sys} {a b : Nat} (h : Det S a b) : detB S a b = true := decide_eq_true h
open Classical in
theorem detB_false {S : Sys} {a b : Nat} (h : ¬ Det S a b) : detB S a b = false := decide_eq_false h
abbrev sDetermines : Stmt := top 17
theorem sc_determines : FnScope ["system", "one", "other", "row"] ["system", "one", "other"] (defScope sDetermines) := ⟨rfl, rfl, rfl, by decide +kernel, rfl, by decide +kernel, by decide +kernel⟩
def spDetermines : Sp := fun vs H Q _ => ∃ (p : Addr) (S : Sys) (a b : Nat), vs = [.ref p, vN a, vN b] ∧ SysAt H p S ∧ a < S.n ∧ b < S.n ∧ ∀ H', Same H H' → Q (.bl (detB S a b)) H'
theorem cal_determines (D : Dfn K mg "determines" sDetermines ["system", "one", "other"]) (B : Bl mg) (c_counterparts_of : Cal P w K mg base CX0 3 "counterparts_of" spCounterparts) : Cal P w K mg base CX0 4 "determines" spDetermines := by
  refine cal_of D sc_determines (fun vs H Q E h => ?_) (fun f cdv A outer s H vs Q E hr h => ?_)
  · obtain ⟨p, S, a, b, rfl, _⟩ := h
    rfl
  · obtain ⟨p, S, a, b, rfl, hS, ha, hb, q⟩ := h
    have ok := hS.ok
    refine ⟨_, (pss_one (ps_ret (pe_cmpR op_eq (pe_callB (kmax K) (by rfl) B.max (by decide +kernel) (pa_cons (pe_lc (own := [("row", 3)]) (g := (gName 3)) (tt := tYes) rfl sc_determines.nd (kpiL K (pe_k c_counterparts_of hr (by decide) (by rfl) (pa_cons (pv 0) (pa_cons (pv 1) (pa_cons (pv 2) pa_nil))))) (blkOk_by (N := ["system", "one", "other", "row"]) (sc := defScope sDetermines) (by decide +kernel)) (fun _ _ _ _ _ => (pg_name (i := 3) sc_determines.nd rfl (.inl rfl))) (fun _ _ _ _ _ => pts_nil) (fun _ _ _ _ _ => (pe_callB (klen K) (by rfl) B.len PySem.boot_len (pa_cons (pv 3) pa_nil)))) pa_nil)) pe_int (nomark _)))), ?_⟩
    refine ⟨.ref p, rfl, _, rfl, _, rfl, p, S, a, b, rfl, hS, ha, hb, fun H1 t rs R sm1 ht hR RO => ⟨t, rfl, ⟨_, SqL.of ht⟩, fun D hD => lc_list (K := K) (a := t) (xs := rs.map V.ref)
      (fun i G => Same H1 G ∧ G D = some (.lst (((R.take i).map fun l => (l.length : Int)).map V.int))) ?_ ?_ ?_ ?_⟩⟩
    · exact ⟨same_upd hD, upd_same⟩
    · rintro i G _ ⟨sG, _⟩
      exact SqL.of (sG _ _ ht)
    · rintro i x G hi ⟨sG, hG⟩
      obtain ⟨r, hr1, rfl⟩ := of_map_at hi
      have hlt : i < R.length := by
        rw [← hR.len]
        exact (List.getElem?_eq_some_iff.mp hr1).1
      have hRi : R[i]? = some R[i] := List.getElem?_eq_getElem hlt
      have hT := sG _ _ (hR.at_ i r _ hr1 hRi)
      refine ⟨rfl, .ref r, rfl, _, (R[i]).length, rfl, .inr ⟨_, SqT.of hT, by rw [List.length_map]⟩, _, hG, ?_, ?_, ?_⟩
      · rw [List.length_map, List.length_map, List.length_take]
        have := ok.n8
        have := RO.len
        exact small1000 (by omega)
      · exact Same.upd2 sG hD
      · rw [upd_same, List.take_add_one, hRi, List.map_append, List.map_append]
        rfl
    · rintro G ⟨sG, hG⟩
      rw [List.length_map, hR.len, List.take_length] at hG
      refine ⟨D, _, rfl, SqL.of hG, ?_, fun m hm hle => ?_⟩
      · rw [List.length_map, RO.len]
        exact ok.n1
      · obtain ⟨l, hl, rfl⟩ := List.mem_map.mp hm
        have hd := det_max ok ha hb RO (m := l.length) (List.mem_map.mpr ⟨l, hl, rfl⟩) fun k hk => by
          obtain ⟨l', hl', rfl⟩ := List.mem_map.mp hk
          have := hle (l'.length : Int) (List.mem_map.mpr ⟨l', hl', rfl⟩)
          omega
        refine ⟨rfl, ?_⟩
        have e : decide (V.int (l.length : Int) = V.int 1) = detB S a b := by
          by_cases hD' : Det S a b
          · rw [detB_true hD', hd.mpr hD']
            rfl
          · rw [detB_false hD']
            exact decide_eq_false fun z => hD' (hd.mp (by have := V.int.inj z; omega))
        show Q (.bl (decide (V.int (l.length : Int) = V.int 1))) G
        rw [e]
        exact q G (sm1.trans sG)
end
end Ub

namespace Ub
open PySem PySem.Spec PyProof.Rows L2
/-! ### lists of naturals on the heap -/
theorem inV_N (x : Nat) : ∀ l : List Nat, inV (vN x) (l.map vN) = decide (x ∈ l)
  | [] => rfl
  | y :: l => by
    have ih := inV_N x l
    unfold inV at ih ⊢
    rw [List.map_cons, List.any_cons, ih]
    show (((y : Int) == (x : Int)) || decide (x ∈ l)) = decide (x ∈ y :: l)
    by_cases e : y = x
    · subst e
      simp
    · have h1 : ((y : Int) == (x : Int)) = false := beq_eq_false_iff_ne.mpr (by omega)
      rw [h1, Bool.false_or]
      by_cases h : x ∈ l
      · rw [decide_eq_true h, decide_eq_true (List.mem_cons_of_mem _ h)]
      · rw [decide_eq_false h, decide_eq_false]
        intro q
        rcases List.mem_cons.mp q with q | q
        · exact e q.symm
        · exact h q
theorem flat_N : ∀ l : List Nat, (l.map vN).all flatV = true
  | [] => rfl
  | _ :: l => by
    rw [List.map_cons, List.all_cons, flat_N l]
    rfl
def pN (l : List Nat) : List PyData := l.map fun (n : Nat) => PyData.int (n : Int)
theorem dp_N {K : PySem.W.Frag} {H : Hp} : ∀ l : List Nat, DpAll K H (l.map vN) (pN l)
  | [] => .nil
  | _ :: l => .cons (.int _) (dp_N l)
theorem lay_N : ∀ l : List Nat, PyData.canLayAll0 (pN l) = true
  | [] => rfl
  | _ :: l => by
    show (PyData.canLay0 _ && PyData.canLayAll0 (pN l)) = true
    rw [lay_N l]
    rfl
theorem depth_N : ∀ l : List Nat, PyData.depthAll (pN l) ≤ 10
  | [] => by decide
  | x :: l => by
    have ih := depth_N l
    have e : PyData.depthAll (pN (x :: l)) = Nat.max (PyData.depth (PyData.int (x : Int))) (PyData.depthAll (pN l)) := by
      first | rfl | (simp only [pN, List.map_cons, PyData.depthAll])
    rw [e]
    exact Nat.max_le.mpr ⟨(show (0 : Nat) ≤ 10 by decide), ih⟩
theorem shaped_N (l : List Nat) : SeqAt.shaped (.tuple (pN l)) = true := by
  show (PyData.canLayAll0 (pN l) && decide (PyData.depthAll (pN l) + 1 ≤ 64)) = true
  have := depth_N l
  rw [lay_N l, decide_eq_true (by omega)]
  rfl
theorem eqv_N0 : ∀ l : List Nat, PyData.eqv (.tuple (pN l)) (.tuple []) = l.isEmpty
  | [] => rfl
  | _ :: _ => rfl
/-- may every action be undone -/
noncomputable def regB (S : Sys) : Bool := (failing S).isEmpty
theorem regB_true {S : Sys} (h : Reg S) : regB S = true := by
  unfold regB
  rw [failing_nil.mpr h]
  rfl
theorem reg_of {S : Sys} (h : regB S = true) : Reg S := failing_nil.mp (List.isEmpty_iff.mp h)
/-- the failing commands among the first i -/
noncomputable def failL (S : Sys) (i : Nat) : List Nat := (List.range i).filter fun c => !detB S (step S S.s c) S.s
theorem failL_all (S : Sys) : failL S S.cs.length = failing S := rfl
theorem failL_succ (S : Sys) (i : Nat) : failL S (i + 1) = if detB S (step S S.s i) S.s = true then failL S i else failL S i ++ [i] := by
  unfold failL
  rw [List.range_succ, List.filter_append]
  cases h : detB S (step S S.s i) S.s with
  | true => simp [h]
  | false => simp [h]
theorem failL_len (S : Sys) (i : Nat) : (failL S i).length ≤ i := by
  have := List.length_filter_le (fun c => !detB S (step S S.s c) S.s) (List.range i)
  rw [List.length_range] at this
  exact this
theorem failing_len (S : Sys) : (failing S).length ≤ S.cs.length := failL_len S _
section
variable {P : Program} {w : World} {K : PySem.W.Frag} {mg : Str → Option Value} {base : Heap}
/-! ### failing_of, all_revocable -/
abbrev sFailingOf : Stmt := top 22
theorem sc_failing_of : FnScope ["system", "start", "commands", "command"] ["system"] (defScope sFailingOf) := ⟨rfl, rfl, rfl, by decide +kernel, rfl, by decide +kernel, by decide +kernel⟩
def spFailing : Sp := fun vs H Q _ => ∃ (p : Addr) (S : Sys), vs = [.ref p] ∧ SysAt H p S ∧ ∀ H' t, Same H H' → H' t = some (.tup ((failing S).map vN)) → Q (.ref t) H'
theorem cal_failing_of (D : Dfn K mg "failing_of" sFailingOf ["system"]) (B : Bl mg) (c_determines : Cal P w K mg base CX0 4 "determines" spDetermines) (c_step : Cal P w K mg base CX0 1 "step" spStep) : Cal P w K mg base CX0 5 "failing_of" spFailing := by
  refine cal_of D sc_failing_of (fun vs H Q E h => ?_) (fun f cdv A outer s H vs Q E hr h => ?_)
  · obtain ⟨p, S, rfl, _⟩ := h
    rfl
  · obtain ⟨p, S, rfl, hS, q⟩ := h
    have ok := hS.ok
    obtain ⟨ca, rs, h1, h2, h3⟩ := hS.num
    refine ⟨_, (pss_cons (ps_set (i := 1) sc_failing_of.nd rfl (.inr rfl) (pe_ix (kixT K) (pv 0) pe_int (fun _ _ => rfl)))
      (pss_cons (ps_set (i := 2) sc_failing_of.nd rfl (.inl rfl) (pe_listRg rfl (by rfl) B.list (prg_1 (by rfl) B.range (pe_callB (klen K) (by rfl) B.len PySem.boot_len (pa_cons (pe_ix (kixT K) (pv 0) pe_int (fun _ _ => rfl)) pa_nil)))))
      (pss_one (ps_ret (pe_callTy (ktupOf K) (by rfl) B.tuple PyProof.Rows.boot_tuple (pa_cons (pe_lc (own := [("command", 3)]) (g := (gName 3)) rfl sc_failing_of.nd (kpiL K (pv 2)) (blkOk_by (N := ["system", "start", "commands", "command"]) (sc := defScope sFailingOf) (by decide +kernel)) (fun _ _ _ _ _ => (pg_name (i := 3) sc_failing_of.nd rfl (.inl rfl))) (fun _ _ _ _ _ => pts_one (pt_not (pt_val (pe_k c_determines hr (by decide) (by rfl) (pa_cons (pv 0) (pa_cons (pe_k c_step hr (by decide) (by rfl) (pa_cons (pv 0) (pa_cons (pv 1) (pa_cons (pv 3) pa_nil)))) (pa_cons (pv 1) pa_nil))))))) (fun _ _ _ _ _ => (pv 3))) pa_nil)))))), ?_⟩
    refine ⟨.ref p, rfl, p, _, 1, vN S.s, rfl, rfl, SqT.of h1, atI_nat (j := 1) rfl, ?_⟩
    refine ⟨.ref p, rfl, p, _, 2, .ref ca, rfl, rfl, SqT.of h1, atI_nat (j := 2) rfl, _, S.cs.length, rfl, .inr ⟨_, SqT.of h2, h3.symm⟩, _, rfl, rgok (by have := ok.m4; omega), fun la hla => ?_⟩
    rw [rg0]
    have sm0 : Same H (upd H la (.lst ((List.range S.cs.length).map vN))) := same_upd hla
    have hla' : (upd H la (.lst ((List.range S.cs.length).map vN))) la = some (.lst ((List.range S.cs.length).map vN)) := upd_same
    generalize upd H la (.lst ((List.range S.cs.length).map vN)) = H1 at sm0 hla' ⊢
    refine ⟨.ref la, rfl, la, rfl, ⟨_, SqL.of hla'⟩, fun Dd hD => lc_list (K := K) (a := la) (xs := (List.range S.cs.length).map vN)
      (fun i G => Same H1 G ∧ G Dd = some (.lst ((failL S i).map vN))) ⟨same_upd hD, upd_same⟩ ?_ ?_ ?_⟩
    · rintro i G _ ⟨sG, _⟩
      exact SqL.of (sG _ _ hla')
    · rintro i x G hi ⟨sG, hG⟩
      obtain ⟨y, hy, rfl⟩ := of_map_at hi
      have hin : i < S.cs.length := by
        have := (List.getElem?_eq_some_iff.mp hy).1
        rwa [List.length_range] at this
      obtain rfl : y = i := by
        rw [List.getElem?_range hin] at hy
        exact (Option.some.inj hy).symm
      have hsG : SysAt G p S := hS.same (sm0.trans sG)
      refine ⟨rfl, ?_⟩
      refine ⟨_, rfl, _, rfl, _, rfl, _, rfl, p, S, S.s, y, rfl, hsG, ok.s0, hin, _, rfl, p, S, step S S.s y, S.s, rfl, hsG, step_lt ok ok.s0 hin, ok.s0, fun G2 s2 => ⟨_, rfl, ?_⟩⟩
      have hf := failL_succ S y
      cases hd : detB S (step S S.s y) S.s with
      | true =>
        rw [hd, if_pos rfl] at hf
        refine iteF ⟨sG.trans s2, ?_⟩
        rw [hf]
        exact s2 _ _ hG
      | false =>
        rw [hd, if_neg Bool.false_ne_true] at hf
        refine iteT ⟨_, rfl, _, s2 _ _ hG, ?_, Same.upd2 (sG.trans s2) hD, ?_⟩
        · rw [List.length_map]
          have := failL_len S y
          have := ok.m4
          exact small1000 (by omega)
        · rw [upd_same, hf, List.map_append]
          rfl
    · rintro G ⟨sG, hG⟩
      rw [List.length_map, List.length_range, failL_all] at hG
      refine ⟨Dd, _, rfl, SqL.of hG, fun t ht => q _ t (sm0.trans (sG.trans (same_upd ht))) upd_same⟩
abbrev sAllRevocable : Stmt := top 23
theorem sc_all_revocable : FnScope ["system"] ["system"] (defScope sAllRevocable) := ⟨rfl, rfl, rfl, by decide +kernel, rfl, by decide +kernel, by decide +kernel⟩
def spAllRev : Sp := fun vs H Q _ => ∃ (p : Addr) (S : Sys), vs = [.ref p] ∧ SysAt H p S ∧ ∀ H', Same H H' → Q (.bl (regB S)) H'
theorem cal_all_revocable (D : Dfn K mg "all_revocable" sAllRevocable ["system"]) (c_failing_of : Cal P w K mg base CX0 5 "failing_of" spFailing) : Cal P w K mg base CX0 6 "all_revocable" spAllRev := by
  refine cal_of D sc_all_revocable (fun vs H Q E h => ?_) (fun f cdv A outer s H vs Q E hr h => ?_)
  · obtain ⟨p, S, rfl, _⟩ := h
    rfl
  · obtain ⟨p, S, rfl, hS, q⟩ := h
    refine ⟨_, (pss_one (ps_ret (pe_cmpR (keqD K hr.units) (pe_k c_failing_of hr (by decide) (by rfl) (pa_cons (pv 0) pa_nil)) (pe_tup pa_nil) (nomark _)))), ?_⟩
    refine ⟨.ref p, rfl, p, S, rfl, hS, fun H1 t sm ht => ⟨Nat.zero_le _, fun e he => ?_⟩⟩
    have s2 := same_upd (o := .tup []) he
    refine ⟨.tuple (pN (failing S)), .tuple [], .tup (SqT.of (s2 _ _ ht)) (dp_N _), .tup (SqT.of upd_same) .nil, shaped_N _, by decide, ?_⟩
    rw [eqv_N0]
    exact q _ (sm.trans s2)
/-! ### rows_of -/
abbrev sRowsOf : Stmt := top 24
theorem sc_rows_of : FnScope ["system", "ways", "states", "other", "one"] ["system"] (defScope sRowsOf) := ⟨rfl, rfl, rfl, by decide +kernel, rfl, by decide +kernel, by decide +kernel⟩
theorem rows_take (S : Sys) (i : Nat) (x : Nat) (h : (states S)[i]? = some x) : ((states S).take (i + 1)).map (row S) = ((states S).take i).map (row S) ++ [row S x] := by
  rw [List.take_add_one, h, List.map_append]
  rfl
def spRowsOf : Sp := fun vs H Q _ => ∃ (p : Addr) (S : Sys), vs = [.ref p] ∧ SysAt H p S ∧ Reg S ∧ ∀ H' t rs, Same H H' → H' t = some (.tup (rs.map V.ref)) → RowsAt H' rs (rows S) → Q (.ref t) H'
theorem cal_rows_of (D : Dfn K mg "rows_of" sRowsOf ["system"]) (B : Bl mg) (c_reached : Cal P w K mg base CX0 2 "reached" spReached) (c_reachable_of : Cal P w K mg base CX0 3 "reachable_of" spReachable) (c_led : Cal P w K mg base CX0 2 "led" (spLed K)) : Cal P w K mg base CX0 4 "rows_of" spRowsOf := by
  refine cal_of D sc_rows_of (fun vs H Q E h => ?_) (fun f cdv A outer s H vs Q E hr h => ?_)
  · obtain ⟨p, S, rfl, _⟩ := h
    rfl
  · obtain ⟨p, S, rfl, hS, rg, q⟩ := h
    have ok := hS.ok
    obtain ⟨ca, rs, h1, h2, h3⟩ := hS.num
    refine ⟨_, (pss_cons (ps_set (i := 1) sc_rows_of.nd rfl (.inr rfl) (pe_k c_reached hr (by decide) (by rfl) (pa_cons (pv 0) (pa_cons (pe_ix (kixT K) (pv 0) pe_int (fun _ _ => rfl)) pa_nil))))
      (pss_cons (ps_set (i := 2) sc_rows_of.nd rfl (.inr rfl) (pe_k c_reachable_of hr (by decide) (by rfl) (pa_cons (pv 0) pa_nil)))
      (pss_one (ps_ret (pe_callTy (ktupOf K) (by rfl) B.tuple PyProof.Rows.boot_tuple (pa_cons (pe_lc (own := [("one", 4)]) (g := (gName 4)) (tt := tYes) rfl sc_rows_of.nd (kpiT K (pv 2)) (blkOk_by (N := ["system", "ways", "states", "other", "one"]) (sc := defScope sRowsOf) (by decide +kernel)) (fun _ _ _ _ _ => (pg_name (i := 4) sc_rows_of.nd rfl (.inr rfl))) (fun _ _ _ _ _ => pts_nil) (fun _ _ _ _ _ => (pe_callTy (ktupOf K) (by rfl) B.tuple PyProof.Rows.boot_tuple (pa_cons (pe_lc (own := [("other", 3)]) (g := (gName 3)) (tt := tYes) rfl sc_rows_of.nd (kpiT K (pv 2)) (blkOk_by (N := ["system", "ways", "states", "other", "one"]) (sc := relS (xScope (xNth (xArgs (xRet (xAt (defBody sRowsOf) 2))) 0)) (defScope sRowsOf)) (by decide +kernel)) (fun _ _ _ _ _ => (pg_name (i := 3) sc_rows_of.nd rfl (.inl rfl))) (fun _ _ _ _ _ => pts_nil) (fun _ _ _ _ _ => (pe_k c_led hr (by decide) (by rfl) (pa_cons (pv 0) (pa_cons (pv 3) (pa_cons (pe_dget (hu_of hr) (pv 1) (pv 4) (fun _ _ => rfl)) pa_nil)))))) pa_nil)))) pa_nil)))))), ?_⟩
    refine ⟨_, rfl, .ref p, rfl, p, _, 1, vN S.s, rfl, rfl, SqT.of h1, atI_nat (j := 1) rfl, p, S, S.s, rfl, hS, ok.s0, fun H1 d L sm1 _ R => ?_⟩
    refine ⟨_, rfl, p, S, rfl, hS.same sm1, fun H2 t sm2 _ ht => ?_⟩
    have sm := sm1.trans sm2
    have hd2 := sm2 _ _ R.dict
    refine ⟨.ref t, rfl, t, rfl, ⟨_, SqT.of ht⟩, fun Dd hD => lc_tup (K := K) (a := t) (xs := (states S).map vN)
      (fun i G => Same H2 G ∧ ∃ rs : List Addr, G Dd = some (.lst (rs.map V.ref)) ∧ RowsAt G rs (((states S).take i).map (row S))) ?_ ?_ ?_ ?_⟩
    · exact ⟨same_upd hD, [], upd_same, rfl, fun i r row h => by simp at h⟩
    · rintro i G _ ⟨sG, _⟩
      exact SqT.of (sG _ _ ht)
    · rintro i x G hi ⟨sG, rs, hGD, hR⟩
      obtain ⟨y, hy, rfl⟩ := of_map_at hi
      have hym := List.mem_of_getElem? hy
      have hyr := (mem_states ok).mp hym
      obtain ⟨ta, hta⟩ := mem_fst ((R.mem y).mpr hyr)
      obtain ⟨u, hu, wu, lu⟩ := R.val _ hta
      have lu : led S S.s u = y := lu
      have hu2 := sm2 _ _ hu
      refine ⟨rfl, .ref t, rfl, t, rfl, ⟨_, SqT.of (sG _ _ ht)⟩, fun D2 hD2 => lc_tup (K := K) (a := t) (xs := (states S).map vN) (fun k G2 => Same G G2 ∧ G2 D2 = some (.lst ((((states S).take k).map (mul S y)).map vN))) ⟨same_upd hD2, upd_same⟩ ?_ ?_ ?_⟩
      · rintro k G2 _ ⟨s2, _⟩
        exact SqT.of (s2 _ _ (sG _ _ ht))
      · rintro k x G2 hk ⟨s2, hG2⟩
        obtain ⟨z, hz, rfl⟩ := of_map_at hk
        have hzr := (mem_states ok).mp (List.mem_of_getElem? hz)
        have s3 := sG.trans s2
        refine ⟨rfl, _, rfl, _, rfl, .ref d, rfl, vN y, rfl, d, .ref ta, rfl, ?_, p, ta, S, z, u, rfl, hS.same (sm.trans s3), hzr.lt ok ok.s0, SqT.of (s3 _ _ hu2), wu, _, hG2, ?_, Same.upd2 s2 hD2, ?_⟩
        · have e := dkOf_some (e := (y, ta)) R.nd hta
          rw [← e]
          exact DGet.k (k := Sum.inl (y : Int)) (s3 _ _ hd2)
        · rw [List.length_map, List.length_map, List.length_take]
          have := len_states (S := S)
          have := ok.n8
          exact small1000 (by omega)
        · rw [upd_same, mul_led ok rg wu lu hzr, List.take_add_one, hz, List.map_append, List.map_append]
          rfl
      · rintro G2 ⟨s2, hG2⟩
        rw [List.length_map, List.take_length] at hG2
        refine ⟨D2, _, rfl, SqL.of hG2, fun r hr2 => ?_⟩
        have s3 : Same G (upd G2 r (.tup ((row S y).map vN))) := s2.trans (same_upd hr2)
        refine ⟨_, s3 _ _ hGD, ?_, Same.upd2 (sG.trans s3) hD, rs ++ [r], ?_, ?_⟩
        · rw [List.length_map, hR.len, List.length_map, List.length_take]
          have := len_states (S := S)
          have := ok.n8
          exact small1000 (by omega)
        · rw [upd_same, List.map_append]
          rfl
        · rw [rows_take S i y hy]
          have key : ∀ (b : Addr) (xs : List V), (upd G2 r (.tup ((row S y).map vN))) b = some (.tup xs) → (upd (upd G2 r (.tup ((row S y).map vN))) Dd (.lst (rs.map V.ref ++ [.ref r]))) b = some (.tup xs) := fun b xs e => by
            rw [upd_ne (ne_of e (s3 _ _ hGD) (fun z => nomatch z))]
            exact e
          exact hR.snoc (fun b xs e => key _ _ (s3 _ _ e)) (key _ _ upd_same)
    · rintro G ⟨sG, rs, hGD, hR⟩
      rw [List.length_map, List.take_length] at hR
      refine ⟨Dd, _, rfl, SqL.of hGD, fun r hr2 => q _ r rs (sm.trans (sG.trans (same_upd hr2))) upd_same (hR.same fun b xs e => same_upd hr2 _ _ e)⟩
/-! ### is_regular, products -/
abbrev sIsRegular : Stmt := top 25
theorem sc_is_regular : FnScope ["system"] ["system"] (defScope sIsRegular) := ⟨rfl, rfl, rfl, by decide +kernel, rfl, by decide +kernel, by decide +kernel⟩
theorem cal_is_regular (D : Dfn K mg "is_regular" sIsRegular ["system"]) (c_check_system : Cal P w K mg base CX0 3 "check_system" spCheckSystem) (c_all_revocable : Cal P w K mg base CX0 6 "all_revocable" spAllRev) : Cal P w K mg base CX0 7 "is_regular" spAllRev := by
  refine cal_of D sc_is_regular (fun vs H Q E h => ?_) (fun f cdv A outer s H vs Q E hr h => ?_)
  · obtain ⟨p, S, rfl, _⟩ := h
    rfl
  · obtain ⟨p, S, rfl, hS, q⟩ := h
    refine ⟨_, (pss_cons (ps_expr (pe_k c_check_system hr (by decide) (by rfl) (pa_cons (pv 0) pa_nil)))
      (pss_one (ps_ret (pe_k c_all_revocable hr (by decide) (by rfl) (pa_cons (pv 0) pa_nil))))), ?_⟩
    exact ⟨_, rfl, p, S, rfl, hS, fun H1 s1 => ⟨_, rfl, p, S, rfl, hS.same s1, fun H2 s2 => q H2 (s1.trans s2)⟩⟩
abbrev sProducts : Stmt := top 26
theorem sc_products : FnScope ["system"] ["system"] (defScope sProducts) := ⟨rfl, rfl, rfl, by decide +kernel, rfl, by decide +kernel, by decide +kernel⟩
def spProducts : Sp := fun vs H Q _ => ∃ (p : Addr) (S : Sys), vs = [.ref p] ∧ SysAt H p S ∧ (regB S = false → ∀ H', Same H H' → Q .non H') ∧ (regB S = true → ∀ H' t rs, Same H H' → H' t = some (.tup (rs.map V.ref)) → RowsAt H' rs (rows S) → Q (.ref t) H')
theorem cal_products (D : Dfn K mg "products" sProducts ["system"]) (c_check_system : Cal P w K mg base CX0 3 "check_system" spCheckSystem) (c_all_revocable : Cal P w K mg base CX0 6 "all_revocable" spAllRev) (c_rows_of : Cal P w K mg base CX0 4 "rows_of" spRowsOf) : Cal P w K mg base CX0 7 "products" spProducts := by
  refine cal_of D sc_products (fun vs H Q E h => ?_) (fun f cdv A outer s H vs Q E hr h => ?_)
  · obtain ⟨p, S, rfl, _⟩ := h
    rfl
  · obtain ⟨p, S, rfl, hS, q1, q2⟩ := h
    refine ⟨_, (pss_cons (ps_expr (pe_k c_check_system hr (by decide) (by rfl) (pa_cons (pv 0) pa_nil)))
      (pss_one (ps_ret (pe_ifExp (pt_val (pe_k c_all_revocable hr (by decide) (by rfl) (pa_cons (pv 0) pa_nil))) (pe_k c_rows_of hr (by decide) (by rfl) (pa_cons (pv 0) pa_nil)) pe_non)))), ?_⟩
    refine ⟨_, rfl, p, S, rfl, hS, fun H1 s1 => ⟨_, rfl, p, S, rfl, hS.same s1, fun H2 s2 => ⟨_, rfl, ?_⟩⟩⟩
    have sm := s1.trans s2
    cases hb : regB S with
    | true =>
      refine iteT ?_
      exact ⟨_, rfl, p, S, rfl, hS.same sm, reg_of hb, fun H3 t rs s3 ht hR => q2 hb H3 t rs (sm.trans s3) ht hR⟩
    | false =>
      refine iteF ?_
      exact q1 hb H2 sm
/-! ### product_of, inverse_of -/
abbrev sProductOf : Stmt := top 29
theorem sc_product_of : FnScope ["system", "one", "other"] ["system", "one", "other"] (defScope sProductOf) := ⟨rfl, rfl, rfl, by decide +kernel, rfl, by decide +kernel, by decide +kernel⟩
def spProductOf : Sp := fun vs H Q _ => ∃ (p : Addr) (S : Sys) (x y : Nat), vs = [.ref p, vN x, vN y] ∧ SysAt H p S ∧ Reg S ∧ Reach S S.s x ∧ Reach S S.s y ∧ ∀ H', Same H H' → Q (vN (mul S x y)) H'
theorem cal_product_of (D : Dfn K mg "product_of" sProductOf ["system", "one", "other"]) (c_reached : Cal P w K mg base CX0 2 "reached" spReached) (c_led : Cal P w K mg base CX0 2 "led" (spLed K)) : Cal P w K mg base CX0 3 "product_of" spProductOf := by
  refine cal_of D sc_product_of (fun vs H Q E h => ?_) (fun f cdv A outer s H vs Q E hr h => ?_)
  · obtain ⟨p, S, x, y, rfl, _⟩ := h
    rfl
  · obtain ⟨p, S, x, y, rfl, hS, rg, hx, hy, q⟩ := h
    have ok := hS.ok
    obtain ⟨ca, rs, h1, h2, h3⟩ := hS.num
    refine ⟨_, (pss_one (ps_ret (pe_k c_led hr (by decide) (by rfl) (pa_cons (pv 0) (pa_cons (pv 2) (pa_cons (pe_dget (hu_of hr) (pe_k c_reached hr (by decide) (by rfl) (pa_cons (pv 0) (pa_cons (pe_ix (kixT K) (pv 0) pe_int (fun _ _ => rfl)) pa_nil))) (pv 1) (fun _ _ => rfl)) pa_nil)))))), ?_⟩
    refine ⟨_, rfl, _, rfl, _, rfl, .ref p, rfl, p, _, 1, vN S.s, rfl, rfl, SqT.of h1, atI_nat (j := 1) rfl, p, S, S.s, rfl, hS, ok.s0, fun H1 d L sm1 _ R => ?_⟩
    obtain ⟨ta, hta⟩ := mem_fst ((R.mem x).mpr hx)
    obtain ⟨u, hu, wu, lu⟩ := R.val _ hta
    refine ⟨_, rfl, d, .ref ta, rfl, ?_, p, ta, S, y, u, rfl, hS.same sm1, hy.lt ok ok.s0, SqT.of hu, wu, ?_⟩
    · have e := dkOf_some (e := (x, ta)) R.nd hta
      rw [← e]
      exact DGet.k (k := Sum.inl (x : Int)) R.dict
    · rw [mul_led ok rg wu lu hy]
      exact q H1 sm1
abbrev sInverseOf : Stmt := top 30
theorem sc_inverse_of : FnScope ["system", "state", "other"] ["system", "state"] (defScope sInverseOf) := ⟨rfl, rfl, rfl, by decide +kernel, rfl, by decide +kernel, by decide +kernel⟩
def spInverseOf : Sp := fun vs H Q _ => ∃ (p : Addr) (S : Sys) (x : Nat), vs = [.ref p, vN x] ∧ SysAt H p S ∧ Reg S ∧ Reach S S.s x ∧ ∀ H' y, Same H H' → Reach S S.s y → mul S x y = S.s → Q (vN y) H'
theorem filt_take {l : List Nat} {f : Nat → Bool} {i x : Nat} (h : l[i]? = some x) : (l.take (i + 1)).filter f = if f x = true then (l.take i).filter f ++ [x] else (l.take i).filter f := by
  rw [List.take_add_one, h, List.filter_append]
  cases e : f x with
  | true => simp [e]
  | false => simp [e]
theorem cal_inverse_of (D : Dfn K mg "inverse_of" sInverseOf ["system", "state"]) (c_reachable_of : Cal P w K mg base CX0 3 "reachable_of" spReachable) (c_product_of : Cal P w K mg base CX0 3 "product_of" spProductOf) : Cal P w K mg base CX0 4 "inverse_of" spInverseOf := by
  refine cal_of D sc_inverse_of (fun vs H Q E h => ?_) (fun f cdv A outer s H vs Q E hr h => ?_)
  · obtain ⟨p, S, x, rfl, _⟩ := h
    rfl
  · obtain ⟨p, S, x, rfl, hS, rg, hx, q⟩ := h
    have ok := hS.ok
    obtain ⟨ca, rs, h1, h2, h3⟩ := hS.num
    refine ⟨_, (pss_one (ps_ret (pe_ix (kixL K) (pe_lc (own := [("other", 2)]) (g := (gName 2)) rfl sc_inverse_of.nd (kpiT K (pe_k c_reachable_of hr (by decide) (by rfl) (pa_cons (pv 0) pa_nil))) (blkOk_by (N := ["system", "state", "other"]) (sc := defScope sInverseOf) (by decide +kernel)) (fun _ _ _ _ _ => (pg_name (i := 2) sc_inverse_of.nd rfl (.inl rfl))) (fun _ _ _ _ _ => pts_one (pt_cmpR op_eq (pe_k c_product_of hr (by decide) (by rfl) (pa_cons (pv 0) (pa_cons (pv 1) (pa_cons (pv 2) pa_nil)))) (pe_ix (kixT K) (pv 0) pe_int (fun _ _ => rfl)) (nomark _))) (fun _ _ _ _ _ => (pv 2))) pe_int (fun _ _ => rfl)))), ?_⟩
    refine ⟨_, rfl, p, S, rfl, hS, fun H1 t sm1 _ ht => ⟨t, rfl, ⟨_, SqT.of ht⟩, fun Dd hD => lc_tup (K := K) (a := t) (xs := (states S).map vN)
      (fun i G => Same H1 G ∧ G Dd = some (.lst ((((states S).take i).filter fun y => decide (mul S x y = S.s)).map vN))) ⟨same_upd hD, upd_same⟩ ?_ ?_ ?_⟩⟩
    · rintro i G _ ⟨sG, _⟩
      exact SqT.of (sG _ _ ht)
    · rintro i z G hi ⟨sG, hG⟩
      obtain ⟨y, hy, rfl⟩ := of_map_at hi
      have hyr := (mem_states ok).mp (List.mem_of_getElem? hy)
      refine ⟨rfl, ?_⟩
      refine ⟨_, rfl, _, rfl, _, rfl, p, S, x, y, rfl, hS.same (sm1.trans sG), rg, hx, hyr, fun G2 s2 => ?_⟩
      have h1' := s2 _ _ (sG _ _ (sm1 _ _ h1))
      refine ⟨.ref p, rfl, p, _, 1, vN S.s, rfl, rfl, SqT.of h1', atI_nat (j := 1) rfl, rfl, _, rfl, ?_⟩
      have hf := filt_take (f := fun y => decide (mul S x y = S.s)) hy
      by_cases e : mul S x y = S.s
      · rw [if_pos (decide_eq_true e)] at hf
        rw [e, decide_eq_true rfl]
        refine iteT ⟨_, rfl, _, s2 _ _ hG, ?_, Same.upd2 (sG.trans s2) hD, ?_⟩
        · rw [List.length_map]
          have h4 := List.length_filter_le (fun y => decide (mul S x y = S.s)) ((states S).take i)
          have h5 : ((states S).take i).length ≤ (states S).length := by rw [List.length_take]; exact Nat.min_le_right _ _
          have := len_states (S := S)
          have := ok.n8
          exact small1000 (by omega)
        · rw [upd_same, hf, List.map_append]
          rfl
      · rw [if_neg (by rw [decide_eq_false e]; exact Bool.false_ne_true)] at hf
        rw [decide_eq_false (fun z => e (by have := V.int.inj z; omega))]
        refine iteF ⟨sG.trans s2, ?_⟩
        rw [hf]
        exact s2 _ _ hG
    · rintro G ⟨sG, hG⟩
      rw [List.length_map, List.take_length] at hG
      obtain ⟨y, hy, ey⟩ := inv_exists ok rg hx
      have hm : y ∈ (states S).filter fun y => decide (mul S x y = S.s) := List.mem_filter.mpr ⟨(mem_states ok).mpr hy, decide_eq_true ey⟩
      cases hl : (states S).filter fun y => decide (mul S x y = S.s) with
      | nil =>
        rw [hl] at hm
        cases hm
      | cons z r =>
        have hz : z ∈ (states S).filter fun y => decide (mul S x y = S.s) := by rw [hl]; exact List.mem_cons_self
        obtain ⟨hz1, hz2⟩ := List.mem_filter.mp hz
        rw [hl] at hG
        exact ⟨Dd, _, 0, vN z, rfl, rfl, SqL.of hG, atI_nat (j := 0) rfl, q G z (sm1.trans sG) ((mem_states ok).mp hz1) (of_decide_eq_true hz2)⟩
/-! ### check_reached -/
abbrev sCheckReached : Stmt := top 27
theorem sc_check_reached : FnScope ["system", "state", "name"] ["system", "state", "name"] (defScope sCheckReached) := ⟨rfl, rfl, rfl, by decide +kernel, rfl, by decide +kernel, by decide +kernel⟩
def spCheckReached : Sp := fun vs H Q _ => ∃ (p : Addr) (S : Sys) (x : Nat) (nm : Str), vs = [.ref p, vN x, .str nm] ∧ SysAt H p S ∧ Reach S S.s x ∧ ∀ H', Same H H' → Q .non H'
theorem cal_check_reached (D : Dfn K mg "check_reached" sCheckReached ["system", "state", "name"]) (c_is_state : Cal P w K mg base CX0 2 "is_state" spIsState) (c_reachable_of : Cal P w K mg base CX0 3 "reachable_of" spReachable) : Cal P w K mg base CX0 4 "check_reached" spCheckReached := by
  refine cal_of D sc_check_reached (fun vs H Q E h => ?_) (fun f cdv A outer s H vs Q E hr h => ?_)
  · obtain ⟨p, S, x, nm, rfl, _⟩ := h
    rfl
  · obtain ⟨p, S, x, nm, rfl, hS, hx, q⟩ := h
    have ok := hS.ok
    refine ⟨_, (pss_one (ps_if (PW.pt (pw_or (pt_not (pt_val (pe_k c_is_state hr (by decide) (by rfl) (pa_cons (pv 0) (pa_cons (pv 1) pa_nil))))) (pw_or1 (pt_cmpR (knotin K) (pv 1) (pe_k c_reachable_of hr (by decide) (by rfl) (pa_cons (pv 0) pa_nil)) (by rfl))))) pss_never pss_nil)), ?_⟩
    refine ⟨_, rfl, _, rfl, p, S, (x : Int), rfl, hS, true, ?_, iteF ?_⟩
    · have := hx.lt ok ok.s0
      rw [decide_eq_true (by omega), decide_eq_true (by omega)]
      rfl
    refine ⟨_, rfl, _, rfl, p, S, rfl, hS, fun H1 t sm1 _ ht => ⟨t, _, rfl, .inr (SqT.of ht), rfl, flat_N _, _, rfl, ?_⟩⟩
    rw [inV_N, decide_eq_true ((mem_states ok).mpr hx)]
    exact iteF (q H1 sm1)
end
end Ub

namespace Ub
open PySem PySem.Spec PyProof.Rows L2
/-! ### NotPossible -/
abbrev sNpInit : Stmt := inClass (top 3) 0
structure NpTxt (K : PySem.W.Frag) (mg : Str → Option Value) (C : Addr) : Prop where
  oex : OexC K C
  g : mg "NotPossible" = some (.ref C)
  ini : ∃ (fI : Addr) (fd : FuncData), PySem.W.findIn K (.ref C) "__init__" = some (some (.ref fI)) ∧ PySem.W.typeIn K (.ref fI) = some (.type "function") ∧ Fun K "__init__" "NotPossible.__init__" sNpInit fI fd ∧ Binds K fd ["self", "why"] []
  xf : XfC K C
  no : PySem.W.findIn K (.ref C) "why" = some none
  te : PySem.W.exmOne K (.ref C) (.ref C) = some true
section
variable {P : Program} {w : World} {K : PySem.W.Frag} {mg : Str → Option Value} {base : Heap} {C : Addr}
theorem sc_np : FnScope ["self", "why"] ["self", "why"] (defScope sNpInit) := ⟨rfl, rfl, rfl, by decide +kernel, rfl, by decide +kernel, by decide +kernel⟩
def spNpInit (K : PySem.W.Frag) : Sp := fun vs H Q _ => ∃ (a C : Addr) (v : V), vs = [.ref a, v] ∧ OexC K C ∧ PySem.W.findIn K (.ref C) "why" = some none ∧ H a = some (exo a C none) ∧
  ∀ dx, H dx = none → dx ≠ a → Q .non (upd (upd H dx (exd dx [("why", v)])) a (exo a C (some dx)))
theorem ok_np {f : Addr} {fd : FuncData} (F : Fun K "__init__" "NotPossible.__init__" sNpInit f fd) : FnOk P w K mg base (L2.CX P w) 1 f fd ["self", "why"] (spNpInit K) := by
  refine F.okX sc_np (fun vs H Q E h => ?_) (fun cdv A outer s H vs Q E hr h => ?_)
  · obtain ⟨a, C, v, rfl, _⟩ := h
    rfl
  · obtain ⟨a, C, v, rfl, T, hno, ha, q⟩ := h
    refine ⟨_, pss_one (ps_ost (pv 0) (pv 1)), ?_⟩
    exact ⟨_, rfl, _, rfl, a, C, rfl, T, hno, .inl ⟨ha, fun dx n ne => q dx n ne⟩⟩
section
variable {X : Cx} {k j : Nat} {x : Str} {sp : Sp} {p pos : Pos} {e : Expr} {es : List Expr} {t : TA} {E : XK}
/-- a def that may raise, called in a def that lets it out -/
theorem pe_kE (c : Cal X.prog X.w X.K X.mg X.base (L2.CX X.prog X.w) k x sp) (tk : Takes X (fun cls d _ H => E cls d H)) (hr : Room j X.A) (hk : k ≤ j) (hg : Gl X x) (ha : PA X (e :: es) t)
    (hdb : (x == ("__debug__" : Str)) = false := by decide) (he : starEach (e :: es) X.env = (false, eval e X.env) :: starEach es X.env := by rfl) (hpl : (backTo pos (starEach es X.env)).any (·.1) = false := by rfl) :
    PE X (.Call (.Name x p) (e :: es) [] pos) (tCall sp [] E t) := by
  obtain ⟨f, fd, ps, F, hm, kp, b⟩ := c.ex
  exact pe_call F (hr.mono hk) hg hm kp b .nil (passes_call tk fun _ _ _ _ h => h) ha hdb he hpl
end
/-! ### check_regular -/
abbrev sCheckRegular : Stmt := top 28
theorem sc_check_regular : FnScope ["system"] ["system"] (defScope sCheckRegular) := ⟨rfl, rfl, rfl, by decide +kernel, rfl, by decide +kernel, by decide +kernel⟩
/-- the error of a system that is not regular -/
def NotReg (C : Addr) (H : Hp) (E : XK) : Prop := ∀ H' d, Same H H' → H d = none → H' d = some (.xd [("why", .str "regular")]) → E (.ref C) (some d) H'
def spCheckRegular (C : Addr) : Sp := fun vs H Q E => ∃ (p : Addr) (S : Sys), vs = [.ref p] ∧ SysAt H p S ∧ (regB S = true → ∀ H', Same H H' → Q .non H') ∧ (regB S = false → NotReg C H E)
theorem cal_check_regular (D : Dfn K mg "check_regular" sCheckRegular ["system"]) (T : NpTxt K mg C) (c_all_revocable : Cal P w K mg base CX0 6 "all_revocable" spAllRev) : Cal P w K mg base (L2.CX P w) 7 "check_regular" (spCheckRegular C) := by
  obtain ⟨fI, fdI, iC, tI, FI, bI⟩ := T.ini
  have GI : FnOk P w K mg base (L2.CX P w) 1 fI fdI ["self", "why"] (spNpInit K) := ok_np FI
  refine calX_of D sc_check_regular (fun vs H Q E h => ?_) (fun f cdv A outer s H vs Q E hr h => ?_)
  · obtain ⟨p, S, rfl, _⟩ := h
    rfl
  · obtain ⟨p, S, rfl, hS, q1, q2⟩ := h
    refine ⟨_, (pss_one (ps_if (pt_not (pt_val (pe_k c_all_revocable hr (by decide) (by rfl) (pa_cons (pv 0) pa_nil)))) (pss_one (ps_raise rfl (takes_of rfl rfl rfl rfl) (pmk_oex T.oex iC tI GI (hr.mono (by decide)) bI .nil passL (by rfl) T.g (pa_cons pe_str pa_nil)))) pss_nil)), ?_⟩
    refine ⟨_, rfl, p, S, rfl, hS, fun H1 s1 => ⟨_, rfl, ?_⟩⟩
    cases hb : regB S with
    | true => exact iteF (q1 hb H1 s1)
    | false =>
      refine iteT ⟨(show (1 : Nat) ≤ 1000 by decide), fun a ha => ⟨a, C, .str "regular", rfl, T.oex, T.no, upd_same, fun dx n ne => ⟨rfl, dx, [("why", .str "regular")], upd_same, ?_, ?_, ?_⟩⟩⟩
      · rw [upd_ne ne, upd_same]
      · rw [upd_ne ne] at n
        exact n
      · rw [upd_ne ne] at n
        refine q2 hb _ dx (fun b o e => ?_) (s1.free n) upd_same
        have e1 := s1 _ _ e
        have nb : b ≠ dx := ne_of_none e1 n
        have na : b ≠ a := ne_of_none e1 ha
        rw [upd_ne nb, del_ne na, upd_ne na, upd_ne nb, upd_ne na]
        exact e1
/-! ### product -/
abbrev sProduct : Stmt := top 31
theorem sc_product : FnScope ["system", "one", "other"] ["system", "one", "other"] (defScope sProduct) := ⟨rfl, rfl, rfl, by decide +kernel, rfl, by decide +kernel, by decide +kernel⟩
theorem cal_product (D : Dfn K mg "product" sProduct ["system", "one", "other"]) (c_check_system : Cal P w K mg base CX0 3 "check_system" spCheckSystem) (c_check_reached : Cal P w K mg base CX0 4 "check_reached" spCheckReached)
    (c_check_regular : Cal P w K mg base (L2.CX P w) 7 "check_regular" (spCheckRegular C)) (c_product_of : Cal P w K mg base CX0 3 "product_of" spProductOf) : Cal P w K mg base CX0 8 "product" spProductOf := by
  refine cal_of D sc_product (fun vs H Q E h => ?_) (fun f cdv A outer s H vs Q E hr h => ?_)
  · obtain ⟨p, S, x, y, rfl, _⟩ := h
    rfl
  · obtain ⟨p, S, x, y, rfl, hS, rg, hx, hy, q⟩ := h
    refine ⟨_, (pss_cons (ps_expr (pe_k c_check_system hr (by decide) (by rfl) (pa_cons (pv 0) pa_nil)))
      (pss_cons (ps_expr (pe_k c_check_reached hr (by decide) (by rfl) (pa_cons (pv 0) (pa_cons (pv 1) (pa_cons pe_str pa_nil)))))
      (pss_cons (ps_expr (pe_k c_check_reached hr (by decide) (by rfl) (pa_cons (pv 0) (pa_cons (pv 2) (pa_cons pe_str pa_nil)))))
      (pss_cons (ps_expr (pe_kx c_check_regular hr (by decide) (by rfl) (pa_cons (pv 0) pa_nil)))
      (pss_one (ps_ret (pe_k c_product_of hr (by decide) (by rfl) (pa_cons (pv 0) (pa_cons (pv 1) (pa_cons (pv 2) pa_nil)))))))))), ?_⟩
    refine ⟨_, rfl, p, S, rfl, hS, fun H1 s1 => ⟨_, rfl, _, rfl, p, S, x, _, rfl, hS.same s1, hx, fun H2 s2 => ⟨_, rfl, _, rfl, p, S, y, _, rfl, hS.same (s1.trans s2), hy, fun H3 s3 =>
      ⟨_, rfl, p, S, rfl, hS.same ((s1.trans s2).trans s3), fun _ H4 s4 => ⟨_, rfl, _, rfl, _, rfl, p, S, x, y, rfl, hS.same (((s1.trans s2).trans s3).trans s4), rg, hx, hy, fun H5 s5 => q H5 ((((s1.trans s2).trans s3).trans s4).trans s5)⟩, fun hb => ?_⟩⟩⟩⟩
    rw [regB_true rg] at hb
    cases hb
/-! ### inverse -/
abbrev sInverse : Stmt := top 32
theorem sc_inverse : FnScope ["system", "state"] ["system", "state"] (defScope sInverse) := ⟨rfl, rfl, rfl, by decide +kernel, rfl, by decide +kernel, by decide +kernel⟩
def spInverse (C : Addr) : Sp := fun vs H Q E => ∃ (p : Addr) (S : Sys) (x : Nat), vs = [.ref p, vN x] ∧ SysAt H p S ∧ Reach S S.s x ∧ (regB S = true → ∀ H' y, Same H H' → Reach S S.s y → mul S x y = S.s → Q (vN y) H') ∧ (regB S = false → NotReg C H E)
theorem cal_inverse (D : Dfn K mg "inverse" sInverse ["system", "state"]) (c_check_system : Cal P w K mg base CX0 3 "check_system" spCheckSystem) (c_check_reached : Cal P w K mg base CX0 4 "check_reached" spCheckReached)
    (c_check_regular : Cal P w K mg base (L2.CX P w) 7 "check_regular" (spCheckRegular C)) (c_inverse_of : Cal P w K mg base CX0 4 "inverse_of" spInverseOf) : Cal P w K mg base (L2.CX P w) 8 "inverse" (spInverse C) := by
  refine calX_of D sc_inverse (fun vs H Q E h => ?_) (fun f cdv A outer s H vs Q E hr h => ?_)
  · obtain ⟨p, S, x, rfl, _⟩ := h
    rfl
  · obtain ⟨p, S, x, rfl, hS, hx, q1, q2⟩ := h
    refine ⟨_, (pss_cons (ps_expr (pe_k c_check_system hr (by decide) (by rfl) (pa_cons (pv 0) pa_nil)))
      (pss_cons (ps_expr (pe_k c_check_reached hr (by decide) (by rfl) (pa_cons (pv 0) (pa_cons (pv 1) (pa_cons pe_str pa_nil)))))
      (pss_cons (ps_expr (pe_kE c_check_regular (takes_of rfl rfl rfl rfl) hr (by decide) (by rfl) (pa_cons (pv 0) pa_nil)))
      (pss_one (ps_ret (pe_k c_inverse_of hr (by decide) (by rfl) (pa_cons (pv 0) (pa_cons (pv 1) pa_nil)))))))), ?_⟩
    refine ⟨_, rfl, p, S, rfl, hS, fun H1 s1 => ⟨_, rfl, _, rfl, p, S, x, _, rfl, hS.same s1, hx, fun H2 s2 =>
      ⟨_, rfl, p, S, rfl, hS.same (s1.trans s2), fun hb H3 s3 => ⟨_, rfl, _, rfl, p, S, x, rfl, hS.same ((s1.trans s2).trans s3), reg_of hb, hx, fun H4 y s4 hy e => q1 hb H4 y (((s1.trans s2).trans s3).trans s4) hy e⟩,
        fun hb H' d sm n e => q2 hb H' d ((s1.trans s2).trans sm) ((s1.trans s2).free n) e⟩⟩⟩
end
end Ub

namespace Ub
open PySem PySem.Spec PyProof.Rows L2
/-! ### ways that meet: what holds between a statement and the rest -/
def tCutU (t u : TS) : TS := fun D σ H => ∃ M : L2.St → Hp → Prop, t { D with nx := M } σ H ∧ ∀ σ' H', M σ' H' → u D σ' H'
theorem pss_cut {X : Cx} {st : Stmt} {rest : List Stmt} {t u : TS} (h1 : PS X st t) (h2 : PSs X rest u) : PSs X (st :: rest) (tCutU t u) := by
  refine ⟨fun pins s σ H D I h => ?_⟩
  obtain ⟨M, hm, hM⟩ := h
  refine wpAny_execs_cons (thn (h1.run pins s σ H { D with nx := M } I hm) fun f s1 q => ?_)
  cases f with
  | next =>
    obtain ⟨σ', H', I', q⟩ := q
    exact h2.run pins s1 σ' H' D I' (hM σ' H' q)
  | ret v => exact q
  | brk => exact q
  | cont => exact q
/-! ### the stream -/
/-- a stream at p: its script, the cell, the place -/
def StrAt (H : Hp) (p : Addr) : Prop := ∃ (sc : Addr) (o : Obj) (ns : List Int) (c k : Int), H p = some (.lst [.ref sc, .int c, .int k]) ∧ H sc = some (.frz o (.lst (ns.map V.int))) ∧ 0 ≤ c ∧ 0 ≤ k
theorem But.refl (p : Addr) (H : Hp) : But p H H := fun _ _ _ h => h
theorem But.trans {p : Addr} {H H1 H2 : Hp} (a : But p H H1) (b : But p H1 H2) : But p H H2 := fun x o n h => b x o n (a x o n h)
theorem But.of {p : Addr} {H H' : Hp} (a : Same H H') : But p H H' := fun x o _ h => a x o h
theorem But.upd1 {p : Addr} {H H' : Hp} {o : HO} (a : But p H H') : But p H (upd H' p o) := fun b q n h => by
  rw [upd_ne n]
  exact a b q n h
theorem StrAt.same {H H' : Hp} {p : Addr} (h : StrAt H p) (e : Same H H') : StrAt H' p := by
  obtain ⟨sc, o, ns, c, k, h1, h2, h3, h4⟩ := h
  exact ⟨sc, o, ns, c, k, e _ _ h1, e _ _ h2, h3, h4⟩
theorem StrAt.ne {H : Hp} {p b : Addr} {xs : List V} (h : StrAt H p) (e : H b = some (.tup xs)) : b ≠ p := by
  obtain ⟨sc, o, ns, c, k, h1, _⟩ := h
  exact ne_of e h1 fun z => nomatch z
theorem StrAt.neL {H : Hp} {p b : Addr} {xs : List V} (h : StrAt H p) (e : H b = some (.lst xs)) (hx : xs.length ≠ 3) : b ≠ p := by
  obtain ⟨sc, o, ns, c, k, h1, _⟩ := h
  refine ne_of e h1 fun z => hx ?_
  have z' : xs = [.ref sc, .int c, .int k] := by injection z
  rw [z']
  rfl
/-- what the stream's turns leave: the tuples -/
theorem But.tups {p : Addr} {H H' : Hp} (a : But p H H') (h : StrAt H p) : ∀ b xs, H b = some (.tup xs) → H' b = some (.tup xs) := fun b xs e => a b _ (h.ne e) e
theorem But.free {p : Addr} {H H' : Hp} (a : But p H H') (hp : H' p ≠ none) {l : Addr} (h : H' l = none) : H l = none := by
  cases q : H l with
  | none => rfl
  | some o =>
    by_cases e : l = p
    · subst e; exact absurd h hp
    · rw [a l o e q] at h
      cases h
theorem StrAt.there {H : Hp} {p : Addr} (h : StrAt H p) : H p ≠ none := by
  obtain ⟨sc, o, ns, c, k, h1, _⟩ := h
  rw [h1]
  exact fun z => nomatch z
section
variable {P : Program} {w : World} {K : PySem.W.Frag} {mg : Str → Option Value} {base : Heap}
abbrev sLStream : Stmt := top 34
theorem sc_law_stream : FnScope ["_law_script"] ["_law_script"] (defScope sLStream) := ⟨rfl, rfl, rfl, by decide +kernel, rfl, by decide +kernel, by decide +kernel⟩
def spStream (K : PySem.W.Frag) : Sp := fun vs H Q _ => ∃ (a : Addr) (ns : List Int), vs = [.ref a] ∧ SqL K H a (ns.map V.int) ∧ ∀ H' p, Same H H' → H p = none → StrAt H' p → Q (.ref p) H'
theorem cal_law_stream (D : Dfn K mg "_law_stream" sLStream ["_law_script"]) (B : Bl mg) : Cal P w K mg base CX0 1 "_law_stream" (spStream K) := by
  refine cal_of D sc_law_stream (fun vs H Q E h => ?_) (fun f cdv A outer s H vs Q E hr h => ?_)
  · obtain ⟨a, ns, rfl, _⟩ := h
    rfl
  · obtain ⟨a, ns, rfl, hs, q⟩ := h
    refine ⟨_, (pss_one (ps_ret (pe_lst (pa_cons (pe_callTy (klistF K) (by rfl) B.list PyProof.Rows.boot_list (pa_cons (pv 0) pa_nil)) (pa_cons pe_int (pa_cons pe_int pa_nil)))))), ?_⟩
    refine ⟨_, rfl, a, _, rfl, hs, fun sc o hsc => ⟨(show (3 : Nat) ≤ sizeLine by decide), fun p hp => ?_⟩⟩
    have s1 : Same H (upd H sc (.frz o (.lst (ns.map V.int)))) := same_upd hsc
    refine q _ p (s1.trans (same_upd hp)) (s1.free hp) ⟨sc, o, ns, 0, 0, upd_same, ?_, Int.le_refl _, Int.le_refl _⟩
    rw [upd_ne (ne_of_none upd_same hp), upd_same]
abbrev sLNext : Stmt := top 35
theorem sc_law_next : FnScope ["_law_stream_here", "_law_many", "_law_k", "_law_cell", "_law_digit"] ["_law_stream_here", "_law_many"] (defScope sLNext) := ⟨rfl, rfl, rfl, by decide +kernel, rfl, by decide +kernel, by decide +kernel⟩
def spNext : Sp := fun vs H Q _ => ∃ (p : Addr) (m : Nat), vs = [.ref p, vN m] ∧ StrAt H p ∧ 0 < m ∧ m ≤ 1000 ∧ ∀ H' (d : Nat), But p H H' → StrAt H' p → d < m → Q (vN d) H'
theorem cal_law_next (D : Dfn K mg "_law_next" sLNext ["_law_stream_here", "_law_many"]) (B : Bl mg) : Cal P w K mg base CX0 1 "_law_next" spNext := by
  refine cal_of D sc_law_next (fun vs H Q E h => ?_) (fun f cdv A outer s H vs Q E hr h => ?_)
  · obtain ⟨p, m, rfl, _⟩ := h
    rfl
  · obtain ⟨p, m, rfl, hst, hm0, hm1, q⟩ := h
    obtain ⟨sc, o, ns, c, k, h1, h2, hc, hk⟩ := hst
    refine ⟨_, (pss_cut (ps_if (pt_cmpR op_eq (pe_ix (kixL K) (pv 0) pe_int (fun _ _ => rfl)) pe_int (nomark _)) (pss_cons (ps_set (i := 2) sc_law_next.nd rfl (.inl rfl) (pe_ix (kixL K) (pv 0) pe_int (fun _ _ => rfl)))
      (pss_cons (ps_set (i := 3) sc_law_next.nd rfl (.inl rfl) (pe_op op_add pe_int (pv 2)))
      (pss_cut (ps_if (pt_cmpR op_lt (pv 2) (pe_callB (klen K) (by rfl) B.len PySem.boot_len (pa_cons (pe_ix (kixL K) (pv 0) pe_int (fun _ _ => rfl)) pa_nil)) (nomark _)) (pss_one (ps_set (i := 3) sc_law_next.nd rfl (.inl rfl) (pe_callB call_abs (by rfl) B.abs (by decide +kernel) (pa_cons (pe_ix (kixL K) (pe_ix (kixL K) (pv 0) pe_int (fun _ _ => rfl)) (pv 2) (fun _ _ => rfl)) pa_nil)))) pss_nil)
      (pss_cut (ps_if (pt_cmpR op_lt (pv 3) (pe_op op_pow pe_int pe_int) (nomark _)) (pss_cons (ps_set (i := 3) sc_law_next.nd rfl (.inl rfl) (pe_op op_mod (pe_callTy call_int1 (by rfl) B.int PyProof.Rows.boot_int (pa_cons (pe_op op_add (pe_op op_add (pe_op op_mul (pv 3) pe_int) (pe_op op_mul (pv 2) pe_int)) pe_int) pa_nil)) pe_int))
      (pss_one (ps_set (i := 3) sc_law_next.nd rfl (.inl rfl) (pe_op op_add (pe_op op_mul (pe_op op_mod (pe_callTy call_int1 (by rfl) B.int PyProof.Rows.boot_int (pa_cons (pe_op op_add (pe_op op_mul (pv 3) pe_int) pe_int) pa_nil)) pe_int) pe_int) (pv 3))))) pss_nil)
      (pss_cons (ps_asg (pv 3) (pg_sub (pv 0) pe_int set_list))
      (pss_one (ps_asg (pe_op op_add (pv 2) pe_int) (pg_sub (pv 0) pe_int set_list)))))))) pss_nil)
      (pss_cons (ps_set (i := 4) sc_law_next.nd rfl (.inl rfl) (pe_op op_mod (pe_callTy call_int1 (by rfl) B.int PyProof.Rows.boot_int (pa_cons (pe_ix (kixL K) (pv 0) pe_int (fun _ _ => rfl)) pa_nil)) (pv 1)))
      (pss_cons (ps_asg (pe_op op_fdiv (pe_ix (kixL K) (pv 0) pe_int (fun _ _ => rfl)) (pv 1)) (pg_sub (pv 0) pe_int set_list))
      (pss_one (ps_ret (pv 4)))))), ?_⟩
    have hsp : sc ≠ p := ne_of h2 h1 fun z => nomatch z
    -- behind the first if: the cell's value c', the place k'
    refine ⟨fun σ G => ∃ (y2 y3 : Option V) (c' k' : Int), σ = [some (.ref p), some (vN m), y2, y3, none] ∧ But p H G ∧ G p = some (.lst [.ref sc, .int c', .int k']) ∧ 0 ≤ c' ∧ 0 ≤ k', ?_, ?_⟩
    · refine ⟨.ref p, rfl, p, _, 1, .int c, rfl, rfl, SqL.of h1, atI_nat (j := 1) rfl, rfl, _, rfl, ite2 (fun _ => ?_) (fun _ => ?_)⟩
      · refine ⟨.ref p, rfl, p, _, 2, .int k, rfl, rfl, SqL.of h1, atI_nat (j := 2) rfl, ?_⟩
        refine ⟨.int k, rfl, 7, k, rfl, rfl, ?_⟩
        -- behind the second if
        refine ⟨fun σ G => ∃ c1 : Int, 0 ≤ c1 ∧ σ = [some (.ref p), some (vN m), some (.int k), some (.int c1), none] ∧ G = H, ?_, ?_⟩
        · refine ⟨.int k, rfl, .ref p, rfl, p, _, 0, .ref sc, rfl, rfl, SqL.of h1, atI_nat (j := 0) rfl, _, (ns.map V.int).length, rfl, .inl ⟨_, .inl (.inr ⟨o, h2⟩), rfl⟩, _, _, rfl, rfl, _, rfl, ite2 (fun cc => ?_) (fun _ => ?_)⟩
          · have hlt := of_decide_eq_true cc
            rw [List.length_map] at hlt
            obtain ⟨j, rfl⟩ : ∃ j : Nat, k = (j : Int) := ⟨k.toNat, by omega⟩
            have hj : j < ns.length := by omega
            have e1 : (ns.map V.int)[j]? = some (.int ns[j]) := map_at (List.getElem?_eq_getElem hj)
            refine ⟨.ref p, rfl, p, _, 0, .ref sc, rfl, rfl, SqL.of h1, atI_nat (j := 0) rfl, .int (j : Int), rfl, sc, _, (j : Int), .int ns[j], rfl, rfl, .inl (.inr ⟨o, h2⟩), atI_nat e1, _, rfl, _, ?_, rfl, rfl⟩
            split <;> omega
          · exact ⟨7 + k, by omega, rfl, rfl⟩
        · rintro σ G ⟨c1, hc1, rfl, rfl⟩
          -- behind the third if
          refine ⟨fun σ G' => ∃ c2 : Int, 0 ≤ c2 ∧ σ = [some (.ref p), some (vN m), some (.int k), some (.int c2), none] ∧ G' = G, ?_, ?_⟩
          · refine ⟨.int c1, rfl, 10, 18, rfl, rfl, ⟨by decide, by decide, by decide⟩, c1, _, rfl, rfl, _, rfl, ite2 (fun _ => ?_) (fun _ => ?_)⟩
            · refine ⟨.int c1, rfl, c1, 48271, rfl, rfl, .inr ⟨by decide, by decide⟩, .int k, rfl, k, 69621, rfl, rfl, .inr ⟨by decide, by decide⟩, _, _, rfl, rfl, _, 11, rfl, rfl, .inl ⟨_, rfl, _, 2147483647, rfl, rfl, (by show (0 : Int) < 2147483647; decide), ?_⟩⟩
              refine ⟨_, rfl, _, 16807, rfl, rfl, .inr ⟨by decide, by decide⟩, _, 13, rfl, rfl, .inl ⟨_, rfl, _, 2147483647, rfl, rfl, (by show (0 : Int) < 2147483647; decide), _, 65537, rfl, rfl, .inr ⟨by decide, by decide⟩, _, rfl, _, _, rfl, rfl, ?_⟩⟩
              refine ⟨_, ?_, rfl, rfl⟩
              show (0 : Int) ≤ ((c1 * 48271 + k * 69621 + 11) % 2147483647 * 16807 + 13) % 2147483647 * 65537 + (c1 * 48271 + k * 69621 + 11) % 2147483647
              omega
            · exact ⟨c1, hc1, rfl, rfl⟩
          · rintro σ G' ⟨c2, hc2, rfl, rfl⟩
            refine ⟨.int c2, rfl, .ref p, rfl, p, _, 1, 1, rfl, rfl, h1, rfl, ?_⟩
            refine ⟨.int k, rfl, k, 1, rfl, rfl, .ref p, rfl, p, _, 2, 2, rfl, rfl, upd_same, rfl, ?_⟩
            rw [upd_upd]
            exact ⟨_, _, c2, k + 1, rfl, (But.refl p _).upd1, upd_same, hc2, by omega⟩
      · exact ⟨none, none, c, k, rfl, But.refl p H, h1, hc, hk⟩
    · rintro σ G ⟨y2, y3, c', k', rfl, bt, hG, hc', hk'⟩
      have hsc := bt sc _ hsp h2
      refine ⟨.ref p, rfl, p, _, 1, .int c', rfl, rfl, SqL.of hG, atI_nat (j := 1) rfl, .inl ⟨_, rfl, vN m, rfl, c', (m : Int), rfl, rfl, (by show (0 : Int) < (m : Int); omega), ?_⟩⟩
      have h0 : 0 ≤ c' % (m : Int) := Int.emod_nonneg _ (by omega)
      have hl : c' % (m : Int) < (m : Int) := Int.emod_lt_of_pos _ (by omega)
      have ed : (((c' % (m : Int)).toNat : Nat) : Int) = c' % (m : Int) := Int.toNat_of_nonneg h0
      have hd0 : 0 ≤ c' / (m : Int) := Int.ediv_nonneg hc' (by omega)
      refine ⟨.ref p, rfl, p, _, 1, .int c', rfl, rfl, SqL.of hG, atI_nat (j := 1) rfl, vN m, rfl, c', (m : Int), rfl, rfl, ⟨by omega, by omega⟩, .ref p, rfl, p, _, 1, 1, rfl, rfl, hG, rfl, ?_⟩
      refine ⟨_, rfl, ?_⟩
      have hq := q _ (c' % (m : Int)).toNat (bt.upd1 (o := .lst [.ref sc, .int (c' / (m : Int)), .int k'])) ⟨sc, o, ns, c' / (m : Int), k', upd_same, by rw [upd_ne hsp]; exact hsc, hd0, hk'⟩ (by omega)
      rw [show vN (c' % (m : Int)).toNat = V.int (c' % (m : Int)) from congrArg V.int ed] at hq
      exact hq
end
end Ub

namespace Ub
open PySem PySem.Spec PyProof.Rows L2
theorem kixS {X : Cx} (K : PySem.W.Frag) (h : X.K = K := by rfl) : IxR X (rIx K) := by
  subst h; exact ix_seq
/-- x and y are alike: equal ints, or tuples, or lists, of one length, of alike items -/
def Alike : Nat → Hp → V → V → Prop
  | 0, _, x, y => ∃ i : Int, x = .int i ∧ y = .int i
  | n + 1, H, x, y => ∃ (a b : Addr) (xs ys : List V), x = .ref a ∧ y = .ref b ∧ ((Rd H a (.tup xs) ∧ Rd H b (.tup ys)) ∨ (Rd H a (.lst xs) ∧ Rd H b (.lst ys))) ∧ xs.length = ys.length ∧ xs.length ≤ 1000 ∧
      ∀ (i : Nat) (u v : V), xs[i]? = some u → ys[i]? = some v → Alike n H u v
theorem Same.rd {H H' : Hp} {a : Addr} {u : HO} (s : Same H H') (h : Rd H a u) : Rd H' a u := by
  rcases h with h | ⟨o, h⟩
  · exact .inl (s _ _ h)
  · exact .inr ⟨o, s _ _ h⟩
theorem Alike.same {H H' : Hp} (s : Same H H') : ∀ {n : Nat} {x y : V}, Alike n H x y → Alike n H' x y
  | 0, _, _, h => h
  | n + 1, _, _, ⟨a, b, xs, ys, e1, e2, h, hl, h1, hi⟩ => ⟨a, b, xs, ys, e1, e2, h.elim (fun ⟨p, q⟩ => .inl ⟨Same.rd s p, Same.rd s q⟩) (fun ⟨p, q⟩ => .inr ⟨Same.rd s p, Same.rd s q⟩), hl, h1, fun i u v h3 h4 => (hi i u v h3 h4).same s⟩
theorem ty_tup {K : PySem.W.Frag} {H : Hp} {a : Addr} {xs : List V} (h : Rd H a (.tup xs)) : TyX K H (.ref a) (.type "tuple") := by
  rcases h with h | ⟨o, h⟩
  · exact .base (.tup h)
  · exact .fTuple h
theorem ty_lst {K : PySem.W.Frag} {H : Hp} {a : Addr} {xs : List V} (h : Rd H a (.lst xs)) : TyX K H (.ref a) (.type "list") := by
  rcases h with h | ⟨o, h⟩
  · exact .base (.lst h)
  · exact .base (.frz h)
theorem k_tb : kitB "tuple" "bool" = some false := by decide +kernel
theorem k_ti : kitB "tuple" "int" = some false := by decide +kernel
theorem k_ts : kitB "tuple" "str" = some false := by decide +kernel
theorem k_tl : kitB "tuple" "list" = some false := by decide +kernel
theorem k_lb : kitB "list" "bool" = some false := by decide +kernel
theorem k_li : kitB "list" "int" = some false := by decide +kernel
theorem k_ls : kitB "list" "str" = some false := by decide +kernel
theorem k_ll : kitB "list" "list" = some true := by decide +kernel
theorem k_lt : kitB "list" "tuple" = some false := by decide +kernel
section
variable {P : Program} {w : World} {K : PySem.W.Frag} {mg : Str → Option Value} {base : Heap}
abbrev sLIsInteger : Stmt := top 36
theorem sc_law_is_integer : FnScope ["_law_actual"] ["_law_actual"] (defScope sLIsInteger) := ⟨rfl, rfl, rfl, by decide +kernel, rfl, by decide +kernel, by decide +kernel⟩
def spIsInteger : Sp := fun vs H Q _ => ∃ i : Int, vs = [.int i] ∧ Q (.bl true) H
theorem cal_law_is_integer (D : Dfn K mg "_law_is_integer" sLIsInteger ["_law_actual"]) (B : Bl mg) : Cal P w K mg base CX0 1 "_law_is_integer" spIsInteger := by
  refine cal_of D sc_law_is_integer (fun vs H Q E h => ?_) (fun f cdv A outer s H vs Q E hr h => ?_)
  · obtain ⟨i, rfl, _⟩ := h
    rfl
  · obtain ⟨i, rfl, q⟩ := h
    refine ⟨_, (pss_one (ps_ret (pe_and (kisi K B.isinstance (pv 0) B.int PyProof.Rows.boot_int) (pe_one (pe_not (kisi K B.isinstance (pv 0) B.bool PyProof.Rows.boot_bool)))))), ?_⟩
    refine ⟨_, rfl, _, _, _, _, true, rfl, .ty _, .base (.int _), kit_ty k_ii, true, rfl, iteT ?_⟩
    exact ⟨_, rfl, _, _, _, _, false, rfl, .ty _, .base (.int _), kit_ty k_ib, false, rfl, q⟩
abbrev sLEqual : Stmt := top 37
theorem sc_law_equal : FnScope ["_law_actual", "_law_due", "_law_at"] ["_law_actual", "_law_due"] (defScope sLEqual) := ⟨rfl, rfl, rfl, by decide +kernel, rfl, by decide +kernel, by decide +kernel⟩
def spEq (n : Nat) : Sp := fun vs H Q _ => ∃ x y : V, vs = [x, y] ∧ Alike n H x y ∧ ∀ H', Same H H' → Q (.bl true) H'
theorem cal_law_equal0 (D : Dfn K mg "_law_equal" sLEqual ["_law_actual", "_law_due"]) (B : Bl mg) (c_law_is_integer : Cal P w K mg base CX0 1 "_law_is_integer" spIsInteger) : Cal P w K mg base CX0 2 "_law_equal" (spEq 0) := by
  refine cal_of D sc_law_equal (fun vs H Q E h => ?_) (fun f cdv A outer s H vs Q E hr h => ?_)
  · obtain ⟨x, y, rfl, _⟩ := h
    rfl
  · obtain ⟨x, y, rfl, ⟨i, rfl, rfl⟩, q⟩ := h
    refine ⟨_, (pss_cons (ps_if (pt_cmpR op_isN (pv 1) pe_non (nomark _)) pss_never pss_nil)
      (pss_cons (ps_if (pt_val (kisi K B.isinstance (pv 1) B.bool PyProof.Rows.boot_bool)) pss_never pss_nil)
      (pss_cons (ps_if (pt_val (kisi K B.isinstance (pv 1) B.int PyProof.Rows.boot_int)) (pss_one (ps_ret (pe_and (pe_k c_law_is_integer hr (by decide) (by rfl) (pa_cons (pv 0) pa_nil)) (pe_one (pe_cmpR op_eq (pv 0) (pv 1) (nomark _)))))) pss_nil)
      pss_never))), ?_⟩
    refine ⟨_, rfl, rfl, _, rfl, iteF ?_⟩
    refine ⟨_, rfl, _, _, _, _, false, rfl, .ty _, .base (.int _), kit_ty k_ib, false, rfl, iteF ?_⟩
    refine ⟨_, rfl, _, _, _, _, true, rfl, .ty _, .base (.int _), kit_ty k_ii, true, rfl, iteT ?_⟩
    refine ⟨_, rfl, i, rfl, true, rfl, iteT ?_⟩
    refine ⟨_, rfl, _, rfl, rfl, ?_⟩
    rw [decide_eq_true rfl]
    exact q H (Same.refl H)
theorem cal_law_equalS {n : Nat} (D : Dfn K mg "_law_equal" sLEqual ["_law_actual", "_law_due"]) (B : Bl mg) (c_law_is_integer : Cal P w K mg base CX0 1 "_law_is_integer" spIsInteger) (c_law_equal : Cal P w K mg base CX0 (n + 2) "_law_equal" (spEq n)) :
    Cal P w K mg base CX0 (n + 3) "_law_equal" (spEq (n + 1)) := by
  refine cal_of D sc_law_equal (fun vs H Q E h => ?_) (fun f cdv A outer s H vs Q E hr h => ?_)
  · obtain ⟨x, y, rfl, _⟩ := h
    rfl
  · obtain ⟨x, y, rfl, ⟨a, b, xs, ys, rfl, rfl, hab, hl, h1k, hi⟩, q⟩ := h
    obtain ⟨T, bt, bl, ta, tb, k1, k2, k3, k4, k5⟩ : ∃ (T : String) (bt bl : Bool), TyX K H (.ref a) (.type T) ∧ TyX K H (.ref b) (.type T) ∧ kitB T "bool" = some false ∧ kitB T "int" = some false ∧ kitB T "str" = some false ∧ kitB T "tuple" = some bt ∧ kitB T "list" = some bl := by
      rcases hab with ⟨p, q⟩ | ⟨p, q⟩
      · exact ⟨"tuple", true, false, ty_tup p, ty_tup q, k_tb, k_ti, k_ts, k_tt, k_tl⟩
      · exact ⟨"list", false, true, ty_lst p, ty_lst q, k_lb, k_li, k_ls, k_lt, k_ll⟩
    have lenV : ∀ (G : Hp), Same H G → LenV K (.ref a) G xs.length ∧ LenV K (.ref b) G ys.length := fun G s1 => by
      rcases hab with ⟨p, q⟩ | ⟨p, q⟩
      · exact ⟨.inr ⟨xs, .inl (Same.rd s1 p), rfl⟩, .inr ⟨ys, .inl (Same.rd s1 q), rfl⟩⟩
      · exact ⟨.inl ⟨xs, .inl (Same.rd s1 p), rfl⟩, .inl ⟨ys, .inl (Same.rd s1 q), rfl⟩⟩
    have ixA : ∀ (G : Hp) (i : Nat) (u : V) (Q' : VK), Same H G → xs[i]? = some u → Q' u G → rIx K (.ref a) (vN i) G Q' := fun G i u Q' s1 h q' => by
      rcases hab with ⟨p, _⟩ | ⟨p, _⟩
      · exact .inr (.inl ⟨a, xs, i, u, rfl, rfl, .inl (Same.rd s1 p), atI_nat h, q'⟩)
      · exact .inl ⟨a, xs, i, u, rfl, rfl, .inl (Same.rd s1 p), atI_nat h, q'⟩
    have ixB : ∀ (G : Hp) (i : Nat) (u : V) (Q' : VK), Same H G → ys[i]? = some u → Q' u G → rIx K (.ref b) (vN i) G Q' := fun G i u Q' s1 h q' => by
      rcases hab with ⟨_, p⟩ | ⟨_, p⟩
      · exact .inr (.inl ⟨b, ys, i, u, rfl, rfl, .inl (Same.rd s1 p), atI_nat h, q'⟩)
      · exact .inl ⟨b, ys, i, u, rfl, rfl, .inl (Same.rd s1 p), atI_nat h, q'⟩
    refine ⟨_, (pss_cons (ps_if (pt_cmpR op_isN (pv 1) pe_non (nomark _)) pss_never pss_nil)
      (pss_cons (ps_if (pt_val (kisi K B.isinstance (pv 1) B.bool PyProof.Rows.boot_bool)) pss_never pss_nil)
      (pss_cons (ps_if (pt_val (kisi K B.isinstance (pv 1) B.int PyProof.Rows.boot_int)) pss_never pss_nil)
      (pss_cons (ps_if (pt_val (kisi K B.isinstance (pv 1) B.str PyProof.Rows.boot_str)) pss_never pss_nil)
      (pss_cut (ps_if (PW.pt (pw_and (pt_val (kisi K B.isinstance (pv 1) B.tuple PyProof.Rows.boot_tuple)) (pw_and1 (pt_not (pt_val (kisi K B.isinstance (pv 0) B.tuple PyProof.Rows.boot_tuple)))))) pss_never pss_nil)
      (pss_cut (ps_if (PW.pt (pw_and (pt_val (kisi K B.isinstance (pv 1) B.list PyProof.Rows.boot_list)) (pw_and1 (pt_not (pt_val (kisi K B.isinstance (pv 0) B.list PyProof.Rows.boot_list)))))) pss_never pss_nil)
      (pss_cons (ps_if (pt_cmpR op_ne (pe_callB (klen K) (by rfl) B.len PySem.boot_len (pa_cons (pv 0) pa_nil)) (pe_callB (klen K) (by rfl) B.len PySem.boot_len (pa_cons (pv 1) pa_nil)) (nomark _)) pss_never pss_nil)
      (pss_one (ps_ret (pe_callB (kall K) (by rfl) B.all (by decide +kernel) (pa_cons (pe_lc (own := [("_law_at", 2)]) (g := (gName 2)) (tt := tYes) rfl sc_law_equal.nd (pi_range1 (by rfl) B.range (pa_cons (pe_callB (klen K) (by rfl) B.len PySem.boot_len (pa_cons (pv 1) pa_nil)) pa_nil)) (blkOk_by (N := ["_law_actual", "_law_due", "_law_at"]) (sc := defScope sLEqual) (by decide +kernel)) (fun _ _ _ _ _ => (pg_name (i := 2) sc_law_equal.nd rfl (.inl rfl))) (fun _ _ _ _ _ => pts_nil) (fun _ _ _ _ _ => (pe_k c_law_equal hr (by omega) (by rfl) (pa_cons (pe_ix (kixS K) (pv 0) (pv 2) (fun _ _ => rfl)) (pa_cons (pe_ix (kixS K) (pv 1) (pv 2) (fun _ _ => rfl)) pa_nil))))) pa_nil))))))))))), ?_⟩
    refine ⟨_, rfl, rfl, _, rfl, iteF ?_⟩
    refine ⟨_, rfl, _, _, _, _, false, rfl, .ty _, tb, kit_ty k1, false, rfl, iteF ?_⟩
    refine ⟨_, rfl, _, _, _, _, false, rfl, .ty _, tb, kit_ty k2, false, rfl, iteF ?_⟩
    refine ⟨_, rfl, _, _, _, _, false, rfl, .ty _, tb, kit_ty k3, false, rfl, iteF ?_⟩
    refine ⟨fun σ G => σ = [some (.ref a), some (.ref b), none] ∧ G = H, ⟨_, rfl, _, _, _, _, bt, rfl, .ty _, tb, kit_ty k4, bt, rfl, ?_⟩, ?_⟩
    · cases bt with
      | false => exact iteF (iteF ⟨rfl, rfl⟩)
      | true => exact iteT ⟨_, rfl, _, _, _, _, true, rfl, .ty _, ta, kit_ty k4, true, rfl, iteF ⟨rfl, rfl⟩⟩
    rintro σ G ⟨rfl, rfl⟩
    refine ⟨fun σ G' => σ = [some (.ref a), some (.ref b), none] ∧ G' = G, ⟨_, rfl, _, _, _, _, bl, rfl, .ty _, tb, kit_ty k5, bl, rfl, ?_⟩, ?_⟩
    · cases bl with
      | false => exact iteF (iteF ⟨rfl, rfl⟩)
      | true => exact iteT ⟨_, rfl, _, _, _, _, true, rfl, .ty _, ta, kit_ty k5, true, rfl, iteF ⟨rfl, rfl⟩⟩
    rintro σ G' ⟨rfl, rfl⟩
    have lv := lenV G' (Same.refl G')
    refine ⟨_, rfl, _, xs.length, rfl, lv.1, _, rfl, _, ys.length, rfl, lv.2, rfl, _, rfl, iteNS (by rw [hl]) ?_⟩
    refine ⟨_, rfl, _, ys.length, rfl, lv.2, (ys.length : Int), rfl, by omega, by omega, fun D hD => lc_range (lo := 0) (n := ys.length) (fun i G => Same G' G ∧ G D = some (.lst ((List.replicate i true).map V.bl))) ⟨same_upd hD, upd_same⟩ ?_ ?_⟩
    · rintro i G hlt ⟨sG, hG⟩
      rw [Int.zero_add]
      have hx : xs[i]? = some (xs[i]'(by omega)) := List.getElem?_eq_getElem (by omega)
      have hy : ys[i]? = some ys[i] := List.getElem?_eq_getElem hlt
      refine ⟨rfl, _, rfl, _, rfl, ixA G i _ _ sG hx ⟨_, rfl, _, rfl, ixB G i _ _ sG hy ⟨_, _, rfl, (hi i _ _ hx hy).same sG, fun G2 s2 => ⟨_, s2 _ _ hG, ?_, Same.upd2 (sG.trans s2) hD, ?_⟩⟩⟩⟩
      · rw [List.length_map, List.length_replicate]
        exact small1000 (by omega)
      · rw [upd_same, List.replicate_succ', List.map_append]
        rfl
    · rintro G ⟨sG, hG⟩
      refine ⟨D, _, rfl, SqL.of hG, ?_⟩
      rw [all_replicate_true]
      exact q G sG
end
end Ub

namespace Ub
open PySem PySem.Spec PyProof.Rows L2
def RowsOk (cs : List (List Nat)) (n : Nat) : Prop := ∀ r ∈ cs, r.length = n ∧ ∀ x ∈ r, x < n
theorem But.upd2 {p : Addr} {H H' : Hp} {d : Addr} {o : HO} (a : But p H H') (hd : H d = none) : But p H (L2.upd H' d o) := fun b q n e => by
  rw [upd_ne (ne_of_none e hd)]
  exact a b q n e
theorem rows_two {H : Hp} {t1 t2 : Addr} {r1 r2 : List Nat} (h1 : H t1 = some (.tup (r1.map vN))) (h2 : H t2 = some (.tup (r2.map vN))) : RowsAt H [t1, t2] [r1, r2] :=
  ((RowsAt.snoc (rs := []) (cs := []) ⟨rfl, fun i r row h => by simp at h⟩ (fun _ _ e => e) h1).snoc (fun _ _ e => e) h2)
theorem rows_four {H : Hp} {t1 t2 t3 t4 : Addr} {r1 r2 r3 r4 : List Nat} (h1 : H t1 = some (.tup (r1.map vN))) (h2 : H t2 = some (.tup (r2.map vN))) (h3 : H t3 = some (.tup (r3.map vN))) (h4 : H t4 = some (.tup (r4.map vN))) : RowsAt H [t1, t2, t3, t4] [r1, r2, r3, r4] :=
  (((rows_two h1 h2).snoc (fun _ _ e => e) h3).snoc (fun _ _ e => e) h4)
theorem RowsAt.take {H : Hp} {rs : List Addr} {cs : List (List Nat)} (h : RowsAt H rs cs) (m : Nat) : RowsAt H (rs.take m) (cs.take m) := by
  refine ⟨by rw [List.length_take, List.length_take, h.len], fun i r row h1 h2 => ?_⟩
  rw [List.getElem?_take] at h1 h2
  split at h1
  · rename_i hi
    rw [if_pos hi] at h2
    exact h.at_ i r row h1 h2
  · cases h1
theorem cut_take (xs : List V) (m : Nat) : cutV xs none (some (m : Int)) = xs.take m := by
  unfold cutV
  rw [HT.sIx_none, HT.sIx_nat]
  rw [List.drop_zero, Nat.sub_zero]
  by_cases h : m ≤ xs.length
  · rw [Nat.min_eq_left h]
  · rw [Nat.min_eq_right (by omega), List.take_length, List.take_of_length_le (by omega)]
section
variable {P : Program} {w : World} {K : PySem.W.Frag} {mg : Str → Option Value} {base : Heap}
abbrev sLTurns : Stmt := top 39
theorem sc_law_turns : FnScope ["_law_stream_here", "_law_states", "_law_found", "_law_k", "_law_by", "_law_state"] ["_law_stream_here", "_law_states"] (defScope sLTurns) := ⟨rfl, rfl, rfl, by decide +kernel, rfl, by decide +kernel, by decide +kernel⟩
def spTurns : Sp := fun vs H Q _ => ∃ (p : Addr) (n : Nat), vs = [.ref p, vN n] ∧ StrAt H p ∧ 1 ≤ n ∧ n ≤ 8 ∧ ∀ H' t rs cs, But p H H' → StrAt H' p → H t = none → H' t = some (.lst (rs.map V.ref)) → RowsAt H' rs cs → cs.length ≤ 4 → RowsOk cs n → Q (.ref t) H'
theorem row6 : RowsOk [[1, 0, 4, 5, 2, 3], [2, 3, 0, 1, 5, 4]] 6 := by unfold RowsOk; decide
theorem row4 : RowsOk [[1, 0, 3, 2], [2, 3, 0, 1]] 4 := by unfold RowsOk; decide
theorem row8 : RowsOk [[1, 2, 3, 0, 7, 4, 5, 6], [4, 5, 6, 7, 0, 1, 2, 3], [2, 3, 0, 1, 6, 7, 4, 5], [7, 4, 5, 6, 1, 2, 3, 0]] 8 := by unfold RowsOk; decide
theorem cal_law_turns (D : Dfn K mg "_law_turns" sLTurns ["_law_stream_here", "_law_states"]) (B : Bl mg) (c_law_next : Cal P w K mg base CX0 1 "_law_next" spNext) : Cal P w K mg base CX0 2 "_law_turns" spTurns := by
  refine cal_of D sc_law_turns (fun vs H Q E h => ?_) (fun f cdv A outer s H vs Q E hr h => ?_)
  · obtain ⟨p, n, rfl, _⟩ := h
    rfl
  · obtain ⟨p, n, rfl, hst, hn1, hn8, q⟩ := h
    refine ⟨_, (pss_cut (ps_if (PW.pt (pw_and (pt_cmpR op_eq (pv 1) pe_int (nomark _)) (pw_and1 (pt_cmpR op_eq (pe_k c_law_next hr (by decide) (by rfl) (pa_cons (pv 0) (pa_cons pe_int pa_nil))) pe_int (nomark _))))) (pss_one (ps_ret (pe_lst (pa_cons (pe_tup (pa_cons pe_int (pa_cons pe_int (pa_cons pe_int (pa_cons pe_int (pa_cons pe_int (pa_cons pe_int pa_nil))))))) (pa_cons (pe_tup (pa_cons pe_int (pa_cons pe_int (pa_cons pe_int (pa_cons pe_int (pa_cons pe_int (pa_cons pe_int pa_nil))))))) pa_nil))))) pss_nil)
      (pss_cut (ps_if (PW.pt (pw_and (pt_cmpR op_eq (pv 1) pe_int (nomark _)) (pw_and1 (pt_cmpR op_eq (pe_k c_law_next hr (by decide) (by rfl) (pa_cons (pv 0) (pa_cons pe_int pa_nil))) pe_int (nomark _))))) (pss_one (ps_ret (pe_lst (pa_cons (pe_tup (pa_cons pe_int (pa_cons pe_int (pa_cons pe_int (pa_cons pe_int pa_nil))))) (pa_cons (pe_tup (pa_cons pe_int (pa_cons pe_int (pa_cons pe_int (pa_cons pe_int pa_nil))))) pa_nil))))) pss_nil)
      (pss_cons (ps_set (i := 2) sc_law_turns.nd rfl (.inl rfl) (pe_lst pa_nil))
      (pss_cons (ps_for PassesOwn.never rfl (pi_range1 (by rfl) B.range (pa_cons (pe_op op_add pe_int (pe_k c_law_next hr (by decide) (by rfl) (pa_cons (pv 0) (pa_cons pe_int pa_nil)))) pa_nil)) (pg_name (i := 3) sc_law_turns.nd rfl (.inl rfl)) (pss_cons (ps_set (i := 4) sc_law_turns.nd rfl (.inr rfl) (pe_k c_law_next hr (by decide) (by rfl) (pa_cons (pv 0) (pa_cons (pv 1) pa_nil))))
      (pss_one (ps_expr (kbm K PySem.F.plainAttrs_list PySem.F.slot_list_append PySem.F.type_list_append mt_append (pv 2) (pa_cons (pe_callTy (ktupOf K) (by rfl) B.tuple PyProof.Rows.boot_tuple (pa_cons (pe_lc (own := [("_law_state", 5)]) (g := (gName 5)) (tt := tYes) rfl sc_law_turns.nd (pi_range1 (by rfl) B.range (pa_cons (pv 1) pa_nil)) (blkOk_by (N := ["_law_stream_here", "_law_states", "_law_found", "_law_k", "_law_by", "_law_state"]) (sc := defScope sLTurns) (by decide +kernel)) (fun _ _ _ _ _ => (pg_name (i := 5) sc_law_turns.nd rfl (.inl rfl))) (fun _ _ _ _ _ => pts_nil) (fun _ _ _ _ _ => (pe_op op_mod (pe_op op_add (pv 5) (pv 4)) (pv 1)))) pa_nil)) pa_nil))))))
      (pss_one (ps_ret (pv 2))))))), ?_⟩
    -- the first test
    refine ⟨fun σ G => σ = [some (.ref p), some (vN n), none, none, none, none] ∧ But p H G ∧ StrAt G p, ?_, ?_⟩
    · refine ⟨_, rfl, rfl, _, rfl, ite2 (fun e => ?_) (fun e => iteF ⟨rfl, But.refl p H, hst⟩)⟩
      have en : n = 6 := by
        have := V.int.inj (of_decide_eq_true e)
        omega
      subst en
      refine ⟨_, rfl, p, 2, rfl, hst, by decide, by decide, fun G d bt st hd => ⟨rfl, _, rfl, ite2 (fun _ => ?_) (fun _ => ⟨rfl, bt, st⟩)⟩⟩
      refine ⟨(show (6 : Nat) ≤ sizeLine by decide), fun t1 h1 => ⟨(show (6 : Nat) ≤ sizeLine by decide), fun t2 h2 => ⟨(show (2 : Nat) ≤ sizeLine by decide), fun l hl => ?_⟩⟩⟩
      have s1 := same_upd (o := .tup ([1, 0, 4, 5, 2, 3].map vN)) h1
      have s2 := s1.trans (same_upd (o := .tup ([2, 3, 0, 1, 5, 4].map vN)) h2)
      have s3 := s2.trans (same_upd (o := .lst ([t1, t2].map V.ref)) hl)
      refine q _ l [t1, t2] [[1, 0, 4, 5, 2, 3], [2, 3, 0, 1, 5, 4]] (bt.trans (But.of s3)) (st.same s3) (bt.free st.there (s2.free hl)) upd_same (rows_two ?_ ?_) (by decide) row6
      · rw [upd_ne (ne_of_none (o := .tup ([1, 0, 4, 5, 2, 3].map vN)) (same_upd h2 _ _ upd_same) hl)]
        exact same_upd h2 _ _ upd_same
      · rw [upd_ne (ne_of_none (o := .tup ([2, 3, 0, 1, 5, 4].map vN)) upd_same hl)]
        exact upd_same
    rintro σ G0 ⟨rfl, bt0, st0⟩
    -- the second test
    refine ⟨fun σ G => σ = [some (.ref p), some (vN n), none, none, none, none] ∧ But p H G ∧ StrAt G p, ?_, ?_⟩
    · refine ⟨_, rfl, rfl, _, rfl, ite2 (fun e => ?_) (fun e => iteF ⟨rfl, bt0, st0⟩)⟩
      have en : n = 4 := by
        have := V.int.inj (of_decide_eq_true e)
        omega
      subst en
      refine ⟨_, rfl, p, 2, rfl, st0, by decide, by decide, fun G d bt st hd => ⟨rfl, _, rfl, ite2 (fun _ => ?_) (fun _ => ⟨rfl, bt0.trans bt, st⟩)⟩⟩
      refine ⟨(show (4 : Nat) ≤ sizeLine by decide), fun t1 h1 => ⟨(show (4 : Nat) ≤ sizeLine by decide), fun t2 h2 => ⟨(show (2 : Nat) ≤ sizeLine by decide), fun l hl => ?_⟩⟩⟩
      have s1 := same_upd (o := .tup ([1, 0, 3, 2].map vN)) h1
      have s2 := s1.trans (same_upd (o := .tup ([2, 3, 0, 1].map vN)) h2)
      have s3 := s2.trans (same_upd (o := .lst ([t1, t2].map V.ref)) hl)
      refine q _ l [t1, t2] [[1, 0, 3, 2], [2, 3, 0, 1]] ((bt0.trans bt).trans (But.of s3)) (st.same s3) ((bt0.trans bt).free st.there (s2.free hl)) upd_same (rows_two ?_ ?_) (by decide) row4
      · rw [upd_ne (ne_of_none (o := .tup ([1, 0, 3, 2].map vN)) (same_upd h2 _ _ upd_same) hl)]
        exact same_upd h2 _ _ upd_same
      · rw [upd_ne (ne_of_none (o := .tup ([2, 3, 0, 1].map vN)) upd_same hl)]
        exact upd_same
    rintro σ G1 ⟨rfl, bt1, st1⟩
    -- found = []
    refine ⟨Nat.zero_le _, fun l hl => ?_⟩
    have btL := bt1.trans (But.of (same_upd (o := .lst []) hl))
    have stL := st1.same (same_upd (o := .lst []) hl)
    have hlH : H l = none := bt1.free st1.there hl
    have hlp : l ≠ p := fun e => st1.there (e ▸ hl)
    have hlL : (upd G1 l (.lst [])) l = some (.lst []) := upd_same
    generalize upd G1 l (.lst []) = G2 at btL stL hlL ⊢
    -- for k in range(1 + next(stream, 2))
    refine ⟨_, rfl, p, 2, rfl, stL, by decide, by decide, fun G3 d bt st hd => ⟨1, d, rfl, rfl, 1 + (d : Int), rfl, by omega, by omega,
      for_range (lo := 0) (n := (1 + (d : Int)).toNat) (fun i σ G => ∃ (rs : List Addr) (cs : List (List Nat)) (y3 y4 : Option V), σ = [some (.ref p), some (vN n), some (.ref l), y3, y4, none] ∧ But p H G ∧ StrAt G p ∧ G l = some (.lst (rs.map V.ref)) ∧ RowsAt G rs cs ∧ cs.length = i ∧ RowsOk cs n) ?_ ?_ ?_⟩⟩
    · refine ⟨[], [], none, none, rfl, btL.trans bt, st, bt _ _ hlp hlL, ⟨rfl, fun i r row h => by simp at h⟩, rfl, fun r h => nomatch h⟩
    · rintro i σ G hi ⟨rs, cs, y3, y4, rfl, btG, stG, hG, hR, hlen, hok⟩
      -- by = next(stream, states)
      refine ⟨_, rfl, _, rfl, p, n, rfl, stG, by omega, by omega, fun G4 e bt4 st4 he => ?_⟩
      have hG4 := bt4 _ _ hlp hG
      have hR4 := hR.same (bt4.tups stG)
      -- found.append(tuple([..]))
      refine ⟨_, rfl, .inl ⟨rfl, _, SqL.of hG4⟩, _, rfl, (n : Int), rfl, by omega, by omega, fun Dd hD => lc_range (lo := 0) (n := n) (fun j F => Same G4 F ∧ F Dd = some (.lst (((List.range j).map fun x => (x + e) % n).map vN))) ⟨same_upd hD, upd_same⟩ ?_ ?_⟩
      · rintro j F hj ⟨sF, hF⟩
        refine ⟨rfl, _, rfl, _, rfl, _, _, rfl, rfl, _, rfl, _, _, rfl, rfl, (by show (0 : Int) < (n : Int); omega), _, hF, ?_, Same.upd2 sF hD, ?_⟩
        · rw [List.length_map, List.length_map, List.length_range]
          exact small1000 (by omega)
        · have ez : V.int ((0 + (j : Int) + (e : Int)) % (n : Int)) = vN ((j + e) % n) := by
            rw [Int.zero_add]
            exact congrArg V.int (by push_cast; rfl)
          show upd F Dd (.lst (_ ++ [V.int ((0 + (j : Int) + (e : Int)) % (n : Int))])) Dd = _
          rw [ez, upd_same, List.range_succ, List.map_append, List.map_append]
          rfl
      · rintro F ⟨sF, hF⟩
        refine ⟨Dd, _, rfl, SqL.of hF, fun r hr2 => ?_⟩
        have s5 : Same G4 (upd F r (.tup (((List.range n).map fun x => (x + e) % n).map vN))) := sF.trans (same_upd hr2)
        have hG5 := s5 _ _ hG4
        refine ⟨l, _, _, rfl, rfl, hG5, ?_, ?_⟩
        · rw [List.length_map, hR.len, hlen]
          exact small1000 (by omega)
        · have key : ∀ (b : Addr) (xs : List V), (upd F r (.tup (((List.range n).map fun x => (x + e) % n).map vN))) b = some (.tup xs) → (upd (upd F r (.tup (((List.range n).map fun x => (x + e) % n).map vN))) l (.lst (rs.map V.ref ++ [.ref r]))) b = some (.tup xs) := fun b xs h => by
            rw [upd_ne (ne_of h hG5 (fun z => nomatch z))]
            exact h
          obtain ⟨sc, o, ns, c, k, h1, h2, h3, h4⟩ := st4.same s5
          refine ⟨rs ++ [r], cs ++ [(List.range n).map fun x => (x + e) % n], _, _, rfl, But.upd2 ((btG.trans bt4).trans (But.of s5)) hlH, ⟨sc, o, ns, c, k, ?_, ?_, h3, h4⟩, ?_, hR4.snoc (fun b xs h => key _ _ (s5 _ _ h)) (key _ _ upd_same), ?_, ?_⟩
          · rw [upd_ne hlp.symm]
            exact h1
          · have : sc ≠ l := ne_of h2 hG5 fun z => nomatch z
            rw [upd_ne this]
            exact h2
          · rw [upd_same, List.map_append]
            rfl
          · rw [List.length_append, hlen]
            rfl
          · intro r' hr'
            rcases List.mem_append.mp hr' with h | h
            · exact hok r' h
            · have : r' = (List.range n).map fun x => (x + e) % n := by simpa using h
              subst this
              refine ⟨by rw [List.length_map, List.length_range], fun x hx => ?_⟩
              obtain ⟨y, _, rfl⟩ := List.mem_map.mp hx
              exact Nat.mod_lt _ (by omega)
    · rintro σ G ⟨rs, cs, y3, y4, rfl, btG, stG, hG, hR, hlen, hok⟩
      refine ⟨_, rfl, q G l rs cs btG stG hlH hG hR (by omega) hok⟩
end
end Ub

namespace Ub
open PySem PySem.Spec PyProof.Rows L2
theorem op_addN {X : Cx} : OpR X (binaryOp .Add) (fun x y H Q => ∃ i j : Nat, x = vN i ∧ y = vN j ∧ Q (vN (i + j)) H) := by
  intro pins s σ H x y v u Q I rx ry h
  obtain ⟨i, j, rfl, rfl, q⟩ := h
  exact op_add pins s σ H _ _ v u Q I rx ry ⟨(i : Int), (j : Int), rfl, rfl, q⟩
theorem StrAt.updL {F : Hp} {p D : Addr} {xs ys : List V} (h : StrAt F p) (hD : F D = some (.lst xs)) (hne : D ≠ p) : StrAt (L2.upd F D (.lst ys)) p := by
  obtain ⟨sc, o, ns, c, k, h1, h2, h3, h4⟩ := h
  refine ⟨sc, o, ns, c, k, ?_, ?_, h3, h4⟩
  · rw [upd_ne hne.symm]
    exact h1
  · rw [upd_ne (ne_of h2 hD fun z => nomatch z)]
    exact h2
theorem erase_map {α β : Type} (f : α → β) : ∀ (l : List α) (i : Nat), (l.map f).eraseIdx i = (l.eraseIdx i).map f
  | [], _ => rfl
  | _ :: _, 0 => rfl
  | a :: l, i + 1 => congrArg (f a :: ·) (erase_map f l i)
theorem mem_snoc {α : Type} {l : List α} {x : α} {P : α → Prop} (h : ∀ y ∈ l, P y) (hx : P x) : ∀ y ∈ l ++ [x], P y := fun y hy => by
  rcases List.mem_append.mp hy with h1 | h1
  · exact h y h1
  · have : y = x := by simpa using h1
    exact this ▸ hx
section
variable {P : Program} {w : World} {K : PySem.W.Frag} {mg : Str → Option Value} {base : Heap}
abbrev sLSystem : Stmt := top 38
theorem sc_law_system : FnScope ["_law_stream_here", "_law_most", "_law_states", "_law_commands", "_law_kind", "_law_k", "_law_row", "_law_state", "_law_left"] ["_law_stream_here", "_law_most"] (defScope sLSystem) := ⟨rfl, rfl, rfl, by decide +kernel, rfl, by decide +kernel, by decide +kernel⟩
def spSystem : Sp := fun vs H Q _ => ∃ (p : Addr) (m : Nat), vs = [.ref p, vN m] ∧ StrAt H p ∧ 1 ≤ m ∧ m ≤ 8 ∧ ∀ H' a S, But p H H' → StrAt H' p → SysAt H' a S → Q (.ref a) H'
theorem seqIx {n d : Nat} (h : d < n) : seqIndex? (d : Int) n = some d := by
  unfold seqIndex?
  simp
  omega
theorem sys_mk {H : Hp} {a ca : Addr} {n s : Nat} {rs : List Addr} {cs : List (List Nat)} (h1 : H a = some (.tup [vN n, vN s, .ref ca])) (h2 : H ca = some (.tup (rs.map V.ref))) (h3 : RowsAt H rs cs) (hn1 : 1 ≤ n) (hn8 : n ≤ 8) (hs : s < n) (h4 : cs.length ≤ 4) (hok : RowsOk cs n) : SysAt H a ⟨n, s, cs⟩ :=
  ⟨⟨hn1, hn8, hs, h4, fun r hr => (hok r hr).1, fun r hr => (hok r hr).2⟩, ca, rs, h1, h2, h3⟩
theorem cal_law_system (D : Dfn K mg "_law_system" sLSystem ["_law_stream_here", "_law_most"]) (B : Bl mg) (c_law_next : Cal P w K mg base CX0 1 "_law_next" spNext) (c_law_turns : Cal P w K mg base CX0 2 "_law_turns" spTurns) : Cal P w K mg base CX0 3 "_law_system" spSystem := by
  refine cal_of D sc_law_system (fun vs H Q E h => ?_) (fun f cdv A outer s H vs Q E hr h => ?_)
  · obtain ⟨p, m, rfl, _⟩ := h
    rfl
  · obtain ⟨p, m, rfl, hst, hm1, hm8, q⟩ := h
    refine ⟨_, (pss_cons (ps_set (i := 2) sc_law_system.nd rfl (.inr rfl) (pe_op op_addN pe_int (pe_k c_law_next hr (by decide) (by rfl) (pa_cons (pv 0) (pa_cons (pv 1) pa_nil)))))
      (pss_cons (ps_set (i := 3) sc_law_system.nd rfl (.inl rfl) (pe_lst pa_nil))
      (pss_cons (ps_set (i := 4) sc_law_system.nd rfl (.inl rfl) (pe_k c_law_next hr (by decide) (by rfl) (pa_cons (pv 0) (pa_cons pe_int pa_nil))))
      (pss_cons (ps_for PassesOwn.never rfl (pi_range1 (by rfl) B.range (pa_cons (pe_k c_law_next hr (by decide) (by rfl) (pa_cons (pv 0) (pa_cons pe_int pa_nil))) pa_nil)) (pg_name (i := 5) sc_law_system.nd rfl (.inl rfl)) (pss_cons (ps_setLc (i := 6) (own := [("_law_state", 7)]) (g := (gName 7)) (tt := tYes) rfl sc_law_system.nd rfl rfl (sw_true rfl rfl rfl (by decide +kernel)) (pi_range1 (by rfl) B.range (pa_cons (pv 2) pa_nil)) (blkOk_by (N := ["_law_stream_here", "_law_most", "_law_states", "_law_commands", "_law_kind", "_law_k", "_law_row", "_law_state", "_law_left"]) (sc := defScope sLSystem) (by decide +kernel)) (fun _ _ _ _ _ => (pg_name (i := 7) sc_law_system.nd rfl (.inl rfl))) (fun _ _ _ _ _ => pts_nil) (fun _ _ _ _ _ => (pe_k c_law_next hr (by decide) (by rfl) (pa_cons (pv 0) (pa_cons (pv 2) pa_nil)))))
      (pss_cut (ps_if (pt_cmpR op_gt (pv 4) pe_int (nomark _)) (pss_cons (ps_set (i := 8) sc_law_system.nd rfl (.inr rfl) (pe_listRg rfl (by rfl) B.list (prg_1 (by rfl) B.range (pv 2))))
      (pss_one (ps_setLc (i := 6) (own := [("_law_state", 7)]) (g := (gName 7)) (tt := tYes) rfl sc_law_system.nd rfl rfl (sw_true rfl rfl rfl (by decide +kernel)) (pi_range1 (by rfl) B.range (pa_cons (pv 2) pa_nil)) (blkOk_by (N := ["_law_stream_here", "_law_most", "_law_states", "_law_commands", "_law_kind", "_law_k", "_law_row", "_law_state", "_law_left"]) (sc := defScope sLSystem) (by decide +kernel)) (fun _ _ _ _ _ => (pg_name (i := 7) sc_law_system.nd rfl (.inl rfl))) (fun _ _ _ _ _ => pts_nil) (fun _ _ _ _ _ => (kbm K PySem.F.plainAttrs_list PySem.F.slot_list_pop PySem.F.type_list_pop mt_popAt (pv 8) (pa_cons (pe_k c_law_next hr (by decide) (by rfl) (pa_cons (pv 0) (pa_cons (pe_callB (klen K) (by rfl) B.len PySem.boot_len (pa_cons (pv 8) pa_nil)) pa_nil))) pa_nil)))))) pss_nil)
      (pss_one (ps_expr (kbm K PySem.F.plainAttrs_list PySem.F.slot_list_append PySem.F.type_list_append mt_append (pv 3) (pa_cons (pe_callTy (ktupOf K) (by rfl) B.tuple PyProof.Rows.boot_tuple (pa_cons (pv 6) pa_nil)) pa_nil)))))))
      (pss_cut (ps_if (pt_cmpR op_eq (pv 4) pe_int (nomark _)) (pss_one (ps_set (i := 3) sc_law_system.nd rfl (.inl rfl) (pe_k c_law_turns hr (by decide) (by rfl) (pa_cons (pv 0) (pa_cons (pv 2) pa_nil))))) pss_nil)
      (pss_one (ps_ret (pe_tup (pa_cons (pv 2) (pa_cons (pe_k c_law_next hr (by decide) (by rfl) (pa_cons (pv 0) (pa_cons (pv 2) pa_nil))) (pa_cons (pe_callTy (ktupOf K) (by rfl) B.tuple PyProof.Rows.boot_tuple (pa_cons (pv 3) pa_nil)) pa_nil))))))))))), ?_⟩
    -- states = 1 + next(stream, most)
    refine ⟨_, rfl, _, rfl, p, m, rfl, hst, by omega, by omega, fun G1 d bt1 st1 hd => ⟨1, d, rfl, rfl, ?_⟩⟩
    have hn1 : 1 ≤ 1 + d := by omega
    have hn8 : 1 + d ≤ 8 := by omega
    generalize 1 + d = n at hn1 hn8 ⊢
    -- commands = []
    refine ⟨Nat.zero_le _, fun l hl => ?_⟩
    have bt2 := bt1.trans (But.of (same_upd (o := .lst []) hl))
    have st2 := st1.same (same_upd (o := .lst []) hl)
    have hlH : H l = none := bt1.free st1.there hl
    have hlp : l ≠ p := fun e => st1.there (e ▸ hl)
    have hl2 : (upd G1 l (.lst [])) l = some (.lst []) := upd_same
    generalize upd G1 l (.lst []) = G2 at bt2 st2 hl2 ⊢
    -- kind = next(stream, 3)
    refine ⟨_, rfl, p, 3, rfl, st2, by decide, by decide, fun G3 kd bt3 st3 hkd => ?_⟩
    -- for k in range(next(stream, 4))
    refine ⟨_, rfl, p, 4, rfl, st3, by decide, by decide, fun G4 cn bt4 st4 hcn => ⟨(cn : Int), rfl, by omega, by omega,
      for_range (lo := 0) (n := cn) (fun i σ G => ∃ (rs : List Addr) (cs : List (List Nat)) (y5 y6 y8 : Option V), σ = [some (.ref p), some (vN m), some (vN n), some (.ref l), some (vN kd), y5, y6, none, y8] ∧ But p H G ∧ StrAt G p ∧ G l = some (.lst (rs.map V.ref)) ∧ RowsAt G rs cs ∧ cs.length = i ∧ RowsOk cs n) ?_ ?_ ?_⟩⟩
    · exact ⟨[], [], none, none, none, rfl, (bt2.trans bt3).trans bt4, st4, bt4 _ _ hlp (bt3 _ _ hlp hl2), ⟨rfl, fun i r row h => by simp at h⟩, rfl, fun r h => nomatch h⟩
    · rintro i σ G hi ⟨rs, cs, y5, y6, y8, rfl, btG, stG, hG, hR, hlen, hok⟩
      -- row = [next(..) for ..]
      refine ⟨_, rfl, (n : Int), rfl, by omega, by omega, fun Dd hD => lc_range (lo := 0) (n := n) (fun j F => But p G F ∧ StrAt F p ∧ ∃ row : List Nat, F Dd = some (.lst (row.map vN)) ∧ row.length = j ∧ ∀ x ∈ row, x < n) ?_ ?_ ?_⟩
      · exact ⟨But.of (same_upd hD), stG.same (same_upd hD), [], upd_same, rfl, fun x h => nomatch h⟩
      · rintro j F hj ⟨btF, stF, row, hF, hl1, hall⟩
        have hDp : Dd ≠ p := fun e => stG.there (e ▸ hD)
        refine ⟨rfl, _, rfl, _, rfl, p, n, rfl, stF, by omega, by omega, fun F2 x bt2' st2' hx => ⟨_, bt2' _ _ hDp hF, ?_, ?_, ?_, row ++ [x], ?_, ?_, mem_snoc hall hx⟩⟩
        · rw [List.length_map]
          exact small1000 (by omega)
        · exact But.upd2 (btF.trans bt2') hD
        · exact st2'.updL (bt2' _ _ hDp hF) hDp
        · rw [upd_same, List.map_append]
          rfl
        · rw [List.length_append, hl1]
          rfl
      · rintro F ⟨btF, stF, row, hF, hl1, hall⟩
        have hDp : Dd ≠ p := fun e => stG.there (e ▸ hD)
        -- if kind > 0
        refine ⟨fun σ F' => ∃ (rw : Addr) (row : List Nat) (y8 : Option V), σ = [some (.ref p), some (vN m), some (vN n), some (.ref l), some (vN kd), some (.int (0 + (i : Int))), some (.ref rw), none, y8] ∧ But p G F' ∧ StrAt F' p ∧ F' rw = some (.lst (row.map vN)) ∧ row.length = n ∧ ∀ x ∈ row, x < n, ?_, ?_⟩
        · refine ⟨_, rfl, _, _, rfl, rfl, _, rfl, ite2 (fun _ => ?_) (fun _ => ⟨Dd, row, y8, rfl, btF, stF, hF, hl1, hall⟩)⟩
          -- left = list(range(states))
          refine ⟨_, rfl, _, rfl, rgok (by omega), fun lf hlf => ?_⟩
          rw [rg0]
          have hlfG : G lf = none := btF.free stF.there hlf
          have hlfp : lf ≠ p := fun e => stF.there (e ▸ hlf)
          have btA : But p G (upd F lf (.lst ((List.range n).map vN))) := But.upd2 btF hlfG
          have stA := stF.same (same_upd (o := .lst ((List.range n).map vN)) hlf)
          have hlA : (upd F lf (.lst ((List.range n).map vN))) lf = some (.lst ((List.range n).map vN)) := upd_same
          generalize upd F lf (.lst ((List.range n).map vN)) = FA at btA stA hlA ⊢
          refine ⟨_, rfl, (n : Int), rfl, by omega, by omega, fun D2 hD2 => lc_range (lo := 0) (n := n) (fun j F => But p G F ∧ StrAt F p ∧ ∃ row ls : List Nat, F D2 = some (.lst (row.map vN)) ∧ F lf = some (.lst (ls.map vN)) ∧ row.length = j ∧ ls.length + j = n ∧ (∀ x ∈ row, x < n) ∧ ∀ x ∈ ls, x < n) ?_ ?_ ?_⟩
          · refine ⟨btA.trans (But.of (same_upd hD2)), stA.same (same_upd hD2), [], List.range n, upd_same, same_upd hD2 _ _ hlA, rfl, by rw [List.length_range]; rfl, (fun x h => nomatch h), fun x h => List.mem_range.mp h⟩
          · rintro j F hj ⟨btF, stF, row, ls, hF, hL, hl1, hl2, ha1, ha2⟩
            have hD2p : D2 ≠ p := fun e => stA.there (e ▸ hD2)
            have hD2lf : D2 ≠ lf := fun e => by rw [e, hlA] at hD2; cases hD2
            have hD2G : G D2 = none := btA.free stA.there hD2
            refine ⟨rfl, .ref lf, rfl, .inl ⟨rfl, _, SqL.of hL⟩, _, rfl, _, rfl, _, ls.length, rfl, .inl ⟨_, SqL.of hL, by rw [List.length_map]⟩, p, ls.length, rfl, stF, by omega, by omega, fun F2 x bt2' st2' hx => ?_⟩
            have hL2 := bt2' _ _ hlfp hL
            have hF2 := bt2' _ _ hD2p hF
            have hx1 : ls[x]? = some ls[x] := List.getElem?_eq_getElem hx
            refine ⟨lf, _, (x : Int), x, vN ls[x], rfl, rfl, hL2, by omega, by omega, ?_, map_at hx1, row.map vN, ?_, ?_, ?_, ?_, row ++ [ls[x]], ls.eraseIdx x, ?_, ?_, ?_, ?_, ?_, ?_⟩
            · rw [List.length_map]
              exact seqIx hx
            · rw [upd_ne hD2lf]
              exact hF2
            · rw [List.length_map]
              exact small1000 (by omega)
            · exact But.upd2 (But.upd2 (btF.trans bt2') hlfG) hD2G
            · exact (st2'.updL hL2 hlfp).updL (xs := row.map vN) (by rw [upd_ne hD2lf]; exact hF2) hD2p
            · rw [upd_same, List.map_append]
              rfl
            · rw [upd_ne hD2lf.symm, upd_same]
              congr 2
              exact erase_map _ _ _
            · rw [List.length_append, hl1]
              rfl
            · rw [List.length_eraseIdx_of_lt hx]
              omega
            · exact mem_snoc ha1 (ha2 _ (List.getElem_mem hx))
            · exact fun y hy => ha2 y (List.mem_of_mem_eraseIdx hy)
          · rintro F ⟨btF, stF, row, ls, hF, hL, hl1, hl2, ha1, ha2⟩
            exact ⟨D2, row, some (.ref lf), rfl, btF, stF, hF, hl1, ha1⟩
        · rintro σ F' ⟨rw', row, y8, rfl, btF', stF', hF', hl1', hall'⟩
          -- commands.append(tuple(row))
          have hlF := btF' _ _ hlp hG
          refine ⟨_, rfl, .inl ⟨rfl, _, SqL.of hlF⟩, _, rfl, rw', _, rfl, SqL.of hF', fun r hr2 => ?_⟩
          have s5 : Same F' (upd F' r (.tup (row.map vN))) := same_upd hr2
          have hl5 := s5 _ _ hlF
          refine ⟨l, _, _, rfl, rfl, hl5, ?_, rs ++ [r], cs ++ [row], _, _, _, rfl, But.upd2 ((btG.trans btF').trans (But.of s5)) hlH, (stF'.same s5).updL hl5 hlp, ?_, ?_, ?_, ?_⟩
          · rw [List.length_map, hR.len, hlen]
            exact small1000 (by omega)
          · rw [upd_same, List.map_append]
            rfl
          · have key : ∀ (b : Addr) (xs : List V), (upd F' r (.tup (row.map vN))) b = some (.tup xs) → (upd (upd F' r (.tup (row.map vN))) l (.lst (rs.map V.ref ++ [.ref r]))) b = some (.tup xs) := fun b xs h => by
              rw [upd_ne (ne_of h hl5 (fun z => nomatch z))]
              exact h
            exact (hR.same (btF'.tups stG)).snoc (fun b xs h => key _ _ (s5 _ _ h)) (key _ _ upd_same)
          · rw [List.length_append, hlen]
            rfl
          · exact mem_snoc hok ⟨hl1', hall'⟩
    · rintro σ G ⟨rs, cs, y5, y6, y8, rfl, btG, stG, hG, hR, hlen, hok⟩
      -- if kind == 2
      refine ⟨fun σ F => ∃ (t : Addr) (rs : List Addr) (cs : List (List Nat)), σ = [some (.ref p), some (vN m), some (vN n), some (.ref t), some (vN kd), y5, y6, none, y8] ∧ But p H F ∧ StrAt F p ∧ F t = some (.lst (rs.map V.ref)) ∧ RowsAt F rs cs ∧ cs.length ≤ 4 ∧ RowsOk cs n, ?_, ?_⟩
      · refine ⟨_, rfl, rfl, _, rfl, ite2 (fun _ => ?_) (fun _ => ⟨l, rs, cs, rfl, btG, stG, hG, hR, by omega, hok⟩)⟩
        exact ⟨_, rfl, _, rfl, p, n, rfl, stG, hn1, hn8, fun F t rs cs btF stF _ hF hRF h4 hokF => ⟨t, rs, cs, rfl, btG.trans btF, stF, hF, hRF, h4, hokF⟩⟩
      · rintro σ F ⟨t, rs, cs, rfl, btF, stF, hF, hRF, h4, hokF⟩
        -- return (states, next(stream, states), tuple(commands))
        have htp : t ≠ p := by
          obtain ⟨sc, o, ns, c, k, h1, _⟩ := stF
          refine ne_of hF h1 fun z => ?_
          have z' : rs.map V.ref = [.ref sc, .int c, .int k] := by injection z
          match rs, z' with
          | [], z' => cases z'
          | [_], z' => cases z'
          | _ :: _ :: _, z' => cases (List.cons.inj (List.cons.inj z').2).1
        refine ⟨_, rfl, _, rfl, _, rfl, p, n, rfl, stF, by omega, by omega, fun F2 s0 bt6 st6 hs0 => ⟨_, rfl, t, _, rfl, SqL.of (bt6 _ _ htp hF), fun ca hca => ⟨(show (3 : Nat) ≤ sizeLine by decide), fun a ha => ?_⟩⟩⟩
        have s6 := same_upd (o := .tup (rs.map V.ref)) hca
        have s7 := s6.trans (same_upd (o := .tup [vN n, vN s0, .ref ca]) ha)
        refine q _ a ⟨n, s0, cs⟩ ((btF.trans bt6).trans (But.of s7)) (st6.same s7) (sys_mk upd_same ?_ ((hRF.same (bt6.tups stF)).same fun b xs h => s7 _ _ h) hn1 hn8 hs0 h4 hokF)
        rw [upd_ne (ne_of_none upd_same ha)]
        exact upd_same
end
end Ub

namespace Ub
open PySem PySem.Spec PyProof.Rows L2
/-- a found pair: the entry's tuple, the pair's, the pair, the sequence's, the sequence -/
structure Ent where
  fa : Addr
  pa : Addr
  nd : Nat × Nat
  sa : Addr
  u : List Nat
def Ent.v (e : Ent) : V := .ref e.fa
structure EntAt (H : Hp) (S : Sys) (a b : Nat) (e : Ent) : Prop where
  f : H e.fa = some (.tup [.ref e.pa, .ref e.sa])
  p : H e.pa = some (.tup [vN e.nd.1, vN e.nd.2])
  s : H e.sa = some (.tup (e.u.map vN))
  wd : Wd S e.u
  one : led S a e.u = e.nd.1
  two : led S b e.u = e.nd.2
theorem EntAt.tups {H H' : Hp} {S : Sys} {a b : Nat} {e : Ent} (h : EntAt H S a b e) (sm : ∀ b xs, H b = some (.tup xs) → H' b = some (.tup xs)) : EntAt H' S a b e := ⟨sm _ _ h.f, sm _ _ h.p, sm _ _ h.s, h.wd, h.one, h.two⟩
structure LPairs (H : Hp) (t : Addr) (S : Sys) (a b : Nat) (F : List Ent) : Prop where
  lst : H t = some (.lst (F.map Ent.v))
  ents : ∀ e ∈ F, EntAt H S a b e
  nd : (F.map (·.nd)).Nodup
  mem : ∀ x, x ∈ F.map (·.nd) ↔ PR S a b x
  len : F.length ≤ 64
section
variable {P : Program} {w : World} {K : PySem.W.Frag} {mg : Str → Option Value} {base : Heap}
abbrev sLGreat : Stmt := top 56
theorem sc_law_great : FnScope ["_law_stream_here", "_law_many", "_law_rows_here"] ["_law_stream_here"] (defScope sLGreat) := ⟨rfl, rfl, rfl, by decide +kernel, rfl, by decide +kernel, by decide +kernel⟩
def spGreat : Sp := fun vs H Q _ => ∃ p : Addr, vs = [.ref p] ∧ StrAt H p ∧ ∀ H' a S, But p H H' → StrAt H' p → SysAt H' a S → Q (.ref a) H'
theorem cal_law_great (D : Dfn K mg "_law_great" sLGreat ["_law_stream_here"]) (B : Bl mg) (c_law_next : Cal P w K mg base CX0 1 "_law_next" spNext) : Cal P w K mg base CX0 2 "_law_great" spGreat := by
  refine cal_of D sc_law_great (fun vs H Q E h => ?_) (fun f cdv A outer s H vs Q E hr h => ?_)
  · obtain ⟨p, rfl, _⟩ := h
    rfl
  · obtain ⟨p, rfl, hst, q⟩ := h
    refine ⟨_, (pss_cons (ps_set (i := 1) sc_law_great.nd rfl (.inl rfl) (pe_op op_addN pe_int (pe_k c_law_next hr (by decide) (by rfl) (pa_cons (pv 0) (pa_cons pe_int pa_nil)))))
      (pss_cons (ps_set (i := 2) sc_law_great.nd rfl (.inl rfl) (pe_lst (pa_cons (pe_tup (pa_cons pe_int (pa_cons pe_int (pa_cons pe_int (pa_cons pe_int (pa_cons pe_int (pa_cons pe_int (pa_cons pe_int (pa_cons pe_int pa_nil))))))))) (pa_cons (pe_tup (pa_cons pe_int (pa_cons pe_int (pa_cons pe_int (pa_cons pe_int (pa_cons pe_int (pa_cons pe_int (pa_cons pe_int (pa_cons pe_int pa_nil))))))))) (pa_cons (pe_tup (pa_cons pe_int (pa_cons pe_int (pa_cons pe_int (pa_cons pe_int (pa_cons pe_int (pa_cons pe_int (pa_cons pe_int (pa_cons pe_int pa_nil))))))))) (pa_cons (pe_tup (pa_cons pe_int (pa_cons pe_int (pa_cons pe_int (pa_cons pe_int (pa_cons pe_int (pa_cons pe_int (pa_cons pe_int (pa_cons pe_int pa_nil))))))))) pa_nil))))))
      (pss_cut (ps_if (pt_cmpR op_eq (pe_k c_law_next hr (by decide) (by rfl) (pa_cons (pv 0) (pa_cons pe_int pa_nil))) pe_int (nomark _)) (pss_one (ps_ret (pe_tup (pa_cons pe_int (pa_cons (pe_k c_law_next hr (by decide) (by rfl) (pa_cons (pv 0) (pa_cons pe_int pa_nil))) (pa_cons (pe_tup (pa_cons (pe_tup (pa_cons pe_int (pa_cons pe_int (pa_cons pe_int (pa_cons pe_int (pa_cons pe_int (pa_cons pe_int pa_nil))))))) (pa_cons (pe_tup (pa_cons pe_int (pa_cons pe_int (pa_cons pe_int (pa_cons pe_int (pa_cons pe_int (pa_cons pe_int pa_nil))))))) pa_nil))) pa_nil)))))) pss_nil)
      (pss_one (ps_ret (pe_tup (pa_cons pe_int (pa_cons (pe_k c_law_next hr (by decide) (by rfl) (pa_cons (pv 0) (pa_cons pe_int pa_nil))) (pa_cons (pe_callTy (ktupOf K) (by rfl) B.tuple PyProof.Rows.boot_tuple (pa_cons (pe_slice (kslL K) (pv 2) po_none (po_some (pv 1))) pa_nil)) pa_nil))))))))), ?_⟩
    refine ⟨_, rfl, p, 4, rfl, hst, by decide, by decide, fun G1 d bt1 st1 hd => ⟨1, d, rfl, rfl, ?_⟩⟩
    have hm1 : 1 ≤ 1 + d := by omega
    have hm4 : 1 + d ≤ 4 := by omega
    generalize 1 + d = m at hm1 hm4 ⊢
    refine ⟨(show (8 : Nat) ≤ sizeLine by decide), fun t1 h1 => ⟨(show (8 : Nat) ≤ sizeLine by decide), fun t2 h2 => ⟨(show (8 : Nat) ≤ sizeLine by decide), fun t3 h3 => ⟨(show (8 : Nat) ≤ sizeLine by decide), fun t4 h4 => ⟨(show (4 : Nat) ≤ sizeLine by decide), fun l hl => ?_⟩⟩⟩⟩⟩
    have s1 := same_upd (o := .tup ([1, 2, 3, 0, 7, 4, 5, 6].map vN)) h1
    have s2 := same_upd (o := .tup ([4, 5, 6, 7, 0, 1, 2, 3].map vN)) h2
    have s3 := same_upd (o := .tup ([2, 3, 0, 1, 6, 7, 4, 5].map vN)) h3
    have s4 := same_upd (o := .tup ([7, 4, 5, 6, 1, 2, 3, 0].map vN)) h4
    have s5 := same_upd (o := .lst ([t1, t2, t3, t4].map V.ref)) hl
    have sA := (((s1.trans s2).trans s3).trans s4).trans s5
    have hR : RowsAt (upd (upd (upd (upd (upd G1 t1 (.tup ([1, 2, 3, 0, 7, 4, 5, 6].map vN))) t2 (.tup ([4, 5, 6, 7, 0, 1, 2, 3].map vN))) t3 (.tup ([2, 3, 0, 1, 6, 7, 4, 5].map vN))) t4 (.tup ([7, 4, 5, 6, 1, 2, 3, 0].map vN))) l (.lst ([t1, t2, t3, t4].map V.ref))) _ _ := rows_four (r1 := [1, 2, 3, 0, 7, 4, 5, 6]) (r2 := [4, 5, 6, 7, 0, 1, 2, 3]) (r3 := [2, 3, 0, 1, 6, 7, 4, 5]) (r4 := [7, 4, 5, 6, 1, 2, 3, 0])
      (s5 _ _ (s4 _ _ (s3 _ _ (s2 _ _ upd_same)))) (s5 _ _ (s4 _ _ (s3 _ _ upd_same))) (s5 _ _ (s4 _ _ upd_same)) (s5 _ _ upd_same)
    have hL : (upd (upd (upd (upd (upd G1 t1 (.tup ([1, 2, 3, 0, 7, 4, 5, 6].map vN))) t2 (.tup ([4, 5, 6, 7, 0, 1, 2, 3].map vN))) t3 (.tup ([2, 3, 0, 1, 6, 7, 4, 5].map vN))) t4 (.tup ([7, 4, 5, 6, 1, 2, 3, 0].map vN))) l (.lst ([t1, t2, t3, t4].map V.ref))) l = some (.lst ([t1, t2, t3, t4].map V.ref)) := upd_same
    have hlp : l ≠ p := fun e => (st1.same (((s1.trans s2).trans s3).trans s4)).there (e ▸ hl)
    have btA : But p H (upd (upd (upd (upd (upd G1 t1 (.tup ([1, 2, 3, 0, 7, 4, 5, 6].map vN))) t2 (.tup ([4, 5, 6, 7, 0, 1, 2, 3].map vN))) t3 (.tup ([2, 3, 0, 1, 6, 7, 4, 5].map vN))) t4 (.tup ([7, 4, 5, 6, 1, 2, 3, 0].map vN))) l (.lst ([t1, t2, t3, t4].map V.ref))) := bt1.trans (But.of sA)
    have stA : StrAt (upd (upd (upd (upd (upd G1 t1 (.tup ([1, 2, 3, 0, 7, 4, 5, 6].map vN))) t2 (.tup ([4, 5, 6, 7, 0, 1, 2, 3].map vN))) t3 (.tup ([2, 3, 0, 1, 6, 7, 4, 5].map vN))) t4 (.tup ([7, 4, 5, 6, 1, 2, 3, 0].map vN))) l (.lst ([t1, t2, t3, t4].map V.ref))) p := st1.same sA
    clear sA s1 s2 s3 s4 s5 h1 h2 h3 h4 hl
    show tCutU _ _ _ [some (.ref p), some (vN m), some (.ref l)] (upd (upd (upd (upd (upd G1 t1 (.tup ([1, 2, 3, 0, 7, 4, 5, 6].map vN))) t2 (.tup ([4, 5, 6, 7, 0, 1, 2, 3].map vN))) t3 (.tup ([2, 3, 0, 1, 6, 7, 4, 5].map vN))) t4 (.tup ([7, 4, 5, 6, 1, 2, 3, 0].map vN))) l (.lst ([t1, t2, t3, t4].map V.ref)))
    revert hR hL btA stA
    generalize upd (upd (upd (upd (upd G1 t1 (.tup ([1, 2, 3, 0, 7, 4, 5, 6].map vN))) t2 (.tup ([4, 5, 6, 7, 0, 1, 2, 3].map vN))) t3 (.tup ([2, 3, 0, 1, 6, 7, 4, 5].map vN))) t4 (.tup ([7, 4, 5, 6, 1, 2, 3, 0].map vN))) l (.lst ([t1, t2, t3, t4].map V.ref)) = G2
    intro hR hL btA stA
    refine ⟨fun σ F => σ = [some (.ref p), some (vN m), some (.ref l)] ∧ But p G2 F ∧ StrAt F p, ?_, ?_⟩
    · refine ⟨_, rfl, p, 3, rfl, stA, by decide, by decide, fun G3 d3 bt3 st3 hd3 => ⟨rfl, _, rfl, ite2 (fun _ => ?_) (fun _ => ⟨rfl, bt3, st3⟩)⟩⟩
      refine ⟨_, rfl, p, 6, rfl, st3, by decide, by decide, fun G4 s0 bt4 st4 hs0 => ?_⟩
      refine ⟨(show (6 : Nat) ≤ sizeLine by decide), fun u1 k1 => ⟨(show (6 : Nat) ≤ sizeLine by decide), fun u2 k2 => ⟨(show (2 : Nat) ≤ sizeLine by decide), fun ca kc => ⟨(show (3 : Nat) ≤ sizeLine by decide), fun a ka => ?_⟩⟩⟩⟩
      have e1 := same_upd (o := .tup ([1, 0, 4, 5, 2, 3].map vN)) k1
      have e2 := same_upd (o := .tup ([2, 3, 0, 1, 5, 4].map vN)) k2
      have e3 := same_upd (o := .tup ([u1, u2].map V.ref)) kc
      have e4 := same_upd (o := .tup [vN 6, vN s0, .ref ca]) ka
      have eA := ((e1.trans e2).trans e3).trans e4
      exact q _ a ⟨6, s0, [[1, 0, 4, 5, 2, 3], [2, 3, 0, 1, 5, 4]]⟩ (((btA.trans bt3).trans bt4).trans (But.of eA)) (st4.same eA) (sys_mk upd_same (e4 _ _ upd_same) (rows_two (e4 _ _ (e3 _ _ (e2 _ _ upd_same))) (e4 _ _ (e3 _ _ upd_same))) (by decide) (by decide) hs0 (by decide) row6)
    · rintro σ F ⟨rfl, btF, stF⟩
      refine ⟨_, rfl, p, 8, rfl, stF, by decide, by decide, fun G4 s0 bt4 st4 hs0 => ?_⟩
      have hL4 := bt4 _ _ hlp (btF _ _ hlp hL)
      have hR4 := (hR.same (btF.tups stA)).same (bt4.tups stF)
      refine ⟨.ref l, rfl, _, rfl, (m : Int), rfl, l, _, rfl, SqL.of hL4, fun sl hsl => ⟨sl, _, rfl, SqL.of upd_same, fun ca hca => ⟨(show (3 : Nat) ≤ sizeLine by decide), fun a ha => ?_⟩⟩⟩
      rw [cut_take] at hca ha ⊢
      have e1 := same_upd (o := .lst (([t1, t2, t3, t4].map V.ref).take m)) hsl
      have e2 := same_upd (o := .tup (([t1, t2, t3, t4].map V.ref).take m)) hca
      have e3 := same_upd (o := .tup [vN 8, vN s0, .ref ca]) ha
      have eA := (e1.trans e2).trans e3
      refine q _ a ⟨8, s0, [[1, 2, 3, 0, 7, 4, 5, 6], [4, 5, 6, 7, 0, 1, 2, 3], [2, 3, 0, 1, 6, 7, 4, 5], [7, 4, 5, 6, 1, 2, 3, 0]].take m⟩ (((btA.trans btF).trans bt4).trans (But.of eA)) (st4.same eA) (sys_mk (rs := [t1, t2, t3, t4].take m) upd_same ?_ ((hR4.same fun b xs h => eA _ _ h).take m) (by decide) (by decide) hs0 ?_ fun r hr => row8 r (List.mem_of_mem_take hr))
      · rw [List.map_take]
        exact e3 _ _ upd_same
      · rw [List.length_take]
        exact Nat.min_le_right _ _
abbrev sLLed : Stmt := top 40
theorem sc_law_led : FnScope ["_law_system_here", "_law_state", "_law_sequence", "_law_here", "_law_command"] ["_law_system_here", "_law_state", "_law_sequence"] (defScope sLLed) := ⟨rfl, rfl, rfl, by decide +kernel, rfl, by decide +kernel, by decide +kernel⟩
theorem cal_law_led (D : Dfn K mg "_law_led" sLLed ["_law_system_here", "_law_state", "_law_sequence"]) : Cal P w K mg base CX0 1 "_law_led" (spLed K) := by
  refine cal_of D sc_law_led (fun vs H Q E h => ?_) (fun f cdv A outer s H vs Q E hr h => ?_)
  · obtain ⟨a, wa, S, x, u, rfl, _⟩ := h
    rfl
  · obtain ⟨a, wa, S, x, u, rfl, hS, hx, hw, hu, q⟩ := h
    refine ⟨_, (pss_cons (ps_set (i := 3) sc_law_led.nd rfl (.inl rfl) (pv 1))
      (pss_cons (ps_for PassesOwn.never rfl (kpiT K (pv 2)) (pg_name (i := 4) sc_law_led.nd rfl (.inl rfl)) (pss_one (ps_set (i := 3) sc_law_led.nd rfl (.inl rfl) (pe_ix (kixT K) (pe_ix (kixT K) (pe_ix (kixT K) (pv 0) pe_int (fun _ _ => rfl)) (pv 4) (fun _ _ => rfl)) (pv 3) (fun _ _ => rfl)))))
      (pss_one (ps_ret (pv 3))))), ?_⟩
    refine ⟨_, rfl, _, rfl, wa, rfl, ⟨_, hw⟩, for_tup (K := K) (xs := u.map vN) (fun i σ H' => ∃ y, σ = [some (.ref a), some (vN x), some (.ref wa), some (vN (led S x (u.take i))), y] ∧ H' = H) ⟨none, rfl, rfl⟩ ?_ ?_ ?_⟩
    · rintro i σ H' _ ⟨_, _, rfl⟩
      exact hw
    · rintro i y σ H' hi ⟨z, rfl, rfl⟩
      obtain ⟨c, hc, rfl⟩ := of_map_at hi
      have hcl : c < S.cs.length := hu c (List.mem_of_getElem? hc)
      have hxl : led S x (u.take i) < S.n := led_lt hS.ok hx fun d hd => hu d (List.mem_of_mem_take hd)
      obtain ⟨ca, rs, r, xs, h1, h2, h3, h4, h5⟩ := hS.step hxl hcl
      refine ⟨.ref a, rfl, a, _, 2, .ref ca, rfl, rfl, SqT.of h1, atI_nat (j := 2) rfl, vN c, rfl, ca, _, c, .ref r, rfl, rfl, SqT.of h2, atI_nat h3, _, rfl, r, _, (led S x (u.take i) : Int), _, rfl, rfl, SqT.of h4, atI_nat h5, some (vN c), ?_, rfl⟩
      rw [led_take hc]
      rfl
    · rintro σ H' ⟨z, rfl, rfl⟩
      rw [List.length_map, List.take_length]
      exact ⟨_, rfl, q⟩
abbrev sLPairs : Stmt := top 41
theorem sc_law_pairs : FnScope ["_law_system_here", "_law_one", "_law_other", "_law_found", "_law_known", "_law_at", "_law_pair", "_law_sequence", "_law_command", "_law_later"] ["_law_system_here", "_law_one", "_law_other"] (defScope sLPairs) := ⟨rfl, rfl, rfl, by decide +kernel, rfl, by decide +kernel, by decide +kernel⟩
def spLPairs : Sp := fun vs H Q _ => ∃ (p : Addr) (S : Sys) (a b : Nat), vs = [.ref p, vN a, vN b] ∧ SysAt H p S ∧ a < S.n ∧ b < S.n ∧ ∀ H' t F, Same H H' → LPairs H' t S a b F → Q (.ref t) H'
def known (F : List Ent) : List ((Nat × Nat) × V) := F.map fun e => (e.nd, V.bl true)
theorem known_fst (F : List Ent) : (known F).map (·.1) = F.map (·.nd) := by
  unfold known
  rw [List.map_map]
  rfl
theorem cal_law_pairs (D : Dfn K mg "_law_pairs" sLPairs ["_law_system_here", "_law_one", "_law_other"]) (B : Bl mg) : Cal P w K mg base CX0 1 "_law_pairs" spLPairs := by
  refine cal_of D sc_law_pairs (fun vs H Q E h => ?_) (fun f cdv A outer s H vs Q E hr h => ?_)
  · obtain ⟨p, S, a, b, rfl, _⟩ := h
    rfl
  · obtain ⟨p, S, a, b, rfl, hS, ha, hb, q⟩ := h
    have ok := hS.ok
    obtain ⟨ca, rs, h1, h2, h3⟩ := hS.num
    refine ⟨_, (pss_cons (ps_set (i := 3) sc_law_pairs.nd rfl (.inl rfl) (pe_lst (pa_cons (pe_tup (pa_cons (pe_tup (pa_cons (pv 1) (pa_cons (pv 2) pa_nil))) (pa_cons (pe_tup pa_nil) pa_nil))) pa_nil)))
      (pss_cons (ps_set (i := 4) sc_law_pairs.nd rfl (.inl rfl) (pe_disp1 (hu_of hr) (pe_tup (pa_cons (pv 1) (pa_cons (pv 2) pa_nil))) pe_bl))
      (pss_cons (ps_for PassesOwn.never rfl (pi_range1 (by rfl) B.range (pa_cons pe_int pa_nil)) (pg_name (i := 5) sc_law_pairs.nd rfl (.inl rfl)) (pss_one (ps_if (pt_cmpR op_lt (pv 5) (pe_callB (klen K) (by rfl) B.len PySem.boot_len (pa_cons (pv 3) pa_nil)) (nomark _)) (pss_cons (ps_asg (pe_ix (kixL K) (pv 3) (pv 5) (fun _ _ => rfl)) (kgT K rfl (pgs_cons (pg_name (i := 6) sc_law_pairs.nd rfl (.inl rfl)) (pgs_cons (pg_name (i := 7) sc_law_pairs.nd rfl (.inl rfl)) pgs_nil))))
      (pss_one (ps_for PassesOwn.never rfl (pi_range1 (by rfl) B.range (pa_cons (pe_callB (klen K) (by rfl) B.len PySem.boot_len (pa_cons (pe_ix (kixT K) (pv 0) pe_int (fun _ _ => rfl)) pa_nil)) pa_nil)) (pg_name (i := 8) sc_law_pairs.nd rfl (.inl rfl)) (pss_cons (ps_set (i := 9) sc_law_pairs.nd rfl (.inl rfl) (pe_tup (pa_cons (pe_ix (kixT K) (pe_ix (kixT K) (pe_ix (kixT K) (pv 0) pe_int (fun _ _ => rfl)) (pv 8) (fun _ _ => rfl)) (pe_ix (kixT K) (pv 6) pe_int (fun _ _ => rfl)) (fun _ _ => rfl)) (pa_cons (pe_ix (kixT K) (pe_ix (kixT K) (pe_ix (kixT K) (pv 0) pe_int (fun _ _ => rfl)) (pv 8) (fun _ _ => rfl)) (pe_ix (kixT K) (pv 6) pe_int (fun _ _ => rfl)) (fun _ _ => rfl)) pa_nil))))
      (pss_one (ps_if (pt_cmp (pc_dnotin (hu_of hr) (pv 9) (pv 4))) (pss_cons (ps_dput (hu_of hr) (pv 4) (pv 9) pe_bl rfl)
      (pss_one (ps_expr (kbm K PySem.F.plainAttrs_list PySem.F.slot_list_append PySem.F.type_list_append mt_append (pv 3) (pa_cons (pe_tup (pa_cons (pv 9) (pa_cons (pe_op (kcat K) (pv 7) (pe_tup (pa_cons (pv 8) pa_nil))) pa_nil))) pa_nil))))) pss_nil)))))) pss_nil)))
      (pss_one (ps_ret (pv 3)))))), ?_⟩
    -- found = [((one, other), ())]
    refine ⟨_, rfl, _, rfl, (show (2 : Nat) ≤ sizeLine by decide), fun pa hpa => ⟨Nat.zero_le _, fun sa hsa => ⟨(show (2 : Nat) ≤ sizeLine by decide), fun fa hfa => ⟨(show (1 : Nat) ≤ sizeLine by decide), fun t ht => ?_⟩⟩⟩⟩
    have s1 := same_upd (o := .tup [vN a, vN b]) hpa
    have s2 := same_upd (o := .tup []) hsa
    have s3 := same_upd (o := .tup [.ref pa, .ref sa]) hfa
    have s4 := same_upd (o := .lst [.ref fa]) ht
    have sA := ((s1.trans s2).trans s3).trans s4
    have htH : H t = none := ((s1.trans s2).trans s3).free ht
    have hE : EntAt (upd (upd (upd (upd H pa (.tup [vN a, vN b])) sa (.tup [])) fa (.tup [.ref pa, .ref sa])) t (.lst [.ref fa])) S a b ⟨fa, pa, (a, b), sa, []⟩ :=
      ⟨s4 _ _ upd_same, s4 _ _ (s3 _ _ (s2 _ _ upd_same)), s4 _ _ (s3 _ _ upd_same), Wd.nil, rfl, rfl⟩
    have hT : (upd (upd (upd (upd H pa (.tup [vN a, vN b])) sa (.tup [])) fa (.tup [.ref pa, .ref sa])) t (.lst [.ref fa])) t = some (.lst [.ref fa]) := upd_same
    clear s1 s2 s3 s4 hpa hsa hfa ht
    revert sA hE hT
    generalize upd (upd (upd (upd H pa (.tup [vN a, vN b])) sa (.tup [])) fa (.tup [.ref pa, .ref sa])) t (.lst [.ref fa]) = G1
    intro sA hE hT
    -- known = {(one, other): True}
    refine fun d hd => ⟨_, rfl, _, rfl, (show (2 : Nat) ≤ sizeLine by decide), fun tk htk => ⟨?_, tk, nkey (a, b), rfl, upd_same, ?_⟩⟩
    · rw [upd_ne (ne_of_none upd_same htk), upd_same]
    have hdH : H d = none := sA.free hd
    have k1 : Same G1 (upd (upd (upd G1 d (.dT [])) tk (.tup [vN a, vN b])) d (.dT [(nkey (a, b), .bl true)])) := Same.upd2 (Same.upd2 (same_upd hd) ((same_upd hd).free htk)) hd
    have sB := sA.trans k1
    have hE2 := hE.tups fun b xs h => k1 _ _ h
    have hT2 := k1 _ _ hT
    have hD2 : (upd (upd (upd G1 d (.dT [])) tk (.tup [vN a, vN b])) d (.dT [(nkey (a, b), .bl true)])) d = some (.dT [(nkey (a, b), .bl true)]) := upd_same
    clear k1 htk hd
    revert sB hE2 hT2 hD2
    generalize upd (upd (upd G1 d (.dT [])) tk (.tup [vN a, vN b])) d (.dT [(nkey (a, b), .bl true)]) = G2
    intro sB hE2 hT2 hD2
    -- for at in range(64)
    refine ⟨64, rfl, by decide, by decide, for_range (lo := 0) (n := 64) (fun i σ G => ∃ (F : List Ent) (y5 y6 y7 y8 y9 : Option V), σ = [some (.ref p), some (vN a), some (vN b), some (.ref t), some (.ref d), y5, y6, y7, y8, y9] ∧ Same H G ∧ G t = some (.lst (F.map Ent.v)) ∧ G d = some (.dT (dtOf (known F))) ∧
        (∀ e ∈ F, EntAt G S a b e ∧ e.u.length < F.length) ∧ BI S.cs.length (step2 S) (a, b) (F.map (·.nd)) ((F.map (·.nd)).drop i) (fun _ => False)) ?_ ?_ ?_⟩
    · refine ⟨[⟨fa, pa, (a, b), sa, []⟩], none, none, none, none, none, rfl, sB, hT2, hD2, fun e he => ?_, BI.start⟩
      have : e = ⟨fa, pa, (a, b), sa, []⟩ := by simpa using he
      subst this
      exact ⟨hE2, (show (0 : Nat) < 1 by decide)⟩
    · rintro i σ G hi ⟨F, y5, y6, y7, y8, y9, rfl, sm, hF, hd, hE, bi⟩
      rw [Int.zero_add]
      -- if at < len(found)
      refine ⟨_, rfl, _, rfl, _, F.length, rfl, .inl ⟨_, SqL.of hF, by rw [List.length_map]⟩, _, _, rfl, rfl, _, rfl, ite2 (fun c => ?_) (fun c => ?_)⟩
      · have hlt : i < F.length := by
          have := of_decide_eq_true c
          omega
        have hFi : F[i]? = some F[i] := List.getElem?_eq_getElem hlt
        have hem := List.getElem_mem hlt
        generalize F[i] = e at hFi hem
        obtain ⟨hEe, hEl⟩ := hE e hem
        -- pair, sequence = found[at]
        refine ⟨.ref t, rfl, _, rfl, t, _, (i : Int), e.v, rfl, rfl, SqL.of hF, atI_nat (map_at hFi), e.fa, _, rfl, SqT.of hEe.f, rfl, _, _, rfl, _, _, rfl, rfl, ?_⟩
        have hlt' : i < (F.map (·.nd)).length := by rw [List.length_map]; exact hlt
        have hdrop : (F.map (·.nd)).drop i = e.nd :: (F.map (·.nd)).drop (i + 1) := by
          rw [List.drop_eq_getElem_cons hlt']
          congr 1
          exact Option.some.inj ((List.getElem?_eq_getElem hlt').symm.trans (map_at hFi))
        rw [hdrop] at bi
        have hxk : e.nd ∈ F.map (·.nd) := bi.wt _ List.mem_cons_self
        have hxn := bi.lt2 ok ha hb hxk
        have bi1 := bi.pop
        -- for command in range(len(system[2]))
        refine ⟨.ref p, rfl, p, _, 2, .ref ca, rfl, rfl, SqT.of (sm _ _ h1), atI_nat (j := 2) rfl, _, S.cs.length, rfl, .inr ⟨_, SqT.of (sm _ _ h2), h3.symm⟩, (S.cs.length : Int), rfl, ?_, ?_,
          for_range (lo := 0) (n := S.cs.length) (fun j σ' G' => ∃ (F' : List Ent) (y8 y9 : Option V), σ' = [some (.ref p), some (vN a), some (vN b), some (.ref t), some (.ref d), some (.int (i : Int)), some (.ref e.pa), some (.ref e.sa), y8, y9] ∧ Same H G' ∧ G' t = some (.lst (F'.map Ent.v)) ∧ G' d = some (.dT (dtOf (known F'))) ∧
            (∀ e ∈ F', EntAt G' S a b e ∧ e.u.length < F'.length) ∧ EntAt G' S a b e ∧ e.u.length < F'.length ∧ i + 1 ≤ F'.length ∧ BI S.cs.length (step2 S) (a, b) (F'.map (·.nd)) ((F'.map (·.nd)).drop (i + 1)) (fun y => y = e.nd) ∧ e.nd ∈ F'.map (·.nd) ∧ (∀ c, c < j → step2 S e.nd c ∈ F'.map (·.nd))) ?_ ?_ ?_⟩
        · have := ok.m4; omega
        · have := ok.m4; omega
        · exact ⟨F, y8, y9, rfl, sm, hF, hd, hE, hEe, hEl, hlt, bi1, hxk, fun c hc => absurd hc (Nat.not_lt_zero _)⟩
        · rintro j σ' G' hj ⟨F', y8, y9, rfl, smG, hFG, hdG, hEG, hEe, hEl, hiF, biG, hxk, clG⟩
          rw [Int.zero_add]
          have hsG : SysAt G' p S := hS.same smG
          -- later = (..)
          obtain ⟨ca1, rs1, r1, xs1, a1, a2, a3, a4, a5⟩ := hsG.step hxn.1 hj
          obtain ⟨ca2, rs2, r2, xs2, b1, b2, b3, b4, b5⟩ := hsG.step hxn.2 hj
          refine ⟨.ref p, rfl, p, _, 2, .ref ca1, rfl, rfl, SqT.of a1, atI_nat (j := 2) rfl, vN j, rfl, ca1, _, j, .ref r1, rfl, rfl, SqT.of a2, atI_nat a3, .ref e.pa, rfl, e.pa, _, 0, vN e.nd.1, rfl, rfl, SqT.of hEe.p, atI_nat (j := 0) rfl, r1, _, (e.nd.1 : Int), _, rfl, rfl, SqT.of a4, atI_nat a5, ?_⟩
          refine ⟨.ref p, rfl, p, _, 2, .ref ca2, rfl, rfl, SqT.of b1, atI_nat (j := 2) rfl, vN j, rfl, ca2, _, j, .ref r2, rfl, rfl, SqT.of b2, atI_nat b3, .ref e.pa, rfl, e.pa, _, 1, vN e.nd.2, rfl, rfl, SqT.of hEe.p, atI_nat (j := 1) rfl, r2, _, (e.nd.2 : Int), _, rfl, rfl, SqT.of b4, atI_nat b5, ?_⟩
          refine ⟨(show (2 : Nat) ≤ sizeLine by decide), fun tl htl => ?_⟩
          have smT : Same G' (upd G' tl (.tup [vN (step S e.nd.1 j), vN (step S e.nd.2 j)])) := same_upd htl
          have hdT := smT _ _ hdG
          have hFT := smT _ _ hFG
          have htlT : (upd G' tl (.tup [vN (step S e.nd.1 j), vN (step S e.nd.2 j)])) tl = some (.tup [vN (step S e.nd.1 j), vN (step S e.nd.2 j)]) := upd_same
          clear htl
          revert smT hdT hFT htlT
          generalize upd G' tl (.tup [vN (step S e.nd.1 j), vN (step S e.nd.2 j)]) = GT
          intro smT hdT hFT htlT
          -- if later not in known
          refine ⟨.ref tl, rfl, .ref d, rfl, d, _, rfl, DGet.t (k := nkey (step2 S e.nd j)) hdT htlT, _, rfl, ?_⟩
          by_cases hk : step2 S e.nd j ∈ F'.map (·.nd)
          · obtain ⟨v, hv⟩ := mem_fst (L := known F') (by rw [known_fst]; exact hk)
            rw [dtOf_some (e := (step2 S e.nd j, v)) (by rw [known_fst]; exact biG.nd) hv]
            refine iteF ?_
            refine ⟨F', _, _, rfl, smG.trans smT, hFT, hdT, fun e' he' => ⟨(hEG e' he').1.tups fun b xs h => smT _ _ h, (hEG e' he').2⟩, hEe.tups fun b xs h => smT _ _ h, hEl, hiF, biG, hxk, fun c hc => ?_⟩
            by_cases ec : c = j
            · subst ec; exact hk
            · exact clG c (by omega)
          · rw [dtOf_none (by rw [known_fst]; exact hk)]
            refine iteT ?_
            have biA := biG.add hxk hj hk
            have hLn := biA.len2 ok ha hb
            rw [List.length_append, List.length_map] at hLn
            have hLn : F'.length + 1 ≤ 64 := hLn
            -- known[later] = True
            refine ⟨.ref d, rfl, .ref tl, rfl, d, _, rfl, DPut.t (k := nkey (step2 S e.nd j)) hdT htlT ?_, ?_⟩
            · rw [dtOf_len, known, List.length_map]
              exact small1000 (by omega)
            rw [dtOf_put (by rw [known_fst]; exact hk)]
            have hdt : d ≠ t := ne_of hdT hFT (fun z => nomatch z)
            have sm5 : ∀ (b : Addr) (xs : List V), GT b = some (.tup xs) → (upd GT d (.dT (dtOf (known F' ++ [(step2 S e.nd j, V.bl true)])))) b = some (.tup xs) := fun b xs h => by
              rw [upd_ne (ne_of h hdT (fun z => nomatch z))]
              exact h
            have smH5 : Same H (upd GT d (.dT (dtOf (known F' ++ [(step2 S e.nd j, V.bl true)])))) := Same.upd2 (smG.trans smT) hdH
            have hF5 : (upd GT d (.dT (dtOf (known F' ++ [(step2 S e.nd j, V.bl true)])))) t = some (.lst (F'.map Ent.v)) := by
              rw [upd_ne hdt.symm]
              exact hFT
            have hd5 : (upd GT d (.dT (dtOf (known F' ++ [(step2 S e.nd j, V.bl true)])))) d = some (.dT (dtOf (known F' ++ [(step2 S e.nd j, V.bl true)]))) := upd_same
            revert sm5 smH5 hF5 hd5
            generalize upd GT d (.dT (dtOf (known F' ++ [(step2 S e.nd j, V.bl true)]))) = G5
            intro sm5 smH5 hF5 hd5
            have hEe5 := hEe.tups fun b xs h => sm5 _ _ (smT _ _ h)
            have htl5 := sm5 _ _ htlT
            -- found.append((later, sequence + (command,)))
            refine ⟨.ref t, rfl, .inl ⟨rfl, _, SqL.of hF5⟩, _, rfl, .ref e.sa, rfl, _, rfl, (show (1 : Nat) ≤ sizeLine by decide), fun t2 ht2 => cat_snoc hEe5.s (by omega) ht2 fun t3 G6 sm6 ht3 => ?_⟩
            refine ⟨(show (2 : Nat) ≤ sizeLine by decide), fun fa' hfa' => ?_⟩
            have sm7 := same_upd (o := .tup [.ref tl, .ref t3]) hfa'
            have hF7 := sm7 _ _ (sm6 _ _ hF5)
            have hd7 := sm7 _ _ (sm6 _ _ hd5)
            refine ⟨t, _, _, rfl, rfl, hF7, ?_, ?_⟩
            · rw [List.length_map]
              exact small1000 (by omega)
            have key : ∀ (b : Addr) (xs : List V), (upd G6 fa' (.tup [.ref tl, .ref t3])) b = some (.tup xs) → (upd (upd G6 fa' (.tup [.ref tl, .ref t3])) t (.lst (F'.map Ent.v ++ [.ref fa']))) b = some (.tup xs) := fun b xs h => by
              rw [upd_ne (ne_of h hF7 (fun z => nomatch z))]
              exact h
            have keyG : ∀ (b : Addr) (xs : List V), G' b = some (.tup xs) → (upd (upd G6 fa' (.tup [.ref tl, .ref t3])) t (.lst (F'.map Ent.v ++ [.ref fa']))) b = some (.tup xs) := fun b xs h => key _ _ (sm7 _ _ (sm6 _ _ (sm5 _ _ (smT _ _ h))))
            refine ⟨F' ++ [⟨fa', tl, step2 S e.nd j, t3, e.u ++ [j]⟩], _, _, rfl, ?_, ?_, ?_, ?_, hEe.tups keyG, ?_, ?_, ?_, ?_, ?_⟩
            · exact Same.upd2 ((smH5.trans sm6).trans sm7) htH
            · rw [upd_same, List.map_append]
              rfl
            · rw [upd_ne hdt]
              have ek : known (F' ++ [⟨fa', tl, step2 S e.nd j, t3, e.u ++ [j]⟩]) = known F' ++ [(step2 S e.nd j, V.bl true)] := by
                unfold known
                rw [List.map_append]
                rfl
              rw [ek]
              exact hd7
            · intro e' he'
              rcases List.mem_append.mp he' with he' | he'
              · refine ⟨(hEG e' he').1.tups keyG, ?_⟩
                rw [List.length_append]
                exact Nat.lt_of_lt_of_le (hEG e' he').2 (Nat.le_add_right _ _)
              · have : e' = ⟨fa', tl, step2 S e.nd j, t3, e.u ++ [j]⟩ := by simpa using he'
                subst this
                refine ⟨⟨key _ _ upd_same, key _ _ (sm7 _ _ (sm6 _ _ htl5)), key _ _ (sm7 _ _ ht3), hEe.wd.app (.one hj), ?_, ?_⟩, ?_⟩
                · show led S a (e.u ++ [j]) = step S e.nd.1 j
                  rw [led_snoc, hEe.one]
                · show led S b (e.u ++ [j]) = step S e.nd.2 j
                  rw [led_snoc, hEe.two]
                · rw [List.length_append, List.length_append]
                  show e.u.length + 1 < F'.length + 1
                  omega
            · rw [List.length_append]
              exact Nat.lt_of_lt_of_le hEl (Nat.le_add_right _ _)
            · rw [List.length_append]
              exact Nat.le_trans hiF (Nat.le_add_right _ _)
            · rw [List.map_append]
              have ed : ((F'.map (·.nd)) ++ [step2 S e.nd j]).drop (i + 1) = (F'.map (·.nd)).drop (i + 1) ++ [step2 S e.nd j] := List.drop_append_of_le_length (by rw [List.length_map]; exact hiF)
              show BI _ _ _ ((F'.map (·.nd)) ++ [step2 S e.nd j]) (((F'.map (·.nd)) ++ [step2 S e.nd j]).drop (i + 1)) _
              rw [ed]
              exact biA
            · rw [List.map_append]
              exact List.mem_append_left _ hxk
            · intro c hc
              rw [List.map_append]
              by_cases ec : c = j
              · subst ec
                exact List.mem_append_right _ (by simp)
              · exact List.mem_append_left _ (clG c (by omega))
        · rintro σ' G' ⟨F', y8, y9, rfl, smG, hFG, hdG, hEG, hEe, hEl, hiF, biG, hxk, clG⟩
          exact ⟨F', _, _, _, _, _, rfl, smG, hFG, hdG, hEG, biG.close clG⟩
      · have hge : F.length ≤ i := by
          have : ¬ ((i : Int) < (F.length : Int)) := fun z => c (decide_eq_true z)
          omega
        refine ⟨F, _, _, _, _, _, rfl, sm, hF, hd, hE, ?_⟩
        rw [List.drop_of_length_le (by rw [List.length_map]; omega)] at bi ⊢
        exact bi
    · rintro σ G ⟨F, y5, y6, y7, y8, y9, rfl, sm, hF, hd, hE, bi⟩
      have h64 := bi.len2 ok ha hb
      rw [List.drop_of_length_le h64] at bi
      rw [List.length_map] at h64
      exact ⟨.ref t, rfl, q G t F sm ⟨hF, fun e he => (hE e he).1, bi.nd, fun x => (bi.done x).trans pr_iff.symm, h64⟩⟩
end
end Ub

namespace Ub
open PySem PySem.Spec PyProof.Rows L2
theorem nd_diag {S : Sys} {a : Nat} {ns : List (Nat × Nat)} (hn : ns.Nodup) (hm : ∀ x, x ∈ ns ↔ PR S a a x) : (ns.map (·.1)).Nodup ∧ ∀ x, x ∈ ns.map (·.1) ↔ Reach S a x := by
  refine ⟨nodup_map_on hn fun x hx y hy e => ?_, fun x => ?_⟩
  · have h1 := (pr_diag ((hm x).mp hx)).1
    have h2 := (pr_diag ((hm y).mp hy)).1
    exact Prod.ext e (h1.symm.trans (e.trans h2))
  · rw [List.mem_map]
    constructor
    · rintro ⟨p, hp, rfl⟩
      exact (pr_diag ((hm p).mp hp)).2
    · intro h
      exact ⟨(x, x), (hm _).mpr (pr_of_reach h), rfl⟩
theorem take_snoc {α β : Type} {l : List α} {f : α → β} {i : Nat} {x : α} (h : l[i]? = some x) : (l.take (i + 1)).map f = (l.take i).map f ++ [f x] := by
  rw [List.take_add_one, h, List.map_append]
  rfl
theorem take_len {α : Type} {l : List α} {i n : Nat} (h : l.length ≤ n) : (l.take i).length ≤ n := by
  rw [List.length_take]
  omega
section
variable {P : Program} {w : World} {K : PySem.W.Frag} {mg : Str → Option Value} {base : Heap}
abbrev sLReached : Stmt := top 42
theorem sc_law_reached : FnScope ["_law_system_here", "_law_state", "_law_pair", "_law_sequence"] ["_law_system_here", "_law_state"] (defScope sLReached) := ⟨rfl, rfl, rfl, by decide +kernel, rfl, by decide +kernel, by decide +kernel⟩
def spLReached : Sp := fun vs H Q _ => ∃ (p : Addr) (S : Sys) (a : Nat), vs = [.ref p, vN a] ∧ SysAt H p S ∧ a < S.n ∧ ∀ H' t, Same H H' → H t = none → H' t = some (.lst ((reachL S a).map vN)) → Q (.ref t) H'
theorem cal_law_reached (D : Dfn K mg "_law_reached" sLReached ["_law_system_here", "_law_state"]) (B : Bl mg) (c_law_pairs : Cal P w K mg base CX0 1 "_law_pairs" spLPairs) : Cal P w K mg base CX0 2 "_law_reached" spLReached := by
  refine cal_of D sc_law_reached (fun vs H Q E h => ?_) (fun f cdv A outer s H vs Q E hr h => ?_)
  · obtain ⟨p, S, a, rfl, _⟩ := h
    rfl
  · obtain ⟨p, S, a, rfl, hS, ha, q⟩ := h
    have ok := hS.ok
    refine ⟨_, (pss_one (ps_ret (pe_callB (ksortI K) (by rfl) B.sorted (by decide +kernel) (pa_cons (pe_lc (own := [("_law_pair", 2), ("_law_sequence", 3)]) (g := (gTup K 2 (gCons (gName 2) (gCons (gName 3) gNil)))) (tt := tYes) rfl sc_law_reached.nd (kpiL K (pe_k c_law_pairs hr (by decide) (by rfl) (pa_cons (pv 0) (pa_cons (pv 1) (pa_cons (pv 1) pa_nil))))) (blkOk_by (N := ["_law_system_here", "_law_state", "_law_pair", "_law_sequence"]) (sc := defScope sLReached) (by decide +kernel)) (fun _ _ _ _ _ => (kgT K rfl (pgs_cons (pg_name (i := 2) sc_law_reached.nd rfl (.inl rfl)) (pgs_cons (pg_name (i := 3) sc_law_reached.nd rfl (.inl rfl)) pgs_nil)))) (fun _ _ _ _ _ => pts_nil) (fun _ _ _ _ _ => (pe_ix (kixT K) (pv 2) pe_int (fun _ _ => rfl)))) pa_nil)))), ?_⟩
    refine ⟨.ref p, rfl, _, rfl, _, rfl, p, S, a, a, rfl, hS, ha, ha, fun H1 t F sm1 LP => ⟨t, rfl, ⟨_, SqL.of LP.lst⟩, fun D hD => lc_list (K := K) (a := t) (xs := F.map Ent.v)
      (fun i G => Same H1 G ∧ G D = some (.lst (((F.take i).map fun e => e.nd.1).map vN))) ?_ ?_ ?_ ?_⟩⟩
    · exact ⟨same_upd hD, upd_same⟩
    · rintro i G _ ⟨sG, _⟩
      exact SqL.of (sG _ _ LP.lst)
    · rintro i x G hi ⟨sG, hG⟩
      obtain ⟨e, he, rfl⟩ := of_map_at hi
      have hE := (LP.ents e (List.mem_of_getElem? he)).tups fun b xs h => sG b _ h
      refine ⟨e.fa, _, rfl, SqT.of hE.f, rfl, _, _, rfl, _, _, rfl, rfl, rfl, .ref e.pa, rfl, e.pa, _, 0, vN e.nd.1, rfl, rfl, SqT.of hE.p, atI_nat (j := 0) rfl, _, hG, ?_, Same.upd2 sG hD, ?_⟩
      · rw [List.length_map, List.length_map]
        have := take_len (i := i) LP.len
        exact small1000 (by omega)
      · rw [upd_same, take_snoc he, List.map_append]
        rfl
    · rintro G ⟨sG, hG⟩
      rw [List.length_map, List.take_length] at hG
      obtain ⟨h1, h2⟩ := nd_diag LP.nd LP.mem
      rw [List.map_map] at h1
      refine ⟨D, (F.map fun e => e.nd.1).map Int.ofNat, rfl, SqL.of ?_, fun ys t2 hp hs ht2 => ?_⟩
      · rw [hG, List.map_map, List.map_map, List.map_map]
        rfl
      · have e := sorted_reach ok ha hp hs h1 (fun x => by rw [← h2, List.map_map]; rfl)
        subst e
        refine q _ t2 ((sm1.trans sG).trans (same_upd ht2)) ((sm1.trans sG).free ht2) ?_
        rw [upd_same, List.map_map]
        rfl
abbrev sLDetermines : Stmt := top 44
theorem sc_law_determines : FnScope ["_law_system_here", "_law_one", "_law_other", "_law_row"] ["_law_system_here", "_law_one", "_law_other"] (defScope sLDetermines) := ⟨rfl, rfl, rfl, by decide +kernel, rfl, by decide +kernel, by decide +kernel⟩
abbrev sLCounterparts : Stmt := top 43
theorem sc_law_counterparts : FnScope ["_law_system_here", "_law_one", "_law_other", "_law_pairs_here", "_law_pair", "_law_sequence", "_law_first", "_law_second", "_law_state"] ["_law_system_here", "_law_one", "_law_other"] (defScope sLCounterparts) := ⟨rfl, rfl, rfl, by decide +kernel, rfl, by decide +kernel, by decide +kernel⟩
theorem cal_law_counterparts (D : Dfn K mg "_law_counterparts" sLCounterparts ["_law_system_here", "_law_one", "_law_other"]) (B : Bl mg) (c_law_pairs : Cal P w K mg base CX0 1 "_law_pairs" spLPairs) : Cal P w K mg base CX0 2 "_law_counterparts" spCounterparts := by
  refine cal_of D sc_law_counterparts (fun vs H Q E h => ?_) (fun f cdv A outer s H vs Q E hr h => ?_)
  · obtain ⟨p, S, a, b, rfl, _⟩ := h
    rfl
  · obtain ⟨p, S, a, b, rfl, hS, ha, hb, q⟩ := h
    have ok := hS.ok
    obtain ⟨ca, rs, g1, g2, g3⟩ := hS.num
    refine ⟨_, (pss_cons (ps_set (i := 3) sc_law_counterparts.nd rfl (.inr rfl) (pe_callB (csortLP K) (by rfl) B.sorted (by decide +kernel) (pa_cons (pe_lc (own := [("_law_pair", 4), ("_law_sequence", 5)]) (g := (gTup K 2 (gCons (gName 4) (gCons (gName 5) gNil)))) (tt := tYes) rfl sc_law_counterparts.nd (kpiL K (pe_k c_law_pairs hr (by decide) (by rfl) (pa_cons (pv 0) (pa_cons (pv 1) (pa_cons (pv 2) pa_nil))))) (blkOk_by (N := ["_law_system_here", "_law_one", "_law_other", "_law_pairs_here", "_law_pair", "_law_sequence", "_law_first", "_law_second", "_law_state"]) (sc := defScope sLCounterparts) (by decide +kernel)) (fun _ _ _ _ _ => (kgT K rfl (pgs_cons (pg_name (i := 4) sc_law_counterparts.nd rfl (.inl rfl)) (pgs_cons (pg_name (i := 5) sc_law_counterparts.nd rfl (.inl rfl)) pgs_nil)))) (fun _ _ _ _ _ => pts_nil) (fun _ _ _ _ _ => (pv 4))) pa_nil)))
      (pss_one (ps_ret (pe_lc (own := [("_law_state", 8)]) (g := (gName 8)) (tt := tYes) rfl sc_law_counterparts.nd (pi_range1 (by rfl) B.range (pa_cons (pe_ix (kixT K) (pv 0) pe_int (fun _ _ => rfl)) pa_nil)) (blkOk_by (N := ["_law_system_here", "_law_one", "_law_other", "_law_pairs_here", "_law_pair", "_law_sequence", "_law_first", "_law_second", "_law_state"]) (sc := defScope sLCounterparts) (by decide +kernel)) (fun _ _ _ _ _ => (pg_name (i := 8) sc_law_counterparts.nd rfl (.inr rfl))) (fun _ _ _ _ _ => pts_nil) (fun _ _ _ _ _ => (pe_callTy (ktupOf K) (by rfl) B.tuple PyProof.Rows.boot_tuple (pa_cons (pe_lc (own := [("_law_first", 6), ("_law_second", 7)]) (g := (gTup K 2 (gCons (gName 6) (gCons (gName 7) gNil)))) rfl sc_law_counterparts.nd (kpiL K (pv 3)) (blkOk_by (N := ["_law_system_here", "_law_one", "_law_other", "_law_pairs_here", "_law_pair", "_law_sequence", "_law_first", "_law_second", "_law_state"]) (sc := relS (xScope (xRet (xAt (defBody sLCounterparts) 1))) (defScope sLCounterparts)) (by decide +kernel)) (fun _ _ _ _ _ => (kgT K rfl (pgs_cons (pg_name (i := 6) sc_law_counterparts.nd rfl (.inl rfl)) (pgs_cons (pg_name (i := 7) sc_law_counterparts.nd rfl (.inl rfl)) pgs_nil)))) (fun _ _ _ _ _ => pts_one (pt_cmpR op_eq (pv 6) (pv 8) (nomark _))) (fun _ _ _ _ _ => (pv 7))) pa_nil))))))), ?_⟩
    refine ⟨.ref p, rfl, _, rfl, _, rfl, p, S, a, b, rfl, hS, ha, hb, fun H1 t0 F sm1 LP => ⟨t0, rfl, ⟨_, SqL.of LP.lst⟩, fun D0 hD0 => lc_list (K := K) (a := t0) (xs := F.map Ent.v)
      (fun i G => Same H1 G ∧ G D0 = some (.lst (((F.take i).map Ent.pa).map V.ref))) ⟨same_upd hD0, upd_same⟩ ?_ ?_ ?_⟩⟩
    · rintro i G _ ⟨sG, _⟩
      exact SqL.of (sG _ _ LP.lst)
    · rintro i x G hi ⟨sG, hG⟩
      obtain ⟨e, he, rfl⟩ := of_map_at hi
      have hE := (LP.ents e (List.mem_of_getElem? he)).tups fun b xs h => sG b _ h
      refine ⟨e.fa, _, rfl, SqT.of hE.f, rfl, _, _, rfl, _, _, rfl, rfl, rfl, .ref e.pa, rfl, _, hG, ?_, Same.upd2 sG hD0, ?_⟩
      · rw [List.length_map, List.length_map]
        have := take_len (i := i) LP.len
        exact small1000 (by omega)
      · rw [upd_same, take_snoc he, List.map_append]
        rfl
    · rintro G0 ⟨sG0, hG0⟩
      rw [List.length_map, List.take_length] at hG0
      have smG0 := sm1.trans sG0
      have hP0 : PairsAt G0 (F.map Ent.pa) ((F.map (·.nd)).map pint) := by
        have : ∀ L : List Ent, (∀ e ∈ L, EntAt H1 S a b e) → PairsAt G0 (L.map Ent.pa) ((L.map (·.nd)).map pint) := by
          intro L
          induction L with
          | nil => intro _; exact .nil
          | cons e L ih => intro h; exact .cons (sG0 _ _ (h e List.mem_cons_self).p) (ih fun e' h' => h e' (List.mem_cons_of_mem _ h'))
        exact this F LP.ents
      refine ⟨D0, F.map Ent.pa, (F.map (·.nd)).map pint, rfl, SqL.of hG0, hP0, fun bs qs t hperm hP ht => ?_⟩
      obtain ⟨ns, hns, rfl⟩ := perm_map_back hperm
      have hnd : ns.Nodup := hns.nodup_iff.mpr LP.nd
      have hmem : ∀ x, x ∈ ns ↔ PR S a b x := fun x => hns.mem_iff.trans (LP.mem x)
      have hlen64 : ns.length ≤ 64 := Nat.le_trans (pairs_len hnd fun x hx => ((hmem x).mp hx).lt ok ha hb) (sq8 ok.n8)
      have hbl : bs.length = ns.length := by rw [hP.len, List.length_map]
      have sm2 : Same H (upd G0 t (.lst (bs.map V.ref))) := smG0.trans (same_upd ht)
      have hP2 : PairsAt (upd G0 t (.lst (bs.map V.ref))) bs (ns.map pint) := hP.same fun b xs e => same_upd ht _ _ e
      have ht2 : (upd G0 t (.lst (bs.map V.ref))) t = some (.lst (bs.map V.ref)) := upd_same
      generalize upd G0 t (.lst (bs.map V.ref)) = H2 at sm2 hP2 ht2 ⊢
      have hn8 := ok.n8
      refine ⟨.ref p, rfl, p, _, 0, vN S.n, rfl, rfl, SqT.of (sm2 _ _ g1), atI_nat (j := 0) rfl, (S.n : Int), rfl, by omega, by omega, fun D hD => lc_range (lo := 0) (n := S.n)
        (fun i G => Same H2 G ∧ ∃ rs : List Addr, G D = some (.lst (rs.map V.ref)) ∧ RowsAt G rs (cpRows ns i)) ⟨same_upd hD, [], upd_same, rfl, fun i r row h => by simp at h⟩ ?_ ?_⟩
      · rintro y G hy ⟨sG, rs, hGD, hR⟩
        have htG := sG _ _ ht2
        have hPG := hP2.same fun b xs e => sG _ _ e
        rw [Int.zero_add]
        -- tuple([second for first, second in found if first == state])
        refine ⟨rfl, ⟨.ref t, rfl, t, rfl, ⟨_, SqL.of htG⟩, fun D2 hD2 => lc_list (K := K) (a := t) (xs := bs.map V.ref) (fun k G2 => Same G G2 ∧ G2 D2 = some (.lst ((cpRow (ns.take k) y).map vN))) ?_ ?_ ?_ ?_⟩⟩
        · refine ⟨same_upd hD2, ?_⟩
          rw [upd_same]
          rfl
        · rintro k G2 _ ⟨s2, _⟩
          exact SqL.of (s2 _ _ htG)
        · rintro k x G2 hk ⟨s2, h2⟩
          obtain ⟨b1, hb1, rfl⟩ := of_map_at hk
          obtain ⟨q1, hq1, hT⟩ := hPG.get hb1
          obtain ⟨⟨x1, x2⟩, hx, rfl⟩ := of_map_at hq1
          have hT2 : G2 b1 = some (.tup [vN x1, vN x2]) := s2 _ _ hT
          refine ⟨b1, _, rfl, SqT.of hT2, rfl, _, _, rfl, _, _, rfl, rfl, rfl, ?_⟩
          refine ⟨_, rfl, _, rfl, rfl, _, rfl, ?_⟩
          have hrow := cpRow_take (i := y) hx
          by_cases e : x1 = y
          · subst e
            rw [decide_eq_true rfl]
            refine iteT ⟨_, rfl, _, h2, ?_, ?_, ?_⟩
            · rw [List.length_map]
              have h3 := cpRow_len (ns := ns.take k) (i := x1)
              have h5 := take_len (i := k) hlen64
              exact small1000 (by omega)
            · exact Same.upd2 s2 hD2
            · rw [upd_same, hrow, if_pos rfl, List.map_append]
              rfl
          · rw [decide_eq_false (fun z => e (by have := V.int.inj z; omega))]
            refine iteF ⟨s2, ?_⟩
            rw [hrow, if_neg e]
            exact h2
        · rintro G2 ⟨s2, h2⟩
          rw [List.length_map, hbl, List.take_length] at h2
          refine ⟨D2, _, rfl, SqL.of h2, fun r hr2 => ?_⟩
          have s3 : Same G (upd G2 r (.tup ((cpRow ns y).map vN))) := s2.trans (same_upd hr2)
          refine ⟨_, s3 _ _ hGD, ?_, ?_, rs ++ [r], ?_, ?_⟩
          · rw [List.length_map, hR.len, cpRows, List.length_map, List.length_range]
            exact small1000 (by omega)
          · exact Same.upd2 (sG.trans s3) hD
          · rw [upd_same, List.map_append]
            rfl
          · rw [cpRows_succ]
            have key : ∀ (b : Addr) (xs : List V), (upd G2 r (.tup ((cpRow ns y).map vN))) b = some (.tup xs) → (upd (upd G2 r (.tup ((cpRow ns y).map vN))) D (.lst (rs.map V.ref ++ [.ref r]))) b = some (.tup xs) := fun b xs e => by
              rw [upd_ne (ne_of e (s3 _ _ hGD) (fun z => nomatch z))]
              exact e
            exact hR.snoc (fun b xs e => key _ _ (s3 _ _ e)) (key _ _ upd_same)
      · rintro G ⟨sG, rs, hGD, hR⟩
        exact q G D rs _ (sm2.trans sG) hGD hR (rowsOf_cp hnd hmem)
theorem cal_law_determines (D : Dfn K mg "_law_determines" sLDetermines ["_law_system_here", "_law_one", "_law_other"]) (B : Bl mg) (c_law_counterparts : Cal P w K mg base CX0 2 "_law_counterparts" spCounterparts) : Cal P w K mg base CX0 3 "_law_determines" spDetermines := by
  refine cal_of D sc_law_determines (fun vs H Q E h => ?_) (fun f cdv A outer s H vs Q E hr h => ?_)
  · obtain ⟨p, S, a, b, rfl, _⟩ := h
    rfl
  · obtain ⟨p, S, a, b, rfl, hS, ha, hb, q⟩ := h
    have ok := hS.ok
    refine ⟨_, (pss_one (ps_ret (pe_callB (kall K) (by rfl) B.all (by decide +kernel) (pa_cons (pe_lc (own := [("_law_row", 3)]) (g := (gName 3)) (tt := tYes) rfl sc_law_determines.nd (kpiL K (pe_k c_law_counterparts hr (by decide) (by rfl) (pa_cons (pv 0) (pa_cons (pv 1) (pa_cons (pv 2) pa_nil))))) (blkOk_by (N := ["_law_system_here", "_law_one", "_law_other", "_law_row"]) (sc := defScope sLDetermines) (by decide +kernel)) (fun _ _ _ _ _ => (pg_name (i := 3) sc_law_determines.nd rfl (.inl rfl))) (fun _ _ _ _ _ => pts_nil) (fun _ _ _ _ _ => (pe_cmpR op_lt (pe_callB (klen K) (by rfl) B.len PySem.boot_len (pa_cons (pv 3) pa_nil)) pe_int (nomark _)))) pa_nil)))), ?_⟩
    refine ⟨.ref p, rfl, _, rfl, _, rfl, p, S, a, b, rfl, hS, ha, hb, fun H1 t rs R sm1 ht hR RO => ⟨t, rfl, ⟨_, SqL.of ht⟩, fun D hD => lc_list (K := K) (a := t) (xs := rs.map V.ref)
      (fun i G => Same H1 G ∧ G D = some (.lst (((R.take i).map fun l => decide ((l.length : Int) < 2)).map V.bl))) ⟨same_upd hD, upd_same⟩ ?_ ?_ ?_⟩⟩
    · rintro i G _ ⟨sG, _⟩
      exact SqL.of (sG _ _ ht)
    · rintro i x G hi ⟨sG, hG⟩
      obtain ⟨r, hr1, rfl⟩ := of_map_at hi
      have hlt : i < R.length := by
        rw [← hR.len]
        exact (List.getElem?_eq_some_iff.mp hr1).1
      have hRi : R[i]? = some R[i] := List.getElem?_eq_getElem hlt
      have hT := sG _ _ (hR.at_ i r _ hr1 hRi)
      refine ⟨rfl, .ref r, rfl, _, (R[i]).length, rfl, .inr ⟨_, SqT.of hT, by rw [List.length_map]⟩, _, _, rfl, rfl, _, hG, ?_, Same.upd2 sG hD, ?_⟩
      · rw [List.length_map, List.length_map]
        have := ok.n8
        have := RO.len
        have := take_len (l := R) (i := i) (Nat.le_refl _)
        exact small1000 (by omega)
      · rw [upd_same, take_snoc hRi, List.map_append]
        rfl
    · rintro G ⟨sG, hG⟩
      rw [List.length_map, hR.len, List.take_length] at hG
      refine ⟨D, _, rfl, SqL.of hG, ?_⟩
      have e : (R.map fun l => decide ((l.length : Int) < 2)).all id = detB S a b := by
        have hd := det_iff ok ha hb RO
        by_cases hD' : Det S a b
        · rw [detB_true hD', List.all_eq_true]
          intro z hz
          obtain ⟨l, hl, rfl⟩ := List.mem_map.mp hz
          exact decide_eq_true (by have := hd.mpr hD' l hl; omega)
        · rw [detB_false hD']
          cases hh : (R.map fun l => decide ((l.length : Int) < 2)).all id with
          | false => rfl
          | true =>
            exfalso
            refine hD' (hd.mp fun l hl => ?_)
            have := of_decide_eq_true (List.all_eq_true.mp hh _ (List.mem_map.mpr ⟨l, hl, rfl⟩))
            omega
      rw [e]
      exact q G (sm1.trans sG)
abbrev sLFailing : Stmt := top 51
theorem sc_law_failing : FnScope ["_law_system_here", "_law_start", "_law_k"] ["_law_system_here"] (defScope sLFailing) := ⟨rfl, rfl, rfl, by decide +kernel, rfl, by decide +kernel, by decide +kernel⟩
theorem cal_law_failing (D : Dfn K mg "_law_failing" sLFailing ["_law_system_here"]) (B : Bl mg) (c_law_determines : Cal P w K mg base CX0 3 "_law_determines" spDetermines) : Cal P w K mg base CX0 4 "_law_failing" spFailing := by
  refine cal_of D sc_law_failing (fun vs H Q E h => ?_) (fun f cdv A outer s H vs Q E hr h => ?_)
  · obtain ⟨p, S, rfl, _⟩ := h
    rfl
  · obtain ⟨p, S, rfl, hS, q⟩ := h
    have ok := hS.ok
    obtain ⟨ca, rs, h1, h2, h3⟩ := hS.num
    have hm4 := ok.m4
    refine ⟨_, (pss_cons (ps_set (i := 1) sc_law_failing.nd rfl (.inr rfl) (pe_ix (kixT K) (pv 0) pe_int (fun _ _ => rfl)))
      (pss_one (ps_ret (pe_callTy (ktupOf K) (by rfl) B.tuple PyProof.Rows.boot_tuple (pa_cons (pe_lc (own := [("_law_k", 2)]) (g := (gName 2)) rfl sc_law_failing.nd (pi_range1 (by rfl) B.range (pa_cons (pe_callB (klen K) (by rfl) B.len PySem.boot_len (pa_cons (pe_ix (kixT K) (pv 0) pe_int (fun _ _ => rfl)) pa_nil)) pa_nil)) (blkOk_by (N := ["_law_system_here", "_law_start", "_law_k"]) (sc := defScope sLFailing) (by decide +kernel)) (fun _ _ _ _ _ => (pg_name (i := 2) sc_law_failing.nd rfl (.inl rfl))) (fun _ _ _ _ _ => pts_one (pt_not (pt_val (pe_k c_law_determines hr (by decide) (by rfl) (pa_cons (pv 0) (pa_cons (pe_ix (kixT K) (pe_ix (kixT K) (pe_ix (kixT K) (pv 0) pe_int (fun _ _ => rfl)) (pv 2) (fun _ _ => rfl)) (pv 1) (fun _ _ => rfl)) (pa_cons (pv 1) pa_nil))))))) (fun _ _ _ _ _ => (pv 2))) pa_nil))))), ?_⟩
    refine ⟨.ref p, rfl, p, _, 1, vN S.s, rfl, rfl, SqT.of h1, atI_nat (j := 1) rfl, .ref p, rfl, p, _, 2, .ref ca, rfl, rfl, SqT.of h1, atI_nat (j := 2) rfl, _, S.cs.length, rfl, .inr ⟨_, SqT.of h2, h3.symm⟩, (S.cs.length : Int), rfl, by omega, by omega,
      fun Dd hD => lc_range (lo := 0) (n := S.cs.length) (fun i G => Same H G ∧ G Dd = some (.lst ((failL S i).map vN))) ⟨same_upd hD, upd_same⟩ ?_ ?_⟩
    · rintro y G hin ⟨sG, hG⟩
      rw [Int.zero_add]
      have hsG : SysAt G p S := hS.same sG
      obtain ⟨ca1, rs1, r1, xs1, a1, a2, a3, a4, a5⟩ := hsG.step ok.s0 hin
      refine ⟨rfl, ?_⟩
      refine ⟨.ref p, rfl, .ref p, rfl, p, _, 2, .ref ca1, rfl, rfl, SqT.of a1, atI_nat (j := 2) rfl, vN y, rfl, ca1, _, y, .ref r1, rfl, rfl, SqT.of a2, atI_nat a3, vN S.s, rfl, r1, _, (S.s : Int), _, rfl, rfl, SqT.of a4, atI_nat a5, vN S.s, rfl, p, S, step S S.s y, S.s, rfl, hsG, step_lt ok ok.s0 hin, ok.s0, fun G2 s2 => ⟨_, rfl, ?_⟩⟩
      have hf := failL_succ S y
      cases hd : detB S (step S S.s y) S.s with
      | true =>
        rw [hd, if_pos rfl] at hf
        refine iteF ⟨sG.trans s2, ?_⟩
        rw [hf]
        exact s2 _ _ hG
      | false =>
        rw [hd, if_neg Bool.false_ne_true] at hf
        refine iteT ⟨_, rfl, _, s2 _ _ hG, ?_, Same.upd2 (sG.trans s2) hD, ?_⟩
        · rw [List.length_map]
          have := failL_len S y
          exact small1000 (by omega)
        · rw [upd_same, hf, List.map_append]
          rfl
    · rintro G ⟨sG, hG⟩
      rw [failL_all] at hG
      exact ⟨Dd, _, rfl, SqL.of hG, fun t ht => q _ t (sG.trans (same_upd ht)) upd_same⟩
end
end Ub

namespace Ub
open PySem PySem.Spec PyProof.Rows L2
/-- rows as tuples known to their objects -/
structure FrzAt (H : Hp) (rs : List Addr) (cs : List (List Nat)) : Prop where
  len : rs.length = cs.length
  at_ : ∀ (i : Nat) (r : Addr) (row : List Nat), rs[i]? = some r → cs[i]? = some row → ∃ its, H r = some (frzT its (row.map vN))
theorem FrzAt.move {H H' : Hp} {rs : List Addr} {cs : List (List Nat)} (e : ∀ b its xs, H b = some (frzT its xs) → H' b = some (frzT its xs)) (h : FrzAt H rs cs) : FrzAt H' rs cs :=
  ⟨h.len, fun i r row h1 h2 => by
    obtain ⟨its, q⟩ := h.at_ i r row h1 h2
    exact ⟨its, e _ _ _ q⟩⟩
theorem FrzAt.snoc {H H' : Hp} {rs : List Addr} {cs : List (List Nat)} {r : Addr} {row : List Nat} (h : FrzAt H rs cs) (sm : ∀ b its xs, H b = some (frzT its xs) → H' b = some (frzT its xs)) (hr : ∃ its, H' r = some (frzT its (row.map vN))) : FrzAt H' (rs ++ [r]) (cs ++ [row]) := by
  refine ⟨by rw [List.length_append, List.length_append, h.len]; rfl, fun i r' row' h1 h2 => ?_⟩
  by_cases hi : i < rs.length
  · rw [List.getElem?_append_left hi] at h1
    rw [List.getElem?_append_left (by rw [← h.len]; exact hi)] at h2
    obtain ⟨its, q⟩ := h.at_ i r' row' h1 h2
    exact ⟨its, sm _ _ _ q⟩
  · have e : i = rs.length := by
      have := (List.getElem?_eq_some_iff.mp h1).1
      rw [List.length_append] at this
      have : i < rs.length + 1 := this
      omega
    subst e
    have h1' : r = r' := by simpa using h1
    have h2' : row = row' := by
      rw [h.len] at h2
      simpa using h2
    subst h1' h2'
    exact hr
theorem Rd.frzT {H : Hp} {r : Addr} {its : List Value} {xs : List V} (h : H r = some (Ub.frzT its xs)) : Rd H r (.tup xs) := .inr ⟨_, h⟩
section
variable {P : Program} {w : World} {K : PySem.W.Frag} {mg : Str → Option Value} {base : Heap}
abbrev sLWays : Stmt := top 52
theorem sc_law_ways : FnScope ["_law_system_here", "_law_ways_here", "_law_pair", "_law_sequence"] ["_law_system_here"] (defScope sLWays) := ⟨rfl, rfl, rfl, by decide +kernel, rfl, by decide +kernel, by decide +kernel⟩
def wayL (F : List Ent) : List (Nat × Addr) := F.map fun e => (e.nd.1, e.sa)
theorem wayL_fst (F : List Ent) : (wayL F).map (·.1) = (F.map (·.nd)).map (·.1) := by
  unfold wayL
  rw [List.map_map, List.map_map]
  rfl
def spWays : Sp := fun vs H Q _ => ∃ (p : Addr) (S : Sys), vs = [.ref p] ∧ SysAt H p S ∧ ∀ H' d L, Same H H' → H d = none → ReachedAt H' d S S.s L → Q (.ref d) H'
theorem cal_law_ways (D : Dfn K mg "_law_ways" sLWays ["_law_system_here"]) (c_law_pairs : Cal P w K mg base CX0 1 "_law_pairs" spLPairs) : Cal P w K mg base CX0 2 "_law_ways" spWays := by
  refine cal_of D sc_law_ways (fun vs H Q E h => ?_) (fun f cdv A outer s H vs Q E hr h => ?_)
  · obtain ⟨p, S, rfl, _⟩ := h
    rfl
  · obtain ⟨p, S, rfl, hS, q⟩ := h
    have ok := hS.ok
    obtain ⟨ca, rs, h1, h2, h3⟩ := hS.num
    refine ⟨_, (pss_cons (ps_set (i := 1) sc_law_ways.nd rfl (.inl rfl) pe_dnewK)
      (pss_cons (ps_for PassesOwn.never rfl (kpiL K (pe_k c_law_pairs hr (by decide) (by rfl) (pa_cons (pv 0) (pa_cons (pe_ix (kixT K) (pv 0) pe_int (fun _ _ => rfl)) (pa_cons (pe_ix (kixT K) (pv 0) pe_int (fun _ _ => rfl)) pa_nil))))) (kgT K rfl (pgs_cons (pg_name (i := 2) sc_law_ways.nd rfl (.inl rfl)) (pgs_cons (pg_name (i := 3) sc_law_ways.nd rfl (.inl rfl)) pgs_nil))) (pss_one (ps_dput (hu_of hr) (pv 1) (pe_ix (kixT K) (pv 2) pe_int (fun _ _ => rfl)) (pv 3) rfl)))
      (pss_one (ps_ret (pv 1))))), ?_⟩
    refine fun d hd => ?_
    have s0 : Same H (upd H d (.dK [])) := same_upd hd
    refine ⟨.ref p, rfl, .ref p, rfl, p, _, 1, vN S.s, rfl, rfl, SqT.of (s0 _ _ h1), atI_nat (j := 1) rfl, .ref p, rfl, p, _, 1, vN S.s, rfl, rfl, SqT.of (s0 _ _ h1), atI_nat (j := 1) rfl, p, S, S.s, S.s, rfl, hS.same s0, ok.s0, ok.s0, fun H1 t F sm1 LP => ?_⟩
    have hd1 : H1 d = some (.dK (dkOf (wayL (F.take 0)))) := sm1 _ _ upd_same
    have hdt : d ≠ t := ne_of hd1 LP.lst (fun z => nomatch z)
    obtain ⟨nd1, mem1⟩ := nd_diag LP.nd LP.mem
    refine ⟨t, rfl, ⟨_, SqL.of LP.lst⟩, for_list (K := K) (a := t) (xs := F.map Ent.v) (fun i σ G => ∃ (y2 y3 : Option V), σ = [some (.ref p), some (.ref d), y2, y3] ∧ (∀ b o, b ≠ d → H1 b = some o → G b = some o) ∧ G d = some (.dK (dkOf (wayL (F.take i))))) ⟨none, none, rfl, fun b o _ h => h, hd1⟩ ?_ ?_ ?_⟩
    · rintro i σ G _ ⟨y2, y3, rfl, bt, hG⟩
      exact SqL.of (bt _ _ hdt.symm LP.lst)
    · rintro i x σ G hi ⟨y2, y3, rfl, bt, hG⟩
      obtain ⟨e, he, rfl⟩ := of_map_at hi
      have hE := (LP.ents e (List.mem_of_getElem? he)).tups fun b xs h => bt b _ (ne_of h hd1 (fun z => nomatch z)) h
      have hlen : F.length ≤ 64 := LP.len
      have hnew : e.nd.1 ∉ (wayL (F.take i)).map (·.1) := by
        have hlt := (List.getElem?_eq_some_iff.mp he).1
        have hsub : ((wayL (F.take (i + 1))).map (·.1)).Nodup := by
          rw [wayL_fst, List.map_take, List.map_take]
          exact nd1.sublist (List.take_sublist _ _)
        have e1 : wayL (F.take (i + 1)) = wayL (F.take i) ++ [(e.nd.1, e.sa)] := take_snoc he
        rw [e1, List.map_append, List.nodup_append] at hsub
        intro hm
        exact hsub.2.2 _ hm _ (by simp) rfl
      refine ⟨e.fa, _, rfl, SqT.of hE.f, rfl, _, _, rfl, _, _, rfl, rfl, .ref e.sa, rfl, .ref d, rfl, .ref e.pa, rfl, e.pa, _, 0, vN e.nd.1, rfl, rfl, SqT.of hE.p, atI_nat (j := 0) rfl, d, _, rfl, DPut.k (k := Sum.inl (e.nd.1 : Int)) hG ?_, ?_⟩
      · rw [dkOf_len, wayL, List.length_map]
        have := take_len (i := i) hlen
        exact small1000 (by omega)
      · rw [dkOf_put hnew]
        refine ⟨_, _, rfl, fun b o hb h => ?_, ?_⟩
        · rw [upd_ne hb]
          exact bt b o hb h
        · rw [upd_same]
          have e1 : wayL (F.take (i + 1)) = wayL (F.take i) ++ [(e.nd.1, e.sa)] := take_snoc he
          rw [e1]
    · rintro σ G ⟨y2, y3, rfl, bt, hG⟩
      rw [List.length_map, List.take_length] at hG
      refine ⟨.ref d, rfl, q G d (wayL F) (fun b o h => ?_) hd ⟨hG, ?_, fun x => ?_, fun e he => ?_⟩⟩
      · have hb := ne_of_none h hd
        exact bt b o hb (sm1 _ _ (s0 _ _ h))
      · rw [wayL_fst]
        exact nd1
      · rw [wayL_fst]
        exact mem1 x
      · obtain ⟨e', he', rfl⟩ := List.mem_map.mp he
        have hE := LP.ents e' he'
        exact ⟨e'.u, bt _ _ (ne_of hE.s hd1 (fun z => nomatch z)) hE.s, hE.wd, hE.one⟩
abbrev sLRows : Stmt := top 53
theorem sc_law_rows : FnScope ["_law_system_here", "_law_ways_here", "_law_states", "_law_other", "_law_one"] ["_law_system_here"] (defScope sLRows) := ⟨rfl, rfl, rfl, by decide +kernel, rfl, by decide +kernel, by decide +kernel⟩
def spLRows : Sp := fun vs H Q _ => ∃ (p : Addr) (S : Sys), vs = [.ref p] ∧ SysAt H p S ∧ Reg S ∧ ∀ H' t rs, Same H H' → H' t = some (.tup (rs.map V.ref)) → FrzAt H' rs (rows S) → Q (.ref t) H'
theorem cal_law_rows (D : Dfn K mg "_law_rows" sLRows ["_law_system_here"]) (B : Bl mg) (c_law_ways : Cal P w K mg base CX0 2 "_law_ways" spWays) (c_law_led : Cal P w K mg base CX0 1 "_law_led" (spLed K)) : Cal P w K mg base CX0 3 "_law_rows" spLRows := by
  refine cal_of D sc_law_rows (fun vs H Q E h => ?_) (fun f cdv A outer s H vs Q E hr h => ?_)
  · obtain ⟨p, S, rfl, _⟩ := h
    rfl
  · obtain ⟨p, S, rfl, hS, rg, q⟩ := h
    have ok := hS.ok
    refine ⟨_, (pss_cons (ps_set (i := 1) sc_law_rows.nd rfl (.inr rfl) (pe_k c_law_ways hr (by decide) (by rfl) (pa_cons (pv 0) pa_nil)))
      (pss_cons (ps_set (i := 2) sc_law_rows.nd rfl (.inr rfl) (pe_callB (call_sortedDI rfl) (by rfl) B.sorted (by decide +kernel) (pa_cons (pv 1) pa_nil)))
      (pss_one (ps_ret (pe_callTy (ktupOf K) (by rfl) B.tuple PyProof.Rows.boot_tuple (pa_cons (pe_lc (own := [("_law_one", 4)]) (g := (gName 4)) (tt := tYes) rfl sc_law_rows.nd (kpiL K (pv 2)) (blkOk_by (N := ["_law_system_here", "_law_ways_here", "_law_states", "_law_other", "_law_one"]) (sc := defScope sLRows) (by decide +kernel)) (fun _ _ _ _ _ => (pg_name (i := 4) sc_law_rows.nd rfl (.inr rfl))) (fun _ _ _ _ _ => pts_nil) (fun _ _ _ _ _ => (pe_callTy (ktupF K) (by rfl) B.tuple PyProof.Rows.boot_tuple (pa_cons (pe_lc (own := [("_law_other", 3)]) (g := (gName 3)) (tt := tYes) rfl sc_law_rows.nd (kpiL K (pv 2)) (blkOk_by (N := ["_law_system_here", "_law_ways_here", "_law_states", "_law_other", "_law_one"]) (sc := relS (xScope (xNth (xArgs (xRet (xAt (defBody sLRows) 2))) 0)) (defScope sLRows)) (by decide +kernel)) (fun _ _ _ _ _ => (pg_name (i := 3) sc_law_rows.nd rfl (.inl rfl))) (fun _ _ _ _ _ => pts_nil) (fun _ _ _ _ _ => (pe_k c_law_led hr (by decide) (by rfl) (pa_cons (pv 0) (pa_cons (pv 3) (pa_cons (pe_dget (hu_of hr) (pv 1) (pv 4) (fun _ _ => rfl)) pa_nil)))))) pa_nil)))) pa_nil)))))), ?_⟩
    refine ⟨.ref p, rfl, p, S, rfl, hS, fun H1 d L sm1 _ R => ?_⟩
    have hlen : (L.map (·.1)).length ≤ S.n := singles_len R.nd fun x hx => ((R.mem x).mp hx).lt ok ok.s0
    have hn8 := ok.n8
    refine ⟨.ref d, rfl, d, _, (L.map (·.1)).map Int.ofNat, rfl, .inl R.dict, ?_, ?_, fun ys t hp hs ht => ?_⟩
    · rw [dkOf_keys, List.map_map, List.map_map, List.map_map]
      rfl
    · rw [List.length_map]
      omega
    have e := sorted_reach ok ok.s0 hp hs R.nd R.mem
    subst e
    have eM : ((reachL S S.s).map Int.ofNat).map V.int = (states S).map vN := by
      rw [List.map_map]
      rfl
    rw [eM]
    have sm2 := same_upd (o := .lst ((states S).map vN)) ht
    have sm := sm1.trans sm2
    have ht : (upd H1 t (.lst ((states S).map vN))) t = some (.lst ((states S).map vN)) := upd_same
    have hd2 := sm2 _ _ R.dict
    have hw2 : ∀ e ∈ L, ∃ u, (upd H1 t (.lst ((states S).map vN))) e.2 = some (.tup (u.map vN)) ∧ Wd S u ∧ led S S.s u = e.1 := fun e he => by
      obtain ⟨u, hu, r⟩ := R.val e he
      exact ⟨u, sm2 _ _ hu, r⟩
    clear sm2
    revert sm ht hd2 hw2
    generalize upd H1 t (.lst ((states S).map vN)) = H2
    intro sm ht hd2 hw2
    refine ⟨.ref t, rfl, t, rfl, ⟨_, SqL.of ht⟩, fun Dd hD => lc_list (K := K) (a := t) (xs := (states S).map vN)
      (fun i G => Same H2 G ∧ ∃ rs : List Addr, G Dd = some (.lst (rs.map V.ref)) ∧ FrzAt G rs (((states S).take i).map (row S))) ?_ ?_ ?_ ?_⟩
    · exact ⟨same_upd hD, [], upd_same, rfl, fun i r row h => by simp at h⟩
    · rintro i G _ ⟨sG, _⟩
      exact SqL.of (sG _ _ ht)
    · rintro i x G hi ⟨sG, rs, hGD, hR⟩
      obtain ⟨y, hy, rfl⟩ := of_map_at hi
      have hym := List.mem_of_getElem? hy
      have hyr := (mem_states ok).mp hym
      obtain ⟨ta, hta⟩ := mem_fst ((R.mem y).mpr hyr)
      obtain ⟨u, hu2, wu, lu⟩ := hw2 _ hta
      have lu : led S S.s u = y := lu
      refine ⟨rfl, .ref t, rfl, t, rfl, ⟨_, SqL.of (sG _ _ ht)⟩, fun D2 hD2 => lc_list (K := K) (a := t) (xs := (states S).map vN) (fun k G2 => Same G G2 ∧ G2 D2 = some (.lst ((((states S).take k).map (mul S y)).map vN))) ⟨same_upd hD2, upd_same⟩ ?_ ?_ ?_⟩
      · rintro k G2 _ ⟨s2, _⟩
        exact SqL.of (s2 _ _ (sG _ _ ht))
      · rintro k x G2 hk ⟨s2, hG2⟩
        obtain ⟨z, hz, rfl⟩ := of_map_at hk
        have hzr := (mem_states ok).mp (List.mem_of_getElem? hz)
        have s3 := sG.trans s2
        refine ⟨rfl, .ref p, rfl, vN z, rfl, .ref d, rfl, vN y, rfl, d, .ref ta, rfl, ?_, p, ta, S, z, u, rfl, hS.same (sm.trans s3), hzr.lt ok ok.s0, SqT.of (s3 _ _ hu2), wu, _, hG2, ?_, Same.upd2 s2 hD2, ?_⟩
        · have e := dkOf_some (e := (y, ta)) R.nd hta
          rw [← e]
          exact DGet.k (k := Sum.inl (y : Int)) (s3 _ _ hd2)
        · rw [List.length_map, List.length_map, List.length_take]
          have := len_states (S := S)
          exact small1000 (by omega)
        · rw [upd_same, mul_led ok rg wu lu hzr, take_snoc hz, List.map_append]
          rfl
      · rintro G2 ⟨s2, hG2⟩
        rw [List.length_map, List.take_length] at hG2
        refine ⟨D2, _, rfl, SqL.of hG2, fun r its hr2 => ?_⟩
        have s3 : Same G (upd G2 r (frzT its ((row S y).map vN))) := s2.trans (same_upd hr2)
        refine ⟨_, s3 _ _ hGD, ?_, Same.upd2 (sG.trans s3) hD, rs ++ [r], ?_, ?_⟩
        · rw [List.length_map, hR.len, List.length_map, List.length_take]
          have := len_states (S := S)
          exact small1000 (by omega)
        · rw [upd_same, List.map_append]
          rfl
        · rw [rows_take S i y hy]
          have key : ∀ (b : Addr) (is : List Value) (xs : List V), (upd G2 r (frzT its ((row S y).map vN))) b = some (frzT is xs) → (upd (upd G2 r (frzT its ((row S y).map vN))) Dd (.lst (rs.map V.ref ++ [.ref r]))) b = some (frzT is xs) := fun b is xs e => by
            rw [upd_ne (ne_of e (s3 _ _ hGD) (fun z => nomatch z))]
            exact e
          exact hR.snoc (fun b is xs e => key _ _ _ (s3 _ _ e)) ⟨its, key _ _ _ upd_same⟩
    · rintro G ⟨sG, rs, hGD, hR⟩
      rw [List.length_map, List.take_length] at hR
      exact ⟨Dd, _, rfl, SqL.of hGD, fun r hr2 => q _ r rs (sm.trans (sG.trans (same_upd hr2))) upd_same (hR.move fun b is xs e => same_upd hr2 _ _ e)⟩
abbrev sLRefused : Stmt := top 55
theorem sc_law_refused : FnScope ["_law_system_here", "_law_state", "e"] ["_law_system_here", "_law_state"] (defScope sLRefused) := ⟨rfl, rfl, rfl, by decide +kernel, rfl, by decide +kernel, by decide +kernel⟩
def spRefused : Sp := fun vs H Q _ => ∃ (p : Addr) (S : Sys) (x : Nat), vs = [.ref p, vN x] ∧ SysAt H p S ∧ Reach S S.s x ∧ regB S = false ∧ ∀ H', Q (.bl true) H'
theorem cal_law_refused {C : Addr} (D : Dfn K mg "_law_refused" sLRefused ["_law_system_here", "_law_state"]) (T : NpTxt K mg C) (c_inverse : Cal P w K mg base (L2.CX P w) 8 "inverse" (spInverse C)) : Cal P w K mg base CX0 9 "_law_refused" spRefused := by
  obtain ⟨fI, fdI, psI, FI, gI, kpI, bI⟩ := c_inverse.ex
  refine cal_of D sc_law_refused (fun vs H Q E h => ?_) (fun f cdv A outer s H vs Q E hr h => ?_)
  · obtain ⟨p, S, x, rfl, _⟩ := h
    rfl
  · obtain ⟨p, S, x, rfl, hS, hx, hb, q⟩ := h
    refine ⟨_, pss_cons (ps_try_as (i := 2) (tb := fun W => tDrop (tCallS (spInverse C) (WE W) (tCons (tVar 0) (tCons (tVar 1) tNil)))) (ts := fun a cls d => tRet (tOp rEq (tXf a cls d C "why" (tVar 2)) (tC (.str "regular")))) (Wout := fun _ _ _ _ => False) rfl rfl sc_law_refused.nd rfl rfl ⟨rfl, by decide, .inl T.g⟩ takes0
      (fun W pn xe tk _ => pss_one (ps_expr (pe_callS FI hr rfl gI kpI bI (fun σ => passAt tk σ) (pa_cons (pv 0) (pa_cons (pv 1) pa_nil)))))
      (fun a oe cls d pn hz hf => pss_one (ps_ret (pe_cmpR op_eq (pe_xf T.xf T.no hz hf (pv 2)) pe_str (nomark _))))) (pss_one (ps_ret pe_bl)), ?_⟩
    refine ⟨_, rfl, _, rfl, p, S, x, rfl, hS, hx, fun h => ?_, fun _ H' d sm hd e => ?_⟩
    · rw [hb] at h
      cases h
    · refine ⟨true, T.te, fun _ a ha => ?_, fun q => Bool.noConfusion q⟩
      refine ⟨.ref a, rfl, rfl, rfl, d, _, .str "regular", rfl, e, by simp [List.lookup], rfl, ?_⟩
      show Q (.bl (decide (V.str "regular" = V.str "regular"))) H'
      rw [decide_eq_true rfl]
      exact q H'
end
end Ub

namespace Ub
open PySem PySem.Spec PyProof.Rows L2
/-- what the law knows once its rows are made -/
structure Lx (G : Hp) (p a t t4 : Addr) (S : Sys) (rs : List Addr) : Prop where
  str : StrAt G p
  sys : SysAt G a S
  ne : t ≠ p
  st : G t = some (.lst ((states S).map vN))
  rw : G t4 = some (.tup (rs.map V.ref))
  fz : FrzAt G rs (rows S)
theorem Lx.but {G G' : Hp} {p a t t4 : Addr} {S : Sys} {rs : List Addr} (h : Lx G p a t t4 S rs) (bt : But p G G') (s : StrAt G' p) : Lx G' p a t t4 S rs := by
  refine ⟨s, h.sys.tups (bt.tups h.str), h.ne, bt _ _ h.ne h.st, bt.tups h.str _ _ h.rw, h.fz.move fun b its xs e => bt _ _ ?_ e⟩
  obtain ⟨sc, o, ns, c, k, h1, _⟩ := h.str
  exact ne_of e h1 fun z => nomatch z
theorem Lx.same {G G' : Hp} {p a t t4 : Addr} {S : Sys} {rs : List Addr} (h : Lx G p a t t4 S rs) (s : Same G G') : Lx G' p a t t4 S rs := h.but (But.of s) (h.str.same s)
theorem eqV_N (x y : Nat) : eqV (vN x) (vN y) = decide (x = y) := by
  show ((x : Int) == (y : Int)) = _
  by_cases e : x = y
  · subst e
    simp
  · rw [decide_eq_false e]
    exact beq_eq_false_iff_ne.mpr (by omega)
/-- the place of a state among the states -/
theorem ix_eq (x : Nat) : eqV (vN x) (vN x) = true := by
  rw [eqV_N]
  exact decide_eq_true rfl
theorem ix_lt {l : List Nat} (hn : l.Nodup) {j x : Nat} (hx : l[j]? = some x) : ∀ (m : Nat) (z : V), m < j → (l.map vN)[m]? = some z → eqV z (vN x) = false := fun m z hm hz => by
  obtain ⟨y, hy, rfl⟩ := of_map_at hz
  rw [eqV_N]
  refine decide_eq_false fun e => ?_
  subst e
  obtain ⟨a1, b1⟩ := List.getElem?_eq_some_iff.mp hy
  obtain ⟨a2, b2⟩ := List.getElem?_eq_some_iff.mp hx
  exact List.pairwise_iff_getElem.mp hn m j a1 a2 hm (b1.trans b2.symm)
theorem mem_at {l : List Nat} {x : Nat} (h : x ∈ l) : ∃ j : Nat, l[j]? = some x := List.mem_iff_getElem?.mp h
theorem count_N (x : Nat) : ∀ l : List Nat, (l.map Int.ofNat).count (x : Int) = l.count x
  | [] => rfl
  | y :: l => by
    rw [List.map_cons, List.count_cons, List.count_cons, count_N x l]
    by_cases e : y = x
    · subst e
      simp
    · have h1 : (Int.ofNat y == (x : Int)) = false := beq_eq_false_iff_ne.mpr (by
        show ¬ ((y : Int) = (x : Int))
        omega)
      have h2 : (y == x) = false := beq_eq_false_iff_ne.mpr e
      rw [h1, h2]
theorem any_none (n : Nat) : (List.replicate n false).any id = false := by
  rw [List.any_replicate]
  split <;> rfl
theorem ne_one {k : Nat} (h : k = 1) : (!decide (V.int (k : Int) = V.int 1)) = false := by
  subst h
  rfl
/-- the row of a state -/
theorem Lx.row {G : Hp} {p a t t4 : Addr} {S : Sys} {rs : List Addr} (h : Lx G p a t t4 S rs) {j x : Nat} (hx : (states S)[j]? = some x) : ∃ r its, (rs.map V.ref)[j]? = some (.ref r) ∧ G r = some (frzT its ((Ub.row S x).map vN)) := by
  have h1 : (rows S)[j]? = some (Ub.row S x) := map_at hx
  have hl : j < rs.length := by
    rw [h.fz.len]
    exact (List.getElem?_eq_some_iff.mp h1).1
  have h2 : rs[j]? = some rs[j] := List.getElem?_eq_getElem hl
  obtain ⟨its, e⟩ := h.fz.at_ j _ _ h2 h1
  exact ⟨rs[j], its, map_at h2, e⟩
theorem row_len {S : Sys} {x : Nat} : (row S x).length = (states S).length := List.length_map _
theorem alike0 {H : Hp} {x : Nat} : Alike 0 H (vN x) (vN x) := ⟨_, rfl, rfl⟩
theorem alike_row {H : Hp} {r r' : Addr} {l : List Nat} (h1 : Rd H r (.tup (l.map vN))) (h2 : Rd H r' (.tup (l.map vN))) (hl : l.length ≤ 1000) : Alike 1 H (.ref r) (.ref r') :=
  ⟨r, r', _, _, rfl, rfl, .inl ⟨h1, h2⟩, rfl, by rw [List.length_map]; exact hl, fun i u v hu hv => by
    rw [hu] at hv
    cases hv
    obtain ⟨y, _, rfl⟩ := of_map_at hu
    exact alike0⟩
theorem alike_rows {H : Hp} {t t' : Addr} {rs rs' : List Addr} {cs : List (List Nat)} (h1 : H t = some (.tup (rs.map V.ref))) (h2 : H t' = some (.tup (rs'.map V.ref))) (a1 : RowsAt H rs cs) (a2 : FrzAt H rs' cs) (hl : cs.length ≤ 1000) (hr : ∀ l ∈ cs, l.length ≤ 1000) : Alike 2 H (.ref t) (.ref t') := by
  refine ⟨t, t', _, _, rfl, rfl, .inl ⟨.inl h1, .inl h2⟩, by rw [List.length_map, List.length_map, a1.len, a2.len], by rw [List.length_map, a1.len]; exact hl, fun i u v hu hv => ?_⟩
  obtain ⟨r, hr1, rfl⟩ := of_map_at hu
  obtain ⟨r', hr2, rfl⟩ := of_map_at hv
  have hlt : i < cs.length := by
    rw [← a1.len]
    exact (List.getElem?_eq_some_iff.mp hr1).1
  have hc : cs[i]? = some cs[i] := List.getElem?_eq_getElem hlt
  obtain ⟨its, e⟩ := a2.at_ i _ _ hr2 hc
  exact alike_row (.inl (a1.at_ i _ _ hr1 hc)) (Rd.frzT e) (hr _ (List.getElem_mem hlt))
theorem alike_two {H : Hp} {b b' : Addr} {x y : Nat} (h1 : H b = some (.lst [vN x, vN y])) (h2 : H b' = some (.lst [vN x, vN y])) : Alike 1 H (.ref b) (.ref b') :=
  ⟨b, b', _, _, rfl, rfl, .inr ⟨.inl h1, .inl h2⟩, rfl, (show (2 : Nat) ≤ 1000 by decide), fun i u v hu hv => by
    rw [hu] at hv
    cases hv
    match i, hu with
    | 0, hu =>
      cases hu
      exact alike0
    | 1, hu =>
      cases hu
      exact alike0
    | i + 2, hu => simp at hu⟩
section
variable {P : Program} {w : World} {K : PySem.W.Frag} {mg : Str → Option Value} {base : Heap}
abbrev sLaw : Stmt := top 57
theorem sc_law : FnScope ["_law_script", "_law_stream_here", "_law_system_here", "_law_states", "_law_rows_here", "_law_start", "_law_one", "_law_back", "_law_row", "_law_other", "_law_line", "_law_turn", "_law_x", "_law_y", "_law_z", "_law_k"] ["_law_script"] (defScope sLaw) := ⟨rfl, rfl, rfl, by decide +kernel, rfl, by decide +kernel, by decide +kernel⟩
def spLaw (K : PySem.W.Frag) : Sp := fun vs H Q _ => ∃ (a : Addr) (ns : List Int), vs = [.ref a] ∧ SqL K H a (ns.map V.int) ∧ ∀ H', Q (.bl true) H'
theorem ok_law {C fa : Addr} {fd : FuncData} (F : Fun K "law" "law" sLaw fa fd) (B : Bl mg) (c_law_stream : Cal P w K mg base CX0 1 "_law_stream" (spStream K)) (c_law_system : Cal P w K mg base CX0 3 "_law_system" spSystem) (c_law_next : Cal P w K mg base CX0 1 "_law_next" spNext)
    (c_law_great : Cal P w K mg base CX0 2 "_law_great" spGreat) (c_law_reached : Cal P w K mg base CX0 2 "_law_reached" spLReached) (c_law_failing : Cal P w K mg base CX0 4 "_law_failing" spFailing) (c_products : Cal P w K mg base CX0 7 "products" spProducts)
    (c_is_regular : Cal P w K mg base CX0 7 "is_regular" spAllRev) (c_law_refused : Cal P w K mg base CX0 9 "_law_refused" spRefused) (c_law_rows : Cal P w K mg base CX0 3 "_law_rows" spLRows) (c_law_equal2 : Cal P w K mg base CX0 4 "_law_equal" (spEq 2))
    (c_law_equal1 : Cal P w K mg base CX0 3 "_law_equal" (spEq 1)) (c_law_equal0 : Cal P w K mg base CX0 2 "_law_equal" (spEq 0)) (c_product : Cal P w K mg base CX0 8 "product" spProductOf) (c_inverse : Cal P w K mg base (L2.CX P w) 8 "inverse" (spInverse C)) :
    FnOk P w K mg base CX0 10 fa fd ["_law_script"] (spLaw K) := by
  refine F.ok sc_law (fun vs H Q E h => ?_) (fun cdv A outer s H vs Q E hr h => ?_)
  · obtain ⟨a, ns, rfl, _⟩ := h
    rfl
  · obtain ⟨a0, ns, rfl, hA, q⟩ := h
    refine ⟨_, (pss_cons (ps_set (i := 1) sc_law.nd rfl (.inr rfl) (pe_k c_law_stream hr (by decide) (by rfl) (pa_cons (pv 0) pa_nil)))
      (pss_cons (ps_set (i := 2) sc_law.nd rfl (.inl rfl) (pe_k c_law_system hr (by decide) (by rfl) (pa_cons (pv 1) (pa_cons pe_int pa_nil))))
      (pss_cut (ps_if (pt_cmpR op_eq (pe_k c_law_next hr (by decide) (by rfl) (pa_cons (pv 1) (pa_cons pe_int pa_nil))) pe_int (nomark _)) (pss_one (ps_set (i := 2) sc_law.nd rfl (.inl rfl) (pe_k c_law_great hr (by decide) (by rfl) (pa_cons (pv 1) pa_nil)))) pss_nil)
      (pss_cons (ps_set (i := 3) sc_law.nd rfl (.inr rfl) (pe_k c_law_reached hr (by decide) (by rfl) (pa_cons (pv 2) (pa_cons (pe_ix (kixT K) (pv 2) pe_int (fun _ _ => rfl)) pa_nil))))
      (pss_cons (ps_if (pt_cmpR (kneD K hr.units) (pe_k c_law_failing hr (by decide) (by rfl) (pa_cons (pv 2) pa_nil)) (pe_tup pa_nil) (nomark _)) (pss_one (ps_ret (pe_and (pe_cmpR op_isN (pe_k c_products hr (by decide) (by rfl) (pa_cons (pv 2) pa_nil)) pe_non (nomark _)) (pe_and (pe_cmpR op_isBl (pe_k c_is_regular hr (by decide) (by rfl) (pa_cons (pv 2) pa_nil)) pe_bl (nomark _)) (pe_one (pe_k c_law_refused hr (by decide) (by rfl) (pa_cons (pv 2) (pa_cons (pe_ix (kixL K) (pv 3) pe_int (fun _ _ => rfl)) pa_nil)))))))) pss_nil)
      (pss_cons (ps_set (i := 4) sc_law.nd rfl (.inr rfl) (pe_k c_law_rows hr (by decide) (by rfl) (pa_cons (pv 2) pa_nil)))
      (pss_cons (ps_if (pt_not (pt_val (pe_k c_law_equal2 hr (by decide) (by rfl) (pa_cons (pe_k c_products hr (by decide) (by rfl) (pa_cons (pv 2) pa_nil)) (pa_cons (pv 4) pa_nil))))) (pss_one (ps_ret pe_bl)) pss_nil)
      (pss_cons (ps_set (i := 5) sc_law.nd rfl (.inl rfl) (pe_ix (kixT K) (pv 2) pe_int (fun _ _ => rfl)))
      (pss_cons (ps_for PassesOwn.never rfl (kpiL K (pv 3)) (pg_name (i := 6) sc_law.nd rfl (.inr rfl)) (pss_cons (ps_if (pt_not (pt_val (pe_k c_law_equal1 hr (by decide) (by rfl) (pa_cons (pe_lst (pa_cons (pe_k c_product hr (by decide) (by rfl) (pa_cons (pv 2) (pa_cons (pv 6) (pa_cons (pv 5) pa_nil)))) (pa_cons (pe_k c_product hr (by decide) (by rfl) (pa_cons (pv 2) (pa_cons (pv 5) (pa_cons (pv 6) pa_nil)))) pa_nil))) (pa_cons (pe_lst (pa_cons (pv 6) (pa_cons (pv 6) pa_nil))) pa_nil))))) (pss_one (ps_ret pe_bl)) pss_nil)
      (pss_cons (ps_set (i := 7) sc_law.nd rfl (.inl rfl) (pe_kx c_inverse hr (by decide) (by rfl) (pa_cons (pv 2) (pa_cons (pv 6) pa_nil))))
      (pss_cons (ps_if (PW.pt (pw_or (pt_cmpR (knotin K) (pv 7) (pv 3) (by rfl)) (pw_or1 (pt_not (pt_val (pe_k c_law_equal1 hr (by decide) (by rfl) (pa_cons (pe_lst (pa_cons (pe_k c_product hr (by decide) (by rfl) (pa_cons (pv 2) (pa_cons (pv 6) (pa_cons (pv 7) pa_nil)))) (pa_cons (pe_k c_product hr (by decide) (by rfl) (pa_cons (pv 2) (pa_cons (pv 7) (pa_cons (pv 6) pa_nil)))) pa_nil))) (pa_cons (pe_lst (pa_cons (pv 5) (pa_cons (pv 5) pa_nil))) pa_nil)))))))) (pss_one (ps_ret pe_bl)) pss_nil)
      (pss_cons (ps_set (i := 8) sc_law.nd rfl (.inr rfl) (pe_ix (kixT K) (pv 4) (kbm K PySem.F.plainAttrs_list PySem.F.slot_list_index PySem.F.type_list_index (kindex K) (pv 3) (pa_cons (pv 6) pa_nil)) (fun _ _ => rfl)))
      (pss_one (ps_if (PW.pt (pw_or (pt_val (pe_callB (kany K) (by rfl) B.any (by decide +kernel) (pa_cons (pe_lc (own := [("_law_other", 9)]) (g := (gName 9)) (tt := tYes) rfl sc_law.nd (kpiL K (pv 3)) (blkOk_by (N := ["_law_script", "_law_stream_here", "_law_system_here", "_law_states", "_law_rows_here", "_law_start", "_law_one", "_law_back", "_law_row", "_law_other", "_law_line", "_law_turn", "_law_x", "_law_y", "_law_z", "_law_k"]) (sc := defScope sLaw) (by decide +kernel)) (fun _ _ _ _ _ => (pg_name (i := 9) sc_law.nd rfl (.inl rfl))) (fun _ _ _ _ _ => pts_nil) (fun _ _ _ _ _ => (pe_cmpR op_ne (pe_tcount (pv 8) (pv 9)) pe_int (nomark _)))) pa_nil))) (pw_or1 (pt_val (pe_callB (kany K) (by rfl) B.any (by decide +kernel) (pa_cons (pe_lc (own := [("_law_other", 9)]) (g := (gName 9)) (tt := tYes) rfl sc_law.nd (kpiL K (pv 3)) (blkOk_by (N := ["_law_script", "_law_stream_here", "_law_system_here", "_law_states", "_law_rows_here", "_law_start", "_law_one", "_law_back", "_law_row", "_law_other", "_law_line", "_law_turn", "_law_x", "_law_y", "_law_z", "_law_k"]) (sc := defScope sLaw) (by decide +kernel)) (fun _ _ _ _ _ => (pg_name (i := 9) sc_law.nd rfl (.inl rfl))) (fun _ _ _ _ _ => pts_nil) (fun _ _ _ _ _ => (pe_cmpR op_ne (kbm K PySem.F.plainAttrs_list PySem.F.slot_list_count PySem.F.type_list_count (klcount K) (pe_lc (own := [("_law_line", 10)]) (g := (gName 10)) (tt := tYes) rfl sc_law.nd (kpiT K (pv 4)) (blkOk_by (N := ["_law_script", "_law_stream_here", "_law_system_here", "_law_states", "_law_rows_here", "_law_start", "_law_one", "_law_back", "_law_row", "_law_other", "_law_line", "_law_turn", "_law_x", "_law_y", "_law_z", "_law_k"]) (sc := relS (xScope (xNth (xArgs (xNth (xVs (xTest (xAt (xBody (xAt (defBody sLaw) 8)) 4))) 1)) 0)) (defScope sLaw)) (by decide +kernel)) (fun _ _ _ _ _ => (pg_name (i := 10) sc_law.nd rfl (.inl rfl))) (fun _ _ _ _ _ => pts_nil) (fun _ _ _ _ _ => (pe_ix (kixT K) (pv 10) (kbm K PySem.F.plainAttrs_list PySem.F.slot_list_index PySem.F.type_list_index (kindex K) (pv 3) (pa_cons (pv 6) pa_nil)) (fun _ _ => rfl)))) (pa_cons (pv 9) pa_nil)) pe_int (nomark _)))) pa_nil)))))) (pss_one (ps_ret pe_bl)) pss_nil)))))))
      (pss_cons (ps_for PassesOwn.never rfl (pi_range1 (by rfl) B.range (pa_cons pe_int pa_nil)) (pg_name (i := 11) sc_law.nd rfl (.inl rfl)) (pss_cons (ps_asg (pe_lc (own := [("_law_k", 15)]) (g := (gName 15)) (tt := tYes) rfl sc_law.nd (pi_range1 (by rfl) B.range (pa_cons pe_int pa_nil)) (blkOk_by (N := ["_law_script", "_law_stream_here", "_law_system_here", "_law_states", "_law_rows_here", "_law_start", "_law_one", "_law_back", "_law_row", "_law_other", "_law_line", "_law_turn", "_law_x", "_law_y", "_law_z", "_law_k"]) (sc := defScope sLaw) (by decide +kernel)) (fun _ _ _ _ _ => (pg_name (i := 15) sc_law.nd rfl (.inl rfl))) (fun _ _ _ _ _ => pts_nil) (fun _ _ _ _ _ => (pe_ix (kixL K) (pv 3) (pe_k c_law_next hr (by decide) (by rfl) (pa_cons (pv 1) (pa_cons (pe_callB (klen K) (by rfl) B.len PySem.boot_len (pa_cons (pv 3) pa_nil)) pa_nil))) (fun _ _ => rfl)))) (kgL K rfl (pgs_cons (pg_name (i := 12) sc_law.nd rfl (.inl rfl)) (pgs_cons (pg_name (i := 13) sc_law.nd rfl (.inl rfl)) (pgs_cons (pg_name (i := 14) sc_law.nd rfl (.inl rfl)) pgs_nil)))))
      (pss_cons (ps_if (pt_not (pt_val (pe_k c_law_equal0 hr (by decide) (by rfl) (pa_cons (pe_k c_product hr (by decide) (by rfl) (pa_cons (pv 2) (pa_cons (pv 12) (pa_cons (pv 13) pa_nil)))) (pa_cons (pe_ix (kixT K) (pe_ix (kixT K) (pv 4) (kbm K PySem.F.plainAttrs_list PySem.F.slot_list_index PySem.F.type_list_index (kindex K) (pv 3) (pa_cons (pv 12) pa_nil)) (fun _ _ => rfl)) (kbm K PySem.F.plainAttrs_list PySem.F.slot_list_index PySem.F.type_list_index (kindex K) (pv 3) (pa_cons (pv 13) pa_nil)) (fun _ _ => rfl)) pa_nil))))) (pss_one (ps_ret pe_bl)) pss_nil)
      (pss_one (ps_if (pt_cmpR op_ne (pe_k c_product hr (by decide) (by rfl) (pa_cons (pv 2) (pa_cons (pe_k c_product hr (by decide) (by rfl) (pa_cons (pv 2) (pa_cons (pv 12) (pa_cons (pv 13) pa_nil)))) (pa_cons (pv 14) pa_nil)))) (pe_k c_product hr (by decide) (by rfl) (pa_cons (pv 2) (pa_cons (pv 12) (pa_cons (pe_k c_product hr (by decide) (by rfl) (pa_cons (pv 2) (pa_cons (pv 13) (pa_cons (pv 14) pa_nil)))) pa_nil)))) (nomark _)) (pss_one (ps_ret pe_bl)) pss_nil)))))
      (pss_one (ps_ret pe_bl)))))))))))), ?_⟩
    refine ⟨.ref a0, rfl, a0, ns, rfl, hA, fun H1 p s1 _ st1 => ?_⟩
    refine ⟨.ref p, rfl, p, 6, rfl, st1, by decide, by decide, fun H2 a2 S2 bt2 st2 hS2 => ?_⟩
    refine ⟨fun σ G => ∃ (a : Addr) (S : Sys), σ = [some (.ref a0), some (.ref p), some (.ref a), none, none, none, none, none, none, none, none, none, none, none, none, none] ∧ StrAt G p ∧ SysAt G a S, ?_, ?_⟩
    · refine ⟨.ref p, rfl, p, 3, rfl, st2, by decide, by decide, fun H3 d bt3 st3 hd => ⟨rfl, _, rfl, ite2 (fun _ => ?_) (fun _ => ⟨a2, S2, rfl, st3, hS2.tups (bt3.tups st2)⟩)⟩⟩
      exact ⟨.ref p, rfl, p, rfl, st3, fun H4 a S _ st4 hS => ⟨a, S, rfl, st4, hS⟩⟩
    rintro σ G ⟨a, S, rfl, st, hS⟩
    clear hS2 st2 bt2 hA
    have ok := hS.ok
    have hn8 := ok.n8
    obtain ⟨ca, crs, g1, g2, g3⟩ := hS.num
    refine ⟨.ref a, rfl, .ref a, rfl, a, _, 1, vN S.s, rfl, rfl, SqT.of g1, atI_nat (j := 1) rfl, a, S, S.s, rfl, hS, ok.s0, fun G1 t s1 ht0 ht => ?_⟩
    have htp : t ≠ p := fun e => st.there (e ▸ ht0)
    refine ⟨.ref a, rfl, a, S, rfl, hS.same s1, fun G2 tf s2 htf => ⟨Nat.zero_le _, fun e he => ?_⟩⟩
    have s3 := same_upd (o := .tup []) he
    refine ⟨.tuple (pN (failing S)), .tuple [], .tup (SqT.of (s3 _ _ htf)) (dp_N _), .tup (SqT.of upd_same) .nil, shaped_N _, by decide, _, rfl, ?_⟩
    have sA := (s1.trans s2).trans s3
    have htA := s3 _ _ (s2 _ _ ht)
    generalize upd G2 e (.tup []) = G3 at sA htA ⊢
    rw [eqv_N0, show (failing S).isEmpty = regB S from rfl]
    have hst := states_pos ok
    cases hb : regB S with
    | false =>
      refine iteT ?_
      refine ⟨.ref a, rfl, a, S, rfl, hS.same sA, fun _ G4 s4 => ⟨rfl, _, rfl, iteT ?_⟩, fun h => ?_⟩
      · refine ⟨.ref a, rfl, a, S, rfl, (hS.same sA).same s4, fun G5 s5 => ⟨_, _, rfl, rfl, _, rfl, ?_⟩⟩
        rw [hb]
        refine iteT ?_
        have h0 : (states S)[0]? = some (states S)[0] := List.getElem?_eq_getElem hst
        have hm := (mem_states ok).mp (List.getElem_mem hst)
        exact ⟨.ref a, rfl, .ref t, rfl, t, _, 0, vN (states S)[0], rfl, rfl, SqL.of (s5 _ _ (s4 _ _ htA)), atI_nat (j := 0) (map_at h0), a, S, (states S)[0], rfl, ((hS.same sA).same s4).same s5, hm, hb, q⟩
      · rw [hb] at h
        cases h
    | true =>
      refine iteF ?_
      have rg := reg_of hb
      refine ⟨.ref a, rfl, a, S, rfl, hS.same sA, rg, fun G4 t4 rs s4 ht4 hfz => ?_⟩
      have L4 : Lx G4 p a t t4 S rs := ⟨(st.same sA).same s4, (hS.same sA).same s4, htp, s4 _ _ htA, ht4, hfz⟩
      clear hfz ht4 s4 sA htA hS st
      have hsl := len_states (S := S)
      have nd := nodup_states (S := S)
      -- if not equal(products(..), rows)
      refine ⟨.ref a, rfl, a, S, rfl, L4.sys, fun h => ?_, fun _ G5 t5 rs5 s5 ht5 hR5 => ⟨.ref t4, rfl, ?_⟩⟩
      · rw [hb] at h
        cases h
      have L5 := L4.same s5
      refine ⟨.ref t5, .ref t4, rfl, alike_rows ht5 L5.rw hR5 L5.fz (by rw [rows, List.length_map]; omega) (fun l hl => ?_), fun G6 s6 => ⟨_, rfl, iteF ?_⟩⟩
      · obtain ⟨z, _, rfl⟩ := List.mem_map.mp hl
        rw [row_len]
        omega
      have L6 := L5.same s6
      clear hR5 ht5 s5 s6 L5 L4
      -- start
      obtain ⟨ca6, crs6, k1, k2, k3⟩ := L6.sys.num
      refine ⟨.ref a, rfl, a, _, 1, vN S.s, rfl, rfl, SqT.of k1, atI_nat (j := 1) rfl, ?_⟩
      clear k1 k2 k3
      refine ⟨.ref t, rfl, t, rfl, ⟨_, SqL.of L6.st⟩, for_list (K := K) (a := t) (xs := (states S).map vN) (fun i σ G => ∃ y6 y7 y8 : Option V, σ = [some (.ref a0), some (.ref p), some (.ref a), some (.ref t), some (.ref t4), some (vN S.s), y6, y7, y8, none, none, none, none, none, none, none] ∧ Lx G p a t t4 S rs) ⟨none, none, none, rfl, L6⟩ ?_ ?_ ?_⟩
      · rintro i σ G _ ⟨y6, y7, y8, rfl, L⟩
        exact SqL.of L.st
      · rintro i x σ F0 hi ⟨y6, y7, y8, rfl, L⟩
        obtain ⟨y, hy, rfl⟩ := of_map_at hi
        have hym := List.mem_of_getElem? hy
        have hyr := (mem_states ok).mp hym
        -- if not equal([product(one, start), product(start, one)], [one, one])
        refine ⟨.ref a, rfl, vN y, rfl, vN S.s, rfl, a, S, y, S.s, rfl, L.sys, rg, hyr, .refl, fun F1 f1 => ?_⟩
        rw [mul_one ok rg hyr]
        refine ⟨.ref a, rfl, vN S.s, rfl, vN y, rfl, a, S, S.s, y, rfl, L.sys.same f1, rg, .refl, hyr, fun F2 f2 => ?_⟩
        rw [one_mul ok rg hyr]
        refine ⟨(show (2 : Nat) ≤ sizeLine by decide), fun b1 hb1 => ⟨vN y, rfl, vN y, rfl, (show (2 : Nat) ≤ sizeLine by decide), fun b2 hb2 => ?_⟩⟩
        have f3 := same_upd (o := .lst [vN y, vN y]) hb1
        have f4 := same_upd (o := .lst [vN y, vN y]) hb2
        refine ⟨.ref b1, .ref b2, rfl, alike_two (f4 _ _ upd_same) upd_same, fun F3 f5 => ⟨_, rfl, iteF ?_⟩⟩
        have L3 := L.same ((((f1.trans f2).trans f3).trans f4).trans f5)
        clear f1 f2 f3 f4 f5 hb1 hb2
        -- back = inverse(one)
        refine ⟨.ref a, rfl, vN y, rfl, a, S, y, rfl, L3.sys, hyr, fun _ F4 z f4 hz ez => ?_, fun h => Bool.noConfusion (hb.symm.trans h)⟩
        have L4 := L3.same f4
        -- if back not in states ..
        refine ⟨vN z, rfl, .ref t, rfl, t, _, rfl, .inl (SqL.of L4.st), rfl, flat_N _, _, rfl, ?_⟩
        rw [if_pos rfl, inV_N, decide_eq_true ((mem_states ok).mpr hz)]
        refine iteF ?_
        refine ⟨.ref a, rfl, vN y, rfl, vN z, rfl, a, S, y, z, rfl, L4.sys, rg, hyr, hz, fun F5 f5 => ?_⟩
        rw [ez]
        refine ⟨.ref a, rfl, vN z, rfl, vN y, rfl, a, S, z, y, rfl, L4.sys.same f5, rg, hz, hyr, fun F6 f6 => ?_⟩
        rw [inv_other ok rg hyr hz ez]
        refine ⟨(show (2 : Nat) ≤ sizeLine by decide), fun b1 hb1 => ⟨vN S.s, rfl, vN S.s, rfl, (show (2 : Nat) ≤ sizeLine by decide), fun b2 hb2 => ?_⟩⟩
        have f7 := same_upd (o := .lst [vN S.s, vN S.s]) hb1
        have f8 := same_upd (o := .lst [vN S.s, vN S.s]) hb2
        refine ⟨.ref b1, .ref b2, rfl, alike_two (f8 _ _ upd_same) upd_same, fun F7 f9 => ⟨_, rfl, iteF ?_⟩⟩
        have L7 := L4.same ((((f5.trans f6).trans f7).trans f8).trans f9)
        clear f4 f5 f6 f7 f8 f9 hb1 hb2 L3 L4
        -- row = rows[states.index(one)]
        obtain ⟨r, its, hr1, hr2⟩ := L7.row hy
        refine ⟨.ref t4, rfl, .ref t, rfl, .inl ⟨rfl, _, SqL.of L7.st⟩, vN y, rfl, ⟨t, _, vN y, i, vN y, rfl, rfl, SqL.of L7.st, rfl, flat_N _, map_at hy, ix_eq y, ix_lt nd hy, t4, _, (i : Int), .ref r, rfl, rfl, SqT.of L7.rw, atI_nat hr1, ?_⟩⟩
        -- if any([row.count(other) != 1 ..])
        refine ⟨.ref t, rfl, t, rfl, ⟨_, SqL.of L7.st⟩, fun D1 hD1 => lc_list (K := K) (a := t) (xs := (states S).map vN) (fun k G => Same F7 G ∧ G D1 = some (.lst ((List.replicate k false).map V.bl))) ⟨same_upd hD1, upd_same⟩ ?_ ?_ ?_⟩
        · rintro k G _ ⟨sG, _⟩
          exact SqL.of (sG _ _ L7.st)
        · rintro k v G hk ⟨sG, hG⟩
          obtain ⟨u, hu, rfl⟩ := of_map_at hk
          have hum := List.mem_of_getElem? hu
          have hkl := (List.getElem?_eq_some_iff.mp hu).1
          have hrG := sG _ _ hr2
          refine ⟨rfl, .ref r, rfl, ⟨r, its, _, rfl, hrG⟩, vN u, rfl, r, its, (row S y).map Int.ofNat, (u : Int), rfl, rfl, ?_, rfl, _, hG, ?_, Same.upd2 sG hD1, ?_⟩
          · rw [List.map_map]
            exact hrG
          · rw [List.length_map, List.length_replicate]
            exact small1000 (by omega)
          · rw [upd_same, List.replicate_succ', List.map_append, count_N, ne_one (k := (row S y).count u) (row_count ok rg hym hum)]
            rfl
        rintro F8 ⟨f8, hF8⟩
        have L8 := L7.same f8
        refine ⟨D1, _, rfl, SqL.of hF8, _, rfl, ?_⟩
        rw [any_none]
        refine iteF ?_
        -- or any([[line[states.index(one)] for line in rows].count(other) != 1 ..])
        refine ⟨.ref t, rfl, t, rfl, ⟨_, SqL.of L8.st⟩, fun D2 hD2 => lc_list (K := K) (a := t) (xs := (states S).map vN) (fun k G => Same F8 G ∧ G D2 = some (.lst ((List.replicate k false).map V.bl))) ⟨same_upd hD2, upd_same⟩ ?_ ?_ ?_⟩
        · rintro k G _ ⟨sG, _⟩
          exact SqL.of (sG _ _ L8.st)
        · rintro k v G hk ⟨sG, hG⟩
          obtain ⟨u, hu, rfl⟩ := of_map_at hk
          have hum := List.mem_of_getElem? hu
          have hkl := (List.getElem?_eq_some_iff.mp hu).1
          have LG := L8.same sG
          refine ⟨rfl, .ref t4, rfl, t4, rfl, ⟨_, SqT.of LG.rw⟩, fun D3 hD3 => lc_tup (K := K) (a := t4) (xs := rs.map V.ref) (fun m G2 => Same G G2 ∧ G2 D3 = some (.lst ((((states S).take m).map fun z => mul S z y).map vN))) ⟨same_upd hD3, upd_same⟩ ?_ ?_ ?_⟩
          · rintro m G2 _ ⟨s2, _⟩
            exact SqT.of (s2 _ _ LG.rw)
          · rintro m v G2 hm ⟨s2, hG2⟩
            obtain ⟨r', hr', rfl⟩ := of_map_at hm
            have L2 := LG.same s2
            have hml : m < (states S).length := by
              have h1 := (List.getElem?_eq_some_iff.mp hr').1
              rw [L2.fz.len, rows, List.length_map] at h1
              exact h1
            have hz' : (states S)[m]? = some (states S)[m] := List.getElem?_eq_getElem hml
            generalize (states S)[m] = z' at hz'
            obtain ⟨r2, its2, e1, e2⟩ := L2.row hz'
            have e3 : r' = r2 := by
              rw [hm] at e1
              exact V.ref.inj (Option.some.inj e1)
            subst e3
            refine ⟨rfl, .ref r', rfl, .ref t, rfl, .inl ⟨rfl, _, SqL.of L2.st⟩, vN y, rfl, ⟨t, _, vN y, i, vN y, rfl, rfl, SqL.of L2.st, rfl, flat_N _, map_at hy, ix_eq y, ix_lt nd hy, r', _, (i : Int), vN (mul S z' y), rfl, rfl, .inl (Rd.frzT e2), atI_nat (map_at (map_at hy)), _, hG2, ?_, Same.upd2 s2 hD3, ?_⟩⟩
            · rw [List.length_map, List.length_map]
              have := take_len (l := states S) (i := m) (Nat.le_refl _)
              exact small1000 (by omega)
            · rw [upd_same, take_snoc hz', List.map_append]
              rfl
          · rintro G2 ⟨s2, hG2⟩
            have el : rs.length = (states S).length := by
              rw [LG.fz.len, rows, List.length_map]
            rw [List.length_map, el, List.take_length] at hG2
            refine ⟨.inl ⟨rfl, _, SqL.of hG2⟩, vN u, rfl, D3, ((states S).map fun z => mul S z y).map Int.ofNat, (u : Int), rfl, rfl, SqL.of ?_, rfl, _, s2 _ _ hG, ?_, Same.upd2 (sG.trans s2) hD2, ?_⟩
            · rw [hG2, List.map_map, List.map_map, List.map_map]
              rfl
            · rw [List.length_map, List.length_replicate]
              exact small1000 (by omega)
            · rw [upd_same, List.replicate_succ', List.map_append, count_N, ne_one (col_count ok rg hym hum)]
              rfl
        rintro F9 ⟨f9, hF9⟩
        refine ⟨D2, _, rfl, SqL.of hF9, _, rfl, ?_⟩
        rw [any_none]
        exact iteF ⟨_, _, _, rfl, L8.same f9⟩
      · rintro σ F0 ⟨y6, y7, y8, rfl, L0⟩
        refine ⟨6, rfl, by decide, by decide, for_range (lo := 0) (n := 6) (fun i σ G => ∃ y11 y12 y13 y14 : Option V, σ = [some (.ref a0), some (.ref p), some (.ref a), some (.ref t), some (.ref t4), some (vN S.s), y6, y7, y8, none, none, y11, y12, y13, y14, none] ∧ Lx G p a t t4 S rs) ⟨none, none, none, none, rfl, L0⟩ ?_ ?_⟩
        · rintro i σ F0 hi ⟨y11, y12, y13, y14, rfl, L⟩
          -- x, y, z = [states[next(..)] ..]
          refine ⟨3, rfl, by decide, by decide, fun D1 hD1 => lc_range (lo := 0) (n := 3) (fun j F => But p F0 F ∧ StrAt F p ∧ ∃ l : List Nat, F D1 = some (.lst (l.map vN)) ∧ l.length = j ∧ ∀ x ∈ l, x ∈ states S) ⟨But.of (same_upd hD1), L.str.same (same_upd hD1), [], upd_same, rfl, fun x h => nomatch h⟩ ?_ ?_⟩
          · rintro j F hj ⟨btF, stF, l, hF, hl, hm⟩
            have LF := L.but btF stF
            have hDp : D1 ≠ p := fun e => L.str.there (e ▸ hD1)
            refine ⟨rfl, .ref t, rfl, .ref p, rfl, .ref t, rfl, _, (states S).length, rfl, .inl ⟨_, SqL.of LF.st, by rw [List.length_map]⟩, p, (states S).length, rfl, stF, hst, by omega, fun F2 d bt2 st2 hd => ?_⟩
            have LF2 := LF.but bt2 st2
            have hF2 := bt2 _ _ hDp hF
            have hx : (states S)[d]? = some (states S)[d] := List.getElem?_eq_getElem hd
            refine ⟨t, _, (d : Int), vN (states S)[d], rfl, rfl, SqL.of LF2.st, atI_nat (map_at hx), _, hF2, ?_, But.upd2 (btF.trans bt2) hD1, st2.updL hF2 hDp, l ++ [(states S)[d]], ?_, ?_, mem_snoc hm (List.getElem_mem hd)⟩
            · rw [List.length_map]
              exact small1000 (by omega)
            · rw [upd_same, List.map_append]
              rfl
            · rw [List.length_append, hl]
              rfl
          · rintro F ⟨btF, stF, l, hF, hl, hm⟩
            have L1 := L.but btF stF
            obtain ⟨x, y, z, rfl⟩ : ∃ x y z, l = [x, y, z] := by
              match l, hl with
              | [x, y, z], _ => exact ⟨x, y, z, rfl⟩
            have hxm : x ∈ states S := hm x (by simp)
            have hym : y ∈ states S := hm y (by simp)
            have hzm : z ∈ states S := hm z (by simp)
            have hx := (mem_states ok).mp hxm
            have hy := (mem_states ok).mp hym
            have hz := (mem_states ok).mp hzm
            obtain ⟨jx, hjx⟩ := mem_at hxm
            obtain ⟨jy, hjy⟩ := mem_at hym
            refine ⟨D1, _, rfl, SqL.of hF, rfl, _, _, rfl, _, _, rfl, _, _, rfl, rfl, ?_⟩
            -- if not equal(product(x, y), rows[..][..])
            refine ⟨.ref a, rfl, vN x, rfl, vN y, rfl, a, S, x, y, rfl, L1.sys, rg, hx, hy, fun F2 f2 => ?_⟩
            have L2 := L1.same f2
            obtain ⟨r, its, hr1, hr2⟩ := L2.row hjx
            refine ⟨.ref t4, rfl, .ref t, rfl, .inl ⟨rfl, _, SqL.of L2.st⟩, vN x, rfl, ⟨t, _, vN x, jx, vN x, rfl, rfl, SqL.of L2.st, rfl, flat_N _, map_at hjx, ix_eq x, ix_lt nd hjx, t4, _, (jx : Int), .ref r, rfl, rfl, SqT.of L2.rw, atI_nat hr1, ?_⟩⟩
            refine ⟨.ref t, rfl, .inl ⟨rfl, _, SqL.of L2.st⟩, vN y, rfl, ⟨t, _, vN y, jy, vN y, rfl, rfl, SqL.of L2.st, rfl, flat_N _, map_at hjy, ix_eq y, ix_lt nd hjy, r, _, (jy : Int), vN (mul S x y), rfl, rfl, .inl (Rd.frzT hr2), atI_nat (map_at (map_at hjy)), ?_⟩⟩
            refine ⟨_, _, rfl, alike0, fun F3 f3 => ⟨_, rfl, iteF ?_⟩⟩
            have L3 := L2.same f3
            -- if product(product(x, y), z) != product(x, product(y, z))
            refine ⟨.ref a, rfl, .ref a, rfl, vN x, rfl, vN y, rfl, a, S, x, y, rfl, L3.sys, rg, hx, hy, fun F4 f4 => ?_⟩
            have L4 := L3.same f4
            refine ⟨vN z, rfl, a, S, mul S x y, z, rfl, L4.sys, rg, mul_reach ok rg hx hy, hz, fun F5 f5 => ?_⟩
            have L5 := L4.same f5
            refine ⟨.ref a, rfl, vN x, rfl, .ref a, rfl, vN y, rfl, vN z, rfl, a, S, y, z, rfl, L5.sys, rg, hy, hz, fun F6 f6 => ?_⟩
            have L6 := L5.same f6
            refine ⟨a, S, x, mul S y z, rfl, L6.sys, rg, hx, mul_reach ok rg hy hz, fun F7 f7 => ⟨rfl, _, rfl, ?_⟩⟩
            rw [mul_assoc ok rg hx hy hz, decide_eq_true rfl]
            exact iteF ⟨_, _, _, _, rfl, L6.same f7⟩
        · rintro σ F0 ⟨y11, y12, y13, y14, rfl, L⟩
          exact q F0
end
end Ub

namespace Ub
open PySem PySem.Spec PyProof.Rows L2
theorem dfn_mk {K : PySem.W.Frag} {h : Heap} {mg : Str → Option Value} {x : Str} {st : Stmt} {ps : List Str} {f : Addr} {oc : Value} {od an : Option Addr} {osl : Array (Option Value)} {kV doc pm cdv ct : Value} (X : K.In h) (G : h.Ns mainGlobals mg)
    (b : ∀ (kV doc pm : Value) (an : Option Addr) (cdv ct : Value) (us : List Value), us.length = ps.length → bindArgs (PySem.W.fnOf x x (defArgs st) (defBody st) (defScope st) .none kV doc pm an cdv ct) ⟨us, []⟩ = pure (ps.zip us))
    (a : PySem.W.nsIn K mainGlobals x = some (some (.ref f))) (l : K.lookup f = some ⟨oc, od, .func (PySem.W.fnOf x x (defArgs st) (defBody st) (defScope st) .none kV doc pm an cdv ct), osl⟩) (c : PySem.W.codeIn K cdv x = true) (k : PySem.W.keepIn K (.ref f) = true) : Dfn K mg x st ps :=
  ⟨f, _, fun_mk l c k, PySem.W.mg_of X G a, (fun_mk l c k).binds b⟩
theorem int_mk {K : PySem.W.Frag} {h : Heap} {mg : Str → Option Value} {x : Str} {i : Int} {t : Tok} (X : K.In h) (G : h.Ns mainGlobals mg) (a : PySem.W.nsIn K mainGlobals x = some (some (.int i t))) : ∃ t, mg x = some (.int i t) := ⟨t, PySem.W.mg_of X G a⟩
theorem np_mk {K : PySem.W.Frag} {h : Heap} {mg : Str → Option Value} {C f : Addr} {nm q : Str} {N : Addr} {bs bm : List Value} {sn : List Str} {sub : List Value} {ab : Bool} {col : Option Bool} {dd : Option Addr} {m0 m1 m2 m3 m5 : Option Value} {oc : Value} {od an : Option Addr} {osl : Array (Option Value)} {kV doc pm cdv ct : Value}
    (X : K.In h) (G : h.Ns mainGlobals mg) (aC : PySem.W.nsIn K mainGlobals "NotPossible" = some (some (.ref C)))
    (xC : K.lookup C = some (excClassObj nm q C N bs bm true sn sub ab col dd m0 m1 m2 m3 m5 "ValueError.__new__")) (rf : PySem.HandSPX.refsVE bm = true)
    (sa : PySem.W.findIn K (.ref C) "__setattr__" = some (some (.builtin "object.__setattr__"))) (ga : PySem.W.findIn K (.ref C) "__getattribute__" = some (some (.builtin "BaseException.__getattribute__"))) (gg : PySem.W.findIn K (.ref C) "__getattr__" = some none)
    (nw : PySem.W.findIn K (.ref C) "why" = some none) (a1 : PySem.W.findIn K (.ref C) "__init__" = some (some (.ref f))) (t1 : PySem.W.typeIn K (.ref f) = some (.type "function"))
    (l1 : K.lookup f = some ⟨oc, od, .func (PySem.W.fnOf "__init__" "NotPossible.__init__" (defArgs sNpInit) (defBody sNpInit) (defScope sNpInit) .none kV doc pm an cdv ct), osl⟩) (c1 : PySem.W.codeIn K cdv "NotPossible.__init__" = true) (k1 : PySem.W.keepIn K (.ref f) = true)
    (kC : PySem.W.keepIn K (.ref C) = true) (eC : PySem.W.subIn K (.ref C) (.type "BaseException") = some true) (tC : PySem.W.typeIn K (.ref C) = some (.type "type")) (hC : PySem.W.hasDictIn K C = true) (iC : PySem.W.isClsIn K C = true) (sC : PySem.W.subIn K (.ref C) (.ref C) = some true) : NpTxt K mg C := by
  have F1 := fun_mk (st := sNpInit) l1 c1 k1
  refine ⟨⟨⟨nm, q, N, bs, bm, sn, sub, ab, col, dd, m0, m1, m2, m3, m5, xC, rf⟩, sa, eC, tC, kC⟩, PySem.W.mg_of X G aC, ⟨f, _, a1, t1, F1, F1.binds fun _ _ _ _ _ _ us hl => match us, hl with | [_, _], _ => rfl⟩, ⟨ga, gg, eC, hC⟩, nw, ?_⟩
  have e1 : (PySem.W.subIn K (.ref C) (.type "BaseException") == some true) = true := by rw [eC] <;> rfl
  have e2 : ((PySem.W.clsIn K C).isSome && PySem.W.typeIn K (.ref C) == some (.type "type")) = true := by
    have h2' : (PySem.W.clsIn K C).isSome = true := iC
    rw [h2', tC] <;> rfl
  show (if (PySem.W.subIn K (.ref C) (.type "BaseException") == some true) = true then (if ((PySem.W.clsIn K C).isSome && PySem.W.typeIn K (.ref C) == some (.type "type")) = true then PySem.W.subIn K (.ref C) (.ref C) else none) else none) = some true
  rw [if_pos e1, if_pos e2]
  exact sC
theorem bd_is_whole (kV doc pm : Value) (an : Option Addr) (cdv ct : Value) : ∀ us : List Value, us.length = (["value", "low", "high"] : List Str).length → bindArgs (PySem.W.fnOf "is_whole" "is_whole" (defArgs sIsWhole) (defBody sIsWhole) (defScope sIsWhole) .none kV doc pm an cdv ct) ⟨us, []⟩ = pure ((["value", "low", "high"] : List Str).zip us)
  | [_, _, _], _ => rfl
theorem bd_is_state (kV doc pm : Value) (an : Option Addr) (cdv ct : Value) : ∀ us : List Value, us.length = (["system", "value"] : List Str).length → bindArgs (PySem.W.fnOf "is_state" "is_state" (defArgs sIsState) (defBody sIsState) (defScope sIsState) .none kV doc pm an cdv ct) ⟨us, []⟩ = pure ((["system", "value"] : List Str).zip us)
  | [_, _], _ => rfl
theorem bd_states_of (kV doc pm : Value) (an : Option Addr) (cdv ct : Value) : ∀ us : List Value, us.length = (["system"] : List Str).length → bindArgs (PySem.W.fnOf "states_of" "states_of" (defArgs sStatesOf) (defBody sStatesOf) (defScope sStatesOf) .none kV doc pm an cdv ct) ⟨us, []⟩ = pure ((["system"] : List Str).zip us)
  | [_], _ => rfl
theorem bd_step (kV doc pm : Value) (an : Option Addr) (cdv ct : Value) : ∀ us : List Value, us.length = (["system", "state", "command"] : List Str).length → bindArgs (PySem.W.fnOf "step" "step" (defArgs sStep) (defBody sStep) (defScope sStep) .none kV doc pm an cdv ct) ⟨us, []⟩ = pure ((["system", "state", "command"] : List Str).zip us)
  | [_, _, _], _ => rfl
theorem bd_led (kV doc pm : Value) (an : Option Addr) (cdv ct : Value) : ∀ us : List Value, us.length = (["system", "state", "sequence"] : List Str).length → bindArgs (PySem.W.fnOf "led" "led" (defArgs sLed) (defBody sLed) (defScope sLed) .none kV doc pm an cdv ct) ⟨us, []⟩ = pure ((["system", "state", "sequence"] : List Str).zip us)
  | [_, _, _], _ => rfl
theorem bd_is_system (kV doc pm : Value) (an : Option Addr) (cdv ct : Value) : ∀ us : List Value, us.length = (["value"] : List Str).length → bindArgs (PySem.W.fnOf "is_system" "is_system" (defArgs sIsSystem) (defBody sIsSystem) (defScope sIsSystem) .none kV doc pm an cdv ct) ⟨us, []⟩ = pure ((["value"] : List Str).zip us)
  | [_], _ => rfl
theorem bd_check_system (kV doc pm : Value) (an : Option Addr) (cdv ct : Value) : ∀ us : List Value, us.length = (["system"] : List Str).length → bindArgs (PySem.W.fnOf "check_system" "check_system" (defArgs sCheckSystem) (defBody sCheckSystem) (defScope sCheckSystem) .none kV doc pm an cdv ct) ⟨us, []⟩ = pure ((["system"] : List Str).zip us)
  | [_], _ => rfl
theorem bd_reached (kV doc pm : Value) (an : Option Addr) (cdv ct : Value) : ∀ us : List Value, us.length = (["system", "state"] : List Str).length → bindArgs (PySem.W.fnOf "reached" "reached" (defArgs sReached) (defBody sReached) (defScope sReached) .none kV doc pm an cdv ct) ⟨us, []⟩ = pure ((["system", "state"] : List Str).zip us)
  | [_, _], _ => rfl
theorem bd_reachable_of (kV doc pm : Value) (an : Option Addr) (cdv ct : Value) : ∀ us : List Value, us.length = (["system"] : List Str).length → bindArgs (PySem.W.fnOf "reachable_of" "reachable_of" (defArgs sReachableOf) (defBody sReachableOf) (defScope sReachableOf) .none kV doc pm an cdv ct) ⟨us, []⟩ = pure ((["system"] : List Str).zip us)
  | [_], _ => rfl
theorem bd_pairs_from (kV doc pm : Value) (an : Option Addr) (cdv ct : Value) : ∀ us : List Value, us.length = (["system", "one", "other"] : List Str).length → bindArgs (PySem.W.fnOf "pairs_from" "pairs_from" (defArgs sPairsFrom) (defBody sPairsFrom) (defScope sPairsFrom) .none kV doc pm an cdv ct) ⟨us, []⟩ = pure ((["system", "one", "other"] : List Str).zip us)
  | [_, _, _], _ => rfl
theorem bd_counterparts_of (kV doc pm : Value) (an : Option Addr) (cdv ct : Value) : ∀ us : List Value, us.length = (["system", "one", "other"] : List Str).length → bindArgs (PySem.W.fnOf "counterparts_of" "counterparts_of" (defArgs sCounterpartsOf) (defBody sCounterpartsOf) (defScope sCounterpartsOf) .none kV doc pm an cdv ct) ⟨us, []⟩ = pure ((["system", "one", "other"] : List Str).zip us)
  | [_, _, _], _ => rfl
theorem bd_determines (kV doc pm : Value) (an : Option Addr) (cdv ct : Value) : ∀ us : List Value, us.length = (["system", "one", "other"] : List Str).length → bindArgs (PySem.W.fnOf "determines" "determines" (defArgs sDetermines) (defBody sDetermines) (defScope sDetermines) .none kV doc pm an cdv ct) ⟨us, []⟩ = pure ((["system", "one", "other"] : List Str).zip us)
  | [_, _, _], _ => rfl
theorem bd_failing_of (kV doc pm : Value) (an : Option Addr) (cdv ct : Value) : ∀ us : List Value, us.length = (["system"] : List Str).length → bindArgs (PySem.W.fnOf "failing_of" "failing_of" (defArgs sFailingOf) (defBody sFailingOf) (defScope sFailingOf) .none kV doc pm an cdv ct) ⟨us, []⟩ = pure ((["system"] : List Str).zip us)
  | [_], _ => rfl
theorem bd_all_revocable (kV doc pm : Value) (an : Option Addr) (cdv ct : Value) : ∀ us : List Value, us.length = (["system"] : List Str).length → bindArgs (PySem.W.fnOf "all_revocable" "all_revocable" (defArgs sAllRevocable) (defBody sAllRevocable) (defScope sAllRevocable) .none kV doc pm an cdv ct) ⟨us, []⟩ = pure ((["system"] : List Str).zip us)
  | [_], _ => rfl
theorem bd_rows_of (kV doc pm : Value) (an : Option Addr) (cdv ct : Value) : ∀ us : List Value, us.length = (["system"] : List Str).length → bindArgs (PySem.W.fnOf "rows_of" "rows_of" (defArgs sRowsOf) (defBody sRowsOf) (defScope sRowsOf) .none kV doc pm an cdv ct) ⟨us, []⟩ = pure ((["system"] : List Str).zip us)
  | [_], _ => rfl
theorem bd_is_regular (kV doc pm : Value) (an : Option Addr) (cdv ct : Value) : ∀ us : List Value, us.length = (["system"] : List Str).length → bindArgs (PySem.W.fnOf "is_regular" "is_regular" (defArgs sIsRegular) (defBody sIsRegular) (defScope sIsRegular) .none kV doc pm an cdv ct) ⟨us, []⟩ = pure ((["system"] : List Str).zip us)
  | [_], _ => rfl
theorem bd_products (kV doc pm : Value) (an : Option Addr) (cdv ct : Value) : ∀ us : List Value, us.length = (["system"] : List Str).length → bindArgs (PySem.W.fnOf "products" "products" (defArgs sProducts) (defBody sProducts) (defScope sProducts) .none kV doc pm an cdv ct) ⟨us, []⟩ = pure ((["system"] : List Str).zip us)
  | [_], _ => rfl
theorem bd_product_of (kV doc pm : Value) (an : Option Addr) (cdv ct : Value) : ∀ us : List Value, us.length = (["system", "one", "other"] : List Str).length → bindArgs (PySem.W.fnOf "product_of" "product_of" (defArgs sProductOf) (defBody sProductOf) (defScope sProductOf) .none kV doc pm an cdv ct) ⟨us, []⟩ = pure ((["system", "one", "other"] : List Str).zip us)
  | [_, _, _], _ => rfl
theorem bd_inverse_of (kV doc pm : Value) (an : Option Addr) (cdv ct : Value) : ∀ us : List Value, us.length = (["system", "state"] : List Str).length → bindArgs (PySem.W.fnOf "inverse_of" "inverse_of" (defArgs sInverseOf) (defBody sInverseOf) (defScope sInverseOf) .none kV doc pm an cdv ct) ⟨us, []⟩ = pure ((["system", "state"] : List Str).zip us)
  | [_, _], _ => rfl
theorem bd_check_reached (kV doc pm : Value) (an : Option Addr) (cdv ct : Value) : ∀ us : List Value, us.length = (["system", "state", "name"] : List Str).length → bindArgs (PySem.W.fnOf "check_reached" "check_reached" (defArgs sCheckReached) (defBody sCheckReached) (defScope sCheckReached) .none kV doc pm an cdv ct) ⟨us, []⟩ = pure ((["system", "state", "name"] : List Str).zip us)
  | [_, _, _], _ => rfl
theorem bd_check_regular (kV doc pm : Value) (an : Option Addr) (cdv ct : Value) : ∀ us : List Value, us.length = (["system"] : List Str).length → bindArgs (PySem.W.fnOf "check_regular" "check_regular" (defArgs sCheckRegular) (defBody sCheckRegular) (defScope sCheckRegular) .none kV doc pm an cdv ct) ⟨us, []⟩ = pure ((["system"] : List Str).zip us)
  | [_], _ => rfl
theorem bd_product (kV doc pm : Value) (an : Option Addr) (cdv ct : Value) : ∀ us : List Value, us.length = (["system", "one", "other"] : List Str).length → bindArgs (PySem.W.fnOf "product" "product" (defArgs sProduct) (defBody sProduct) (defScope sProduct) .none kV doc pm an cdv ct) ⟨us, []⟩ = pure ((["system", "one", "other"] : List Str).zip us)
  | [_, _, _], _ => rfl
theorem bd_inverse (kV doc pm : Value) (an : Option Addr) (cdv ct : Value) : ∀ us : List Value, us.length = (["system", "state"] : List Str).length → bindArgs (PySem.W.fnOf "inverse" "inverse" (defArgs sInverse) (defBody sInverse) (defScope sInverse) .none kV doc pm an cdv ct) ⟨us, []⟩ = pure ((["system", "state"] : List Str).zip us)
  | [_, _], _ => rfl
theorem bd_law_stream (kV doc pm : Value) (an : Option Addr) (cdv ct : Value) : ∀ us : List Value, us.length = (["_law_script"] : List Str).length → bindArgs (PySem.W.fnOf "_law_stream" "_law_stream" (defArgs sLStream) (defBody sLStream) (defScope sLStream) .none kV doc pm an cdv ct) ⟨us, []⟩ = pure ((["_law_script"] : List Str).zip us)
  | [_], _ => rfl
theorem bd_law_next (kV doc pm : Value) (an : Option Addr) (cdv ct : Value) : ∀ us : List Value, us.length = (["_law_stream_here", "_law_many"] : List Str).length → bindArgs (PySem.W.fnOf "_law_next" "_law_next" (defArgs sLNext) (defBody sLNext) (defScope sLNext) .none kV doc pm an cdv ct) ⟨us, []⟩ = pure ((["_law_stream_here", "_law_many"] : List Str).zip us)
  | [_, _], _ => rfl
theorem bd_law_is_integer (kV doc pm : Value) (an : Option Addr) (cdv ct : Value) : ∀ us : List Value, us.length = (["_law_actual"] : List Str).length → bindArgs (PySem.W.fnOf "_law_is_integer" "_law_is_integer" (defArgs sLIsInteger) (defBody sLIsInteger) (defScope sLIsInteger) .none kV doc pm an cdv ct) ⟨us, []⟩ = pure ((["_law_actual"] : List Str).zip us)
  | [_], _ => rfl
theorem bd_law_equal (kV doc pm : Value) (an : Option Addr) (cdv ct : Value) : ∀ us : List Value, us.length = (["_law_actual", "_law_due"] : List Str).length → bindArgs (PySem.W.fnOf "_law_equal" "_law_equal" (defArgs sLEqual) (defBody sLEqual) (defScope sLEqual) .none kV doc pm an cdv ct) ⟨us, []⟩ = pure ((["_law_actual", "_law_due"] : List Str).zip us)
  | [_, _], _ => rfl
theorem bd_law_turns (kV doc pm : Value) (an : Option Addr) (cdv ct : Value) : ∀ us : List Value, us.length = (["_law_stream_here", "_law_states"] : List Str).length → bindArgs (PySem.W.fnOf "_law_turns" "_law_turns" (defArgs sLTurns) (defBody sLTurns) (defScope sLTurns) .none kV doc pm an cdv ct) ⟨us, []⟩ = pure ((["_law_stream_here", "_law_states"] : List Str).zip us)
  | [_, _], _ => rfl
theorem bd_law_system (kV doc pm : Value) (an : Option Addr) (cdv ct : Value) : ∀ us : List Value, us.length = (["_law_stream_here", "_law_most"] : List Str).length → bindArgs (PySem.W.fnOf "_law_system" "_law_system" (defArgs sLSystem) (defBody sLSystem) (defScope sLSystem) .none kV doc pm an cdv ct) ⟨us, []⟩ = pure ((["_law_stream_here", "_law_most"] : List Str).zip us)
  | [_, _], _ => rfl
theorem bd_law_great (kV doc pm : Value) (an : Option Addr) (cdv ct : Value) : ∀ us : List Value, us.length = (["_law_stream_here"] : List Str).length → bindArgs (PySem.W.fnOf "_law_great" "_law_great" (defArgs sLGreat) (defBody sLGreat) (defScope sLGreat) .none kV doc pm an cdv ct) ⟨us, []⟩ = pure ((["_law_stream_here"] : List Str).zip us)
  | [_], _ => rfl
theorem bd_law_led (kV doc pm : Value) (an : Option Addr) (cdv ct : Value) : ∀ us : List Value, us.length = (["_law_system_here", "_law_state", "_law_sequence"] : List Str).length → bindArgs (PySem.W.fnOf "_law_led" "_law_led" (defArgs sLLed) (defBody sLLed) (defScope sLLed) .none kV doc pm an cdv ct) ⟨us, []⟩ = pure ((["_law_system_here", "_law_state", "_law_sequence"] : List Str).zip us)
  | [_, _, _], _ => rfl
theorem bd_law_pairs (kV doc pm : Value) (an : Option Addr) (cdv ct : Value) : ∀ us : List Value, us.length = (["_law_system_here", "_law_one", "_law_other"] : List Str).length → bindArgs (PySem.W.fnOf "_law_pairs" "_law_pairs" (defArgs sLPairs) (defBody sLPairs) (defScope sLPairs) .none kV doc pm an cdv ct) ⟨us, []⟩ = pure ((["_law_system_here", "_law_one", "_law_other"] : List Str).zip us)
  | [_, _, _], _ => rfl
theorem bd_law_reached (kV doc pm : Value) (an : Option Addr) (cdv ct : Value) : ∀ us : List Value, us.length = (["_law_system_here", "_law_state"] : List Str).length → bindArgs (PySem.W.fnOf "_law_reached" "_law_reached" (defArgs sLReached) (defBody sLReached) (defScope sLReached) .none kV doc pm an cdv ct) ⟨us, []⟩ = pure ((["_law_system_here", "_law_state"] : List Str).zip us)
  | [_, _], _ => rfl
theorem bd_law_counterparts (kV doc pm : Value) (an : Option Addr) (cdv ct : Value) : ∀ us : List Value, us.length = (["_law_system_here", "_law_one", "_law_other"] : List Str).length → bindArgs (PySem.W.fnOf "_law_counterparts" "_law_counterparts" (defArgs sLCounterparts) (defBody sLCounterparts) (defScope sLCounterparts) .none kV doc pm an cdv ct) ⟨us, []⟩ = pure ((["_law_system_here", "_law_one", "_law_other"] : List Str).zip us)
  | [_, _, _], _ => rfl
theorem bd_law_determines (kV doc pm : Value) (an : Option Addr) (cdv ct : Value) : ∀ us : List Value, us.length = (["_law_system_here", "_law_one", "_law_other"] : List Str).length → bindArgs (PySem.W.fnOf "_law_determines" "_law_determines" (defArgs sLDetermines) (defBody sLDetermines) (defScope sLDetermines) .none kV doc pm an cdv ct) ⟨us, []⟩ = pure ((["_law_system_here", "_law_one", "_law_other"] : List Str).zip us)
  | [_, _, _], _ => rfl
theorem bd_law_failing (kV doc pm : Value) (an : Option Addr) (cdv ct : Value) : ∀ us : List Value, us.length = (["_law_system_here"] : List Str).length → bindArgs (PySem.W.fnOf "_law_failing" "_law_failing" (defArgs sLFailing) (defBody sLFailing) (defScope sLFailing) .none kV doc pm an cdv ct) ⟨us, []⟩ = pure ((["_law_system_here"] : List Str).zip us)
  | [_], _ => rfl
theorem bd_law_ways (kV doc pm : Value) (an : Option Addr) (cdv ct : Value) : ∀ us : List Value, us.length = (["_law_system_here"] : List Str).length → bindArgs (PySem.W.fnOf "_law_ways" "_law_ways" (defArgs sLWays) (defBody sLWays) (defScope sLWays) .none kV doc pm an cdv ct) ⟨us, []⟩ = pure ((["_law_system_here"] : List Str).zip us)
  | [_], _ => rfl
theorem bd_law_rows (kV doc pm : Value) (an : Option Addr) (cdv ct : Value) : ∀ us : List Value, us.length = (["_law_system_here"] : List Str).length → bindArgs (PySem.W.fnOf "_law_rows" "_law_rows" (defArgs sLRows) (defBody sLRows) (defScope sLRows) .none kV doc pm an cdv ct) ⟨us, []⟩ = pure ((["_law_system_here"] : List Str).zip us)
  | [_], _ => rfl
theorem bd_law_refused (kV doc pm : Value) (an : Option Addr) (cdv ct : Value) : ∀ us : List Value, us.length = (["_law_system_here", "_law_state"] : List Str).length → bindArgs (PySem.W.fnOf "_law_refused" "_law_refused" (defArgs sLRefused) (defBody sLRefused) (defScope sLRefused) .none kV doc pm an cdv ct) ⟨us, []⟩ = pure ((["_law_system_here", "_law_state"] : List Str).zip us)
  | [_, _], _ => rfl
section
variable {P : Program} {w : World} {K : PySem.W.Frag} {mg : Str → Option Value} {base : Heap} {C fa : Addr} {fd : FuncData}
theorem ok_all (F : Fun K "law" "law" sLaw fa fd) (B : Bl mg) (T : NpTxt K mg C) (g1 : ∃ t, mg "MOST_STATES" = some (.int 8 t)) (g2 : ∃ t, mg "MOST_COMMANDS" = some (.int 4 t))
    (d_is_whole : Dfn K mg "is_whole" sIsWhole ["value", "low", "high"])
    (d_is_state : Dfn K mg "is_state" sIsState ["system", "value"])
    (d_states_of : Dfn K mg "states_of" sStatesOf ["system"])
    (d_step : Dfn K mg "step" sStep ["system", "state", "command"])
    (d_led : Dfn K mg "led" sLed ["system", "state", "sequence"])
    (d_is_system : Dfn K mg "is_system" sIsSystem ["value"])
    (d_check_system : Dfn K mg "check_system" sCheckSystem ["system"])
    (d_reached : Dfn K mg "reached" sReached ["system", "state"])
    (d_reachable_of : Dfn K mg "reachable_of" sReachableOf ["system"])
    (d_pairs_from : Dfn K mg "pairs_from" sPairsFrom ["system", "one", "other"])
    (d_counterparts_of : Dfn K mg "counterparts_of" sCounterpartsOf ["system", "one", "other"])
    (d_determines : Dfn K mg "determines" sDetermines ["system", "one", "other"])
    (d_failing_of : Dfn K mg "failing_of" sFailingOf ["system"])
    (d_all_revocable : Dfn K mg "all_revocable" sAllRevocable ["system"])
    (d_rows_of : Dfn K mg "rows_of" sRowsOf ["system"])
    (d_is_regular : Dfn K mg "is_regular" sIsRegular ["system"])
    (d_products : Dfn K mg "products" sProducts ["system"])
    (d_product_of : Dfn K mg "product_of" sProductOf ["system", "one", "other"])
    (d_inverse_of : Dfn K mg "inverse_of" sInverseOf ["system", "state"])
    (d_check_reached : Dfn K mg "check_reached" sCheckReached ["system", "state", "name"])
    (d_check_regular : Dfn K mg "check_regular" sCheckRegular ["system"])
    (d_product : Dfn K mg "product" sProduct ["system", "one", "other"])
    (d_inverse : Dfn K mg "inverse" sInverse ["system", "state"])
    (d_law_stream : Dfn K mg "_law_stream" sLStream ["_law_script"])
    (d_law_next : Dfn K mg "_law_next" sLNext ["_law_stream_here", "_law_many"])
    (d_law_is_integer : Dfn K mg "_law_is_integer" sLIsInteger ["_law_actual"])
    (d_law_equal : Dfn K mg "_law_equal" sLEqual ["_law_actual", "_law_due"])
    (d_law_turns : Dfn K mg "_law_turns" sLTurns ["_law_stream_here", "_law_states"])
    (d_law_system : Dfn K mg "_law_system" sLSystem ["_law_stream_here", "_law_most"])
    (d_law_great : Dfn K mg "_law_great" sLGreat ["_law_stream_here"])
    (d_law_led : Dfn K mg "_law_led" sLLed ["_law_system_here", "_law_state", "_law_sequence"])
    (d_law_pairs : Dfn K mg "_law_pairs" sLPairs ["_law_system_here", "_law_one", "_law_other"])
    (d_law_reached : Dfn K mg "_law_reached" sLReached ["_law_system_here", "_law_state"])
    (d_law_counterparts : Dfn K mg "_law_counterparts" sLCounterparts ["_law_system_here", "_law_one", "_law_other"])
    (d_law_determines : Dfn K mg "_law_determines" sLDetermines ["_law_system_here", "_law_one", "_law_other"])
    (d_law_failing : Dfn K mg "_law_failing" sLFailing ["_law_system_here"])
    (d_law_ways : Dfn K mg "_law_ways" sLWays ["_law_system_here"])
    (d_law_rows : Dfn K mg "_law_rows" sLRows ["_law_system_here"])
    (d_law_refused : Dfn K mg "_law_refused" sLRefused ["_law_system_here", "_law_state"]) :
    FnOk P w K mg base CX0 10 fa fd ["_law_script"] (spLaw K) := by
  have c0 : Cal P w K mg base CX0 1 "is_whole" spIsWhole := cal_is_whole d_is_whole B
  have c1 : Cal P w K mg base CX0 2 "is_state" spIsState := cal_is_state d_is_state c0
  have c2 : Cal P w K mg base CX0 1 "states_of" spStatesOf := cal_states_of d_states_of B
  have c3 : Cal P w K mg base CX0 1 "step" spStep := cal_step d_step
  have c4 : Cal P w K mg base CX0 2 "led" (spLed K) := cal_led d_led c3
  have c5 : Cal P w K mg base CX0 2 "is_system" spIsSystem := cal_is_system d_is_system B c0 g1 g2
  have c6 : Cal P w K mg base CX0 3 "check_system" spCheckSystem := cal_check_system d_check_system c5
  have c7 : Cal P w K mg base CX0 2 "reached" spReached := cal_reached d_reached B c3
  have c8 : Cal P w K mg base CX0 3 "reachable_of" spReachable := cal_reachable_of d_reachable_of B c7
  have c9 : Cal P w K mg base CX0 2 "pairs_from" spPairsFrom := cal_pairs_from d_pairs_from B c3
  have c10 : Cal P w K mg base CX0 3 "counterparts_of" spCounterparts := cal_counterparts_of d_counterparts_of B c9 c2
  have c11 : Cal P w K mg base CX0 4 "determines" spDetermines := cal_determines d_determines B c10
  have c12 : Cal P w K mg base CX0 5 "failing_of" spFailing := cal_failing_of d_failing_of B c11 c3
  have c13 : Cal P w K mg base CX0 6 "all_revocable" spAllRev := cal_all_revocable d_all_revocable c12
  have c14 : Cal P w K mg base CX0 4 "rows_of" spRowsOf := cal_rows_of d_rows_of B c7 c8 c4
  have c15 : Cal P w K mg base CX0 7 "is_regular" spAllRev := cal_is_regular d_is_regular c6 c13
  have c16 : Cal P w K mg base CX0 7 "products" spProducts := cal_products d_products c6 c13 c14
  have c17 : Cal P w K mg base CX0 3 "product_of" spProductOf := cal_product_of d_product_of c7 c4
  have c18 : Cal P w K mg base CX0 4 "inverse_of" spInverseOf := cal_inverse_of d_inverse_of c8 c17
  have c19 : Cal P w K mg base CX0 4 "check_reached" spCheckReached := cal_check_reached d_check_reached c1 c8
  have c20 : Cal P w K mg base (L2.CX P w) 7 "check_regular" (spCheckRegular C) := cal_check_regular d_check_regular T c13
  have c21 : Cal P w K mg base CX0 8 "product" spProductOf := cal_product d_product c6 c19 c20 c17
  have c22 : Cal P w K mg base (L2.CX P w) 8 "inverse" (spInverse C) := cal_inverse d_inverse c6 c19 c20 c18
  have c23 : Cal P w K mg base CX0 1 "_law_stream" (spStream K) := cal_law_stream d_law_stream B
  have c24 : Cal P w K mg base CX0 1 "_law_next" spNext := cal_law_next d_law_next B
  have c25 : Cal P w K mg base CX0 1 "_law_is_integer" spIsInteger := cal_law_is_integer d_law_is_integer B
  have c26 : Cal P w K mg base CX0 2 "_law_equal" (spEq 0) := cal_law_equal0 d_law_equal B c25
  have c27 : Cal P w K mg base CX0 2 "_law_turns" spTurns := cal_law_turns d_law_turns B c24
  have c28 : Cal P w K mg base CX0 3 "_law_system" spSystem := cal_law_system d_law_system B c24 c27
  have c29 : Cal P w K mg base CX0 2 "_law_great" spGreat := cal_law_great d_law_great B c24
  have c30 : Cal P w K mg base CX0 1 "_law_led" (spLed K) := cal_law_led d_law_led
  have c31 : Cal P w K mg base CX0 1 "_law_pairs" spLPairs := cal_law_pairs d_law_pairs B
  have c32 : Cal P w K mg base CX0 2 "_law_reached" spLReached := cal_law_reached d_law_reached B c31
  have c33 : Cal P w K mg base CX0 2 "_law_counterparts" spCounterparts := cal_law_counterparts d_law_counterparts B c31
  have c34 : Cal P w K mg base CX0 3 "_law_determines" spDetermines := cal_law_determines d_law_determines B c33
  have c35 : Cal P w K mg base CX0 4 "_law_failing" spFailing := cal_law_failing d_law_failing B c34
  have c36 : Cal P w K mg base CX0 2 "_law_ways" spWays := cal_law_ways d_law_ways c31
  have c37 : Cal P w K mg base CX0 3 "_law_rows" spLRows := cal_law_rows d_law_rows B c36 c30
  have c38 : Cal P w K mg base CX0 9 "_law_refused" spRefused := cal_law_refused d_law_refused T c22
  have c39 : Cal P w K mg base CX0 3 "_law_equal" (spEq 1) := cal_law_equalS (n := 0) d_law_equal B c25 c26
  have c40 : Cal P w K mg base CX0 4 "_law_equal" (spEq 2) := cal_law_equalS (n := 1) d_law_equal B c25 c39
  exact ok_law F B c23 c28 c24 c29 c32 c35 c16 c15 c38 c37 c40 c39 c26 c21 c22
theorem fin_mk {l : PySem.W.OpenLaw} {h : Heap} {f2 : Addr} {oc : Value} {od an : Option Addr} {osl : Array (Option Value)} {kV doc pm cdv ct : Value} (X : K.In h) (G : h.Ns mainGlobals mg) (hfa : mg "law" = some (.ref fa)) (B : Bl mg) (T : NpTxt K mg C) (g1 : ∃ t, mg "MOST_STATES" = some (.int 8 t)) (g2 : ∃ t, mg "MOST_COMMANDS" = some (.int 4 t))
    (d_is_whole : Dfn K mg "is_whole" sIsWhole ["value", "low", "high"])
    (d_is_state : Dfn K mg "is_state" sIsState ["system", "value"])
    (d_states_of : Dfn K mg "states_of" sStatesOf ["system"])
    (d_step : Dfn K mg "step" sStep ["system", "state", "command"])
    (d_led : Dfn K mg "led" sLed ["system", "state", "sequence"])
    (d_is_system : Dfn K mg "is_system" sIsSystem ["value"])
    (d_check_system : Dfn K mg "check_system" sCheckSystem ["system"])
    (d_reached : Dfn K mg "reached" sReached ["system", "state"])
    (d_reachable_of : Dfn K mg "reachable_of" sReachableOf ["system"])
    (d_pairs_from : Dfn K mg "pairs_from" sPairsFrom ["system", "one", "other"])
    (d_counterparts_of : Dfn K mg "counterparts_of" sCounterpartsOf ["system", "one", "other"])
    (d_determines : Dfn K mg "determines" sDetermines ["system", "one", "other"])
    (d_failing_of : Dfn K mg "failing_of" sFailingOf ["system"])
    (d_all_revocable : Dfn K mg "all_revocable" sAllRevocable ["system"])
    (d_rows_of : Dfn K mg "rows_of" sRowsOf ["system"])
    (d_is_regular : Dfn K mg "is_regular" sIsRegular ["system"])
    (d_products : Dfn K mg "products" sProducts ["system"])
    (d_product_of : Dfn K mg "product_of" sProductOf ["system", "one", "other"])
    (d_inverse_of : Dfn K mg "inverse_of" sInverseOf ["system", "state"])
    (d_check_reached : Dfn K mg "check_reached" sCheckReached ["system", "state", "name"])
    (d_check_regular : Dfn K mg "check_regular" sCheckRegular ["system"])
    (d_product : Dfn K mg "product" sProduct ["system", "one", "other"])
    (d_inverse : Dfn K mg "inverse" sInverse ["system", "state"])
    (d_law_stream : Dfn K mg "_law_stream" sLStream ["_law_script"])
    (d_law_next : Dfn K mg "_law_next" sLNext ["_law_stream_here", "_law_many"])
    (d_law_is_integer : Dfn K mg "_law_is_integer" sLIsInteger ["_law_actual"])
    (d_law_equal : Dfn K mg "_law_equal" sLEqual ["_law_actual", "_law_due"])
    (d_law_turns : Dfn K mg "_law_turns" sLTurns ["_law_stream_here", "_law_states"])
    (d_law_system : Dfn K mg "_law_system" sLSystem ["_law_stream_here", "_law_most"])
    (d_law_great : Dfn K mg "_law_great" sLGreat ["_law_stream_here"])
    (d_law_led : Dfn K mg "_law_led" sLLed ["_law_system_here", "_law_state", "_law_sequence"])
    (d_law_pairs : Dfn K mg "_law_pairs" sLPairs ["_law_system_here", "_law_one", "_law_other"])
    (d_law_reached : Dfn K mg "_law_reached" sLReached ["_law_system_here", "_law_state"])
    (d_law_counterparts : Dfn K mg "_law_counterparts" sLCounterparts ["_law_system_here", "_law_one", "_law_other"])
    (d_law_determines : Dfn K mg "_law_determines" sLDetermines ["_law_system_here", "_law_one", "_law_other"])
    (d_law_failing : Dfn K mg "_law_failing" sLFailing ["_law_system_here"])
    (d_law_ways : Dfn K mg "_law_ways" sLWays ["_law_system_here"])
    (d_law_rows : Dfn K mg "_law_rows" sLRows ["_law_system_here"])
    (d_law_refused : Dfn K mg "_law_refused" sLRefused ["_law_system_here", "_law_state"])
    (a : PySem.W.nsIn K mainGlobals "law" = some (some (.ref f2))) (lk : K.lookup f2 = some ⟨oc, od, .func (PySem.W.fnOf "law" "law" (defArgs sLaw) (defBody sLaw) (defScope sLaw) .none kV doc pm an cdv ct), osl⟩) (c : PySem.W.codeIn K cdv "law" = true) (k : PySem.W.keepIn K (.ref f2) = true) :
    ∃ fd : FuncData, (∀ (s : Shared) (v : Value), BindsTo s fd ⟨[v], []⟩ [("_law_script", v)]) ∧ ∀ base : Heap, K.In base → base.Ns mainGlobals mg → FnOk l.prog w K mg base CX0 10 fa fd ["_law_script"] (spLaw K) := by
  have e := hfa.symm.trans (PySem.W.mg_of X G a)
  cases e
  exact ⟨_, fun s v => .of_eq rfl, fun base _ _ => ok_all (fun_mk (st := sLaw) lk c k) B T g1 g2 d_is_whole d_is_state d_states_of d_step d_led d_is_system d_check_system d_reached d_reachable_of d_pairs_from d_counterparts_of d_determines d_failing_of d_all_revocable d_rows_of d_is_regular d_products d_product_of d_inverse_of d_check_reached d_check_regular d_product d_inverse d_law_stream d_law_next d_law_is_integer d_law_equal d_law_turns d_law_system d_law_great d_law_led d_law_pairs d_law_reached d_law_counterparts d_law_determines d_law_failing d_law_ways d_law_rows d_law_refused⟩
end
end Ub

open PySem PySem.W PyProof.Rows
set_option maxHeartbeats 0 in
theorem PySem.Challenge.cw_undobystate_k30_whole_products_holds : PySem.Challenge.rw_undobystate_k30_whole_products.Holds := by
  w_on; o_law; k_head; (case hw => w_witness2)
  k_fill
  refine L2.walk_of (l := PySem.Challenge.rw_undobystate_k30_whole_products) (n := 63) (k := 10) (x := "_law_script") (CX := fun _ => L2.CX0) (sp := fun w => Ub.spLaw _) rfl (by decide) rfl ⟨rfl, by decide, by decide⟩ (fun w h Y => PySem.W.kIn_of Y) ?F (fun _ _ a ns hl _ hS => ⟨a, ns, rfl, hS, fun _ => rfl⟩) (fun _ _ _ _ _ h => h)
  case F =>
    intro w mg fa h KX G hmg
    have d_is_whole := by
      refine' Ub.dfn_mk (x := "is_whole") (st := Ub.sIsWhole) (ps := ["value", "low", "high"]) KX G Ub.bd_is_whole ?a ?l ?c ?k
      (case a => k_is); (case l => k_is); (case c => k_is); (case k => k_is)
    have d_is_state := by
      refine' Ub.dfn_mk (x := "is_state") (st := Ub.sIsState) (ps := ["system", "value"]) KX G Ub.bd_is_state ?a ?l ?c ?k
      (case a => k_is); (case l => k_is); (case c => k_is); (case k => k_is)
    have d_states_of := by
      refine' Ub.dfn_mk (x := "states_of") (st := Ub.sStatesOf) (ps := ["system"]) KX G Ub.bd_states_of ?a ?l ?c ?k
      (case a => k_is); (case l => k_is); (case c => k_is); (case k => k_is)
    have d_step := by
      refine' Ub.dfn_mk (x := "step") (st := Ub.sStep) (ps := ["system", "state", "command"]) KX G Ub.bd_step ?a ?l ?c ?k
      (case a => k_is); (case l => k_is); (case c => k_is); (case k => k_is)
    have d_led := by
      refine' Ub.dfn_mk (x := "led") (st := Ub.sLed) (ps := ["system", "state", "sequence"]) KX G Ub.bd_led ?a ?l ?c ?k
      (case a => k_is); (case l => k_is); (case c => k_is); (case k => k_is)
    have d_is_system := by
      refine' Ub.dfn_mk (x := "is_system") (st := Ub.sIsSystem) (ps := ["value"]) KX G Ub.bd_is_system ?a ?l ?c ?k
      (case a => k_is); (case l => k_is); (case c => k_is); (case k => k_is)
    have d_check_system := by
      refine' Ub.dfn_mk (x := "check_system") (st := Ub.sCheckSystem) (ps := ["system"]) KX G Ub.bd_check_system ?a ?l ?c ?k
      (case a => k_is); (case l => k_is); (case c => k_is); (case k => k_is)
    have d_reached := by
      refine' Ub.dfn_mk (x := "reached") (st := Ub.sReached) (ps := ["system", "state"]) KX G Ub.bd_reached ?a ?l ?c ?k
      (case a => k_is); (case l => k_is); (case c => k_is); (case k => k_is)
    have d_reachable_of := by
      refine' Ub.dfn_mk (x := "reachable_of") (st := Ub.sReachableOf) (ps := ["system"]) KX G Ub.bd_reachable_of ?a ?l ?c ?k
      (case a => k_is); (case l => k_is); (case c => k_is); (case k => k_is)
    have d_pairs_from := by
      refine' Ub.dfn_mk (x := "pairs_from") (st := Ub.sPairsFrom) (ps := ["system", "one", "other"]) KX G Ub.bd_pairs_from ?a ?l ?c ?k
      (case a => k_is); (case l => k_is); (case c => k_is); (case k => k_is)
    have d_counterparts_of := by
      refine' Ub.dfn_mk (x := "counterparts_of") (st := Ub.sCounterpartsOf) (ps := ["system", "one", "other"]) KX G Ub.bd_counterparts_of ?a ?l ?c ?k
      (case a => k_is); (case l => k_is); (case c => k_is); (case k => k_is)
    have d_determines := by
      refine' Ub.dfn_mk (x := "determines") (st := Ub.sDetermines) (ps := ["system", "one", "other"]) KX G Ub.bd_determines ?a ?l ?c ?k
      (case a => k_is); (case l => k_is); (case c => k_is); (case k => k_is)
    have d_failing_of := by
      refine' Ub.dfn_mk (x := "failing_of") (st := Ub.sFailingOf) (ps := ["system"]) KX G Ub.bd_failing_of ?a ?l ?c ?k
      (case a => k_is); (case l => k_is); (case c => k_is); (case k => k_is)
    have d_all_revocable := by
      refine' Ub.dfn_mk (x := "all_revocable") (st := Ub.sAllRevocable) (ps := ["system"]) KX G Ub.bd_all_revocable ?a ?l ?c ?k
      (case a => k_is); (case l => k_is); (case c => k_is); (case k => k_is)
    have d_rows_of := by
      refine' Ub.dfn_mk (x := "rows_of") (st := Ub.sRowsOf) (ps := ["system"]) KX G Ub.bd_rows_of ?a ?l ?c ?k
      (case a => k_is); (case l => k_is); (case c => k_is); (case k => k_is)
    have d_is_regular := by
      refine' Ub.dfn_mk (x := "is_regular") (st := Ub.sIsRegular) (ps := ["system"]) KX G Ub.bd_is_regular ?a ?l ?c ?k
      (case a => k_is); (case l => k_is); (case c => k_is); (case k => k_is)
    have d_products := by
      refine' Ub.dfn_mk (x := "products") (st := Ub.sProducts) (ps := ["system"]) KX G Ub.bd_products ?a ?l ?c ?k
      (case a => k_is); (case l => k_is); (case c => k_is); (case k => k_is)
    have d_product_of := by
      refine' Ub.dfn_mk (x := "product_of") (st := Ub.sProductOf) (ps := ["system", "one", "other"]) KX G Ub.bd_product_of ?a ?l ?c ?k
      (case a => k_is); (case l => k_is); (case c => k_is); (case k => k_is)
    have d_inverse_of := by
      refine' Ub.dfn_mk (x := "inverse_of") (st := Ub.sInverseOf) (ps := ["system", "state"]) KX G Ub.bd_inverse_of ?a ?l ?c ?k
      (case a => k_is); (case l => k_is); (case c => k_is); (case k => k_is)
    have d_check_reached := by
      refine' Ub.dfn_mk (x := "check_reached") (st := Ub.sCheckReached) (ps := ["system", "state", "name"]) KX G Ub.bd_check_reached ?a ?l ?c ?k
      (case a => k_is); (case l => k_is); (case c => k_is); (case k => k_is)
    have d_check_regular := by
      refine' Ub.dfn_mk (x := "check_regular") (st := Ub.sCheckRegular) (ps := ["system"]) KX G Ub.bd_check_regular ?a ?l ?c ?k
      (case a => k_is); (case l => k_is); (case c => k_is); (case k => k_is)
    have d_product := by
      refine' Ub.dfn_mk (x := "product") (st := Ub.sProduct) (ps := ["system", "one", "other"]) KX G Ub.bd_product ?a ?l ?c ?k
      (case a => k_is); (case l => k_is); (case c => k_is); (case k => k_is)
    have d_inverse := by
      refine' Ub.dfn_mk (x := "inverse") (st := Ub.sInverse) (ps := ["system", "state"]) KX G Ub.bd_inverse ?a ?l ?c ?k
      (case a => k_is); (case l => k_is); (case c => k_is); (case k => k_is)
    have d_law_stream := by
      refine' Ub.dfn_mk (x := "_law_stream") (st := Ub.sLStream) (ps := ["_law_script"]) KX G Ub.bd_law_stream ?a ?l ?c ?k
      (case a => k_is); (case l => k_is); (case c => k_is); (case k => k_is)
    have d_law_next := by
      refine' Ub.dfn_mk (x := "_law_next") (st := Ub.sLNext) (ps := ["_law_stream_here", "_law_many"]) KX G Ub.bd_law_next ?a ?l ?c ?k
      (case a => k_is); (case l => k_is); (case c => k_is); (case k => k_is)
    have d_law_is_integer := by
      refine' Ub.dfn_mk (x := "_law_is_integer") (st := Ub.sLIsInteger) (ps := ["_law_actual"]) KX G Ub.bd_law_is_integer ?a ?l ?c ?k
      (case a => k_is); (case l => k_is); (case c => k_is); (case k => k_is)
    have d_law_equal := by
      refine' Ub.dfn_mk (x := "_law_equal") (st := Ub.sLEqual) (ps := ["_law_actual", "_law_due"]) KX G Ub.bd_law_equal ?a ?l ?c ?k
      (case a => k_is); (case l => k_is); (case c => k_is); (case k => k_is)
    have d_law_turns := by
      refine' Ub.dfn_mk (x := "_law_turns") (st := Ub.sLTurns) (ps := ["_law_stream_here", "_law_states"]) KX G Ub.bd_law_turns ?a ?l ?c ?k
      (case a => k_is); (case l => k_is); (case c => k_is); (case k => k_is)
    have d_law_system := by
      refine' Ub.dfn_mk (x := "_law_system") (st := Ub.sLSystem) (ps := ["_law_stream_here", "_law_most"]) KX G Ub.bd_law_system ?a ?l ?c ?k
      (case a => k_is); (case l => k_is); (case c => k_is); (case k => k_is)
    have d_law_great := by
      refine' Ub.dfn_mk (x := "_law_great") (st := Ub.sLGreat) (ps := ["_law_stream_here"]) KX G Ub.bd_law_great ?a ?l ?c ?k
      (case a => k_is); (case l => k_is); (case c => k_is); (case k => k_is)
    have d_law_led := by
      refine' Ub.dfn_mk (x := "_law_led") (st := Ub.sLLed) (ps := ["_law_system_here", "_law_state", "_law_sequence"]) KX G Ub.bd_law_led ?a ?l ?c ?k
      (case a => k_is); (case l => k_is); (case c => k_is); (case k => k_is)
    have d_law_pairs := by
      refine' Ub.dfn_mk (x := "_law_pairs") (st := Ub.sLPairs) (ps := ["_law_system_here", "_law_one", "_law_other"]) KX G Ub.bd_law_pairs ?a ?l ?c ?k
      (case a => k_is); (case l => k_is); (case c => k_is); (case k => k_is)
    have d_law_reached := by
      refine' Ub.dfn_mk (x := "_law_reached") (st := Ub.sLReached) (ps := ["_law_system_here", "_law_state"]) KX G Ub.bd_law_reached ?a ?l ?c ?k
      (case a => k_is); (case l => k_is); (case c => k_is); (case k => k_is)
    have d_law_counterparts := by
      refine' Ub.dfn_mk (x := "_law_counterparts") (st := Ub.sLCounterparts) (ps := ["_law_system_here", "_law_one", "_law_other"]) KX G Ub.bd_law_counterparts ?a ?l ?c ?k
      (case a => k_is); (case l => k_is); (case c => k_is); (case k => k_is)
    have d_law_determines := by
      refine' Ub.dfn_mk (x := "_law_determines") (st := Ub.sLDetermines) (ps := ["_law_system_here", "_law_one", "_law_other"]) KX G Ub.bd_law_determines ?a ?l ?c ?k
      (case a => k_is); (case l => k_is); (case c => k_is); (case k => k_is)
    have d_law_failing := by
      refine' Ub.dfn_mk (x := "_law_failing") (st := Ub.sLFailing) (ps := ["_law_system_here"]) KX G Ub.bd_law_failing ?a ?l ?c ?k
      (case a => k_is); (case l => k_is); (case c => k_is); (case k => k_is)
    have d_law_ways := by
      refine' Ub.dfn_mk (x := "_law_ways") (st := Ub.sLWays) (ps := ["_law_system_here"]) KX G Ub.bd_law_ways ?a ?l ?c ?k
      (case a => k_is); (case l => k_is); (case c => k_is); (case k => k_is)
    have d_law_rows := by
      refine' Ub.dfn_mk (x := "_law_rows") (st := Ub.sLRows) (ps := ["_law_system_here"]) KX G Ub.bd_law_rows ?a ?l ?c ?k
      (case a => k_is); (case l => k_is); (case c => k_is); (case k => k_is)
    have d_law_refused := by
      refine' Ub.dfn_mk (x := "_law_refused") (st := Ub.sLRefused) (ps := ["_law_system_here", "_law_state"]) KX G Ub.bd_law_refused ?a ?l ?c ?k
      (case a => k_is); (case l => k_is); (case c => k_is); (case k => k_is)
    refine' Ub.fin_mk KX G hmg ?B ?T ?g1 ?g2 d_is_whole d_is_state d_states_of d_step d_led d_is_system d_check_system d_reached d_reachable_of d_pairs_from d_counterparts_of d_determines d_failing_of d_all_revocable d_rows_of d_is_regular d_products d_product_of d_inverse_of d_check_reached d_check_regular d_product d_inverse d_law_stream d_law_next d_law_is_integer d_law_equal d_law_turns d_law_system d_law_great d_law_led d_law_pairs d_law_reached d_law_counterparts d_law_determines d_law_failing d_law_ways d_law_rows d_law_refused ?a ?l ?c ?k
    (case a => k_is); (case l => k_is); (case c => k_is); (case k => k_is)
    case B =>
      refine' ⟨PySem.W.mg_none_of KX G ?_, PySem.W.mg_none_of KX G ?_, PySem.W.mg_none_of KX G ?_, PySem.W.mg_none_of KX G ?_, PySem.W.mg_none_of KX G ?_, PySem.W.mg_none_of KX G ?_, PySem.W.mg_none_of KX G ?_, PySem.W.mg_none_of KX G ?_, PySem.W.mg_none_of KX G ?_, PySem.W.mg_none_of KX G ?_, PySem.W.mg_none_of KX G ?_, PySem.W.mg_none_of KX G ?_, PySem.W.mg_none_of KX G ?_⟩ <;> k_is
    case T =>
      refine' Ub.np_mk KX G ?aC ?xC ?rf ?sa ?ga ?gg ?nw ?a1 ?t1 ?l1 ?c1 ?k1 ?kC ?eC ?tC ?hC ?iC ?sC
      (case aC => k_is)
      (case xC => k_is)
      (case rf => rfl)
      (case sa => k_is)
      (case ga => k_is)
      (case gg => k_is)
      (case nw => k_is)
      (case a1 => k_is)
      (case t1 => k_is)
      (case l1 => k_is)
      (case c1 => k_is)
      (case k1 => k_is)
      (case kC => k_is)
      (case eC => k_is)
      (case tC => k_is)
      (case hC => k_is)
      (case iC => k_is)
      (case sC => first | rfl | k_is)
    case g1 =>
      refine' Ub.int_mk KX G ?a
      (case a => k_is)
    case g2 =>
      refine' Ub.int_mk KX G ?a
      (case a => k_is)
