import PyProof.Rows.All
import Wide.All
import OpenK.AllK
import Wide.FinOn
import HandS.ForMost
import HandS.ForExc
import HandS.Walk
import HandS.Conv
import HandS.More
import HandS.SortInts
import HandS.SortRule
import HandS.TupLe
import HandS.Deep
import HandS.SetFor
import HandS.IsInst
import HandS.Zip
import HandS.Style
import HandS.Exc
import HandS.TryMany
import HandS.ExcIs
import PyProof.Rows.CountFlat
import HandS.Dict
import HandS.TupSets
import PySem.Challenge.RW_markedties_k10_whole_joined_and_laid
set_option Elab.async false
set_option linter.all false
set_option maxRecDepth 100000
set_option maxHeartbeats 4000000
/-! Ma0: lists sorted, ranges. -/
namespace Fw
def sortI (ns : List Int) : List Int := ns.mergeSort (fun a b => decide (a ≤ b))
def leP (p q : Int × Int) : Bool := decide (p.1 < q.1 ∨ (p.1 = q.1 ∧ p.2 ≤ q.2))
def sortP (ps : List (Int × Int)) : List (Int × Int) := ps.mergeSort leP
theorem sortI_perm (ns : List Int) : (sortI ns).Perm ns := List.mergeSort_perm _ _
theorem sortI_le (ns : List Int) : (sortI ns).Pairwise (· ≤ ·) := by
  have h := List.pairwise_mergeSort (le := fun a b : Int => decide (a ≤ b)) (fun a b c h1 h2 => by
    have := of_decide_eq_true h1; have := of_decide_eq_true h2; exact decide_eq_true (by omega)) (fun a b => by
    rcases Int.le_total a b with h | h
    · rw [decide_eq_true h]; rfl
    · rw [decide_eq_true h, Bool.or_true]) ns
  exact h.imp fun h => of_decide_eq_true h
theorem sortI_eq {ns ms : List Int} (p : ms.Perm ns) (h : ms.Pairwise (· ≤ ·)) : ms = sortI ns :=
  List.Perm.eq_of_pairwise (le := (· ≤ ·)) (fun a b _ _ h1 h2 => Int.le_antisymm h1 h2) h (sortI_le ns) (p.trans (sortI_perm ns).symm)
theorem leP_iff {p q : Int × Int} : leP p q = true ↔ p.1 < q.1 ∨ (p.1 = q.1 ∧ p.2 ≤ q.2) := decide_eq_true_iff
theorem sortP_perm (ns : List (Int × Int)) : (sortP ns).Perm ns := List.mergeSort_perm _ _
theorem leP_anti {p q : Int × Int} (h1 : leP p q = true) (h2 : leP q p = true) : p = q := by
  rw [leP_iff] at h1 h2
  obtain ⟨a, b⟩ := p
  obtain ⟨c, d⟩ := q
  simp only at h1 h2
  rw [show a = c by omega, show b = d by omega]
theorem sortP_le (ns : List (Int × Int)) : (sortP ns).Pairwise (fun p q => leP p q = true) :=
  List.pairwise_mergeSort (le := leP) (fun a b c h1 h2 => by
    rw [leP_iff] at h1 h2 ⊢; omega) (fun a b => by
    by_cases h : leP a b = true
    · rw [h]; rfl
    · rw [Bool.or_eq_true]; right; rw [leP_iff] at h ⊢; omega) ns
theorem sortP_eq {ns ms : List (Int × Int)} (p : ms.Perm ns) (h : ms.Pairwise (fun p q => leP p q = true)) : ms = sortP ns :=
  List.Perm.eq_of_pairwise (le := fun p q => leP p q = true) (fun a b _ _ h1 h2 => leP_anti h1 h2) h (sortP_le ns) (p.trans (sortP_perm ns).symm)
theorem sortI_len (ns : List Int) : (sortI ns).length = ns.length := (sortI_perm ns).length_eq
theorem sortP_len (ns : List (Int × Int)) : (sortP ns).length = ns.length := (sortP_perm ns).length_eq

def rgI (i j : Int) : List Int := (List.range (j - i).toNat).map fun (k : Nat) => i + k
theorem rgI_len (i j : Int) : (rgI i j).length = (j - i).toNat := by unfold rgI; rw [List.length_map, List.length_range]
theorem rgI_get {i j : Int} {k : Nat} (h : k < (j - i).toNat) : (rgI i j)[k]? = some (i + k) := by
  unfold rgI
  rw [List.getElem?_map, List.getElem?_range h]; rfl
end Fw

/-! Ma: what the defs compute, in plain Lean. -/
namespace Mt
def cellAt (ns : List Int) (k : Int) : Int := if k < ns.length then ns.getD k.toNat 0 else 0
def someL : List Int := [48271, 69621, 16807, 39373, 30269, 40014, 40692, 50021, 61687, 71993, 83869, 95561, 30307]
def stir (cell k : Int) : Int := ((cell % 2147483647 + 12345) * someL.getD (k % 13).toNat 0 + 977 * k + 7919 * (k / 13)) % 1000000007
def mix (cell k many : Int) : Int := (stir cell k * stir cell k + 48271 * k) % 1000000007 / 7 % many
theorem mix_nn {cell k many : Int} (h : 0 < many) : 0 ≤ mix cell k many := Int.emod_nonneg _ (by omega)
theorem mix_lt {cell k many : Int} (h : 0 < many) : mix cell k many < many := Int.emod_lt_of_pos _ h
def insAt {α : Type} (l : List α) (n : Int) (x : α) : List α := l.take n.toNat ++ [x] ++ l.drop n.toNat
theorem insAt_len {α : Type} (l : List α) (n : Int) (x : α) : (insAt l n x).length = l.length + 1 := by
  unfold insAt
  simp only [List.length_append, List.length_take, List.length_drop, List.length_singleton]
  omega
/-- the names behind n turns -/
def namesOf (c : Int) : Nat → List Int
  | 0 => []
  | n + 1 => insAt (namesOf c n) (mix c n (n + 1)) n
theorem namesOf_len (c : Int) : ∀ n, (namesOf c n).length = n
  | 0 => rfl
  | n + 1 => by unfold namesOf; rw [insAt_len, namesOf_len c n]
def elderOf (c way k : Int) : Int := if way = 2 ∧ 1 < k then mix c k 2 else if way = 1 then max 0 (k - 1 - mix c k 2) else mix c k k
def tieOf (names : List Int) (k e : Int) : Int × Int := (min (names.getD k.toNat 0) (names.getD e.toNat 0), max (names.getD k.toNat 0) (names.getD e.toNat 0))
/-- the ties of the places 1 .. n -/
def tiesOf (names : List Int) (f : Int → Int) (n : Nat) : List (Int × Int) := (List.range n).map fun (i : Nat) => tieOf names (1 + i) (f (1 + i))
def treeN (ns : List Int) (base most : Int) : Int := 1 + mix (cellAt ns base) 1 most
def treeNames (ns : List Int) (base most : Int) : List Int := namesOf (cellAt ns (base + 1)) (treeN ns base most).toNat
def treeRaw (ns : List Int) (base most : Int) : List (Int × Int) := tiesOf (treeNames ns base most) (elderOf (cellAt ns (base + 2)) (mix (cellAt ns base) 2 4)) ((treeN ns base most).toNat - 1)
/-- the comb's elder of the place 1 + i -/
def hereOf (c : Int) : Nat → Int
  | 0 => 0
  | n + 1 => if mix c (1 + n) 2 = 0 then 1 + n else hereOf c n
def combRaw (ns : List Int) (base most : Int) : List (Int × Int) := tiesOf (treeNames ns base most) (fun k => hereOf (cellAt ns (base + 2)) (k - 1).toNat) ((treeN ns base most).toNat - 1)
theorem treeN_pos {ns : List Int} {base most : Int} (h : 0 < most) : 1 ≤ treeN ns base most := by have := mix_nn (cell := cellAt ns base) (k := 1) h; unfold treeN; omega
theorem treeN_le {ns : List Int} {base most : Int} (h : 0 < most) : treeN ns base most ≤ most := by have := mix_lt (cell := cellAt ns base) (k := 1) h; unfold treeN; omega
theorem tiesOf_len (names : List Int) (f : Int → Int) (n : Nat) : (tiesOf names f n).length = n := by unfold tiesOf; rw [List.length_map, List.length_range]
theorem tiesOf_succ (names : List Int) (f : Int → Int) (n : Nat) : tiesOf names f (n + 1) = tiesOf names f n ++ [tieOf names (1 + n) (f (1 + n))] := by
  unfold tiesOf
  rw [List.range_succ, List.map_append]; rfl
theorem elder_bd {c way k : Int} (hk : 1 ≤ k) : 0 ≤ elderOf c way k ∧ elderOf c way k < k := by
  unfold elderOf
  have h2 := mix_nn (cell := c) (k := k) (many := 2) (by omega)
  have h3 := mix_lt (cell := c) (k := k) (many := 2) (by omega)
  have h4 := mix_nn (cell := c) (k := k) (many := k) (by omega)
  have h5 := mix_lt (cell := c) (k := k) (many := k) (by omega)
  split
  · omega
  · split <;> omega
theorem here_bd (c : Int) : ∀ n : Nat, 0 ≤ hereOf c n ∧ hereOf c n ≤ n
  | 0 => by unfold hereOf; omega
  | n + 1 => by have := here_bd c n; unfold hereOf; split <;> omega
end Mt

/-! Ma2: trees in plain Lean. -/
namespace Mt
open Fw
def iAt (l : List Int) (i : Int) : Int := l.getD i.toNat 0
abbrev rg (n : Int) : List Int := rgI 0 n
theorem mem_rgI {i j x : Int} : x ∈ rgI i j ↔ i ≤ x ∧ x < j := by
  unfold rgI
  rw [List.mem_map]
  constructor
  · rintro ⟨k, hk, rfl⟩
    have := List.mem_range.mp hk
    omega
  · intro h
    exact ⟨(x - i).toNat, List.mem_range.mpr (by omega), by omega⟩
theorem mem_rg {n x : Int} : x ∈ rg n ↔ 0 ≤ x ∧ x < n := mem_rgI
theorem rg_len (n : Int) : (rg n).length = n.toNat := by unfold rg; rw [rgI_len, Int.sub_zero]
theorem rgI_sorted (i j : Int) : (rgI i j).Pairwise (· < ·) := by
  unfold rgI
  refine List.pairwise_map.mpr (List.Pairwise.imp (fun {a b} h => ?_) List.pairwise_lt_range)
  omega
theorem rgI_nodup (i j : Int) : (rgI i j).Nodup := (rgI_sorted i j).imp fun h => by omega
theorem iAt_get {l : List Int} {i : Int} (h : i.toNat < l.length) : l[i.toNat]? = some (iAt l i) := by
  unfold iAt
  rw [List.getD_eq_getElem?_getD, List.getElem?_eq_getElem h]; rfl
theorem iAt_mem {l : List Int} {i : Int} (h : i.toNat < l.length) : iAt l i ∈ l := List.mem_of_getElem? (iAt_get h)
theorem iAt_rg {n i : Int} (h : 0 ≤ i) (h2 : i < n) : iAt (rg n) i = i := by
  have := iAt_get (l := rg n) (i := i) (by rw [rg_len]; omega)
  rw [rgI_get (by omega)] at this
  have := Option.some.inj this
  omega
theorem iAt_map (f : Int → Int) {l : List Int} {i : Int} (h : i.toNat < l.length) : iAt (l.map f) i = f (iAt l i) := by
  have := iAt_get (l := l.map f) (i := i) (by rw [List.length_map]; exact h)
  rw [List.getElem?_map, iAt_get h] at this
  exact (Option.some.inj this).symm
theorem iAt_inj {l : List Int} (hn : l.Nodup) {i j : Int} (h0 : 0 ≤ i) (h1 : i.toNat < l.length) (h2 : 0 ≤ j) (h3 : j.toNat < l.length) (h : iAt l i = iAt l j) : i = j := by
  have e1 := iAt_get h1
  have e2 := iAt_get h3
  rw [h] at e1
  have := (List.getElem?_inj h1 hn).mp (e1.trans e2.symm)
  omega
theorem iAt_surj {l : List Int} {x : Int} (h : x ∈ l) : ∃ i : Int, 0 ≤ i ∧ i < l.length ∧ iAt l i = x := by
  obtain ⟨k, hk, e⟩ := List.mem_iff_getElem.mp h
  refine ⟨k, by omega, by omega, ?_⟩
  have := iAt_get (l := l) (i := (k : Int)) (by omega)
  rw [show ((k : Int)).toNat = k by omega, List.getElem?_eq_getElem hk, e] at this
  exact (Option.some.inj this).symm

/-! ### names joined -/
def nameF (l : List Int) (t : Int × Int) (x : Int) : Int := if x = max (iAt l t.1) (iAt l t.2) then min (iAt l t.1) (iAt l t.2) else x
def nameStep (l : List Int) (t : Int × Int) : List Int := l.map (nameF l t)
def namesAll (m : Int) (ts : List (Int × Int)) : List Int := ts.foldl nameStep (rg m)
def maxI (l : List Int) : Int := l.foldl max 0
def joinsAll (m : Int) (ts : List (Int × Int)) : Bool := decide (maxI (namesAll m ts) = 0)
theorem foldmax (l : List Int) : ∀ a : Int, a ≤ l.foldl max a ∧ (∀ x ∈ l, x ≤ l.foldl max a) ∧ (l.foldl max a = a ∨ l.foldl max a ∈ l) := by
  induction l with
  | nil => intro a; exact ⟨Int.le_refl _, fun _ h => by simp at h, .inl rfl⟩
  | cons y l ih =>
    intro a
    obtain ⟨h1, h2, h3⟩ := ih (max a y)
    rw [List.foldl_cons]
    refine ⟨by omega, fun x hx => ?_, ?_⟩
    · rcases List.mem_cons.mp hx with rfl | hx
      · omega
      · exact h2 x hx
    · rcases h3 with h3 | h3
      · rw [h3]
        by_cases c : y ≤ a
        · left; omega
        · right; rw [show max a y = y by omega]; exact List.mem_cons_self
      · right; exact List.mem_cons_of_mem _ h3
theorem maxI_ge {l : List Int} {x : Int} (h : x ∈ l) : x ≤ maxI l := (foldmax l 0).2.1 x h
theorem maxI_mem {l : List Int} (h0 : ∀ x ∈ l, 0 ≤ x) (hl : l ≠ []) : maxI l ∈ l := by
  rcases (foldmax l 0).2.2 with h | h
  · cases l with
    | nil => exact absurd rfl hl
    | cons y l =>
      have h1 := (foldmax (y :: l) 0).2.1 y List.mem_cons_self
      have h2 := h0 y List.mem_cons_self
      have : y = maxI (y :: l) := by unfold maxI; omega
      rw [← this]; exact List.mem_cons_self
  · exact h
theorem maxI_zero {l : List Int} (h0 : ∀ x ∈ l, x = 0) : maxI l = 0 := by
  rcases (foldmax l 0).2.2 with h | h
  · exact h
  · exact h0 _ h
def inPl (m : Int) (t : Int × Int) : Prop := 0 ≤ t.1 ∧ t.1 < m ∧ 0 ≤ t.2 ∧ t.2 < m
theorem step_len (l : List Int) (t : Int × Int) : (nameStep l t).length = l.length := by unfold nameStep; rw [List.length_map]
theorem fold_len : ∀ (ts : List (Int × Int)) (l : List Int), (ts.foldl nameStep l).length = l.length
  | [], _ => rfl
  | t :: ts, l => by rw [List.foldl_cons, fold_len ts, step_len]
theorem names_len (m : Int) (ts : List (Int × Int)) : (namesAll m ts).length = m.toNat := by unfold namesAll; rw [fold_len, rg_len]
theorem step_at {l : List Int} {t : Int × Int} {i : Int} (h : i.toNat < l.length) : iAt (nameStep l t) i = nameF l t (iAt l i) := iAt_map _ h
/-- all names nonnegative, name of 0 is 0 -/
def Nm (l : List Int) : Prop := (∀ x ∈ l, 0 ≤ x) ∧ iAt l 0 = 0
theorem nameF_nn {l : List Int} {t : Int × Int} {m : Int} (hm : l.length = m.toNat) (ht : inPl m t) (h : ∀ x ∈ l, 0 ≤ x) {x : Int} (hx : 0 ≤ x) : 0 ≤ nameF l t x := by
  have h1 := h _ (iAt_mem (l := l) (i := t.1) (by have := ht; unfold inPl at this; omega))
  have h2 := h _ (iAt_mem (l := l) (i := t.2) (by have := ht; unfold inPl at this; omega))
  unfold nameF
  split <;> omega
theorem nameF_le (l : List Int) (t : Int × Int) (x : Int) : nameF l t x ≤ x := by
  unfold nameF
  split <;> omega
theorem step_nm {l : List Int} {t : Int × Int} {m : Int} (hm : l.length = m.toNat) (ht : inPl m t) (h : Nm l) : Nm (nameStep l t) := by
  have hp : 0 < l.length := by have := ht; unfold inPl at this; omega
  refine ⟨fun x hx => ?_, ?_⟩
  · obtain ⟨y, hy, rfl⟩ := List.mem_map.mp hx
    exact nameF_nn hm ht h.1 (h.1 y hy)
  · rw [step_at (by exact hp), h.2]
    have h1 := nameF_nn hm ht h.1 (Int.le_refl 0)
    have h2 := nameF_le l t 0
    omega
theorem fold_nm {m : Int} : ∀ (ts : List (Int × Int)) (l : List Int), l.length = m.toNat → (∀ t ∈ ts, inPl m t) → Nm l → Nm (ts.foldl nameStep l)
  | [], _, _, _, h => h
  | t :: ts, l, hl, ht, h => fold_nm ts _ (by rw [step_len, hl]) (fun u hu => ht u (List.mem_cons_of_mem _ hu)) (step_nm hl (ht t List.mem_cons_self) h)
theorem fold_eq {i j : Int} : ∀ (ts : List (Int × Int)) (l : List Int), i.toNat < l.length → j.toNat < l.length → iAt l i = iAt l j → iAt (ts.foldl nameStep l) i = iAt (ts.foldl nameStep l) j
  | [], _, _, _, h => h
  | t :: ts, l, hi, hj, h => fold_eq ts _ (by rw [step_len]; exact hi) (by rw [step_len]; exact hj) (by rw [step_at hi, step_at hj, h])
theorem step_tie {l : List Int} {t : Int × Int} (h1 : t.1.toNat < l.length) (h2 : t.2.toNat < l.length) : iAt (nameStep l t) t.1 = iAt (nameStep l t) t.2 := by
  rw [step_at h1, step_at h2]
  unfold nameF
  split <;> split <;> omega
theorem fold_tie {m : Int} : ∀ (ts : List (Int × Int)) (l : List Int) (t : Int × Int), l.length = m.toNat → (∀ t ∈ ts, inPl m t) → t ∈ ts → iAt (ts.foldl nameStep l) t.1 = iAt (ts.foldl nameStep l) t.2
  | u :: ts, l, t, hl, hp, h => by
    have q := hp t h
    unfold inPl at q
    rcases List.mem_cons.mp h with rfl | h
    · exact fold_eq ts _ (by rw [step_len]; omega) (by rw [step_len]; omega) (step_tie (by omega) (by omega))
    · exact fold_tie ts _ t (by rw [step_len, hl]) (fun v hv => hp v (List.mem_cons_of_mem _ hv)) h
theorem nm_rg {m : Int} (h : 1 ≤ m) : Nm (rg m) := ⟨fun x hx => (mem_rg.mp hx).1, iAt_rg (by omega) (by omega)⟩
theorem names_nm {m : Int} {ts : List (Int × Int)} (h : 1 ≤ m) (hp : ∀ t ∈ ts, inPl m t) : Nm (namesAll m ts) := fold_nm ts _ (rg_len m) hp (nm_rg h)
theorem names_tie {m : Int} {ts : List (Int × Int)} (hp : ∀ t ∈ ts, inPl m t) {t : Int × Int} (ht : t ∈ ts) : iAt (namesAll m ts) t.1 = iAt (namesAll m ts) t.2 := fold_tie ts _ t (rg_len m) hp ht
/-- joined: a relation that the ties make and that holds of 0 and all -/
theorem joins_true {m : Int} {ts : List (Int × Int)} (h : 1 ≤ m) (hp : ∀ t ∈ ts, inPl m t) (hc : ∀ i, 0 ≤ i → i < m → iAt (namesAll m ts) i = iAt (namesAll m ts) 0) : joinsAll m ts = true := by
  refine decide_eq_true (maxI_zero fun x hx => ?_)
  obtain ⟨i, h1, h2, rfl⟩ := iAt_surj hx
  rw [names_len] at h2
  rw [hc i h1 (by omega)]
  exact (names_nm h hp).2

/-! ### trees -/
def ltP (p q : Int × Int) : Prop := p.1 < q.1 ∨ (p.1 = q.1 ∧ p.2 < q.2)
structure TreeOk (m : Int) (ts : List (Int × Int)) : Prop where
  lo : 1 ≤ m
  hi : m ≤ 12
  len : (ts.length : Int) = m - 1
  bd : ∀ t ∈ ts, 0 ≤ t.1 ∧ t.1 < t.2 ∧ t.2 < m
  so : ts.Pairwise ltP
  jo : joinsAll m ts = true
theorem TreeOk.inP {m : Int} {ts : List (Int × Int)} (h : TreeOk m ts) : ∀ t ∈ ts, inPl m t := fun t ht => by have := h.bd t ht; unfold inPl; omega
theorem TreeOk.nodup {m : Int} {ts : List (Int × Int)} (h : TreeOk m ts) : ts.Nodup := h.so.imp fun {a b} q e => by subst e; unfold ltP at q; omega
theorem sorted_lt {ts : List (Int × Int)} (h : ts.Nodup) : (sortP ts).Pairwise ltP := by
  have h1 := sortP_le ts
  have h2 : (sortP ts).Nodup := (sortP_perm ts).nodup_iff.mpr h
  refine h1.imp₂ (fun a b q1 q2 => ?_) h2
  rw [leP_iff] at q1
  unfold ltP
  by_cases e : a.1 = b.1
  · by_cases e2 : a.2 = b.2
    · exact absurd (Prod.ext e e2) q2
    · omega
  · omega
theorem insAt_perm {α : Type} (l : List α) (n : Int) (x : α) : (insAt l n x).Perm (x :: l) := by
  unfold insAt
  rw [List.append_assoc]
  refine (List.perm_middle).trans (List.Perm.cons _ ?_)
  show (List.take n.toNat l ++ List.drop n.toNat l).Perm l
  rw [List.take_append_drop]
theorem names_perm (c : Int) : ∀ n : Nat, (namesOf c n).Perm (rg n)
  | 0 => by unfold namesOf; exact .refl _
  | n + 1 => by
    unfold namesOf
    refine (insAt_perm _ _ _).trans ?_
    have e : rg ((n + 1 : Nat) : Int) = rg n ++ [(n : Int)] := by
      unfold rg rgI
      rw [show (((n + 1 : Nat) : Int) - 0).toNat = n + 1 by omega, show ((n : Int) - 0).toNat = n by omega, List.range_succ, List.map_append, List.map_singleton, Int.zero_add]
    rw [e]
    exact ((names_perm c n).cons _).trans (List.perm_append_comm (l₁ := [(n : Int)]))
section
variable {N : Int} {names : List Int} {f : Int → Int}
theorem tieOf_iAt (k e : Int) : tieOf names k e = (min (iAt names k) (iAt names e), max (iAt names k) (iAt names e)) := rfl
theorem mem_tiesOf {n : Nat} {t : Int × Int} : t ∈ tiesOf names f n ↔ ∃ k : Int, 1 ≤ k ∧ k ≤ n ∧ t = tieOf names k (f k) := by
  unfold tiesOf
  rw [List.mem_map]
  constructor
  · rintro ⟨i, hi, rfl⟩
    have := List.mem_range.mp hi
    exact ⟨1 + i, by omega, by omega, rfl⟩
  · rintro ⟨k, h1, h2, rfl⟩
    refine ⟨(k - 1).toNat, List.mem_range.mpr (by omega), ?_⟩
    rw [show 1 + ((k - 1).toNat : Int) = k by omega]
theorem mk_tree (h1 : 1 ≤ N) (h2 : N ≤ 12) (hp : names.Perm (rg N)) (hf : ∀ k, 1 ≤ k → k < N → 0 ≤ f k ∧ f k < k) : TreeOk N (sortP (tiesOf names f (N.toNat - 1))) := by
  have hl : names.length = N.toNat := by rw [hp.length_eq, rg_len]
  have hn : names.Nodup := hp.nodup_iff.mpr (rgI_nodup _ _)
  have hb : ∀ k, 0 ≤ k → k < N → 0 ≤ iAt names k ∧ iAt names k < N := fun k a b => mem_rg.mp (hp.mem_iff.mp (iAt_mem (by omega)))
  have hi : ∀ k j, 0 ≤ k → k < N → 0 ≤ j → j < N → iAt names k = iAt names j → k = j := fun k j a b c d e => iAt_inj hn a (by omega) c (by omega) e
  have bd : ∀ t ∈ tiesOf names f (N.toNat - 1), 0 ≤ t.1 ∧ t.1 < t.2 ∧ t.2 < N := fun t ht => by
    obtain ⟨k, k1, k2, rfl⟩ := mem_tiesOf.mp ht
    rw [tieOf_iAt]
    have a := hf k k1 (by omega)
    have b := hb k (by omega) (by omega)
    have c := hb (f k) (by omega) (by omega)
    have d : iAt names k ≠ iAt names (f k) := fun e => by have := hi _ _ (by omega) (by omega) (by omega) (by omega) e; omega
    simp only
    omega
  have nd : (tiesOf names f (N.toNat - 1)).Nodup := by
    unfold tiesOf
    refine List.pairwise_map.mpr (List.Pairwise.imp_of_mem (fun {a b} ha hb' q e => ?_) List.pairwise_lt_range)
    have a1 := List.mem_range.mp ha
    have b1 := List.mem_range.mp hb'
    rw [tieOf_iAt, tieOf_iAt] at e
    have e1 := congrArg Prod.fst e
    have e2 := congrArg Prod.snd e
    simp only at e1 e2
    have fa := hf (1 + a) (by omega) (by omega)
    have fb := hf (1 + b) (by omega) (by omega)
    have : iAt names (1 + (b : Int)) = iAt names (1 + (a : Int)) ∨ iAt names (1 + (b : Int)) = iAt names (f (1 + (a : Int))) := by omega
    rcases this with e | e
    · have := hi _ _ (by omega) (by omega) (by omega) (by omega) e; omega
    · have := hi _ _ (by omega) (by omega) (by omega) (by omega) e; omega
  have sp := sortP_perm (tiesOf names f (N.toNat - 1))
  have bds : ∀ t ∈ sortP (tiesOf names f (N.toNat - 1)), 0 ≤ t.1 ∧ t.1 < t.2 ∧ t.2 < N := fun t ht => bd t (sp.mem_iff.mp ht)
  have ip : ∀ t ∈ sortP (tiesOf names f (N.toNat - 1)), inPl N t := fun t ht => by have := bds t ht; unfold inPl; omega
  refine ⟨h1, h2, by rw [sortP_len, tiesOf_len]; omega, bds, sorted_lt nd, joins_true h1 ip fun i i1 i2 => ?_⟩
  have key : ∀ n : Nat, ∀ k : Int, 0 ≤ k → k < N → k.toNat ≤ n → iAt (namesAll N (sortP (tiesOf names f (N.toNat - 1)))) (iAt names k) = iAt (namesAll N (sortP (tiesOf names f (N.toNat - 1)))) (iAt names 0) := fun n => by
    induction n with
    | zero => intro k a b c; rw [show k = 0 by omega]
    | succ n ih =>
      intro k a b c
      by_cases k0 : k = 0
      · rw [k0]
      · have fk := hf k (by omega) b
        have tm : tieOf names k (f k) ∈ sortP (tiesOf names f (N.toNat - 1)) := sp.mem_iff.mpr (mem_tiesOf.mpr ⟨k, by omega, by omega, rfl⟩)
        have q := names_tie ip tm
        rw [tieOf_iAt] at q
        simp only at q
        have r := ih (f k) (by omega) (by omega) (by omega)
        rw [← r]
        by_cases z : iAt names k ≤ iAt names (f k)
        · rw [Int.min_eq_left z, Int.max_eq_right z] at q; exact q
        · rw [Int.min_eq_right (by omega), Int.max_eq_left (by omega)] at q; exact q.symm
  have sj : ∀ i, 0 ≤ i → i < N → ∃ k, 0 ≤ k ∧ k < N ∧ iAt names k = i := fun i a b => by
    obtain ⟨k, k1, k2, k3⟩ := iAt_surj (hp.mem_iff.mpr (mem_rg.mpr ⟨a, b⟩))
    exact ⟨k, k1, by omega, k3⟩
  obtain ⟨k, k1, k2, k3⟩ := sj i i1 i2
  obtain ⟨k', k1', k2', k3'⟩ := sj 0 (by omega) (by omega)
  rw [← k3, key _ k k1 k2 (Nat.le_refl _), ← key _ k' k1' k2' (Nat.le_refl _), k3']
end
theorem tree_ok (ns : List Int) {b m : Int} (hm : 0 < m) (hm2 : m ≤ 12) : TreeOk (treeN ns b m) (sortP (treeRaw ns b m)) := by
  have h1 := treeN_pos (ns := ns) (base := b) hm
  have h2 := treeN_le (ns := ns) (base := b) hm
  unfold treeRaw
  refine mk_tree h1 (by omega) ?_ fun k k1 k2 => elder_bd k1
  unfold treeNames
  have := names_perm (cellAt ns (b + 1)) (treeN ns b m).toNat
  rw [show ((treeN ns b m).toNat : Int) = treeN ns b m by omega] at this
  exact this
theorem comb_ok (ns : List Int) {b m : Int} (hm : 0 < m) (hm2 : m ≤ 12) : TreeOk (treeN ns b m) (sortP (combRaw ns b m)) := by
  have h1 := treeN_pos (ns := ns) (base := b) hm
  have h2 := treeN_le (ns := ns) (base := b) hm
  unfold combRaw
  refine mk_tree h1 (by omega) ?_ fun k k1 k2 => ?_
  · unfold treeNames
    have := names_perm (cellAt ns (b + 1)) (treeN ns b m).toNat
    rw [show ((treeN ns b m).toNat : Int) = treeN ns b m by omega] at this
    exact this
  · have := here_bd (cellAt ns (b + 2)) (k - 1).toNat
    omega
end Mt

/-! Ma3: good marks searched, in plain Lean. -/
namespace Mt
open Fw
/-! ### loops that may leave -/
def runE {σ ρ α : Type} (f : σ → α → σ ⊕ ρ) : List α → σ → σ ⊕ ρ
  | [], s => .inl s
  | a :: l, s => match f s a with
    | .inl s' => runE f l s'
    | .inr x => .inr x
theorem runE_inl {σ ρ α : Type} {f : σ → α → σ ⊕ ρ} : ∀ {l : List α} {s r : σ}, runE f l s = .inl r → ∃ g : Nat → σ, g 0 = s ∧ g l.length = r ∧ ∀ i a, l[i]? = some a → f (g i) a = .inl (g (i + 1))
  | [], s, r, h => ⟨fun _ => s, rfl, by unfold runE at h; injection h, fun i a h => by simp at h⟩
  | b :: l, s, r, h => by
    unfold runE at h
    cases q : f s b with
    | inr x => rw [q] at h; cases h
    | inl s' =>
      rw [q] at h
      obtain ⟨g, g0, gl, gs⟩ := runE_inl (l := l) h
      refine ⟨fun i => if i = 0 then s else g (i - 1), rfl, ?_, fun i a hi => ?_⟩
      · show (if (b :: l).length = 0 then s else g ((b :: l).length - 1)) = r
        rw [if_neg (by simp)]; exact gl
      · cases i with
        | zero =>
          simp at hi; subst hi
          show f s b = .inl (if 1 = 0 then s else g (1 - 1))
          rw [if_neg (by decide), q, g0]
        | succ i =>
          have := gs i a (by simpa using hi)
          show f (if i + 1 = 0 then s else g (i + 1 - 1)) a = .inl (if i + 1 + 1 = 0 then s else g (i + 1 + 1 - 1))
          rw [if_neg (by omega), if_neg (by omega)]; exact this
theorem runE_inr {σ ρ α : Type} {f : σ → α → σ ⊕ ρ} {x : ρ} : ∀ {l : List α} {s : σ}, runE f l s = .inr x → ∃ (n : Nat) (a : α) (g : Nat → σ), l[n]? = some a ∧ g 0 = s ∧ (∀ i b, i < n → l[i]? = some b → f (g i) b = .inl (g (i + 1))) ∧ f (g n) a = .inr x
  | [], s, h => by unfold runE at h; cases h
  | b :: l, s, h => by
    unfold runE at h
    cases q : f s b with
    | inr y => rw [q] at h; injection h with h; subst h; exact ⟨0, b, fun _ => s, rfl, rfl, fun i _ h => by omega, q⟩
    | inl s' =>
      rw [q] at h
      obtain ⟨n, a, g, hn, g0, gs, gx⟩ := runE_inr (l := l) h
      refine ⟨n + 1, a, fun i => if i = 0 then s else g (i - 1), by simpa using hn, rfl, fun i c hi hc => ?_, ?_⟩
      · cases i with
        | zero =>
          simp at hc; subst hc
          show f s b = .inl (if 1 = 0 then s else g (1 - 1))
          rw [if_neg (by decide), q, g0]
        | succ i =>
          have := gs i c (by omega) (by simpa using hc)
          show f (if i + 1 = 0 then s else g (i + 1 - 1)) c = .inl (if i + 1 + 1 = 0 then s else g (i + 1 + 1 - 1))
          rw [if_neg (by omega), if_neg (by omega)]; exact this
      · show f (if n + 1 = 0 then s else g (n + 1 - 1)) a = _
        rw [if_neg (by omega)]; exact gx

/-! ### differences -/
def dAt (marks : List Int) (t : Int × Int) : Int := ((iAt marks t.1 - iAt marks t.2).natAbs : Nat)
def alongM (ts : List (Int × Int)) (marks : List Int) : List Int := ts.map (dAt marks)
def unl (l : List Int) : Bool := decide l.Nodup
def goodM (ts : List (Int × Int)) (marks : List Int) : Bool := decide (sortI (alongM ts marks) = rgI 1 marks.length)
def newAt (marks : List Int) (mark : Int) (t : Int × Int) : Int := ((iAt marks t.1 - mark).natAbs : Nat)
def fitF (marks : List Int) (mark : Int) (f : List Int) (t : Int × Int) : List Int ⊕ Unit := if t.2 = (marks.length : Int) then (if f.contains (newAt marks mark t) then .inr () else .inl (f ++ [newAt marks mark t])) else .inl f
def fitsM (ts : List (Int × Int)) (marks ds : List Int) (mark : Int) : List Int ⊕ Unit := runE (fitF marks mark) ts ds
def srF (ts : List (Int × Int)) (first : Bool) (marks ds : List Int) (rec : List Int → List Int → List (List Int)) (found : List (List Int)) (mark : Int) : List (List Int) ⊕ List (List Int) :=
  if marks.contains mark then .inl found else match fitsM ts marks ds mark with
    | .inr _ => .inl found
    | .inl more => if first = true ∧ 0 < (found ++ rec (marks ++ [mark]) more).length then .inr (found ++ rec (marks ++ [mark]) more) else .inl (found ++ rec (marks ++ [mark]) more)
def side {α : Type} : α ⊕ α → α
  | .inl a => a
  | .inr a => a
def srch (m : Int) (ts : List (Int × Int)) (first : Bool) : Nat → List Int → List Int → List (List Int)
  | 0, marks, _ => [marks]
  | n + 1, marks, ds => side (runE (srF ts first marks ds (srch m ts first n)) (rg m) [])
/-- what the law looks at: the differences of the ties so far -/
def toldM (ts : List (Int × Int)) (row : List Int) (mark : Int) : List Int := (ts.filter fun t => decide (t.2 ≤ (row.length : Int))).map (dAt (row ++ [mark]))
def okX (ts : List (Int × Int)) (row : List Int) (mark : Int) : Bool := !row.contains mark && unl (toldM ts row mark)
def lfF (ts : List (Int × Int)) (row : List Int) (rec : List Int → Option (List Int)) (_ : Unit) (mark : Int) : Unit ⊕ List Int :=
  if okX ts row mark then (match rec (row ++ [mark]) with
    | some r => .inr r
    | none => .inl ()) else .inl ()
def lawFirst (m : Int) (ts : List (Int × Int)) : Nat → List Int → Option (List Int)
  | 0, row => some row
  | n + 1, row => match runE (lfF ts row (lawFirst m ts n)) (rg m) () with
    | .inr r => some r
    | .inl _ => none
def extX (m : Int) (ts : List (Int × Int)) (row : List Int) : List (List Int) := ((rg m).filter (okX ts row)).map fun mark => row ++ [mark]
def rowsM (m : Int) (ts : List (Int × Int)) : Nat → List (List Int)
  | 0 => [[]]
  | n + 1 => (rowsM m ts n).flatMap (extX m ts)

/-! ### fits -/
def newD (ts : List (Int × Int)) (marks : List Int) (mark : Int) : List Int := (ts.filter fun t => decide (t.2 = (marks.length : Int))).map (newAt marks mark)
theorem newD_y {marks : List Int} {mark : Int} {t : Int × Int} {ts : List (Int × Int)} (c : t.2 = (marks.length : Int)) : newD (t :: ts) marks mark = newAt marks mark t :: newD ts marks mark := by
  unfold newD
  rw [List.filter_cons, if_pos (by exact decide_eq_true c), List.map_cons]
theorem newD_n {marks : List Int} {mark : Int} {t : Int × Int} {ts : List (Int × Int)} (c : ¬ t.2 = (marks.length : Int)) : newD (t :: ts) marks mark = newD ts marks mark := by
  unfold newD
  rw [List.filter_cons, if_neg (by rw [decide_eq_false c]; decide)]
theorem fits_c {marks ds : List Int} {mark : Int} {t : Int × Int} {ts : List (Int × Int)} : fitsM (t :: ts) marks ds mark = match fitF marks mark ds t with
    | .inl s' => fitsM ts marks s' mark
    | .inr x => .inr x := by
  unfold fitsM
  rw [runE]
  cases fitF marks mark ds t <;> rfl
theorem fits_eq (marks : List Int) (mark : Int) : ∀ (ts : List (Int × Int)) (ds : List Int), ds.Nodup → fitsM ts marks ds mark = if (ds ++ newD ts marks mark).Nodup then .inl (ds ++ newD ts marks mark) else .inr ()
  | [], ds, h => by
    show Sum.inl ds = if (ds ++ []).Nodup then .inl (ds ++ []) else .inr ()
    rw [List.append_nil, if_pos h]
  | t :: ts, ds, h => by
    rw [fits_c]
    by_cases c : t.2 = (marks.length : Int)
    · rw [newD_y c]
      by_cases d : newAt marks mark t ∈ ds
      · have e : fitF marks mark ds t = .inr () := by unfold fitF; rw [if_pos c, if_pos (by rw [List.contains_iff_mem]; exact d)]
        rw [e, if_neg (fun z => by
          have := List.nodup_append.mp z
          exact this.2.2 _ d _ List.mem_cons_self rfl)]
      · have e : fitF marks mark ds t = .inl (ds ++ [newAt marks mark t]) := by unfold fitF; rw [if_pos c, if_neg (by rw [List.contains_iff_mem]; exact d)]
        have h2 : (ds ++ [newAt marks mark t]).Nodup := List.nodup_append.mpr ⟨h, by simp, fun a ha b hb e => by
          rw [List.mem_singleton] at hb; subst hb; subst e; exact d ha⟩
        rw [e]
        simp only
        rw [fits_eq marks mark ts _ h2, List.append_assoc]; rfl
    · rw [newD_n c]
      have e : fitF marks mark ds t = .inl ds := by unfold fitF; rw [if_neg c]
      rw [e]
      exact fits_eq marks mark ts ds h
/-- the differences of the ties within a row -/
def inD (ts : List (Int × Int)) (row : List Int) : List Int := (ts.filter fun t => decide (t.2 < (row.length : Int))).map (dAt row)
theorem iAt_app1 {row : List Int} {x i : Int} (h0 : 0 ≤ i) (h : i < row.length) : iAt (row ++ [x]) i = iAt row i := by
  unfold iAt
  rw [List.getD_eq_getElem?_getD, List.getD_eq_getElem?_getD, List.getElem?_append_left (by omega)]
theorem iAt_app2 {row : List Int} {x i : Int} (h : i = row.length) : iAt (row ++ [x]) i = x := by
  unfold iAt
  rw [List.getD_eq_getElem?_getD, List.getElem?_append_right (by omega), h, show ((row.length : Int).toNat - row.length) = 0 by omega]; rfl
def Bd (m : Int) (ts : List (Int × Int)) : Prop := ∀ t ∈ ts, 0 ≤ t.1 ∧ t.1 < t.2 ∧ t.2 < m
theorem told_in {m : Int} {ts : List (Int × Int)} (hb : Bd m ts) (row : List Int) (mark : Int) : (toldM ts row mark).Perm (inD ts row ++ newD ts row mark) := by
  unfold toldM inD newD
  induction ts with
  | nil => exact .refl _
  | cons t ts ih =>
    have ih := ih fun u hu => hb u (List.mem_cons_of_mem _ hu)
    have b := hb t List.mem_cons_self
    rw [List.filter_cons, List.filter_cons, List.filter_cons]
    by_cases c1 : t.2 < (row.length : Int)
    · rw [if_pos (by exact decide_eq_true (by omega)), if_pos (by exact decide_eq_true c1), if_neg (by exact fun z => by have := of_decide_eq_true z; omega), List.map_cons, List.map_cons]
      have : dAt (row ++ [mark]) t = dAt row t := by unfold dAt; rw [iAt_app1 b.1 (by omega), iAt_app1 (by omega) c1]
      rw [this]
      exact ih.cons _
    · by_cases c2 : t.2 = (row.length : Int)
      · rw [if_pos (by exact decide_eq_true (by omega)), if_neg (by exact fun z => by have := of_decide_eq_true z; omega), if_pos (by exact decide_eq_true c2), List.map_cons, List.map_cons]
        have : dAt (row ++ [mark]) t = newAt row mark t := by unfold dAt newAt; rw [iAt_app1 b.1 (by omega), iAt_app2 c2]
        rw [this]
        exact (ih.cons _).trans (List.perm_middle.symm)
      · rw [if_neg (by exact fun z => by have := of_decide_eq_true z; omega), if_neg (by exact fun z => by have := of_decide_eq_true z; omega), if_neg (by exact fun z => by have := of_decide_eq_true z; omega)]
        exact ih
theorem told_next {ts : List (Int × Int)} (row : List Int) (mark : Int) : toldM ts row mark = inD ts (row ++ [mark]) := by
  unfold toldM inD
  have : (fun t : Int × Int => decide (t.2 ≤ (row.length : Int))) = fun t => decide (t.2 < ((row ++ [mark]).length : Int)) := funext fun t => by
    rw [List.length_append, List.length_singleton]
    exact decide_eq_decide.mpr (by omega)
  rw [this]
theorem fits_ok {m : Int} {ts : List (Int × Int)} (hb : Bd m ts) {row ds : List Int} (hn : ds.Nodup) (hp : ds.Perm (inD ts row)) (mark : Int) :
    (unl (toldM ts row mark) = true ∧ ∃ more, fitsM ts row ds mark = .inl more ∧ more.Nodup ∧ more.Perm (inD ts (row ++ [mark]))) ∨ (unl (toldM ts row mark) = false ∧ fitsM ts row ds mark = .inr ()) := by
  have p : (ds ++ newD ts row mark).Perm (toldM ts row mark) := (hp.append_right _).trans (told_in hb row mark).symm
  rw [fits_eq row mark ts ds hn]
  by_cases c : (ds ++ newD ts row mark).Nodup
  · exact .inl ⟨decide_eq_true (p.nodup_iff.mp c), _, by rw [if_pos c], c, by rw [← told_next]; exact p⟩
  · exact .inr ⟨decide_eq_false fun z => c (p.nodup_iff.mpr z), by rw [if_neg c]⟩

/-! ### the first -/
theorem srch_true {m : Int} {ts : List (Int × Int)} (hb : Bd m ts) : ∀ (n : Nat) (row ds : List Int), ds.Nodup → ds.Perm (inD ts row) → srch m ts true n row ds = (lawFirst m ts n row).toList
  | 0, row, ds, _, _ => rfl
  | n + 1, row, ds, hn, hp => by
    unfold srch lawFirst
    have go : ∀ l : List Int, side (runE (srF ts true row ds (srch m ts true n)) l []) = (match runE (lfF ts row (lawFirst m ts n)) l () with
        | .inr r => some r
        | .inl _ => none).toList := fun l => by
      induction l with
      | nil => rfl
      | cons x l ih =>
        unfold runE
        cases cx : row.contains x with
        | true =>
          have e1 : srF ts true row ds (srch m ts true n) [] x = .inl [] := by unfold srF; rw [if_pos cx]
          have e2 : lfF ts row (lawFirst m ts n) () x = .inl () := by unfold lfF okX; rw [cx]; rfl
          rw [e1, e2]; exact ih
        | false =>
          rcases fits_ok hb hn hp x with ⟨u, more, e, mn, mp⟩ | ⟨u, e⟩
          · have r := srch_true hb n (row ++ [x]) more mn mp
            have e2 : lfF ts row (lawFirst m ts n) () x = (match lawFirst m ts n (row ++ [x]) with
                | some r => .inr r
                | none => .inl ()) := by
              unfold lfF okX
              rw [cx, u]; rfl
            rw [e2]
            cases q : lawFirst m ts n (row ++ [x]) with
            | none =>
              rw [q] at r
              have e1 : srF ts true row ds (srch m ts true n) [] x = .inl [] := by
                unfold srF
                rw [if_neg (by rw [cx]; decide), e]
                simp only
                rw [r, if_neg (by rintro ⟨_, h⟩; simp at h)]; rfl
              rw [e1]; exact ih
            | some y =>
              rw [q] at r
              have e1 : srF ts true row ds (srch m ts true n) [] x = .inr [y] := by
                unfold srF
                rw [if_neg (by rw [cx]; decide), e]
                simp only
                rw [r, if_pos ⟨trivial, by simp⟩]; rfl
              rw [e1]; rfl
          · have e1 : srF ts true row ds (srch m ts true n) [] x = .inl [] := by
              unfold srF
              rw [if_neg (by rw [cx]; decide), e]
            have e2 : lfF ts row (lawFirst m ts n) () x = .inl () := by unfold lfF okX; rw [cx, u]; rfl
            rw [e1, e2]; exact ih
    exact go (rg m)
/-! ### all -/
theorem srch_false {m : Int} {ts : List (Int × Int)} (hb : Bd m ts) : ∀ (n : Nat) (row ds : List Int), ds.Nodup → ds.Perm (inD ts row) → ∀ r, r ∈ srch m ts false (n + 1) row ds ↔ True ∧ r ∈ srch m ts false (n + 1) row ds := fun _ _ _ _ _ _ => ⟨fun h => ⟨trivial, h⟩, fun h => h.2⟩
/-- all rows that go on from a row by n places -/
def goOn (m : Int) (ts : List (Int × Int)) : Nat → List Int → List (List Int)
  | 0, row => [row]
  | n + 1, row => (extX m ts row).flatMap (goOn m ts n)
theorem srch_all {m : Int} {ts : List (Int × Int)} (hb : Bd m ts) : ∀ (n : Nat) (row ds : List Int), ds.Nodup → ds.Perm (inD ts row) → srch m ts false n row ds = goOn m ts n row
  | 0, row, ds, _, _ => rfl
  | n + 1, row, ds, hn, hp => by
    unfold srch goOn extX
    have go : ∀ (l : List Int) (acc : List (List Int)), side (runE (srF ts false row ds (srch m ts false n)) l acc) = acc ++ ((l.filter (okX ts row)).map fun mark => row ++ [mark]).flatMap (goOn m ts n) := fun l => by
      induction l with
      | nil => intro acc; rw [List.filter_nil, List.map_nil, List.flatMap_nil, List.append_nil]; rfl
      | cons x l ih =>
        intro acc
        unfold runE
        cases cx : row.contains x with
        | true =>
          have e1 : srF ts false row ds (srch m ts false n) acc x = .inl acc := by unfold srF; rw [if_pos cx]
          rw [e1, List.filter_cons, if_neg (by unfold okX; rw [cx]; simp)]
          exact ih acc
        | false =>
          rcases fits_ok hb hn hp x with ⟨u, more, e, mn, mp⟩ | ⟨u, e⟩
          · have r := srch_all hb n (row ++ [x]) more mn mp
            have e1 : srF ts false row ds (srch m ts false n) acc x = .inl (acc ++ goOn m ts n (row ++ [x])) := by
              unfold srF
              rw [if_neg (by rw [cx]; decide), e]
              simp only
              rw [r, if_neg (by rintro ⟨h, _⟩; cases h)]
            rw [e1, List.filter_cons, if_pos (by unfold okX; rw [cx, u]; rfl), List.map_cons, List.flatMap_cons, ← List.append_assoc]
            exact ih _
          · have e1 : srF ts false row ds (srch m ts false n) acc x = .inl acc := by
              unfold srF
              rw [if_neg (by rw [cx]; decide), e]
            rw [e1, List.filter_cons, if_neg (by unfold okX; rw [cx, u]; simp)]
            exact ih acc
    have := go (rg m) []
    rw [List.nil_append] at this
    exact this
theorem goOn_rows {m : Int} {ts : List (Int × Int)} : ∀ (n k : Nat), (rowsM m ts k).flatMap (goOn m ts n) = rowsM m ts (k + n)
  | 0, k => by
    have : goOn m ts 0 = fun row => [row] := funext fun row => rfl
    rw [this]
    simp
  | n + 1, k => by
    have : goOn m ts (n + 1) = fun row => (extX m ts row).flatMap (goOn m ts n) := funext fun row => rfl
    rw [this, ← List.flatMap_assoc]
    have e : (rowsM m ts k).flatMap (extX m ts) = rowsM m ts (k + 1) := rfl
    rw [e, goOn_rows n (k + 1), show k + 1 + n = k + (n + 1) by omega]
theorem goOn_nil {m : Int} {ts : List (Int × Int)} (n : Nat) : goOn m ts n [] = rowsM m ts n := by
  have := goOn_rows (m := m) (ts := ts) n 0
  rw [show rowsM m ts 0 = [[]] from rfl, List.flatMap_cons, List.flatMap_nil, List.append_nil, Nat.zero_add] at this
  exact this
/-- what a row is: marks of the first places -/
structure RowOk (m : Int) (ts : List (Int × Int)) (row : List Int) : Prop where
  nd : row.Nodup
  bd : ∀ x ∈ row, 0 ≤ x ∧ x < m
  un : (inD ts row).Nodup
theorem rowOk_nil {m : Int} {ts : List (Int × Int)} (hb : Bd m ts) : RowOk m ts [] := ⟨List.nodup_nil, fun x h => by simp at h, by
  unfold inD
  rw [List.filter_eq_nil_iff.mpr fun t ht => by
    have := hb t ht
    simp only [List.length_nil, decide_eq_true_eq]; omega]
  exact List.nodup_nil⟩
theorem rowOk_ext {m : Int} {ts : List (Int × Int)} {row : List Int} (h : RowOk m ts row) {x : Int} (hx : x ∈ rg m) (ho : okX ts row x = true) : RowOk m ts (row ++ [x]) := by
  unfold okX at ho
  obtain ⟨o1, o2⟩ := Bool.and_eq_true_iff.mp ho
  have hx2 := mem_rg.mp hx
  have nx : x ∉ row := fun z => by rw [show row.contains x = true from List.contains_iff_mem.mpr z] at o1; cases o1
  refine ⟨List.nodup_append.mpr ⟨h.nd, by simp, fun a ha b hb e => ?_⟩, fun y hy => ?_, ?_⟩
  · rw [List.mem_singleton] at hb; subst hb; subst e; exact nx ha
  · rcases List.mem_append.mp hy with hy | hy
    · exact h.bd y hy
    · rw [List.mem_singleton] at hy; subst hy; exact hx2
  · rw [← told_next]; exact of_decide_eq_true o2
theorem goOn_ok {m : Int} {ts : List (Int × Int)} : ∀ (n : Nat) (row : List Int), RowOk m ts row → ∀ r ∈ goOn m ts n row, RowOk m ts r ∧ r.length = row.length + n
  | 0, row, h, r, hr => by
    unfold goOn at hr
    rw [List.mem_singleton] at hr; subst hr; exact ⟨h, by omega⟩
  | n + 1, row, h, r, hr => by
    unfold goOn extX at hr
    obtain ⟨q, hq, hr⟩ := List.mem_flatMap.mp hr
    obtain ⟨x, hx, rfl⟩ := List.mem_map.mp hq
    obtain ⟨hx1, hx2⟩ := List.mem_filter.mp hx
    have := goOn_ok n _ (rowOk_ext h hx1 hx2) r hr
    refine ⟨this.1, by rw [this.2, List.length_append, List.length_singleton]; omega⟩
theorem first_goOn {m : Int} {ts : List (Int × Int)} : ∀ (n : Nat) (row : List Int), lawFirst m ts n row = (goOn m ts n row).head?
  | 0, row => rfl
  | n + 1, row => by
    unfold lawFirst goOn extX
    have go : ∀ l : List Int, (match runE (lfF ts row (lawFirst m ts n)) l () with
        | .inr r => some r
        | .inl _ => none) = (((l.filter (okX ts row)).map fun mark => row ++ [mark]).flatMap (goOn m ts n)).head? := fun l => by
      induction l with
      | nil => rfl
      | cons x l ih =>
        unfold runE
        cases c : okX ts row x with
        | false =>
          have e2 : lfF ts row (lawFirst m ts n) () x = .inl () := by unfold lfF; rw [c]; rfl
          rw [e2, List.filter_cons, if_neg (by rw [c]; decide)]
          exact ih
        | true =>
          rw [List.filter_cons, if_pos c, List.map_cons, List.flatMap_cons, List.head?_append, ← first_goOn n (row ++ [x]), ← ih]
          have e2 : lfF ts row (lawFirst m ts n) () x = (match lawFirst m ts n (row ++ [x]) with
              | some r => .inr r
              | none => .inl ()) := by unfold lfF; rw [c]; rfl
          rw [e2]
          cases lawFirst m ts n (row ++ [x]) <;> rfl
    exact go (rg m)
theorem inD_all {m : Int} {ts : List (Int × Int)} (hb : Bd m ts) {row : List Int} (h : (row.length : Int) = m) : inD ts row = alongM ts row := by
  unfold inD alongM
  rw [List.filter_eq_self.mpr fun t ht => by
    have := hb t ht
    exact decide_eq_true (by omega)]
/-! ### counting -/
theorem sub_len : ∀ {l r : List Int}, l.Nodup → (∀ x ∈ l, x ∈ r) → l.length ≤ r.length
  | [], _, _, _ => Nat.zero_le _
  | x :: l, r, hn, h => by
    have hx := h x List.mem_cons_self
    have h2 : l.length ≤ (r.erase x).length := sub_len (List.nodup_cons.mp hn).2 fun y hy => by
      refine (List.mem_erase_of_ne ?_).mpr (h y (List.mem_cons_of_mem _ hy))
      intro e; subst e; exact (List.nodup_cons.mp hn).1 hy
    rw [List.length_erase_of_mem hx] at h2
    have := List.length_pos_of_mem hx
    rw [List.length_cons]; omega
theorem perm_of_sub {l r : List Int} (hl : l.Nodup) (hr : r.Nodup) (h : ∀ x ∈ l, x ∈ r) (hn : l.length = r.length) : l.Perm r := by
  have h2 : ∀ x ∈ r, x ∈ l := fun x hx => by
    by_cases c : x ∈ l
    · exact c
    · have := sub_len (l := l) (r := r.erase x) hl fun y hy => (List.mem_erase_of_ne (fun e => by subst e; exact c hy)).mpr (h y hy)
      rw [List.length_erase_of_mem hx] at this
      have := List.length_pos_of_mem hx
      omega
  refine List.perm_iff_count.mpr fun x => ?_
  rw [hl.count, hr.count]
  by_cases c : x ∈ l
  · rw [if_pos c, if_pos (h x c)]
  · rw [if_neg c, if_neg fun z => c (h2 x z)]
theorem perm_rgI {l : List Int} {i j : Int} (hl : l.Nodup) (h : ∀ x ∈ l, i ≤ x ∧ x < j) (hn : l.length = (j - i).toNat) : l.Perm (rgI i j) := perm_of_sub hl (rgI_nodup i j) (fun x hx => mem_rgI.mpr (h x hx)) (by rw [rgI_len, hn])
theorem sort_rgI {l : List Int} {i j : Int} (h : l.Perm (rgI i j)) : sortI l = rgI i j := (sortI_eq h.symm ((rgI_sorted i j).imp fun h => by omega)).symm
theorem sort_rgI' {l : List Int} {i j : Int} : sortI l = rgI i j ↔ l.Perm (rgI i j) := ⟨fun h => by have := sortI_perm l; rw [h] at this; exact this.symm, sort_rgI⟩
/-- marks: each number once -/
def isMarks (m : Int) (marks : List Int) : Prop := marks.Perm (rg m)
theorem isMarks.nd {m : Int} {marks : List Int} (h : isMarks m marks) : marks.Nodup := List.Perm.nodup_iff h |>.mpr (rgI_nodup _ _)
theorem isMarks.len {m : Int} {marks : List Int} (h : isMarks m marks) (hm : 0 ≤ m) : (marks.length : Int) = m := by have := List.Perm.length_eq h; rw [rg_len] at this; omega
theorem isMarks.bd {m : Int} {marks : List Int} (h : isMarks m marks) {i : Int} (h0 : 0 ≤ i) (h1 : i < m) : 0 ≤ iAt marks i ∧ iAt marks i < m := mem_rg.mp (h.mem_iff.mp (iAt_mem (by have := h.len (by omega); omega)))
theorem dAt_bd {m : Int} {marks : List Int} (h : isMarks m marks) {t : Int × Int} (b : 0 ≤ t.1 ∧ t.1 < t.2 ∧ t.2 < m) : 1 ≤ dAt marks t ∧ dAt marks t < m := by
  have h1 := h.bd b.1 (by omega)
  have h2 := h.bd (i := t.2) (by omega) b.2.2
  have h3 : iAt marks t.1 ≠ iAt marks t.2 := fun e => by
    have := iAt_inj h.nd b.1 (by have := h.len (by omega); omega) (by omega) (by have := h.len (by omega); omega) e
    omega
  unfold dAt
  omega
/-- all unlike, and each difference once: one and the same -/
theorem good_unl {m : Int} {ts : List (Int × Int)} (hb : Bd m ts) (hl : (ts.length : Int) = m - 1) {marks : List Int} (h : isMarks m marks) : goodM ts marks = unl (alongM ts marks) := by
  unfold goodM unl
  refine decide_eq_decide.mpr ?_
  rw [sort_rgI', h.len (by omega)]
  constructor
  · exact fun p => p.nodup_iff.mpr (rgI_nodup _ _)
  · intro n
    refine perm_rgI n (fun x hx => ?_) (by unfold alongM; rw [List.length_map]; omega)
    obtain ⟨t, ht, rfl⟩ := List.mem_map.mp hx
    exact dAt_bd h (hb t ht)
theorem row_marks {m : Int} {ts : List (Int × Int)} {row : List Int} (h : RowOk m ts row) (hl : (row.length : Int) = m) : isMarks m row := perm_rgI h.nd h.bd (by omega)
theorem row_good {m : Int} {ts : List (Int × Int)} (hb : Bd m ts) (hl : (ts.length : Int) = m - 1) {row : List Int} (h : RowOk m ts row) (hr : (row.length : Int) = m) : goodM ts row = true := by
  rw [good_unl hb hl (row_marks h hr)]
  have := h.un
  rw [inD_all hb hr] at this
  exact decide_eq_true this
/-- how many rows there may be -/
theorem goOn_len {m : Int} {ts : List (Int × Int)} : ∀ (n : Nat) (row : List Int), (goOn m ts n row).length ≤ m.toNat ^ n
  | 0, row => by unfold goOn; simp
  | n + 1, row => by
    unfold goOn extX
    rw [List.length_flatMap]
    have go : ∀ l : List Int, ((((l.filter (okX ts row)).map fun mark => row ++ [mark]).map fun a => (goOn m ts n a).length)).sum ≤ l.length * m.toNat ^ n := fun l => by
      induction l with
      | nil => simp
      | cons x l ih =>
        rw [List.filter_cons, List.length_cons, Nat.succ_mul]
        have := goOn_len (m := m) (ts := ts) n (row ++ [x])
        split
        · rw [List.map_cons, List.map_cons, List.sum_cons]; omega
        · omega
    have := go (rg m)
    rw [rg_len] at this
    rw [Nat.pow_succ, Nat.mul_comm]
    exact this
theorem runE_inv {σ ρ α : Type} {f : σ → α → σ ⊕ ρ} {l : List α} {s : σ} (Inv : Nat → σ → Prop) (h0 : Inv 0 s) (hs : ∀ i a s s', l[i]? = some a → Inv i s → f s a = .inl s' → Inv (i + 1) s') :
    (∀ r, runE f l s = .inl r → Inv l.length r) ∧ (∀ x, runE f l s = .inr x → ∃ i a s, l[i]? = some a ∧ Inv i s ∧ f s a = .inr x) := by
  constructor
  · intro r h
    obtain ⟨g, g0, gl, gs⟩ := runE_inl h
    have go : ∀ i, i ≤ l.length → Inv i (g i) := fun i => by
      induction i with
      | zero => intro _; rw [g0]; exact h0
      | succ i ih =>
        intro hi
        exact hs i l[i] _ _ (List.getElem?_eq_getElem (by omega)) (ih (by omega)) (gs i l[i] (List.getElem?_eq_getElem (by omega)))
    rw [← gl]; exact go _ (Nat.le_refl _)
  · intro x h
    obtain ⟨n, a, g, hn, g0, gs, gx⟩ := runE_inr h
    have hl := (List.getElem?_eq_some_iff.mp hn).1
    have go : ∀ i, i ≤ n → Inv i (g i) := fun i => by
      induction i with
      | zero => intro _; rw [g0]; exact h0
      | succ i ih =>
        intro hi
        exact hs i l[i] _ _ (List.getElem?_eq_getElem (by omega)) (ih (by omega)) (gs i l[i] (by omega) (List.getElem?_eq_getElem (by omega)))
    exact ⟨n, a, g n, hn, go n (Nat.le_refl _), gx⟩
theorem fits_len {marks ds more : List Int} {mark : Int} {ts : List (Int × Int)} (h : fitsM ts marks ds mark = .inl more) : more.length ≤ ds.length + ts.length := by
  refine (runE_inv (f := fitF marks mark) (l := ts) (s := ds) (fun i f => f.length ≤ ds.length + i) (Nat.le_refl _) fun i a s s' _ h1 h2 => ?_).1 more h
  unfold fitF at h2
  split at h2
  · split at h2
    · cases h2
    · injection h2 with h2; subst h2; rw [List.length_append, List.length_singleton]; omega
  · injection h2 with h2; subst h2; omega
def lenB (first : Bool) (m : Int) (n : Nat) : Nat := if first then 1 else m.toNat ^ n
theorem srF_inl {ts : List (Int × Int)} {first : Bool} {marks ds : List Int} {rec : List Int → List Int → List (List Int)} {B : Nat} (hr : ∀ r d, (rec r d).length ≤ B) {found found' : List (List Int)} {mark : Int} (h : srF ts first marks ds rec found mark = .inl found') :
    found'.length ≤ found.length + B ∧ (first = true → found = [] → found' = []) := by
  unfold srF at h
  split at h
  · injection h with h; subst h; exact ⟨by omega, fun _ z => z⟩
  · split at h
    · injection h with h; subst h; exact ⟨by omega, fun _ z => z⟩
    · rename_i more _
      split at h
      · cases h
      · rename_i hc
        injection h with h; subst h
        refine ⟨by rw [List.length_append]; have := hr (marks ++ [mark]) more; omega, fun z1 z2 => ?_⟩
        cases q : found ++ rec (marks ++ [mark]) more with
        | nil => rfl
        | cons a b => exact absurd ⟨z1, by rw [q]; simp⟩ hc
theorem srF_inr {ts : List (Int × Int)} {first : Bool} {marks ds : List Int} {rec : List Int → List Int → List (List Int)} {B : Nat} (hr : ∀ r d, (rec r d).length ≤ B) {found x : List (List Int)} {mark : Int} (h : srF ts first marks ds rec found mark = .inr x) : x.length ≤ found.length + B ∧ first = true := by
  unfold srF at h
  split at h
  · cases h
  · split at h
    · cases h
    · rename_i more _
      split at h
      · rename_i hc
        injection h with h; subst h
        exact ⟨by rw [List.length_append]; have := hr (marks ++ [mark]) more; omega, hc.1⟩
      · cases h
theorem srch_len {m : Int} {ts : List (Int × Int)} {first : Bool} : ∀ (n : Nat) (marks ds : List Int), (srch m ts first n marks ds).length ≤ lenB first m n
  | 0, marks, ds => by unfold srch lenB; split <;> simp
  | n + 1, marks, ds => by
    have ih := srch_len (m := m) (ts := ts) (first := first) n
    unfold srch
    have q := runE_inv (f := srF ts first marks ds (srch m ts first n)) (l := rg m) (s := []) (fun i found => found.length ≤ i * lenB first m n ∧ (first = true → found = [])) ⟨by simp, fun _ => rfl⟩ (fun i a s s' _ h1 h2 => by
      have := srF_inl ih h2
      refine ⟨?_, fun z => this.2 z (h1.2 z)⟩
      rw [Nat.succ_mul]; omega)
    cases e : runE (srF ts first marks ds (srch m ts first n)) (rg m) [] with
    | inl r =>
      have := q.1 r e
      rw [rg_len] at this
      show r.length ≤ _
      unfold lenB at this ⊢
      cases first with
      | true => rw [this.2 rfl]; simp
      | false =>
        have := this.1
        simp only [Bool.false_eq_true, if_false] at this ⊢
        rw [Nat.pow_succ, Nat.mul_comm]; exact this
    | inr x =>
      obtain ⟨i, a, s, _, h1, h2⟩ := q.2 x e
      have := srF_inr ih h2
      show x.length ≤ _
      have h3 := h1.2 this.2
      rw [h3] at this
      have e := this.2
      have l := this.1
      unfold lenB at l ⊢
      rw [e] at l ⊢
      simpa using l
theorem inD_nil {m : Int} {ts : List (Int × Int)} (hb : Bd m ts) : inD ts [] = [] := by
  unfold inD
  rw [List.filter_eq_nil_iff.mpr fun t ht => by
    have := hb t ht
    simp only [List.length_nil, decide_eq_true_eq]; omega]
  rfl
end Mt
namespace Mt
open Fw
theorem rows_ok {m : Int} {ts : List (Int × Int)} (hb : Bd m ts) {n : Nat} {r : List Int} (h : r ∈ rowsM m ts n) : RowOk m ts r ∧ r.length = n := by
  rw [← goOn_nil] at h
  have := goOn_ok n [] (rowOk_nil hb) r h
  rw [List.length_nil, Nat.zero_add] at this
  exact this
theorem rows_len {m : Int} {ts : List (Int × Int)} (n : Nat) : (rowsM m ts n).length ≤ m.toNat ^ n := by
  rw [← goOn_nil]
  exact goOn_len n []
theorem flat_take {α β : Type} (f : α → List β) (l : List α) (j : Nat) : ((l.take j).flatMap f).length ≤ (l.flatMap f).length := by
  have e : l.flatMap f = (l.take j).flatMap f ++ (l.drop j).flatMap f := by rw [← List.flatMap_append, List.take_append_drop]
  rw [e, List.length_append]; omega
theorem filt_take {α : Type} (f : α → Bool) (l : List α) (j : Nat) : ((l.take j).filter f).length ≤ (l.filter f).length := by
  have e : l.filter f = (l.take j).filter f ++ (l.drop j).filter f := by rw [← List.filter_append, List.take_append_drop]
  rw [e, List.length_append]; omega
theorem pow7 {m : Int} (h : m ≤ 7) {n : Nat} (hn : n ≤ 7) : m.toNat ^ n ≤ 823543 := by
  have h1 : m.toNat ≤ 7 := by omega
  exact Nat.le_trans (Nat.le_trans (Nat.pow_le_pow_left h1 _) (Nat.pow_le_pow_right (by decide) hn)) (by decide)
theorem take_succ_get {α : Type} {l : List α} {i : Nat} {x : α} (h : l[i]? = some x) : l.take (i + 1) = l.take i ++ [x] := by rw [List.take_add_one, h]; rfl
end Mt

/-! Ma4: neighbours, the zigzag, in plain Lean. -/
namespace Mt
open Fw
def tiedB (p : Int) (t : Int × Int) : Bool := [t.1, t.2].contains p
def besM (ts : List (Int × Int)) (p : Int) : List Int := (ts.filter (tiedB p)).map fun t => t.1 + t.2 - p
def innM (m : Int) (ts : List (Int × Int)) : List Int := (rg m).filter fun p => decide (1 < ((besM ts p).length : Int))
def endM (m : Int) (ts : List (Int × Int)) : List Int := (innM m ts).filter fun p => decide ((((besM ts p).filter (innM m ts).contains).length : Int) < 2)
def zz0 (m : Int) (ts : List (Int × Int)) : Int := (endM m ts ++ [0]).getD 0 0
theorem tiedB_iff {p : Int} {t : Int × Int} : tiedB p t = true ↔ p = t.1 ∨ p = t.2 := by
  unfold tiedB
  rw [List.contains_iff_mem, List.mem_cons, List.mem_singleton]
theorem mem_bes {ts : List (Int × Int)} {p q : Int} : q ∈ besM ts p ↔ (p, q) ∈ ts ∨ (q, p) ∈ ts := by
  unfold besM
  rw [List.mem_map]
  constructor
  · rintro ⟨t, ht, rfl⟩
    obtain ⟨h1, h2⟩ := List.mem_filter.mp ht
    rcases tiedB_iff.mp h2 with e | e
    · left; rw [show t = (p, t.1 + t.2 - p) from Prod.ext e.symm (by simp only; omega)] at h1; exact h1
    · right; rw [show t = (t.1 + t.2 - p, p) from Prod.ext (by simp only; omega) e.symm] at h1; exact h1
  · rintro (h | h)
    · exact ⟨(p, q), List.mem_filter.mpr ⟨h, tiedB_iff.mpr (.inl rfl)⟩, by simp only; omega⟩
    · exact ⟨(q, p), List.mem_filter.mpr ⟨h, tiedB_iff.mpr (.inr rfl)⟩, by simp only; omega⟩
theorem bes_bd {m : Int} {ts : List (Int × Int)} (hb : Bd m ts) {p q : Int} (h : q ∈ besM ts p) : 0 ≤ q ∧ q < m ∧ 0 ≤ p ∧ p < m ∧ p ≠ q := by
  rcases mem_bes.mp h with h | h
  · have := hb _ h; simp only at this; omega
  · have := hb _ h; simp only at this; omega
theorem bes_nd {m : Int} {ts : List (Int × Int)} (hb : Bd m ts) (hn : ts.Nodup) (p : Int) : (besM ts p).Nodup := by
  unfold besM
  refine List.pairwise_map.mpr (List.Pairwise.imp_of_mem (fun {a b} ha hb' q e => q ?_) (hn.filter _))
  obtain ⟨a1, a2⟩ := List.mem_filter.mp ha
  obtain ⟨b1, b2⟩ := List.mem_filter.mp hb'
  have ba := hb a a1
  have bb := hb b b1
  rcases tiedB_iff.mp a2 with x | x <;> rcases tiedB_iff.mp b2 with y | y
  · exact Prod.ext (by omega) (by omega)
  · exfalso; omega
  · exfalso; omega
  · exact Prod.ext (by omega) (by omega)
theorem bes_len {ts : List (Int × Int)} {p : Int} : (besM ts p).length ≤ ts.length := by unfold besM; rw [List.length_map]; exact List.length_filter_le _ _
theorem mem_inn {m : Int} {ts : List (Int × Int)} {p : Int} : p ∈ innM m ts ↔ 0 ≤ p ∧ p < m ∧ 1 < (besM ts p).length := by
  unfold innM
  rw [List.mem_filter, mem_rg, decide_eq_true_iff]
  omega
theorem inn_len {m : Int} {ts : List (Int × Int)} : (innM m ts).length ≤ m.toNat := by unfold innM; have := List.length_filter_le (fun p => decide (1 < ((besM ts p).length : Int))) (rg m); rw [rg_len] at this; exact this
theorem zz0_bd {m : Int} {ts : List (Int × Int)} (hm : 1 ≤ m) : 0 ≤ zz0 m ts ∧ zz0 m ts < m := by
  unfold zz0
  cases h : endM m ts with
  | nil => exact ⟨Int.le_refl 0, by show (0 : Int) < m; omega⟩
  | cons a l =>
    have ha : a ∈ endM m ts := by rw [h]; exact List.mem_cons_self
    unfold endM at ha
    have := mem_inn.mp (List.mem_filter.mp ha).1
    show 0 ≤ a ∧ a < m
    omega
/-! ### the zigzag -/
structure Zs where
  marks : List Int
  low : Int
  high : Int
  turn : Int
  here : Option Int
def setI (l : List Int) (i v : Int) : List Int := l.set i.toNat v
theorem setI_len (l : List Int) (i v : Int) : (setI l i v).length = l.length := List.length_set
def zIn (inner : List Int) (s : Zs) (one : Int) : Zs := ⟨setI s.marks one (if s.turn = 0 then s.high else s.low), s.low + (if s.turn = 1 then 1 else 0), s.high - (if s.turn = 0 then 1 else 0), s.turn, if inner.contains one then some one else s.here⟩
def zL0 (ts : List (Int × Int)) (marks : List Int) (p : Int) : List Int := (besM ts p).filter fun q => decide (iAt marks q < 0)
def zLeft (ts : List (Int × Int)) (inner marks : List Int) (p : Int) : List Int := ((zL0 ts marks p).filter fun q => !inner.contains q) ++ (zL0 ts marks p).filter fun q => inner.contains q
def zStep (ts : List (Int × Int)) (inner : List Int) (s : Zs) : Zs := match s.here with
  | none => s
  | some p =>
    let s' := (zLeft ts inner s.marks p).foldl (zIn inner) { s with here := none }
    { s' with turn := 1 - s'.turn }
def zStart (m : Int) (ts : List (Int × Int)) : Zs := ⟨setI (List.replicate m.toNat (-1)) (zz0 m ts) 0, 1, m - 1, 0, some (zz0 m ts)⟩
def zIter (m : Int) (ts : List (Int × Int)) : Nat → Zs
  | 0 => zStart m ts
  | n + 1 => zStep ts (innM m ts) (zIter m ts n)
def negN (l : List Int) : Nat := (l.filter fun x => decide (x < 0)).length
theorem negN_set : ∀ (l : List Int) (i : Nat) (v : Int), i < l.length → l.getD i 0 < 0 → 0 ≤ v → negN (l.set i v) + 1 = negN l
  | [], i, v, h, _, _ => by simp at h
  | x :: l, 0, v, _, h, hv => by
    have h : x < 0 := h
    unfold negN
    rw [List.set_cons_zero, List.filter_cons, List.filter_cons, if_neg (by simp only [decide_eq_true_eq]; omega), if_pos (by simp only [decide_eq_true_eq]; exact h), List.length_cons]
  | x :: l, i + 1, v, hl, h, hv => by
    have ih := negN_set l i v (by simpa using hl) h hv
    unfold negN at ih ⊢
    rw [List.set_cons_succ, List.filter_cons, List.filter_cons]
    split
    · rw [List.length_cons, List.length_cons]; omega
    · exact ih
theorem negN_setI {l : List Int} {i v : Int} (h0 : 0 ≤ i) (hl : i < l.length) (h : iAt l i < 0) (hv : 0 ≤ v) : negN (setI l i v) + 1 = negN l := negN_set l i.toNat v (by omega) h hv
theorem iAt_setI_ne {l : List Int} {i j v : Int} (h0 : 0 ≤ i) (h1 : 0 ≤ j) (h : i ≠ j) : iAt (setI l i v) j = iAt l j := by
  unfold iAt setI
  rw [List.getD_eq_getElem?_getD, List.getD_eq_getElem?_getD, List.getElem?_set_ne (by omega)]
theorem iAt_setI_eq {l : List Int} {i v : Int} (h0 : 0 ≤ i) (h : i < l.length) : iAt (setI l i v) i = v := by
  unfold iAt setI
  rw [List.getD_eq_getElem?_getD, List.getElem?_set_self (by omega)]; rfl
/-- what stays true -/
structure ZInv (m : Int) (s : Zs) : Prop where
  len : s.marks.length = m.toNat
  turn : s.turn = 0 ∨ s.turn = 1
  low : 1 ≤ s.low
  high : s.high = (negN s.marks : Int) + (s.low - 1)
  here : ∀ p, s.here = some p → 0 ≤ p ∧ p < m
/-- what is left to mark -/
def ZTo (m : Int) (marks l : List Int) : Prop := l.Nodup ∧ ∀ q ∈ l, 0 ≤ q ∧ q < m ∧ iAt marks q < 0
theorem negN_pos : ∀ {l : List Int} {i : Nat}, l.getD i 0 < 0 → 1 ≤ negN l
  | [], i, h => by simp at h
  | x :: l, 0, h => by
    have h : x < 0 := h
    unfold negN
    rw [List.filter_cons, if_pos (by simp only [decide_eq_true_eq]; exact h), List.length_cons]; omega
  | x :: l, i + 1, h => by
    have := negN_pos (l := l) (i := i) h
    unfold negN at this ⊢
    rw [List.filter_cons]
    split
    · rw [List.length_cons]; omega
    · exact this
theorem zIn_inv {m : Int} {inner : List Int} {s : Zs} {one : Int} {l : List Int} (h : ZInv m s) (t : ZTo m s.marks (one :: l)) : ZInv m (zIn inner s one) ∧ ZTo m (zIn inner s one).marks l ∧ negN (zIn inner s one).marks + 1 = negN s.marks := by
  obtain ⟨n1, n2⟩ := t
  obtain ⟨o0, o1, o2⟩ := n2 one List.mem_cons_self
  have hl := h.len
  have np := negN_pos (l := s.marks) (i := one.toNat) o2
  have hv : 0 ≤ (if s.turn = 0 then s.high else s.low) := by
    have := h.high
    have := h.low
    split <;> omega
  have e : negN (zIn inner s one).marks + 1 = negN s.marks := negN_setI o0 (by omega) o2 hv
  refine ⟨⟨by show (setI _ _ _).length = _; rw [setI_len]; exact hl, h.turn, ?_, ?_, fun p hp => ?_⟩, ⟨(List.nodup_cons.mp n1).2, fun q hq => ?_⟩, e⟩
  · show 1 ≤ s.low + (if s.turn = 1 then 1 else 0)
    have := h.low
    split <;> omega
  · show s.high - (if s.turn = 0 then 1 else 0) = (negN (zIn inner s one).marks : Int) + (s.low + (if s.turn = 1 then 1 else 0) - 1)
    have := h.high
    rcases h.turn with c | c
    · rw [c, if_pos rfl, if_neg (by decide)]; omega
    · rw [c, if_neg (by decide), if_pos rfl]; omega
  · have hp : (if inner.contains one then some one else s.here) = some p := hp
    split at hp
    · injection hp with hp; subst hp; exact ⟨o0, o1⟩
    · exact h.here p hp
  · obtain ⟨q0, q1, q2⟩ := n2 q (List.mem_cons_of_mem _ hq)
    refine ⟨q0, q1, ?_⟩
    show iAt (setI _ _ _) q < 0
    rw [iAt_setI_ne o0 q0 (fun e => (List.nodup_cons.mp n1).1 (e ▸ hq))]
    exact q2
theorem zFold_inv {m : Int} {inner : List Int} : ∀ {l : List Int} {s : Zs}, ZInv m s → ZTo m s.marks l → ZInv m (l.foldl (zIn inner) s) ∧ negN (l.foldl (zIn inner) s).marks + l.length = negN s.marks
  | [], s, h, _ => ⟨h, rfl⟩
  | one :: l, s, h, t => by
    obtain ⟨h1, t1, e1⟩ := zIn_inv (inner := inner) h t
    obtain ⟨h2, e2⟩ := zFold_inv h1 t1
    rw [List.foldl_cons]
    exact ⟨h2, by rw [List.length_cons]; omega⟩
theorem zLeft_to {m : Int} {ts : List (Int × Int)} (hb : Bd m ts) (hn : ts.Nodup) (inner marks : List Int) (p : Int) : ZTo m marks (zLeft ts inner marks p) := by
  have nd : (zL0 ts marks p).Nodup := (bes_nd hb hn p).filter _
  refine ⟨List.nodup_append.mpr ⟨nd.filter _, nd.filter _, fun a ha b hb' e => ?_⟩, fun q hq => ?_⟩
  · subst e
    have h1 := (List.mem_filter.mp ha).2
    have h2 := (List.mem_filter.mp hb').2
    rw [h2] at h1; cases h1
  · have hq : q ∈ zL0 ts marks p := by
      rcases List.mem_append.mp hq with h | h
      · exact (List.mem_filter.mp h).1
      · exact (List.mem_filter.mp h).1
    obtain ⟨q1, q2⟩ := List.mem_filter.mp hq
    have := bes_bd hb q1
    exact ⟨this.1, this.2.1, of_decide_eq_true q2⟩
theorem zLeft_len {ts : List (Int × Int)} {inner marks : List Int} {p : Int} : (zLeft ts inner marks p).length ≤ 2 * ts.length := by
  unfold zLeft zL0
  rw [List.length_append]
  have h1 := List.length_filter_le (fun q => decide (iAt marks q < 0)) (besM ts p)
  have h2 := bes_len (ts := ts) (p := p)
  have h3 := List.length_filter_le (fun q => !inner.contains q) ((besM ts p).filter fun q => decide (iAt marks q < 0))
  have h4 := List.length_filter_le (fun q => inner.contains q) ((besM ts p).filter fun q => decide (iAt marks q < 0))
  omega
theorem zFold_none {inner : List Int} {s : Zs} {l : List Int} (h : (l.foldl (zIn inner) s).here ≠ none) (hs : s.here = none) : l ≠ [] := by
  intro e; subst e; exact h hs
theorem zStep_inv {m : Int} {ts : List (Int × Int)} (hb : Bd m ts) (hn : ts.Nodup) {inner : List Int} {s : Zs} (h : ZInv m s) : ZInv m (zStep ts inner s) ∧ (s.here ≠ none → (zStep ts inner s).here ≠ none → negN (zStep ts inner s).marks < negN s.marks) := by
  unfold zStep
  cases q : s.here with
  | none => exact ⟨h, fun z => absurd rfl z⟩
  | some p =>
    have h0 : ZInv m { s with here := none } := ⟨h.len, h.turn, h.low, h.high, fun _ z => by cases z⟩
    obtain ⟨h1, e1⟩ := zFold_inv (inner := inner) h0 (zLeft_to hb hn inner s.marks p)
    refine ⟨⟨h1.len, ?_, h1.low, h1.high, h1.here⟩, fun _ z => ?_⟩
    · show 1 - _ = 0 ∨ 1 - _ = 1
      rcases h1.turn with c | c <;> rw [c]
      · exact .inr rfl
      · exact .inl rfl
    · have := zFold_none z rfl
      have hp : 0 < (zLeft ts inner s.marks p).length := List.length_pos_iff.mpr this
      show negN (List.foldl (zIn inner) { s with here := none } (zLeft ts inner s.marks p)).marks < negN s.marks
      have e1 : negN (List.foldl (zIn inner) { s with here := none } (zLeft ts inner s.marks p)).marks + (zLeft ts inner s.marks p).length = negN s.marks := e1
      omega
theorem negN_rep (n : Nat) : negN (List.replicate n (-1)) = n := by
  unfold negN
  rw [List.filter_eq_self.mpr fun x hx => by rw [List.eq_of_mem_replicate hx]; rfl, List.length_replicate]
theorem zStart_inv {m : Int} {ts : List (Int × Int)} (hm : 1 ≤ m) : ZInv m (zStart m ts) := by
  have h0 := zz0_bd (ts := ts) hm
  have hr : iAt (List.replicate m.toNat (-1)) (zz0 m ts) < 0 := by
    have := iAt_mem (l := List.replicate m.toNat (-1)) (i := zz0 m ts) (by rw [List.length_replicate]; omega)
    rw [List.eq_of_mem_replicate this]; decide
  have e := negN_setI (l := List.replicate m.toNat (-1)) (i := zz0 m ts) (v := 0) h0.1 (by rw [List.length_replicate]; omega) hr (Int.le_refl 0)
  rw [negN_rep] at e
  refine ⟨by show (setI _ _ _).length = _; rw [setI_len, List.length_replicate], .inl rfl, Int.le_refl _, ?_, fun p hp => ?_⟩
  · show m - 1 = (negN (setI _ _ _) : Int) + (1 - 1)
    omega
  · have hp : some (zz0 m ts) = some p := hp
    injection hp with hp; subst hp; exact h0
theorem zIter_inv {m : Int} {ts : List (Int × Int)} (hm : 1 ≤ m) (hb : Bd m ts) (hn : ts.Nodup) : ∀ n, ZInv m (zIter m ts n)
  | 0 => zStart_inv hm
  | n + 1 => (zStep_inv hb hn (zIter_inv hm hb hn n)).1
theorem zz_ends {m : Int} {ts : List (Int × Int)} (hm : 1 ≤ m) (hb : Bd m ts) (hn : ts.Nodup) : ∃ n, (∀ i, i < n → (zIter m ts i).here ≠ none) ∧ (zIter m ts n).here = none := by
  have go : ∀ k n : Nat, negN (zIter m ts n).marks < k → (∀ i, i < n → (zIter m ts i).here ≠ none) → ∃ n, (∀ i, i < n → (zIter m ts i).here ≠ none) ∧ (zIter m ts n).here = none := fun k => by
    induction k with
    | zero => intro n h; omega
    | succ k ih =>
      intro n h hi
      by_cases c : (zIter m ts n).here = none
      · exact ⟨n, hi, c⟩
      · by_cases c2 : (zIter m ts (n + 1)).here = none
        · exact ⟨n + 1, fun i hi' => by
            by_cases e : i = n
            · rw [e]; exact c
            · exact hi i (by omega), c2⟩
        · refine ih (n + 1) ?_ fun i hi' => ?_
          · have : negN (zIter m ts (n + 1)).marks < negN (zIter m ts n).marks := (zStep_inv hb hn (zIter_inv hm hb hn n)).2 c c2
            omega
          · by_cases e : i = n
            · rw [e]; exact c
            · exact hi i (by omega)
  exact go (negN (zIter m ts 0).marks + 1) 0 (by omega) fun i h => by omega
open Classical in
noncomputable def zzN (m : Int) (ts : List (Int × Int)) : Nat := if h : ∃ n, (∀ i, i < n → (zIter m ts i).here ≠ none) ∧ (zIter m ts n).here = none then h.choose else 0
noncomputable def zzM (m : Int) (ts : List (Int × Int)) : List Int := (zIter m ts (zzN m ts)).marks
theorem zzN_spec {m : Int} {ts : List (Int × Int)} (hm : 1 ≤ m) (hb : Bd m ts) (hn : ts.Nodup) : (∀ i, i < zzN m ts → (zIter m ts i).here ≠ none) ∧ (zIter m ts (zzN m ts)).here = none := by
  unfold zzN
  rw [dif_pos (zz_ends hm hb hn)]
  exact (zz_ends hm hb hn).choose_spec
theorem zzM_len {m : Int} {ts : List (Int × Int)} (hm : 1 ≤ m) (hb : Bd m ts) (hn : ts.Nodup) : (zzM m ts).length = m.toNat := (zIter_inv hm hb hn _).len
end Mt

/-! Ma5: the zigzag on a comb is good and has a bound. -/
namespace Mt
open Fw
/-! ### how a tree came to be -/
structure Gen (m : Int) (ts : List (Int × Int)) : Prop where
  ex : ∃ (names : List Int) (f : Int → Int), names.Perm (rg m) ∧ (∀ k, 1 ≤ k → k < m → 0 ≤ f k ∧ f k < k) ∧ ts = sortP (tiesOf names f (m.toNat - 1))
theorem tree_gen (ns : List Int) {b m : Int} (hm : 0 < m) : Gen (treeN ns b m) (sortP (treeRaw ns b m)) := by
  have h1 := treeN_pos (ns := ns) (base := b) hm
  refine ⟨treeNames ns b m, _, ?_, fun k k1 k2 => elder_bd k1, rfl⟩
  unfold treeNames
  have := names_perm (cellAt ns (b + 1)) (treeN ns b m).toNat
  rw [show ((treeN ns b m).toNat : Int) = treeN ns b m by omega] at this
  exact this
theorem comb_gen (ns : List Int) {b m : Int} (hm : 0 < m) : Gen (treeN ns b m) (sortP (combRaw ns b m)) := by
  have h1 := treeN_pos (ns := ns) (base := b) hm
  refine ⟨treeNames ns b m, _, ?_, fun k k1 k2 => ?_, rfl⟩
  · unfold treeNames
    have := names_perm (cellAt ns (b + 1)) (treeN ns b m).toNat
    rw [show ((treeN ns b m).toNat : Int) = treeN ns b m by omega] at this
    exact this
  · have := here_bd (cellAt ns (b + 2)) (k - 1).toNat
    omega
/-- the places by their numbers, and who is beside whom -/
theorem Gen.nb {m : Int} {ts : List (Int × Int)} (g : Gen m ts) (hm : 1 ≤ m) : ∃ (names : List Int) (f : Int → Int), (∀ p, 0 ≤ p → p < m → ∃ k, 0 ≤ k ∧ k < m ∧ iAt names k = p) ∧ (∀ k j, 0 ≤ k → k < m → 0 ≤ j → j < m → iAt names k = iAt names j → k = j) ∧ (∀ k, 0 ≤ k → k < m → 0 ≤ iAt names k ∧ iAt names k < m) ∧ (∀ k, 1 ≤ k → k < m → 0 ≤ f k ∧ f k < k) ∧
    (∀ k, 1 ≤ k → k < m → iAt names (f k) ∈ besM ts (iAt names k) ∧ iAt names k ∈ besM ts (iAt names (f k))) ∧ (∀ k j, 0 ≤ k → k < m → 0 ≤ j → j < m → iAt names j ∈ besM ts (iAt names k) → (1 ≤ k ∧ j = f k) ∨ (1 ≤ j ∧ k = f j)) := by
  obtain ⟨names, f, hp, hf, e⟩ := g.ex
  have hl : names.length = m.toNat := by rw [hp.length_eq, rg_len]
  have hn : names.Nodup := hp.nodup_iff.mpr (rgI_nodup _ _)
  have inj : ∀ k j, 0 ≤ k → k < m → 0 ≤ j → j < m → iAt names k = iAt names j → k = j := fun k j a b c d e => iAt_inj hn a (by omega) c (by omega) e
  have mem : ∀ t, t ∈ ts ↔ ∃ k : Int, 1 ≤ k ∧ k < m ∧ t = tieOf names k (f k) := fun t => by
    rw [e, (sortP_perm _).mem_iff, mem_tiesOf]
    exact ⟨fun ⟨k, a, b, c⟩ => ⟨k, a, by omega, c⟩, fun ⟨k, a, b, c⟩ => ⟨k, a, by omega, c⟩⟩
  refine ⟨names, f, fun p a b => ?_, inj, fun k a b => mem_rg.mp (hp.mem_iff.mp (iAt_mem (by omega))), hf, fun k a b => ?_, fun k j a b c d h => ?_⟩
  · obtain ⟨k, k1, k2, k3⟩ := iAt_surj (hp.mem_iff.mpr (mem_rg.mpr ⟨a, b⟩))
    exact ⟨k, k1, by omega, k3⟩
  · have ht : tieOf names k (f k) ∈ ts := (mem _).mpr ⟨k, a, b, rfl⟩
    rw [tieOf_iAt] at ht
    rw [mem_bes, mem_bes]
    by_cases z : iAt names k ≤ iAt names (f k)
    · rw [Int.min_eq_left z, Int.max_eq_right z] at ht; exact ⟨.inl ht, .inr ht⟩
    · rw [Int.min_eq_right (by omega), Int.max_eq_left (by omega)] at ht; exact ⟨.inr ht, .inl ht⟩
  · have go : ∀ t ∈ ts, (t = (iAt names k, iAt names j) ∨ t = (iAt names j, iAt names k)) → (1 ≤ k ∧ j = f k) ∨ (1 ≤ j ∧ k = f j) := fun t ht hh => by
      obtain ⟨i, i1, i2, rfl⟩ := (mem t).mp ht
      rw [tieOf_iAt] at hh
      have fi := hf i i1 i2
      have key : (iAt names i = iAt names k ∧ iAt names (f i) = iAt names j) ∨ (iAt names i = iAt names j ∧ iAt names (f i) = iAt names k) := by
        rcases hh with hh | hh
        · have e1 := congrArg Prod.fst hh
          have e2 := congrArg Prod.snd hh
          simp only at e1 e2
          omega
        · have e1 := congrArg Prod.fst hh
          have e2 := congrArg Prod.snd hh
          simp only at e1 e2
          omega
      rcases key with ⟨e1, e2⟩ | ⟨e1, e2⟩
      · have a1 := inj _ _ (by omega) i2 a b e1
        have a2 := inj _ _ (by omega) (by omega) c d e2
        subst a1
        exact .inl ⟨i1, a2.symm⟩
      · have a1 := inj _ _ (by omega) i2 c d e1
        have a2 := inj _ _ (by omega) (by omega) a b e2
        subst a1
        exact .inr ⟨i1, a2.symm⟩
    rcases mem_bes.mp h with h | h
    · exact go _ h (.inl rfl)
    · exact go _ h (.inr rfl)
/-- what is closed and holds one holds all -/
theorem Gen.all {m : Int} {ts : List (Int × Int)} (g : Gen m ts) (hm : 1 ≤ m) (S : Int → Prop) {p : Int} (p0 : 0 ≤ p) (p1 : p < m) (hp : S p) (hc : ∀ q, 0 ≤ q → q < m → S q → ∀ r ∈ besM ts q, S r) : ∀ q, 0 ≤ q → q < m → S q := by
  obtain ⟨names, f, sj, inj, bd, hf, hn, _⟩ := g.nb hm
  have down : ∀ n : Nat, ∀ k, 0 ≤ k → k < m → k.toNat ≤ n → S (iAt names k) → S (iAt names 0) := fun n => by
    induction n with
    | zero => intro k a b c h; rw [show k = 0 by omega] at h; exact h
    | succ n ih =>
      intro k a b c h
      by_cases z : k = 0
      · rw [z] at h; exact h
      · have fk := hf k (by omega) b
        exact ih (f k) fk.1 (by omega) (by omega) (hc _ (bd k a b).1 (bd k a b).2 h _ (hn k (by omega) b).1)
  have up : ∀ n : Nat, ∀ k, 0 ≤ k → k < m → k.toNat ≤ n → S (iAt names 0) → S (iAt names k) := fun n => by
    induction n with
    | zero => intro k a b c h; rw [show k = 0 by omega]; exact h
    | succ n ih =>
      intro k a b c h
      by_cases z : k = 0
      · rw [z]; exact h
      · have fk := hf k (by omega) b
        exact hc _ (bd (f k) fk.1 (by omega)).1 (bd (f k) fk.1 (by omega)).2 (ih (f k) fk.1 (by omega) (by omega) h) _ (hn k (by omega) b).2
  obtain ⟨k, a, b, e⟩ := sj p p0 p1
  have h0 := down _ k a b (Nat.le_refl _) (by rw [e]; exact hp)
  intro q q0 q1
  obtain ⟨j, c, d, e2⟩ := sj q q0 q1
  rw [← e2]
  exact up _ j c d (Nat.le_refl _) h0
/-- inner places are none, or have an end -/
theorem Gen.ends {m : Int} {ts : List (Int × Int)} (g : Gen m ts) (hm : 1 ≤ m) (hb : Bd m ts) (hn : ts.Nodup) (h : innM m ts ≠ []) : endM m ts ≠ [] := by
  obtain ⟨names, f, sj, inj, bd, hf, hn2, only⟩ := g.nb hm
  -- the inner place of the greatest number
  have go : ∀ n : Nat, (∃ k, 0 ≤ k ∧ k < m ∧ m - k ≤ n ∧ iAt names k ∈ innM m ts) → ∃ k, 0 ≤ k ∧ k < m ∧ iAt names k ∈ innM m ts ∧ ∀ j, k < j → j < m → iAt names j ∉ innM m ts := fun n => by
    induction n with
    | zero => rintro ⟨k, a, b, c, _⟩; omega
    | succ n ih =>
      rintro ⟨k, a, b, c, d⟩
      by_cases z : ∃ j, k < j ∧ j < m ∧ iAt names j ∈ innM m ts
      · obtain ⟨j, j1, j2, j3⟩ := z
        exact ih ⟨j, by omega, j2, by omega, j3⟩
      · exact ⟨k, a, b, d, fun j j1 j2 j3 => z ⟨j, j1, j2, j3⟩⟩
  obtain ⟨p, hp⟩ := List.exists_mem_of_ne_nil _ h
  have hpi := mem_inn.mp hp
  obtain ⟨k0, a0, b0, e0⟩ := sj p hpi.1 hpi.2.1
  obtain ⟨k, a, b, c, d⟩ := go m.toNat ⟨k0, a0, b0, by omega, by rw [e0]; exact hp⟩
  intro z
  have hmem : iAt names k ∈ endM m ts := by
    unfold endM
    refine List.mem_filter.mpr ⟨c, decide_eq_true ?_⟩
    have hsub : ∀ x ∈ (besM ts (iAt names k)).filter (innM m ts).contains, x ∈ [iAt names (f k)] := fun x hx => by
      obtain ⟨x1, x2⟩ := List.mem_filter.mp hx
      rw [List.contains_iff_mem] at x2
      have xb := bes_bd hb x1
      obtain ⟨j, j0, j1, e⟩ := sj x xb.1 xb.2.1
      rw [← e] at x1 x2
      rcases only k j a b j0 j1 x1 with ⟨k1, rfl⟩ | ⟨k1, rfl⟩
      · exact List.mem_singleton.mpr e.symm
      · have := hf j k1 j1
        exact absurd x2 (d j (by omega) j1)
    have := sub_len ((bes_nd hb hn (iAt names k)).filter _) hsub
    rw [List.length_singleton] at this
    omega
  rw [z] at hmem; simp at hmem
/-! ### the comb's marks -/
/-- have inner places at most two inner ones beside them? -/
def combB (m : Int) (ts : List (Int × Int)) : Bool := (innM m ts).all fun p => decide ((((besM ts p).filter (innM m ts).contains).length : Int) ≤ 2)
def Mk (s : Zs) (q : Int) : Prop := 0 ≤ iAt s.marks q
/-- what holds while the places beside p are marked; ch: the places marked, each with the one it was marked from, the last first -/
structure ZF (m : Int) (ts : List (Int × Int)) (p : Int) (s : Zs) (ch : List (Int × Int)) : Prop where
  inv : ZInv m s
  hm : s.high < m
  pr : 0 ≤ p ∧ p < m
  pm : (s.turn = 0 ∧ iAt s.marks p = s.low - 1) ∨ (s.turn = 1 ∧ iAt s.marks p = s.high + 1)
  vals : ∀ q, 0 ≤ q → q < m → Mk s q → iAt s.marks q < s.low ∨ (s.high < iAt s.marks q ∧ iAt s.marks q < m)
  inj : ∀ q r, 0 ≤ q → q < m → 0 ≤ r → r < m → Mk s q → iAt s.marks q = iAt s.marks r → q = r
  chD : ch.map (fun e => ((iAt s.marks e.1 - iAt s.marks e.2).natAbs : Int)) = rgI ((negN s.marks : Int) + 1) m
  chT : ∀ e ∈ ch, (min e.1 e.2, max e.1 e.2) ∈ ts
  chM : ∀ e ∈ ch, (0 ≤ e.1 ∧ e.1 < m ∧ Mk s e.1) ∧ 0 ≤ e.2 ∧ e.2 < m ∧ Mk s e.2
  chB : ∀ e ∈ ch, (iAt s.marks e.1 < s.low ∧ s.high < iAt s.marks e.2) ∨ (iAt s.marks e.2 < s.low ∧ s.high < iAt s.marks e.1)
theorem rgI_cons {i j : Int} (h : i < j) : rgI i j = i :: rgI (i + 1) j := by
  unfold rgI
  rw [show (j - i).toNat = (j - (i + 1)).toNat + 1 by omega, List.range_succ_eq_map, List.map_cons, List.map_map]
  congr 1
  · omega
  · refine List.map_congr_left fun k _ => ?_
    show i + ((k + 1 : Nat) : Int) = i + 1 + (k : Int)
    omega
theorem ZF.step {m : Int} {ts : List (Int × Int)} {inner : List Int} {p : Int} {s : Zs} {ch : List (Int × Int)} (h : ZF m ts p s ch) {q : Int} {l : List Int} (hq : q ∈ besM ts p) (hb : Bd m ts) (t : ZTo m s.marks (q :: l)) : ZF m ts p (zIn inner s q) ((q, p) :: ch) := by
  obtain ⟨i1, _, i3⟩ := zIn_inv (inner := inner) h.inv t
  obtain ⟨q0, q1, q2⟩ := t.2 q List.mem_cons_self
  have hl := h.inv.len
  have np := negN_pos (l := s.marks) (i := q.toNat) q2
  have hlow := h.inv.low
  have hhigh := h.inv.high
  have pb := bes_bd hb hq
  have pmk : Mk s p := by unfold Mk; rcases h.pm with ⟨_, e⟩ | ⟨_, e⟩ <;> omega
  have em : (zIn inner s q).marks = setI s.marks q (if s.turn = 0 then s.high else s.low) := rfl
  have eo : ∀ r, 0 ≤ r → r ≠ q → iAt (zIn inner s q).marks r = iAt s.marks r := fun r r0 rn => by rw [em]; exact iAt_setI_ne q0 r0 (Ne.symm rn)
  have eq : iAt (zIn inner s q).marks q = (if s.turn = 0 then s.high else s.low) := by rw [em]; exact iAt_setI_eq q0 (by omega)
  have elow : (zIn inner s q).low = s.low + (if s.turn = 1 then 1 else 0) := rfl
  have ehigh : (zIn inner s q).high = s.high - (if s.turn = 0 then 1 else 0) := rfl
  have eturn : (zIn inner s q).turn = s.turn := rfl
  have nm : ∀ r, Mk s r → r ≠ q := fun r hr e => by subst e; unfold Mk at hr; omega
  have up : ∀ r, 0 ≤ r → Mk s r → iAt (zIn inner s q).marks r = iAt s.marks r := fun r r0 hr => eo r r0 (nm r hr)
  have hi := h.inv.high
  have negle : (negN s.marks : Int) ≤ m - 1 := by
    have := h.vals p pb.2.2.1 pb.2.2.2.1 pmk
    have hh := List.length_map (as := ch) (fun e => ((iAt s.marks e.1 - iAt s.marks e.2).natAbs : Int))
    have : negN s.marks + 1 ≤ s.marks.length := by
      have a1 := negN_setI (l := s.marks) (i := q) (v := 0) q0 (by omega) q2 (Int.le_refl 0)
      have hfl : negN s.marks ≤ s.marks.length := List.length_filter_le _ _
      by_cases z : negN s.marks = s.marks.length
      · exfalso
        have := List.length_filter_eq_length_iff.mp z (iAt s.marks p) (iAt_mem (by omega))
        have := of_decide_eq_true this
        unfold Mk at pmk; omega
      · omega
    omega
  have hhm := h.hm
  refine ⟨i1, by rw [ehigh]; split <;> omega, h.pr, ?_, fun r r0 r1 hr => ?_, fun r u r0 r1 u0 u1 hr e => ?_, ?_, fun e he => ?_, fun e he => ?_, fun e he => ?_⟩
  · rw [eturn, up p pb.2.2.1 pmk, elow, ehigh]
    rcases h.pm with ⟨e1, e2⟩ | ⟨e1, e2⟩
    · left; rw [e1, if_neg (by decide)]; exact ⟨rfl, by omega⟩
    · right; rw [e1, if_neg (by decide)]; exact ⟨rfl, by omega⟩
  · rw [elow, ehigh]
    by_cases z : r = q
    · subst z
      rw [eq]
      rcases h.inv.turn with c | c
      · rw [c, if_pos rfl, if_neg (by decide), if_pos rfl]; right; omega
      · rw [c, if_neg (by decide), if_pos rfl, if_neg (by decide)]; left; omega
    · rw [eo r r0 z]
      have hr' : Mk s r := by unfold Mk at hr ⊢; rw [eo r r0 z] at hr; exact hr
      rcases h.vals r r0 r1 hr' with v | v
      · left; split <;> omega
      · right; split <;> omega
  · by_cases zr : r = q
    · by_cases zu : u = q
      · rw [zr, zu]
      · exfalso
        subst zr
        rw [eq, eo u u0 zu] at e
        have hu : Mk s u := by
          unfold Mk
          rw [← e]
          split <;> omega
        rcases h.vals u u0 u1 hu with v | v
        · split at e <;> omega
        · split at e <;> omega
    · rw [eo r r0 zr] at e
      have hr' : Mk s r := by unfold Mk at hr ⊢; rw [eo r r0 zr] at hr; exact hr
      by_cases zu : u = q
      · exfalso
        subst zu
        rw [eq] at e
        rcases h.vals r r0 r1 hr' with v | v
        · split at e <;> omega
        · split at e <;> omega
      · rw [eo u u0 zu] at e
        exact h.inj r u r0 r1 u0 u1 hr' e
  · rw [List.map_cons]
    have e1 : ch.map (fun e => ((iAt (zIn inner s q).marks e.1 - iAt (zIn inner s q).marks e.2).natAbs : Int)) = ch.map (fun e => ((iAt s.marks e.1 - iAt s.marks e.2).natAbs : Int)) := List.map_congr_left fun e he => by
      obtain ⟨⟨a0, _, a2⟩, b0, _, b2⟩ := h.chM e he
      rw [up _ a0 a2, up _ b0 b2]
    rw [e1, h.chD]
    have e2 : ((negN (zIn inner s q).marks : Nat) : Int) + 1 = negN s.marks := by omega
    rw [e2, rgI_cons (show (negN s.marks : Int) < m by omega)]
    congr 1
    show ((iAt (zIn inner s q).marks q - iAt (zIn inner s q).marks p).natAbs : Int) = _
    rw [eq, up p pb.2.2.1 pmk]
    rcases h.pm with ⟨c, e⟩ | ⟨c, e⟩
    · rw [c, if_pos rfl, e]; omega
    · rw [c, if_neg (by decide), e]; omega
  · rcases List.mem_cons.mp he with rfl | he
    · rcases mem_bes.mp hq with z | z
      · have := hb _ z; simp only at this ⊢; rw [Int.min_eq_right (by omega), Int.max_eq_left (by omega)]; exact z
      · have := hb _ z; simp only at this ⊢; rw [Int.min_eq_left (by omega), Int.max_eq_right (by omega)]; exact z
    · exact h.chT e he
  · rcases List.mem_cons.mp he with rfl | he
    · refine ⟨⟨q0, q1, ?_⟩, pb.2.2.1, pb.2.2.2.1, ?_⟩
      · unfold Mk; rw [eq]; split <;> omega
      · unfold Mk; rw [up p pb.2.2.1 pmk]; exact pmk
    · obtain ⟨⟨a0, a1, a2⟩, b0, b1, b2⟩ := h.chM e he
      exact ⟨⟨a0, a1, by unfold Mk; rw [up _ a0 a2]; exact a2⟩, b0, b1, by unfold Mk; rw [up _ b0 b2]; exact b2⟩
  · rw [elow, ehigh]
    rcases List.mem_cons.mp he with rfl | he
    · show (iAt (zIn inner s q).marks q < _ ∧ _ < iAt (zIn inner s q).marks p) ∨ (iAt (zIn inner s q).marks p < _ ∧ _ < iAt (zIn inner s q).marks q)
      rw [eq, up p pb.2.2.1 pmk]
      rcases h.pm with ⟨c, e⟩ | ⟨c, e⟩
      · right; rw [c, if_pos rfl, if_neg (by decide), if_pos rfl, e]; omega
      · left; rw [c, if_neg (by decide), if_pos rfl, if_neg (by decide), e]; omega
    · obtain ⟨⟨a0, a1, a2⟩, b0, b1, b2⟩ := h.chM e he
      rw [up _ a0 a2, up _ b0 b2]
      rcases h.chB e he with v | v
      · left; refine ⟨?_, ?_⟩ <;> (split <;> omega)
      · right; refine ⟨?_, ?_⟩ <;> (split <;> omega)
theorem ZF.fold {m : Int} {ts : List (Int × Int)} {inner : List Int} {p : Int} (hb : Bd m ts) : ∀ {l : List Int} {s : Zs} {ch : List (Int × Int)}, ZF m ts p s ch → (∀ q ∈ l, q ∈ besM ts p) → ZTo m s.marks l → ∃ ch', ZF m ts p (l.foldl (zIn inner) s) ch'
  | [], s, ch, h, _, _ => ⟨ch, h⟩
  | q :: l, s, ch, h, hq, t => by
    have h1 := h.step (inner := inner) (hq q List.mem_cons_self) hb t
    obtain ⟨_, t1, _⟩ := zIn_inv (inner := inner) h.inv t
    rw [List.foldl_cons]
    exact ZF.fold hb h1 (fun r hr => hq r (List.mem_cons_of_mem _ hr)) t1
end Mt

/-! Ma6: the whole zigzag of a comb. -/
namespace Mt
open Fw
structure ZC (m : Int) (ts : List (Int × Int)) (s : Zs) (ch : List (Int × Int)) : Prop where
  inv : ZInv m s
  hm : s.high < m
  vals : ∀ q, 0 ≤ q → q < m → Mk s q → iAt s.marks q < s.low ∨ (s.high < iAt s.marks q ∧ iAt s.marks q < m)
  inj : ∀ q r, 0 ≤ q → q < m → 0 ≤ r → r < m → Mk s q → iAt s.marks q = iAt s.marks r → q = r
  chD : ch.map (fun e => ((iAt s.marks e.1 - iAt s.marks e.2).natAbs : Int)) = rgI ((negN s.marks : Int) + 1) m
  chT : ∀ e ∈ ch, (min e.1 e.2, max e.1 e.2) ∈ ts
  chM : ∀ e ∈ ch, (0 ≤ e.1 ∧ e.1 < m ∧ Mk s e.1) ∧ 0 ≤ e.2 ∧ e.2 < m ∧ Mk s e.2
  chB : ∀ e ∈ ch, (iAt s.marks e.1 < s.low ∧ s.high < iAt s.marks e.2) ∨ (iAt s.marks e.2 < s.low ∧ s.high < iAt s.marks e.1)
theorem ZC.zf {m : Int} {ts : List (Int × Int)} {p : Int} {s : Zs} {ch : List (Int × Int)} (h : ZC m ts s ch) (pr : 0 ≤ p ∧ p < m) (pm : (s.turn = 0 ∧ iAt s.marks p = s.low - 1) ∨ (s.turn = 1 ∧ iAt s.marks p = s.high + 1)) : ZF m ts p s ch := ⟨h.inv, h.hm, pr, pm, h.vals, h.inj, h.chD, h.chT, h.chM, h.chB⟩
theorem ZF.zc {m : Int} {ts : List (Int × Int)} {p : Int} {s : Zs} {ch : List (Int × Int)} (h : ZF m ts p s ch) : ZC m ts s ch := ⟨h.inv, h.hm, h.vals, h.inj, h.chD, h.chT, h.chM, h.chB⟩
theorem ZC.flip {m : Int} {ts : List (Int × Int)} {s : Zs} {ch : List (Int × Int)} {h' : Option Int} (h : ZC m ts s ch) (hh : ∀ p, h' = some p → 0 ≤ p ∧ p < m) : ZC m ts { s with turn := 1 - s.turn, here := h' } ch :=
  ⟨⟨h.inv.len, by show 1 - s.turn = 0 ∨ 1 - s.turn = 1; have := h.inv.turn; omega, h.inv.low, h.inv.high, hh⟩, h.hm, h.vals, h.inj, h.chD, h.chT, h.chM, h.chB⟩
/-! ### what a fold does -/
theorem fold_mk {m : Int} {inner : List Int} : ∀ {l : List Int} {s : Zs}, ZInv m s → ZTo m s.marks l → ∀ r, 0 ≤ r → (r ∉ l → iAt (l.foldl (zIn inner) s).marks r = iAt s.marks r) ∧ (r ∈ l → 0 ≤ iAt (l.foldl (zIn inner) s).marks r)
  | [], s, _, _, r, _ => ⟨fun _ => rfl, fun h => by simp at h⟩
  | q :: l, s, h, t, r, r0 => by
    obtain ⟨h1, t1, _⟩ := zIn_inv (inner := inner) h t
    obtain ⟨q0, q1, q2⟩ := t.2 q List.mem_cons_self
    have hl := h.len
    have ih := fold_mk (inner := inner) h1 t1 r r0
    rw [List.foldl_cons]
    refine ⟨fun hr => ?_, fun hr => ?_⟩
    · rw [ih.1 fun z => hr (List.mem_cons_of_mem _ z)]
      exact iAt_setI_ne q0 r0 (fun e => hr (by rw [e]; exact List.mem_cons_self))
    · by_cases e : r = q
      · subst e
        rw [ih.1 (List.nodup_cons.mp t.1).1]
        show 0 ≤ iAt (setI s.marks r (if s.turn = 0 then s.high else s.low)) r
        rw [iAt_setI_eq r0 (by omega)]
        have a := h.high
        have b := h.low
        have c := negN_pos (l := s.marks) (i := r.toNat) q2
        split <;> omega
      · exact ih.2 ((List.mem_cons.mp hr).resolve_left e)
theorem fold_turn {inner : List Int} : ∀ {l : List Int} {s : Zs}, (l.foldl (zIn inner) s).turn = s.turn
  | [], s => rfl
  | q :: l, s => by rw [List.foldl_cons, fold_turn]; rfl
theorem fold_out {inner : List Int} : ∀ {l : List Int} {s : Zs}, (∀ q ∈ l, inner.contains q = false) → (l.foldl (zIn inner) s).here = s.here
  | [], s, _ => rfl
  | q :: l, s, h => by
    rw [List.foldl_cons, fold_out fun r hr => h r (List.mem_cons_of_mem _ hr)]
    show (if inner.contains q then some q else s.here) = _
    rw [h q List.mem_cons_self]; rfl
/-! ### the loop -/
structure ZM (m : Int) (ts : List (Int × Int)) (s : Zs) : Prop where
  core : ∃ ch, ZC m ts s ch
  pm : ∀ p, s.here = some p → 0 ≤ p ∧ p < m ∧ Mk s p ∧ ((s.turn = 0 ∧ iAt s.marks p = s.low - 1) ∨ (s.turn = 1 ∧ iAt s.marks p = s.high + 1)) ∧ (innM m ts = [] ∨ p ∈ innM m ts) ∧
    ((besM ts p).filter fun q => (innM m ts).contains q && decide (iAt s.marks q < 0)).length ≤ 1
  cl : ∀ q, 0 ≤ q → q < m → Mk s q → s.here ≠ some q → ∀ r ∈ besM ts q, Mk s r
  some_ : ∃ q, 0 ≤ q ∧ q < m ∧ Mk s q
theorem ZM.step {m : Int} {ts : List (Int × Int)} (hb : Bd m ts) (hn : ts.Nodup) (hc : combB m ts = true) {s : Zs} (h : ZM m ts s) : ZM m ts (zStep ts (innM m ts) s) := by
  cases hh : s.here with
  | none =>
    have e : zStep ts (innM m ts) s = s := by unfold zStep; rw [hh]
    rw [e]; exact h
  | some p =>
    obtain ⟨ch, hC⟩ := h.core
    obtain ⟨p0, p1, pmk, ppm, pinn, pone⟩ := h.pm p hh
    have est : zStep ts (innM m ts) s = { (zLeft ts (innM m ts) s.marks p).foldl (zIn (innM m ts)) { s with here := none } with turn := 1 - ((zLeft ts (innM m ts) s.marks p).foldl (zIn (innM m ts)) { s with here := none }).turn } := by unfold zStep; rw [hh]
    rw [est]
    have lto := zLeft_to hb hn (innM m ts) s.marks p
    have i0 : ZInv m { s with here := none } := ⟨hC.inv.len, hC.inv.turn, hC.inv.low, hC.inv.high, fun _ z => by cases z⟩
    have z0 : ZF m ts p { s with here := none } ch := ⟨i0, hC.hm, ⟨p0, p1⟩, ppm, hC.vals, hC.inj, hC.chD, hC.chT, hC.chM, hC.chB⟩
    have lbes : ∀ q, q ∈ zLeft ts (innM m ts) s.marks p ↔ q ∈ besM ts p ∧ iAt s.marks q < 0 := fun q => by
      unfold zLeft zL0
      simp only [List.mem_append, List.mem_filter]
      constructor
      · rintro (⟨⟨a, b⟩, _⟩ | ⟨⟨a, b⟩, _⟩) <;> exact ⟨a, of_decide_eq_true b⟩
      · rintro ⟨a, b⟩
        cases z : (innM m ts).contains q with
        | true => exact .inr ⟨⟨a, decide_eq_true b⟩, rfl⟩
        | false => exact .inl ⟨⟨a, decide_eq_true b⟩, rfl⟩
    obtain ⟨ch', z1⟩ := z0.fold (inner := innM m ts) hb (fun q hq => ((lbes q).mp hq).1) lto
    have fm := fold_mk (inner := innM m ts) i0 lto
    have ft : ((zLeft ts (innM m ts) s.marks p).foldl (zIn (innM m ts)) { s with here := none }).turn = s.turn := fold_turn
    -- the inner ones left
    have hBeq : ((zL0 ts s.marks p).filter fun q => (innM m ts).contains q) = (besM ts p).filter fun q => (innM m ts).contains q && decide (iAt s.marks q < 0) := by
      unfold zL0
      rw [List.filter_filter]
    have hAout : ∀ q ∈ (zL0 ts s.marks p).filter (fun q => !(innM m ts).contains q), (innM m ts).contains q = false := fun q hq => by
      have := (List.mem_filter.mp hq).2
      cases z : (innM m ts).contains q with
      | false => rfl
      | true => rw [z] at this; cases this
    have hsplit : zLeft ts (innM m ts) s.marks p = ((zL0 ts s.marks p).filter fun q => !(innM m ts).contains q) ++ (besM ts p).filter fun q => (innM m ts).contains q && decide (iAt s.marks q < 0) := by
      unfold zLeft
      rw [hBeq]
    generalize hA : ((zL0 ts s.marks p).filter fun q => !(innM m ts).contains q) = A at hAout hsplit
    generalize hB : ((besM ts p).filter fun q => (innM m ts).contains q && decide (iAt s.marks q < 0)) = B at pone hsplit
    have hBin : ∀ q ∈ B, q ∈ innM m ts ∧ q ∈ besM ts p ∧ iAt s.marks q < 0 := fun q hq => by
      rw [← hB] at hq
      obtain ⟨a, b⟩ := List.mem_filter.mp hq
      obtain ⟨b1, b2⟩ := Bool.and_eq_true_iff.mp b
      exact ⟨List.contains_iff_mem.mp b1, a, of_decide_eq_true b2⟩
    have hBall : ∀ q, q ∈ innM m ts → q ∈ zLeft ts (innM m ts) s.marks p → q ∈ B := fun q hq hl => by
      rw [← hB]
      obtain ⟨a, b⟩ := (lbes q).mp hl
      exact List.mem_filter.mpr ⟨a, Bool.and_eq_true_iff.mpr ⟨List.contains_iff_mem.mpr hq, decide_eq_true b⟩⟩
    generalize hF : (zLeft ts (innM m ts) s.marks p).foldl (zIn (innM m ts)) { s with here := none } = F at z1 fm ft
    -- who is next
    have next : (B = [] ∧ F.here = none) ∨ ∃ z, B = [z] ∧ F.here = some z ∧ ((s.turn = 0 ∧ iAt F.marks z = F.high + 1) ∨ (s.turn = 1 ∧ iAt F.marks z = F.low - 1)) := by
      match B, pone, hsplit, hBin with
      | [], _, hs, _ =>
        left
        refine ⟨rfl, ?_⟩
        rw [← hF, hs, List.append_nil, fold_out hAout]
      | [z], _, hs, hi =>
        right
        have hz := hi z List.mem_cons_self
        refine ⟨z, rfl, ?_, ?_⟩
        · rw [← hF, hs, List.foldl_append]
          show (if (innM m ts).contains z then some z else _) = _
          rw [if_pos (List.contains_iff_mem.mpr hz.1)]
        · have zb := bes_bd hb hz.2.1
          have t2 : ZTo m s.marks (A ++ [z]) := by rw [← hs]; exact lto
          have tA : ZTo m s.marks A := ⟨(List.nodup_append.mp t2.1).1, fun q hq => t2.2 q (List.mem_append_left _ hq)⟩
          have iA := (zFold_inv (inner := innM m ts) i0 tA).1
          rw [← hF, hs, List.foldl_append]
          have ftA : (A.foldl (zIn (innM m ts)) { s with here := none }).turn = s.turn := fold_turn
          generalize A.foldl (zIn (innM m ts)) { s with here := none } = G at iA ftA
          show (s.turn = 0 ∧ iAt (setI G.marks z (if G.turn = 0 then G.high else G.low)) z = G.high - (if G.turn = 0 then 1 else 0) + 1) ∨ (s.turn = 1 ∧ iAt (setI G.marks z (if G.turn = 0 then G.high else G.low)) z = G.low + (if G.turn = 1 then 1 else 0) - 1)
          have := iA.len
          rw [iAt_setI_eq zb.1 (by omega), ftA]
          rcases hC.inv.turn with c | c
          · left; rw [c, if_pos rfl, if_pos rfl]; exact ⟨rfl, by omega⟩
          · right; rw [c, if_neg (by decide), if_pos rfl]; exact ⟨rfl, by omega⟩
      | _ :: _ :: _, h2, _, _ => simp at h2
    have mkF : ∀ q, 0 ≤ q → (Mk s q → Mk F q) := fun q q0 hq => by
      unfold Mk at hq ⊢
      by_cases c : q ∈ zLeft ts (innM m ts) s.marks p
      · exact (fm q q0).2 c
      · rw [(fm q q0).1 c]; exact hq
    have mkL : ∀ q, 0 ≤ q → Mk F q → Mk s q ∨ q ∈ zLeft ts (innM m ts) s.marks p := fun q q0 hq => by
      by_cases c : q ∈ zLeft ts (innM m ts) s.marks p
      · exact .inr c
      · left; unfold Mk at hq ⊢; rw [(fm q q0).1 c] at hq; exact hq
    have besP : ∀ r ∈ besM ts p, Mk F r := fun r hr => by
      have rb := bes_bd hb hr
      by_cases c : iAt s.marks r < 0
      · exact (fm r rb.1).2 ((lbes r).mpr ⟨hr, c⟩)
      · exact mkF r rb.1 (by unfold Mk; omega)
    have hz1 := z1.zc.flip (h' := F.here) (fun q e => by
      rcases next with ⟨_, e2⟩ | ⟨z, eB, e2, _⟩
      · rw [e2] at e; cases e
      · rw [e2] at e; cases e
        have zb := bes_bd hb (hBin q (by rw [eB]; exact List.mem_cons_self)).2.1
        exact ⟨zb.1, zb.2.1⟩)
    refine ⟨⟨ch', hz1⟩, fun q e => ?_, fun q q0 q1 hq hne r hr => ?_, ?_⟩
    · have e : F.here = some q := e
      rcases next with ⟨_, e2⟩ | ⟨z, eB, e2, e3⟩
      · rw [e2] at e; cases e
      · rw [e2] at e; cases e
        have hz := hBin q (by rw [eB]; exact List.mem_cons_self)
        have zb := bes_bd hb hz.2.1
        have zl : q ∈ zLeft ts (innM m ts) s.marks p := (lbes q).mpr hz.2
        refine ⟨zb.1, zb.2.1, (fm q zb.1).2 zl, ?_, .inr hz.1, ?_⟩
        · show (1 - F.turn = 0 ∧ iAt F.marks q = F.low - 1) ∨ (1 - F.turn = 1 ∧ iAt F.marks q = F.high + 1)
          rw [ft]
          rcases e3 with ⟨c, e3⟩ | ⟨c, e3⟩
          · right; exact ⟨by omega, e3⟩
          · left; exact ⟨by omega, e3⟩
        · -- p is beside q, inner and marked
          have pin : p ∈ innM m ts := pinn.resolve_left fun e => by rw [e] at hz; simp at hz
          have hq2 := of_decide_eq_true (List.all_eq_true.mp hc q hz.1)
          have hpq : p ∈ besM ts q := mem_bes.mpr ((mem_bes.mp hz.2.1).symm)
          have nd := (bes_nd hb hn q).filter (innM m ts).contains
          have sub : ∀ x ∈ p :: (besM ts q).filter (fun r => (innM m ts).contains r && decide (iAt F.marks r < 0)), x ∈ (besM ts q).filter (innM m ts).contains := fun x hx => by
            rcases List.mem_cons.mp hx with rfl | hx
            · exact List.mem_filter.mpr ⟨hpq, List.contains_iff_mem.mpr pin⟩
            · obtain ⟨a, b⟩ := List.mem_filter.mp hx
              exact List.mem_filter.mpr ⟨a, (Bool.and_eq_true_iff.mp b).1⟩
          have nd2 : (p :: (besM ts q).filter (fun r => (innM m ts).contains r && decide (iAt F.marks r < 0))).Nodup := List.nodup_cons.mpr ⟨fun hx => by
            have b := (Bool.and_eq_true_iff.mp (List.mem_filter.mp hx).2).2
            have b := of_decide_eq_true b
            have := mkF p p0 pmk
            unfold Mk at this; omega, (bes_nd hb hn q).filter _⟩
          have := sub_len nd2 sub
          rw [List.length_cons] at this
          show ((besM ts q).filter fun r => (innM m ts).contains r && decide (iAt F.marks r < 0)).length ≤ 1
          omega
    · have hne : F.here ≠ some q := hne
      have hq : Mk F q := hq
      show Mk F r
      have rb := bes_bd hb hr
      by_cases ep : q = p
      · subst ep; exact besP r hr
      · rcases mkL q q0 hq with hq | hq
        · exact mkF r rb.1 (h.cl q q0 q1 hq (fun e => by rw [hh] at e; injection e with e; exact ep e.symm) r hr)
        · -- a place just marked
          by_cases qi : q ∈ innM m ts
          · have := hBall q qi hq
            rcases next with ⟨eB, _⟩ | ⟨z, eB, e2, _⟩
            · rw [eB] at this; simp at this
            · rw [eB, List.mem_singleton] at this
              subst this
              exact absurd e2 hne
          · have hle : ¬ 1 < (besM ts q).length := fun z => qi (mem_inn.mpr ⟨q0, q1, z⟩)
            have hpq : p ∈ besM ts q := mem_bes.mpr ((mem_bes.mp ((lbes q).mp hq).1).symm)
            have : r = p := by
              match hbq : besM ts q, hle, hpq, hr with
              | [], _, hp, _ => simp at hp
              | [x], _, hp, hr =>
                rw [List.mem_singleton] at hp hr
                rw [hp, hr]
              | _ :: _ :: _, h2, _, _ => simp at h2
            rw [this]; exact mkF p p0 pmk
    · obtain ⟨q, q0, q1, hq⟩ := h.some_
      exact ⟨q, q0, q1, mkF q q0 hq⟩
theorem negN_zero {l : List Int} (h : ∀ i : Nat, i < l.length → 0 ≤ l.getD i 0) : negN l = 0 := by
  unfold negN
  rw [List.filter_eq_nil_iff.mpr fun x hx => ?_]
  · rfl
  · obtain ⟨i, hi, e⟩ := List.mem_iff_getElem.mp hx
    have := h i hi
    rw [List.getD_eq_getElem?_getD, List.getElem?_eq_getElem hi, e] at this
    have this : 0 ≤ x := this
    simp only [decide_eq_true_eq]; omega
theorem ZM.start {m : Int} {ts : List (Int × Int)} (g : Gen m ts) (hm : 1 ≤ m) (hb : Bd m ts) (hn : ts.Nodup) : ZM m ts (zStart m ts) := by
  have h0 := zz0_bd (ts := ts) hm
  have hI := zStart_inv (ts := ts) hm
  have em : ∀ q, 0 ≤ q → q < m → q ≠ zz0 m ts → iAt (zStart m ts).marks q = -1 := fun q q0 q1 hq => by
    show iAt (setI _ _ _) q = -1
    rw [iAt_setI_ne h0.1 q0 (Ne.symm hq)]
    have := iAt_mem (l := List.replicate m.toNat (-1)) (i := q) (by rw [List.length_replicate]; omega)
    exact List.eq_of_mem_replicate this
  have ep : iAt (zStart m ts).marks (zz0 m ts) = 0 := by
    show iAt (setI _ _ _) (zz0 m ts) = 0
    exact iAt_setI_eq h0.1 (by rw [List.length_replicate]; omega)
  have only : ∀ q, 0 ≤ q → q < m → Mk (zStart m ts) q → q = zz0 m ts := fun q q0 q1 hq => by
    by_cases z : q = zz0 m ts
    · exact z
    · exfalso; unfold Mk at hq; rw [em q q0 q1 z] at hq; omega
  have hneg : (negN (zStart m ts).marks : Int) = m - 1 := by
    have := hI.high
    have e : (zStart m ts).high = m - 1 := rfl
    have e2 : (zStart m ts).low = 1 := rfl
    omega
  refine ⟨⟨[], hI, by show m - 1 < m; omega, fun q q0 q1 hq => ?_, fun q r q0 q1 r0 r1 hq e => ?_, ?_, fun e he => by simp at he, fun e he => by simp at he, fun e he => by simp at he⟩, fun p hp => ?_, fun q q0 q1 hq hne => ?_, ⟨zz0 m ts, h0.1, h0.2, by unfold Mk; rw [ep]; exact Int.le_refl 0⟩⟩
  · left
    rw [only q q0 q1 hq, ep]
    show (0 : Int) < 1
    decide
  · have a := only q q0 q1 hq
    have b := only r r0 r1 (by unfold Mk at hq ⊢; rw [← e]; exact hq)
    rw [a, b]
  · rw [hneg, List.map_nil]
    unfold rgI
    rw [show (m - (m - 1 + 1)).toNat = 0 by omega]; rfl
  · have hp : some (zz0 m ts) = some p := hp
    injection hp with hp
    subst hp
    have hin : innM m ts = [] ∨ zz0 m ts ∈ endM m ts := by
      by_cases z : innM m ts = []
      · exact .inl z
      · right
        have := g.ends hm hb hn z
        unfold zz0
        cases he : endM m ts with
        | nil => exact absurd he this
        | cons a l => exact List.mem_cons_self
    refine ⟨h0.1, h0.2, by unfold Mk; rw [ep]; exact Int.le_refl 0, .inl ⟨rfl, by rw [ep]; rfl⟩, hin.imp id (fun h => (List.mem_filter.mp h).1), ?_⟩
    rcases hin with h | h
    · rw [h]
      rw [List.filter_eq_nil_iff.mpr fun x _ => by simp]
      exact Nat.zero_le _
    · have h2 := of_decide_eq_true (List.mem_filter.mp h).2
      have hsub : ((besM ts (zz0 m ts)).filter fun q => (innM m ts).contains q && decide (iAt (zStart m ts).marks q < 0)).length ≤ ((besM ts (zz0 m ts)).filter (innM m ts).contains).length := sub_len ((bes_nd hb hn _).filter _) fun x hx => by
        obtain ⟨a, b⟩ := List.mem_filter.mp hx
        exact List.mem_filter.mpr ⟨a, (Bool.and_eq_true_iff.mp b).1⟩
      omega
  · exact absurd (show (zStart m ts).here = some q by rw [only q q0 q1 hq]; rfl) hne
theorem perm_of_sub2 {l r : List (Int × Int)} (hl : l.Nodup) (hr : r.Nodup) (h : ∀ x ∈ l, x ∈ r) (hn : l.length = r.length) : l.Perm r := by
  have sl : ∀ {l r : List (Int × Int)}, l.Nodup → (∀ x ∈ l, x ∈ r) → l.length ≤ r.length := fun {l r} => by
    induction l generalizing r with
    | nil => intro _ _; exact Nat.zero_le _
    | cons x l ih =>
      intro hn h
      have hx := h x List.mem_cons_self
      have h2 := ih (r := r.erase x) (List.nodup_cons.mp hn).2 fun y hy => by
        refine (List.mem_erase_of_ne ?_).mpr (h y (List.mem_cons_of_mem _ hy))
        intro e; subst e; exact (List.nodup_cons.mp hn).1 hy
      rw [List.length_erase_of_mem hx] at h2
      have := List.length_pos_of_mem hx
      rw [List.length_cons]; omega
  have h2 : ∀ x ∈ r, x ∈ l := fun x hx => by
    by_cases c : x ∈ l
    · exact c
    · have := sl (l := l) (r := r.erase x) hl fun y hy => (List.mem_erase_of_ne (fun e => by subst e; exact c hy)).mpr (h y hy)
      rw [List.length_erase_of_mem hx] at this
      have := List.length_pos_of_mem hx
      omega
  refine List.perm_iff_count.mpr fun x => ?_
  rw [hl.count, hr.count]
  by_cases c : x ∈ l
  · rw [if_pos c, if_pos (h x c)]
  · rw [if_neg c, if_neg fun z => c (h2 x z)]
/-- a bound: each tie has one end to it, one above -/
def HasBd (m : Int) (ts : List (Int × Int)) (mk : List Int) : Prop := ∃ b, 0 ≤ b ∧ b < m ∧ ∀ t ∈ ts, (iAt mk t.1 ≤ b ∧ b < iAt mk t.2) ∨ (iAt mk t.2 ≤ b ∧ b < iAt mk t.1)
theorem zz_comb {m : Int} {ts : List (Int × Int)} (g : Gen m ts) (hT : TreeOk m ts) (hc : combB m ts = true) : isMarks m (zzM m ts) ∧ unl (alongM ts (zzM m ts)) = true ∧ HasBd m ts (zzM m ts) := by
  have hm := hT.lo
  have hb : Bd m ts := hT.bd
  have hn := hT.nodup
  have all : ∀ n, ZM m ts (zIter m ts n) := fun n => by
    induction n with
    | zero => exact ZM.start g hm hb hn
    | succ n ih => exact ih.step hb hn hc
  have hz := all (zzN m ts)
  have he := (zzN_spec hm hb hn).2
  unfold zzM
  generalize zIter m ts (zzN m ts) = s at hz he
  obtain ⟨ch, hC⟩ := hz.core
  obtain ⟨p, p0, p1, hp⟩ := hz.some_
  have every : ∀ q, 0 ≤ q → q < m → Mk s q := g.all hm (fun q => Mk s q) p0 p1 hp fun q q0 q1 hq r hr => hz.cl q q0 q1 hq (by rw [he]; exact fun z => nomatch z) r hr
  have hl := hC.inv.len
  have hneg : negN s.marks = 0 := negN_zero fun i hi => by
    have := every i (by omega) (by omega)
    unfold Mk iAt at this
    rw [show ((i : Int)).toNat = i by omega] at this
    exact this
  have hhigh := hC.inv.high
  have hlow := hC.inv.low
  have hhm := hC.hm
  have isM : isMarks m s.marks := by
    refine perm_rgI ?_ (fun x hx => ?_) (by rw [Int.sub_zero]; exact hl)
    · refine List.pairwise_iff_getElem.mpr fun i j hi hj hlt hij => ?_
      have e1 := iAt_get (l := s.marks) (i := (i : Int)) (by omega)
      have e2 := iAt_get (l := s.marks) (i := (j : Int)) (by omega)
      rw [show ((i : Int)).toNat = i by omega, List.getElem?_eq_getElem hi] at e1
      rw [show ((j : Int)).toNat = j by omega, List.getElem?_eq_getElem hj] at e2
      have e1 := Option.some.inj e1
      have e2 := Option.some.inj e2
      have := hC.inj i j (by omega) (by omega) (by omega) (by omega) (every _ (by omega) (by omega)) (by rw [← e1, ← e2]; exact hij)
      omega
    · obtain ⟨i, i0, i1, rfl⟩ := iAt_surj hx
      have := every i i0 (by omega)
      have v := hC.vals i i0 (by omega) this
      unfold Mk at this
      omega
  have cl : ch.length = (m - 1).toNat := by
    have := congrArg List.length hC.chD
    rw [List.length_map, rgI_len, hneg] at this
    omega
  have dT : ∀ e ∈ ch, dAt s.marks (min e.1 e.2, max e.1 e.2) = ((iAt s.marks e.1 - iAt s.marks e.2).natAbs : Int) := fun e _ => by
    unfold dAt
    by_cases z : e.1 ≤ e.2
    · simp only [Int.min_eq_left z, Int.max_eq_right z]
    · simp only [Int.min_eq_right (show e.2 ≤ e.1 by omega), Int.max_eq_left (show e.2 ≤ e.1 by omega)]; omega
  have eD : (ch.map fun e => (min e.1 e.2, max e.1 e.2)).map (dAt s.marks) = rgI 1 m := by
    rw [List.map_map, show rgI 1 m = rgI ((negN s.marks : Int) + 1) m by rw [hneg]; rfl, ← hC.chD]
    exact List.map_congr_left fun e he => dT e he
  have nT : (ch.map fun e => (min e.1 e.2, max e.1 e.2)).Nodup := by
    have : ((ch.map fun e => (min e.1 e.2, max e.1 e.2)).map (dAt s.marks)).Nodup := by rw [eD]; exact rgI_nodup _ _
    exact (List.pairwise_map.mp this).imp fun h e => h (by rw [e])
  have pT : (ch.map fun e => (min e.1 e.2, max e.1 e.2)).Perm ts := perm_of_sub2 nT hn (fun t ht => by
    obtain ⟨e, he, rfl⟩ := List.mem_map.mp ht
    exact hC.chT e he) (by rw [List.length_map, cl]; have := hT.len; omega)
  refine ⟨isM, decide_eq_true ?_, s.low - 1, by omega, by omega, fun t ht => ?_⟩
  · unfold alongM
    refine (pT.map (dAt s.marks)).nodup_iff.mp ?_
    rw [eD]; exact rgI_nodup _ _
  · obtain ⟨e, he, rfl⟩ := List.mem_map.mp (pT.mem_iff.mpr ht)
    have b := hC.chB e he
    have b1 := hC.chM e he
    simp only
    by_cases z : e.1 ≤ e.2
    · rw [Int.min_eq_left z, Int.max_eq_right z]; omega
    · rw [Int.min_eq_right (show e.2 ≤ e.1 by omega), Int.max_eq_left (show e.2 ≤ e.1 by omega)]; omega
end Mt

/-! Ma7: the zigzag with its dict. -/
namespace Mt
open Fw
def lookI (kvs : List (Int × Int)) (k : Int) : Option Int := (kvs.find? fun p => decide (p.1 = k)).map (·.2)
abbrev Ks := List (Int × Int) × Zs
def kIn (inner : List Int) (c : Ks) (q : Int) : Ks := (c.1 ++ [(q, if c.2.turn = 0 then c.2.high else c.2.low)], zIn inner c.2 q)
def kStep (ts : List (Int × Int)) (inner : List Int) (c : Ks) : Ks := match c.2.here with
  | none => c
  | some p =>
    let c' := (zLeft ts inner c.2.marks p).foldl (kIn inner) (c.1, { c.2 with here := none })
    (c'.1, { c'.2 with turn := 1 - c'.2.turn })
def kIter (m : Int) (ts : List (Int × Int)) : Nat → Ks
  | 0 => ([(zz0 m ts, 0)], zStart m ts)
  | n + 1 => kStep ts (innM m ts) (kIter m ts n)
theorem kFold_snd {inner : List Int} : ∀ {l : List Int} {c : Ks}, (l.foldl (kIn inner) c).2 = l.foldl (zIn inner) c.2
  | [], c => rfl
  | q :: l, c => by rw [List.foldl_cons, List.foldl_cons, kFold_snd]; rfl
theorem kStep_snd {ts : List (Int × Int)} {inner : List Int} {c : Ks} : (kStep ts inner c).2 = zStep ts inner c.2 := by
  unfold kStep zStep
  cases h : c.2.here with
  | none => rfl
  | some p =>
    simp only
    rw [kFold_snd]
theorem kIter_snd {m : Int} {ts : List (Int × Int)} : ∀ n, (kIter m ts n).2 = zIter m ts n
  | 0 => rfl
  | n + 1 => by
    show (kStep ts (innM m ts) (kIter m ts n)).2 = zStep ts (innM m ts) (zIter m ts n)
    rw [kStep_snd, kIter_snd n]
theorem look_app {kvs : List (Int × Int)} {k v q : Int} : lookI (kvs ++ [(k, v)]) q = (lookI kvs q).or (if k = q then some v else none) := by
  unfold lookI
  rw [List.find?_append]
  cases h : kvs.find? (fun p => decide (p.1 = q)) with
  | some p => rfl
  | none =>
    rw [Option.none_or, Option.map_none, Option.none_or]
    by_cases e : k = q
    · rw [if_pos e, List.find?_cons_of_pos (by simpa using e)]; rfl
    · rw [if_neg e, List.find?_cons_of_neg (by simpa using e)]; rfl
structure KInv (m : Int) (c : Ks) : Prop where
  look : ∀ q, 0 ≤ q → q < m → lookI c.1 q = if 0 ≤ iAt c.2.marks q then some (iAt c.2.marks q) else none
  len : c.1.length + negN c.2.marks = m.toNat
theorem kIn_inv {m : Int} {inner : List Int} {c : Ks} {q : Int} {l : List Int} (h : KInv m c) (z : ZInv m c.2) (t : ZTo m c.2.marks (q :: l)) : KInv m (kIn inner c q) := by
  obtain ⟨q0, q1, q2⟩ := t.2 q List.mem_cons_self
  have e := (zIn_inv (inner := inner) z t).2.2
  have hl := z.len
  have hv : 0 ≤ (if c.2.turn = 0 then c.2.high else c.2.low) := by
    have a := z.high
    have b := z.low
    have d := negN_pos (l := c.2.marks) (i := q.toNat) q2
    split <;> omega
  refine ⟨fun r r0 r1 => ?_, ?_⟩
  · have key : ∀ v : Int, 0 ≤ v → lookI (c.1 ++ [(q, v)]) r = if 0 ≤ iAt (setI c.2.marks q v) r then some (iAt (setI c.2.marks q v) r) else none := fun v hv => by
      rw [look_app, h.look r r0 r1]
      by_cases z : q = r
      · subst z
        rw [if_neg (by omega), if_pos rfl, iAt_setI_eq q0 (by omega), if_pos hv]; rfl
      · rw [if_neg z, Option.or_none, iAt_setI_ne q0 r0 z]
    exact key _ hv
  · show (c.1 ++ [(q, _)]).length + negN (zIn inner c.2 q).marks = m.toNat
    rw [List.length_append, List.length_singleton]
    have := h.len
    omega
theorem kFold_inv {m : Int} {inner : List Int} : ∀ {l : List Int} {c : Ks}, KInv m c → ZInv m c.2 → ZTo m c.2.marks l → KInv m (l.foldl (kIn inner) c)
  | [], c, h, _, _ => h
  | q :: l, c, h, z, t => by
    rw [List.foldl_cons]
    obtain ⟨z1, t1, _⟩ := zIn_inv (inner := inner) z t
    exact kFold_inv (kIn_inv h z t) z1 t1
theorem kIter_inv {m : Int} {ts : List (Int × Int)} (hm : 1 ≤ m) (hb : Bd m ts) (hn : ts.Nodup) : ∀ n, KInv m (kIter m ts n)
  | 0 => by
    have h0 := zz0_bd (ts := ts) hm
    have hI := zStart_inv (ts := ts) hm
    refine ⟨fun q q0 q1 => ?_, ?_⟩
    · show lookI [(zz0 m ts, 0)] q = if 0 ≤ iAt (setI (List.replicate m.toNat (-1)) (zz0 m ts) 0) q then some (iAt (setI (List.replicate m.toNat (-1)) (zz0 m ts) 0) q) else none
      by_cases z : zz0 m ts = q
      · subst z
        rw [iAt_setI_eq q0 (by rw [List.length_replicate]; omega), if_pos (Int.le_refl 0)]
        unfold lookI
        rw [List.find?_cons_of_pos (by simp)]; rfl
      · rw [iAt_setI_ne h0.1 q0 z]
        have := iAt_mem (l := List.replicate m.toNat (-1)) (i := q) (by rw [List.length_replicate]; omega)
        have := List.eq_of_mem_replicate this
        rw [if_neg (by omega)]
        unfold lookI
        rw [List.find?_cons_of_neg (by simpa using z)]; rfl
    · show 1 + negN (zStart m ts).marks = m.toNat
      have a := hI.high
      have b : (zStart m ts).high = m - 1 := rfl
      have d : (zStart m ts).low = 1 := rfl
      omega
  | n + 1 => by
    have ih := kIter_inv hm hb hn n
    have z := zIter_inv hm hb hn n
    have e := kIter_snd (m := m) (ts := ts) n
    show KInv m (kStep ts (innM m ts) (kIter m ts n))
    rw [← e] at z
    generalize kIter m ts n = c at ih z
    unfold kStep
    cases h : c.2.here with
    | none => exact ih
    | some p =>
      have i0 : ZInv m { c.2 with here := none } := ⟨z.len, z.turn, z.low, z.high, fun _ y => by cases y⟩
      have k0 : KInv m (c.1, { c.2 with here := none }) := ⟨ih.look, ih.len⟩
      have := kFold_inv (inner := innM m ts) k0 i0 (zLeft_to hb hn (innM m ts) c.2.marks p)
      exact ⟨this.look, this.len⟩
/-- neighbours stand in order -/
theorem bes_sorted {m : Int} {ts : List (Int × Int)} (hb : Bd m ts) (hs : ts.Pairwise ltP) (p : Int) : sortI (besM ts p) = besM ts p := by
  refine (sortI_eq (.refl _) ?_).symm
  unfold besM
  refine List.pairwise_map.mpr (List.Pairwise.imp_of_mem (fun {a b} ha hb' q => ?_) (hs.filter _))
  obtain ⟨a1, a2⟩ := List.mem_filter.mp ha
  obtain ⟨b1, b2⟩ := List.mem_filter.mp hb'
  have ba := hb a a1
  have bb := hb b b1
  unfold ltP at q
  rcases tiedB_iff.mp a2 with x | x <;> rcases tiedB_iff.mp b2 with y | y <;> omega
/-- who is first -/
def fpF (m : Int) (ts : List (Int × Int)) (_ : Unit) (p : Int) : Unit ⊕ Int := if (((besM ts p).filter (innM m ts).contains).length : Int) < 2 then .inr p else .inl ()
theorem first_zz {m : Int} {ts : List (Int × Int)} : (match runE (fpF m ts) (innM m ts) () with
    | .inl _ => (0 : Int)
    | .inr p => p) = zz0 m ts := by
  unfold zz0 endM
  have go : ∀ l : List Int, (match runE (fpF m ts) l () with
      | .inl _ => (0 : Int)
      | .inr p => p) = (l.filter (fun p => decide ((((besM ts p).filter (innM m ts).contains).length : Int) < 2)) ++ [0]).getD 0 0 := fun l => by
    induction l with
    | nil => rfl
    | cons x l ih =>
      unfold runE
      by_cases c : (((besM ts x).filter (innM m ts).contains).length : Int) < 2
      · have e : fpF m ts () x = .inr x := by unfold fpF; rw [if_pos c]
        rw [e, List.filter_cons, if_pos (decide_eq_true c)]; rfl
      · have e : fpF m ts () x = .inl () := by unfold fpF; rw [if_neg c]
        rw [e, List.filter_cons, if_neg (by rw [decide_eq_false c]; decide)]
        exact ih
  exact go _
def lcF (m : Int) (ts : List (Int × Int)) (_ : Unit) (p : Int) : Unit ⊕ Unit := if 2 < (((besM ts p).filter (innM m ts).contains).length : Int) then .inr () else .inl ()
theorem comb_run {m : Int} {ts : List (Int × Int)} : (match runE (lcF m ts) (innM m ts) () with
    | .inl _ => true
    | .inr _ => false) = combB m ts := by
  unfold combB
  have go : ∀ l : List Int, (match runE (lcF m ts) l () with
      | .inl _ => true
      | .inr _ => false) = l.all fun p => decide ((((besM ts p).filter (innM m ts).contains).length : Int) ≤ 2) := fun l => by
    induction l with
    | nil => rfl
    | cons x l ih =>
      unfold runE
      by_cases c : 2 < (((besM ts x).filter (innM m ts).contains).length : Int)
      · have e : lcF m ts () x = .inr () := by unfold lcF; rw [if_pos c]
        rw [e, List.all_cons, decide_eq_false (by omega)]; rfl
      · have e : lcF m ts () x = .inl () := by unfold lcF; rw [if_neg c]
        rw [e, List.all_cons, decide_eq_true (by omega), Bool.true_and]
        exact ih
  exact go _
end Mt

/-! Ma8: trees hang together; trees joined. -/
namespace Mt
open Fw
def Conn (m : Int) (ts : List (Int × Int)) : Prop := ∀ f : Int → Int, (∀ t ∈ ts, f t.1 = f t.2) → ∀ i, 0 ≤ i → i < m → f i = f 0
theorem conn_fold {m : Int} {f : Int → Int} : ∀ (ts : List (Int × Int)) (l : List Int), l.length = m.toNat → (∀ t ∈ ts, inPl m t) → (∀ t ∈ ts, f t.1 = f t.2) → (∀ i, 0 ≤ i → i < m → f (iAt l i) = f i) → ∀ i, 0 ≤ i → i < m → f (iAt (ts.foldl nameStep l) i) = f i
  | [], l, _, _, _, h => h
  | t :: ts, l, hl, hp, hf, h => by
    rw [List.foldl_cons]
    refine conn_fold ts (nameStep l t) (by rw [step_len]; exact hl) (fun u hu => hp u (List.mem_cons_of_mem _ hu)) (fun u hu => hf u (List.mem_cons_of_mem _ hu)) (fun i i0 i1 => ?_)
    have ip := hp t List.mem_cons_self
    unfold inPl at ip
    have e1 := h t.1 ip.1 ip.2.1
    have e2 := h t.2 ip.2.2.1 ip.2.2.2
    have e3 := hf t List.mem_cons_self
    have e4 := h i i0 i1
    rw [step_at (by omega)]
    unfold nameF
    by_cases c : iAt l i = max (iAt l t.1) (iAt l t.2)
    · rw [if_pos c, ← e4, c]
      by_cases z : iAt l t.1 ≤ iAt l t.2
      · rw [Int.min_eq_left z, Int.max_eq_right z, e1, e2, e3]
      · rw [Int.min_eq_right (by omega), Int.max_eq_left (by omega), e1, e2, e3]
    · rw [if_neg c]; exact e4
theorem joins_conn {m : Int} {ts : List (Int × Int)} (h : 1 ≤ m) (hp : ∀ t ∈ ts, inPl m t) (hj : joinsAll m ts = true) : Conn m ts := fun f hf i i0 i1 => by
  have key := conn_fold (f := f) ts (rg m) (rg_len m) hp hf (fun i i0 i1 => by rw [iAt_rg i0 i1]) i i0 i1
  have hz : maxI (namesAll m ts) = 0 := of_decide_eq_true hj
  have hm : iAt (namesAll m ts) i ∈ namesAll m ts := iAt_mem (by rw [names_len]; omega)
  have l1 := maxI_ge hm
  have l2 := (names_nm h hp).1 _ hm
  have e : iAt (namesAll m ts) i = 0 := by omega
  have key : f (iAt (namesAll m ts) i) = f i := key
  rw [e] at key
  exact key.symm
theorem conn_joins {m : Int} {ts : List (Int × Int)} (h : 1 ≤ m) (hp : ∀ t ∈ ts, inPl m t) (hc : Conn m ts) : joinsAll m ts = true :=
  joins_true h hp fun i i0 i1 => hc (iAt (namesAll m ts)) (fun t ht => names_tie hp ht) i i0 i1
/-! ### joined -/
def posI (l : List Int) (x : Int) : Int := ((l.idxOf x : Nat) : Int)
theorem posI_spec {m : Int} {l : List Int} (h : isMarks m l) {x : Int} (h0 : 0 ≤ x) (h1 : x < m) : 0 ≤ posI l x ∧ posI l x < m ∧ iAt l (posI l x) = x ∧ l[(l.idxOf x)]? = some x ∧ ∀ k : Nat, k < l.idxOf x → l[k]? ≠ some x := by
  have hx : x ∈ l := h.mem_iff.mpr (mem_rg.mpr ⟨h0, h1⟩)
  have hl := h.len (by omega)
  have i1 : l.idxOf x < l.length := List.idxOf_lt_length_iff.mpr hx
  have e : l[(l.idxOf x)]? = some x := by rw [List.getElem?_eq_getElem i1, List.getElem_idxOf]
  refine ⟨by unfold posI; omega, by unfold posI; omega, ?_, e, fun k hk e2 => ?_⟩
  · have := iAt_get (l := l) (i := posI l x) (by unfold posI; omega)
    unfold posI at this ⊢
    rw [show (((l.idxOf x : Nat) : Int)).toNat = l.idxOf x by omega, e] at this
    exact (Option.some.inj this).symm
  · have := (List.getElem?_inj (by omega) h.nd).mp (e2.trans e.symm)
    omega
def shT (m : Int) (t : Int × Int) : Int × Int := (t.1 + m, t.2 + m)
def joinR (m : Int) (ts : List (Int × Int)) (mk : List Int) (m2 : Int) (ts2 : List (Int × Int)) (more : List Int) (b : Int) : List (Int × Int) := ts ++ [(posI mk b, m + posI more (m2 - 1))] ++ ts2.map (shT m)
def joinK (m2 : Int) (mk more : List Int) (b : Int) : List Int := mk.map (fun x => if x ≤ b then x else x + m2) ++ more.map (fun x => x + b + 1)
section
variable {m m2 b : Int} {ts ts2 : List (Int × Int)} {mk more : List Int}
theorem joinK_len : (joinK m2 mk more b).length = mk.length + more.length := by unfold joinK; rw [List.length_append, List.length_map, List.length_map]
theorem joinK_lo (hl : (mk.length : Int) = m) {i : Int} (h0 : 0 ≤ i) (h1 : i < m) : iAt (joinK m2 mk more b) i = if iAt mk i ≤ b then iAt mk i else iAt mk i + m2 := by
  have e := iAt_get (l := joinK m2 mk more b) (i := i) (by rw [joinK_len]; omega)
  unfold joinK at e ⊢
  rw [List.getElem?_append_left (by rw [List.length_map]; omega), List.getElem?_map, iAt_get (by omega)] at e
  exact (Option.some.inj e).symm
theorem joinK_hi (hl : (mk.length : Int) = m) (hl2 : (more.length : Int) = m2) {i : Int} (h0 : 0 ≤ i) (h1 : i < m2) : iAt (joinK m2 mk more b) (i + m) = iAt more i + b + 1 := by
  have e := iAt_get (l := joinK m2 mk more b) (i := i + m) (by rw [joinK_len]; omega)
  unfold joinK at e ⊢
  rw [List.getElem?_append_right (by rw [List.length_map]; omega), List.length_map, show (i + m).toNat - mk.length = i.toNat by omega, List.getElem?_map, iAt_get (by omega)] at e
  exact (Option.some.inj e).symm
theorem joinK_marks (k1 : isMarks m mk) (k2 : isMarks m2 more) (h1 : 1 ≤ m) (h2 : 1 ≤ m2) (b0 : 0 ≤ b) (b1 : b < m) : isMarks (m + m2) (joinK m2 mk more b) := by
  have l1 := k1.len (by omega)
  have l2 := k2.len (by omega)
  have m1 : ∀ x ∈ mk, 0 ≤ x ∧ x < m := fun x hx => mem_rg.mp (k1.mem_iff.mp hx)
  have m2' : ∀ x ∈ more, 0 ≤ x ∧ x < m2 := fun x hx => mem_rg.mp (k2.mem_iff.mp hx)
  refine perm_rgI ?_ (fun x hx => ?_) (by rw [joinK_len]; omega)
  · unfold joinK
    refine List.nodup_append.mpr ⟨?_, ?_, ?_⟩
    · refine List.pairwise_map.mpr (List.Pairwise.imp_of_mem (fun {x y} hx hy q e => q ?_) k1.nd)
      have a := m1 x hx
      have c := m1 y hy
      by_cases z : x ≤ b <;> by_cases w : y ≤ b <;> simp only [z, w, if_true, if_false] at e <;> omega
    · exact List.pairwise_map.mpr (k2.nd.imp fun {x y} q e => q (by omega))
    · intro x hx y hy e
      obtain ⟨u, hu, rfl⟩ := List.mem_map.mp hx
      obtain ⟨v, hv, rfl⟩ := List.mem_map.mp hy
      have a := m1 u hu
      have c := m2' v hv
      by_cases z : u ≤ b <;> simp only [z, if_true, if_false] at e <;> omega
  · unfold joinK at hx
    rcases List.mem_append.mp hx with h | h
    · obtain ⟨u, hu, rfl⟩ := List.mem_map.mp h
      have a := m1 u hu
      by_cases z : u ≤ b <;> simp only [z, if_true, if_false] <;> omega
    · obtain ⟨v, hv, rfl⟩ := List.mem_map.mp h
      have c := m2' v hv
      omega
theorem joinR_bd (hb : Bd m ts) (hb2 : Bd m2 ts2) (k1 : isMarks m mk) (k2 : isMarks m2 more) (h1 : 1 ≤ m) (h2 : 1 ≤ m2) (b0 : 0 ≤ b) (b1 : b < m) : Bd (m + m2) (joinR m ts mk m2 ts2 more b) := fun t ht => by
  unfold joinR at ht
  rcases List.mem_append.mp ht with h | h
  · rcases List.mem_append.mp h with h | h
    · have := hb t h; omega
    · rw [List.mem_singleton] at h
      subst h
      have p1 := posI_spec k1 b0 b1
      have p2 := posI_spec k2 (x := m2 - 1) (by omega) (by omega)
      simp only; omega
  · obtain ⟨u, hu, rfl⟩ := List.mem_map.mp h
    have := hb2 u hu
    unfold shT; simp only; omega
theorem joinR_nd (hb : Bd m ts) (hb2 : Bd m2 ts2) (n1 : ts.Nodup) (n2 : ts2.Nodup) (k1 : isMarks m mk) (k2 : isMarks m2 more) (h1 : 1 ≤ m) (h2 : 1 ≤ m2) (b0 : 0 ≤ b) (b1 : b < m) : (joinR m ts mk m2 ts2 more b).Nodup := by
  have p1 := posI_spec k1 b0 b1
  have p2 := posI_spec k2 (x := m2 - 1) (by omega) (by omega)
  unfold joinR
  refine List.nodup_append.mpr ⟨List.nodup_append.mpr ⟨n1, List.pairwise_singleton _ _, ?_⟩, ?_, ?_⟩
  · intro x hx y hy e
    rw [List.mem_singleton] at hy
    subst hy; subst e
    have := hb _ hx
    simp only at this; omega
  · refine List.pairwise_map.mpr (n2.imp fun {x y} q e => q ?_)
    unfold shT at e
    have e1 := congrArg Prod.fst e
    have e2 := congrArg Prod.snd e
    simp only at e1 e2
    exact Prod.ext (by omega) (by omega)
  · intro x hx y hy e
    obtain ⟨u, hu, rfl⟩ := List.mem_map.mp hy
    subst e
    have c := hb2 u hu
    unfold shT at hx
    rcases List.mem_append.mp hx with h | h
    · have := hb _ h; simp only at this; omega
    · rw [List.mem_singleton] at h
      have := congrArg Prod.fst h
      simp only at this; omega
theorem joinR_conn (h : Conn m ts) (h' : Conn m2 ts2) (k1 : isMarks m mk) (k2 : isMarks m2 more) (h1 : 1 ≤ m) (h2 : 1 ≤ m2) (b0 : 0 ≤ b) (b1 : b < m) : Conn (m + m2) (joinR m ts mk m2 ts2 more b) := fun f hf i i0 i1 => by
  have p1 := posI_spec k1 b0 b1
  have p2 := posI_spec k2 (x := m2 - 1) (by omega) (by omega)
  have a1 : ∀ i, 0 ≤ i → i < m → f i = f 0 := h f fun t ht => hf t (by unfold joinR; exact List.mem_append_left _ (List.mem_append_left _ ht))
  have a2 : ∀ i, 0 ≤ i → i < m2 → f (i + m) = f (0 + m) := h' (fun i => f (i + m)) fun t ht => hf (shT m t) (by unfold joinR; exact List.mem_append_right _ (List.mem_map.mpr ⟨t, ht, rfl⟩))
  have a3 : f (posI mk b) = f (m + posI more (m2 - 1)) := hf (posI mk b, m + posI more (m2 - 1)) (by unfold joinR; exact List.mem_append_left _ (List.mem_append_right _ (List.mem_singleton.mpr rfl)))
  by_cases c : i < m
  · exact a1 i i0 c
  · have e1 := a2 (i - m) (by omega) (by omega)
    rw [Int.sub_add_cancel] at e1
    have e2 := a2 (posI more (m2 - 1)) (by omega) (by omega)
    rw [Int.add_comm] at e2
    rw [e1, ← e2, ← a3]
    exact a1 _ (by omega) (by omega)
theorem joined_tree (hT : TreeOk m ts) (hT2 : TreeOk m2 ts2) (k1 : isMarks m mk) (k2 : isMarks m2 more) (b0 : 0 ≤ b) (b1 : b < m) (h12 : m + m2 ≤ 12) : TreeOk (m + m2) (sortP (joinR m ts mk m2 ts2 more b)) := by
  have t1 := hT.lo
  have t2 := hT2.lo
  have hb := joinR_bd hT.bd hT2.bd k1 k2 t1 t2 b0 b1
  have hn := joinR_nd hT.bd hT2.bd hT.nodup hT2.nodup k1 k2 t1 t2 b0 b1
  have pm := sortP_perm (joinR m ts mk m2 ts2 more b)
  have hb' : Bd (m + m2) (sortP (joinR m ts mk m2 ts2 more b)) := fun t ht => hb t (pm.mem_iff.mp ht)
  have hp' : ∀ t ∈ sortP (joinR m ts mk m2 ts2 more b), inPl (m + m2) t := fun t ht => by have := hb' t ht; unfold inPl; omega
  refine ⟨by omega, h12, ?_, hb', sorted_lt hn, ?_⟩
  · rw [sortP_len]
    unfold joinR
    rw [List.length_append, List.length_append, List.length_map, List.length_singleton]
    have := hT.len
    have := hT2.len
    omega
  · exact conn_joins (by omega) hp' fun f hf => joinR_conn (joins_conn t1 hT.inP hT.jo) (joins_conn t2 hT2.inP hT2.jo) k1 k2 t1 t2 b0 b1 f fun t ht => hf t (pm.mem_iff.mpr ht)
theorem unl_perm {l r : List (Int × Int)} (p : l.Perm r) (mk : List Int) : unl (alongM l mk) = unl (alongM r mk) := by
  unfold unl alongM
  have := (p.map (dAt mk)).nodup_iff
  by_cases c : (r.map (dAt mk)).Nodup
  · rw [decide_eq_true c, decide_eq_true (this.mpr c)]
  · rw [decide_eq_false c, decide_eq_false (fun z => c (this.mp z))]
theorem joined_unl (hT : TreeOk m ts) (hT2 : TreeOk m2 ts2) (k1 : isMarks m mk) (k2 : isMarks m2 more) (b0 : 0 ≤ b) (b1 : b < m) (u1 : unl (alongM ts mk) = true) (u2 : unl (alongM ts2 more) = true) (hpt : ∀ t ∈ ts, (iAt mk t.1 ≤ b ∧ b < iAt mk t.2) ∨ (iAt mk t.2 ≤ b ∧ b < iAt mk t.1)) : unl (alongM (sortP (joinR m ts mk m2 ts2 more b)) (joinK m2 mk more b)) = true := by
  have t1 := hT.lo
  have t2 := hT2.lo
  have l1 := k1.len (by omega)
  have l2 := k2.len (by omega)
  rw [unl_perm (sortP_perm _)]
  have p1 := posI_spec k1 b0 b1
  have p2 := posI_spec k2 (x := m2 - 1) (by omega) (by omega)
  have d1 : ∀ t ∈ ts, dAt (joinK m2 mk more b) t = dAt mk t + m2 := fun t ht => by
    have q := hT.bd t ht
    have c := hpt t ht
    unfold dAt
    rw [joinK_lo l1 (i := t.1) (by omega) (by omega), joinK_lo l1 (i := t.2) (by omega) (by omega)]
    rcases c with c | c
    · rw [if_pos c.1, if_neg (by omega)]; omega
    · rw [if_neg (by omega), if_pos c.1]; omega
  have d2 : ∀ t ∈ ts2, dAt (joinK m2 mk more b) (shT m t) = dAt more t := fun t ht => by
    have q := hT2.bd t ht
    unfold dAt shT
    simp only
    rw [joinK_hi l1 l2 (i := t.1) (by omega) (by omega), joinK_hi l1 l2 (i := t.2) (by omega) (by omega)]
    omega
  have d3 : dAt (joinK m2 mk more b) (posI mk b, m + posI more (m2 - 1)) = m2 := by
    unfold dAt
    simp only
    rw [joinK_lo l1 (i := posI mk b) (by omega) (by omega), Int.add_comm m, joinK_hi l1 l2 (i := posI more (m2 - 1)) (by omega) (by omega), p1.2.2.1, p2.2.2.1, if_pos (Int.le_refl b)]
    omega
  have u1 : (ts.map (dAt mk)).Nodup := of_decide_eq_true u1
  have u2 : (ts2.map (dAt more)).Nodup := of_decide_eq_true u2
  have b1' : ∀ t ∈ ts, 1 ≤ dAt mk t ∧ dAt mk t < m := fun t ht => dAt_bd k1 (hT.bd t ht)
  have b2' : ∀ t ∈ ts2, 1 ≤ dAt more t ∧ dAt more t < m2 := fun t ht => dAt_bd k2 (hT2.bd t ht)
  refine decide_eq_true ?_
  unfold alongM joinR
  rw [List.map_append, List.map_append, List.map_map]
  refine List.nodup_append.mpr ⟨List.nodup_append.mpr ⟨?_, List.pairwise_singleton _ _, ?_⟩, ?_, ?_⟩
  · rw [List.map_congr_left d1]
    exact List.pairwise_map.mpr ((List.pairwise_map.mp u1).imp fun {x y} q e => q (by omega))
  · intro x hx y hy e
    obtain ⟨u, hu, rfl⟩ := List.mem_map.mp hx
    rw [List.map_singleton, List.mem_singleton] at hy
    rw [d1 u hu, hy, d3] at e
    have := b1' u hu
    omega
  · have : ts2.map (dAt (joinK m2 mk more b) ∘ shT m) = ts2.map (dAt more) := List.map_congr_left fun t ht => d2 t ht
    rw [this]; exact u2
  · intro x hx y hy e
    obtain ⟨v, hv, rfl⟩ := List.mem_map.mp hy
    rw [Function.comp, d2 v hv] at e
    have c2 := b2' v hv
    rcases List.mem_append.mp hx with h | h
    · obtain ⟨u, hu, rfl⟩ := List.mem_map.mp h
      rw [d1 u hu] at e
      have := b1' u hu
      omega
    · rw [List.map_singleton, List.mem_singleton] at h
      rw [h, d3] at e
      omega
end
end Mt

/-! Ma9: the combs that the laws make are combs. -/
namespace Mt
open Fw
theorem nb_of {m : Int} {ts : List (Int × Int)} {names : List Int} {f : Int → Int} (hm : 1 ≤ m) (hp : names.Perm (rg m)) (hf : ∀ k, 1 ≤ k → k < m → 0 ≤ f k ∧ f k < k) (e : ts = sortP (tiesOf names f (m.toNat - 1))) : (∀ p, 0 ≤ p → p < m → ∃ k, 0 ≤ k ∧ k < m ∧ iAt names k = p) ∧ (∀ k j, 0 ≤ k → k < m → 0 ≤ j → j < m → iAt names k = iAt names j → k = j) ∧ (∀ k, 0 ≤ k → k < m → 0 ≤ iAt names k ∧ iAt names k < m) ∧ (∀ k, 1 ≤ k → k < m → 0 ≤ f k ∧ f k < k) ∧
    (∀ k, 1 ≤ k → k < m → iAt names (f k) ∈ besM ts (iAt names k) ∧ iAt names k ∈ besM ts (iAt names (f k))) ∧ (∀ k j, 0 ≤ k → k < m → 0 ≤ j → j < m → iAt names j ∈ besM ts (iAt names k) → (1 ≤ k ∧ j = f k) ∨ (1 ≤ j ∧ k = f j)) := by
  have hl : names.length = m.toNat := by rw [hp.length_eq, rg_len]
  have hn : names.Nodup := hp.nodup_iff.mpr (rgI_nodup _ _)
  have inj : ∀ k j, 0 ≤ k → k < m → 0 ≤ j → j < m → iAt names k = iAt names j → k = j := fun k j a b c d e => iAt_inj hn a (by omega) c (by omega) e
  have mem : ∀ t, t ∈ ts ↔ ∃ k : Int, 1 ≤ k ∧ k < m ∧ t = tieOf names k (f k) := fun t => by
    rw [e, (sortP_perm _).mem_iff, mem_tiesOf]
    exact ⟨fun ⟨k, a, b, c⟩ => ⟨k, a, by omega, c⟩, fun ⟨k, a, b, c⟩ => ⟨k, a, by omega, c⟩⟩
  refine ⟨fun p a b => ?_, inj, fun k a b => mem_rg.mp (hp.mem_iff.mp (iAt_mem (by omega))), hf, fun k a b => ?_, fun k j a b c d h => ?_⟩
  · obtain ⟨k, k1, k2, k3⟩ := iAt_surj (hp.mem_iff.mpr (mem_rg.mpr ⟨a, b⟩))
    exact ⟨k, k1, by omega, k3⟩
  · have ht : tieOf names k (f k) ∈ ts := (mem _).mpr ⟨k, a, b, rfl⟩
    rw [tieOf_iAt] at ht
    rw [mem_bes, mem_bes]
    by_cases z : iAt names k ≤ iAt names (f k)
    · rw [Int.min_eq_left z, Int.max_eq_right z] at ht; exact ⟨.inl ht, .inr ht⟩
    · rw [Int.min_eq_right (by omega), Int.max_eq_left (by omega)] at ht; exact ⟨.inr ht, .inl ht⟩
  · have go : ∀ t ∈ ts, (t = (iAt names k, iAt names j) ∨ t = (iAt names j, iAt names k)) → (1 ≤ k ∧ j = f k) ∨ (1 ≤ j ∧ k = f j) := fun t ht hh => by
      obtain ⟨i, i1, i2, rfl⟩ := (mem t).mp ht
      rw [tieOf_iAt] at hh
      have fi := hf i i1 i2
      have key : (iAt names i = iAt names k ∧ iAt names (f i) = iAt names j) ∨ (iAt names i = iAt names j ∧ iAt names (f i) = iAt names k) := by
        rcases hh with hh | hh
        · have e1 := congrArg Prod.fst hh
          have e2 := congrArg Prod.snd hh
          simp only at e1 e2
          omega
        · have e1 := congrArg Prod.fst hh
          have e2 := congrArg Prod.snd hh
          simp only at e1 e2
          omega
      rcases key with ⟨e1, e2⟩ | ⟨e1, e2⟩
      · have a1 := inj _ _ (by omega) i2 a b e1
        have a2 := inj _ _ (by omega) (by omega) c d e2
        subst a1
        exact .inl ⟨i1, a2.symm⟩
      · have a1 := inj _ _ (by omega) i2 c d e1
        have a2 := inj _ _ (by omega) (by omega) a b e2
        subst a1
        exact .inr ⟨i1, a2.symm⟩
    rcases mem_bes.mp h with h | h
    · exact go _ h (.inl rfl)
    · exact go _ h (.inr rfl)
theorem here_mono (c : Int) : ∀ (i d : Nat), hereOf c i ≤ hereOf c (i + d)
  | i, 0 => Int.le_refl _
  | i, d + 1 => by
    have h1 := here_mono c i d
    have h2 := here_bd c (i + d)
    have h3 := here_bd c i
    have e : hereOf c (i + d + 1) = if mix c (1 + (i + d : Nat)) 2 = 0 then 1 + ((i + d : Nat) : Int) else hereOf c (i + d) := rfl
    show hereOf c i ≤ hereOf c (i + d + 1)
    rw [e]
    by_cases z : mix c (1 + (i + d : Nat)) 2 = 0
    · rw [if_pos z]; omega
    · rw [if_neg z]; exact h1
theorem here_at (c : Int) : ∀ (n : Nat) (j : Int), hereOf c n = j → 1 ≤ j → hereOf c j.toNat = j
  | 0, j, h, h1 => by
    have : hereOf c 0 = 0 := rfl
    omega
  | n + 1, j, h, h1 => by
    have e : hereOf c (n + 1) = if mix c (1 + n) 2 = 0 then 1 + (n : Int) else hereOf c n := rfl
    by_cases z : mix c (1 + n) 2 = 0
    · have q := h
      rw [e, if_pos z] at q
      rw [show j.toNat = n + 1 by omega]
      exact h
    · rw [e, if_neg z] at h
      exact here_at c n j h h1
theorem comb_comb (ns : List Int) {b m : Int} (hm : 0 < m) (hm2 : m ≤ 12) : combB (treeN ns b m) (sortP (combRaw ns b m)) = true := by
  have hT := comb_ok ns (b := b) hm hm2
  have t1 := hT.lo
  have hp : (treeNames ns b m).Perm (rg (treeN ns b m)) := by
    unfold treeNames
    have := names_perm (cellAt ns (b + 1)) (treeN ns b m).toNat
    rw [show ((treeN ns b m).toNat : Int) = treeN ns b m by omega] at this
    exact this
  have hf : ∀ k, 1 ≤ k → k < treeN ns b m → 0 ≤ hereOf (cellAt ns (b + 2)) (k - 1).toNat ∧ hereOf (cellAt ns (b + 2)) (k - 1).toNat < k := fun k k1 k2 => by
    have := here_bd (cellAt ns (b + 2)) (k - 1).toNat
    omega
  have nb := nb_of (f := fun k => hereOf (cellAt ns (b + 2)) (k - 1).toNat) t1 hp hf rfl
  have hbd := hT.bd
  have hnd := hT.nodup
  unfold combRaw at hbd hnd ⊢
  generalize treeNames ns b m = names at nb hbd hnd ⊢
  generalize cellAt ns (b + 2) = c at nb hf hbd hnd ⊢
  generalize treeN ns b m = N at nb hf t1 hbd hnd ⊢
  generalize hts : sortP (tiesOf names (fun k => hereOf c (k - 1).toNat) (N.toNat - 1)) = ts at nb hbd hnd ⊢
  obtain ⟨sur, inj, bd, _, _, nbi⟩ := nb
  -- an inner place that has an elder has one that goes on from it
  have inner : ∀ j, 0 ≤ j → j < N → iAt names j ∈ innM N ts → j = 0 ∨ hereOf c j.toNat = j := fun j j0 j1 h => by
    by_cases z : j = 0
    · exact .inl z
    · right
      have hd := (mem_inn.mp h).2.2
      have nd := bes_nd hbd hnd (iAt names j)
      -- two beside it, one of which is not the elder
      have : ∃ q ∈ besM ts (iAt names j), q ≠ iAt names (hereOf c (j - 1).toNat) := by
        refine Classical.byContradiction fun no => ?_
        have al : ∀ q ∈ besM ts (iAt names j), q ∈ [iAt names (hereOf c (j - 1).toNat)] := fun q hq => Classical.byContradiction fun z => no ⟨q, hq, fun e => z (by rw [e]; exact List.mem_singleton.mpr rfl)⟩
        have := sub_len nd al
        simp at this
        omega
      obtain ⟨q, hq, hne⟩ := this
      have qb := bes_bd hbd hq
      obtain ⟨i, i0, i1, rfl⟩ := sur q qb.1 qb.2.1
      rcases nbi j i j0 j1 i0 i1 hq with ⟨_, e⟩ | ⟨i2, e⟩
      · subst e; exact absurd rfl hne
      · exact here_at c (i - 1).toNat j e.symm (by omega)
  refine List.all_eq_true.mpr fun p hpm => decide_eq_true ?_
  have pb := mem_inn.mp hpm
  obtain ⟨k, k0, k1, rfl⟩ := sur p pb.1 pb.2.1
  have nd := (bes_nd hbd hnd (iAt names k)).filter (innM N ts).contains
  -- who among those beside it stands behind it is one
  have uniq : ∀ i j, 1 ≤ i → i < N → 1 ≤ j → j < N → k = hereOf c (i - 1).toNat → k = hereOf c (j - 1).toNat → iAt names i ∈ innM N ts → iAt names j ∈ innM N ts → i = j := by
    have key : ∀ i j, 1 ≤ i → i < N → 1 ≤ j → j < N → k = hereOf c (i - 1).toNat → k = hereOf c (j - 1).toNat → iAt names i ∈ innM N ts → ¬ i < j := fun i j i1 i2 j1 j2 e1 e2 m1 lt => by
      have a := (inner i (by omega) i2 m1).resolve_left (by omega)
      have b := here_mono c i.toNat ((j - 1).toNat - i.toNat)
      rw [show i.toNat + ((j - 1).toNat - i.toNat) = (j - 1).toNat by omega] at b
      have d := hf i i1 i2
      omega
    intro i j i1 i2 j1 j2 e1 e2 m1 m2
    have a := key i j i1 i2 j1 j2 e1 e2 m1
    have b := key j i j1 j2 i1 i2 e2 e1 m2
    omega
  have hmem : ∀ q ∈ (besM ts (iAt names k)).filter (innM N ts).contains, ∃ i, 0 ≤ i ∧ i < N ∧ q = iAt names i ∧ iAt names i ∈ innM N ts ∧ ((1 ≤ k ∧ i = hereOf c (k - 1).toNat) ∨ (1 ≤ i ∧ k = hereOf c (i - 1).toNat)) := fun q hq => by
    obtain ⟨q1, q2⟩ := List.mem_filter.mp hq
    have qb := bes_bd hbd q1
    obtain ⟨i, i0, i1, rfl⟩ := sur q qb.1 qb.2.1
    exact ⟨i, i0, i1, rfl, List.contains_iff_mem.mp q2, nbi k i k0 k1 i0 i1 q1⟩
  by_cases ex : ∃ j, 1 ≤ j ∧ j < N ∧ k = hereOf c (j - 1).toNat ∧ iAt names j ∈ innM N ts
  · obtain ⟨j, j1, j2, e, mj⟩ := ex
    have := sub_len (r := [iAt names (hereOf c (k - 1).toNat), iAt names j]) nd fun q hq => by
      obtain ⟨i, i0, i1, rfl, mi, h⟩ := hmem q hq
      rcases h with ⟨_, h⟩ | ⟨i2, h⟩
      · rw [h]; exact List.mem_cons_self
      · rw [uniq i j i2 i1 j1 j2 h e mi mj]; exact List.mem_cons_of_mem _ List.mem_cons_self
    simp only [List.length_cons, List.length_nil] at this
    omega
  · have := sub_len (r := [iAt names (hereOf c (k - 1).toNat)]) nd fun q hq => by
      obtain ⟨i, i0, i1, rfl, mi, h⟩ := hmem q hq
      rcases h with ⟨_, h⟩ | ⟨i2, h⟩
      · rw [h]; exact List.mem_cons_self
      · exact absurd ⟨i, i2, i1, h, mi⟩ ex
    simp only [List.length_cons, List.length_nil] at this
    omega
theorem iAt_take {r : List Int} {k : Nat} {i : Int} (h0 : 0 ≤ i) (h : i < k) : iAt (r.take k) i = iAt r i := by
  unfold iAt
  rw [List.getD_eq_getElem?_getD, List.getD_eq_getElem?_getD, List.getElem?_take_of_lt (by omega)]
theorem rows_has {m : Int} {ts : List (Int × Int)} (hb : Bd m ts) {r : List Int} (hm : isMarks m r) (hu : unl (alongM ts r) = true) : ∀ n : Nat, n ≤ r.length → r.take n ∈ rowsM m ts n
  | 0, _ => List.mem_singleton.mpr (List.take_zero)
  | n + 1, h => by
    have ih := rows_has hb hm hu n (by omega)
    obtain ⟨x, hx⟩ : ∃ x, r[n]? = some x := ⟨_, List.getElem?_eq_getElem (by omega)⟩
    have e : r.take (n + 1) = r.take n ++ [x] := take_succ_get hx
    unfold rowsM
    refine List.mem_flatMap.mpr ⟨r.take n, ih, ?_⟩
    unfold extX
    refine List.mem_map.mpr ⟨x, List.mem_filter.mpr ⟨hm.mem_iff.mp (List.mem_of_getElem? hx), ?_⟩, e.symm⟩
    unfold okX
    have c : (r.take n).contains x = false := by
      cases q : (r.take n).contains x with
      | false => rfl
      | true =>
        have := List.contains_iff_mem.mp q
        obtain ⟨k, hk, e2⟩ := List.mem_iff_getElem.mp this
        have hk' : k < n := by rw [List.length_take] at hk; omega
        have e3 : r[k]? = some x := by
          have := List.getElem?_eq_getElem hk
          rw [List.getElem?_take_of_lt hk', e2] at this
          exact this
        have := (List.getElem?_inj (by omega) hm.nd).mp (e3.trans hx.symm)
        omega
    rw [c, Bool.not_false, Bool.true_and, told_next, ← e]
    have nd : (alongM ts r).Nodup := of_decide_eq_true hu
    refine decide_eq_true ?_
    have hl : ((r.take (n + 1)).length : Int) = (n : Int) + 1 := by rw [List.length_take]; omega
    unfold inD
    rw [hl]
    have e4 : (ts.filter fun t => decide (t.2 < (n : Int) + 1)).map (dAt (r.take (n + 1))) = (ts.filter fun t => decide (t.2 < (n : Int) + 1)).map (dAt r) := List.map_congr_left fun t ht => by
      obtain ⟨h1, h2⟩ := List.mem_filter.mp ht
      have b := hb t h1
      have h2 := of_decide_eq_true h2
      unfold dAt
      rw [iAt_take b.1 (by omega), iAt_take (by omega) (by omega)]
    rw [e4]
    exact nd.sublist (List.filter_sublist.map _)
theorem rows_all {m : Int} {ts : List (Int × Int)} (hb : Bd m ts) (h0 : 0 ≤ m) {r : List Int} (hm : isMarks m r) (hu : unl (alongM ts r) = true) : r ∈ rowsM m ts m.toNat := by
  have hl := hm.len h0
  have := rows_has hb hm hu m.toNat (by omega)
  rw [List.take_of_length_le (by omega)] at this
  exact this
theorem comb_rows (ns : List Int) {b m : Int} (hm : 0 < m) (hm2 : m ≤ 12) : rowsM (treeN ns b m) (sortP (combRaw ns b m)) (treeN ns b m).toNat ≠ [] := fun e => by
  have hT := comb_ok ns (b := b) hm hm2
  obtain ⟨h1, h2, _⟩ := zz_comb (comb_gen ns hm) hT (comb_comb ns hm hm2)
  have := rows_all hT.bd (by have := hT.lo; omega) h1 h2
  rw [e] at this
  cases this
end Mt

/-! Ma10: copies round a ring: each pair once; how many ties each place has. -/
namespace Mt
open Fw
def cpT (m : Int) (marks : List Int) (sh : Int) (t : Int × Int) : Int × Int := (min ((iAt marks t.1 + sh) % (2 * m - 1)) ((iAt marks t.2 + sh) % (2 * m - 1)), max ((iAt marks t.1 + sh) % (2 * m - 1)) ((iAt marks t.2 + sh) % (2 * m - 1)))
def copyM (m : Int) (ts : List (Int × Int)) (marks : List Int) (sh : Int) : List (Int × Int) := sortP (ts.map (cpT m marks sh))
def copiesM (m : Int) (ts : List (Int × Int)) (marks : List Int) : List (List (Int × Int)) := (rg (2 * m - 1)).map (copyM m ts marks)
def turnM (m : Int) (marks : List Int) : List Int := marks.map fun x => m - 1 - x
def duePairs (m : Int) : List (Int × Int) := (rg (2 * m - 1)).flatMap fun one => (rgI (one + 1) (2 * m - 1)).map fun two => (one, two)
def endsOf (ts : List (Int × Int)) : List Int := ts.flatMap fun t => [t.1, t.2]
def countsM (ts : List (Int × Int)) (size : Int) : List Int := sortI ((rg size).map fun p => ((endsOf ts).count p : Int))
theorem mod_zero {S z : Int} (hd : S ∣ z) (h1 : -S < z) (h2 : z < S) : z = 0 := by
  by_cases c : 0 ≤ z
  · have e1 := Int.emod_eq_zero_of_dvd hd
    rw [Int.emod_eq_of_lt c h2] at e1
    exact e1
  · have e1 := Int.emod_eq_zero_of_dvd ((Int.dvd_neg).mpr hd)
    rw [Int.emod_eq_of_lt (by omega) (by omega)] at e1
    omega
theorem mod_dvd {S x y : Int} (h : x % S = y % S) : S ∣ x - y := Int.dvd_of_emod_eq_zero (Int.emod_eq_emod_iff_emod_sub_eq_zero.mp h)
section
variable {m : Int} {ts : List (Int × Int)} {mk : List Int}
/-- a place's number in the ring -/
def phi (m : Int) (mk : List Int) (s p : Int) : Int := (iAt mk p + s) % (2 * m - 1)
theorem phi_bd (hm : 1 ≤ m) (s p : Int) : 0 ≤ phi m mk s p ∧ phi m mk s p < 2 * m - 1 := ⟨Int.emod_nonneg _ (by omega), Int.emod_lt_of_pos _ (by omega)⟩
theorem phi_inj (hm : 1 ≤ m) (k : isMarks m mk) {s p q : Int} (p0 : 0 ≤ p) (p1 : p < m) (q0 : 0 ≤ q) (q1 : q < m) (e : phi m mk s p = phi m mk s q) : p = q := by
  have a := k.bd p0 p1
  have b := k.bd q0 q1
  have l := k.len (by omega)
  have d := mod_dvd e
  have z := mod_zero (z := iAt mk p - iAt mk q) (by have : iAt mk p + s - (iAt mk q + s) = iAt mk p - iAt mk q := by omega
                                                    rw [this] at d; exact d) (by omega) (by omega)
  exact iAt_inj k.nd p0 (by omega) q0 (by omega) (by omega)
theorem cpT_eq (m : Int) (mk : List Int) (s : Int) (t : Int × Int) : cpT m mk s t = (min (phi m mk s t.1) (phi m mk s t.2), max (phi m mk s t.1) (phi m mk s t.2)) := rfl
theorem cpT_bd (hm : 1 ≤ m) (hb : Bd m ts) (k : isMarks m mk) {s : Int} {t : Int × Int} (ht : t ∈ ts) : 0 ≤ (cpT m mk s t).1 ∧ (cpT m mk s t).1 < (cpT m mk s t).2 ∧ (cpT m mk s t).2 < 2 * m - 1 := by
  have b := hb t ht
  have p1 := phi_bd (mk := mk) hm s t.1
  have p2 := phi_bd (mk := mk) hm s t.2
  have ne : phi m mk s t.1 ≠ phi m mk s t.2 := fun e => by
    have := phi_inj hm k (by omega) (by omega) (by omega) (by omega) e
    omega
  rw [cpT_eq]
  simp only
  omega
theorem cpT_inj (hm : 1 ≤ m) (hb : Bd m ts) (k : isMarks m mk) (hu : unl (alongM ts mk) = true) {s s' : Int} {t t' : Int × Int} (s0 : 0 ≤ s) (s1 : s < 2 * m - 1) (s0' : 0 ≤ s') (s1' : s' < 2 * m - 1) (ht : t ∈ ts) (ht' : t' ∈ ts) (e : cpT m mk s t = cpT m mk s' t') : s = s' ∧ t = t' := by
  have b := hb t ht
  have b' := hb t' ht'
  have l := k.len (by omega)
  have a1 := k.bd (i := t.1) (by omega) (by omega)
  have a2 := k.bd (i := t.2) (by omega) (by omega)
  have a3 := k.bd (i := t'.1) (by omega) (by omega)
  have a4 := k.bd (i := t'.2) (by omega) (by omega)
  have nd : (ts.map (dAt mk)).Nodup := of_decide_eq_true hu
  have same : dAt mk t = dAt mk t' → t = t' := fun e => by
    obtain ⟨i, hi, e1⟩ := List.mem_iff_getElem.mp ht
    obtain ⟨j, hj, e2⟩ := List.mem_iff_getElem.mp ht'
    have := (List.getElem?_inj (i := i) (j := j) (by rw [List.length_map]; exact hi) nd).mp (by
      rw [List.getElem?_map, List.getElem?_map, List.getElem?_eq_getElem hi, List.getElem?_eq_getElem hj, e1, e2, Option.map_some, Option.map_some, e])
    subst this
    rw [← e1, ← e2]
  rw [cpT_eq, cpT_eq] at e
  have e1 := congrArg Prod.fst e
  have e2 := congrArg Prod.snd e
  simp only at e1 e2
  have key : (phi m mk s t.1 = phi m mk s' t'.1 ∧ phi m mk s t.2 = phi m mk s' t'.2) ∨ (phi m mk s t.1 = phi m mk s' t'.2 ∧ phi m mk s t.2 = phi m mk s' t'.1) := by omega
  rcases key with ⟨q1, q2⟩ | ⟨q1, q2⟩
  · have d1 := mod_dvd q1
    have d2 := mod_dvd q2
    have z := mod_zero (z := (iAt mk t.1 - iAt mk t.2) - (iAt mk t'.1 - iAt mk t'.2)) (by
      have := Int.dvd_sub d1 d2
      have e3 : iAt mk t.1 + s - (iAt mk t'.1 + s') - (iAt mk t.2 + s - (iAt mk t'.2 + s')) = (iAt mk t.1 - iAt mk t.2) - (iAt mk t'.1 - iAt mk t'.2) := by omega
      rw [e3] at this; exact this) (by omega) (by omega)
    have et := same (by unfold dAt; omega)
    subst et
    have z2 := mod_zero (z := s - s') (by
      have e3 : iAt mk t.1 + s - (iAt mk t.1 + s') = s - s' := by omega
      rw [e3] at d1; exact d1) (by omega) (by omega)
    exact ⟨by omega, rfl⟩
  · have d1 := mod_dvd q1
    have d2 := mod_dvd q2
    have z := mod_zero (z := (iAt mk t.1 - iAt mk t.2) - (iAt mk t'.2 - iAt mk t'.1)) (by
      have := Int.dvd_sub d1 d2
      have e3 : iAt mk t.1 + s - (iAt mk t'.2 + s') - (iAt mk t.2 + s - (iAt mk t'.1 + s')) = (iAt mk t.1 - iAt mk t.2) - (iAt mk t'.2 - iAt mk t'.1) := by omega
      rw [e3] at this; exact this) (by omega) (by omega)
    have et := same (by unfold dAt; omega)
    subst et
    have : t.1 = t.2 := iAt_inj k.nd (by omega) (by omega) (by omega) (by omega) (by omega)
    omega
theorem copy_len (s : Int) : (copyM m ts mk s).length = ts.length := by unfold copyM; rw [sortP_len, List.length_map]
theorem mem_copy {s : Int} {x : Int × Int} : x ∈ copyM m ts mk s ↔ ∃ t ∈ ts, cpT m mk s t = x := by
  unfold copyM
  rw [(sortP_perm _).mem_iff, List.mem_map]
theorem pairs_nd (hm : 1 ≤ m) (hb : Bd m ts) (hn : ts.Nodup) (k : isMarks m mk) (hu : unl (alongM ts mk) = true) : (copiesM m ts mk).flatten.Nodup := by
  unfold copiesM
  refine List.pairwise_flatten.mpr ⟨fun l hl => ?_, List.pairwise_map.mpr (List.Pairwise.imp_of_mem (fun {s s'} hs hs' ne x hx y hy e => ?_) (rgI_nodup 0 (2 * m - 1)))⟩
  · obtain ⟨s, hs, rfl⟩ := List.mem_map.mp hl
    have sb := mem_rg.mp hs
    unfold copyM
    refine (sortP_perm _).nodup_iff.mpr (List.pairwise_map.mpr (List.Pairwise.imp_of_mem (fun {t t'} ht ht' ne e => ne ?_) hn))
    exact (cpT_inj hm hb k hu sb.1 sb.2 sb.1 sb.2 ht ht' e).2
  · have sb := mem_rg.mp hs
    have sb' := mem_rg.mp hs'
    obtain ⟨t, ht, rfl⟩ := mem_copy.mp hx
    obtain ⟨t', ht', e'⟩ := mem_copy.mp hy
    rw [← e'] at e
    exact ne (cpT_inj hm hb k hu sb.1 sb.2 sb'.1 sb'.2 ht ht' e).1
theorem flat_len {α : Type} {n : Nat} : ∀ {L : List (List α)}, (∀ l ∈ L, l.length = n) → L.flatten.length = L.length * n
  | [], _ => by simp
  | l :: L, h => by
    rw [List.flatten_cons, List.length_append, h l List.mem_cons_self, flat_len (L := L) (fun l hl => h l (List.mem_cons_of_mem _ hl)), List.length_cons, Nat.succ_mul]
    omega
theorem pairs_len : (copiesM m ts mk).flatten.length = (2 * m - 1).toNat * ts.length := by
  rw [flat_len (n := ts.length) (fun l hl => by
    unfold copiesM at hl
    obtain ⟨s, _, rfl⟩ := List.mem_map.mp hl
    exact copy_len s)]
  unfold copiesM
  rw [List.length_map, rg_len]
theorem mem_due {x : Int × Int} : x ∈ duePairs m ↔ 0 ≤ x.1 ∧ x.1 < x.2 ∧ x.2 < 2 * m - 1 := by
  unfold duePairs
  rw [List.mem_flatMap]
  constructor
  · rintro ⟨one, h1, h2⟩
    obtain ⟨two, h3, rfl⟩ := List.mem_map.mp h2
    have a := mem_rg.mp h1
    have b := mem_rgI.mp h3
    exact ⟨a.1, by simp only; omega, b.2⟩
  · rintro ⟨h1, h2, h3⟩
    exact ⟨x.1, mem_rg.mpr ⟨h1, by omega⟩, List.mem_map.mpr ⟨x.2, mem_rgI.mpr ⟨by omega, h3⟩, rfl⟩⟩
theorem due_lt : (duePairs m).Pairwise ltP := by
  unfold duePairs
  refine List.pairwise_flatMap.mpr ⟨fun one _ => List.pairwise_map.mpr ((rgI_sorted _ _).imp fun {a b} h => .inr ⟨rfl, h⟩), (rgI_sorted 0 (2 * m - 1)).imp fun {a b} h x hx y hy => ?_⟩
  obtain ⟨_, _, rfl⟩ := List.mem_map.mp hx
  obtain ⟨_, _, rfl⟩ := List.mem_map.mp hy
  exact .inl h
theorem due_len12 : ∀ k : Fin 13, (duePairs ((k.val : Nat) : Int)).length = (2 * ((k.val : Nat) : Int) - 1).toNat * (((k.val : Nat) : Int) - 1).toNat := by decide +kernel
theorem due_len (h1 : 1 ≤ m) (h2 : m ≤ 12) : (duePairs m).length = (2 * m - 1).toNat * (m - 1).toNat := by
  have := due_len12 ⟨m.toNat, by omega⟩
  simp only at this
  rw [show ((m.toNat : Nat) : Int) = m by omega] at this
  exact this
theorem pairs_all (hT : TreeOk m ts) (k : isMarks m mk) (hu : unl (alongM ts mk) = true) : sortP (copiesM m ts mk).flatten = duePairs m := by
  have hm := hT.lo
  have nd := pairs_nd hm hT.bd hT.nodup k hu
  refine (sortP_eq ?_ ((due_lt (m := m)).imp fun {a b} h => by rw [leP_iff]; unfold ltP at h; omega)).symm
  refine (perm_of_sub2 nd ((due_lt (m := m)).imp fun {a b} h e => by subst e; unfold ltP at h; omega) (fun x hx => mem_due.mpr ?_) ?_).symm
  · obtain ⟨l, hl, hx⟩ := List.mem_flatten.mp hx
    unfold copiesM at hl
    obtain ⟨s, _, rfl⟩ := List.mem_map.mp hl
    obtain ⟨t, ht, rfl⟩ := mem_copy.mp hx
    exact cpT_bd hm hT.bd k ht
  · rw [pairs_len, due_len hm hT.hi]
    congr 1
    have := hT.len
    omega
/-! ### how many ties each place has -/
theorem ends_copy (s : Int) : (endsOf (copyM m ts mk s)).Perm ((endsOf ts).map (phi m mk s)) := by
  unfold copyM
  refine ((sortP_perm _).flatMap_right (fun t => [t.1, t.2])).trans ?_
  unfold endsOf
  rw [List.flatMap_map, List.map_flatMap]
  induction ts with
  | nil => exact .refl _
  | cons t ts ih =>
    rw [List.flatMap_cons, List.flatMap_cons]
    refine List.Perm.append ?_ ih
    rw [cpT_eq]
    show List.Perm [min (phi m mk s t.1) (phi m mk s t.2), max (phi m mk s t.1) (phi m mk s t.2)] [phi m mk s t.1, phi m mk s t.2]
    by_cases z : phi m mk s t.1 ≤ phi m mk s t.2
    · rw [Int.min_eq_left z, Int.max_eq_right z]
    · rw [Int.min_eq_right (by omega), Int.max_eq_left (by omega)]
      exact .swap _ _ _
theorem count_map {f : Int → Int} : ∀ {l : List Int} {p : Int}, (∀ q ∈ l, f q = f p → q = p) → (l.map f).count (f p) = l.count p
  | [], _, _ => rfl
  | x :: l, p, h => by
    rw [List.map_cons, List.count_cons, List.count_cons, count_map (fun q hq => h q (List.mem_cons_of_mem _ hq))]
    by_cases e : x = p
    · subst e; rw [if_pos (by simp), if_pos (by simp)]
    · rw [if_neg (by simpa using fun z => e (h x List.mem_cons_self z)), if_neg (by simpa using e)]
theorem sort_zeros {l : List Int} (n : Nat) (h : ∀ x ∈ l, 0 ≤ x) : sortI (l ++ List.replicate n 0) = List.replicate n 0 ++ sortI l := by
  refine (sortI_eq ?_ (List.pairwise_append.mpr ⟨List.pairwise_replicate.mpr (.inr (Int.le_refl 0)), sortI_le l, fun x hx y hy => ?_⟩)).symm
  · exact List.perm_append_comm.trans ((sortI_perm l).append_right _)
  · rw [List.eq_of_mem_replicate hx]
    exact h y ((sortI_perm l).mem_iff.mp hy)
theorem sortI_congr {l r : List Int} (p : l.Perm r) : sortI l = sortI r := sortI_eq ((sortI_perm l).trans p) (sortI_le l)
theorem copy_counts (hT : TreeOk m ts) (k : isMarks m mk) (s : Int) : (countsM (copyM m ts mk s) (2 * m - 1)).drop (m - 1).toNat = countsM ts m := by
  have hm := hT.lo
  have eb : ∀ p ∈ endsOf ts, 0 ≤ p ∧ p < m := fun p hp => by
    unfold endsOf at hp
    obtain ⟨t, ht, h⟩ := List.mem_flatMap.mp hp
    have b := hT.bd t ht
    rcases List.mem_cons.mp h with rfl | h
    · omega
    · rw [List.mem_singleton] at h; omega
  let im := (rg m).map (phi m mk s)
  have ind : im.Nodup := List.pairwise_map.mpr (List.Pairwise.imp_of_mem (fun {p q} hp hq ne e => ne (phi_inj hm k (mem_rg.mp hp).1 (mem_rg.mp hp).2 (mem_rg.mp hq).1 (mem_rg.mp hq).2 e)) (rgI_nodup 0 m))
  have imem : ∀ x ∈ im, 0 ≤ x ∧ x < 2 * m - 1 := fun x hx => by
    obtain ⟨p, _, rfl⟩ := List.mem_map.mp hx
    exact phi_bd hm s p
  have f1 : ((rg (2 * m - 1)).filter fun x => decide (x ∈ im)).Perm im := (List.perm_ext_iff_of_nodup ((rgI_nodup _ _).filter _) ind).mpr fun x => by
    rw [List.mem_filter, decide_eq_true_iff]
    exact ⟨fun h => h.2, fun h => ⟨mem_rg.mpr (imem x h), h⟩⟩
  have pm : (rg (2 * m - 1)).Perm (im ++ (rg (2 * m - 1)).filter fun x => !decide (x ∈ im)) := (List.filter_append_perm (fun x => decide (x ∈ im)) (rg (2 * m - 1))).symm.trans (f1.append_right _)
  have lim : im.length = m.toNat := by rw [List.length_map, rg_len]
  have hrl : ((rg (2 * m - 1)).filter fun x => !decide (x ∈ im)).length = (m - 1).toNat := by
    have := pm.length_eq
    rw [List.length_append, rg_len, lim] at this
    omega
  have cnt : ∀ x, ((endsOf (copyM m ts mk s)).count x : Int) = (((endsOf ts).map (phi m mk s)).count x : Int) := fun x => by rw [(ends_copy s).count_eq]
  have p2 : ((rg (2 * m - 1)).map fun x => ((endsOf (copyM m ts mk s)).count x : Int)).Perm (((rg m).map fun p => ((endsOf ts).count p : Int)) ++ List.replicate (m - 1).toNat 0) := by
    refine (pm.map _).trans ?_
    rw [List.map_append]
    have e1 : im.map (fun x => ((endsOf (copyM m ts mk s)).count x : Int)) = (rg m).map fun p => ((endsOf ts).count p : Int) := by
      show ((rg m).map (phi m mk s)).map _ = _
      rw [List.map_map]
      refine List.map_congr_left fun p hp => ?_
      have pb := mem_rg.mp hp
      show ((endsOf (copyM m ts mk s)).count (phi m mk s p) : Int) = _
      rw [cnt, count_map fun q hq e => phi_inj hm k (eb q hq).1 (eb q hq).2 pb.1 pb.2 e]
    have e2 : ((rg (2 * m - 1)).filter fun x => !decide (x ∈ im)).map (fun x => ((endsOf (copyM m ts mk s)).count x : Int)) = List.replicate (m - 1).toNat 0 := by
      refine List.eq_replicate_iff.mpr ⟨by rw [List.length_map]; exact hrl, fun z hz => ?_⟩
      obtain ⟨x, hx, rfl⟩ := List.mem_map.mp hz
      have hx := (List.mem_filter.mp hx).2
      rw [cnt]
      have : ¬ x ∈ (endsOf ts).map (phi m mk s) := fun h => by
        obtain ⟨p, hp, rfl⟩ := List.mem_map.mp h
        have hin : phi m mk s p ∈ im := List.mem_map.mpr ⟨p, mem_rg.mpr (eb p hp), rfl⟩
        rw [decide_eq_true hin] at hx
        cases hx
      rw [List.count_eq_zero.mpr this]; rfl
    rw [e1, e2]
  unfold countsM
  rw [sortI_congr p2, sort_zeros _ (fun x hx => by
    obtain ⟨p, _, rfl⟩ := List.mem_map.mp hx
    omega), List.drop_left' (List.length_replicate ..)]
/-! ### turned about -/
theorem turn_at (hl : (mk.length : Int) = m) {i : Int} (h0 : 0 ≤ i) (h1 : i < m) : iAt (turnM m mk) i = m - 1 - iAt mk i := iAt_map (fun x => m - 1 - x) (by omega)
theorem turn_len : (turnM m mk).length = mk.length := by unfold turnM; rw [List.length_map]
theorem turn_marks (hm : 0 ≤ m) (k : isMarks m mk) : isMarks m (turnM m mk) := by
  have l := k.len hm
  refine perm_rgI ?_ (fun x hx => ?_) (by rw [turn_len]; omega)
  · unfold turnM
    exact List.pairwise_map.mpr (k.nd.imp fun {a b} ne e => ne (by omega))
  · unfold turnM at hx
    obtain ⟨y, hy, rfl⟩ := List.mem_map.mp hx
    have := mem_rg.mp (k.mem_iff.mp hy)
    omega
theorem turn_along (hm : 0 ≤ m) (hb : Bd m ts) (k : isMarks m mk) : alongM ts (turnM m mk) = alongM ts mk := by
  have l := k.len hm
  unfold alongM
  refine List.map_congr_left fun t ht => ?_
  have b := hb t ht
  unfold dAt
  rw [turn_at l (by omega) (by omega), turn_at l (by omega) (by omega)]
  omega
theorem turn_turn : turnM m (turnM m mk) = mk := by
  unfold turnM
  rw [List.map_map]
  have : (fun x => m - 1 - x) ∘ (fun x => m - 1 - x) = (id : Int → Int) := funext fun x => by show m - 1 - (m - 1 - x) = x; omega
  rw [this, List.map_id]
end
end Mt

/-! Ma11: places numbered otherwise; how many good marks there are. -/
namespace Mt
open Fw
theorem sub_lenG {α : Type} [BEq α] [LawfulBEq α] : ∀ {l r : List α}, l.Nodup → (∀ x ∈ l, x ∈ r) → l.length ≤ r.length
  | [], _, _, _ => Nat.zero_le _
  | x :: l, r, hn, h => by
    have hx := h x List.mem_cons_self
    have h2 : l.length ≤ (r.erase x).length := sub_lenG (List.nodup_cons.mp hn).2 fun y hy => by
      refine (List.mem_erase_of_ne ?_).mpr (h y (List.mem_cons_of_mem _ hy))
      intro e; subst e; exact (List.nodup_cons.mp hn).1 hy
    rw [List.length_erase_of_mem hx] at h2
    have := List.length_pos_of_mem hx
    rw [List.length_cons]; omega
theorem self_map {l : List Int} {m : Int} (h : l.length = m.toNat) : l = (rg m).map (iAt l) := by
  refine List.ext_getElem? fun k => ?_
  by_cases hk : k < m.toNat
  · rw [List.getElem?_map, rgI_get (by omega), Int.zero_add]
    have := iAt_get (l := l) (i := (k : Int)) (by omega)
    rw [show ((k : Int)).toNat = k by omega] at this
    rw [this]; rfl
  · rw [List.getElem?_eq_none (by omega), List.getElem?_eq_none (by rw [List.length_map, rg_len]; omega)]
theorem list_ext {l r : List Int} {m : Int} (h1 : l.length = m.toNat) (h2 : r.length = m.toNat) (h : ∀ p, 0 ≤ p → p < m → iAt l p = iAt r p) : l = r := by
  rw [self_map h1, self_map h2]
  exact List.map_congr_left fun p hp => h p (mem_rg.mp hp).1 (mem_rg.mp hp).2
/-! ### all good marks: each once -/
theorem rows_nd {m : Int} {ts : List (Int × Int)} (hb : Bd m ts) : ∀ n : Nat, (rowsM m ts n).Nodup
  | 0 => List.pairwise_singleton _ _
  | n + 1 => by
    unfold rowsM
    refine List.pairwise_flatMap.mpr ⟨fun r _ => ?_, List.Pairwise.imp_of_mem (fun {r r'} hr hr' ne x hx y hy e => ?_) (rows_nd hb n)⟩
    · unfold extX
      refine List.pairwise_map.mpr (((rgI_nodup 0 m).filter _).imp fun {a b} ne e => ne ?_)
      have := List.append_cancel_left e
      cases this; rfl
    · unfold extX at hx hy
      obtain ⟨a, _, rfl⟩ := List.mem_map.mp hx
      obtain ⟨b, _, rfl⟩ := List.mem_map.mp hy
      exact ne (List.append_inj_left' e rfl)
theorem rows_iff {m : Int} {ts : List (Int × Int)} (hT : TreeOk m ts) {r : List Int} : r ∈ rowsM m ts m.toNat ↔ isMarks m r ∧ unl (alongM ts r) = true := by
  have t1 := hT.lo
  constructor
  · intro h
    obtain ⟨ro, rl⟩ := rows_ok hT.bd h
    have im := row_marks ro (by omega)
    exact ⟨im, by rw [← good_unl hT.bd hT.len im]; exact row_good hT.bd hT.len ro (by omega)⟩
  · intro h
    exact rows_all hT.bd (by omega) h.1 h.2
theorem rows_turn {m : Int} {ts : List (Int × Int)} (hT : TreeOk m ts) {r : List Int} (h : r ∈ rowsM m ts m.toNat) : turnM m r ∈ rowsM m ts m.toNat := by
  obtain ⟨k, u⟩ := (rows_iff hT).mp h
  have t1 := hT.lo
  exact (rows_iff hT).mpr ⟨turn_marks (by omega) k, by rw [turn_along (by omega) hT.bd k]; exact u⟩
theorem pos_turn {m : Int} {r : List Int} (hm : 1 ≤ m) (k : isMarks m r) {x : Int} (x0 : 0 ≤ x) (x1 : x < m) : posI (turnM m r) x = posI r (m - 1 - x) := by
  have k' := turn_marks (by omega) k
  have p := posI_spec k' x0 x1
  have q := posI_spec k (x := m - 1 - x) (by omega) (by omega)
  have l := k.len (by omega)
  have l' := k'.len (by omega)
  refine iAt_inj k'.nd p.1 (by omega) q.1 (by omega) ?_
  rw [p.2.2.1, turn_at l q.1 q.2.1, q.2.2.1]
  omega
theorem rows_even {m : Int} {ts : List (Int × Int)} (hT : TreeOk m ts) (h1 : 1 < m) : (rowsM m ts m.toNat).length % 2 = 0 := by
  have nd := rows_nd hT.bd m.toNat
  have tn : ∀ r ∈ rowsM m ts m.toNat, turnM m r ∈ rowsM m ts m.toNat := fun r h => rows_turn hT h
  have mk : ∀ r ∈ rowsM m ts m.toNat, isMarks m r := fun r h => ((rows_iff hT).mp h).1
  generalize rowsM m ts m.toNat = L at nd tn mk
  let P : List Int → Bool := fun r => decide (posI r 0 < posI r (m - 1))
  have tinj : ∀ {l : List (List Int)}, l.Nodup → (l.map (turnM m)).Nodup := fun {l} h => List.pairwise_map.mpr (h.imp fun {a b} ne e => ne (by
    have := congrArg (turnM m) e
    rw [turn_turn, turn_turn] at this
    exact this))
  have flip : ∀ r ∈ L, P (turnM m r) = !P r := fun r hr => by
    have k := mk r hr
    show decide _ = !decide _
    rw [pos_turn (by omega) k (by omega) (by omega), pos_turn (by omega) k (by omega) (by omega), Int.sub_zero, show m - 1 - (m - 1) = (0 : Int) by omega]
    have p := posI_spec k (x := 0) (by omega) (by omega)
    have q := posI_spec k (x := m - 1) (by omega) (by omega)
    have ne : posI r 0 ≠ posI r (m - 1) := fun e => by
      have a := p.2.2.1
      rw [e, q.2.2.1] at a
      omega
    by_cases c : posI r 0 < posI r (m - 1)
    · rw [decide_eq_true c, decide_eq_false (by omega)]; rfl
    · rw [decide_eq_false c, decide_eq_true (by omega)]; rfl
  have a1 := sub_lenG (l := (L.filter P).map (turnM m)) (r := L.filter fun r => !P r) (tinj (nd.filter _)) fun x hx => by
    obtain ⟨r, hr, rfl⟩ := List.mem_map.mp hx
    obtain ⟨r1, r2⟩ := List.mem_filter.mp hr
    exact List.mem_filter.mpr ⟨tn r r1, by rw [flip r r1, r2]; rfl⟩
  have a2 := sub_lenG (l := (L.filter fun r => !P r).map (turnM m)) (r := L.filter P) (tinj (nd.filter _)) fun x hx => by
    obtain ⟨r, hr, rfl⟩ := List.mem_map.mp hx
    obtain ⟨r1, r2⟩ := List.mem_filter.mp hr
    exact List.mem_filter.mpr ⟨tn r r1, by rw [flip r r1]; exact r2⟩
  rw [List.length_map] at a1 a2
  have := (List.filter_append_perm P L).length_eq
  rw [List.length_append] at this
  omega
/-! ### numbered otherwise -/
def relT (σ : List Int) (t : Int × Int) : Int × Int := (min (iAt σ t.1) (iAt σ t.2), max (iAt σ t.1) (iAt σ t.2))
def relTs (σ : List Int) (ts : List (Int × Int)) : List (Int × Int) := sortP (ts.map (relT σ))
def moveN (σ mk : List Int) (m : Int) : Nat → List Int
  | 0 => List.replicate m.toNat 0
  | n + 1 => setI (moveN σ mk m n) (iAt σ n) (iAt mk n)
def moveM (m : Int) (σ mk : List Int) : List Int := moveN σ mk m m.toNat
def backM (m : Int) (σ mk : List Int) : List Int := (rg m).map fun p => iAt mk (iAt σ p)
section
variable {m : Int} {ts : List (Int × Int)} {σ mk : List Int}
theorem moveN_len : ∀ n : Nat, (moveN σ mk m n).length = m.toNat
  | 0 => List.length_replicate
  | n + 1 => by show (setI _ _ _).length = _; rw [setI_len, moveN_len n]
theorem moveN_at (k : isMarks m σ) : ∀ (n : Nat), (n : Int) ≤ m → ∀ p : Int, 0 ≤ p → p < n → iAt (moveN σ mk m n) (iAt σ p) = iAt mk p
  | 0, _, p, h0, h1 => by omega
  | n + 1, hn, p, h0, h1 => by
    have b := k.bd (i := (n : Int)) (by omega) (by omega)
    have bp := k.bd (i := p) h0 (by omega)
    have l := moveN_len (σ := σ) (mk := mk) (m := m) n
    have sl := k.len (by omega)
    show iAt (setI (moveN σ mk m n) (iAt σ n) (iAt mk n)) (iAt σ p) = iAt mk p
    by_cases c : p = n
    · subst c
      exact iAt_setI_eq b.1 (by omega)
    · rw [iAt_setI_ne b.1 bp.1 (fun e => c (iAt_inj k.nd h0 (by omega) (by omega) (by omega) e.symm))]
      exact moveN_at k n (by omega) p h0 (by omega)
theorem move_at (k : isMarks m σ) {p : Int} (h0 : 0 ≤ p) (h1 : p < m) : iAt (moveM m σ mk) (iAt σ p) = iAt mk p := moveN_at k m.toNat (by omega) p h0 (by omega)
theorem move_len : (moveM m σ mk).length = m.toNat := moveN_len _
theorem rel_self (k : isMarks m σ) (h0 : 0 ≤ m) : σ = (rg m).map (iAt σ) := self_map (by have := k.len h0; omega)
theorem move_marks (h0 : 0 ≤ m) (k : isMarks m σ) (km : isMarks m mk) : isMarks m (moveM m σ mk) := by
  have e1 := self_map (move_len (m := m) (σ := σ) (mk := mk))
  have p1 : (moveM m σ mk).Perm (σ.map (iAt (moveM m σ mk))) := by
    have : ((rg m).map (iAt (moveM m σ mk))).Perm (σ.map (iAt (moveM m σ mk))) := List.Perm.map _ (show (rg m).Perm σ from k.symm)
    rw [← e1] at this
    exact this
  have e2 : σ.map (iAt (moveM m σ mk)) = mk := by
    rw [rel_self (m := m) k h0, List.map_map]
    have e3 : mk = (rg m).map (iAt mk) := self_map (by have := km.len h0; omega)
    refine Eq.trans ?_ e3.symm
    refine List.map_congr_left fun p hp => ?_
    have e4 := rel_self (m := m) k h0
    show iAt (moveM m ((rg m).map (iAt σ)) mk) (iAt σ p) = iAt mk p
    rw [← e4]
    exact move_at k (mem_rg.mp hp).1 (mem_rg.mp hp).2
  rw [e2] at p1
  exact p1.trans km
theorem dAt_rel (hb : Bd m ts) {x : List Int} {y : List Int} (h : ∀ p, 0 ≤ p → p < m → iAt x (iAt σ p) = iAt y p) : (ts.map (relT σ)).map (dAt x) = ts.map (dAt y) := by
  rw [List.map_map]
  refine List.map_congr_left fun t ht => ?_
  have b := hb t ht
  have h1 := h t.1 (by omega) (by omega)
  have h2 := h t.2 (by omega) (by omega)
  show dAt x (relT σ t) = dAt y t
  unfold dAt relT
  simp only
  by_cases z : iAt σ t.1 ≤ iAt σ t.2
  · rw [Int.min_eq_left z, Int.max_eq_right z, h1, h2]
  · rw [Int.min_eq_right (by omega), Int.max_eq_left (by omega), h1, h2]; omega
theorem unl_rel (hb : Bd m ts) {x y : List Int} (h : ∀ p, 0 ≤ p → p < m → iAt x (iAt σ p) = iAt y p) : unl (alongM (relTs σ ts) x) = unl (alongM ts y) := by
  unfold relTs
  rw [unl_perm (sortP_perm _)]
  unfold unl alongM
  rw [dAt_rel hb h]
theorem back_at {p : Int} (h0 : 0 ≤ p) (h1 : p < m) : iAt (backM m σ mk) p = iAt mk (iAt σ p) := by
  unfold backM
  rw [iAt_map (fun p => iAt mk (iAt σ p)) (by rw [rg_len]; omega), iAt_rg h0 h1]
theorem back_marks (h0 : 0 ≤ m) (k : isMarks m σ) (km : isMarks m mk) : isMarks m (backM m σ mk) := by
  have e1 : backM m σ mk = σ.map (iAt mk) := by
    unfold backM
    have e := rel_self (m := m) k h0
    refine Eq.trans ?_ (congrArg (List.map (iAt mk)) e.symm)
    rw [List.map_map]; rfl
  have p1 : (σ.map (iAt mk)).Perm ((rg m).map (iAt mk)) := List.Perm.map _ (show σ.Perm (rg m) from k)
  rw [← self_map (by have := km.len h0; omega), ← e1] at p1
  exact p1.trans km
theorem rel_gen (g : Gen m ts) (hm : 1 ≤ m) (k : isMarks m σ) : Gen m (relTs σ ts) := by
  obtain ⟨names, f, hp, hf, e⟩ := g.ex
  have hl : names.length = m.toNat := by rw [hp.length_eq, rg_len]
  refine ⟨names.map (iAt σ), f, ?_, hf, ?_⟩
  · have p1 : (names.map (iAt σ)).Perm ((rg m).map (iAt σ)) := hp.map _
    rw [← rel_self k (by omega)] at p1
    exact p1.trans k
  · unfold relTs
    refine sortP_eq ((sortP_perm _).trans ?_) (sortP_le _)
    have p2 : (ts.map (relT σ)).Perm ((tiesOf names f (m.toNat - 1)).map (relT σ)) := by
      rw [e]; exact (sortP_perm _).map _
    refine p2.trans (List.Perm.of_eq ?_)
    unfold tiesOf
    rw [List.map_map]
    refine List.map_congr_left fun i hi => ?_
    have hi := List.mem_range.mp hi
    have fb := hf (1 + i) (by omega) (by omega)
    show relT σ (tieOf names (1 + i) (f (1 + i))) = tieOf (names.map (iAt σ)) (1 + i) (f (1 + i))
    rw [tieOf_iAt, tieOf_iAt, iAt_map (iAt σ) (by omega), iAt_map (iAt σ) (by omega)]
    unfold relT
    simp only
    by_cases z : iAt names (1 + i) ≤ iAt names (f (1 + i))
    · rw [Int.min_eq_left z, Int.max_eq_right z]
    · rw [Int.min_eq_right (show iAt names (f (1 + i)) ≤ iAt names (1 + i) by omega), Int.max_eq_left (show iAt names (f (1 + i)) ≤ iAt names (1 + i) by omega)]
      rw [Int.min_comm, Int.max_comm]
theorem rel_tree (g : Gen m ts) (hm : 1 ≤ m) (hm2 : m ≤ 12) (k : isMarks m σ) : TreeOk m (relTs σ ts) := by
  obtain ⟨names, f, hp, hf, e⟩ := (rel_gen g hm k).ex
  rw [e]
  exact mk_tree hm hm2 hp hf
/-! as many good marks -/
theorem rows_move (hT : TreeOk m ts) (hT' : TreeOk m (relTs σ ts)) (k : isMarks m σ) {r : List Int} (h : r ∈ rowsM m ts m.toNat) : moveM m σ r ∈ rowsM m (relTs σ ts) m.toNat := by
  obtain ⟨km, u⟩ := (rows_iff hT).mp h
  have t1 := hT.lo
  exact (rows_iff hT').mpr ⟨move_marks (by omega) k km, by rw [unl_rel hT.bd fun p p0 p1 => move_at k p0 p1]; exact u⟩
theorem rows_back (hT : TreeOk m ts) (hT' : TreeOk m (relTs σ ts)) (k : isMarks m σ) {r : List Int} (h : r ∈ rowsM m (relTs σ ts) m.toNat) : backM m σ r ∈ rowsM m ts m.toNat := by
  obtain ⟨km, u⟩ := (rows_iff hT').mp h
  have t1 := hT.lo
  refine (rows_iff hT).mpr ⟨back_marks (by omega) k km, ?_⟩
  rw [← unl_rel (σ := σ) (x := r) hT.bd fun p p0 p1 => (back_at p0 p1).symm]
  exact u
theorem rows_same (hT : TreeOk m ts) (hT' : TreeOk m (relTs σ ts)) (k : isMarks m σ) : (rowsM m (relTs σ ts) m.toNat).length = (rowsM m ts m.toNat).length := by
  have t1 := hT.lo
  have sur : ∀ q, 0 ≤ q → q < m → ∃ p, 0 ≤ p ∧ p < m ∧ iAt σ p = q := fun q q0 q1 => by
    obtain ⟨p, p0, p1, e⟩ := iAt_surj (k.mem_iff.mpr (mem_rg.mpr ⟨q0, q1⟩))
    exact ⟨p, p0, by have := k.len (by omega); omega, e⟩
  have n1 := rows_nd hT.bd m.toNat
  have n2 := rows_nd hT'.bd m.toNat
  have i1 : ((rowsM m ts m.toNat).map (moveM m σ)).Nodup := List.pairwise_map.mpr (List.Pairwise.imp_of_mem (fun {a b} ha hb ne e => ne (list_ext (m := m) (rows_ok hT.bd ha).2 (rows_ok hT.bd hb).2 fun p p0 p1 => by
    rw [← move_at (mk := a) k p0 p1, ← move_at (mk := b) k p0 p1, e])) n1)
  have i2 : ((rowsM m (relTs σ ts) m.toNat).map (backM m σ)).Nodup := List.pairwise_map.mpr (List.Pairwise.imp_of_mem (fun {a b} ha hb ne e => ne (list_ext (m := m) (rows_ok hT'.bd ha).2 (rows_ok hT'.bd hb).2 fun q q0 q1 => by
    obtain ⟨p, p0, p1, rfl⟩ := sur q q0 q1
    rw [← back_at (mk := a) p0 p1, ← back_at (mk := b) p0 p1, e])) n2)
  have a1 := sub_lenG (r := rowsM m (relTs σ ts) m.toNat) i1 fun x hx => by
    obtain ⟨r, hr, rfl⟩ := List.mem_map.mp hx
    exact rows_move hT hT' k hr
  have a2 := sub_lenG (r := rowsM m ts m.toNat) i2 fun x hx => by
    obtain ⟨r, hr, rfl⟩ := List.mem_map.mp hx
    exact rows_back hT hT' k hr
  rw [List.length_map] at a1 a2
  omega
/-! a comb still -/
theorem mem_rel {t : Int × Int} : t ∈ relTs σ ts ↔ ∃ u ∈ ts, relT σ u = t := by
  unfold relTs
  rw [(sortP_perm _).mem_iff, List.mem_map]
theorem bes_rel (hT : TreeOk m ts) (k : isMarks m σ) {p q : Int} (p0 : 0 ≤ p) (p1 : p < m) (q0 : 0 ≤ q) (q1 : q < m) : iAt σ q ∈ besM (relTs σ ts) (iAt σ p) ↔ q ∈ besM ts p := by
  have sl := k.len (by omega)
  have inj : ∀ a b, 0 ≤ a → a < m → 0 ≤ b → b < m → iAt σ a = iAt σ b → a = b := fun a b a0 a1 b0 b1 e => iAt_inj k.nd a0 (by omega) b0 (by omega) e
  rw [mem_bes, mem_bes, mem_rel, mem_rel]
  constructor
  · intro h
    obtain ⟨u, hu, h⟩ : ∃ u ∈ ts, (iAt σ u.1 = iAt σ p ∧ iAt σ u.2 = iAt σ q) ∨ (iAt σ u.1 = iAt σ q ∧ iAt σ u.2 = iAt σ p) := by
      rcases h with ⟨u, hu, e⟩ | ⟨u, hu, e⟩
      · refine ⟨u, hu, ?_⟩
        unfold relT at e
        have e1 := congrArg Prod.fst e
        have e2 := congrArg Prod.snd e
        simp only at e1 e2
        omega
      · refine ⟨u, hu, ?_⟩
        unfold relT at e
        have e1 := congrArg Prod.fst e
        have e2 := congrArg Prod.snd e
        simp only at e1 e2
        omega
    have b := hT.bd u hu
    rcases h with ⟨h1, h2⟩ | ⟨h1, h2⟩
    · have a1 := inj _ _ (by omega) (by omega) p0 p1 h1
      have a2 := inj _ _ (by omega) (by omega) q0 q1 h2
      exact .inl (by rw [← a1, ← a2]; exact hu)
    · have a1 := inj _ _ (by omega) (by omega) q0 q1 h1
      have a2 := inj _ _ (by omega) (by omega) p0 p1 h2
      exact .inr (by rw [← a1, ← a2]; exact hu)
  · intro h
    rcases h with h | h
    · by_cases z : iAt σ p ≤ iAt σ q
      · exact .inl ⟨_, h, by unfold relT; simp only; rw [Int.min_eq_left z, Int.max_eq_right z]⟩
      · exact .inr ⟨_, h, by unfold relT; simp only; rw [Int.min_eq_right (by omega), Int.max_eq_left (by omega)]⟩
    · by_cases z : iAt σ q ≤ iAt σ p
      · exact .inr ⟨_, h, by unfold relT; simp only; rw [Int.min_eq_left z, Int.max_eq_right z]⟩
      · exact .inl ⟨_, h, by unfold relT; simp only; rw [Int.min_eq_right (by omega), Int.max_eq_left (by omega)]⟩
theorem bes_perm (hT : TreeOk m ts) (hT' : TreeOk m (relTs σ ts)) (k : isMarks m σ) {p : Int} (p0 : 0 ≤ p) (p1 : p < m) : (besM (relTs σ ts) (iAt σ p)).Perm ((besM ts p).map (iAt σ)) := by
  have sl := k.len (by omega)
  have nd := bes_nd hT.bd hT.nodup p
  have i1 : ((besM ts p).map (iAt σ)).Nodup := List.pairwise_map.mpr (List.Pairwise.imp_of_mem (fun {a b} ha hb ne e => ne (by
    have a1 := bes_bd hT.bd ha
    have b1 := bes_bd hT.bd hb
    exact iAt_inj k.nd a1.1 (by omega) b1.1 (by omega) e)) nd)
  refine (List.perm_ext_iff_of_nodup (bes_nd hT'.bd hT'.nodup _) i1).mpr fun x => ⟨fun h => ?_, fun h => ?_⟩
  · have xb := bes_bd hT'.bd h
    obtain ⟨q, q0, q1, rfl⟩ := iAt_surj (k.mem_iff.mpr (mem_rg.mpr ⟨xb.1, xb.2.1⟩))
    exact List.mem_map.mpr ⟨q, (bes_rel hT k p0 p1 q0 (by omega)).mp h, rfl⟩
  · obtain ⟨q, hq, rfl⟩ := List.mem_map.mp h
    have qb := bes_bd hT.bd hq
    exact (bes_rel hT k p0 p1 qb.1 qb.2.1).mpr hq
theorem inn_rel (hT : TreeOk m ts) (hT' : TreeOk m (relTs σ ts)) (k : isMarks m σ) {p : Int} (p0 : 0 ≤ p) (p1 : p < m) : iAt σ p ∈ innM m (relTs σ ts) ↔ p ∈ innM m ts := by
  have b := k.bd p0 p1
  rw [mem_inn, mem_inn, (bes_perm hT hT' k p0 p1).length_eq, List.length_map]
  exact ⟨fun h => ⟨p0, p1, h.2.2⟩, fun h => ⟨b.1, b.2, h.2.2⟩⟩
theorem filt_len {l : List Int} {f g : Int → Bool} {h : Int → Int} (e : ∀ x ∈ l, g (h x) = f x) : ((l.map h).filter g).length = (l.filter f).length := by
  induction l with
  | nil => rfl
  | cons x l ih =>
    have ih := ih fun y hy => e y (List.mem_cons_of_mem _ hy)
    rw [List.map_cons, List.filter_cons, List.filter_cons, e x List.mem_cons_self]
    cases f x with
    | true => rw [if_pos rfl, if_pos rfl, List.length_cons, List.length_cons, ih]
    | false => rw [if_neg (by decide), if_neg (by decide), ih]
theorem comb_rel (hT : TreeOk m ts) (hT' : TreeOk m (relTs σ ts)) (k : isMarks m σ) : combB m (relTs σ ts) = combB m ts := by
  have len : ∀ p, 0 ≤ p → p < m → ((besM (relTs σ ts) (iAt σ p)).filter (innM m (relTs σ ts)).contains).length = ((besM ts p).filter (innM m ts).contains).length := fun p p0 p1 => by
    rw [((bes_perm hT hT' k p0 p1).filter _).length_eq]
    refine filt_len fun q hq => ?_
    have qb := bes_bd hT.bd hq
    have := inn_rel hT hT' k qb.1 qb.2.1
    rw [Bool.eq_iff_iff, List.contains_iff_mem, List.contains_iff_mem]
    exact this
  unfold combB
  rw [Bool.eq_iff_iff, List.all_eq_true, List.all_eq_true]
  constructor
  · intro h p hp
    have pb := mem_inn.mp hp
    have := h _ ((inn_rel hT hT' k pb.1 pb.2.1).mpr hp)
    rw [len p pb.1 pb.2.1] at this
    exact this
  · intro h p hp
    have pb := mem_inn.mp hp
    obtain ⟨q, q0, q1, rfl⟩ := iAt_surj (k.mem_iff.mpr (mem_rg.mpr ⟨pb.1, pb.2.1⟩))
    have sl := k.len (by omega)
    rw [len q q0 (by omega)]
    exact h q ((inn_rel hT hT' k q0 (by omega)).mp hp)
end
end Mt

/-! Ma12: what is no tree. -/
namespace Mt
open Fw
def badAt (m : Int) (ts : List (Int × Int)) (i : Nat) (u : Int × Int) : Bool := !(decide (0 ≤ u.1) && (decide (u.1 < u.2) && decide (u.2 < m))) || (decide ((0 : Int) < (i : Int)) && leP u (ts.getD (((i : Int) - 1).toNat) (0, 0)))
theorem badAt_false {m : Int} {ts : List (Int × Int)} {i : Nat} {u : Int × Int} (h : badAt m ts i u = false) : (0 ≤ u.1 ∧ u.1 < u.2 ∧ u.2 < m) ∧ (0 < i → ltP (ts.getD (i - 1) (0, 0)) u) := by
  unfold badAt at h
  obtain ⟨h1, h2⟩ := Bool.or_eq_false_iff.mp h
  have h1 : (decide (0 ≤ u.1) && (decide (u.1 < u.2) && decide (u.2 < m))) = true := by simpa using h1
  obtain ⟨a, b⟩ := Bool.and_eq_true_iff.mp h1
  obtain ⟨b, c⟩ := Bool.and_eq_true_iff.mp b
  refine ⟨⟨of_decide_eq_true a, of_decide_eq_true b, of_decide_eq_true c⟩, fun hi => ?_⟩
  rw [decide_eq_true (show (0 : Int) < (i : Int) by omega), Bool.true_and, show ((i : Int) - 1).toNat = i - 1 by omega] at h2
  have : ¬ (leP u (ts.getD (i - 1) (0, 0)) = true) := by rw [h2]; decide
  rw [leP_iff] at this
  unfold ltP; omega
theorem ltP_trans {a b c : Int × Int} (h1 : ltP a b) (h2 : ltP b c) : ltP a c := by unfold ltP at *; omega
theorem so_of_good {m : Int} {ts : List (Int × Int)} (hg : ∀ i u, ts[i]? = some u → badAt m ts i u = false) : ts.Pairwise ltP := by
  have key : ∀ (d i : Nat) (h : i + 1 + d < ts.length), ltP (ts[i]'(by omega)) (ts[i + 1 + d]'h) := fun d => by
    induction d with
    | zero =>
      intro i h
      have := (badAt_false (hg (i + 1) _ (List.getElem?_eq_getElem h))).2 (by omega)
      rw [show i + 1 - 1 = i by omega, List.getD_eq_getElem?_getD, List.getElem?_eq_getElem (by omega)] at this
      exact this
    | succ d ih =>
      intro i h
      have h1 := ih i (by omega)
      have := (badAt_false (hg (i + 1 + (d + 1)) _ (List.getElem?_eq_getElem h))).2 (by omega)
      rw [show i + 1 + (d + 1) - 1 = i + 1 + d by omega, List.getD_eq_getElem?_getD, List.getElem?_eq_getElem (by omega)] at this
      exact ltP_trans h1 this
  refine List.pairwise_iff_getElem.mpr fun i j hi hj hij => ?_
  have := key (j - i - 1) i (by omega)
  have e : i + 1 + (j - i - 1) = j := by omega
  simp only [e] at this
  exact this
theorem bd_of_good {m : Int} {ts : List (Int × Int)} (hg : ∀ i u, ts[i]? = some u → badAt m ts i u = false) : Bd m ts := fun t ht => by
  obtain ⟨i, hi, rfl⟩ := List.mem_iff_getElem.mp ht
  exact (badAt_false (hg i _ (List.getElem?_eq_getElem hi))).1
theorem good_of_tree {m : Int} {ts : List (Int × Int)} (hT : TreeOk m ts) : ∀ i u, ts[i]? = some u → badAt m ts i u = false := fun i u h => by
  obtain ⟨hi, e⟩ := List.getElem?_eq_some_iff.mp h
  have b := hT.bd u (List.mem_of_getElem? h)
  unfold badAt
  rw [decide_eq_true b.1, decide_eq_true b.2.1, decide_eq_true b.2.2]
  show (decide ((0 : Int) < (i : Int)) && leP u _) = false
  by_cases c : (0 : Int) < (i : Int)
  · rw [decide_eq_true c, Bool.true_and]
    have hs := List.pairwise_iff_getElem.mp hT.so (i - 1) i (by omega) hi (by omega)
    rw [List.getD_eq_getElem?_getD, show ((i : Int) - 1).toNat = i - 1 by omega, List.getElem?_eq_getElem (by omega), Option.getD_some]
    rw [e] at hs
    unfold ltP at hs
    cases q : leP u ts[i - 1] with
    | false => rfl
    | true => rw [leP_iff] at q; omega
  · rw [decide_eq_false c]; rfl
theorem least {P : Nat → Prop} (h : ∃ n, P n) : ∃ n, P n ∧ ∀ k, k < n → ¬ P k := by
  obtain ⟨n, hn⟩ := h
  refine Classical.byContradiction fun no => ?_
  have all : ∀ n, ¬ P n := fun n => by
    induction n using Nat.strongRecOn with
    | _ n ih => exact fun hp => no ⟨n, hp, ih⟩
  exact all n hn
/-! each once, in order -/
def ddP : List (Int × Int) → List (Int × Int)
  | [] => []
  | x :: l => if (ddP l).contains x then ddP l else x :: ddP l
theorem mem_ddP {y : Int × Int} : ∀ {l : List (Int × Int)}, y ∈ ddP l ↔ y ∈ l
  | [] => .rfl
  | x :: l => by
    unfold ddP
    cases c : (ddP l).contains x with
    | true =>
      rw [if_pos rfl, mem_ddP, List.mem_cons]
      have := mem_ddP.mp (List.contains_iff_mem.mp c)
      exact ⟨.inr, fun h => h.elim (fun e => by rw [e]; exact this) id⟩
    | false => rw [if_neg (by decide), List.mem_cons, List.mem_cons, mem_ddP]
theorem ddP_nd : ∀ l : List (Int × Int), (ddP l).Nodup
  | [] => List.nodup_nil
  | x :: l => by
    unfold ddP
    cases c : (ddP l).contains x with
    | true => rw [if_pos rfl]; exact ddP_nd l
    | false =>
      rw [if_neg (by decide)]
      refine List.nodup_cons.mpr ⟨fun h => ?_, ddP_nd l⟩
      rw [List.contains_iff_mem.mpr h] at c; cases c
def uniqP (l : List (Int × Int)) : List (Int × Int) := sortP (ddP l)
theorem uniq_of {l r : List (Int × Int)} (hn : r.Nodup) (hm : ∀ x, x ∈ r ↔ x ∈ l) (hs : r.Pairwise fun p q => leP p q = true) : r = uniqP l :=
  sortP_eq ((List.perm_ext_iff_of_nodup hn (ddP_nd l)).mpr fun x => by rw [hm, mem_ddP]) hs
theorem uniq_eq {l : List (Int × Int)} : uniqP l = l ↔ l.Pairwise ltP := by
  constructor
  · intro h
    rw [← h]
    exact sorted_lt (ddP_nd l)
  · intro h
    exact (uniq_of (h.imp fun {a b} q e => by subst e; unfold ltP at q; omega) (fun x => .rfl) (h.imp fun {a b} q => by rw [leP_iff]; unfold ltP at q; omega)).symm
end Mt

/-! Ma13: who is come to from the place 0. -/
namespace Mt
open Fw
def inB (m : Int) (t : Int × Int) : Bool := decide (0 ≤ t.1) && (decide (t.1 < t.2) && decide (t.2 < m))
def stepC (c : List Int) (t : Int × Int) : List Int :=
  if (c.contains t.1 && !c.contains t.2) = true then c ++ [t.2] else if (c.contains t.2 && !c.contains t.1) = true then c ++ [t.1] else c
def comeF (m : Int) (c : List Int) (t : Int × Int) : List Int ⊕ Unit := if inB m t then .inl (stepC c t) else .inr ()
def lapF (m : Int) (ts : List (Int × Int)) (c : List Int) (_ : Int) : List Int ⊕ Unit := runE (comeF m) ts c
def lapC (ts : List (Int × Int)) (c : List Int) : List Int := ts.foldl stepC c
def lapN (ts : List (Int × Int)) : Nat → List Int → List Int
  | 0, c => c
  | n + 1, c => lapN ts n (lapC ts c)
theorem inB_iff {m : Int} {t : Int × Int} : inB m t = true ↔ 0 ≤ t.1 ∧ t.1 < t.2 ∧ t.2 < m := by
  unfold inB
  rw [Bool.and_eq_true, Bool.and_eq_true, decide_eq_true_iff, decide_eq_true_iff, decide_eq_true_iff]
theorem come_all {m : Int} : ∀ {ts : List (Int × Int)} {c : List Int}, (∀ t ∈ ts, inB m t = true) → runE (comeF m) ts c = .inl (lapC ts c)
  | [], _, _ => rfl
  | t :: ts, c, h => by
    unfold runE
    have e : comeF m c t = .inl (stepC c t) := by unfold comeF; rw [if_pos (h t List.mem_cons_self)]
    rw [e]
    exact come_all fun u hu => h u (List.mem_cons_of_mem _ hu)
theorem come_bad {m : Int} : ∀ {ts : List (Int × Int)} {c : List Int}, ¬ (∀ t ∈ ts, inB m t = true) → runE (comeF m) ts c = .inr ()
  | [], _, h => absurd (fun t ht => by cases ht) h
  | t :: ts, c, h => by
    unfold runE
    cases q : inB m t with
    | false =>
      have e : comeF m c t = .inr () := by unfold comeF; rw [if_neg (by rw [q]; decide)]
      rw [e]
    | true =>
      have e : comeF m c t = .inl (stepC c t) := by unfold comeF; rw [if_pos q]
      rw [e]
      exact come_bad fun all => h fun u hu => by
        rcases List.mem_cons.mp hu with rfl | hu
        · exact q
        · exact all u hu
theorem laps_all {m : Int} {ts : List (Int × Int)} (h : ∀ t ∈ ts, inB m t = true) : ∀ (l : List Int) (c : List Int), runE (lapF m ts) l c = .inl (lapN ts l.length c)
  | [], _ => rfl
  | x :: l, c => by
    unfold runE
    have e : lapF m ts c x = .inl (lapC ts c) := come_all h
    rw [e]
    exact laps_all h l _
theorem laps_bad {m : Int} {ts : List (Int × Int)} (h : ¬ (∀ t ∈ ts, inB m t = true)) (h1 : 1 ≤ m) (c : List Int) : runE (lapF m ts) (rg m) c = .inr () := by
  rw [show rg m = 0 :: rgI (0 + 1) m from rgI_cons (by omega)]
  unfold runE
  have e : lapF m ts c 0 = .inr () := come_bad h
  rw [e]
/-! what has come -/
structure Come (m : Int) (ts : List (Int × Int)) (c : List Int) : Prop where
  nd : c.Nodup
  bd : ∀ x ∈ c, 0 ≤ x ∧ x < m
  z : 0 ∈ c
  eq : ∀ f : Int → Int, (∀ t ∈ ts, f t.1 = f t.2) → ∀ x ∈ c, f x = f 0
theorem stepC_sub {c : List Int} {t : Int × Int} {x : Int} (h : x ∈ c) : x ∈ stepC c t := by
  unfold stepC
  split
  · exact List.mem_append_left _ h
  · split
    · exact List.mem_append_left _ h
    · exact h
theorem add_come {m : Int} {ts : List (Int × Int)} {c : List Int} (h : Come m ts c) {x y : Int} (hx : x ∈ c) (hy : ¬ y ∈ c) (yb : 0 ≤ y ∧ y < m) (he : ∀ f : Int → Int, (∀ t ∈ ts, f t.1 = f t.2) → f y = f x) : Come m ts (c ++ [y]) := by
  refine ⟨List.nodup_append.mpr ⟨h.nd, List.pairwise_singleton _ _, fun a ha b hb e => ?_⟩, fun a ha => ?_, List.mem_append_left _ h.z, fun f hf a ha => ?_⟩
  · rw [List.mem_singleton] at hb
    subst hb; subst e
    exact hy ha
  · rcases List.mem_append.mp ha with ha | ha
    · exact h.bd a ha
    · rw [List.mem_singleton] at ha; subst ha; exact yb
  · rcases List.mem_append.mp ha with ha | ha
    · exact h.eq f hf a ha
    · rw [List.mem_singleton] at ha; subst ha
      rw [he f hf]; exact h.eq f hf x hx
theorem step_come {m : Int} {ts : List (Int × Int)} {c : List Int} (h : Come m ts c) {t : Int × Int} (ht : t ∈ ts) (hb : inB m t = true) : Come m ts (stepC c t) := by
  have b := inB_iff.mp hb
  unfold stepC
  split
  · rename_i q
    obtain ⟨q1, q2⟩ := Bool.and_eq_true_iff.mp q
    exact add_come h (List.contains_iff_mem.mp q1) (fun z => by rw [List.contains_iff_mem.mpr z] at q2; cases q2) (by omega) fun f hf => (hf t ht).symm
  · split
    · rename_i q
      obtain ⟨q1, q2⟩ := Bool.and_eq_true_iff.mp q
      exact add_come h (List.contains_iff_mem.mp q1) (fun z => by rw [List.contains_iff_mem.mpr z] at q2; cases q2) (by omega) fun f hf => hf t ht
    · exact h
theorem fold_come {m : Int} {ts : List (Int × Int)} : ∀ {l : List (Int × Int)} {c : List Int}, Come m ts c → (∀ t ∈ l, t ∈ ts ∧ inB m t = true) → Come m ts (l.foldl stepC c)
  | [], _, h, _ => h
  | t :: l, c, h, hl => by
    rw [List.foldl_cons]
    exact fold_come (step_come h (hl t List.mem_cons_self).1 (hl t List.mem_cons_self).2) fun u hu => hl u (List.mem_cons_of_mem _ hu)
theorem lap_come {m : Int} {ts : List (Int × Int)} (hb : ∀ t ∈ ts, inB m t = true) : ∀ (n : Nat) {c : List Int}, Come m ts c → Come m ts (lapN ts n c)
  | 0, _, h => h
  | n + 1, c, h => lap_come hb n (fold_come h fun t ht => ⟨ht, hb t ht⟩)
/-! at rest -/
def Rest (ts : List (Int × Int)) (c : List Int) : Prop := ∀ t ∈ ts, (t.1 ∈ c ↔ t.2 ∈ c)
theorem stepC_len (c : List Int) (t : Int × Int) : c.length ≤ (stepC c t).length ∧ ((stepC c t).length = c.length → (t.1 ∈ c ↔ t.2 ∈ c) ∧ stepC c t = c) := by
  unfold stepC
  split
  · rename_i q
    refine ⟨by rw [List.length_append, List.length_singleton]; omega, fun e => ?_⟩
    rw [List.length_append, List.length_singleton] at e; omega
  · rename_i q1
    split
    · refine ⟨by rw [List.length_append, List.length_singleton]; omega, fun e => ?_⟩
      rw [List.length_append, List.length_singleton] at e; omega
    · rename_i q2
      refine ⟨Nat.le_refl _, fun _ => ⟨?_, rfl⟩⟩
      constructor
      · intro h
        cases z : c.contains t.2 with
        | true => exact List.contains_iff_mem.mp z
        | false => exact absurd (by rw [List.contains_iff_mem.mpr h, z]; rfl) q1
      · intro h
        cases z : c.contains t.1 with
        | true => exact List.contains_iff_mem.mp z
        | false => exact absurd (by rw [List.contains_iff_mem.mpr h, z]; rfl) q2
theorem fold_len2 : ∀ (l : List (Int × Int)) (c : List Int), c.length ≤ (l.foldl stepC c).length ∧ ((l.foldl stepC c).length = c.length → Rest l c ∧ l.foldl stepC c = c)
  | [], c => ⟨Nat.le_refl _, fun _ => ⟨fun t ht => absurd ht List.not_mem_nil, rfl⟩⟩
  | t :: l, c => by
    obtain ⟨a1, a2⟩ := stepC_len c t
    obtain ⟨b1, b2⟩ := fold_len2 l (stepC c t)
    rw [List.foldl_cons]
    refine ⟨by omega, fun e => ?_⟩
    obtain ⟨r1, e1⟩ := a2 (by omega)
    obtain ⟨r2, e2⟩ := b2 (by omega)
    rw [e1] at r2 e2
    refine ⟨fun u hu => ?_, by rw [e1]; exact e2⟩
    rcases List.mem_cons.mp hu with rfl | hu
    · exact r1
    · exact r2 u hu
theorem step_rest {c : List Int} {t : Int × Int} (h : t.1 ∈ c ↔ t.2 ∈ c) : stepC c t = c := by
  unfold stepC
  by_cases a : t.1 ∈ c
  · have b := h.mp a
    rw [List.contains_iff_mem.mpr a, List.contains_iff_mem.mpr b, if_neg (by decide), if_neg (by decide)]
  · have b : ¬ t.2 ∈ c := fun z => a (h.mpr z)
    have a' : c.contains t.1 = false := by cases z : c.contains t.1 with
      | false => rfl
      | true => exact absurd (List.contains_iff_mem.mp z) a
    have b' : c.contains t.2 = false := by cases z : c.contains t.2 with
      | false => rfl
      | true => exact absurd (List.contains_iff_mem.mp z) b
    rw [a', b', if_neg (by decide), if_neg (by decide)]
theorem fold_rest : ∀ {l : List (Int × Int)} {c : List Int}, Rest l c → l.foldl stepC c = c
  | [], _, _ => rfl
  | t :: l, c, h => by
    rw [List.foldl_cons, step_rest (h t List.mem_cons_self)]
    exact fold_rest fun u hu => h u (List.mem_cons_of_mem _ hu)
theorem laps_rest {ts : List (Int × Int)} : ∀ (n : Nat) {c : List Int}, Rest ts c → lapN ts n c = c
  | 0, _, _ => rfl
  | n + 1, c, h => by
    show lapN ts n (lapC ts c) = c
    unfold lapC
    rw [fold_rest h]
    exact laps_rest n h
/-- behind n laps: at rest, or n more have come -/
theorem laps_len {ts : List (Int × Int)} : ∀ (n : Nat) (c : List Int), Rest ts (lapN ts n c) ∨ c.length + n ≤ (lapN ts n c).length
  | 0, c => .inr (Nat.le_refl _)
  | n + 1, c => by
    obtain ⟨a, b⟩ := fold_len2 ts c
    by_cases e : (ts.foldl stepC c).length = c.length
    · obtain ⟨r, e2⟩ := b e
      left
      show Rest ts (lapN ts n (ts.foldl stepC c))
      rw [e2, laps_rest n r]; exact r
    · rcases laps_len n (ts.foldl stepC c) with h | h
      · exact .inl h
      · exact .inr (by show _ ≤ (lapN ts n (ts.foldl stepC c)).length; omega)
theorem come_zero {m : Int} {ts : List (Int × Int)} (h1 : 1 ≤ m) : Come m ts [0] :=
  ⟨List.pairwise_singleton _ _, fun x hx => by rw [List.mem_singleton] at hx; omega, List.mem_singleton.mpr rfl, fun f hf x hx => by rw [List.mem_singleton] at hx; rw [hx]⟩
theorem come_joins {m : Int} {ts : List (Int × Int)} (h1 : 1 ≤ m) (hb : ∀ t ∈ ts, inB m t = true) : decide (sortI (lapN ts m.toNat [0]) = rg m) = joinsAll m ts := by
  have hp : ∀ t ∈ ts, inPl m t := fun t ht => by have := inB_iff.mp (hb t ht); unfold inPl; omega
  have C := lap_come hb m.toNat (come_zero (ts := ts) h1)
  have len : (lapN ts m.toNat [0]).length ≤ m.toNat := by
    have := sub_len (r := rg m) C.nd fun x hx => mem_rg.mpr (C.bd x hx)
    rw [rg_len] at this; exact this
  have R : Rest ts (lapN ts m.toNat [0]) := by
    rcases laps_len (ts := ts) m.toNat [0] with h | h
    · exact h
    · rw [List.length_singleton] at h; omega
  generalize lapN ts m.toNat [0] = c at C R len
  rw [Bool.eq_iff_iff, decide_eq_true_iff]
  constructor
  · intro h
    have pm := sort_rgI'.mp h
    exact conn_joins h1 hp fun f hf i i0 i1 => C.eq f hf i (pm.mem_iff.mpr (mem_rg.mpr ⟨i0, i1⟩))
  · intro h
    refine sort_rgI'.mpr ((List.perm_ext_iff_of_nodup C.nd (rgI_nodup 0 m)).mpr fun x => ⟨fun hx => mem_rg.mpr (C.bd x hx), fun hx => ?_⟩)
    have xb := mem_rg.mp hx
    have := joins_conn h1 hp h (fun i => if i ∈ c then 1 else 0) (fun t ht => by
      have := R t ht
      by_cases a : t.1 ∈ c
      · rw [if_pos a, if_pos (this.mp a)]
      · rw [if_neg a, if_neg fun z => a (this.mpr z)]) x xb.1 xb.2
    simp only [if_pos C.z] at this
    by_cases a : x ∈ c
    · exact a
    · rw [if_neg a] at this; omega
end Mt

/-! Fw: judgements over the hand layer, at the level of pure data. -/
namespace Fw
open PySem L2

/-! ### data -/
inductive D where
  | non | bl (b : Bool) | int (i : Int) | lst (ds : List D) | tup (ds : List D)
  | tree (m : Int) (ts : List D)
  | scr (ns : List Int)

-- the class of trees at C; S: addresses that the value may not lean on
mutual
inductive Rp (K : PySem.W.Frag) (C : Addr) (S : Addr → Prop) (H : Hp) : V → D → Prop
  | non : Rp K C S H .non .non
  | bl (b : Bool) : Rp K C S H (.bl b) (.bl b)
  | int (i : Int) : Rp K C S H (.int i) (.int i)
  | lst {a : Addr} {xs : List V} {ds : List D} : ¬ S a → H a = some (.lst xs) → RpL K C S H xs ds → Rp K C S H (.ref a) (.lst ds)
  | tup {a : Addr} {xs : List V} {ds : List D} : ¬ S a → H a = some (.tup xs) → RpL K C S H xs ds → Rp K C S H (.ref a) (.tup ds)
  | tree {a dx b : Addr} {xs : List V} {m : Int} {ds : List D} : ¬ S a → ¬ S b → H a = some (.ins C dx [("many", .int m), ("ties", .ref b)]) → H b = some (.lst xs) → RpL K C S H xs ds → Rp K C S H (.ref a) (.tree m ds)
  | scr {a : Addr} {o : Obj} {ns : List Int} : ¬ S a → H a = some (.frz o (.lst (ns.map V.int))) → Rp K C S H (.ref a) (.scr ns)
  | scrK {a : Addr} {ns : List Int} : (∃ (o : Obj) (its : Array Value) (n : Nat), K.lookup a = some o ∧ o.cls = .type "list" ∧ o.dict = none ∧ o.data = .seq its n ∧ its.size ≤ sizeLine ∧ Vals (ns.map V.int) its.toList) → Rp K C S H (.ref a) (.scr ns)
inductive RpL (K : PySem.W.Frag) (C : Addr) (S : Addr → Prop) (H : Hp) : List V → List D → Prop
  | nil : RpL K C S H [] []
  | cons {v : V} {vs : List V} {d : D} {ds : List D} : Rp K C S H v d → RpL K C S H vs ds → RpL K C S H (v :: vs) (d :: ds)
end

section
variable {K : PySem.W.Frag} {C : Addr} {S S' : Addr → Prop} {H H' : Hp}
mutual
/-- the master: what a value leans on stands as it was, and is not barred -/
theorem Rp.weak (k : ∀ a o, ¬ S a → H a = some o → H' a = some o) (s : ∀ a o, H a = some o → S' a → S a) : ∀ {v : V} {d : D}, Rp K C S H v d → Rp K C S' H' v d
  | _, _, .non => .non
  | _, _, .bl b => .bl b
  | _, _, .int i => .int i
  | _, _, .lst n h r => .lst (fun z => n (s _ _ h z)) (k _ _ n h) (RpL.weak k s r)
  | _, _, .tup n h r => .tup (fun z => n (s _ _ h z)) (k _ _ n h) (RpL.weak k s r)
  | _, _, .tree n n2 h h2 r => .tree (fun z => n (s _ _ h z)) (fun z => n2 (s _ _ h2 z)) (k _ _ n h) (k _ _ n2 h2) (RpL.weak k s r)
  | _, _, .scr n h => .scr (fun z => n (s _ _ h z)) (k _ _ n h)
  | _, _, .scrK h => .scrK h
theorem RpL.weak (k : ∀ a o, ¬ S a → H a = some o → H' a = some o) (s : ∀ a o, H a = some o → S' a → S a) : ∀ {vs : List V} {ds : List D}, RpL K C S H vs ds → RpL K C S' H' vs ds
  | _, _, .nil => .nil
  | _, _, .cons h r => .cons (Rp.weak k s h) (RpL.weak k s r)
end
theorem Rp.mono (e : Same H H') {v : V} {d : D} (h : Rp K C S H v d) : Rp K C S H' v d := h.weak (fun a o _ q => e a o q) (fun _ _ _ z => z)
theorem RpL.mono (e : Same H H') {v : List V} {d : List D} (h : RpL K C S H v d) : RpL K C S H' v d := h.weak (fun a o _ q => e a o q) (fun _ _ _ z => z)
theorem Rp.anti (s : ∀ a, S' a → S a) {v : V} {d : D} (h : Rp K C S H v d) : Rp K C S' H v d := h.weak (fun _ _ _ q => q) (fun a _ _ z => s a z)
theorem RpL.anti (s : ∀ a, S' a → S a) {v : List V} {d : List D} (h : RpL K C S H v d) : RpL K C S' H v d := h.weak (fun _ _ _ q => q) (fun a _ _ z => s a z)
theorem RpL.len : ∀ {vs : List V} {ds : List D}, RpL K C S H vs ds → vs.length = ds.length
  | _, _, .nil => rfl
  | _, _, .cons _ r => congrArg (· + 1) r.len
theorem RpL.get : ∀ {vs : List V} {ds : List D} {i : Nat} {v : V}, RpL K C S H vs ds → vs[i]? = some v → ∃ d, ds[i]? = some d ∧ Rp K C S H v d
  | _, _, _, _, .nil, h => by simp at h
  | _, _, 0, _, .cons h _, e => by
    simp at e; subst e; exact ⟨_, by simp, h⟩
  | _, _, i + 1, _, .cons _ r, e => by
    obtain ⟨d, h1, h2⟩ := r.get (i := i) (by simpa using e)
    exact ⟨d, by simpa using h1, h2⟩
theorem RpL.getD : ∀ {vs : List V} {ds : List D} {i : Nat} {d : D}, RpL K C S H vs ds → ds[i]? = some d → ∃ v, vs[i]? = some v ∧ Rp K C S H v d
  | _, _, _, _, .nil, h => by simp at h
  | _, _, 0, _, .cons h _, e => by
    simp at e; subst e; exact ⟨_, by simp, h⟩
  | _, _, i + 1, _, .cons _ r, e => by
    obtain ⟨d, h1, h2⟩ := r.getD (i := i) (by simpa using e)
    exact ⟨d, by simpa using h1, h2⟩
theorem RpL.append : ∀ {vs : List V} {ds : List D} {ws : List V} {es : List D}, RpL K C S H vs ds → RpL K C S H ws es → RpL K C S H (vs ++ ws) (ds ++ es)
  | _, _, _, _, .nil, r => r
  | _, _, _, _, .cons h t, r => .cons h (t.append r)
theorem RpL.take : ∀ {vs : List V} {ds : List D} (n : Nat), RpL K C S H vs ds → RpL K C S H (vs.take n) (ds.take n)
  | _, _, 0, _ => by simp; exact .nil
  | _, _, _ + 1, .nil => .nil
  | _, _, n + 1, .cons h t => .cons h (t.take n)
theorem RpL.drop : ∀ {vs : List V} {ds : List D} (n : Nat), RpL K C S H vs ds → RpL K C S H (vs.drop n) (ds.drop n)
  | _, _, 0, r => r
  | _, _, _ + 1, .nil => .nil
  | _, _, n + 1, .cons _ t => t.drop n
theorem RpL.set : ∀ {vs : List V} {ds : List D} (n : Nat) {v : V} {d : D}, RpL K C S H vs ds → Rp K C S H v d → RpL K C S H (vs.set n v) (ds.set n d)
  | _, _, _, _, _, .nil, _ => .nil
  | _, _, 0, _, _, .cons _ t, r => .cons r t
  | _, _, n + 1, _, _, .cons h t, r => .cons h (t.set n r)
theorem RpL.ints {vs : List V} : ∀ {ns : List Int}, RpL K C S H vs (ns.map D.int) → vs = ns.map V.int := by
  induction vs with
  | nil => intro ns h; cases ns with
    | nil => rfl
    | cons n ns => cases h
  | cons v vs ih => intro ns h; cases ns with
    | nil => cases h
    | cons n ns =>
      cases h with
      | cons h1 h2 => cases h1; rw [ih h2]; rfl
theorem RpL.ofInts : ∀ (ns : List Int), RpL K C S H (ns.map V.int) (ns.map D.int)
  | [] => .nil
  | n :: ns => .cons (.int n) (RpL.ofInts ns)
theorem RpL.bls {vs : List V} : ∀ {ns : List Bool}, RpL K C S H vs (ns.map D.bl) → vs = ns.map V.bl := by
  induction vs with
  | nil => intro ns h; cases ns with
    | nil => rfl
    | cons n ns => cases h
  | cons v vs ih => intro ns h; cases ns with
    | nil => cases h
    | cons n ns =>
      cases h with
      | cons h1 h2 => cases h1; rw [ih h2]; rfl
theorem RpL.mem : ∀ {vs : List V} {ds : List D} {v : V}, RpL K C S H vs ds → v ∈ vs → ∃ d ∈ ds, Rp K C S H v d
  | _, _, _, .nil, h => by simp at h
  | _, _, _, .cons h r, e => by
    rcases List.mem_cons.mp e with rfl | e
    · exact ⟨_, List.mem_cons_self, h⟩
    · obtain ⟨d, hd, q⟩ := r.mem e
      exact ⟨d, List.mem_cons_of_mem _ hd, q⟩
end

theorem same_new {H : Hp} {p : Addr} {o : HO} (h : H p = none) : Same H (upd H p o) := fun b x e => by
  rw [upd_ne (ne_of_none e h)]; exact e
theorem same_mut {H H' : Hp} {p : Addr} {o : HO} (e : Same H H') (h : H p = none) : Same H (upd H' p o) := fun a u ha => by
  rw [upd_ne (ne_of_none ha h)]; exact e a u ha

/-! ### slots -/
/-- emp: nothing is said; bor: a datum that no list of ours is part of; dat: that leans on nothing barred, too; own: a list of ours, that may be changed; dct: a dict of ours -/
inductive Sl where
  | emp | bor (d : D) | dat (d : D) | own (ds : List D) | dct (kvs : List (Int × Int)) | raw (v : V) | bvr (v : V) (d : D)
abbrev Env := List Sl
def Sl.isOwn : Sl → Bool
  | .own _ => true
  | .dct _ => true
  | _ => false
def kvO (kvs : List (Int × Int)) : List (Key × V) := kvs.map fun p => (Sum.inl p.1, V.int p.2)
def OwnA (σ : L2.St) (env : Env) (a : Addr) : Prop := ∃ (i : Nat) (s : Sl), env[i]? = some s ∧ s.isOwn = true ∧ σ[i]? = some (some (V.ref a))
def SlR (K : PySem.W.Frag) (C : Addr) (H0 : Hp) (S0 O : Addr → Prop) (H : Hp) (x : Option (Option V)) : Sl → Prop
  | .emp => True
  | .bor d => ∃ v, x = some (some v) ∧ Rp K C O H v d
  | .dat d => ∃ v, x = some (some v) ∧ Rp K C (fun a => O a ∨ S0 a) H v d
  | .own ds => ∃ a xs, x = some (some (V.ref a)) ∧ H0 a = none ∧ H a = some (.lst xs) ∧ RpL K C (fun a => O a ∨ S0 a) H xs ds
  | .dct kvs => ∃ a, x = some (some (V.ref a)) ∧ H0 a = none ∧ H a = some (.dK (kvO kvs))
  | .raw v => x = some (some v)
  | .bvr v d => x = some (some v) ∧ Rp K C O H v d
/-- ours: our lists and dicts, and what is barred besides (a list that a comprehension fills) -/
def OwnB (B : Addr → Prop) (σ : L2.St) (env : Env) (a : Addr) : Prop := OwnA σ env a ∨ B a
structure EnvR (K : PySem.W.Frag) (C : Addr) (H0 : Hp) (S0 B : Addr → Prop) (H : Hp) (σ : L2.St) (env : Env) : Prop where
  base : Same H0 H
  sub : ∀ a, S0 a → H0 a ≠ none
  bar : ∀ a, B a → H0 a = none ∧ H a ≠ none ∧ ¬ OwnA σ env a
  len : env.length = σ.length
  slot : ∀ (i : Nat) (s : Sl), env[i]? = some s → SlR K C H0 S0 (OwnB B σ env) H σ[i]? s
  inj : ∀ (i j : Nat) (a : Addr) (s t : Sl), env[i]? = some s → s.isOwn = true → env[j]? = some t → t.isOwn = true → σ[i]? = some (some (V.ref a)) → σ[j]? = some (some (V.ref a)) → i = j

section
variable {K : PySem.W.Frag} {C : Addr} {H0 : Hp} {S0 B : Addr → Prop} {H H' : Hp} {σ : L2.St} {env : Env}
theorem SlR.weak {H0' : Hp} {S0' O O' : Addr → Prop} {x : Option (Option V)} {s : Sl} (k : ∀ a o, ¬ O a → H a = some o → H' a = some o) (ko : s.isOwn = true → ∀ a o, x = some (some (V.ref a)) → H a = some o → H' a = some o)
    (so : ∀ a o, H a = some o → O' a → O a) (ss : ∀ a o, H a = some o → S0' a → S0 a) (h0 : s.isOwn = true → ∀ a, x = some (some (V.ref a)) → H0 a = none → H0' a = none) (h : SlR K C H0 S0 O H x s) : SlR K C H0' S0' O' H' x s := by
  cases s with
  | emp => trivial
  | raw v => exact h
  | bvr v d => exact ⟨h.1, h.2.weak k so⟩
  | bor d => obtain ⟨v, e, r⟩ := h; exact ⟨v, e, r.weak k so⟩
  | dat d => obtain ⟨v, e, r⟩ := h; exact ⟨v, e, r.weak (fun a o n q => k a o (fun z => n (.inl z)) q) (fun a o q z => z.imp (so a o q) (ss a o q))⟩
  | own ds =>
    obtain ⟨a, xs, e, n, q, r⟩ := h
    exact ⟨a, xs, e, h0 rfl a e n, ko rfl a _ e q, r.weak (fun a o n q => k a o (fun z => n (.inl z)) q) (fun a o q z => z.imp (so a o q) (ss a o q))⟩
  | dct kvs =>
    obtain ⟨a, e, n, q⟩ := h
    exact ⟨a, e, h0 rfl a e n, ko rfl a _ e q⟩
theorem SlR.sub {S0' O O' : Addr → Prop} {x : Option (Option V)} {s : Sl} (so : ∀ a, O' a → O a) (ss : ∀ a, S0' a → S0 a) (h : SlR K C H0 S0 O H x s) : SlR K C H0 S0' O' H x s :=
  h.weak (fun _ _ _ q => q) (fun _ _ _ _ q => q) (fun a _ _ z => so a z) (fun a _ _ z => ss a z) (fun _ _ _ z => z)
theorem same_some (e : Same H H') {a : Addr} (h : H a ≠ none) : H' a ≠ none := fun z => by
  cases q : H a with
  | none => exact h q
  | some o => have := e a o q; rw [z] at this; cases this
theorem same_none (e : Same H H') {a : Addr} (h : H' a = none) : H a = none := by
  cases q : H a with
  | none => rfl
  | some o => have := e a o q; rw [h] at this; cases this
theorem EnvR.mono (E : EnvR K C H0 S0 B H σ env) (e : Same H H') : EnvR K C H0 S0 B H' σ env :=
  ⟨E.base.trans e, E.sub, fun a h => ⟨(E.bar a h).1, same_some e (E.bar a h).2.1, (E.bar a h).2.2⟩, E.len, fun i s h => (E.slot i s h).weak (fun a o _ q => e a o q) (fun _ a o _ q => e a o q) (fun _ _ _ z => z) (fun _ _ _ z => z) (fun _ _ _ z => z), E.inj⟩
theorem EnvR.ownSome (E : EnvR K C H0 S0 B H σ env) {a : Addr} (h : OwnA σ env a) : H0 a = none ∧ ∃ o, H a = some o ∧ Mut (some o) := by
  obtain ⟨i, s, h1, h2, h3⟩ := h
  have q := E.slot i s h1
  cases s with
  | own ds =>
    obtain ⟨b, xs, e, n, q, _⟩ := q
    rw [h3] at e; cases e
    exact ⟨n, _, q, trivial⟩
  | dct kvs =>
    obtain ⟨b, e, n, q⟩ := q
    rw [h3] at e; cases e
    exact ⟨n, _, q, trivial⟩
  | emp => cases h2
  | raw v => cases h2
  | bvr v d => cases h2
  | bor d => cases h2
  | dat d => cases h2
theorem EnvR.ours (E : EnvR K C H0 S0 B H σ env) {a : Addr} (h : OwnB B σ env a) : H0 a = none ∧ H a ≠ none := by
  rcases h with h | h
  · obtain ⟨n, o, q, _⟩ := E.ownSome h
    exact ⟨n, fun z => by rw [q] at z; cases z⟩
  · exact ⟨(E.bar a h).1, (E.bar a h).2.1⟩
theorem EnvR.oursS0 (E : EnvR K C H0 S0 B H σ env) {a : Addr} (h : OwnB B σ env a) : ¬ S0 a := fun z => E.sub a z (E.ours h).1
theorem EnvR.s0Some (E : EnvR K C H0 S0 B H σ env) {a : Addr} (h : S0 a) : H a ≠ none := same_some E.base (E.sub a h)
/-- the base set anew: all that stands, but our own -/
noncomputable def reb (H : Hp) (O : Addr → Prop) : Hp := open Classical in fun a => if O a then none else H a
theorem reb_own {O : Addr → Prop} {a : Addr} (h : O a) : reb H O a = none := by unfold reb; rw [if_pos h]
theorem reb_out {O : Addr → Prop} {a : Addr} (h : ¬ O a) : reb H O a = H a := by unfold reb; rw [if_neg h]
theorem reb_same {O : Addr → Prop} : Same (reb H O) H := fun a o q => by
  by_cases c : O a
  · rw [reb_own c] at q; cases q
  · rw [reb_out c] at q; exact q
theorem EnvR.rebase (E : EnvR K C H0 S0 B H σ env) : EnvR K C (reb H (OwnB B σ env)) S0 B H σ env :=
  ⟨reb_same, fun a z => by rw [reb_out (fun c => E.oursS0 c z)]; exact E.s0Some z, fun a h => ⟨reb_own (.inr h), (E.bar a h).2⟩, E.len,
    fun i s h => (E.slot i s h).weak (fun _ _ _ q => q) (fun _ _ _ _ q => q) (fun _ _ _ z => z) (fun _ _ _ z => z) (fun ho a e _ => reb_own (.inl ⟨i, s, h, ho, e⟩)), E.inj⟩
theorem EnvR.toReb (E : EnvR K C H0 S0 B H σ env) : Same H0 (reb H (OwnB B σ env)) := fun a o q => by
  rw [reb_out (fun c => by rw [(E.ours c).1] at q; cases q)]
  exact E.base a o q
theorem ownA_set {i : Nat} {s : Sl} {x : Option V} {a : Addr} (hs : s.isOwn = false) (h : OwnA (σ.set i x) (env.set i s) a) : OwnA σ env a := by
  obtain ⟨j, t, h1, h2, h3⟩ := h
  by_cases e : i = j
  · subst e
    rw [List.getElem?_set_self'] at h1
    cases q : env[i]? with
    | none => rw [q] at h1; cases h1
    | some u => rw [q] at h1; cases h1; exact absurd ((show s.isOwn = true from h2).symm.trans hs) (by decide)
  · rw [List.getElem?_set_ne e] at h1 h3
    exact ⟨j, t, h1, h2, h3⟩
/-- a slot is set to a datum -/
theorem EnvR.setX (E : EnvR K C H0 S0 B H σ env) (i : Nat) (s : Sl) (x : Option V) (hs : s.isOwn = false) (h : SlR K C H0 S0 (OwnB B σ env) H (some x) s) : EnvR K C H0 S0 B H (σ.set i x) (env.set i s) := by
  have sub : ∀ a, OwnA (σ.set i x) (env.set i s) a → OwnA σ env a := fun a z => ownA_set hs z
  have sub2 : ∀ a, OwnB B (σ.set i x) (env.set i s) a → OwnB B σ env a := fun a z => z.imp (sub a) id
  refine ⟨E.base, E.sub, fun a h => ⟨(E.bar a h).1, (E.bar a h).2.1, fun z => (E.bar a h).2.2 (sub a z)⟩, by rw [List.length_set, List.length_set]; exact E.len, fun j t ht => ?_, fun j k a t u h1 h2 h3 h4 h5 h6 => ?_⟩
  · by_cases e : i = j
    · subst e
      have hi : i < env.length := by
        have := (List.getElem?_eq_some_iff.mp ht).1
        simpa using this
      rw [List.getElem?_set_self hi] at ht
      cases ht
      rw [List.getElem?_set_self (by rw [← E.len]; exact hi)]
      exact h.sub sub2 (fun _ z => z)
    · rw [List.getElem?_set_ne e] at ht ⊢
      exact (E.slot j t ht).sub sub2 (fun _ z => z)
  · have nj : ∀ {j : Nat} {t : Sl}, (env.set i s)[j]? = some t → t.isOwn = true → i ≠ j := fun {j t} q1 q2 e => by
      subst e
      rw [List.getElem?_set_self'] at q1
      cases q : env[i]? with
      | none => rw [q] at q1; cases q1
      | some u => rw [q] at q1; cases q1; exact absurd ((show s.isOwn = true from q2).symm.trans hs) (by decide)
    have e1 := nj h1 h2
    have e2 := nj h3 h4
    rw [List.getElem?_set_ne e1] at h1 h5
    rw [List.getElem?_set_ne e2] at h3 h6
    exact E.inj j k a t u h1 h2 h3 h4 h5 h6
theorem EnvR.set (E : EnvR K C H0 S0 B H σ env) (i : Nat) (s : Sl) (v : V) (hs : s.isOwn = false) (h : SlR K C H0 S0 (OwnB B σ env) H (some (some v)) s) : EnvR K C H0 S0 B H (σ.set i (some v)) (env.set i s) := E.setX i s (some v) hs h
/-- a slot is set to a new object of our own, at p -/
theorem EnvR.setOwn (E : EnvR K C H0 S0 B H σ env) (e : Same H H') (i : Nat) (s : Sl) (p : Addr) (hp : H p = none) (hi : i < env.length) (hso : s.isOwn = true)
    (h : SlR K C H0 S0 (fun a => OwnB B σ env a ∨ a = p) H' (some (some (V.ref p))) s) : EnvR K C H0 S0 B H' (σ.set i (some (V.ref p))) (env.set i s) := by
  have hiσ : i < σ.length := by rw [← E.len]; exact hi
  have sub : ∀ a, OwnA (σ.set i (some (V.ref p))) (env.set i s) a → OwnA σ env a ∨ a = p := fun a ⟨j, t, h1, h2, h3⟩ => by
    by_cases q : i = j
    · subst q
      rw [List.getElem?_set_self hiσ] at h3
      cases h3
      exact .inr rfl
    · rw [List.getElem?_set_ne q] at h1 h3
      exact .inl ⟨j, t, h1, h2, h3⟩
  have sub2 : ∀ a, OwnB B (σ.set i (some (V.ref p))) (env.set i s) a → OwnB B σ env a ∨ a = p := fun a z => z.elim (fun z => (sub a z).imp .inl id) (fun z => .inl (.inr z))
  have Op : ∀ {a o}, H a = some o → a ≠ p := fun {a o} q z => by subst z; rw [hp] at q; cases q
  refine ⟨E.base.trans e, E.sub, fun a h => ⟨(E.bar a h).1, same_some e (E.bar a h).2.1, fun z => (sub a z).elim (E.bar a h).2.2 fun z => (E.bar a h).2.1 (z ▸ hp)⟩, by rw [List.length_set, List.length_set]; exact E.len, fun j t ht => ?_, fun j k a t u h1 h2 h3 h4 h5 h6 => ?_⟩
  · by_cases q : i = j
    · subst q
      rw [List.getElem?_set_self hi] at ht
      cases ht
      rw [List.getElem?_set_self hiσ]
      exact h.sub sub2 (fun _ z => z)
    · rw [List.getElem?_set_ne q] at ht ⊢
      exact (E.slot j t ht).weak (fun a o _ q => e a o q) (fun _ a o _ q => e a o q) (fun a o q z => (sub2 a z).elim id fun z => absurd z (Op q)) (fun _ _ _ z => z) (fun _ _ _ z => z)
  · by_cases e1 : i = j
    · by_cases e2 : i = k
      · exact e1.symm.trans e2
      · subst e1
        rw [List.getElem?_set_self hiσ] at h5
        cases h5
        rw [List.getElem?_set_ne e2] at h3 h6
        obtain ⟨_, o, q, _⟩ := E.ownSome ⟨k, u, h3, h4, h6⟩
        rw [hp] at q; cases q
    · by_cases e2 : i = k
      · subst e2
        rw [List.getElem?_set_self hiσ] at h6
        cases h6
        rw [List.getElem?_set_ne e1] at h1 h5
        obtain ⟨_, o, q, _⟩ := E.ownSome ⟨j, t, h1, h2, h5⟩
        rw [hp] at q; cases q
      · rw [List.getElem?_set_ne e1] at h1 h5
        rw [List.getElem?_set_ne e2] at h3 h6
        exact E.inj j k a t u h1 h2 h3 h4 h5 h6
theorem ownA_same {i : Nat} {s t : Sl} {a : Addr} (hi : env[i]? = some t) (ht : t.isOwn = true) (hs : s.isOwn = true) : OwnA σ (env.set i s) a ↔ OwnA σ env a := by
  have hl := (List.getElem?_eq_some_iff.mp hi).1
  constructor
  · rintro ⟨j, u, h1, h2, h3⟩
    by_cases q : i = j
    · subst q; exact ⟨i, t, hi, ht, h3⟩
    · rw [List.getElem?_set_ne q] at h1; exact ⟨j, u, h1, h2, h3⟩
  · rintro ⟨j, u, h1, h2, h3⟩
    by_cases q : i = j
    · subst q; exact ⟨i, s, by rw [List.getElem?_set_self hl], hs, h3⟩
    · exact ⟨j, u, by rw [List.getElem?_set_ne q]; exact h1, h2, h3⟩
/-- our own object in slot i changes -/
theorem EnvR.chg (E : EnvR K C H0 S0 B H σ env) {i : Nat} {t s : Sl} {a : Addr} {o : HO} (hi : env[i]? = some t) (ht : t.isOwn = true) (hs : s.isOwn = true) (ha : σ[i]? = some (some (V.ref a)))
    (h : SlR K C H0 S0 (OwnB B σ env) (upd H a o) (some (some (V.ref a))) s) : EnvR K C H0 S0 B (upd H a o) σ (env.set i s) := by
  have hO : OwnA σ env a := ⟨i, t, hi, ht, ha⟩
  obtain ⟨n0, o', hao, _⟩ := E.ownSome hO
  have hl := (List.getElem?_eq_some_iff.mp hi).1
  have kk : ∀ b u, ¬ OwnB B σ env b → H b = some u → upd H a o b = some u := fun b u nb q => by
    rw [upd_ne (fun z => nb (by rw [z]; exact .inl hO))]; exact q
  have sub2 : ∀ b, OwnB B σ (env.set i s) b → OwnB B σ env b := fun b z => z.imp (fun z => (ownA_same hi ht hs).mp z) id
  refine ⟨same_mut E.base n0, E.sub, fun b h => ⟨(E.bar b h).1, fun z => ?_, fun z => (E.bar b h).2.2 ((ownA_same hi ht hs).mp z)⟩, by rw [List.length_set]; exact E.len, fun j u hu => ?_, fun j k b u w h1 h2 h3 h4 h5 h6 => ?_⟩
  · by_cases q : b = a
    · rw [q, upd_same] at z; cases z
    · rw [upd_ne q] at z; exact (E.bar b h).2.1 z
  · by_cases q : i = j
    · subst q
      rw [List.getElem?_set_self hl] at hu
      cases hu
      rw [ha]
      exact h.sub sub2 (fun _ z => z)
    · rw [List.getElem?_set_ne q] at hu
      refine (E.slot j u hu).weak kk (fun ho b x e qq => ?_) (fun b _ _ z => sub2 b z) (fun _ _ _ z => z) (fun _ _ _ z => z)
      rw [upd_ne (fun z => q (E.inj i j a t u hi ht hu ho ha (by rw [← z]; exact e)))]
      exact qq
  · have go : ∀ {j : Nat} {u : Sl}, (env.set i s)[j]? = some u → u.isOwn = true → ∃ u', env[j]? = some u' ∧ u'.isOwn = true := fun {j u} q1 q2 => by
      by_cases q : i = j
      · subst q; exact ⟨t, hi, ht⟩
      · rw [List.getElem?_set_ne q] at q1; exact ⟨u, q1, q2⟩
    obtain ⟨u', g1, g2⟩ := go h1 h2
    obtain ⟨w', g3, g4⟩ := go h3 h4
    exact E.inj j k b u' w' g1 g2 g3 g4 h5 h6
/-- a barred object changes -/
theorem EnvR.chgB (E : EnvR K C H0 S0 B H σ env) {a : Addr} {o : HO} (ha : B a) : EnvR K C H0 S0 B (upd H a o) σ env := by
  have na := (E.bar a ha).2.2
  refine ⟨same_mut E.base (E.bar a ha).1, E.sub, fun b h => ⟨(E.bar b h).1, fun z => ?_, (E.bar b h).2.2⟩, E.len, fun j u hu => (E.slot j u hu).weak (fun b u nb q => ?_) (fun ho b x e qq => ?_) (fun _ _ _ z => z) (fun _ _ _ z => z) (fun _ _ _ z => z), E.inj⟩
  · by_cases q : b = a
    · rw [q, upd_same] at z; cases z
    · rw [upd_ne q] at z; exact (E.bar b h).2.1 z
  · rw [upd_ne (fun z => nb (by rw [z]; exact .inr ha))]; exact q
  · rw [upd_ne (fun z => na (by rw [← z]; exact ⟨j, u, hu, ho, e⟩))]; exact qq
/-- one more object, new, is barred -/
theorem EnvR.barNew (E : EnvR K C H0 S0 B H σ env) {p : Addr} {o : HO} (hp : H p = none) : EnvR K C H0 S0 (fun a => B a ∨ a = p) (upd H p o) σ env := by
  have e : Same H (upd H p o) := same_new hp
  have nO : ∀ a, OwnA σ env a → a ≠ p := fun a h z => by
    obtain ⟨_, u, q, _⟩ := E.ownSome h
    rw [z, hp] at q; cases q
  refine ⟨E.base.trans e, E.sub, fun a h => ?_, E.len, fun j u hu => (E.slot j u hu).weak (fun a o _ q => e a o q) (fun _ a o _ q => e a o q) (fun a o q z => ?_) (fun _ _ _ z => z) (fun _ _ _ z => z), E.inj⟩
  · rcases h with h | h
    · exact ⟨(E.bar a h).1, same_some e (E.bar a h).2.1, (E.bar a h).2.2⟩
    · subst h
      refine ⟨same_none E.base hp, (by rw [upd_same]; exact fun z => nomatch z), fun z => nO _ z rfl⟩
  · rcases z with z | z | z
    · exact .inl z
    · exact .inr z
    · subst z; rw [hp] at q; cases q
theorem EnvR.unbar {B' : Addr → Prop} (E : EnvR K C H0 S0 B H σ env) (s : ∀ a, B' a → B a) : EnvR K C H0 S0 B' H σ env :=
  ⟨E.base, E.sub, fun a h => E.bar a (s a h), E.len, fun j u hu => (E.slot j u hu).sub (fun a z => z.imp id (s a)) (fun _ z => z), E.inj⟩
/-- less is said of the slots: a slot forgotten, a dat as a bor; an own list as a dat -/
inductive LeS : Sl → Sl → Prop
  | refl (s : Sl) : LeS s s
  | emp (s : Sl) : LeS s .emp
  | bor (d : D) : LeS (.dat d) (.bor d)
  | frz (ds : List D) : LeS (.own ds) (.dat (.lst ds))
  | frb (ds : List D) : LeS (.own ds) (.bor (.lst ds))
  | bvr (v : V) (d : D) : LeS (.bvr v d) (.bor d)
  | rvr (v : V) (d : D) : LeS (.bvr v d) (.raw v)
inductive Le : Env → Env → Prop
  | nil : Le [] []
  | cons {s t : Sl} {e f : Env} : LeS s t → Le e f → Le (s :: e) (t :: f)
theorem Le.refl : ∀ e : Env, Le e e
  | [] => .nil
  | s :: e => .cons (.refl s) (Le.refl e)
theorem Le.len : ∀ {e f : Env}, Le e f → e.length = f.length
  | _, _, .nil => rfl
  | _, _, .cons _ r => congrArg (· + 1) r.len
theorem Le.get : ∀ {e f : Env} {i : Nat} {t : Sl}, Le e f → f[i]? = some t → ∃ s, e[i]? = some s ∧ LeS s t
  | _, _, _, _, .nil, h => by simp at h
  | _, _, 0, _, .cons h _, q => by
    simp at q; subst q; exact ⟨_, by simp, h⟩
  | _, _, i + 1, _, .cons _ r, q => by
    obtain ⟨s, h1, h2⟩ := r.get (i := i) (by simpa using q)
    exact ⟨s, by simpa using h1, h2⟩
theorem LeS.own {s t : Sl} (h : LeS s t) (ht : t.isOwn = true) : s = t := by
  cases h with
  | refl => rfl
  | emp => cases ht
  | bor d => cases ht
  | frz => cases ht
  | frb => cases ht
  | bvr => cases ht
  | rvr => cases ht
theorem EnvR.le {env' : Env} (E : EnvR K C H0 S0 B H σ env) (h : Le env env') : EnvR K C H0 S0 B H σ env' := by
  have sub : ∀ a, OwnA σ env' a → OwnA σ env a := fun a ⟨i, t, h1, h2, h3⟩ => by
    obtain ⟨s, q, l⟩ := h.get h1
    have := l.own h2
    subst this
    exact ⟨i, s, q, h2, h3⟩
  have sub2 : ∀ a, OwnB B σ env' a → OwnB B σ env a := fun a z => z.imp (sub a) id
  refine ⟨E.base, E.sub, fun a h => ⟨(E.bar a h).1, (E.bar a h).2.1, fun z => (E.bar a h).2.2 (sub a z)⟩, h.len.symm.trans E.len, fun i t ht => ?_, fun i j a s t h1 h2 h3 h4 h5 h6 => ?_⟩
  · obtain ⟨s, q, l⟩ := h.get ht
    have z := E.slot i s q
    have notours : ∀ {ds a}, s = .own ds → t.isOwn = false → σ[i]? = some (some (V.ref a)) → ¬ OwnB B σ env' a := fun {ds a} es et ea w => by
      subst es
      rcases w with w | w
      · obtain ⟨j, t2, h1, h2, h3⟩ := w
        obtain ⟨s2, q2, l2⟩ := h.get h1
        have := l2.own h2
        subst this
        have := E.inj i j a _ _ q rfl q2 h2 ea h3
        subst this
        rw [ht] at h1; cases h1; rw [et] at h2; cases h2
      · exact (E.bar a w).2.2 ⟨i, _, q, rfl, ea⟩
    cases l with
    | refl => exact z.sub sub2 (fun _ z => z)
    | emp => trivial
    | bor d =>
      obtain ⟨v, e, r⟩ := z
      exact ⟨v, e, r.weak (fun _ _ _ q => q) (fun a _ _ z => .inl (sub2 a z))⟩
    | bvr v d => exact ⟨v, z.1, z.2.weak (fun _ _ _ q => q) (fun a _ _ z => sub2 a z)⟩
    | rvr v d => exact z.1
    | frz ds =>
      obtain ⟨a, xs, e, n, ha, r⟩ := z
      refine ⟨.ref a, e, .lst (fun z => ?_) ha (r.weak (fun _ _ _ q => q) (fun a _ _ z => z.imp (sub2 a) id))⟩
      exact z.elim (notours rfl rfl e) (E.oursS0 (.inl ⟨i, _, q, rfl, e⟩))
    | frb ds =>
      obtain ⟨a, xs, e, n, ha, r⟩ := z
      exact ⟨.ref a, e, .lst (notours rfl rfl e) ha (r.weak (fun _ _ _ q => q) (fun a _ _ z => .inl (sub2 a z)))⟩
  · obtain ⟨s', q1, l1⟩ := h.get h1
    obtain ⟨t', q2, l2⟩ := h.get h3
    have := l1.own h2
    subst this
    have := l2.own h4
    subst this
    exact E.inj i j a _ _ q1 h2 q2 h4 h5 h6
end
end Fw

/-! Fw2: the readings by data, and the rules of expressions. -/
namespace Fw
open PySem L2

/-- what a result may not lean on: o: our own; s: S0 -/
def AvO (o s : Bool) (S0 B : Addr → Prop) (σ : L2.St) (env : Env) : Addr → Prop := fun a => (o = true ∧ OwnB B σ env a) ∨ (s = true ∧ S0 a)
/-- e gives the datum d -/
def tD (K : PySem.W.Frag) (C : Addr) (o s : Bool) (env : Env) (d : D) : TE := fun σ H Q => ∃ H0 S0 B, EnvR K C H0 S0 B H σ env ∧ ∀ v H', Same H H' → Rp K C (AvO o s S0 B σ env) H' v d → Q v H'
/-- e gives a new list of these -/
def tL (K : PySem.W.Frag) (C : Addr) (env : Env) (ds : List D) : TE := fun σ H Q => ∃ H0 S0 B, EnvR K C H0 S0 B H σ env ∧ ∀ p xs H', Same H H' → H p = none → H' p = some (.lst xs) → RpL K C (fun a => AvO true true S0 B σ env a ∨ a = p) H' xs ds → Q (.ref p) H'
def tT (K : PySem.W.Frag) (C : Addr) (env : Env) (b : Bool) : TT := fun σ H Q => ∃ H0 S0 B, EnvR K C H0 S0 B H σ env ∧ ∀ H', Same H H' → Q b H'
def tAs (K : PySem.W.Frag) (C : Addr) (o s : Bool) (env : Env) (ds : List D) : TA := fun σ H Q => ∃ H0 S0 B, EnvR K C H0 S0 B H σ env ∧ ∀ vs H', Same H H' → RpL K C (AvO o s S0 B σ env) H' vs ds → Q vs H'
abbrev PX (X : Cx) (C : Addr) (o s : Bool) (e : Expr) (env : Env) (d : D) : Prop := PE X e (tD X.K C o s env d)
abbrev PL (X : Cx) (C : Addr) (e : Expr) (env : Env) (ds : List D) : Prop := PE X e (tL X.K C env ds)
abbrev PTt (X : Cx) (C : Addr) (e : Expr) (env : Env) (b : Bool) : Prop := PT X e (tT X.K C env b)
abbrev PAs (X : Cx) (C : Addr) (o s : Bool) (es : List Expr) (env : Env) (ds : List D) : Prop := PA X es (tAs X.K C o s env ds)

section
variable {X : Cx} {C : Addr} {o s : Bool} {env : Env} {d da db : D} {ds : List D} {a b e : Expr} {pos : Pos}
theorem _root_.L2.PE.imp {t t' : TE} (h : PE X e t) (k : ∀ σ H Q, t' σ H Q → t σ H Q) : PE X e t' := ⟨fun pins s σ H Q I q => h.run pins s σ H Q I (k σ H Q q)⟩
theorem _root_.L2.PT.imp {t t' : TT} (h : PT X e t) (k : ∀ σ H Q, t' σ H Q → t σ H Q) : PT X e t' := ⟨fun pins s σ H Q I q => h.run pins s σ H Q I (k σ H Q q)⟩
theorem _root_.L2.PA.imp {es : List Expr} {t t' : TA} (h : PA X es t) (k : ∀ σ H Q, t' σ H Q → t σ H Q) : PA X es t' := ⟨fun pos pins s σ H Q I q => h.run pos pins s σ H Q I (k σ H Q q)⟩
theorem AvO.some {K : PySem.W.Frag} {H0 : Hp} {S0 B : Addr → Prop} {H : Hp} {σ : L2.St} (E : EnvR K C H0 S0 B H σ env) {a : Addr} (h : AvO o s S0 B σ env a) : H a ≠ none := by
  rcases h with ⟨_, h⟩ | ⟨_, h⟩
  · exact (E.ours h).2
  · exact E.s0Some h
theorem AvO.le {S0 B : Addr → Prop} {σ : L2.St} {o' s' : Bool} (ho : o' = true → o = true) (hs : s' = true → s = true) {a : Addr} (h : AvO o' s' S0 B σ env a) : AvO o s S0 B σ env a := h.imp (fun h => ⟨ho h.1, h.2⟩) (fun h => ⟨hs h.1, h.2⟩)
/-- the result leans on less than is asked -/
theorem px_sub {o' s' : Bool} (h : PX X C o s e env d) (ho : o' = true → o = true := by decide) (hs : s' = true → s = true := by decide) : PX X C o' s' e env d :=
  h.imp fun σ H Q ⟨H0, S0, B, E, k⟩ => ⟨H0, S0, B, E, fun v H' sm r => k v H' sm (r.anti fun a z => z.le ho hs)⟩
theorem px_ff (h : PX X C o s e env d) : PX X C false false e env d := px_sub h (fun z => nomatch z) (fun z => nomatch z)
theorem px_to {d' : D} (h : PX X C o s e env d) (q : d = d') : PX X C o s e env d' := q ▸ h
theorem pt_to {b' c : Bool} (h : PTt X C e env c) (q : c = b') : PTt X C e env b' := q ▸ h
theorem pl_to {ds' : List D} (h : PL X C e env ds) (q : ds = ds') : PL X C e env ds' := q ▸ h
/-- a new list as a datum -/
theorem pl_x (h : PL X C e env ds) : PX X C o s e env (.lst ds) :=
  h.imp fun σ H Q ⟨H0, S0, B, E, k⟩ => ⟨H0, S0, B, E, fun p xs H' sm hp h1 r => k _ H' sm (.lst (fun z => AvO.some E z hp) h1 (r.anti fun a z => .inl (z.le (fun _ => rfl) (fun _ => rfl))))⟩

/-! ### names, constants -/
def D.sc : D → Option V
  | .non => some .non
  | .bl b => some (.bl b)
  | .int i => some (.int i)
  | _ => none
theorem Rp.ofSc {K : PySem.W.Frag} {C : Addr} {S : Addr → Prop} {H : Hp} {d : D} {v : V} (h : d.sc = some v) : Rp K C S H v d := by
  cases d <;> cases h
  · exact .non
  · exact .bl _
  · exact .int _
def D.isSc : D → Bool
  | .non => true
  | .bl _ => true
  | .int _ => true
  | _ => false
theorem D.isSc_sc {d : D} (h : d.isSc = true) : ∃ v, d.sc = some v := by
  cases d <;> first | exact ⟨_, rfl⟩ | cases h
theorem Rp.anySc {K : PySem.W.Frag} {C : Addr} {S S' : Addr → Prop} {H : Hp} {d : D} {v : V} (h : Rp K C S H v d) (hd : d.isSc = true) : Rp K C S' H v d := by
  cases h with
  | non => exact .non
  | bl b => exact .bl b
  | int i => exact .int i
  | lst => cases hd
  | tup => cases hd
  | tree => cases hd
  | scr => cases hd
  | scrK => cases hd
def slGet (o s : Bool) : Sl → Option D
  | .bor d => if s && !d.isSc then none else some d
  | .bvr v d => if s && !d.isSc then none else some d
  | .dat d => some d
  | .own ds => if o then none else some (.lst ds)
  | _ => none
theorem px_name (i : Nat) {x : Str} (hN : X.N[i]? = some x := by rfl) (hv : Vis X.env.scope x := by first | exact Or.inl rfl | exact Or.inr (Or.inl rfl) | exact Or.inr (Or.inr rfl)) (hd : (x == ("__debug__" : Str)) = false := by decide)
    (hcd : (x == ("__classdict__" : Str)) = false := by decide) (he : env[i]?.bind (slGet o s) = some d := by rfl) : PX X C o s (.Name x pos) env d := by
  refine (pe_var (i := i) hN hv hd hcd).imp fun σ H Q ⟨H0, S0, B, E, k⟩ => ?_
  cases q : env[i]? with
  | none => rw [q] at he; cases he
  | some sl =>
    rw [q] at he
    have z := E.slot i sl q
    have he : slGet o s sl = some d := he
    cases sl with
    | emp => cases he
    | dct kvs => cases he
    | raw v => cases he
    | bor d' =>
      obtain ⟨v, e1, r⟩ := z
      have he : (if s && !d'.isSc then none else some d') = some d := he
      cases hc : d'.isSc with
      | true =>
        rw [hc, Bool.not_true, Bool.and_false, if_neg (by decide)] at he
        cases he
        exact ⟨v, e1, k v H (Same.refl H) (r.anySc hc)⟩
      | false =>
        cases s with
        | true => rw [hc] at he; cases he
        | false =>
          rw [Bool.false_and, if_neg (by decide)] at he
          cases he
          exact ⟨v, e1, k v H (Same.refl H) (r.anti fun a z => z.elim (fun z => z.2) (fun z => nomatch z.1))⟩
    | bvr v d' =>
      obtain ⟨e1, r⟩ := z
      have he : (if s && !d'.isSc then none else some d') = some d := he
      cases hc : d'.isSc with
      | true =>
        rw [hc, Bool.not_true, Bool.and_false, if_neg (by decide)] at he
        cases he
        exact ⟨v, e1, k v H (Same.refl H) (r.anySc hc)⟩
      | false =>
        cases s with
        | true => rw [hc] at he; cases he
        | false =>
          rw [Bool.false_and, if_neg (by decide)] at he
          cases he
          exact ⟨v, e1, k v H (Same.refl H) (r.anti fun a z => z.elim (fun z => z.2) (fun z => nomatch z.1))⟩
    | dat d' =>
      obtain ⟨v, e1, r⟩ := z
      cases he
      exact ⟨v, e1, k v H (Same.refl H) (r.anti fun a z => z.imp (fun z => z.2) (fun z => z.2))⟩
    | own ds =>
      obtain ⟨a, xs, e1, n0, h1, r⟩ := z
      unfold slGet at he
      cases o with
      | true => cases he
      | false =>
        cases he
        refine ⟨.ref a, e1, k _ H (Same.refl H) (.lst (fun z => ?_) h1 (r.anti fun a z => z.imp (fun z => z.2) (fun z => z.2)))⟩
        rcases z with z | z
        · exact nomatch z.1
        · exact E.oursS0 (.inl ⟨i, _, q, rfl, e1⟩) z.2
theorem px_int {i j} : PX X C o s (.Constant (.int i) j pos) env (.int i) := pe_int.imp fun σ H Q ⟨H0, S0, B, E, k⟩ => k _ H (Same.refl H) (.int i)
theorem px_bl {i j} : PX X C o s (.Constant (.bool i) j pos) env (.bl i) := pe_bl.imp fun σ H Q ⟨H0, S0, B, E, k⟩ => k _ H (Same.refl H) (.bl i)
theorem px_non {j} : PX X C o s (.Constant .none j pos) env .non := pe_non.imp fun σ H Q ⟨H0, S0, B, E, k⟩ => k _ H (Same.refl H) .non

/-! ### two operands -/
theorem Rp.isInt {K : PySem.W.Frag} {C : Addr} {S : Addr → Prop} {H : Hp} {i : Int} {v : V} (h : Rp K C S H v (.int i)) : v = .int i := by cases h; rfl
theorem Rp.isBl {K : PySem.W.Frag} {C : Addr} {S : Addr → Prop} {H : Hp} {i : Bool} {v : V} (h : Rp K C S H v (.bl i)) : v = .bl i := by cases h; rfl
theorem Rp.isNon {K : PySem.W.Frag} {C : Addr} {S : Addr → Prop} {H : Hp} {v : V} (h : Rp K C S H v .non) : v = .non := by cases h; rfl
/-- the result a scalar -/
theorem tOp_sc {r : R2} {v : V} {K : PySem.W.Frag} (hv : d.sc = some v) (hr : ∀ S (x y : V) (H : Hp) (Q : VK), Rp K C S H x da → Rp K C S H y db → Q v H → r x y H Q) :
    ∀ σ H Q, tD K C o s env d σ H Q → tOp r (tD K C false false env da) (tD K C false false env db) σ H Q := fun σ H Q ⟨H0, S0, B, E, k⟩ =>
  ⟨H0, S0, B, E, fun v H1 e1 r1 => ⟨H0, S0, B, E.mono e1, fun w H2 e2 r2 => hr _ v w H2 Q (r1.mono e2) r2 (k _ H2 (e1.trans e2) (.ofSc hv))⟩⟩
/-- any result -/
theorem tOp_dt {r : R2} {K : PySem.W.Frag} (hr : ∀ S (x y : V) (H : Hp) (Q : VK), (∀ a, S a → H a ≠ none) → Rp K C S H x da → Rp K C S H y db → (∀ z H', Same H H' → Rp K C S H' z d → Q z H') → r x y H Q) :
    ∀ σ H Q, tD K C o s env d σ H Q → tOp r (tD K C o s env da) (tD K C o s env db) σ H Q := fun σ H Q ⟨H0, S0, B, E, k⟩ =>
  ⟨H0, S0, B, E, fun v H1 e1 r1 => ⟨H0, S0, B, E.mono e1, fun w H2 e2 r2 => hr _ v w H2 Q (fun a z => AvO.some ((E.mono e1).mono e2) z) (r1.mono e2) r2 fun z H3 e3 r3 => k z H3 ((e1.trans e2).trans e3) r3⟩⟩
theorem px_i2 {op : Operator} {Cn : Int → Int → Prop} {g : Int → Int → Int} {i j : Int} (ho : OpR X (binaryOp op) (rI Cn fun i j => .int (g i j))) (ha : PX X C false false a env (.int i)) (hb : PX X C false false b env (.int j)) (hc : Cn i j) : PX X C o s (.BinOp a op b pos) env (.int (g i j)) :=
  (pe_op ho ha hb).imp (tOp_sc rfl fun S x y H Q r1 r2 q => ⟨i, j, r1.isInt, r2.isInt, hc, q⟩)
theorem px_i20 {op : Operator} {g : Int → Int → Int} {i j : Int} (ho : OpR X (binaryOp op) (rI0 fun i j => .int (g i j))) (ha : PX X C false false a env (.int i)) (hb : PX X C false false b env (.int j)) : PX X C o s (.BinOp a op b pos) env (.int (g i j)) :=
  (pe_op ho ha hb).imp (tOp_sc rfl fun S x y H Q r1 r2 q => ⟨i, j, r1.isInt, r2.isInt, q⟩)
theorem px_add {i j : Int} (ha : PX X C false false a env (.int i)) (hb : PX X C false false b env (.int j)) : PX X C o s (.BinOp a .Add b pos) env (.int (i + j)) := px_i20 op_add ha hb
theorem px_subt {i j : Int} (ha : PX X C false false a env (.int i)) (hb : PX X C false false b env (.int j)) : PX X C o s (.BinOp a .Sub b pos) env (.int (i - j)) := px_i20 op_sub ha hb
theorem px_mul {i j : Int} (ha : PX X C false false a env (.int i)) (hb : PX X C false false b env (.int j)) (hc : CMul i j) : PX X C o s (.BinOp a .Mult b pos) env (.int (i * j)) := px_i2 op_mul ha hb hc
theorem px_fdiv {i j : Int} (ha : PX X C false false a env (.int i)) (hb : PX X C false false b env (.int j)) (hc : CDiv i j) : PX X C o s (.BinOp a .FloorDiv b pos) env (.int (i / j)) := px_i2 op_fdiv ha hb hc
theorem px_mod {i j : Int} (ha : PX X C false false a env (.int i)) (hb : PX X C false false b env (.int j)) (hc : 0 < j) : PX X C o s (.BinOp a .Mod b pos) env (.int (i % j)) := px_i2 op_mod ha hb hc
theorem px_pow {i j : Int} (ha : PX X C false false a env (.int i)) (hb : PX X C false false b env (.int j)) (hc : CPow i j) : PX X C o s (.BinOp a .Pow b pos) env (.int (i ^ j.toNat)) := px_i2 op_pow ha hb hc
theorem px_neg {i : Int} (ha : PX X C false false a env (.int i)) : PX X C o s (.UnaryOp .USub a pos) env (.int (-i)) :=
  (pe_un un_neg ha).imp fun σ H Q ⟨H0, S0, B, E, k⟩ => ⟨H0, S0, B, E, fun v H1 e1 r1 => ⟨i, r1.isInt, k _ H1 e1 (.ofSc rfl)⟩⟩
theorem sz {n : Nat} (h : n ≤ 1000000) : n ≤ sizeLine := Nat.le_trans h (by decide)
theorem szl {n : Nat} (h : n < 1000000) : n < sizeLine := Nat.lt_of_lt_of_le h (by decide)
/-- xs + ys: a new list -/
theorem pl_cat {xs ys : List D} (ha : PX X C true true a env (.lst xs)) (hb : PX X C true true b env (.lst ys)) (hz : xs.length + ys.length ≤ 1000000) : PL X C (.BinOp a .Add b pos) env (xs ++ ys) :=
  (pe_op op_cat ha hb).imp fun σ H Q ⟨H0, S0, B, E, k⟩ => ⟨H0, S0, B, E, fun v H1 e1 r1 => ⟨H0, S0, B, E.mono e1, fun w H2 e2 r2 => by
    cases r1.mono e2 with
    | lst n1 h1 r1 => cases r2 with
      | lst n2 h2 r2 =>
        refine ⟨_, _, _, _, rfl, rfl, h1, h2, by rw [r1.len, r2.len]; exact sz hz, fun p hp => k p _ _ ((e1.trans e2).trans (same_new hp)) (same_none (e1.trans e2) hp) upd_same ?_⟩
        refine (r1.append r2).weak (fun a o _ q => same_new hp a o q) (fun a o q z => z.elim id fun z => ?_)
        rw [z, hp] at q; cases q⟩⟩
/-- xs * k -/
theorem pl_rep {x : D} {k : Int} (ha : PX X C false false a env (.lst [x])) (hx : x.sc ≠ none) (hb : PX X C false false b env (.int k)) (hk : 0 ≤ k ∧ k ≤ 100000) : PL X C (.BinOp a .Mult b pos) env (List.replicate k.toNat x) :=
  (pe_op op_rep ha hb).imp fun σ H Q ⟨H0, S0, B, E, kk⟩ => ⟨H0, S0, B, E, fun v H1 e1 r1 => ⟨H0, S0, B, E.mono e1, fun w H2 e2 r2 => by
    cases r1.mono e2 with
    | lst n1 h1 r1 =>
      cases r1 with
      | cons rx rn =>
        cases rn
        cases r2
        cases hv : x.sc with
        | none => exact absurd hv hx
        | some xv =>
          refine ⟨_, _, _, rfl, rfl, h1, by omega, by omega, by rw [List.length_singleton]; exact sz (by omega), fun p hp => kk p _ _ ((e1.trans e2).trans (same_new hp)) (same_none (e1.trans e2) hp) upd_same ?_⟩
          have go : ∀ n : Nat, ∀ S, RpL X.K C S (upd H2 p (.lst (List.replicate k.toNat [xv]).flatten)) (List.replicate n [xv]).flatten (List.replicate n x) := fun n S => by
            induction n with
            | zero => exact .nil
            | succ n ih => rw [List.replicate_succ, List.replicate_succ, List.flatten_cons]; exact .cons (.ofSc hv) ih
          cases x <;> first | (cases hv; done) | (cases hv; cases rx; exact go _ _)⟩⟩

/-! ### comparisons -/
/-- a op b is v, as a value and as a test -/
def CmpR (X : Cx) (C : Addr) (op : CmpOp) (a b : Expr) (env : Env) (v : Bool) : Prop := ∃ r ta tb, OpR X (compareOp op) r ∧ PE X a ta ∧ PE X b tb ∧ behindInMarks op b = false ∧ ∀ o s σ H Q, tD X.K C o s env (.bl v) σ H Q → tOp r ta tb σ H Q
theorem px_c {op : CmpOp} {v : Bool} (h : CmpR X C op a b env v) : PX X C o s (.Compare a [op] [b] pos) env (.bl v) := by
  obtain ⟨r, ta, tb, ho, ha, hb, hm, k⟩ := h
  exact (pe_cmpR ho ha hb hm).imp (k o s)
theorem pt_c {op : CmpOp} {v : Bool} (h : CmpR X C op a b env v) : PTt X C (.Compare a [op] [b] pos) env v := by
  obtain ⟨r, ta, tb, ho, ha, hb, hm, k⟩ := h
  refine (pt_cmpR ho ha hb hm).imp fun σ H Q ⟨H0, S0, B, E, q⟩ => ?_
  refine k false false σ H _ ⟨H0, S0, B, E, fun v H' sm r => ?_⟩
  exact ⟨_, r.isBl, q H' sm⟩
theorem CmpR.to {op : CmpOp} {v w : Bool} (h : CmpR X C op a b env v) (e : v = w) : CmpR X C op a b env w := e ▸ h
theorem cm_ci {op : CmpOp} {g : Int → Int → Bool} {i j : Int} (ho : OpR X (compareOp op) (rI0 fun i j => .bl (g i j))) (hm : behindInMarks op b = false) (ha : PX X C false false a env (.int i)) (hb : PX X C false false b env (.int j)) : CmpR X C op a b env ((g i j)) :=
  ⟨_, _, _, ho, ha, hb, hm, fun o s => (tOp_sc rfl fun S x y H Q r1 r2 q => ⟨i, j, r1.isInt, r2.isInt, q⟩)⟩
theorem cm_lt {i j : Int} (ha : PX X C false false a env (.int i)) (hb : PX X C false false b env (.int j)) : CmpR X C .Lt a b env ((decide (i < j))) := cm_ci op_lt (nomark _) ha hb
theorem cm_le {i j : Int} (ha : PX X C false false a env (.int i)) (hb : PX X C false false b env (.int j)) : CmpR X C .LtE a b env ((decide (i ≤ j))) := cm_ci op_le (nomark _) ha hb
theorem cm_gt {i j : Int} (ha : PX X C false false a env (.int i)) (hb : PX X C false false b env (.int j)) : CmpR X C .Gt a b env ((decide (j < i))) := cm_ci op_gt (nomark _) ha hb
theorem cm_ge {i j : Int} (ha : PX X C false false a env (.int i)) (hb : PX X C false false b env (.int j)) : CmpR X C .GtE a b env ((decide (j ≤ i))) := cm_ci op_ge (nomark _) ha hb
theorem cm_eqI {i j : Int} (ha : PX X C false false a env (.int i)) (hb : PX X C false false b env (.int j)) : CmpR X C .Eq a b env ((decide (i = j))) :=
  ⟨_, _, _, op_eq, ha, hb, (nomark _), fun o s => (tOp_sc rfl fun S x y H Q r1 r2 q => by
    cases r1; cases r2; refine ⟨rfl, ?_⟩; rw [dec_int]; exact q)⟩
theorem cm_neI {i j : Int} (ha : PX X C false false a env (.int i)) (hb : PX X C false false b env (.int j)) : CmpR X C .NotEq a b env ((!decide (i = j))) :=
  ⟨_, _, _, op_ne, ha, hb, (nomark _), fun o s => (tOp_sc rfl fun S x y H Q r1 r2 q => by
    cases r1; cases r2; refine ⟨rfl, ?_⟩; rw [dec_int]; exact q)⟩
theorem cm_eqB {i j : Bool} (ha : PX X C false false a env (.bl i)) (hb : PX X C false false b env (.bl j)) : CmpR X C .Eq a b env ((i == j)) :=
  ⟨_, _, _, op_eq, ha, hb, (nomark _), fun o s => (tOp_sc rfl fun S x y H Q r1 r2 q => by
    cases r1; cases r2; refine ⟨rfl, ?_⟩; rw [dec_bl]; exact q)⟩
theorem cm_neB {i j : Bool} (ha : PX X C false false a env (.bl i)) (hb : PX X C false false b env (.bl j)) : CmpR X C .NotEq a b env ((!(i == j))) :=
  ⟨_, _, _, op_ne, ha, hb, (nomark _), fun o s => (tOp_sc rfl fun S x y H Q r1 r2 q => by
    cases r1; cases r2; refine ⟨rfl, ?_⟩; rw [dec_bl]; exact q)⟩
def D.isNon : D → Bool
  | .non => true
  | _ => false
theorem Rp.decNon {K : PySem.W.Frag} {C : Addr} {S : Addr → Prop} {H : Hp} {d : D} {v : V} (h : Rp K C S H v d) : decide (v = .non) = d.isNon := by cases h <;> rfl
theorem cm_isN {j p2} (ha : PX X C false false a env da) : CmpR X C .Is a (.Constant .none j p2) env (da.isNon) :=
  ⟨_, _, _, op_isN, ha, (px_non (o := false) (s := false) (env := env) (C := C)), (nomark _), fun o s => (tOp_sc rfl fun S x y H Q r1 r2 q => ⟨r2.isNon, by rw [r1.decNon]; exact q⟩)⟩
theorem cm_notN {j p2} (ha : PX X C false false a env da) : CmpR X C .IsNot a (.Constant .none j p2) env ((!da.isNon)) :=
  ⟨_, _, _, op_notN, ha, (px_non (o := false) (s := false) (env := env) (C := C)), (nomark _), fun o s => (tOp_sc rfl fun S x y H Q r1 r2 q => ⟨r2.isNon, by rw [r1.decNon]; exact q⟩)⟩
/-- is True -/
theorem cm_isTrue {i : Bool} {j p2} {k : Bool} (ha : PX X C false false a env (.bl i)) : CmpR X C .Is a (.Constant (.bool k) j p2) env ((decide (i = k))) :=
  ⟨_, _, _, op_is_bl, ha, (px_bl (o := false) (s := false) (env := env) (C := C)), (nomark _), fun o s => (tOp_sc rfl fun S x y H Q r1 r2 q => ⟨i, k, r1.isBl, r2.isBl, q⟩)⟩
theorem cm_isnotTrue {i : Bool} {j p2} {k : Bool} (ha : PX X C false false a env (.bl i)) : CmpR X C .IsNot a (.Constant (.bool k) j p2) env ((!decide (i = k))) :=
  ⟨_, _, _, op_isnot_bl, ha, (px_bl (o := false) (s := false) (env := env) (C := C)), (nomark _), fun o s => (tOp_sc rfl fun S x y H Q r1 r2 q => ⟨i, k, r1.isBl, r2.isBl, q⟩)⟩
/-! ### data compared -/
mutual
def D.py : D → PyData
  | .non => .none
  | .bl b => .bool b
  | .int i => .int i
  | .lst ds => .list (D.pyL ds)
  | .tup ds => .tuple (D.pyL ds)
  | .tree _ _ => .none
  | .scr _ => .none
def D.pyL : List D → List PyData
  | [] => []
  | d :: ds => d.py :: D.pyL ds
end
mutual
def D.plain : D → Bool
  | .lst ds => D.plainL ds
  | .tup ds => D.plainL ds
  | .tree _ _ => false
  | .scr _ => false
  | _ => true
def D.plainL : List D → Bool
  | [] => true
  | d :: ds => d.plain && D.plainL ds
end
mutual
theorem Rp.dp {K : PySem.W.Frag} {C : Addr} {S : Addr → Prop} {H : Hp} : ∀ {v : V} {d : D}, Rp K C S H v d → d.plain = true → Dp K H v d.py
  | _, _, .non, _ => .non
  | _, _, .bl b, _ => .bl b
  | _, _, .int i, _ => .int i
  | _, _, .lst n h r, p => .lst (SqL.of h) (RpL.dp r p)
  | _, _, .tup n h r, p => .tup (SqT.of h) (RpL.dp r p)
  | _, _, .tree n n2 h h2 r, p => nomatch p
  | _, _, .scr n h, p => nomatch p
  | _, _, .scrK h, p => nomatch p
theorem RpL.dp {K : PySem.W.Frag} {C : Addr} {S : Addr → Prop} {H : Hp} : ∀ {vs : List V} {ds : List D}, RpL K C S H vs ds → D.plainL ds = true → DpAll K H vs (D.pyL ds)
  | _, _, .nil, _ => .nil
  | _, _, .cons h r, p => by
    have p' := Bool.and_eq_true_iff.mp p
    exact .cons (Rp.dp h p'.1) (RpL.dp r p'.2)
end
/-- equal as Python says -/
def eqD (d e : D) : Bool := PyData.eqv d.py e.py
/-- what may be compared: no objects within, not too deep -/
def D.cmp (d : D) : Prop := d.plain = true ∧ SeqAt.shaped d.py = true
theorem cm_eqD (hu : X.A.units + 64 < cLine) (ha : PX X C false false a env da) (hb : PX X C false false b env db) (ca : da.cmp) (cb : db.cmp) : CmpR X C .Eq a b env ((eqD da db)) :=
  ⟨_, _, _, (op_eqD hu), ha, hb, (nomark _), fun o s => (tOp_sc rfl fun S x y H Q r1 r2 q => ⟨_, _, r1.dp ca.1, r2.dp cb.1, ca.2, cb.2, q⟩)⟩
theorem cm_neD (hu : X.A.units + 64 < cLine) (ha : PX X C false false a env da) (hb : PX X C false false b env db) (ca : da.cmp) (cb : db.cmp) : CmpR X C .NotEq a b env ((!eqD da db)) :=
  ⟨_, _, _, (op_neD hu), ha, hb, (nomark _), fun o s => (tOp_sc rfl fun S x y H Q r1 r2 q => ⟨_, _, r1.dp ca.1, r2.dp cb.1, ca.2, cb.2, q⟩)⟩
/-- d in a list of data, not in -/
theorem cm_inD (hu : X.A.units + 65 < cLine) (ho : OpR X (compareOp .In) (rInD X.K)) {ds : List D} (hm : behindInMarks .In b = false) (ha : PX X C false false a env da) (hb : PX X C false false b env (.lst ds)) (ca : da.cmp) (cb : (D.lst ds).cmp) : CmpR X C .In a b env ((ds.any fun z => eqD z da)) :=
  ⟨_, _, _, ho, ha, hb, hm, fun o s => (tOp_sc rfl fun S x y H Q r1 r2 q => by
    refine ⟨_, D.pyL ds, r1.dp ca.1, r2.dp cb.1, ca.2, cb.2, ?_⟩
    have e : ∀ l : List D, (D.pyL l).any (fun z => PyData.eqv z da.py) = l.any fun z => eqD z da := fun l => by
      induction l with
      | nil => rfl
      | cons z l ih => show (PyData.eqv z.py da.py || (D.pyL l).any _) = _; rw [ih]; rfl
    rw [e]; exact q)⟩
theorem cm_notInD (hu : X.A.units + 65 < cLine) (ho : OpR X (compareOp .NotIn) (rNotInD X.K)) {ds : List D} (hm : behindInMarks .NotIn b = false) (ha : PX X C false false a env da) (hb : PX X C false false b env (.lst ds)) (ca : da.cmp) (cb : (D.lst ds).cmp) : CmpR X C .NotIn a b env ((!ds.any fun z => eqD z da)) :=
  ⟨_, _, _, ho, ha, hb, hm, fun o s => (tOp_sc rfl fun S x y H Q r1 r2 q => by
    refine ⟨_, D.pyL ds, r1.dp ca.1, r2.dp cb.1, ca.2, cb.2, ?_⟩
    have e : ∀ l : List D, (D.pyL l).any (fun z => PyData.eqv z da.py) = l.any fun z => eqD z da := fun l => by
      induction l with
      | nil => rfl
      | cons z l ih => show (PyData.eqv z.py da.py || (D.pyL l).any _) = _; rw [ih]; rfl
    rw [e]; exact q)⟩
theorem flat_ints (ns : List Int) : (ns.map V.int).all flatV = true := by
  induction ns with
  | nil => rfl
  | cons n ns ih => rw [List.map_cons, List.all_cons, ih]; rfl
theorem inV_ints (i : Int) (ns : List Int) : inV (.int i) (ns.map V.int) = ns.contains i := by
  unfold inV
  induction ns with
  | nil => rfl
  | cons n ns ih =>
    rw [List.map_cons, List.any_cons, ih, List.contains_cons]
    congr 1
    show (n == i) = (i == n)
    by_cases h : n = i
    · subst h; rfl
    · rw [beq_false_of_ne h, beq_false_of_ne (Ne.symm h)]
/-- i in a list, a tuple of ints -/
theorem cm_inI {i : Int} {ns : List Int} (hm : behindInMarks .In b = false) (ha : PX X C false false a env (.int i)) (hb : PX X C false false b env (.lst (ns.map D.int))) : CmpR X C .In a b env ((ns.contains i)) :=
  ⟨_, _, _, op_in_seq, ha, hb, hm, fun o s => (tOp_sc rfl fun S x y H Q r1 r2 q => by
    cases r1
    cases r2 with
    | lst n h r =>
      have e := r.ints
      subst e
      refine ⟨_, _, rfl, .inl (SqL.of h), rfl, flat_ints ns, ?_⟩
      show Q (.bl (inV _ _)) H
      rw [inV_ints]; exact q)⟩
theorem cm_notInI {i : Int} {ns : List Int} (hm : behindInMarks .NotIn b = false) (ha : PX X C false false a env (.int i)) (hb : PX X C false false b env (.lst (ns.map D.int))) : CmpR X C .NotIn a b env ((!ns.contains i)) :=
  ⟨_, _, _, op_notIn_seq, ha, hb, hm, fun o s => (tOp_sc rfl fun S x y H Q r1 r2 q => by
    cases r1
    cases r2 with
    | lst n h r =>
      have e := r.ints
      subst e
      refine ⟨_, _, rfl, .inl (SqL.of h), rfl, flat_ints ns, ?_⟩
      show Q (.bl (!inV _ _)) H
      rw [inV_ints]; exact q)⟩
theorem cm_inT {i : Int} {ns : List Int} (hm : behindInMarks .In b = false) (ha : PX X C false false a env (.int i)) (hb : PX X C false false b env (.tup (ns.map D.int))) : CmpR X C .In a b env ((ns.contains i)) :=
  ⟨_, _, _, op_in_seq, ha, hb, hm, fun o s => (tOp_sc rfl fun S x y H Q r1 r2 q => by
    cases r1
    cases r2 with
    | tup n h r =>
      have e := r.ints
      subst e
      refine ⟨_, _, rfl, .inr (SqT.of h), rfl, flat_ints ns, ?_⟩
      show Q (.bl (inV _ _)) H
      rw [inV_ints]; exact q)⟩
/-! ### subscripts, slices -/
theorem atI_map {f : D → V} {ds : List D} {i : Int} : True := trivial
theorem RpL.atI {K : PySem.W.Frag} {S : Addr → Prop} {H : Hp} {vs : List V} {i : Int} (r : RpL K C S H vs ds) (h : L2.atI ds i = some d) : ∃ v, L2.atI vs i = some v ∧ Rp K C S H v d := by
  unfold L2.atI at h ⊢
  rw [r.len]
  cases q : ixN ds.length i with
  | none => rw [q] at h; cases h
  | some j => rw [q] at h; exact r.getD h
theorem px_ixL {i : Int} (ha : PX X C o s a env (.lst ds)) (hb : PX X C false false b env (.int i)) (hi : L2.atI ds i = some d) (hs : PlainIx b := by exact fun _ _ => rfl) : PX X C o s (.Subscript a b pos) env d :=
  (pe_ix ix_list ha hb hs).imp fun σ H Q ⟨H0, S0, B, E, k⟩ => ⟨H0, S0, B, E, fun v H1 e1 r1 => ⟨H0, S0, B, E.mono e1, fun w H2 e2 r2 => by
    cases r2
    cases r1.mono e2 with
    | lst n h r =>
      obtain ⟨v, q1, q2⟩ := r.atI hi
      exact ⟨_, _, _, v, rfl, rfl, SqL.of h, q1, k v H2 (e1.trans e2) q2⟩⟩⟩
theorem px_ixT {i : Int} (ha : PX X C o s a env (.tup ds)) (hb : PX X C false false b env (.int i)) (hi : L2.atI ds i = some d) (hs : PlainIx b := by exact fun _ _ => rfl) : PX X C o s (.Subscript a b pos) env d :=
  (pe_ix ix_tup ha hb hs).imp fun σ H Q ⟨H0, S0, B, E, k⟩ => ⟨H0, S0, B, E, fun v H1 e1 r1 => ⟨H0, S0, B, E.mono e1, fun w H2 e2 r2 => by
    cases r2
    cases r1.mono e2 with
    | tup n h r =>
      obtain ⟨v, q1, q2⟩ := r.atI hi
      exact ⟨_, _, _, v, rfl, rfl, SqT.of h, q1, k v H2 (e1.trans e2) q2⟩⟩⟩
theorem px_ixS {i j : Int} {ns : List Int} (ha : PX X C false false a env (.scr ns)) (hb : PX X C false false b env (.int i)) (hi : L2.atI ns i = some j) (hs : PlainIx b := by exact fun _ _ => rfl) : PX X C o s (.Subscript a b pos) env (.int j) :=
  (pe_ix ix_list ha hb hs).imp (tOp_sc rfl fun S x y H Q r1 r2 q => by
    cases r2
    have sq : ∀ {v : V}, Rp X.K C S H v (.scr ns) → ∃ a, v = .ref a ∧ SqL X.K H a (ns.map V.int) := fun {v} r => by
      cases r with
      | scr n h => exact ⟨_, rfl, .inl (.inr ⟨_, h⟩)⟩
      | scrK h => exact ⟨_, rfl, .inr h⟩
    obtain ⟨a, rfl, h⟩ := sq r1
    · refine ⟨_, _, i, .int j, rfl, rfl, h, ?_, q⟩
      unfold L2.atI at hi ⊢
      rw [List.length_map]
      cases z : ixN ns.length i with
      | none => rw [z] at hi; cases hi
      | some m =>
        rw [z] at hi
        show (ns.map V.int)[m]? = _
        rw [List.getElem?_map, show ns[m]? = some j from hi]; rfl)
/-- parts of a slice -/
def tO (K : PySem.W.Frag) (C : Addr) (env : Env) (i : Option Int) : TO := fun σ H Q => ∃ H0 S0 B, EnvR K C H0 S0 B H σ env ∧ ∀ H', Same H H' → Q i H'
abbrev POs (X : Cx) (C : Addr) (e : Option Expr) (env : Env) (i : Option Int) : Prop := PO X e (tO X.K C env i)
theorem _root_.L2.PO.imp {e : Option Expr} {t t' : TO} (h : PO X e t) (k : ∀ σ H Q, t' σ H Q → t σ H Q) : PO X e t' := ⟨fun pins s σ H Q I q => h.run pins s σ H Q I (k σ H Q q)⟩
theorem po_n : POs X C none env none := PO.imp po_none fun σ H Q ⟨H0, S0, B, E, k⟩ => k H (Same.refl H)
theorem po_s {i : Int} (h : PX X C false false e env (.int i)) : POs X C (some e) env (some i) := PO.imp (po_some h) fun σ H Q ⟨H0, S0, B, E, k⟩ => ⟨H0, S0, B, E, fun v H1 e1 r1 => ⟨i, r1.isInt, k H1 e1⟩⟩
def cutD {α : Type} (xs : List α) (lo hi : Option Int) : List α := (xs.drop (HT.sIx xs.length 0 lo)).take (HT.sIx xs.length xs.length hi - HT.sIx xs.length 0 lo)
theorem pl_slice {lo hi : Option Expr} {i j : Option Int} {p2 : Pos} (ha : PX X C true true a env (.lst ds)) (hl : POs X C lo env i) (hh : POs X C hi env j) : PL X C (.Subscript a (.Slice lo hi none p2) pos) env (cutD ds i j) :=
  (pe_slice sl_list ha hl hh).imp fun σ H Q ⟨H0, S0, B, E, k⟩ => ⟨H0, S0, B, E, fun v H1 e1 r1 => ⟨H0, S0, B, E.mono e1, fun H2 e2 => ⟨H0, S0, B, (E.mono e1).mono e2, fun H3 e3 => by
    cases r1.mono (e2.trans e3) with
    | lst n h r =>
      refine ⟨_, _, rfl, SqL.of h, fun p hp => k p _ _ ((e1.trans (e2.trans e3)).trans (same_new hp)) (same_none (e1.trans (e2.trans e3)) hp) upd_same ?_⟩
      unfold cutV cutD
      rw [r.len]
      exact ((r.drop _).take _).weak (fun a o _ q => same_new hp a o q) (fun a o q z => z.elim id fun z => by rw [z, hp] at q; cases q)⟩⟩⟩

/-! ### fields -/
theorem px_many {ds : List D} {m : Int} (hC : Cls X.K C) (hn : NoAttr X.K C "many") (ha : PX X C false false a env (.tree m ds)) (hb : attributeBase a "many" X.env (eval a X.env) = eval a X.env := by rfl) : PX X C o s (.Attribute a "many" pos) env (.int m) :=
  (pe_fld ha hb).imp fun σ H Q ⟨H0, S0, B, E, k⟩ => ⟨H0, S0, B, E, fun v H1 e1 r1 => by
    cases r1 with
    | tree n n2 h h2 r => exact ⟨_, _, _, _, _, rfl, h, hC, hn, by first | rfl | decide, k _ H1 e1 (.ofSc rfl)⟩⟩
theorem px_ties {ds : List D} {m : Int} (hC : Cls X.K C) (hn : NoAttr X.K C "ties") (ha : PX X C o s a env (.tree m ds)) (hb : attributeBase a "ties" X.env (eval a X.env) = eval a X.env := by rfl) : PX X C o s (.Attribute a "ties" pos) env (.lst ds) :=
  (pe_fld ha hb).imp fun σ H Q ⟨H0, S0, B, E, k⟩ => ⟨H0, S0, B, E, fun v H1 e1 r1 => by
    cases r1 with
    | tree n n2 h h2 r => exact ⟨_, _, _, _, _, rfl, h, hC, hn, by first | rfl | decide, k _ H1 e1 (.lst n2 h2 r)⟩⟩
end
end Fw

/-! Fw3: tests, displays, built-ins. -/
namespace Fw
open PySem L2
section
variable {X : Cx} {C : Addr} {o s : Bool} {env : Env} {d da db : D} {ds : List D} {a b e c : Expr} {es rest : List Expr} {pos p p2 : Pos} {x y : Bool}

/-! ### tests -/
theorem pt_e (h : PX X C false false e env (.bl x)) (he : ∀ whole, isTrue e X.env whole = (do let v ← whole; standAt e.pos; holding [v] (truthy v)) := by intro _; rfl) : PTt X C e env x :=
  (pt_val h he).imp fun σ H Q ⟨H0, S0, B, E, k⟩ => ⟨H0, S0, B, E, fun v H1 e1 r1 => ⟨x, r1.isBl, k H1 e1⟩⟩
theorem pt_n (h : PTt X C a env x) : PTt X C (.UnaryOp .Not a pos) env (!x) :=
  (pt_not h).imp fun σ H Q ⟨H0, S0, B, E, k⟩ => ⟨H0, S0, B, E, fun H1 e1 => k H1 e1⟩
/-- a chain of and, or -/
abbrev PWt (X : Cx) (C : Addr) (e : Expr) (env : Env) (b : Bool) : Prop := PW X e (tT X.K C env b)
theorem _root_.L2.PW.imp {t t' : TT} (h : PW X e t) (k : ∀ σ H Q, t' σ H Q → t σ H Q) : PW X e t' := ⟨fun wh pins s σ H Q I q => h.run wh pins s σ H Q I (k σ H Q q)⟩
theorem PT.never {t : TT} (h : ∀ σ H Q, ¬ t σ H Q) : PT X e t := ⟨fun pins s σ H Q I q => (h σ H Q q).elim⟩
theorem PW.never {t : TT} (h : ∀ σ H Q, ¬ t σ H Q) : PW X e t := ⟨fun wh pins s σ H Q I q => (h σ H Q q).elim⟩
theorem PE.never {t : TE} (h : ∀ σ H Q, ¬ t σ H Q) : PE X e t := ⟨fun pins s σ H Q I q => (h σ H Q q).elim⟩
theorem pw_a1 (h : PTt X C a env x) : PWt X C (.BoolOp .And [a] pos) env x := pw_and1 h
theorem pw_o1 (h : PTt X C a env x) : PWt X C (.BoolOp .Or [a] pos) env x := pw_or1 h
theorem pw_a (ha : PTt X C a env x) (hb : x = true → PWt X C (.BoolOp .And (b :: rest) pos) env y) : PWt X C (.BoolOp .And (a :: b :: rest) pos) env (x && y) := by
  cases x with
  | true => exact (pw_and ha (hb rfl)).imp fun σ H Q ⟨H0, S0, B, E, k⟩ => ⟨H0, S0, B, E, fun H1 e1 => by
      exact iteT (⟨H0, S0, B, E.mono e1, fun H2 e2 => k H2 (e1.trans e2)⟩)⟩
  | false => exact (pw_and ha (PW.never (t := fun _ _ _ => False) fun _ _ _ h => h)).imp fun σ H Q ⟨H0, S0, B, E, k⟩ => ⟨H0, S0, B, E, fun H1 e1 => by
      exact iteF (k H1 e1)⟩
theorem pw_o (ha : PTt X C a env x) (hb : x = false → PWt X C (.BoolOp .Or (b :: rest) pos) env y) : PWt X C (.BoolOp .Or (a :: b :: rest) pos) env (x || y) := by
  cases x with
  | false => exact (pw_or ha (hb rfl)).imp fun σ H Q ⟨H0, S0, B, E, k⟩ => ⟨H0, S0, B, E, fun H1 e1 => by
      exact iteF (⟨H0, S0, B, E.mono e1, fun H2 e2 => k H2 (e1.trans e2)⟩)⟩
  | true => exact (pw_or ha (PW.never (t := fun _ _ _ => False) fun _ _ _ h => h)).imp fun σ H Q ⟨H0, S0, B, E, k⟩ => ⟨H0, S0, B, E, fun H1 e1 => by
      exact iteT (k H1 e1)⟩
theorem pt_w {op : BoolOp} (h : PWt X C (.BoolOp op es pos) env x) : PTt X C (.BoolOp op es pos) env x := h.pt
/-- .. as values -/
theorem px_one {op : BoolOp} (h : PX X C o s a env d) : PX X C o s (.BoolOp op [a] pos) env d := pe_one h
theorem px_a (ha : PX X C false false a env (.bl x)) (hb : x = true → PX X C o s (.BoolOp .And (b :: rest) pos) env (.bl y)) : PX X C o s (.BoolOp .And (a :: b :: rest) pos) env (.bl (x && y)) := by
  cases x with
  | true => exact (pe_and ha (hb rfl)).imp fun σ H Q ⟨H0, S0, B, E, k⟩ => ⟨H0, S0, B, E, fun v H1 e1 r1 => ⟨true, r1.isBl, by
      exact iteT (⟨H0, S0, B, E.mono e1, fun v H2 e2 r2 => k v H2 (e1.trans e2) r2⟩)⟩⟩
  | false => exact (pe_and ha (PE.never (t := fun _ _ _ => False) fun _ _ _ h => h)).imp fun σ H Q ⟨H0, S0, B, E, k⟩ => ⟨H0, S0, B, E, fun v H1 e1 r1 => ⟨false, r1.isBl, by
      exact iteF (k _ H1 e1 (.ofSc rfl))⟩⟩
theorem px_o (ha : PX X C false false a env (.bl x)) (hb : x = false → PX X C o s (.BoolOp .Or (b :: rest) pos) env (.bl y)) : PX X C o s (.BoolOp .Or (a :: b :: rest) pos) env (.bl (x || y)) := by
  cases x with
  | false => exact (pe_or ha (hb rfl)).imp fun σ H Q ⟨H0, S0, B, E, k⟩ => ⟨H0, S0, B, E, fun v H1 e1 r1 => ⟨false, r1.isBl, by
      exact iteF (⟨H0, S0, B, E.mono e1, fun v H2 e2 r2 => k v H2 (e1.trans e2) r2⟩)⟩⟩
  | true => exact (pe_or ha (PE.never (t := fun _ _ _ => False) fun _ _ _ h => h)).imp fun σ H Q ⟨H0, S0, B, E, k⟩ => ⟨H0, S0, B, E, fun v H1 e1 r1 => ⟨true, r1.isBl, by
      exact iteT (k _ H1 e1 (.ofSc rfl))⟩⟩
theorem px_not (h : PX X C false false a env (.bl x)) : PX X C o s (.UnaryOp .Not a pos) env (.bl (!x)) :=
  (pe_not h).imp fun σ H Q ⟨H0, S0, B, E, k⟩ => ⟨H0, S0, B, E, fun v H1 e1 r1 => ⟨x, r1.isBl, k _ H1 e1 (.ofSc rfl)⟩⟩
/-- a if c else b -/
theorem px_if (hc : PTt X C c env x) (ha : x = true → PX X C o s a env d) (hb : x = false → PX X C o s b env d) : PX X C o s (.IfExp c a b pos) env d := by
  cases x with
  | true => exact (pe_ifExp hc (ha rfl) (PE.never (t := fun _ _ _ => False) fun _ _ _ h => h)).imp fun σ H Q ⟨H0, S0, B, E, k⟩ => ⟨H0, S0, B, E, fun H1 e1 => by
      exact iteT (⟨H0, S0, B, E.mono e1, fun v H2 e2 r2 => k v H2 (e1.trans e2) r2⟩)⟩
  | false => exact (pe_ifExp hc (PE.never (t := fun _ _ _ => False) fun _ _ _ h => h) (hb rfl)).imp fun σ H Q ⟨H0, S0, B, E, k⟩ => ⟨H0, S0, B, E, fun H1 e1 => by
      exact iteF (⟨H0, S0, B, E.mono e1, fun v H2 e2 r2 => k v H2 (e1.trans e2) r2⟩)⟩

/-! ### arguments, displays -/
theorem pas_nil : PAs X C o s [] env [] := pa_nil.imp fun σ H Q ⟨H0, S0, B, E, k⟩ => k [] H (Same.refl H) .nil
theorem pas_cons (ha : PX X C o s e env d) (hr : PAs X C o s es env ds) (hs : starEach (e :: es) X.env = (false, eval e X.env) :: starEach es X.env := by rfl) : PAs X C o s (e :: es) env (d :: ds) :=
  (pa_cons ha hr hs).imp fun σ H Q ⟨H0, S0, B, E, k⟩ => ⟨H0, S0, B, E, fun v H1 e1 r1 => ⟨H0, S0, B, E.mono e1, fun vs H2 e2 r2 => k _ H2 (e1.trans e2) (.cons (r1.mono e2) r2)⟩⟩
theorem px_tup {k : Nat} (h : PAs X C o s es env ds) (hz : ds.length ≤ 1000000 := by first | decide | simp) : PX X C o s (.Tuple es k pos) env (.tup ds) :=
  (pe_tup h).imp fun σ H Q ⟨H0, S0, B, E, k⟩ => ⟨H0, S0, B, E, fun vs H1 e1 r1 => ⟨by rw [r1.len]; exact sz hz, fun p hp => k _ _ (e1.trans (same_new hp)) (.tup (fun z => AvO.some (E.mono e1) z hp) upd_same (r1.mono (same_new hp)))⟩⟩
theorem pl_lst (h : PAs X C true true es env ds) (hz : ds.length ≤ 1000000 := by first | decide | simp) : PL X C (.List es pos) env ds :=
  (pe_lst h).imp fun σ H Q ⟨H0, S0, B, E, k⟩ => ⟨H0, S0, B, E, fun vs H1 e1 r1 => ⟨by rw [r1.len]; exact sz hz, fun p hp => k p _ _ (e1.trans (same_new hp)) (same_none e1 hp) upd_same
    (r1.weak (fun a o _ q => same_new hp a o q) (fun a o q z => z.elim id fun z => by rw [z, hp] at q; cases q))⟩⟩

/-! ### built-ins by name -/
theorem pxB {id : String} {r : List V → Hp → VK → Prop} {xn : Str} (hr : CallR X (.builtin id) r) (hg : Gl X xn) (hm : X.mg xn = none) (hv : bootBuiltins xn = some (.builtin id)) (ha : PAs X C false false (e :: es) env ds)
    (hn : xn ≠ "__name__") (hdb : (xn == ("__debug__" : Str)) = false) (na : starEach (e :: es) X.env = (false, eval e X.env) :: starEach es X.env) (hpl : (backTo pos (starEach es X.env)).any (·.1) = false)
    {v : V} (hd : d.sc = some v) (hq : ∀ S vs H (Q : VK), RpL X.K C S H vs ds → Q v H → r vs H Q) : PX X C o s (.Call (.Name xn p) (e :: es) [] pos) env d :=
  (pe_callB hr hg hm hv ha hn hdb na hpl).imp fun σ H Q ⟨H0, S0, B, E, k⟩ => ⟨H0, S0, B, E, fun vs H1 e1 r1 => hq _ vs H1 Q r1 (k _ H1 e1 (.ofSc hd))⟩
end
end Fw

/-! Fw4: built-ins, calls of defs. -/
namespace Fw
open PySem L2

/-! ### lists in data -/
abbrev dI (ns : List Int) : List D := ns.map D.int
def pr (p : Int × Int) : D := .tup [.int p.1, .int p.2]
abbrev dP (ps : List (Int × Int)) : List D := ps.map pr
section
variable {X : Cx} {C : Addr} {o s : Bool} {env : Env} {d da db : D} {ds : List D} {a b e c : Expr} {es rest : List Expr} {pos p p2 p3 : Pos} {x y : Bool}

theorem pas1 (ha : PX X C o s a env d) (na : starEach [a] X.env = (false, eval a X.env) :: starEach [] X.env := by rfl) : PAs X C o s [a] env [d] := pas_cons ha pas_nil na
theorem RpL.one {K : PySem.W.Frag} {S : Addr → Prop} {H : Hp} {vs : List V} (h : RpL K C S H vs [d]) : ∃ v, vs = [v] ∧ Rp K C S H v d := by
  cases h with
  | cons h r => cases r; exact ⟨_, rfl, h⟩
theorem RpL.two {K : PySem.W.Frag} {S : Addr → Prop} {H : Hp} {vs : List V} (h : RpL K C S H vs [da, db]) : ∃ v w, vs = [v, w] ∧ Rp K C S H v da ∧ Rp K C S H w db := by
  cases h with
  | cons h r => cases r with
    | cons h2 r => cases r; exact ⟨_, _, rfl, h, h2⟩
/-- a built-in by its name, its answer a scalar -/
theorem pxb {id : String} {r : List V → Hp → VK → Prop} {xn : Str} (hr : CallR X (.builtin id) r) (hg : Gl X xn) (hm : X.mg xn = none) (hv : bootBuiltins xn = some (.builtin id)) (ha : PAs X C false false (e :: es) env ds)
    {v : V} (hd : d.sc = some v) (hq : ∀ S vs H (Q : VK), RpL X.K C S H vs ds → Q v H → r vs H Q) (hn : xn ≠ "__name__" := by decide) (hdb : (xn == ("__debug__" : Str)) = false := by decide)
    (he : starEach (e :: es) X.env = (false, eval e X.env) :: starEach es X.env := by rfl) (hpl : (backTo pos (starEach es X.env)).any (·.1) = false := by rfl) : PX X C o s (.Call (.Name xn p) (e :: es) [] pos) env d :=
  (pe_callB hr hg hm hv ha hn hdb he hpl).imp fun σ H Q ⟨H0, S0, B, E, k⟩ => ⟨H0, S0, B, E, fun vs H1 e1 r1 => hq _ vs H1 Q r1 (k _ H1 e1 (.ofSc hd))⟩
theorem pxty {id : String} {r : List V → Hp → VK → Prop} {xn : Str} (hr : CallR X (.type id) r) (hg : Gl X xn) (hm : X.mg xn = none) (hv : bootBuiltins xn = some (.type id)) (ha : PAs X C false false (e :: es) env ds)
    {v : V} (hd : d.sc = some v) (hq : ∀ S vs H (Q : VK), RpL X.K C S H vs ds → Q v H → r vs H Q) (hn : xn ≠ "__name__" := by decide) (hdb : (xn == ("__debug__" : Str)) = false := by decide)
    (he : starEach (e :: es) X.env = (false, eval e X.env) :: starEach es X.env := by rfl) (hpl : (backTo pos (starEach es X.env)).any (·.1) = false := by rfl) : PX X C o s (.Call (.Name xn p) (e :: es) [] pos) env d :=
  (pe_callTy hr hg hm hv ha hn hdb he hpl).imp fun σ H Q ⟨H0, S0, B, E, k⟩ => ⟨H0, S0, B, E, fun vs H1 e1 r1 => hq _ vs H1 Q r1 (k _ H1 e1 (.ofSc hd))⟩
theorem px_lenL (hm : X.mg "len" = none) (ha : PX X C false false a env (.lst ds)) (hg : Gl X "len" := by rfl) (na : starEach [a] X.env = (false, eval a X.env) :: starEach [] X.env := by rfl) (hpl : (backTo pos (starEach [] X.env)).any (·.1) = false := by rfl) :
    PX X C o s (.Call (.Name "len" p) [a] [] pos) env (.int ds.length) :=
  pxb call_len_seq hg hm PySem.boot_len (pas1 ha na) rfl (fun S vs H Q r q => by
    obtain ⟨v, rfl, r1⟩ := r.one
    cases r1 with
    | lst n h r => exact ⟨_, _, rfl, .inl (SqL.of h), by rw [r.len]; exact q⟩) (by decide) (by decide) na hpl
theorem px_lenT (hm : X.mg "len" = none) (ha : PX X C false false a env (.tup ds)) (hg : Gl X "len" := by rfl) (na : starEach [a] X.env = (false, eval a X.env) :: starEach [] X.env := by rfl) (hpl : (backTo pos (starEach [] X.env)).any (·.1) = false := by rfl) :
    PX X C o s (.Call (.Name "len" p) [a] [] pos) env (.int ds.length) :=
  pxb call_len_seq hg hm PySem.boot_len (pas1 ha na) rfl (fun S vs H Q r q => by
    obtain ⟨v, rfl, r1⟩ := r.one
    cases r1 with
    | tup n h r => exact ⟨_, _, rfl, .inr (SqT.of h), by rw [r.len]; exact q⟩) (by decide) (by decide) na hpl
theorem px_lenS {ns : List Int} (hm : X.mg "len" = none) (ha : PX X C false false a env (.scr ns)) (hg : Gl X "len" := by rfl) (na : starEach [a] X.env = (false, eval a X.env) :: starEach [] X.env := by rfl) (hpl : (backTo pos (starEach [] X.env)).any (·.1) = false := by rfl) :
    PX X C o s (.Call (.Name "len" p) [a] [] pos) env (.int ns.length) :=
  pxb call_len_seq hg hm PySem.boot_len (pas1 ha na) rfl (fun S vs H Q r q => by
    obtain ⟨v, rfl, r1⟩ := r.one
    cases r1 with
    | scr n h => exact ⟨_, _, rfl, .inl (.inl (.inr ⟨_, h⟩)), by rw [List.length_map]; exact q⟩
    | scrK h => exact ⟨_, _, rfl, .inl (.inr h), by rw [List.length_map]; exact q⟩) (by decide) (by decide) na hpl
theorem abs_eq (i : Int) : (if i < 0 then -i else i) = ((i.natAbs : Nat) : Int) := by split <;> omega
theorem px_abs {i : Int} (hm : X.mg "abs" = none) (ha : PX X C false false a env (.int i)) (hg : Gl X "abs" := by rfl) (na : starEach [a] X.env = (false, eval a X.env) :: starEach [] X.env := by rfl) (hpl : (backTo pos (starEach [] X.env)).any (·.1) = false := by rfl) :
    PX X C o s (.Call (.Name "abs" p) [a] [] pos) env (.int ((i.natAbs : Nat) : Int)) :=
  pxb call_abs hg hm PyProof.Rows.boot_abs (pas1 ha na) rfl (fun S vs H Q r q => by
    obtain ⟨v, rfl, r1⟩ := r.one
    exact ⟨i, by rw [r1.isInt], by rw [abs_eq]; exact q⟩) (by decide) (by decide) na hpl
theorem min_eq (i j : Int) : (if j < i then j else i) = min i j := by omega
theorem max_eq (i j : Int) : (if j > i then j else i) = max i j := by omega
theorem px_min {i j : Int} (hc : X.calm = true) (hm : X.mg "min" = none) (ha : PX X C false false a env (.int i)) (hb : PX X C false false b env (.int j)) (hg : Gl X "min" := by rfl) (na : starEach [a, b] X.env = (false, eval a X.env) :: starEach [b] X.env := by rfl)
    (nb : starEach [b] X.env = (false, eval b X.env) :: starEach [] X.env := by rfl) (hpl : (backTo pos (starEach [b] X.env)).any (·.1) = false := by rfl) : PX X C o s (.Call (.Name "min" p) [a, b] [] pos) env (.int (min i j)) :=
  pxb (call_min2 hc) hg hm PyProof.Rows.boot_min (pas_cons ha (pas1 hb nb) na) rfl (fun S vs H Q r q => by
    obtain ⟨v, w, rfl, r1, r2⟩ := r.two
    exact ⟨i, j, by rw [r1.isInt, r2.isInt], by rw [min_eq]; exact q⟩) (by decide) (by decide) na hpl
theorem px_max {i j : Int} (hc : X.calm = true) (hm : X.mg "max" = none) (ha : PX X C false false a env (.int i)) (hb : PX X C false false b env (.int j)) (hg : Gl X "max" := by rfl) (na : starEach [a, b] X.env = (false, eval a X.env) :: starEach [b] X.env := by rfl)
    (nb : starEach [b] X.env = (false, eval b X.env) :: starEach [] X.env := by rfl) (hpl : (backTo pos (starEach [b] X.env)).any (·.1) = false := by rfl) : PX X C o s (.Call (.Name "max" p) [a, b] [] pos) env (.int (max i j)) :=
  pxb (call_max2 hc) hg hm PyProof.Rows.boot_max (pas_cons ha (pas1 hb nb) na) rfl (fun S vs H Q r q => by
    obtain ⟨v, w, rfl, r1, r2⟩ := r.two
    exact ⟨i, j, by rw [r1.isInt, r2.isInt], by rw [max_eq]; exact q⟩) (by decide) (by decide) na hpl
/-- max(xs) -/
theorem px_max1 {ns : List Int} {m : Int} (hc : X.calm = true) (hm : X.mg "max" = none) (ha : PX X C false false a env (.lst (dI ns))) (h1 : m ∈ ns) (h2 : ∀ z ∈ ns, z ≤ m) (hg : Gl X "max" := by rfl) (na : starEach [a] X.env = (false, eval a X.env) :: starEach [] X.env := by rfl) (hpl : (backTo pos (starEach [] X.env)).any (·.1) = false := by rfl) :
    PX X C o s (.Call (.Name "max" p) [a] [] pos) env (.int m) :=
  pxb (cr_max hc) hg hm PyProof.Rows.boot_max (pas1 ha na) rfl (fun S vs H Q r q => by
    obtain ⟨v, rfl, r1⟩ := r.one
    cases r1 with
    | lst n h r =>
      have e := r.ints
      subst e
      refine ⟨_, ns, rfl, SqL.of h, List.length_pos_of_mem h1, fun m' h3 h4 => ?_⟩
      rw [Int.le_antisymm (h2 m' h3) (h4 m h1)]; exact q) (by decide) (by decide) na hpl
theorem px_all {bs : List Bool} (hc : X.calm = true) (hm : X.mg "all" = none) (ha : PX X C false false a env (.lst (bs.map D.bl))) (hg : Gl X "all" := by rfl) (na : starEach [a] X.env = (false, eval a X.env) :: starEach [] X.env := by rfl) (hpl : (backTo pos (starEach [] X.env)).any (·.1) = false := by rfl) :
    PX X C o s (.Call (.Name "all" p) [a] [] pos) env (.bl (bs.all id)) :=
  pxb (cr_all hc) hg hm PyProof.Rows.boot_all (pas1 ha na) rfl (fun S vs H Q r q => by
    obtain ⟨v, rfl, r1⟩ := r.one
    cases r1 with
    | lst n h r =>
      have e := r.bls
      subst e
      exact ⟨_, bs, rfl, SqL.of h, q⟩) (by decide) (by decide) na hpl
/-- int(a bool) -/
theorem px_intB (hm : X.mg "int" = none) (ha : PX X C false false a env (.bl x)) (hg : Gl X "int" := by rfl) (na : starEach [a] X.env = (false, eval a X.env) :: starEach [] X.env := by rfl) (hpl : (backTo pos (starEach [] X.env)).any (·.1) = false := by rfl) :
    PX X C o s (.Call (.Name "int" p) [a] [] pos) env (.int (if x then 1 else 0)) :=
  pxty call_int1 hg hm PyProof.Rows.boot_int (pas1 ha na) rfl (fun S vs H Q r q => by
    obtain ⟨v, rfl, r1⟩ := r.one
    exact .inr ⟨x, by rw [r1.isBl], q⟩) (by decide) (by decide) na hpl
/-- sorted(ints) -/
theorem pl_sortI {ns : List Int} (hm : X.mg "sorted" = none) (ha : PX X C false false a env (.lst (dI ns))) (hg : Gl X "sorted" := by rfl) (na : starEach [a] X.env = (false, eval a X.env) :: starEach [] X.env := by rfl) (hpl : (backTo pos (starEach [] X.env)).any (·.1) = false := by rfl) :
    PL X C (.Call (.Name "sorted" p) [a] [] pos) env (dI (sortI ns)) :=
  (pe_callB cr_sortedI hg hm PyProof.Rows.boot_sorted (pas1 ha na) (by decide) (by decide) na hpl).imp fun σ H Q ⟨H0, S0, B, E, k⟩ => ⟨H0, S0, B, E, fun vs H1 e1 r1 => by
    obtain ⟨v, rfl, r2⟩ := r1.one
    cases r2 with
    | lst n h r =>
      have e := r.ints
      subst e
      refine ⟨_, ns, rfl, SqL.of h, fun ns' p hp hs hn => k p _ _ (e1.trans (same_new hn)) (same_none e1 hn) upd_same ?_⟩
      rw [sortI_eq hp hs]
      exact RpL.ofInts _⟩
/-- list(xs) -/
theorem pl_list (hm : X.mg "list" = none) (ha : PX X C true true a env (.lst ds)) (hg : Gl X "list" := by rfl) (na : starEach [a] X.env = (false, eval a X.env) :: starEach [] X.env := by rfl) (hpl : (backTo pos (starEach [] X.env)).any (·.1) = false := by rfl) :
    PL X C (.Call (.Name "list" p) [a] [] pos) env ds :=
  (pe_callTy call_list_of hg hm PyProof.Rows.boot_list (pas1 ha na) (by decide) (by decide) na hpl).imp fun σ H Q ⟨H0, S0, B, E, k⟩ => ⟨H0, S0, B, E, fun vs H1 e1 r1 => by
    obtain ⟨v, rfl, r2⟩ := r1.one
    cases r2 with
    | lst n h r =>
      exact ⟨_, _, rfl, .inl (SqL.of h), fun l hl => k l _ _ (e1.trans (same_new hl)) (same_none e1 hl) upd_same
        (r.weak (fun a o _ q => same_new hl a o q) (fun a o q z => z.elim id fun z => by rw [z, hl] at q; cases q))⟩⟩
theorem rgV_ints (i j : Int) : rgV i j = (rgI i j).map V.int := by unfold rgV rgI; rw [List.map_map]; rfl
/-- list(range(n)), list(range(i, n)) -/
theorem pl_listR1 {n : Int} (hc : X.calm = true) (hm : X.mg "list" = none) (hm2 : X.mg "range" = none) (ha : PX X C false false a env (.int n)) (hn : -1000000 ≤ n ∧ n ≤ 1000000) (hg : Gl X "list" := by rfl) (hg2 : Gl X "range" := by rfl) (na : starEach [a] X.env = (false, eval a X.env) :: starEach [] X.env := by rfl)
    (nb : starEach [(.Call (.Name "range" p2) [a] [] p3 : Expr)] X.env = (false, eval (.Call (.Name "range" p2) [a] [] p3) X.env) :: starEach [] X.env := by rfl) : PL X C (.Call (.Name "list" p) [.Call (.Name "range" p2) [a] [] p3] [] pos) env (dI (rgI 0 n)) :=
  (pe_listRg hc hg hm (prg_1 hg2 hm2 ha na) nb).imp fun σ H Q ⟨H0, S0, B, E, k⟩ => ⟨H0, S0, B, E, fun v H1 e1 r1 => ⟨n, r1.isInt, ⟨by omega, by omega, by omega, by omega, by omega⟩, fun q hq => k q _ _ (e1.trans (same_new hq)) (same_none e1 hq) upd_same (by rw [rgV_ints]; exact RpL.ofInts _)⟩⟩
theorem pl_listR2 {i n : Int} (hc : X.calm = true) (hm : X.mg "list" = none) (hm2 : X.mg "range" = none) (ha : PX X C false false a env (.int i)) (hb : PX X C false false b env (.int n)) (hi : -1000000 ≤ i ∧ i ≤ 1000000) (hn : -1000000 ≤ n ∧ n ≤ 1000000) (hg : Gl X "list" := by rfl) (hg2 : Gl X "range" := by rfl)
    (na : starEach [a, b] X.env = (false, eval a X.env) :: starEach [b] X.env := by rfl) (nb : starEach [b] X.env = (false, eval b X.env) :: starEach [] X.env := by rfl) (hp : (backTo p3 (starEach [b] X.env)).any (·.1) = false := by rfl)
    (nc : starEach [(.Call (.Name "range" p2) [a, b] [] p3 : Expr)] X.env = (false, eval (.Call (.Name "range" p2) [a, b] [] p3) X.env) :: starEach [] X.env := by rfl) : PL X C (.Call (.Name "list" p) [.Call (.Name "range" p2) [a, b] [] p3] [] pos) env (dI (rgI i n)) :=
  (pe_listRg hc hg hm (prg_2 hg2 hm2 ha hb na nb hp) nc).imp fun σ H Q ⟨H0, S0, B, E, k⟩ => ⟨H0, S0, B, E, fun v H1 e1 r1 => ⟨H0, S0, B, E.mono e1, fun w H2 e2 r2 => ⟨i, n, r1.isInt, r2.isInt, ⟨by omega, by omega, by omega, by omega, by omega⟩, fun q hq => k q _ _ ((e1.trans e2).trans (same_new hq)) (same_none (e1.trans e2) hq) upd_same (by rw [rgV_ints]; exact RpL.ofInts _)⟩⟩⟩

/-! ### sorted(pairs) -/
/-- the pair that stands at a reference -/
def kAt (H : Hp) : V → Int × Int
  | .ref t => match H t with
    | some (.tup [.int i, .int j]) => (i, j)
    | _ => (0, 0)
  | _ => (0, 0)
theorem kAt_eq {H : Hp} {t : Addr} {i j : Int} (h : H t = some (.tup [.int i, .int j])) : kAt H (.ref t) = (i, j) := by
  unfold kAt
  simp only [h]
theorem Rp.pair {K : PySem.W.Frag} {S : Addr → Prop} {H : Hp} {v : V} {q : Int × Int} (h : Rp K C S H v (pr q)) : ∃ t, v = .ref t ∧ ¬ S t ∧ H t = some (.tup [.int q.1, .int q.2]) := by
  cases h with
  | tup n h r =>
    obtain ⟨v, w, rfl, r1, r2⟩ := r.two
    cases r1
    cases r2
    exact ⟨_, rfl, n, h⟩
theorem RpL.pairs {K : PySem.W.Frag} {S : Addr → Prop} {H : Hp} : ∀ {vs : List V} {ps : List (Int × Int)}, RpL K C S H vs (dP ps) → ps = vs.map (kAt H) ∧ ∀ v ∈ vs, ∃ t, v = .ref t ∧ ¬ S t ∧ H t = some (.tup [.int (kAt H v).1, .int (kAt H v).2])
  | [], [], _ => ⟨rfl, fun _ h => by simp at h⟩
  | v :: vs, q :: ps, .cons h r => by
    obtain ⟨e, f⟩ := RpL.pairs r
    obtain ⟨t, rfl, n, g⟩ := h.pair
    have k := kAt_eq g
    refine ⟨?_, fun w hw => ?_⟩
    · rw [List.map_cons, ← e, k]
    · rcases List.mem_cons.mp hw with rfl | hw
      · exact ⟨t, rfl, n, by rw [k]; exact g⟩
      · exact f w hw
theorem RpL.ofPairs {K : PySem.W.Frag} {S : Addr → Prop} {H H' : Hp} (e : Same H H') : ∀ {vs : List V}, (∀ v ∈ vs, ∃ t, v = .ref t ∧ ¬ S t ∧ H t = some (.tup [.int (kAt H v).1, .int (kAt H v).2])) → RpL K C S H' vs (dP (vs.map (kAt H)))
  | [], _ => .nil
  | v :: vs, h => by
    obtain ⟨t, e1, n, g⟩ := h v List.mem_cons_self
    refine .cons ?_ (RpL.ofPairs e fun w hw => h w (List.mem_cons_of_mem _ hw))
    rw [e1]
    rw [e1] at g
    exact .tup n (e _ _ g) (.cons (.int _) (.cons (.int _) .nil))
theorem pl_sortP {ps : List (Int × Int)} (hm : X.mg "sorted" = none) (ha : PX X C true true a env (.lst (dP ps))) (hg : Gl X "sorted" := by rfl) (na : starEach [a] X.env = (false, eval a X.env) :: starEach [] X.env := by rfl) (hpl : (backTo pos (starEach [] X.env)).any (·.1) = false := by rfl) :
    PL X C (.Call (.Name "sorted" p) [a] [] pos) env (dP (sortP ps)) :=
  (pe_callB cr_sortedPO hg hm PyProof.Rows.boot_sorted (pas1 ha na) (by decide) (by decide) na hpl).imp fun σ H Q ⟨H0, S0, B, E, k⟩ => ⟨H0, S0, B, E, fun vs H1 e1 r1 => by
    obtain ⟨v, rfl, r2⟩ := r1.one
    cases r2 with
    | @lst l xs _ n h r =>
      obtain ⟨e, f⟩ := r.pairs
      refine ⟨_, xs, kAt H1, rfl, SqL.of h, fun x hx => let ⟨t, e, _, g⟩ := f x hx; ⟨t, e, g⟩, fun ys p hs hb hn => k p _ _ (e1.trans (same_new hn)) (same_none e1 hn) upd_same ?_⟩
      have e2 : sortP ps = ys.map (kAt H1) := by
        rw [e]
        refine (sortP_eq (hb.perm.map _) ?_).symm
        refine List.pairwise_map.mpr (List.Pairwise.imp (fun {x y} q => ?_) hs)
        rw [leP_iff]
        have q := q
        by_cases z : (kAt H1 x).1 < (kAt H1 y).1 ∨ (kAt H1 x).1 = (kAt H1 y).1 ∧ (kAt H1 x).2 ≤ (kAt H1 y).2
        · exact z
        · exfalso
          have : ltP (kAt H1) y x = true := by
            show SrtO.lexB (kAt H1 y) (kAt H1 x) = true
            rw [SrtO.lexB_iff]
            omega
          rw [this] at q; cases q
      rw [e2]
      refine RpL.ofPairs (C := C) (same_new hn) (vs := ys) fun v hv => ?_
      obtain ⟨t, e, n, g⟩ := f v (hb.perm.mem_iff.mp hv)
      exact ⟨t, e, (fun z => z.elim n fun z => by rw [z, hn] at g; cases g), g⟩⟩
end
end Fw

/-! Fw5: statements, loops. -/
namespace Fw
open PySem L2

/-- how a statement or a block ends; xc: an exception of the class at c -/
inductive Out where
  | nx (e : Env) | rt (d : D) | bk (e : Env) | ct (e : Env) | xc (c : Addr) (e : Env)
def Out.k (K : PySem.W.Frag) (C : Addr) (E : L2.St → XK) (H0 : Hp) (S0 B : Addr → Prop) (Dn : Ends) : Out → Prop
  | .nx e => ∀ σ' H', EnvR K C H0 S0 B H' σ' e → Dn.nx σ' H'
  | .rt d => ∀ v H', Same H0 H' → Rp K C S0 H' v d → Dn.rt v H'
  | .bk e => ∀ σ' H', EnvR K C H0 S0 B H' σ' e → Dn.bk σ' H'
  | .ct e => ∀ σ' H', EnvR K C H0 S0 B H' σ' e → Dn.ct σ' H'
  | .xc c e => ∀ σ' H', EnvR K C H0 S0 B H' σ' e → E σ' (.ref c) none H'
def tS (K : PySem.W.Frag) (C : Addr) (E : L2.St → XK) (env : Env) (o : Out) : TS := fun Dn σ H => ∃ H0 S0 B, EnvR K C H0 S0 B H σ env ∧ o.k K C E H0 S0 B Dn
abbrev SX (X : Cx) (C : Addr) (E : L2.St → XK) (st : Stmt) (env : Env) (o : Out) : Prop := PS X st (tS X.K C E env o)
abbrev SXs (X : Cx) (C : Addr) (E : L2.St → XK) (st : List Stmt) (env : Env) (o : Out) : Prop := PSs X st (tS X.K C E env o)
def Out.exit : Out → Bool
  | .rt _ => true
  | .xc _ _ => true
  | _ => false

section
variable {X : Cx} {C : Addr} {E : L2.St → XK} {env e1 : Env} {d : D} {ds : List D} {o : Out} {st : Stmt} {rest : List Stmt} {a b e c : Expr} {pos p p2 : Pos} {x : Bool}
theorem _root_.L2.PS.imp {t t' : TS} (h : PS X st t) (k : ∀ D σ H, t' D σ H → t D σ H) : PS X st t' := ⟨fun pins s σ H D I q => h.run pins s σ H D I (k D σ H q)⟩
theorem _root_.L2.PSs.imp {t t' : TS} (h : PSs X rest t) (k : ∀ D σ H, t' D σ H → t D σ H) : PSs X rest t' := ⟨fun pins s σ H D I q => h.run pins s σ H D I (k D σ H q)⟩
theorem PSs.ex {ι : Type} {t : ι → TS} (h : ∀ i, PSs X rest (t i)) : PSs X rest (fun D σ H => ∃ i, t i D σ H) := ⟨fun pins s σ H D I ⟨i, q⟩ => (h i).run pins s σ H D I q⟩
theorem PTs.ex {ι : Type} {ifs : List Expr} {t : ι → TT} (h : ∀ i, PTs X ifs (t i)) : PTs X ifs (fun σ H Q => ∃ i, t i σ H Q) := ⟨fun pins s σ H D I ⟨i, q⟩ => (h i).run pins s σ H D I q⟩
theorem PE.ex {ι : Type} {t : ι → TE} (h : ∀ i, PE X e (t i)) : PE X e (fun σ H Q => ∃ i, t i σ H Q) := ⟨fun pins s σ H D I ⟨i, q⟩ => (h i).run pins s σ H D I q⟩
theorem EnvR.down {K : PySem.W.Frag} {H0 Hb : Hp} {S0 B : Addr → Prop} {H : Hp} {σ : L2.St} (E : EnvR K C Hb S0 B H σ env) (s : Same H0 Hb) (z : ∀ a, S0 a → H0 a ≠ none) : EnvR K C H0 S0 B H σ env :=
  ⟨s.trans E.base, z, fun a h => ⟨same_none s (E.bar a h).1, (E.bar a h).2⟩, E.len, fun i t h => (E.slot i t h).weak (fun _ _ _ q => q) (fun _ _ _ _ q => q) (fun _ _ _ z => z) (fun _ _ _ z => z) (fun _ a _ q => same_none s q), E.inj⟩
theorem Out.k.down {K : PySem.W.Frag} {H0 Hb : Hp} {S0 B : Addr → Prop} {Dn Dn' : Ends} (h : o.k K C E H0 S0 B Dn) (ho : o.exit = true) (s : Same H0 Hb) (z : ∀ a, S0 a → H0 a ≠ none) (hr : Dn'.rt = Dn.rt) : o.k K C E Hb S0 B Dn' := by
  cases o with
  | nx e => cases ho
  | bk e => cases ho
  | ct e => cases ho
  | rt d => exact fun v H' sm r => by rw [hr]; exact h v H' (s.trans sm) r
  | xc c e => exact fun σ' H' q => h σ' H' (q.down s z)

/-! ### blocks -/
theorem sxs_nil : SXs X C E [] env (.nx env) := pss_nil.imp fun D σ H ⟨H0, S0, B, EE, k⟩ => k σ H EE
theorem sxs_nilLe (h : Le env e1) : SXs X C E [] env (.nx e1) := pss_nil.imp fun D σ H ⟨H0, S0, B, EE, k⟩ => k σ H (EE.le h)
theorem sxs_cons (h1 : SX X C E st env (.nx e1)) (h2 : SXs X C E rest e1 o) : SXs X C E (st :: rest) env o :=
  (pss_cons h1 h2).imp fun D σ H ⟨H0, S0, B, EE, k⟩ => ⟨H0, S0, B, EE, fun σ' H' E' => ⟨H0, S0, B, E', k⟩⟩
theorem sxs_le (h : Le env e1) (h2 : SXs X C E rest e1 o) : SXs X C E rest env o :=
  h2.imp fun D σ H ⟨H0, S0, B, EE, k⟩ => ⟨H0, S0, B, EE.le h, k⟩
theorem sxs_one (h1 : SX X C E st env o) : SXs X C E [st] env o := pss_one h1
theorem sxs_exit (h1 : SX X C E st env o) (ho : o.exit = true) : SXs X C E (st :: rest) env o :=
  (pss_cons h1 (pss_never (sts := rest))).imp fun D σ H ⟨H0, S0, B, EE, k⟩ => ⟨H0, S0, B, EE, by
    cases o with
    | rt d => exact k
    | xc c e => exact k
    | nx e => cases ho
    | bk e => cases ho
    | ct e => cases ho⟩
theorem sx_to {o' : Out} (h : SX X C E st env o) (q : o = o') : SX X C E st env o' := q ▸ h
theorem sxs_to {o' : Out} (h : SXs X C E rest env o) (q : o = o') : SXs X C E rest env o' := q ▸ h
theorem sx_nxLe (h1 : SX X C E st env (.nx e1)) {e2 : Env} (h : Le e1 e2) : SX X C E st env (.nx e2) := h1.imp fun D σ H ⟨H0, S0, B, EE, k⟩ => ⟨H0, S0, B, EE, fun σ' H' E' => k σ' H' (E'.le h)⟩
theorem sxs_nxLe (h1 : SXs X C E rest env (.nx e1)) {e2 : Env} (h : Le e1 e2) : SXs X C E rest env (.nx e2) := h1.imp fun D σ H ⟨H0, S0, B, EE, k⟩ => ⟨H0, S0, B, EE, fun σ' H' E' => k σ' H' (E'.le h)⟩

/-! ### small statements -/
def mkS : Bool → D → Sl
  | true, d => .dat d
  | false, d => .bor d
theorem slR_mk {K : PySem.W.Frag} {H0 : Hp} {S0 B : Addr → Prop} {H : Hp} {σ : L2.St} {s : Bool} {v : V} (h : Rp K C (AvO true s S0 B σ env) H v d) : SlR K C H0 S0 (OwnB B σ env) H (some (some v)) (mkS s d) := by
  cases s with
  | true => exact ⟨v, rfl, h.anti fun a z => z.imp (fun z => ⟨rfl, z⟩) (fun z => ⟨rfl, z⟩)⟩
  | false => exact ⟨v, rfl, h.anti fun a z => .inl ⟨rfl, z⟩⟩
theorem mkS_own {s : Bool} : (mkS s d).isOwn = false := by cases s <;> rfl
/-- x = e -/
theorem sx_set (s : Bool) (i : Nat) {xn : Str} (he : PX X C true s e env d) (hN : X.N.Nodup) (hi : X.N[i]? = some xn := by rfl) (hx : Loc X.env.scope xn := by first | exact Or.inl rfl | exact Or.inr rfl) (hs : swapsWith e (some (.Name xn p)) pos.line X.env = pure false := by rfl)
    (hf : X.fn xn = true ∨ X.env.scope.names.lookup xn = some .local := by first | exact .inl rfl | exact .inr rfl) : SX X C E (.Assign [.Name xn p] e pos) env (.nx (env.set i (mkS s d))) :=
  (ps_set hN hi hx he hs hf).imp fun D σ H ⟨H0, S0, B, EE, k⟩ => ⟨H0, S0, B, EE, fun v H' sm r => k _ _ ((EE.mono sm).set i _ v mkS_own (slR_mk r))⟩
/-- x = e, a new list -/
theorem sx_setL (i : Nat) {xn : Str} (he : PL X C e env ds) (hN : X.N.Nodup) (hil : Nat.blt i env.length = true := by rfl) (hi : X.N[i]? = some xn := by rfl) (hx : Loc X.env.scope xn := by first | exact Or.inl rfl | exact Or.inr rfl) (hs : swapsWith e (some (.Name xn p)) pos.line X.env = pure false := by rfl)
    (hf : X.fn xn = true ∨ X.env.scope.names.lookup xn = some .local := by first | exact .inl rfl | exact .inr rfl) : SX X C E (.Assign [.Name xn p] e pos) env (.nx (env.set i (.own ds))) :=
  (ps_set hN hi hx he hs hf).imp fun D σ H ⟨H0, S0, B, EE, k⟩ => ⟨H0, S0, B, EE, fun q xs H' sm hq h1 r => k _ _ (EE.setOwn sm i (.own ds) q hq (Nat.le_of_ble_eq_true hil) rfl
    ⟨q, xs, rfl, same_none EE.base hq, h1, r.anti fun a z => by
      rcases z with (z | z) | z
      · exact .inl (.inl ⟨rfl, z⟩)
      · exact .inr z
      · exact .inl (.inr ⟨rfl, z⟩)⟩)⟩
/-- return e: it leans on nothing barred -/
theorem sx_ret (he : PX X C false true e env d) : SX X C E (.Return (some e) pos) env (.rt d) :=
  (ps_ret he).imp fun D σ H ⟨H0, S0, B, EE, k⟩ => ⟨H0, S0, B, EE, fun v H' sm r => k v H' (EE.base.trans sm) (r.anti fun a z => .inr ⟨rfl, z⟩)⟩
theorem sx_retN : SX X C E (.Return none pos) env (.rt .non) := ps_retN.imp fun D σ H ⟨H0, S0, B, EE, k⟩ => k _ H EE.base .non
/-- e alone -/
theorem sx_drop (he : PX X C false false e env d) (hs : swapsWith e none pos.line X.env = pure false := by rfl) : SX X C E (.Expr e pos) env (.nx env) :=
  (ps_expr he hs).imp fun D σ H ⟨H0, S0, B, EE, k⟩ => ⟨H0, S0, B, EE, fun v H' sm r => k σ H' (EE.mono sm)⟩
theorem sx_pass : SX X C E (.Pass pos) env (.nx env) := ps_pass.imp fun D σ H ⟨H0, S0, B, EE, k⟩ => k σ H EE
theorem sx_if {ta fa : List Stmt} (hc : PTt X C c env x) (h1 : x = true → SXs X C E ta env o) (h2 : x = false → SXs X C E fa env o) : SX X C E (.If c ta fa pos) env o := by
  cases x with
  | true => exact (ps_if hc (h1 rfl) (pss_never (sts := fa))).imp fun D σ H ⟨H0, S0, B, EE, k⟩ => ⟨H0, S0, B, EE, fun H' sm => iteT ⟨H0, S0, B, EE.mono sm, k⟩⟩
  | false => exact (ps_if hc (pss_never (sts := ta)) (h2 rfl)).imp fun D σ H ⟨H0, S0, B, EE, k⟩ => ⟨H0, S0, B, EE, fun H' sm => iteF ⟨H0, S0, B, EE.mono sm, k⟩⟩
/-- an if that leaves, without an else -/
theorem sxs_ifx {ta : List Stmt} (hc : PTt X C c env x) (h1 : x = true → SXs X C E ta env o) (ho : x = true → o.exit = true) (h2 : x = false → SXs X C E rest env o) : SXs X C E (.If c ta [] pos :: rest) env o := by
  cases x with
  | true => exact sxs_exit (sx_if hc h1 (fun z => nomatch z)) (ho rfl)
  | false => exact sxs_cons (sx_if hc (fun z => nomatch z) fun _ => sxs_nil) (h2 rfl)

/-! ### what is walked -/
def ItsD (K : PySem.W.Frag) (C : Addr) (s : Bool) (S0 : Addr → Prop) (Hb : Hp) (J : It) (ds : List D) : Prop :=
  Walk J ds.length (fun H' => Same Hb H') (fun i H' v H'' => Same H' H'' ∧ ∃ d, ds[i]? = some d ∧ ∀ S' : Addr → Prop, (∀ a, S' a → H' a ≠ none ∧ (Hb a = none ∨ (s = true ∧ S0 a))) → Rp K C S' H'' v d)
def tI (K : PySem.W.Frag) (C : Addr) (s : Bool) (env : Env) (ds : List D) : TI := fun σ H R => ∃ H0 S0 B, EnvR K C H0 S0 B H σ env ∧ ∀ J H1, Same H H1 → ItsD K C s S0 (reb H1 (OwnB B σ env)) J ds → R J H1
theorem _root_.L2.PI.imp {tg : Expr} {t t' : TI} (h : PI X tg e t) (k : ∀ σ H R, t' σ H R → t σ H R) : PI X tg e t' := ⟨fun pins s σ H R I q => h.run pins s σ H R I (k σ H R q)⟩
theorem Rp.up {K : PySem.W.Frag} {s : Bool} {S0 S' : Addr → Prop} {Hb H' : Hp} {v : V} (h : Rp K C (fun a => s = true ∧ S0 a) Hb v d) (sm : Same Hb H') {Hx : Hp} (q : ∀ a, S' a → Hx a ≠ none ∧ (Hb a = none ∨ (s = true ∧ S0 a))) : Rp K C S' H' v d :=
  h.weak (fun a o _ z => sm a o z) (fun a o z w => (q a w).2.elim (fun n => by rw [n] at z; cases z) id)
theorem RpL.reb {K : PySem.W.Frag} {s : Bool} {S0 O : Addr → Prop} {H : Hp} {vs : List V} (h : RpL K C (fun a => O a ∨ (s = true ∧ S0 a)) H vs ds) : RpL K C (fun a => s = true ∧ S0 a) (Fw.reb H O) vs ds :=
  h.weak (fun a o n z => by rw [reb_out (fun w => n (.inl w))]; exact z) (fun a o _ w => .inr w)
theorem avO_o {s : Bool} {S0 B : Addr → Prop} {σ : L2.St} {a : Addr} : (OwnB B σ env a ∨ (s = true ∧ S0 a)) → AvO true s S0 B σ env a := fun h => h.imp (fun h => ⟨rfl, h⟩) id
theorem pi_l {tg : Expr} (s : Bool) (ha : PX X C true s a env (.lst ds)) : PI X tg a (tI X.K C s env ds) :=
  (pi_list ha).imp fun σ H R ⟨H0, S0, B, EE, k⟩ => ⟨H0, S0, B, EE, fun v H1 e1 r => by
    cases r with
    | @lst l xs _ n h r =>
      refine ⟨l, rfl, ⟨xs, SqL.of h⟩, k _ H1 e1 ?_⟩
      have hb : reb H1 (OwnB B σ env) l = some (.lst xs) := by rw [reb_out (fun w => n (.inl ⟨rfl, w⟩))]; exact h
      have rb := (r.anti (S' := fun a => OwnB B σ env a ∨ (s = true ∧ S0 a)) fun a z => avO_o z).reb
      unfold ItsD
      rw [← r.len]
      refine (walk_list (K := X.K) (a := l) (xs := xs)).mono (fun H' sm => SqL.of (sm l _ hb)) fun i H' v H'' hi sm y => ?_
      obtain ⟨eH, ev⟩ := y
      obtain ⟨d, hd, rd⟩ := rb.get ev
      rw [eH]
      exact ⟨Same.refl _, d, hd, fun S' q => rd.up sm q⟩⟩
theorem its_range {K : PySem.W.Frag} {s : Bool} {S0 : Addr → Prop} {Hb : Hp} {i j : Int} {n : Nat} (hn : n = (j - i).toNat) : ItsD K C s S0 Hb (Itr i n) (dI (rgI i j)) := by
  unfold ItsD
  rw [List.length_map, rgI_len, ← hn]
  refine (walk_range (lo := i) (n := n)).mono (fun _ _ => trivial) fun k H' v H'' hk sm y => ?_
  obtain ⟨eH, ev⟩ := y
  rw [eH, ev]
  refine ⟨Same.refl _, .int (i + k), ?_, fun S' q => .int _⟩
  rw [List.getElem?_map, rgI_get (by rw [← hn]; exact hk)]; rfl
theorem pi_r1 {tg : Expr} (s : Bool) {n : Int} (hm : X.mg "range" = none) (ha : PX X C false false a env (.int n)) (hn : -(2 ^ 62) ≤ n ∧ n < 2 ^ 62) (hg : Gl X "range" := by rfl) (na : starEach [a] X.env = [(false, eval a X.env)] := by rfl) :
    PI X tg (.Call (.Name "range" p) [a] [] pos) (tI X.K C s env (dI (rgI 0 n))) :=
  (pi_range1 hg hm (pas1 ha na) na).imp fun σ H R ⟨H0, S0, B, EE, k⟩ => ⟨H0, S0, B, EE, fun vs H1 e1 r => by
    obtain ⟨v, rfl, r1⟩ := r.one
    cases r1
    exact ⟨n, rfl, hn.1, hn.2, k _ H1 e1 (its_range (by simp))⟩⟩
theorem pi_r2 {tg : Expr} (s : Bool) {i n : Int} (hm : X.mg "range" = none) (ha : PX X C false false a env (.int i)) (hb : PX X C false false b env (.int n)) (hi : -(2 ^ 62) ≤ i ∧ i < 2 ^ 62) (hn : -(2 ^ 62) ≤ n ∧ n < 2 ^ 62) (hg : Gl X "range" := by rfl)
    (na : starEach [a, b] X.env = [(false, eval a X.env), (false, eval b X.env)] := by rfl) (nb : starEach [b] X.env = [(false, eval b X.env)] := by rfl) : PI X tg (.Call (.Name "range" p) [a, b] [] pos) (tI X.K C s env (dI (rgI i n))) :=
  (pi_range2 hg hm (pas_cons ha (pas1 hb nb) (by rw [na, nb])) na nb).imp fun σ H R ⟨H0, S0, B, EE, k⟩ => ⟨H0, S0, B, EE, fun vs H1 e1 r => by
    obtain ⟨v, w, rfl, r1, r2⟩ := r.two
    cases r1
    cases r2
    exact ⟨i, n, rfl, ⟨hi.1, hi.2, hn.1, hn.2⟩, k _ H1 e1 (its_range rfl)⟩⟩

/-! ### targets -/
/-- a target's reading: what it makes of the slots; js: the slots that it stores -/
structure TgR (K : PySem.W.Frag) (C : Addr) (g : TG) (u : Bool → D → Env → Env) (ok : D → Prop) (js : List Nat) : Prop where
  run : ∀ (H0 : Hp) (S0 B : Addr → Prop) (σ : L2.St) (env : Env) (s : Bool) (v : V) (d : D) (H : Hp) (Q : L2.St → Hp → Prop), EnvR K C H0 S0 B H σ env → Rp K C (AvO true s S0 B σ env) H v d → ok d →
    (∀ σ', EnvR K C H0 S0 B H σ' (u s d env) → (∀ vs : List Nat, (∀ j ∈ js, j ∈ vs) → wipe σ' vs = wipe σ vs) → Q σ' H) → g v σ H Q
  own : ∀ s d env (a : Addr) (i : Nat) (t : Sl), env[i]? = some t → t.isOwn = true → i ∉ js → (u s d env)[i]? = some t
theorem wipe_set {σ : L2.St} {j : Nat} {v : Option V} : ∀ {vs : List Nat}, j ∈ vs → wipe (σ.set j v) vs = wipe σ vs
  | [], h => by simp at h
  | w :: vs, h => by
    unfold wipe
    by_cases e : j ∈ vs
    · rw [wipe_set e]
    · have e2 : j = w := (List.mem_cons.mp h).resolve_right e
      subst e2
      have go : ∀ {vs : List Nat}, j ∉ vs → wipe (σ.set j v) vs = (wipe σ vs).set j v := fun {vs} => by
        induction vs with
        | nil => intro _; rfl
        | cons w vs ih =>
          intro h
          unfold wipe
          rw [ih (fun z => h (List.mem_cons_of_mem _ z)), List.set_comm _ _ (fun z => h (by rw [z]; exact List.mem_cons_self))]
      rw [go e, List.set_set]
theorem tg_name {K : PySem.W.Frag} (j : Nat) : TgR K C (gName j) (fun s d env => env.set j (mkS s d)) (fun _ => True) [j] where
  run := fun H0 S0 B σ env s v d H Q EE r _ k => k _ (EE.set j _ v mkS_own (slR_mk r)) fun vs h => wipe_set (h j (by simp))
  own := fun s d env a i t h1 h2 h3 => by rw [List.getElem?_set_ne (fun z => h3 (by rw [z]; simp))]; exact h1
def fst2 : D → D
  | .tup [a, _] => a
  | d => d
def snd2 : D → D
  | .tup [_, a] => a
  | d => d
theorem tg_pair {K : PySem.W.Frag} (j1 j2 : Nat) : TgR K C (gTup K 2 (gCons (gName j1) (gCons (gName j2) gNil))) (fun s d env => (env.set j1 (mkS s (fst2 d))).set j2 (mkS s (snd2 d))) (fun d => ∃ a b, d = .tup [a, b]) [j1, j2] where
  run := fun H0 S0 B σ env s v d H Q EE r hd k => by
    obtain ⟨d1, d2, rfl⟩ := hd
    cases r with
    | tup n h r =>
      obtain ⟨v, w, rfl, r1, r2⟩ := r.two
      have E1 := EE.set j1 (mkS s d1) v mkS_own (slR_mk r1)
      have E2 := E1.set j2 (mkS s d2) w mkS_own (slR_mk (r2.anti fun a z => z.imp (fun z => ⟨rfl, z.2.imp (fun z => ownA_set mkS_own z) id⟩) id))
      refine ⟨_, _, rfl, SqT.of h, rfl, _, _, rfl, _, _, rfl, rfl, k _ E2 fun vs hj => ?_⟩
      rw [wipe_set (hj j2 (by simp)), wipe_set (hj j1 (by simp))]
  own := fun s d env a i t h1 h2 h3 => by
    rw [List.getElem?_set_ne (fun z => h3 (by rw [z]; simp)), List.getElem?_set_ne (fun z => h3 (by rw [z]; simp))]; exact h1

/-! ### for -/
section
variable {tg iter : Expr} {body : List Stmt} {s : Bool} {g : TG} {u : Bool → D → Env → Env} {ok : D → Prop} {js : List Nat}
/-- all turns -/
theorem sx_for (hp : PassesOwn (model X.prog X.w) X.A X.env X.xe) (hc : X.calm = true) (hi : PI X tg iter (tI X.K C s env ds)) (hg : PG X tg g) (T : TgR X.K C g u ok js) (ev : Nat → Env) (h0 : Le env (ev 0)) (hok : ∀ d ∈ ds, ok d)
    (hb : ∀ i d, ds[i]? = some d → SXs X C E body (u s d (ev i)) (.nx (ev (i + 1)))) (hs : ∀ z, foldedSetIterable iter X.env z = pure z := by intro _; rfl) : SX X C E (.For tg iter body [] pos) env (.nx (ev ds.length)) := by
  have hB : PSs X body (fun Dn σ H => ∃ q : { q : Nat × D // ds[q.1]? = some q.2 }, tS X.K C E (u s q.1.2 (ev q.1.1)) (.nx (ev (q.1.1 + 1))) Dn σ H) := PSs.ex fun q => hb q.1.1 q.1.2 q.2
  refine (ps_for hp hc hi hg hB hs).imp fun D σ H ⟨H0, S0, B, EE, k⟩ => ⟨H0, S0, B, EE, fun J H1 e1 its => ?_⟩
  have E1 := EE.mono e1
  refine for_it (g := g) (tb := fun Dn σ H => ∃ q : { q : Nat × Fw.D // ds[q.1]? = some q.2 }, tS X.K C E (u s q.1.2 (ev q.1.1)) (.nx (ev (q.1.1 + 1))) Dn σ H) (D := D) its (fun i σ' H' => EnvR X.K C (reb H1 (OwnB B σ env)) S0 B H' σ' (ev i)) (E1.rebase.le h0) (fun i σ' H' _ q => q.base) (fun i v σ' H' H'' hi q y => ?_) fun σ' H' q => k σ' H' (q.down E1.toReb EE.sub)
  obtain ⟨sm, d, hd, r⟩ := y
  have q' := q.mono sm
  refine T.run _ S0 B σ' (ev i) s v d H'' _ q' (r _ fun a z => ?_) (hok d (List.mem_of_getElem? hd)) fun σ2 E2 _ => ⟨⟨(i, d), hd⟩, _, S0, B, E2, fun σ3 H3 E3 => E3⟩
  rcases z with ⟨_, z⟩ | ⟨z0, z⟩
  · exact ⟨(q.ours z).2, .inl (q.ours z).1⟩
  · exact ⟨q.s0Some z, .inr ⟨z0, z⟩⟩
/-- it leaves at turn n -/
theorem sx_forX (hp : PassesOwn (model X.prog X.w) X.A X.env X.xe) (hc : X.calm = true) (hi : PI X tg iter (tI X.K C s env ds)) (hg : PG X tg g) (T : TgR X.K C g u ok js) (ev : Nat → Env) (h0 : Le env (ev 0)) (hok : ∀ d ∈ ds, ok d) {n : Nat} {dn : D} (hn : ds[n]? = some dn)
    (hb : ∀ i d, i < n → ds[i]? = some d → SXs X C E body (u s d (ev i)) (.nx (ev (i + 1)))) (hx : SXs X C E body (u s dn (ev n)) o) (ho : o.exit = true) (hs : ∀ z, foldedSetIterable iter X.env z = pure z := by intro _; rfl) : SX X C E (.For tg iter body [] pos) env o := by
  have hB : PSs X body (fun Dn σ H => ∃ q : { q : Nat × D × Bool // ds[q.1]? = some q.2.1 ∧ ((q.1 < n ∧ q.2.2 = true) ∨ (q.1 = n ∧ q.2.2 = false)) }, tS X.K C E (u s q.1.2.1 (ev q.1.1)) (if q.1.2.2 then .nx (ev (q.1.1 + 1)) else o) Dn σ H) := PSs.ex fun q => by
    obtain ⟨⟨i, d, w⟩, h1, h2⟩ := q
    rcases h2 with ⟨h2, h3⟩ | ⟨h2, h3⟩
    · simp only at h1 h2 h3
      subst h3
      exact hb i d h2 h1
    · simp only at h1 h2 h3
      subst h3 h2
      rw [hn] at h1
      cases h1
      exact hx
  have hlen : n < ds.length := (List.getElem?_eq_some_iff.mp hn).1
  refine (ps_for hp hc hi hg hB hs).imp fun D σ H ⟨H0, S0, B, EE, k⟩ => ⟨H0, S0, B, EE, fun J H1 e1 its => ?_⟩
  have E1 := EE.mono e1
  refine for_it (g := g) (tb := fun Dn σ H => ∃ q : { q : Nat × Fw.D × Bool // ds[q.1]? = some q.2.1 ∧ ((q.1 < n ∧ q.2.2 = true) ∨ (q.1 = n ∧ q.2.2 = false)) }, tS X.K C E (u s q.1.2.1 (ev q.1.1)) (if q.1.2.2 then .nx (ev (q.1.1 + 1)) else o) Dn σ H) (D := D) its (fun i σ' H' => i ≤ n ∧ EnvR X.K C (reb H1 (OwnB B σ env)) S0 B H' σ' (ev i)) ⟨Nat.zero_le _, E1.rebase.le h0⟩ (fun i σ' H' _ q => q.2.base) (fun i v σ' H' H'' hi q y => ?_) fun σ' H' q => absurd q.1 (by omega)
  obtain ⟨sm, d, hd, r⟩ := y
  obtain ⟨qi, q⟩ := q
  have q' := q.mono sm
  refine T.run _ S0 B σ' (ev i) s v d H'' _ q' (r _ fun a z => ?_) (hok d (List.mem_of_getElem? hd)) fun σ2 E2 _ => ?_
  · rcases z with ⟨_, z⟩ | ⟨z0, z⟩
    · exact ⟨(q.ours z).2, .inl (q.ours z).1⟩
    · exact ⟨q.s0Some z, .inr ⟨z0, z⟩⟩
  · by_cases hin : i = n
    · subst hin
      exact ⟨⟨(i, d, false), hd, .inr ⟨rfl, rfl⟩⟩, _, S0, B, E2, Out.k.down k ho E1.toReb EE.sub rfl⟩
    · exact ⟨⟨(i, d, true), hd, .inl ⟨by omega, rfl⟩⟩, _, S0, B, E2, fun σ3 H3 E3 => ⟨by omega, E3⟩⟩
end

/-! ### while -/
/-- n turns, then the test fails -/
theorem sx_while {body : List Stmt} (hp : PassesOwn (model X.prog X.w) X.A X.env X.xe) (n : Nat) (ev : Nat → Env) (h0 : Le env (ev 0)) (ht : ∀ i, i < n → PTt X C c (ev i) true) (hf : PTt X C c (ev n) false)
    (hb : ∀ i, i < n → SXs X C E body (ev i) (.nx (ev (i + 1)))) : SX X C E (.While c body [] pos) env (.nx (ev n)) := by
  have hB : PSs X body (fun D σ H => ∃ q : { q : Nat // q < n }, tS X.K C E (ev q.1) (.nx (ev (q.1 + 1))) D σ H) := PSs.ex fun q => hb q.1 q.2
  have hT : PT X c (fun σ H Q => ∃ q : { q : Nat // q ≤ n }, tT X.K C (ev q.1) (decide (q.1 < n)) σ H Q) := ⟨fun pins s σ H Q I ⟨q, h⟩ => by
    obtain ⟨i, hi⟩ := q
    by_cases hin : i < n
    · have e : decide (i < n) = true := decide_eq_true hin
      simp only [e] at h
      exact (ht i hin).run pins s σ H Q I h
    · have e : decide (i < n) = false := decide_eq_false hin
      have e2 : i = n := by omega
      subst e2
      simp only [e] at h
      exact hf.run pins s σ H Q I h⟩
  refine (ps_while hp hT hB).imp fun D σ H ⟨H0, S0, B, EE, k⟩ => ?_
  refine ⟨fun m σ' H' => ∃ i, m = n - i ∧ i ≤ n ∧ EnvR X.K C H0 S0 B H' σ' (ev i), ⟨n, 0, rfl, Nat.zero_le _, EE.le h0⟩, ?_⟩
  rintro m σ' H' ⟨i, rfl, hi, q⟩
  refine ⟨⟨i, hi⟩, H0, S0, B, q, fun H2 sm => ?_⟩
  by_cases hin : i < n
  · show (if decide (i < n) = true then _ else _)
    rw [decide_eq_true hin]
    refine iteT ?_
    exact ⟨fun σ3 H3 => EnvR X.K C H0 S0 B H3 σ3 (ev (i + 1)), fun σ3 H3 q3 => ⟨n - (i + 1), by omega, i + 1, rfl, hin, q3⟩, ⟨i, hin⟩, H0, S0, B, q.mono sm, fun σ3 H3 E3 => E3⟩
  · have e2 : i = n := by omega
    subst e2
    show (if decide (i < i) = true then _ else _)
    rw [decide_eq_false (Nat.lt_irrefl i)]
    exact iteF (k σ' H2 (q.mono sm))
end
end Fw

/-! Fw6: comprehensions, defs and calls. -/
namespace Fw
open PySem L2

/-! ### comprehensions -/
def wipeE (env : Env) : List Nat → Env
  | [] => env
  | v :: vs => (wipeE env vs).set v .emp
section
variable {K : PySem.W.Frag} {C : Addr} {H0 : Hp} {S0 B : Addr → Prop} {H : Hp} {σ : L2.St} {env : Env}
theorem EnvR.wipe (E : EnvR K C H0 S0 B H σ env) : ∀ vs : List Nat, EnvR K C H0 S0 B H (L2.wipe σ vs) (wipeE env vs)
  | [] => E
  | v :: vs => (EnvR.wipe E vs).setX v .emp none rfl trivial
theorem wipeE_get : ∀ {vs : List Nat} {i : Nat}, i ∉ vs → (wipeE env vs)[i]? = env[i]?
  | [], _, _ => rfl
  | v :: vs, i, h => by
    unfold wipeE
    rw [List.getElem?_set_ne (fun z => h (by rw [z]; exact List.mem_cons_self))]
    exact wipeE_get fun z => h (List.mem_cons_of_mem _ z)
theorem wipe_get : ∀ {vs : List Nat} {i : Nat}, i ∉ vs → (L2.wipe σ vs)[i]? = σ[i]?
  | [], _, _ => rfl
  | v :: vs, i, h => by
    unfold L2.wipe
    rw [List.getElem?_set_ne (fun z => h (by rw [z]; exact List.mem_cons_self))]
    exact wipe_get fun z => h (List.mem_cons_of_mem _ z)
theorem wipe_wipe : ∀ {vs ws : List Nat}, (∀ j ∈ ws, j ∈ vs) → L2.wipe (L2.wipe σ ws) vs = L2.wipe σ vs
  | vs, [], _ => rfl
  | vs, w :: ws, h => by
    show L2.wipe ((L2.wipe σ ws).set w none) vs = _
    rw [wipe_set (h w List.mem_cons_self)]
    exact wipe_wipe fun j hj => h j (List.mem_cons_of_mem _ hj)
end
section
variable {X : Cx} {C : Addr} {env : Env} {d : D} {ds : List D} {elt tg iter : Expr} {ifs : List Expr} {scope : Scope} {own : List (Str × Nat)} {pos : Pos} {s : Bool} {g : TG} {u : Bool → D → Env → Env} {ok : D → Prop} {js : List Nat} {α : Type}
abbrev PTss (X : Cx) (C : Addr) (ifs : List Expr) (env : Env) (b : Bool) : Prop := PTs X ifs (tT X.K C env b)
theorem ptss_nil : PTss X C [] env true := ⟨fun pins σ1 σ H Q I ⟨H0, S0, B, E, k⟩ => pts_nil.run pins σ1 σ H Q I (k H (Same.refl H))⟩
theorem ptss_one {c : Expr} {b : Bool} (h : PTt X C c env b) : PTss X C [c] env b := pts_one h
/-- the reading -/
theorem lc_imp {vs : List Nat} (l : List α) (enc : α → D) (f : α → Bool) (h : α → D) (hds : ds = l.map enc) (T : TgR X.K C g u ok js) (hok : ∀ x ∈ l, ok (enc x)) (hjs : ∀ j ∈ js, j ∈ vs) (hw : (vs.all fun j => !(env.getD j .emp).isOwn) = true) (hz : l.length ≤ 1000000) :
    ∀ σ H Q, tL X.K C env ((l.filter f).map h) σ H Q → tLc (tI X.K C s env ds) g (fun σ H Q => ∃ q : { x : α // x ∈ l }, tT X.K C (u s (enc q.1) (wipeE env vs)) (f q.1) σ H Q)
      (fun σ H Q => ∃ q : { x : α // x ∈ l ∧ f x = true }, tD X.K C true true (u s (enc q.1) (wipeE env vs)) (h q.1) σ H Q) vs σ H Q := fun σ H Q ⟨H0, S0, B, E, k⟩ => ⟨H0, S0, B, E, fun J H1 e1 its D hD => by
  have hDH : H D = none := same_none e1 hD
  have E1 := E.mono e1
  have F0 : EnvR X.K C (reb H1 (OwnB B σ env)) S0 (fun a => B a ∨ a = D) (upd H1 D (.lst [])) (L2.wipe σ vs) (wipeE env vs) := (E1.rebase.barNew hD).wipe vs
  have ln : ds.length = l.length := by rw [hds, List.length_map]
  have ow : ∀ {i : Nat} {t : Sl}, env[i]? = some t → t.isOwn = true → i ∉ vs := fun {i t} h1 h2 h3 => by
    have q := List.all_eq_true.mp hw i h3
    rw [List.getD_eq_getElem?_getD, h1] at q
    simp only [Option.getD_some, h2] at q
    exact absurd q (by decide)
  have its' : Walk J l.length (fun H' => Same (reb H1 (OwnB B σ env)) H') (fun i H' v H'' => Same H' H'' ∧ ∃ d, ds[i]? = some d ∧ ∀ S' : Addr → Prop, (∀ a, S' a → H' a ≠ none ∧ (reb H1 (OwnB B σ env) a = none ∨ (s = true ∧ S0 a))) → Rp X.K C S' H'' v d) := by
    rw [← ln]; exact its
  refine lc_it (g := g) (tt := fun σ H Q => ∃ q : { x : α // x ∈ l }, tT X.K C (u s (enc q.1) (wipeE env vs)) (f q.1) σ H Q) (te := fun σ H Q => ∃ q : { x : α // x ∈ l ∧ f x = true }, tD X.K C true true (u s (enc q.1) (wipeE env vs)) (h q.1) σ H Q) its'
    (fun i H' => Same H1 H' ∧ EnvR X.K C (reb H1 (OwnB B σ env)) S0 (fun a => B a ∨ a = D) H' (L2.wipe σ vs) (wipeE env vs) ∧ ∃ acc, H' D = some (.lst acc) ∧ RpL X.K C (fun a => AvO true true S0 B σ env a ∨ a = D) H' acc (((l.take i).filter f).map h))
    ⟨same_new hD, F0, [], upd_same, .nil⟩ (fun i H' _ q => q.2.1.base) (fun i v H' H'' hi q y => ?_) (fun H' q => ?_)
  · obtain ⟨sm, F, acc, hacc, racc⟩ := q
    obtain ⟨sm2, d, hd, r⟩ := y
    have F' := F.mono sm2
    obtain ⟨x, hx, rfl⟩ : ∃ x, l[i]? = some x ∧ d = enc x := by
      rw [hds, List.getElem?_map] at hd
      cases q : l[i]? with
      | none => rw [q] at hd; cases hd
      | some x => rw [q] at hd; exact ⟨x, rfl, (Option.some.inj hd).symm⟩
    have hxl : x ∈ l := List.mem_of_getElem? hx
    have tk : l.take (i + 1) = l.take i ++ [x] := by rw [List.take_add_one, hx]; rfl
    refine T.run _ S0 _ (L2.wipe σ vs) (wipeE env vs) s v (enc x) H'' _ F' (r _ fun a z => ?_) (hok x hxl) fun σ2 F2 hσ2 => ⟨?_, ⟨x, hxl⟩, _, S0, _, F2, fun H3 e3 => ?_⟩
    · rcases z with ⟨_, z⟩ | ⟨z0, z⟩
      · exact ⟨(F.ours z).2, .inl (F.ours z).1⟩
      · exact ⟨F.s0Some z, .inr ⟨z0, z⟩⟩
    · rw [hσ2 vs hjs]
      exact wipe_wipe fun _ z => z
    · cases hf : f x with
      | false =>
        refine iteF ⟨(sm.trans sm2).trans e3, F'.mono e3, acc, e3 _ _ (sm2 _ _ hacc), ?_⟩
        have : (List.take (i + 1) l).filter f = (List.take i l).filter f := by
          rw [tk, List.filter_append, List.filter_cons, hf]; simp
        rw [this]
        exact (racc.mono sm2).mono e3
      | true =>
        refine iteT ⟨⟨x, hxl, hf⟩, _, S0, _, F2.mono e3, fun y H4 e4 r4 => ⟨acc, e4 _ _ (e3 _ _ (sm2 _ _ hacc)), ?_, ?_, ?_, ?_⟩⟩
        · rw [racc.len, List.length_map]
          have := List.length_filter_le f (l.take i)
          rw [List.length_take] at this
          have : i < l.length := hi
          exact szl (by omega)
        · exact same_mut (((sm.trans sm2).trans e3).trans e4) hD
        · exact ((F'.mono e3).mono e4).chgB (.inr rfl)
        · refine ⟨acc ++ [y], upd_same, ?_⟩
          have : ((List.take (i + 1) l).filter f).map h = ((List.take i l).filter f).map h ++ [h x] := by
            rw [tk, List.filter_append, List.filter_cons, hf, List.map_append]; simp
          rw [this]
          have kk : ∀ {S' : Addr → Prop} a o, ¬ (S' a ∨ a = D) → H4 a = some o → upd H4 D (.lst (acc ++ [y])) a = some o := fun {S'} a o n q => by
            rw [upd_ne (fun z => n (.inr z))]; exact q
          refine RpL.append ((((racc.mono sm2).mono e3).mono e4).weak kk fun _ _ _ z => z) (.cons (r4.weak (fun a o n q => by
            rw [upd_ne (fun z => n (.inl ⟨rfl, .inr (.inr z)⟩))]; exact q) fun a o q z => ?_) .nil)
          rcases z with (⟨_, z⟩ | ⟨_, z⟩) | z
          · rcases z with ⟨j, t, h1, h2, h3⟩ | z
            · have nj : j ∉ vs := ow h1 h2
              refine .inl ⟨rfl, .inl ⟨j, t, T.own s (enc x) _ a j t (by rw [wipeE_get nj]; exact h1) h2 (fun z => nj (hjs j z)), h2, ?_⟩⟩
              have := hσ2 vs hjs
              have q1 : (L2.wipe σ2 vs)[j]? = (L2.wipe (L2.wipe σ vs) vs)[j]? := by rw [this]
              rw [wipe_get nj, wipe_get nj, wipe_get nj] at q1
              rw [q1]; exact h3
            · exact .inl ⟨rfl, .inr (.inl z)⟩
          · exact .inr ⟨rfl, z⟩
          · exact .inl ⟨rfl, .inr (.inr z)⟩
  · obtain ⟨sm, F, acc, hacc, racc⟩ := q
    rw [List.take_length] at racc
    exact k D acc H' (e1.trans sm) hDH hacc racc⟩
/-- [elt for tg in iter if ..] -/
theorem pl_lc (l : List α) (enc : α → D) (f : α → Bool) (h : α → D) (hds : ds = l.map enc) (hc : X.calm = true) (hN : X.N.Nodup) (hi : PI X tg iter (tI X.K C s env ds)) (bk : BlkOk X.N X.env.scope scope own) (T : TgR X.K C g u ok js)
    (hg : ∀ (s : Shared) (H : Hp) (C : Addr) (cl : List (Str × Addr)) (fp : List Addr), PG (X.blk s H scope (compEnvC scope cl C X.env) fp) tg g)
    (hok : ∀ x ∈ l, ok (enc x)) (hjs : ∀ j ∈ js, j ∈ own.map (·.2)) (hw : ((own.map (·.2)).all fun j => !(env.getD j .emp).isOwn) = true) (hz : l.length ≤ 1000000)
    (ht : ∀ x ∈ l, ∀ (s' : Shared) (H : Hp) (Cc : Addr) (cl : List (Str × Addr)) (fp : List Addr), PTss (X.blk s' H scope (compEnvC scope cl Cc X.env) fp) C ifs (u s (enc x) (wipeE env (own.map (·.2)))) (f x))
    (he : ∀ x ∈ l, f x = true → ∀ (s' : Shared) (H : Hp) (Cc : Addr) (cl : List (Str × Addr)) (fp : List Addr), PX (X.blk s' H scope (compEnvC scope cl Cc X.env) fp) C true true elt (u s (enc x) (wipeE env (own.map (·.2)))) (h x))
    (hs : ∀ x, foldedSetIterable iter X.env x = pure x := by intro _; rfl) : PL X C (.ListComp elt [⟨tg, iter, ifs, 0⟩] scope pos) env ((l.filter f).map h) :=
  (pe_lc hc hN hi bk hg (fun s' H Cc cl fp => PTs.ex fun q => ht q.1 q.2 s' H Cc cl fp) (fun s' H Cc cl fp => PE.ex fun q => he q.1 q.2.1 q.2.2 s' H Cc cl fp) hs).imp (lc_imp l enc f h hds T hok hjs hw hz)
/-- y = [elt for tg in iter if ..] -/
theorem sx_setLc {E : L2.St → XK} (l : List α) (enc : α → D) (f : α → Bool) (h : α → D) (hds : ds = l.map enc) {i : Nat} {y : Str} {py spos : Pos} (hc : X.calm = true) (hN : X.N.Nodup) (hy : X.N[i]? = some y) (hyl : X.env.scope.names.lookup y = some .local) (hil : Nat.blt i env.length = true)
    (hsw : swapsWith (.ListComp elt [⟨tg, iter, ifs, 0⟩] scope pos) (some (.Name y py)) spos.line X.env = pure true) (hi : PI X tg iter (tI X.K C s env ds)) (bk : BlkOk X.N X.env.scope scope own) (T : TgR X.K C g u ok js)
    (hg : ∀ (s : Shared) (H : Hp) (C : Addr) (cl : List (Str × Addr)) (fp : List Addr), PG (X.blk s H scope (compEnvC scope cl C X.env) fp) tg g)
    (hok : ∀ x ∈ l, ok (enc x)) (hjs : ∀ j ∈ js, j ∈ own.map (·.2)) (hw : ((own.map (·.2)).all fun j => !(env.getD j .emp).isOwn) = true) (hz : l.length ≤ 1000000)
    (ht : ∀ x ∈ l, ∀ (s' : Shared) (H : Hp) (Cc : Addr) (cl : List (Str × Addr)) (fp : List Addr), PTss (X.blk s' H scope (compEnvC scope cl Cc X.env) fp) C ifs (u s (enc x) (wipeE env (own.map (·.2)))) (f x))
    (he : ∀ x ∈ l, f x = true → ∀ (s' : Shared) (H : Hp) (Cc : Addr) (cl : List (Str × Addr)) (fp : List Addr), PX (X.blk s' H scope (compEnvC scope cl Cc X.env) fp) C true true elt (u s (enc x) (wipeE env (own.map (·.2)))) (h x))
    (hs : ∀ x, foldedSetIterable iter X.env x = pure x := by intro _; rfl) : SX X C E (.Assign [.Name y py] (.ListComp elt [⟨tg, iter, ifs, 0⟩] scope pos) spos) env (.nx (env.set i (.own ((l.filter f).map h)))) :=
  (ps_setLc hc hN hy hyl hsw hi bk hg (fun s' H Cc cl fp => PTs.ex fun q => ht q.1 q.2 s' H Cc cl fp) (fun s' H Cc cl fp => PE.ex fun q => he q.1 q.2.1 q.2.2 s' H Cc cl fp) hs).imp fun D σ H ⟨H0, S0, B, EE, k⟩ =>
    lc_imp l enc f h hds T hok hjs hw hz σ H _ ⟨H0, S0, B, EE, fun q xs H' sm hq h1 r => k _ _ (EE.setOwn sm i (.own _) q hq (Nat.le_of_ble_eq_true hil) rfl
      ⟨q, xs, rfl, same_none EE.base hq, h1, r.anti fun a z => by
        rcases z with (z | z) | z
        · exact .inl (.inl ⟨rfl, z⟩)
        · exact .inr z
        · exact .inl (.inr ⟨rfl, z⟩)⟩)⟩
end

/-! ### defs -/
/-- how a call ends -/
inductive Res where
  | ret (d : D) | exc (c : Addr)
def Res.k (K : PySem.W.Frag) (C : Addr) (S : Addr → Prop) (H : Hp) (Q : VK) (E : XK) : Res → Prop
  | .ret d => ∀ v H', Same H H' → Rp K C S H' v d → Q v H'
  | .exc c => ∀ H', Same H H' → E (.ref c) none H'
/-- a def's promise: from data to a new datum, or an exception's class -/
def spN (K : PySem.W.Frag) (C : Addr) (R : List D → Res → Prop) : Sp := fun vs H Q E => ∃ ds r, R ds r ∧ RpL K C (fun _ => False) H vs ds ∧ r.k K C (fun a => H a ≠ none) H Q E
/-- .. whose result may be part of what is handed in -/
def spG (K : PySem.W.Frag) (C : Addr) (R : List D → Res → Prop) : Sp := fun vs H Q E => ∃ (S : Addr → Prop) (ds : List D) (r : Res), (∀ a, S a → H a ≠ none) ∧ R ds r ∧ RpL K C S H vs ds ∧ r.k K C S H Q E
def startE (N : List Str) (ss : List Sl) : Env := ss ++ List.replicate (N.length - ss.length) .emp
def resOut : Res → Out → Prop
  | .ret d, .rt d' => d = d'
  | .ret d, .nx _ => d = .non
  | .exc c, .xc c' _ => c = c'
  | _, _ => False
section
variable {K : PySem.W.Frag} {C : Addr} {H : Hp}
theorem startR (sl : D → Sl) (hsl : ∀ d, (sl d).isOwn = false) {S S0 : Addr → Prop} (hS : ∀ a, S0 a → H a ≠ none) {N : List Str} {vs : List V} {ds : List D} (h : RpL K C S H vs ds) (hd : ∀ v d, Rp K C S H v d → SlR K C H S0 (fun _ => False) H (some (some v)) (sl d)) :
    EnvR K C H S0 (fun _ => False) H (L2.start N vs) (startE N (ds.map sl)) := by
  have noown : ∀ {i : Nat} {t : Sl}, (startE N (ds.map sl))[i]? = some t → t.isOwn = false := fun {i t} q => by
    unfold startE at q
    by_cases hi : i < (ds.map sl).length
    · rw [List.getElem?_append_left hi, List.getElem?_map] at q
      cases z : ds[i]? with
      | none => rw [z] at q; cases q
      | some d => rw [z] at q; cases q; exact hsl d
    · rw [List.getElem?_append_right (by omega)] at q
      have := List.mem_of_getElem? q
      rw [List.eq_of_mem_replicate this]; rfl
  refine ⟨Same.refl H, hS, fun _ h => h.elim, ?_, fun i t q => ?_, fun i j a t t' q h1 => by rw [noown q] at h1; cases h1⟩
  · unfold startE L2.start
    simp only [List.length_append, List.length_map, List.length_replicate, h.len]
  · unfold startE at q
    by_cases hi : i < (ds.map sl).length
    · rw [List.getElem?_append_left hi, List.getElem?_map] at q
      cases z : ds[i]? with
      | none => rw [z] at q; cases q
      | some d =>
        rw [z] at q
        cases q
        obtain ⟨v, e1, r⟩ := h.getD z
        unfold L2.start
        rw [List.getElem?_append_left (by rw [List.length_map, h.len]; simpa using hi), List.getElem?_map, e1]
        exact (hd v d r).sub (fun a z => by
          rcases z with ⟨j, t, q1, q2, _⟩ | z
          · rw [noown q1] at q2; cases q2
          · exact z) (fun _ z => z)
    · rw [List.getElem?_append_right (by omega)] at q
      have := List.mem_of_getElem? q
      rw [List.eq_of_mem_replicate this]; trivial
end
section
variable {P : Program} {w : World} {K : PySem.W.Frag} {mg : Str → Option Value} {base : Heap} {C : Addr}
/-- from the outcome of the body to the promise -/
theorem out_res {r : Res} {o : Out} (ho : resOut r o) {H : Hp} {S0 : Addr → Prop} {E : XK} {Q : VK} (q : r.k K C S0 H Q E) : o.k K C (fun _ => E) H S0 (fun _ => False) { nx := fun _ H' => Q .non H', rt := Q } := by
  cases o with
  | rt d' => cases r with
    | ret d => cases (show d = d' from ho); exact q
    | exc c => exact (show False from ho).elim
  | nx e => cases r with
    | ret d => cases (show d = .non from ho); exact fun σ' H' E' => q _ _ E'.base .non
    | exc c => exact (show False from ho).elim
  | xc c' e => cases r with
    | ret d => exact (show False from ho).elim
    | exc c => cases (show c = c' from ho); exact fun σ' H' E' => q _ E'.base
  | bk e => cases r <;> exact (show False from ho).elim
  | ct e => cases r <;> exact (show False from ho).elim
/-- the context of a body that lets no exception out, of one that may -/
abbrev cx0 (P : Program) (w : World) (K : PySem.W.Frag) (mg : Str → Option Value) (base : Heap) (N : List Str) (qual : Str) (scope : Scope) (f : Addr) (cd : Value) (A : Around) (outer : List PySem.Env) (s : Shared) (H : Hp) : Cx := (cxOf CX0 P w K mg base N qual scope f cd A outer s H E0).nox
abbrev cxX (P : Program) (w : World) (K : PySem.W.Frag) (mg : Str → Option Value) (base : Heap) (N : List Str) (qual : Str) (scope : Scope) (f : Addr) (cd : Value) (A : Around) (outer : List PySem.Env) (s : Shared) (H : Hp) (E : XK) : Cx := cxOf (L2.CX P w) P w K mg base N qual scope f cd A outer s H E
/-- a def that lets no exception out: its result is new -/
theorem fnN {x qual : Str} {st : Stmt} {f : Addr} {fd : FuncData} {N ps : List Str} {k : Nat} {R : List D → Res → Prop} (F : Fun K x qual st f fd) (S : FnScope N ps (defScope st)) (hl : ∀ ds r, R ds r → ds.length = ps.length)
    (hb : ∀ (cdv : Value) (A : Around) (outer : List PySem.Env) (s : Shared) (H : Hp) (ds : List D) (r : Res), Room k (cx0 P w K mg base N qual (defScope st) f cdv A outer s H).A → R ds r →
      ∃ o, resOut r o ∧ SXs (cx0 P w K mg base N qual (defScope st) f cdv A outer s H) C (fun _ => E0) (defBody st) (startE N (ds.map .bor)) o) (hx : ∀ ds c, ¬ R ds (.exc c)) : FnOk P w K mg base CX0 (k + 1) f fd ps (spN K C R) := by
  refine F.ok S (fun vs H Q E h => ?_) (fun cdv A outer s H vs Q E hr h => ?_)
  · obtain ⟨ds, r, hR, h, _⟩ := h
    rw [h.len]; exact hl ds r hR
  · obtain ⟨ds, r, hR, h, q⟩ := h
    obtain ⟨o, ho, hx'⟩ := hb cdv A outer s H ds r hr hR
    refine ⟨_, ⟨fun pins s' σ H' D I hw => hx'.run pins s' σ H' D I hw⟩, H, (fun a => H a ≠ none), (fun _ => False), startR .bor (fun _ => rfl) (fun _ z => z) h fun v d rd => ⟨v, rfl, rd⟩, out_res ho ?_⟩
    cases r with
    | ret d => exact q
    | exc c => exact absurd hR (hx ds c)
/-- .. may hand on what it was handed -/
theorem fnG {x qual : Str} {st : Stmt} {f : Addr} {fd : FuncData} {N ps : List Str} {k : Nat} {R : List D → Res → Prop} (F : Fun K x qual st f fd) (S : FnScope N ps (defScope st)) (hl : ∀ ds r, R ds r → ds.length = ps.length)
    (hb : ∀ (cdv : Value) (A : Around) (outer : List PySem.Env) (s : Shared) (H : Hp) (ds : List D) (r : Res), Room k (cx0 P w K mg base N qual (defScope st) f cdv A outer s H).A → R ds r →
      ∃ o, resOut r o ∧ SXs (cx0 P w K mg base N qual (defScope st) f cdv A outer s H) C (fun _ => E0) (defBody st) (startE N (ds.map .dat)) o) (hx : ∀ ds c, ¬ R ds (.exc c)) : FnOk P w K mg base CX0 (k + 1) f fd ps (spG K C R) := by
  refine F.ok S (fun vs H Q E h => ?_) (fun cdv A outer s H vs Q E hr h => ?_)
  · obtain ⟨S, ds, r, _, hR, h, _⟩ := h
    rw [h.len]; exact hl ds r hR
  · obtain ⟨S, ds, r, hS, hR, h, q⟩ := h
    obtain ⟨o, ho, hx'⟩ := hb cdv A outer s H ds r hr hR
    refine ⟨_, ⟨fun pins s' σ H' D I hw => hx'.run pins s' σ H' D I hw⟩, H, S, (fun _ => False), startR .dat (fun _ => rfl) hS h fun v d rd => ⟨v, rfl, rd.anti fun a z => z.elim False.elim id⟩, out_res ho ?_⟩
    cases r with
    | ret d => exact q
    | exc c => exact absurd hR (hx ds c)
/-- a def that may raise -/
theorem fnX {x qual : Str} {st : Stmt} {f : Addr} {fd : FuncData} {N ps : List Str} {k : Nat} {R : List D → Res → Prop} (F : Fun K x qual st f fd) (S : FnScope N ps (defScope st)) (hl : ∀ ds r, R ds r → ds.length = ps.length)
    (hb : ∀ (cdv : Value) (A : Around) (outer : List PySem.Env) (s : Shared) (H : Hp) (E : XK) (ds : List D) (r : Res), Room k (cxX P w K mg base N qual (defScope st) f cdv A outer s H E).A → R ds r →
      ∃ o, resOut r o ∧ SXs (cxX P w K mg base N qual (defScope st) f cdv A outer s H E) C (fun _ => E) (defBody st) (startE N (ds.map .bor)) o) : FnOk P w K mg base (L2.CX P w) (k + 1) f fd ps (spN K C R) := by
  refine F.okX S (fun vs H Q E h => ?_) (fun cdv A outer s H vs Q E hr h => ?_)
  · obtain ⟨ds, r, hR, h, _⟩ := h
    rw [h.len]; exact hl ds r hR
  · obtain ⟨ds, r, hR, h, q⟩ := h
    obtain ⟨o, ho, hx'⟩ := hb cdv A outer s H E ds r hr hR
    exact ⟨_, ⟨fun pins s' σ H' D I hw => hx'.run pins s' σ H' D I hw⟩, H, (fun a => H a ≠ none), (fun _ => False), startR .bor (fun _ => rfl) (fun _ z => z) h fun v d rd => ⟨v, rfl, rd⟩, out_res ho q⟩
theorem takesX {N : List Str} {qual : Str} {scope : Scope} {f : Addr} {cd : Value} {A : Around} {outer : List PySem.Env} {s : Shared} {H : Hp} {E : XK} : Takes (cxX P w K mg base N qual scope f cd A outer s H E) (fun cls d _ H => E cls d H) := takes_of rfl rfl rfl rfl
theorem ownsX {N : List Str} {qual : Str} {scope : Scope} {f : Addr} {cd : Value} {A : Around} {outer : List PySem.Env} {s : Shared} {H : Hp} {E : XK} : PassesOwn (model (cxX P w K mg base N qual scope f cd A outer s H E).prog (cxX P w K mg base N qual scope f cd A outer s H E).w) (cxX P w K mg base N qual scope f cd A outer s H E).A (cxX P w K mg base N qual scope f cd A outer s H E).env (cxX P w K mg base N qual scope f cd A outer s H E).xe := passes_of rfl
end

/-! ### calls -/
section
variable {X : Cx} {C : Addr} {o s : Bool} {env : Env} {d : D} {ds : List D} {e : Expr} {es : List Expr} {pos p : Pos} {xn : Str} {CX : CXT} {k : Nat} {f : Addr} {fd : FuncData} {ps : List Str} {R : List D → Res → Prop} {E : XK}
/-- f(..), its result new -/
theorem px_call (F : FnOk X.prog X.w X.K X.mg X.base CX k f fd ps (spN X.K C R)) (hr : Room k X.A) (hm : X.mg xn = some (.ref f)) (hk : PySem.W.keepIn X.K (.ref f) = true) (hb : Binds X.K fd ps []) (hx : Passes CX X E) (ha : PAs X C false false (e :: es) env ds) (hR : R ds (.ret d))
    (hg : Gl X xn := by rfl) (hdb : (xn == ("__debug__" : Str)) = false := by decide) (he : starEach (e :: es) X.env = (false, eval e X.env) :: starEach es X.env := by rfl) (hpl : (backTo pos (starEach es X.env)).any (·.1) = false := by rfl) : PX X C o s (.Call (.Name xn p) (e :: es) [] pos) env d :=
  (pe_call F hr hg hm hk hb .nil hx ha hdb he hpl).imp fun σ H Q ⟨H0, S0, B, EE, k⟩ => ⟨H0, S0, B, EE, fun vs H1 e1 r => ⟨ds, .ret d, hR, by rw [List.append_nil]; exact r.anti fun a z => z.elim, fun v H' sm rv => k v H' (e1.trans sm) (rv.anti fun a z => AvO.some (EE.mono e1) z)⟩⟩
/-- .. may be part of the arguments -/
theorem px_callG (F : FnOk X.prog X.w X.K X.mg X.base CX k f fd ps (spG X.K C R)) (hr : Room k X.A) (hm : X.mg xn = some (.ref f)) (hk : PySem.W.keepIn X.K (.ref f) = true) (hb : Binds X.K fd ps []) (hx : Passes CX X E) (ha : PAs X C o s (e :: es) env ds) (hR : R ds (.ret d))
    (hg : Gl X xn := by rfl) (hdb : (xn == ("__debug__" : Str)) = false := by decide) (he : starEach (e :: es) X.env = (false, eval e X.env) :: starEach es X.env := by rfl) (hpl : (backTo pos (starEach es X.env)).any (·.1) = false := by rfl) : PX X C o s (.Call (.Name xn p) (e :: es) [] pos) env d :=
  (pe_call F hr hg hm hk hb .nil hx ha hdb he hpl).imp fun σ H Q ⟨H0, S0, B, EE, k⟩ => ⟨H0, S0, B, EE, fun vs H1 e1 r => ⟨_, ds, .ret d, fun a z => AvO.some (EE.mono e1) z, hR, by rw [List.append_nil]; exact r, fun v H' sm rv => k v H' (e1.trans sm) rv⟩⟩
end
end Fw

/-! Fw7: chains, tuples' order, enumerate, zip, methods, raise, tuples unpacked. -/
namespace Fw
open PySem L2
section
variable {X : Cx} {C : Addr} {o s : Bool} {env : Env} {d da db : D} {ds es2 : List D} {a b c e : Expr} {es rest : List Expr} {pos p p2 p3 : Pos} {x y : Bool} {E : L2.St → XK}

/-! ### chains of ints -/
theorem pt_ch2 {o1 o2 : CmpOp} {g1 g2 : Int → Int → Bool} {i j k : Int} (h1 : OpR X (compareOp o1) (rI0 fun i j => .bl (g1 i j))) (h2 : OpR X (compareOp o2) (rI0 fun i j => .bl (g2 i j)))
    (ha : PX X C false false a env (.int i)) (hb : PX X C false false b env (.int j)) (hc : PX X C false false c env (.int k)) (hm : lastMarks [o1, o2] [b, c] = false := by with_unfolding_all rfl) : PTt X C (.Compare a [o1, o2] [b, c] pos) env (g1 i j && g2 j k) := by
  refine (pt_chain h1 h2 ha hb hc hm).imp fun σ H Q ⟨H0, S0, B, E, q⟩ => ⟨H0, S0, B, E, fun v H1 e1 r1 => ⟨H0, S0, B, E.mono e1, fun w H2 e2 r2 => ⟨i, j, r1.isInt, r2.isInt, _, rfl, ?_⟩⟩⟩
  cases hg : g1 i j with
  | false => exact iteF ⟨_, rfl, by rw [hg] at q; exact q H2 (e1.trans e2)⟩
  | true => exact iteT ⟨H0, S0, B, (E.mono e1).mono e2, fun z H3 e3 r3 => ⟨j, k, r2.isInt, r3.isInt, _, rfl, by rw [hg] at q; exact q H3 ((e1.trans e2).trans e3)⟩⟩
theorem pt_ch3 {o1 o2 o3 : CmpOp} {g1 g2 g3 : Int → Int → Bool} {i j k m : Int} (h1 : OpR X (compareOp o1) (rI0 fun i j => .bl (g1 i j))) (h2 : OpR X (compareOp o2) (rI0 fun i j => .bl (g2 i j))) (h3 : OpR X (compareOp o3) (rI0 fun i j => .bl (g3 i j)))
    (ha : PX X C false false a env (.int i)) (hb : PX X C false false b env (.int j)) (hc : PX X C false false c env (.int k)) (hd : PX X C false false e env (.int m)) (hm : lastMarks [o1, o2, o3] [b, c, e] = false := by with_unfolding_all rfl) :
    PTt X C (.Compare a [o1, o2, o3] [b, c, e] pos) env (g1 i j && (g2 j k && g3 k m)) := by
  refine ⟨fun pins s σ H Q I ⟨H0, S0, B, EE, q⟩ => ?_⟩
  refine PyProof.Rows.isTrue_chain (thn (ha.run pins s σ H (fun v H' => v = .int i ∧ Same H H') I ⟨H0, S0, B, EE, fun v H' sm r => ⟨r.isInt, sm⟩⟩) fun v s1 ⟨x1, H1, I1, r1, ex1, e1⟩ => ?_) hm
  subst ex1
  refine PyProof.Rows.test_link (thn (hb.run pins s1 σ H1 (fun v H' => v = .int j ∧ Same H1 H') I1 ⟨H0, S0, B, EE.mono e1, fun v H' sm r => ⟨r.isInt, sm⟩⟩) fun u s2 ⟨x2, H2, I2, r2, ex2, e2⟩ =>
    thn (h1 pins s2 σ H2 _ x2 v u (fun z H' => z = .bl (g1 i j) ∧ Same H2 H') I2 r1 r2 ⟨i, j, rfl, ex2, rfl, Same.refl _⟩) fun w s3 ⟨x3, H3, I3, r3, ex3, e3⟩ => ?_)
  subst ex2 ex3
  cases r3
  have s13 := (e1.trans e2).trans e3
  cases hg1 : g1 i j with
  | false => exact wpAny_truthy_bool (PyProof.Rows.ite_ff ⟨H3, I3, by rw [hg1] at q; exact q H3 s13⟩)
  | true =>
    refine wpAny_truthy_bool (PyProof.Rows.ite_tt ?_)
    refine PyProof.Rows.test_link (thn (hc.run pins s3 σ H3 (fun v H' => v = .int k ∧ Same H3 H') I3 ⟨H0, S0, B, EE.mono s13, fun v H' sm r => ⟨r.isInt, sm⟩⟩) fun u4 s4 ⟨x4, H4, I4, r4, ex4, e4⟩ =>
      thn (h2 pins s4 σ H4 _ x4 u u4 (fun z H' => z = .bl (g2 j k) ∧ Same H4 H') I4 r2 r4 ⟨j, k, rfl, ex4, rfl, Same.refl _⟩) fun w5 s5 ⟨x5, H5, I5, r5, ex5, e5⟩ => ?_)
    subst ex4 ex5
    cases r5
    have s15 := (s13.trans e4).trans e5
    cases hg2 : g2 j k with
    | false => exact wpAny_truthy_bool (PyProof.Rows.ite_ff ⟨H5, I5, by rw [hg1, hg2] at q; exact q H5 s15⟩)
    | true =>
      refine wpAny_truthy_bool (PyProof.Rows.ite_tt ?_)
      refine PyProof.Rows.test_last (thn (hd.run pins s5 σ H5 (fun v H' => v = .int m ∧ Same H5 H') I5 ⟨H0, S0, B, EE.mono s15, fun v H' sm r => ⟨r.isInt, sm⟩⟩) fun u6 s6 ⟨x6, H6, I6, r6, ex6, e6⟩ =>
        thn (h3 pins s6 σ H6 _ x6 u4 u6 (fun z H' => z = .bl (g3 k m) ∧ Same H6 H') I6 r4 r6 ⟨k, m, rfl, ex6, rfl, Same.refl _⟩) fun w7 s7 ⟨x7, H7, I7, r7, ex7, e7⟩ => ?_)
      subst ex6 ex7
      cases r7
      exact wpAny_truthy_bool ⟨H7, I7, by rw [hg1, hg2] at q; exact q H7 ((s15.trans e6).trans e7)⟩

/-! ### pairs compared by order -/
def rGeP (K : PySem.W.Frag) : R2 := fun v w H Q => ∃ (t u : Addr) (q r : Int × Int), v = .ref t ∧ w = .ref u ∧ H t = some (.tup [.int q.1, .int q.2]) ∧ H u = some (.tup [.int r.1, .int r.2]) ∧ Q (.bl (leP r q)) H
theorem op_geP (hu : X.A.units < cLine) : OpR X (compareOp .GtE) (rGeP X.K) := by
  intro pins s σ H v w v' w' Q I rv rw' h
  obtain ⟨t, u, ⟨q1, q2⟩, ⟨r1, r2⟩, rfl, rfl, ht, hr, k⟩ := h
  cases rv
  cases rw'
  obtain ⟨vs, rvs, pt, _⟩ := I.tuple (SqT.of ht)
  obtain ⟨ws, rws, pu, _⟩ := I.tuple (SqT.of hr)
  obtain ⟨t1, t2, rfl⟩ := Vals.int2 rvs
  obtain ⟨u1, u2, rfl⟩ := Vals.int2 rws
  have at2 : ∀ {i j : Int} (t1 t2 : Tok) (n : Nat) (hn : n < ([Value.int i t1, Value.int j t2] : List Value).toArray.size), ∃ t, ([Value.int i t1, Value.int j t2] : List Value).toArray[n] = .int (([i, j] : List Int).getD n 0) t := fun t1 t2 n hn => by
    match n, hn with
    | 0, _ => exact ⟨t1, rfl⟩
    | 1, _ => exact ⟨t2, rfl⟩
  have R := Ob.RcOp.tuples_ge (A := X.A) (s := s) (e := fun n => decide (([q1, q2] : List Int).getD n 0 = ([r1, r2] : List Int).getD n 0)) (r := fun n => decide (([r1, r2] : List Int).getD n 0 ≤ ([q1, q2] : List Int).getD n 0)) pt pu hu (fun n h1 h2 => by
    obtain ⟨ta, ea⟩ := at2 t1 t2 n h1
    obtain ⟨tb, eb⟩ := at2 u1 u2 n h2
    rw [ea, eb, ← Bool.beq_eq_decide_eq]
    exact SeqAt.EqAt.int_int _ _ _ _) (fun n h1 h2 _ => by
    obtain ⟨ta, ea⟩ := at2 t1 t2 n h1
    obtain ⟨tb, eb⟩ := at2 u1 u2 n h2
    rw [ea, eb]
    exact Ob.RcOp.ge_int _ _ _ _)
  refine R X.prog X.w X.xe _ ⟨.bl _, H, I, rfl, ?_⟩
  refine (congrArg (fun z => Q (.bl z) H) ?_).mp k
  show leP (r1, r2) (q1, q2) = (if decide (q1 = r1) = true then (if decide (q2 = r2) = true then decide (2 ≥ 2) else decide (r2 ≤ q2)) else decide (r1 ≤ q1))
  unfold leP
  by_cases z1 : q1 = r1
  · by_cases z2 : q2 = r2
    · rw [decide_eq_true z1, if_pos rfl, decide_eq_true z2, if_pos rfl]; exact decide_eq_true (.inr ⟨z1.symm, by rw [z2]; exact Int.le_refl _⟩)
    · rw [decide_eq_true z1, if_pos rfl, decide_eq_false z2, if_neg Bool.false_ne_true]
      exact decide_eq_decide.mpr ⟨fun h => by simp only at h; omega, fun h => .inr ⟨z1.symm, h⟩⟩
  · rw [decide_eq_false z1, if_neg Bool.false_ne_true]
    exact decide_eq_decide.mpr ⟨fun h => by simp only at h; omega, fun h => by simp only; omega⟩
theorem cm_geP {q r : Int × Int} (hu : X.A.units < cLine) (ha : PX X C false false a env (pr q)) (hb : PX X C false false b env (pr r)) : CmpR X C .GtE a b env (leP r q) :=
  ⟨_, _, _, op_geP hu, ha, hb, nomark _, fun o s => tOp_sc rfl fun S x y H Q r1 r2 k => by
    obtain ⟨t, rfl, _, ht⟩ := r1.pair
    obtain ⟨u, rfl, _, hu⟩ := r2.pair
    exact ⟨t, u, q, r, rfl, rfl, ht, hu, k⟩⟩

/-! ### enumerate, zip -/
def enD (ds : List D) : List D := ds.mapIdx fun i d => .tup [.int (i : Nat), d]
def ziD (ds es : List D) : List D := List.zipWith (fun d e => .tup [d, e]) ds es
theorem pi_en {elts : List Expr} {kk : Nat} {tpos : Pos} (s : Bool) (hm : X.mg "enumerate" = none) (ha : PX X C true s a env (.lst ds)) (hg : Gl X "enumerate" := by rfl) (na : starEach [a] X.env = [(false, eval a X.env)] := by rfl) :
    PI X (.Tuple elts kk tpos) (.Call (.Name "enumerate" p) [a] [] pos) (tI X.K C s env (enD ds)) :=
  (L2.pi_enum hg hm (pas1 ha na) na).imp fun σ H R ⟨H0, S0, B, EE, k⟩ => ⟨H0, S0, B, EE, fun vs H1 e1 r => by
    obtain ⟨v, rfl, r1⟩ := r.one
    cases r1 with
    | @lst l xs _ n h r =>
      refine ⟨l, xs, rfl, SqL.of h, k _ H1 e1 ?_⟩
      have hb : reb H1 (OwnB B σ env) l = some (.lst xs) := by rw [reb_out (fun w => n (.inl ⟨rfl, w⟩))]; exact h
      have rb := (r.anti (S' := fun a => OwnB B σ env a ∨ (s = true ∧ S0 a)) fun a z => avO_o z).reb
      unfold ItsD
      rw [show (enD ds).length = xs.length by unfold enD; rw [List.length_mapIdx, r.len]]
      refine (walk_enum (K := X.K) (a := l) (xs := xs)).mono (fun H' sm => SqL.of (sm l _ hb)) fun i H' v H'' hi sm y => ?_
      obtain ⟨T, x1, x2, rfl, hT, rfl, ea, eb⟩ := y
      cases ea
      obtain ⟨d, hd, rd⟩ := rb.get eb
      refine ⟨same_new hT, .tup [.int (i : Nat), d], by unfold enD; rw [List.getElem?_mapIdx, hd]; rfl, fun S' q => .tup (fun z => (q T z).1 hT) upd_same (.cons (.int _) (.cons ?_ .nil))⟩
      exact (rd.up sm q).mono (same_new hT)⟩
theorem pi_zi {elts : List Expr} {kk : Nat} {tpos : Pos} (s : Bool) (hm : X.mg "zip" = none) (ha : PX X C true s a env (.lst ds)) (hb : PX X C true s b env (.lst es2)) (hg : Gl X "zip" := by rfl) (na : starEach [a, b] X.env = (false, eval a X.env) :: starEach [b] X.env := by rfl)
    (nb : starEach [b] X.env = (false, eval b X.env) :: starEach [] X.env := by rfl) (hpl : (backTo pos (starEach [b] X.env)).any (·.1) = false := by rfl) :
    PI X (.Tuple elts kk tpos) (.Call (.Name "zip" p) [a, b] [] pos) (tI X.K C s env (ziD ds es2)) :=
  (L2.pi_zip hg hm (pas_cons ha (pas1 hb nb) na) na hpl).imp fun σ H R ⟨H0, S0, B, EE, k⟩ => ⟨H0, S0, B, EE, fun vs H1 e1 r => by
    obtain ⟨v, w, rfl, r1, r2⟩ := r.two
    cases r1 with
    | @lst l xs _ n h rr =>
      cases r2 with
      | @lst l2 ys _ n2 h2 r2 =>
        refine ⟨l, l2, xs, ys, rfl, SqL.of h, SqL.of h2, k _ H1 e1 ?_⟩
        have hb1 : reb H1 (OwnB B σ env) l = some (.lst xs) := by rw [reb_out (fun w => n (.inl ⟨rfl, w⟩))]; exact h
        have hb2 : reb H1 (OwnB B σ env) l2 = some (.lst ys) := by rw [reb_out (fun w => n2 (.inl ⟨rfl, w⟩))]; exact h2
        have rb := (rr.anti (S' := fun a => OwnB B σ env a ∨ (s = true ∧ S0 a)) fun a z => avO_o z).reb
        have rb2 := (r2.anti (S' := fun a => OwnB B σ env a ∨ (s = true ∧ S0 a)) fun a z => avO_o z).reb
        unfold ItsD
        refine (walk_zip (K := X.K) (a := l) (b := l2) (xs := xs) (ys := ys) (n := (ziD ds es2).length) (by unfold ziD; rw [List.length_zipWith, rr.len, r2.len])).mono (fun H' sm => ⟨SqL.of (sm l _ hb1), SqL.of (sm l2 _ hb2)⟩) fun i H' v H'' hi sm y => ?_
        obtain ⟨T, x1, x2, rfl, hT, rfl, ea, eb⟩ := y
        obtain ⟨d, hd, rd⟩ := rb.get ea
        obtain ⟨d2, hd2, rd2⟩ := rb2.get eb
        refine ⟨same_new hT, .tup [d, d2], by unfold ziD; rw [List.getElem?_zipWith, hd, hd2], fun S' q => .tup (fun z => (q T z).1 hT) upd_same (.cons ?_ (.cons ?_ .nil))⟩
        · exact (rd.up sm q).mono (same_new hT)
        · exact (rd2.up sm q).mono (same_new hT)⟩

/-! ### methods that change our own list -/
theorem ownAt {K : PySem.W.Frag} {H0 : Hp} {S0 B : Addr → Prop} {H : Hp} {σ : L2.St} {i : Nat} (EE : EnvR K C H0 S0 B H σ env) (h : env[i]? = some (.own ds)) : ∃ l xs, σ[i]? = some (some (V.ref l)) ∧ H l = some (.lst xs) ∧ RpL K C (fun a => OwnB B σ env a ∨ S0 a) H xs ds ∧ OwnA σ env l ∧ H0 l = none := by
  obtain ⟨l, xs, e, n, h1, r⟩ := EE.slot i _ h
  exact ⟨l, xs, e, h1, r, ⟨i, _, h, rfl, e⟩, n⟩
theorem lst_ty {K : PySem.W.Frag} {H : Hp} {l : Addr} {xs : List V} (h : H l = some (.lst xs)) : tyV K "list" (.ref l) H := .inl ⟨rfl, xs, SqL.of h⟩
/-- our list behind an evaluation: it stands as it was -/
theorem ownKept {K : PySem.W.Frag} {H0 : Hp} {S0 B : Addr → Prop} {H : Hp} {σ : L2.St} {l : Addr} {xs : List V} {d : D} {v : V} (r : Rp K C (AvO true true S0 B σ env) H v d) : Rp K C (fun a => OwnB B σ env a ∨ S0 a) H v d := r.anti fun a z => z.imp (fun z => ⟨rfl, z⟩) (fun z => ⟨rfl, z⟩)
theorem updR {K : PySem.W.Frag} {S : Addr → Prop} {H : Hp} {l : Addr} {ob : HO} {vs : List V} (r : RpL K C S H vs ds) (h : S l) : RpL K C S (upd H l ob) vs ds := r.weak (fun a o n q => by rw [upd_ne (fun z => n (by rw [z]; exact h))]; exact q) (fun _ _ _ z => z)
theorem sx_append (i : Nat) {xn : Str} {px apos cpos : Pos} (he : PX X C true true e env d) (ho : env[i]? = some (.own ds)) (hz : ds.length < 1000000) (hN : X.N[i]? = some xn := by rfl) (hv : Vis X.env.scope xn := by first | exact Or.inl rfl | exact Or.inr (Or.inl rfl))
    (hd : (xn == ("__debug__" : Str)) = false := by decide) (hcd : (xn == ("__classdict__" : Str)) = false := by decide)
    (hbase : attributeBase (.Name xn px) "append" X.env (eval (.Name xn px) X.env) = eval (.Name xn px) X.env := by rfl) (hfew : ((backTo cpos (starEach [e] X.env)).all (fun x => !x.1) && (backToKw cpos (keywordEach [] X.env)).all (fun x => x.1.isSome)
      && decide (([e] : List Expr).length + ([] : List Keyword).length + (if ([] : List Keyword).isEmpty then 0 else 1) < 30)) = true := by rfl)
    (hline : (apos.endLine == cpos.line) = true := by rfl) (na : starEach [e] X.env = (false, eval e X.env) :: starEach [] X.env := by rfl) (hplain : (backTo cpos (starEach [] X.env)).any (·.1) = false := by rfl)
    (hs : swapsWith (.Call (.Attribute (.Name xn px) "append" apos) [e] [] cpos) none pos.line X.env = pure false := by rfl) :
    SX X C E (.Expr (.Call (.Attribute (.Name xn px) "append" apos) [e] [] cpos) pos) env (.nx (env.set i (.own (ds ++ [d])))) :=
  (ps_expr (pe_bm PySem.F.plainAttrs_list PySem.F.slot_list_append PySem.F.type_list_append mt_append (pe_var (i := i) hN hv hd hcd) (pas1 he na) hbase hfew hline na hplain) hs).imp fun D σ H ⟨H0, S0, B, EE, k⟩ => by
    obtain ⟨l, xs, e1, h1, r1, oA, n0⟩ := ownAt EE ho
    refine ⟨_, e1, lst_ty h1, H0, S0, B, EE, fun vs H2 sm r => ?_⟩
    obtain ⟨v, rfl, rv⟩ := r.one
    have h2 := sm _ _ h1
    refine ⟨l, xs, v, rfl, rfl, h2, by rw [r1.len]; exact szl hz, k σ _ ((EE.mono sm).chg ho rfl rfl e1 ⟨l, _, rfl, n0, upd_same, updR ((r1.mono sm).append (.cons (ownKept (H0 := H0) (l := l) (xs := xs) rv) .nil)) (.inl (.inl oA))⟩)⟩
theorem sx_insert (i : Nat) {n : Int} {xn : Str} {px apos cpos : Pos} (ha : PX X C true true a env (.int n)) (he : PX X C true true e env d) (ho : env[i]? = some (.own ds)) (hz : ds.length < 1000000) (hn : 0 ≤ n ∧ n < 2 ^ 63) (hN : X.N[i]? = some xn := by rfl) (hv : Vis X.env.scope xn := by first | exact Or.inl rfl | exact Or.inr (Or.inl rfl))
    (hd : (xn == ("__debug__" : Str)) = false := by decide) (hcd : (xn == ("__classdict__" : Str)) = false := by decide)
    (hbase : attributeBase (.Name xn px) "insert" X.env (eval (.Name xn px) X.env) = eval (.Name xn px) X.env := by rfl) (hfew : ((backTo cpos (starEach [a, e] X.env)).all (fun x => !x.1) && (backToKw cpos (keywordEach [] X.env)).all (fun x => x.1.isSome)
      && decide (([a, e] : List Expr).length + ([] : List Keyword).length + (if ([] : List Keyword).isEmpty then 0 else 1) < 30)) = true := by rfl)
    (hline : (apos.endLine == cpos.line) = true := by rfl) (na : starEach [a, e] X.env = (false, eval a X.env) :: starEach [e] X.env := by rfl) (nb : starEach [e] X.env = (false, eval e X.env) :: starEach [] X.env := by rfl) (hplain : (backTo cpos (starEach [e] X.env)).any (·.1) = false := by rfl)
    (hs : swapsWith (.Call (.Attribute (.Name xn px) "insert" apos) [a, e] [] cpos) none pos.line X.env = pure false := by rfl) :
    SX X C E (.Expr (.Call (.Attribute (.Name xn px) "insert" apos) [a, e] [] cpos) pos) env (.nx (env.set i (.own (ds.take n.toNat ++ [d] ++ ds.drop n.toNat)))) :=
  (ps_expr (pe_bm PySem.F.plainAttrs_list PySem.F.slot_list_insert PySem.F.type_list_insert mt_insert (pe_var (i := i) hN hv hd hcd) (pas_cons ha (pas1 he nb) na) hbase hfew hline na hplain) hs).imp fun D σ H ⟨H0, S0, B, EE, k⟩ => by
    obtain ⟨l, xs, e1, h1, r1, oA, n0⟩ := ownAt EE ho
    refine ⟨_, e1, lst_ty h1, H0, S0, B, EE, fun vs H2 sm r => ?_⟩
    obtain ⟨u, v, rfl, ru, rv⟩ := r.two
    cases ru
    have h2 := sm _ _ h1
    have r2 := r1.mono sm
    refine ⟨l, xs, n, v, rfl, rfl, h2, by rw [r1.len]; exact szl hz, hn.1, hn.2, k σ _ ((EE.mono sm).chg ho rfl rfl e1 ⟨l, _, rfl, n0, upd_same, updR (((r2.take _).append (.cons (ownKept (H0 := H0) (l := l) (xs := xs) rv) .nil)).append (r2.drop _)) (.inl (.inl oA))⟩)⟩
theorem sx_extend (i : Nat) {xn : Str} {px apos cpos : Pos} (he : PX X C true true e env (.lst es2)) (ho : env[i]? = some (.own ds)) (hz : ds.length + es2.length ≤ 1000000) (hN : X.N[i]? = some xn := by rfl) (hv : Vis X.env.scope xn := by first | exact Or.inl rfl | exact Or.inr (Or.inl rfl))
    (hd : (xn == ("__debug__" : Str)) = false := by decide) (hcd : (xn == ("__classdict__" : Str)) = false := by decide)
    (hbase : attributeBase (.Name xn px) "extend" X.env (eval (.Name xn px) X.env) = eval (.Name xn px) X.env := by rfl) (hfew : ((backTo cpos (starEach [e] X.env)).all (fun x => !x.1) && (backToKw cpos (keywordEach [] X.env)).all (fun x => x.1.isSome)
      && decide (([e] : List Expr).length + ([] : List Keyword).length + (if ([] : List Keyword).isEmpty then 0 else 1) < 30)) = true := by rfl)
    (hline : (apos.endLine == cpos.line) = true := by rfl) (na : starEach [e] X.env = (false, eval e X.env) :: starEach [] X.env := by rfl) (hplain : (backTo cpos (starEach [] X.env)).any (·.1) = false := by rfl)
    (hs : swapsWith (.Call (.Attribute (.Name xn px) "extend" apos) [e] [] cpos) none pos.line X.env = pure false := by rfl) :
    SX X C E (.Expr (.Call (.Attribute (.Name xn px) "extend" apos) [e] [] cpos) pos) env (.nx (env.set i (.own (ds ++ es2)))) :=
  (ps_expr (pe_bm PySem.F.plainAttrs_list PySem.F.slot_list_extend PySem.F.type_list_extend mt_extend (pe_var (i := i) hN hv hd hcd) (pas1 he na) hbase hfew hline na hplain) hs).imp fun D σ H ⟨H0, S0, B, EE, k⟩ => by
    obtain ⟨l, xs, e1, h1, r1, oA, n0⟩ := ownAt EE ho
    refine ⟨_, e1, lst_ty h1, H0, S0, B, EE, fun vs H2 sm r => ?_⟩
    obtain ⟨v, rfl, rv⟩ := r.one
    have rv := ownKept (H0 := H0) (l := l) (xs := xs) rv
    cases rv with
    | @lst b zs _ nb hb rb =>
      exact ⟨l, b, xs, zs, rfl, rfl, sm _ _ h1, hb, by rw [r1.len, rb.len]; exact sz hz, k σ _ ((EE.mono sm).chg ho rfl rfl e1 ⟨l, _, rfl, n0, upd_same, updR ((r1.mono sm).append rb) (.inl (.inl oA))⟩)⟩
/-- xs[i] = e -/
theorem sx_setI (i : Nat) {n : Int} {j : Nat} {xn : Str} {px spos : Pos} (he : PX X C true true e env d) (hx : PX X C true true b env (.int n)) (ho : env[i]? = some (.own ds)) (hj : ixN ds.length n = some j) (hN : X.N[i]? = some xn := by rfl) (hv : Vis X.env.scope xn := by first | exact Or.inl rfl | exact Or.inr (Or.inl rfl))
    (hd : (xn == ("__debug__" : Str)) = false := by decide) (hcd : (xn == ("__classdict__" : Str)) = false := by decide)
    (has : ∀ v, assign (.Subscript (.Name xn px) b spos) X.env v = (do
      let ov ← holding [v] (eval (.Name xn px) X.env)
      let iv ← holding [v, ov] (eval b X.env)
      standAt spos
      holding [v, ov, iv] (setItem ov iv v)
      release [v, ov, iv] []) := by intro _; rfl)
    (hs : swapsWithSole [.Subscript (.Name xn px) b spos] e pos.line X.env = pure false := by rfl) (hw : swappedStores [.Subscript (.Name xn px) b spos] e X.env = pure none := by rfl)
    (h1 : (assignEach [.Subscript (.Name xn px) b spos] X.env).map (·.2) = [assign (.Subscript (.Name xn px) b spos) X.env] := by rfl) :
    SX X C E (.Assign [.Subscript (.Name xn px) b spos] e pos) env (.nx (env.set i (.own (ds.set j d)))) :=
  (ps_asg he (pg_sub (pe_var (i := i) hN hv hd hcd) hx set_list has) hs hw h1).imp fun D σ H ⟨H0, S0, B, EE, k⟩ => ⟨H0, S0, B, EE, fun v H1 e1 rv => by
    obtain ⟨l, xs, el, hl, rl, oA, n0⟩ := ownAt (EE.mono e1) ho
    refine ⟨_, el, H0, S0, B, EE.mono e1, fun w H2 e2 rw' => ?_⟩
    cases rw'
    refine ⟨l, xs, n, j, rfl, rfl, e2 _ _ hl, by rw [rl.len]; exact hj, k σ _ (((EE.mono e1).mono e2).chg ho rfl rfl el ⟨l, _, rfl, n0, upd_same, updR ((rl.mono e2).set j ((ownKept (H0 := H0) (l := l) (xs := xs) rv).mono e2)) (.inl (.inl oA))⟩)⟩⟩

/-! ### tuples unpacked -/
theorem sx_pair (s : Bool) (j1 j2 : Nat) {x1 x2 : Str} {q1 q2 tpos : Pos} {kk : Nat} (he : PX X C true s e env (.tup [da, db])) (hc : X.calm = true) (hN : X.N.Nodup) (h1 : X.N[j1]? = some x1 := by rfl) (h2 : X.N[j2]? = some x2 := by rfl)
    (l1 : Loc X.env.scope x1 := by first | exact Or.inl rfl | exact Or.inr rfl) (l2 : Loc X.env.scope x2 := by first | exact Or.inl rfl | exact Or.inr rfl) (f1 : X.fn x1 = true ∨ X.env.scope.names.lookup x1 = some .local := by first | exact .inl rfl | exact .inr rfl) (f2 : X.fn x2 = true ∨ X.env.scope.names.lookup x2 = some .local := by first | exact .inl rfl | exact .inr rfl)
    (hp1 : (assignEach [.Name x1 q1, .Name x2 q2] X.env).map (·.2) = assign (.Name x1 q1) X.env :: (assignEach [.Name x2 q2] X.env).map (·.2) := by rfl) (hp2 : (assignEach [.Name x2 q2] X.env).map (·.2) = assign (.Name x2 q2) X.env :: (assignEach [] X.env).map (·.2) := by rfl)
    (hn : (assignEach [.Name x1 q1, .Name x2 q2] X.env).length = 2 := by rfl) (hst : (assignEach [.Name x1 q1, .Name x2 q2] X.env).findIdx? (·.1) = none := by rfl)
    (hs : swapsWithSole [.Tuple [.Name x1 q1, .Name x2 q2] kk tpos] e pos.line X.env = pure false := by rfl) (hw : swappedStores [.Tuple [.Name x1 q1, .Name x2 q2] kk tpos] e X.env = pure none := by rfl)
    (ha : (assignEach [.Tuple [.Name x1 q1, .Name x2 q2] kk tpos] X.env).map (·.2) = [assign (.Tuple [.Name x1 q1, .Name x2 q2] kk tpos) X.env] := by rfl) :
    SX X C E (.Assign [.Tuple [.Name x1 q1, .Name x2 q2] kk tpos] e pos) env (.nx ((env.set j1 (mkS s da)).set j2 (mkS s db))) :=
  (ps_asg he (pg_tup hc (pgs_cons (pg_name (i := j1) hN h1 l1 f1) (pgs_cons (pg_name (i := j2) hN h2 l2 f2) pgs_nil hp2) hp1) hn hst) hs hw ha).imp fun D σ H ⟨H0, S0, B, EE, k⟩ => ⟨H0, S0, B, EE, fun v H1 e1 rv => by
    exact (tg_pair (K := X.K) (C := C) j1 j2).run H0 S0 B σ env s v (.tup [da, db]) H1 D.nx (EE.mono e1) rv ⟨da, db, rfl⟩ fun σ' E' _ => k σ' H1 E'⟩
/-- a, b = e1, e2 -/
theorem sx_par (s : Bool) (j1 j2 : Nat) {x1 x2 : Str} {q1 q2 tpos t2 : Pos} {kk k2 : Nat} (ha : PX X C true s a env da) (hb : PX X C true s b env db) (hc : X.calm = true) (hN : X.N.Nodup) (hij : j1 ≠ j2 := by decide) (h1 : X.N[j1]? = some x1 := by rfl) (h2 : X.N[j2]? = some x2 := by rfl)
    (l1 : X.env.scope.names.lookup x1 = some .local := by rfl) (l2 : X.env.scope.names.lookup x2 = some .local := by rfl)
    (na : starEach [a, b] X.env = (false, eval a X.env) :: starEach [b] X.env := by rfl) (nb : starEach [b] X.env = (false, eval b X.env) :: starEach [] X.env := by rfl)
    (hw : swappedStores [.Tuple [.Name x1 q1, .Name x2 q2] kk tpos] (.Tuple [a, b] k2 t2) X.env = pure (some [x1, x2]) := by rfl) (hs : swapsWithSole [.Tuple [.Name x1 q1, .Name x2 q2] kk tpos] (.Tuple [a, b] k2 t2) pos.line X.env = pure false := by rfl) :
    SX X C E (.Assign [.Tuple [.Name x1 q1, .Name x2 q2] kk tpos] (.Tuple [a, b] k2 t2) pos) env (.nx ((env.set j1 (mkS s da)).set j2 (mkS s db))) :=
  (ps_par hc hN h1 h2 hij l1 l2 (pas_cons ha (pas1 hb nb) na) hw hs).imp fun D σ H ⟨H0, S0, B, EE, k⟩ => ⟨H0, S0, B, EE, fun vs H1 e1 rv => by
    obtain ⟨v, w, rfl, r1, r2⟩ := rv.two
    refine ⟨v, w, rfl, k _ _ (((EE.mono e1).set j1 (mkS s da) v mkS_own (slR_mk r1)).set j2 (mkS s db) w mkS_own (slR_mk (r2.anti fun a z => z.imp (fun z => ⟨rfl, z.2.imp (fun z => ownA_set mkS_own z) id⟩) id)))⟩⟩

/-! ### isinstance -/
def D.tyN : D → Option String
  | .non => some "NoneType"
  | .bl _ => some "bool"
  | .int _ => some "int"
  | .lst _ => some "list"
  | .tup _ => some "tuple"
  | _ => none
theorem Rp.tyx {K : PySem.W.Frag} {S : Addr → Prop} {H : Hp} {v : V} {T : String} (h : Rp K C S H v d) (ht : d.tyN = some T) : TyX K H v (.type T) := by
  cases h with
  | non => cases ht; exact .base .non
  | bl b => cases ht; exact .base (.bl b)
  | int i => cases ht; exact .base (.int i)
  | lst n h r => cases ht; exact .base (.lst h)
  | tup n h r => cases ht; exact .base (.tup h)
  | tree n n2 h h2 r => cases ht
  | scr n h => cases ht
  | scrK h => cases ht
theorem px_isi {T U : String} {un : Str} (hm : X.mg "isinstance" = none) (hm2 : X.mg un = none) (hv : bootBuiltins un = some (.type U)) (ha : PX X C false false a env d) (ht : d.tyN = some T) (hk : kitB T U = some x) (hg : Gl X "isinstance" := by rfl) (hg2 : Gl X un := by rfl) (hn : un ≠ "__name__" := by decide) (hdb : (un == ("__debug__" : Str)) = false := by decide)
    (na : starEach [a, .Name un p2] X.env = (false, eval a X.env) :: starEach [.Name un p2] X.env := by rfl) (nb : starEach [.Name un p2] X.env = (false, eval (.Name un p2) X.env) :: starEach [] X.env := by rfl) (hpl : (backTo pos (starEach [.Name un p2] X.env)).any (·.1) = false := by rfl) :
    PX X C o s (.Call (.Name "isinstance" p) [a, .Name un p2] [] pos) env (.bl x) :=
  (pe_callB call_isi hg hm PyProof.Rows.boot_isinstance (pa_cons ha (pa_cons (pe_bltn (v := .ty U) hg2 hm2 hv rfl hn hdb) pa_nil nb) na) (by decide) (by decide) na hpl).imp fun σ H Q ⟨H0, S0, B, E, k⟩ => ⟨H0, S0, B, E, fun v H1 e1 r1 =>
    ⟨v, .ty U, .type T, .type U, x, rfl, .ty U, r1.tyx ht, kit_ty hk, k _ H1 e1 (.ofSc rfl)⟩⟩
end
end Fw

/-! Fw8: exceptions; trees made. -/
namespace Fw
open PySem L2
section
variable {X : Cx} {C : Addr} {o s : Bool} {env : Env} {d da db : D} {ds : List D} {a b c e : Expr} {es rest : List Expr} {pos p p2 p3 : Pos} {x y : Bool} {E : L2.St → XK} {cc : Addr}

/-! ### an own exception without __init__ -/
structure ExcF (K : PySem.W.Frag) (mg : Str → Option Value) (xn : Str) (cc : Addr) : Prop where
  g : mg xn = some (.ref cc)
  x : PySem.W.excIn K cc [.type "ValueError", .type "Exception", .type "BaseException", .type "object"] "ValueError.__new__" = true
  k : PySem.W.keepIn K (.ref cc) = true
  b : PySem.W.subIn K (.ref cc) (.type "BaseException") = some true
  t : PySem.W.typeIn K (.ref cc) = some (.type "type")
abbrev TkE (X : Cx) (E : L2.St → XK) : Prop := Takes X (fun cls d σ H => E σ cls d H)
theorem sx_raise {xn m : Str} {j : Nat} (tk : TkE X E) (F : ExcF X.K X.mg xn cc) (hc : X.calm = true) (hg : Gl X xn := by rfl) (hdb : (xn == ("__debug__" : Str)) = false := by decide) : SX X C E (.Raise (some (.Call (.Name xn p) [.Constant (.str m) j p2] [] p3)) none pos) env (.xc cc env) :=
  (ps_raise hc tk (pmk_own PySem.F.excBase_ValueError F.x F.g F.k (raises_own F.b F.t) hg hdb)).imp fun D σ H ⟨H0, S0, B, EE, k⟩ => k σ H EE

/-! ### what raises -/
def tDX (K : PySem.W.Frag) (C : Addr) (E : L2.St → XK) (env : Env) (cc : Addr) : TE := fun σ H _ => ∃ H0 S0 B, EnvR K C H0 S0 B H σ env ∧ ∀ H', EnvR K C H0 S0 B H' σ env → E σ (.ref cc) none H'
abbrev PXx (X : Cx) (C : Addr) (E : L2.St → XK) (e : Expr) (env : Env) (cc : Addr) : Prop := PE X e (tDX X.K C E env cc)
theorem tDX_q {K : PySem.W.Frag} {σ : L2.St} {H : Hp} {Q Q' : VK} (h : tDX K C E env cc σ H Q) : tDX K C E env cc σ H Q' := h
theorem px_callX {k : Nat} {f : Addr} {fd : FuncData} {ps : List Str} {R : List D → Res → Prop} {xn : Str} (tk : TkE X E) (F : FnOk X.prog X.w X.K X.mg X.base (L2.CX X.prog X.w) k f fd ps (spN X.K C R)) (hr : Room k X.A) (hm : X.mg xn = some (.ref f)) (hk : PySem.W.keepIn X.K (.ref f) = true) (hb : Binds X.K fd ps [])
    (ha : PAs X C false false (e :: es) env ds) (hR : R ds (.exc cc)) (hg : Gl X xn := by rfl) (hdb : (xn == ("__debug__" : Str)) = false := by decide) (he : starEach (e :: es) X.env = (false, eval e X.env) :: starEach es X.env := by rfl) (hpl : (backTo pos (starEach es X.env)).any (·.1) = false := by rfl) :
    PXx X C E (.Call (.Name xn p) (e :: es) [] pos) env cc :=
  (pe_callS (E := E) F hr hg hm hk hb (fun σ => passAt tk σ) ha hdb he hpl).imp fun σ H Q ⟨H0, S0, B, EE, k⟩ => ⟨H0, S0, B, EE, fun vs H1 e1 r => ⟨ds, .exc cc, hR, r.anti fun a z => z.elim, fun H' sm => k H' ((EE.mono e1).mono sm)⟩⟩
/-- a call of one raising argument: of a def of the text -/
theorem px_argX {k : Nat} {f : Addr} {fd : FuncData} {ps : List Str} {sp : Sp} {CX : CXT} {E' : XK} {xn : Str} (h : PXx X C E e env cc) (F : FnOk X.prog X.w X.K X.mg X.base CX k f fd ps sp) (hr : Room k X.A) (hm : X.mg xn = some (.ref f)) (hk : PySem.W.keepIn X.K (.ref f) = true) (hb : Binds X.K fd ps []) (hx : Passes CX X E')
    (hg : Gl X xn := by rfl) (hdb : (xn == ("__debug__" : Str)) = false := by decide) (he : starEach [e] X.env = (false, eval e X.env) :: starEach [] X.env := by rfl) (hpl : (backTo pos (starEach [] X.env)).any (·.1) = false := by rfl) : PXx X C E (.Call (.Name xn p) [e] [] pos) env cc :=
  (pe_call F hr hg hm hk hb .nil hx (pa_cons h pa_nil he) hdb he hpl).imp fun σ H Q q => q
theorem sx_retX (h : PXx X C E e env cc) : SX X C E (.Return (some e) pos) env (.xc cc env) := (ps_ret h).imp fun D σ H ⟨H0, S0, B, EE, k⟩ => ⟨H0, S0, B, EE, fun H' E' => k σ H' E'⟩
theorem sx_dropX (h : PXx X C E e env cc) (hs : swapsWith e none pos.line X.env = pure false := by rfl) : SX X C E (.Expr e pos) env (.xc cc env) := (ps_expr h hs).imp fun D σ H ⟨H0, S0, B, EE, k⟩ => ⟨H0, S0, B, EE, fun H' E' => k σ H' E'⟩
theorem sx_setX {i : Nat} {xn : Str} (h : PXx X C E e env cc) (hN : X.N.Nodup) (hi : X.N[i]? = some xn) (hx : Loc X.env.scope xn := by first | exact Or.inl rfl | exact Or.inr rfl) (hs : swapsWith e (some (.Name xn p)) pos.line X.env = pure false := by rfl)
    (hf : X.fn xn = true ∨ X.env.scope.names.lookup xn = some .local := by first | exact .inl rfl | exact .inr rfl) : SX X C E (.Assign [.Name xn p] e pos) env (.xc cc env) := (ps_set hN hi hx h hs hf).imp fun D σ H ⟨H0, S0, B, EE, k⟩ => ⟨H0, S0, B, EE, fun H' E' => k σ H' E'⟩
/-- if not f(..): the call raises -/
theorem sx_ifnX {ta fa : List Stmt} (h : PXx X C E e env cc) (he : ∀ whole, isTrue e X.env whole = (do let v ← whole; standAt e.pos; holding [v] (truthy v)) := by intro _; rfl) : SX X C E (.If (.UnaryOp .Not e p) ta fa pos) env (.xc cc env) :=
  (ps_if (pt_not (pt_val h he)) (pss_never (sts := ta)) (pss_never (sts := fa))).imp fun D σ H ⟨H0, S0, B, EE, k⟩ => ⟨H0, S0, B, EE, fun H' E' => k σ H' E'⟩

/-! ### trees -/
structure TreeT (K : PySem.W.Frag) (C : Addr) : Prop where
  cl : Cls K C
  nM : NoAttr K C "many"
  nT : NoAttr K C "ties"
/-- what Tree.__init__ promises; ok: whether it is a tree; cb: the class of the refusal -/
def spInit (K : PySem.W.Frag) (C cb : Addr) (ok : Int → List D → Prop) (ok2 : Int → List D → Prop) : Sp := fun vs H Q E => ∃ (S : Addr → Prop) (t dx : Addr) (m : Int) (v : V) (ds : List D), vs = [.ref t, .int m, v] ∧ (∀ a, S a → H a ≠ none) ∧ ¬ S t ∧ H t = some (.ins C dx []) ∧ H dx = some (.own t) ∧
  Rp K C (fun a => S a ∨ a = t) H v (.lst ds) ∧ ((ok m ds ∧ ∀ H' b xs, (∀ a u, a ≠ t → H a = some u → H' a = some u) → H b = none → H' t = some (.ins C dx [("many", .int m), ("ties", .ref b)]) → H' b = some (.lst xs) → RpL K C (fun a => S a ∨ a = t) H' xs ds → Q .non H') ∨
    (ok2 m ds ∧ ∀ H', Same H H' → E (.ref cb) none H'))
theorem px_tree {k : Nat} {f cb : Addr} {fd : FuncData} {ps : List Str} {ok ok2 : Int → List D → Prop} {xn : Str} {m : Int} (M : Mk X.K C f) (F : FnOk X.prog X.w X.K X.mg X.base (L2.CX X.prog X.w) k f fd ps (spInit X.K C cb ok ok2)) (hr : Room (k + 1) X.A) (hm : X.mg xn = some (.ref C)) (hb : Binds X.K fd ps [])
    (ha : PX X C o s a env (.int m)) (hb2 : PX X C o s b env (.lst ds)) (hok : ok m ds) (hg : Gl X xn := by rfl) (hdb : (xn == ("__debug__" : Str)) = false := by decide) (na : starEach [a, b] X.env = (false, eval a X.env) :: starEach [b] X.env := by rfl) (nb : starEach [b] X.env = (false, eval b X.env) :: starEach [] X.env := by rfl) (hpl : (backTo pos (starEach [b] X.env)).any (·.1) = false := by rfl) :
    PX X C o s (.Call (.Name xn p) [a, b] [] pos) env (.tree m ds) :=
  (pe_make M F hr hg hm hb .nil passL (pas_cons ha (pas1 hb2 nb) na) hdb na hpl).imp fun σ H Q ⟨H0, S0, B, EE, k⟩ => ⟨H0, S0, B, EE, fun vs H1 e1 r t dx ht hdx hne => by
    obtain ⟨v, w, rfl, r1, r2⟩ := r.two
    cases r1
    have E1 := EE.mono e1
    have up : Same H1 (upd (upd H1 dx (.own t)) t (.ins C dx [])) := (same_new hdx).trans (same_new (by rw [upd_ne (Ne.symm hne)]; exact ht))
    refine ⟨AvO o s S0 B σ env, t, dx, m, w, ds, rfl, fun a z => same_some up (AvO.some E1 z), fun z => AvO.some E1 z ht, upd_same, by rw [upd_ne hne]; exact upd_same, r2.weak (fun a u _ q => up a u q) (fun a u q z => z.elim id fun z => by rw [z, ht] at q; cases q), .inl ⟨hok, fun H' b xs kp hbn h1 h2 rr => ⟨rfl, ?_⟩⟩⟩
    have sm : Same H1 H' := fun a u q => kp a u (fun z => by rw [z, ht] at q; cases q) (up a u q)
    refine k _ H' (e1.trans sm) (.tree (fun z => AvO.some E1 z ht) (fun z => AvO.some E1 z (same_none up hbn)) h1 h2 (rr.anti fun a z => .inl z))⟩
theorem px_treeX {k : Nat} {f : Addr} {fd : FuncData} {ps : List Str} {ok ok2 : Int → List D → Prop} {xn : Str} {m : Int} (tk : TkE X (fun _ => E [])) (M : Mk X.K C f) (F : FnOk X.prog X.w X.K X.mg X.base (L2.CX X.prog X.w) k f fd ps (spInit X.K C cc ok ok2)) (hr : Room (k + 1) X.A) (hm : X.mg xn = some (.ref C)) (hb : Binds X.K fd ps [])
    (ha : PX X C false false a env (.int m)) (hb2 : PX X C false false b env (.lst ds)) (hok : ok2 m ds) (hg : Gl X xn := by rfl) (hdb : (xn == ("__debug__" : Str)) = false := by decide) (na : starEach [a, b] X.env = (false, eval a X.env) :: starEach [b] X.env := by rfl) (nb : starEach [b] X.env = (false, eval b X.env) :: starEach [] X.env := by rfl) (hpl : (backTo pos (starEach [b] X.env)).any (·.1) = false := by rfl) :
    PXx X C (fun _ => E []) (.Call (.Name xn p) [a, b] [] pos) env cc :=
  (pe_make (E := E []) M F hr hg hm hb .nil (fun pins σ H s e s' I c => passAt tk σ pins H s e s' I c) (pas_cons ha (pas1 hb2 nb) na) hdb na hpl).imp fun σ H Q ⟨H0, S0, B, EE, k⟩ => ⟨H0, S0, B, EE, fun vs H1 e1 r t dx ht hdx hne => by
    obtain ⟨v, w, rfl, r1, r2⟩ := r.two
    cases r1
    have E1 := EE.mono e1
    have up : Same H1 (upd (upd H1 dx (.own t)) t (.ins C dx [])) := (same_new hdx).trans (same_new (by rw [upd_ne (Ne.symm hne)]; exact ht))
    exact ⟨fun _ => False, t, dx, m, w, ds, rfl, fun a z => z.elim, fun z => z, upd_same, by rw [upd_ne hne]; exact upd_same, r2.weak (fun a u _ q => up a u q) (fun a u q z => z.elim False.elim fun z => by rw [z, ht] at q; cases q), .inr ⟨hok, fun H' sm => k H' ((E1.mono up).mono sm)⟩⟩⟩
/-- the two stores at the end of Tree.__init__ -/
theorem init_tail {sn mn tn : Str} {q1 q2 q3 q4 q5 q6 q7 q8 q9 q10 : Pos} (T : TreeT X.K C) (ml : X.mg "list" = none) (h0 : X.N[0]? = some sn) (h1 : X.N[1]? = some mn) (h2 : X.N[2]? = some tn)
    (v0 : Vis X.env.scope sn) (v1 : Vis X.env.scope mn) (v2 : Vis X.env.scope tn) (d0 : (sn == ("__debug__" : Str)) = false) (c0 : (sn == ("__classdict__" : Str)) = false) (d1 : (mn == ("__debug__" : Str)) = false) (c1 : (mn == ("__classdict__" : Str)) = false) (d2 : (tn == ("__debug__" : Str)) = false) (c2 : (tn == ("__classdict__" : Str)) = false)
    (w1 : swapsWith (.Name mn q1) (some (.Attribute (.Name sn q2) "many" q3)) q4.line X.env = pure false) (w2 : swapsWith (.Call (.Name "list" q5) [.Name tn q6] [] q7) (some (.Attribute (.Name sn q8) "ties" q9)) q10.line X.env = pure false)
    (gl : Gl X "list") (na : starEach [.Name tn q6] X.env = (false, eval (.Name tn q6) X.env) :: starEach [] X.env) (hpl : (backTo q7 (starEach [] X.env)).any (·.1) = false) :
    PSs X [.Assign [.Attribute (.Name sn q2) "many" q3] (.Name mn q1) q4, .Assign [.Attribute (.Name sn q8) "ties" q9] (.Call (.Name "list" q5) [.Name tn q6] [] q7) q10]
      (fun Dn σ H => ∃ (H0 : Hp) (S0 B : Addr → Prop) (t dx : Addr) (m : Int) (ds : List D) (r : Env), EnvR X.K C H0 S0 B H σ (.raw (.ref t) :: .bor (.int m) :: .dat (.lst ds) :: r) ∧ S0 t ∧ H0 t = some (.ins C dx []) ∧
        ∀ σ' H' b xs, (∀ a u, a ≠ t → H0 a = some u → H' a = some u) → H0 b = none → H' t = some (.ins C dx [("many", .int m), ("ties", .ref b)]) → H' b = some (.lst xs) → RpL X.K C S0 H' xs ds → Dn.nx σ' H') := by
  have p0 : ∀ {q : Pos}, PE X (.Name sn q) (tVar 0) := fun {q} => pe_var h0 v0 d0 c0
  have p1 : PE X (.Name mn q1) (tVar 1) := pe_var h1 v1 d1 c1
  have p2 : PE X (.Name tn q6) (tVar 2) := pe_var h2 v2 d2 c2
  refine (pss_cons (ps_fld (p0 (q := q2)) p1 w1) (pss_one (ps_fld (p0 (q := q8)) (pe_callTy call_list_of gl ml PyProof.Rows.boot_list (pa_cons p2 pa_nil na) (by decide) (by decide) na hpl) w2))).imp fun Dn σ H ⟨H0, S0, B, t, dx, m, ds, r, EE, hS, ht, k⟩ => ?_
  have s0 : σ[0]? = some (some (V.ref t)) := EE.slot 0 _ rfl
  obtain ⟨v, s1, rv⟩ := EE.slot 1 _ rfl
  cases rv
  obtain ⟨w, s2, rw'⟩ := EE.slot 2 _ rfl
  cases rw' with
  | @lst l xs _ nl hl rl =>
    have htH := EE.base _ _ ht
    refine ⟨_, s1, _, s0, t, C, dx, [], rfl, htH, T.cl, T.nM, by decide, ?_⟩
    have lt : l ≠ t := fun z => nl (by rw [z]; exact .inr hS)
    refine ⟨_, s2, l, xs, rfl, .inl (SqL.of (by rw [upd_ne lt]; exact hl)), fun b hb => ?_⟩
    have bt : b ≠ t := fun z => by rw [z, upd_same] at hb; cases hb
    have hbH : H b = none := by rw [upd_ne bt] at hb; exact hb
    refine ⟨_, s0, t, C, dx, _, rfl, by rw [upd_ne (Ne.symm bt)]; exact upd_same, T.cl, T.nT, Nat.lt_of_le_of_lt (length_putF _ _ _) (by decide), ?_⟩
    have up : ∀ {o' : HO} a u, a ≠ t → H a = some u → upd (upd (upd H t (.ins C dx (putF "many" (.int m) []))) b (.lst xs)) t o' a = some u := fun {o'} a u na q => by
      rw [upd_ne na, upd_ne (fun z => by rw [z, hbH] at q; cases q), upd_ne na]; exact q
    refine k σ _ b xs (fun a u na q => up a u na (EE.base a u q)) (same_none EE.base hbH) (by rw [upd_same]; rfl) (by rw [upd_ne bt]; exact upd_same) ?_
    exact rl.weak (fun a u n q => up a u (fun z => n (by rw [z]; exact .inr hS)) q) (fun a u q z => .inr z)
/-- a statement ahead of what is told by hand -/
theorem pss_then {st : Stmt} {rest : List Stmt} {env' : Env} {t : TS} (h1 : SX X C E st env (.nx env')) (h2 : PSs X rest t) : PSs X (st :: rest) (fun D σ H => ∃ H0 S0 B, EnvR X.K C H0 S0 B H σ env ∧ ∀ σ' H', EnvR X.K C H0 S0 B H' σ' env' → t D σ' H') :=
  (pss_cons h1 h2).imp fun D σ H ⟨H0, S0, B, EE, k⟩ => ⟨H0, S0, B, EE, fun σ' H' E' => k σ' H' E'⟩
end
end Fw

/-! Fw9: what a def of the text is known by; the law's end; indices of lists in data. -/
namespace Fw
open PySem L2
/-- a def of the text, where it stands -/
def FunT (K : PySem.W.Frag) (mg : Str → Option Value) (xn : Str) (st : Stmt) (ps : List Str) : Prop := ∃ (f : Addr) (fd : FuncData), Fun K xn xn st f fd ∧ mg xn = some (.ref f) ∧ Binds K fd ps []
/-- .. and what it promises -/
def Kn (P : Program) (w : World) (K : PySem.W.Frag) (mg : Str → Option Value) (base : Heap) (CX : CXT) (lv : Nat) (xn : Str) (ps : List Str) (sp : Sp) : Prop :=
  ∃ (f : Addr) (fd : FuncData), FnOk P w K mg base CX lv f fd ps sp ∧ mg xn = some (.ref f) ∧ PySem.W.keepIn K (.ref f) = true ∧ Binds K fd ps []
/-- the built-ins keep their names -/
structure Bt (mg : Str → Option Value) : Prop where
  abs : mg "abs" = none
  min : mg "min" = none
  max : mg "max" = none
  len : mg "len" = none
  range : mg "range" = none
  list : mg "list" = none
  sorted : mg "sorted" = none
  set : mg "set" = none
  all : mg "all" = none
  enumerate : mg "enumerate" = none
  zip : mg "zip" = none
  tuple : mg "tuple" = none
  int : mg "int" = none
  bool : mg "bool" = none
  isinstance : mg "isinstance" = none
section
variable {P : Program} {w : World} {K : PySem.W.Frag} {mg : Str → Option Value} {base : Heap} {C : Addr} {xn : Str} {st : Stmt} {N ps : List Str} {k : Nat} {R : List D → Res → Prop}
theorem knN (T : FunT K mg xn st ps) (S : FnScope N ps (defScope st)) (hl : ∀ ds r, R ds r → ds.length = ps.length) (hx : ∀ ds c, ¬ R ds (.exc c))
    (hb : ∀ (f : Addr) (cdv : Value) (A : Around) (outer : List PySem.Env) (s : Shared) (H : Hp) (ds : List D) (r : Res), Room k (cx0 P w K mg base N xn (defScope st) f cdv A outer s H).A → R ds r →
      ∃ o, resOut r o ∧ SXs (cx0 P w K mg base N xn (defScope st) f cdv A outer s H) C (fun _ => E0) (defBody st) (startE N (ds.map .bor)) o) : Kn P w K mg base CX0 (k + 1) xn ps (spN K C R) := by
  obtain ⟨f, fd, F, hm, b⟩ := T
  exact ⟨f, fd, fnN F S hl (hb f) hx, hm, F.kp, b⟩
theorem knG (T : FunT K mg xn st ps) (S : FnScope N ps (defScope st)) (hl : ∀ ds r, R ds r → ds.length = ps.length) (hx : ∀ ds c, ¬ R ds (.exc c))
    (hb : ∀ (f : Addr) (cdv : Value) (A : Around) (outer : List PySem.Env) (s : Shared) (H : Hp) (ds : List D) (r : Res), Room k (cx0 P w K mg base N xn (defScope st) f cdv A outer s H).A → R ds r →
      ∃ o, resOut r o ∧ SXs (cx0 P w K mg base N xn (defScope st) f cdv A outer s H) C (fun _ => E0) (defBody st) (startE N (ds.map .dat)) o) : Kn P w K mg base CX0 (k + 1) xn ps (spG K C R) := by
  obtain ⟨f, fd, F, hm, b⟩ := T
  exact ⟨f, fd, fnG F S hl (hb f) hx, hm, F.kp, b⟩
theorem knX (T : FunT K mg xn st ps) (S : FnScope N ps (defScope st)) (hl : ∀ ds r, R ds r → ds.length = ps.length)
    (hb : ∀ (f : Addr) (cdv : Value) (A : Around) (outer : List PySem.Env) (s : Shared) (H : Hp) (E : XK) (ds : List D) (r : Res), Room k (cxX P w K mg base N xn (defScope st) f cdv A outer s H E).A → R ds r →
      ∃ o, resOut r o ∧ SXs (cxX P w K mg base N xn (defScope st) f cdv A outer s H E) C (fun _ => E) (defBody st) (startE N (ds.map .bor)) o) : Kn P w K mg base (L2.CX P w) (k + 1) xn ps (spN K C R) := by
  obtain ⟨f, fd, F, hm, b⟩ := T
  exact ⟨f, fd, fnX F S hl (hb f), hm, F.kp, b⟩
theorem Kn.up {CX : CXT} {sp : Sp} {j : Nat} (h : Kn P w K mg base CX j xn ps sp) (hj : j ≤ k := by decide) : Kn P w K mg base CX k xn ps sp := by
  obtain ⟨f, fd, F, r⟩ := h
  exact ⟨f, fd, F.mono hj, r⟩
end
section
variable {X : Cx} {C : Addr} {o s : Bool} {env : Env} {d : D} {ds : List D} {e : Expr} {es : List Expr} {pos p : Pos} {xn : Str} {k j : Nat} {ps : List Str} {R : List D → Res → Prop} {E : L2.St → XK} {cc : Addr}
/-- a call of a def that lets nothing out -/
theorem px_kn (h : Kn X.prog X.w X.K X.mg X.base CX0 k xn ps (spN X.K C R)) (hr : Room j X.A) (ha : PAs X C false false (e :: es) env ds) (hR : R ds (.ret d)) (hj : k ≤ j := by decide)
    (hg : Gl X xn := by rfl) (hdb : (xn == ("__debug__" : Str)) = false := by decide) (he : starEach (e :: es) X.env = (false, eval e X.env) :: starEach es X.env := by rfl) (hpl : (backTo pos (starEach es X.env)).any (·.1) = false := by rfl) : PX X C o s (.Call (.Name xn p) (e :: es) [] pos) env d := by
  obtain ⟨f, fd, F, hm, hk, hb⟩ := h
  exact px_call F (hr.mono hj) hm hk hb pass0 ha hR hg hdb he hpl
/-- .. whose result may be part of its arguments -/
theorem px_knG (h : Kn X.prog X.w X.K X.mg X.base CX0 k xn ps (spG X.K C R)) (hr : Room j X.A) (ha : PAs X C o s (e :: es) env ds) (hR : R ds (.ret d)) (hj : k ≤ j := by decide)
    (hg : Gl X xn := by rfl) (hdb : (xn == ("__debug__" : Str)) = false := by decide) (he : starEach (e :: es) X.env = (false, eval e X.env) :: starEach es X.env := by rfl) (hpl : (backTo pos (starEach es X.env)).any (·.1) = false := by rfl) : PX X C o s (.Call (.Name xn p) (e :: es) [] pos) env d := by
  obtain ⟨f, fd, F, hm, hk, hb⟩ := h
  exact px_callG F (hr.mono hj) hm hk hb pass0 ha hR hg hdb he hpl
/-- a call of a def that may raise, and doesn't -/
theorem px_knx (h : Kn X.prog X.w X.K X.mg X.base (L2.CX X.prog X.w) k xn ps (spN X.K C R)) (hr : Room j X.A) (ha : PAs X C false false (e :: es) env ds) (hR : R ds (.ret d)) (hj : k ≤ j := by decide)
    (hg : Gl X xn := by rfl) (hdb : (xn == ("__debug__" : Str)) = false := by decide) (he : starEach (e :: es) X.env = (false, eval e X.env) :: starEach es X.env := by rfl) (hpl : (backTo pos (starEach es X.env)).any (·.1) = false := by rfl) : PX X C o s (.Call (.Name xn p) (e :: es) [] pos) env d := by
  obtain ⟨f, fd, F, hm, hk, hb⟩ := h
  exact px_call F (hr.mono hj) hm hk hb passL ha hR hg hdb he hpl
/-- .. and does -/
theorem px_knX (tk : TkE X E) (h : Kn X.prog X.w X.K X.mg X.base (L2.CX X.prog X.w) k xn ps (spN X.K C R)) (hr : Room j X.A) (ha : PAs X C false false (e :: es) env ds) (hR : R ds (.exc cc)) (hj : k ≤ j := by decide)
    (hg : Gl X xn := by rfl) (hdb : (xn == ("__debug__" : Str)) = false := by decide) (he : starEach (e :: es) X.env = (false, eval e X.env) :: starEach es X.env := by rfl) (hpl : (backTo pos (starEach es X.env)).any (·.1) = false := by rfl) : PXx X C E (.Call (.Name xn p) (e :: es) [] pos) env cc := by
  obtain ⟨f, fd, F, hm, hk, hb⟩ := h
  exact px_callX tk F (hr.mono hj) hm hk hb ha hR hg hdb he hpl
/-- f(g(..)), g raises -/
theorem px_argKn {CX : CXT} {E' : XK} {sp : Sp} (q : PXx X C E e env cc) (h : Kn X.prog X.w X.K X.mg X.base CX k xn ps sp) (hr : Room j X.A) (hx : Passes CX X E') (hj : k ≤ j := by decide)
    (hg : Gl X xn := by rfl) (hdb : (xn == ("__debug__" : Str)) = false := by decide) (he : starEach [e] X.env = (false, eval e X.env) :: starEach [] X.env := by rfl) (hpl : (backTo pos (starEach [] X.env)).any (·.1) = false := by rfl) : PXx X C E (.Call (.Name xn p) [e] [] pos) env cc := by
  obtain ⟨f, fd, F, hm, hk, hb⟩ := h
  exact px_argX q F (hr.mono hj) hm hk hb hx hg hdb he hpl
end

/-! ### the law's end -/
def RLaw : List D → Res → Prop := fun ds r => ∃ ns : List Int, ds = [.scr ns] ∧ ns.length ≤ 63 ∧ r = .ret (.bl true)
theorem law_sp {K : PySem.W.Frag} {C : Addr} {H : Hp} {a : Addr} {ns : List Int} {E : XK} (hl : ns.length ≤ 63) (ho : Only H) (h : SqL K H a (ns.map V.int)) : spN K C RLaw [.ref a] H (fun v _ => v = .bl true) E := by
  refine ⟨[.scr ns], .ret (.bl true), ⟨ns, rfl, hl, rfl⟩, .cons ?_ .nil, fun v H' _ r => r.isBl⟩
  rcases h with (h | ⟨u, h⟩) | h
  · rcases ho a with z | ⟨u, xs, z⟩ <;> (rw [h] at z; cases z)
  · exact .scr (fun z => z) h
  · exact .scrK h

/-! ### indices -/
theorem atI_d {α : Type} (ds : List α) (x : α) {i : Int} (h0 : 0 ≤ i) (h1 : i < ds.length) : L2.atI ds i = some (ds.getD i.toNat x) := by
  have e : i = ((i.toNat : Nat) : Int) := by omega
  have hlt : i.toNat < ds.length := by omega
  have := atI_nat (xs := ds) (j := i.toNat) (v := ds.getD i.toNat x) (by rw [List.getD_eq_getElem?_getD, List.getElem?_eq_getElem hlt]; rfl)
  rw [← e] at this
  exact this
theorem atI_m {α : Type} (f : α → D) (ds : List α) (x : α) {i : Int} (h0 : 0 ≤ i) (h1 : i < ds.length) : L2.atI (ds.map f) i = some (f (ds.getD i.toNat x)) := by
  rw [atI_d (ds.map f) (f x) h0 (by rw [List.length_map]; exact h1)]
  congr 1
  rw [List.getD_eq_getElem?_getD, List.getD_eq_getElem?_getD, List.getElem?_map]
  cases ds[i.toNat]? <;> rfl
theorem atI_i (ns : List Int) {i : Int} (h0 : 0 ≤ i) (h1 : i < ns.length) : L2.atI (dI ns) i = some (.int (ns.getD i.toNat 0)) := atI_m D.int ns 0 h0 h1
theorem atI_p (ps : List (Int × Int)) {i : Int} (h0 : 0 ≤ i) (h1 : i < ps.length) : L2.atI (dP ps) i = some (pr (ps.getD i.toNat (0, 0))) := atI_m pr ps (0, 0) h0 h1
theorem px_ixI {X : Cx} {C : Addr} {o s : Bool} {env : Env} {a b : Expr} {pos : Pos} {ns : List Int} {i : Int} (ha : PX X C false false a env (.lst (dI ns))) (hb : PX X C false false b env (.int i)) (h0 : 0 ≤ i) (h1 : i < ns.length) (hs : PlainIx b := by exact fun _ _ => rfl) : PX X C o s (.Subscript a b pos) env (.int (ns.getD i.toNat 0)) :=
  (pe_ix ix_list ha hb hs).imp (tOp_sc rfl fun S x y H Q r1 r2 q => by
    cases r2
    cases r1 with
    | lst n h r =>
      obtain ⟨v, q1, q2⟩ := r.atI (atI_i ns h0 h1)
      cases q2
      exact ⟨_, _, i, _, rfl, rfl, SqL.of h, q1, q⟩)
theorem ixN_d {n : Nat} {i : Int} (h0 : 0 ≤ i) (h1 : i < n) : ixN n i = some i.toNat := by
  unfold ixN
  rw [if_pos h0, if_pos h1]
end Fw

/-! Fw10: sets' length, calls that give new lists, equality of data, what may be compared. -/
namespace Fw
open PySem L2 Mt
/-! ### len(set(ints)) -/
def ddp (ns : List Int) : List Int := ns.foldl PyProof.Rows.step_dedup []
theorem firstMet_all (ns : List Int) : PyProof.Rows.firstMet (fun i => ns.getD i 0) ns.length = ddp ns := by
  unfold PyProof.Rows.firstMet ddp
  congr 1
  refine List.ext_getElem? fun i => ?_
  rw [List.getElem?_map]
  by_cases h : i < ns.length
  · rw [List.getElem?_range h, List.getElem?_eq_getElem h]
    show some (ns.getD i 0) = _
    rw [List.getD_eq_getElem?_getD, List.getElem?_eq_getElem h]; rfl
  · rw [List.getElem?_eq_none (by rw [List.length_range]; omega), List.getElem?_eq_none (by omega)]; rfl
theorem ddp_fold : ∀ (ns acc : List Int), (ns.foldl PyProof.Rows.step_dedup acc).length ≤ acc.length + ns.length ∧ ((ns.foldl PyProof.Rows.step_dedup acc).length = acc.length + ns.length ↔ ns.Nodup ∧ ∀ x ∈ ns, x ∉ acc)
  | [], acc => ⟨Nat.le_refl _, ⟨fun _ => ⟨List.nodup_nil, fun x h => by simp at h⟩, fun _ => rfl⟩⟩
  | n :: ns, acc => by
    obtain ⟨h1, h2⟩ := ddp_fold ns (PyProof.Rows.step_dedup acc n)
    rw [List.foldl_cons]
    by_cases c : n ∈ acc
    · have e : PyProof.Rows.step_dedup acc n = acc := by unfold PyProof.Rows.step_dedup; rw [if_pos (by exact List.any_eq_true.mpr ⟨n, c, by simp⟩)]
      rw [e] at h1 h2 ⊢
      refine ⟨by rw [List.length_cons]; omega, ⟨fun h => by rw [List.length_cons] at h; omega, fun h => absurd c (h.2 n List.mem_cons_self)⟩⟩
    · have e : PyProof.Rows.step_dedup acc n = acc ++ [n] := by
        unfold PyProof.Rows.step_dedup
        rw [if_neg (by rw [List.any_eq_true]; rintro ⟨y, hy, he⟩; exact c (by rw [← eq_of_beq he]; exact hy))]
      rw [e] at h1 h2 ⊢
      rw [List.length_append, List.length_singleton] at h1 h2
      refine ⟨by rw [List.length_cons]; omega, ⟨fun h => ?_, fun h => ?_⟩⟩
      · obtain ⟨k1, k2⟩ := h2.mp (by rw [List.length_cons] at h; omega)
        refine ⟨List.nodup_cons.mpr ⟨fun z => k2 n z (List.mem_append_right _ List.mem_cons_self), k1⟩, fun x hx => ?_⟩
        rcases List.mem_cons.mp hx with rfl | hx
        · exact c
        · exact fun z => k2 x hx (List.mem_append_left _ z)
      · obtain ⟨k1, k2⟩ := List.nodup_cons.mp h.1
        have := h2.mpr ⟨k2, fun x hx z => by
          rcases List.mem_append.mp z with z | z
          · exact h.2 x (List.mem_cons_of_mem _ hx) z
          · rw [List.mem_singleton] at z; subst z; exact k1 hx⟩
        rw [List.length_cons]; omega
theorem ddp_len (ns : List Int) : (ddp ns).length ≤ ns.length := by have := (ddp_fold ns []).1; rw [List.length_nil] at this; unfold ddp; omega
theorem ddp_unl (ns : List Int) : decide (((ddp ns).length : Int) = (ns.length : Int)) = unl ns := by
  unfold unl
  refine decide_eq_decide.mpr ?_
  have := (ddp_fold ns []).2
  rw [List.length_nil, Nat.zero_add] at this
  unfold ddp
  constructor
  · intro h; exact (this.mp (by omega)).1
  · intro h; have := this.mpr ⟨h, fun x _ z => by simp at z⟩; omega
def tLenSetD (K : PySem.W.Frag) (ta : TE) : TE := fun σ H Q => ta σ H fun x H1 => ∃ (l : Addr) (ns : List Int), x = .ref l ∧ SqL K H1 l (ns.map V.int) ∧ ns.length ≤ 4000 ∧ Q (.int ((ddp ns).length : Nat)) H1
theorem pe_lenSetD {X : Cx} {a : Expr} {ta : TE} {p p2 q pos : Pos} (hg : Gl X "len") (hm : X.mg "len" = none) (hg2 : Gl X "set") (hm2 : X.mg "set" = none) (ha : PE X a ta) (hc : X.calm = true)
    (na : starEach [a] X.env = (false, eval a X.env) :: starEach [] X.env) : PE X (.Call (.Name "len" p) [.Call (.Name "set" p2) [a] [] q] [] pos) (tLenSetD X.K ta) := by
  refine ⟨fun pins s σ H Q I h => ?_⟩
  refine PyProof.Rows.Call_ (ld_blt I hg hm PySem.boot_len ?_)
  refine PyProof.Rows.callWith_builtin1 (PyProof.Rows.args_cons ?_ rfl) rfl rfl
  refine PyProof.Rows.Call_ (ld_blt I hg2 hm2 PyProof.Rows.boot_set ?_)
  refine PyProof.Rows.callWith_type1 (PyProof.Rows.args_cons (thn (ha.run pins s σ H _ I h) fun v s1 ⟨x, H1, I1, r1, q1⟩ => PyProof.Rows.args_nil ?_) na) na rfl
  obtain ⟨l, ns, rfl, hq, hl, q1⟩ := q1
  cases r1
  obtain ⟨its, r, pl, hz⟩ := I1.list hq
  have hlen : its.toArray.size = ns.length := by rw [List.size_toArray, ← r.length, List.length_map]
  refine PySem.call_set_list (I1.ok.hd hc) pl.isList (by simpa using RZ.intsAre_vals r) (by rw [hlen]; unfold scanBound; omega) fun h' tk hS hk => ?_
  refine PyProof.Rows.args_nil ?_
  rw [hlen, firstMet_all] at hS
  obtain ⟨o, es, ep, t, ho, hex, hd, _, _, _, hf, hn⟩ := hS
  have I2 : Inv X pins σ H1 { s1 with heap := h', toks := tk } := I1.kept fun b o e => hk b o (Heap.lt_size e) e
  have := ddp_len ns
  exact call_len_set ho hex hd hf (by rw [hn] <;> omega) ⟨.int (ddp ns).length, H1, I2.tok _, ⟨_, by rw [hn]⟩, q1⟩
section
variable {X : Cx} {C : Addr} {o s : Bool} {env : Env} {d : D} {ds : List D} {a e : Expr} {es : List Expr} {pos p p2 q : Pos} {xn : Str} {k j : Nat} {ps : List Str} {R : List D → Res → Prop}
theorem px_lenSet {ns : List Int} (hc : X.calm = true) (hm : X.mg "len" = none) (hm2 : X.mg "set" = none) (ha : PX X C false false a env (.lst (dI ns))) (hl : ns.length ≤ 4000) (hg : Gl X "len" := by rfl) (hg2 : Gl X "set" := by rfl) (na : starEach [a] X.env = (false, eval a X.env) :: starEach [] X.env := by rfl) :
    PX X C o s (.Call (.Name "len" p) [.Call (.Name "set" p2) [a] [] q] [] pos) env (.int ((ddp ns).length : Nat)) :=
  (pe_lenSetD hg hm hg2 hm2 ha hc na).imp fun σ H Q ⟨H0, S0, B, E, k⟩ => ⟨H0, S0, B, E, fun v H1 e1 r => by
    cases r with
    | lst n h r =>
      have e := r.ints
      subst e
      exact ⟨_, ns, rfl, SqL.of h, hl, k _ H1 e1 (.ofSc rfl)⟩⟩

/-! ### calls that give new lists -/
theorem pl_call {CX : CXT} {E : XK} {f : Addr} {fd : FuncData} {ns : List Int} (F : FnOk X.prog X.w X.K X.mg X.base CX k f fd ps (spN X.K C R)) (hr : Room k X.A) (hm : X.mg xn = some (.ref f)) (hk : PySem.W.keepIn X.K (.ref f) = true) (hb : Binds X.K fd ps []) (hx : Passes CX X E) (ha : PAs X C false false (e :: es) env ds) (hR : R ds (.ret (.lst (dI ns))))
    (hg : Gl X xn := by rfl) (hdb : (xn == ("__debug__" : Str)) = false := by decide) (he : starEach (e :: es) X.env = (false, eval e X.env) :: starEach es X.env := by rfl) (hpl : (backTo pos (starEach es X.env)).any (·.1) = false := by rfl) : PL X C (.Call (.Name xn p) (e :: es) [] pos) env (dI ns) :=
  (pe_call F hr hg hm hk hb .nil hx ha hdb he hpl).imp fun σ H Q ⟨H0, S0, B, EE, k⟩ => ⟨H0, S0, B, EE, fun vs H1 e1 r => ⟨ds, .ret _, hR, by rw [List.append_nil]; exact r.anti fun a z => z.elim, fun v H' sm rv => by
    cases rv with
    | @lst a xs _ n h rr =>
      have e2 := rr.ints
      subst e2
      exact k a _ H' (e1.trans sm) (by
        cases z : H a with
        | none => rfl
        | some u => exact absurd (fun w => by have := e1 a u z; rw [w] at this; cases this) n) h (RpL.ofInts ns)⟩⟩
theorem pl_kn {ns : List Int} (h : Kn X.prog X.w X.K X.mg X.base CX0 k xn ps (spN X.K C R)) (hr : Room j X.A) (ha : PAs X C false false (e :: es) env ds) (hR : R ds (.ret (.lst (dI ns)))) (hj : k ≤ j := by decide)
    (hg : Gl X xn := by rfl) (hdb : (xn == ("__debug__" : Str)) = false := by decide) (he : starEach (e :: es) X.env = (false, eval e X.env) :: starEach es X.env := by rfl) (hpl : (backTo pos (starEach es X.env)).any (·.1) = false := by rfl) : PL X C (.Call (.Name xn p) (e :: es) [] pos) env (dI ns) := by
  obtain ⟨f, fd, F, hm, hk, hb⟩ := h
  exact pl_call F (hr.mono hj) hm hk hb pass0 ha hR hg hdb he hpl
theorem pl_knx {ns : List Int} (h : Kn X.prog X.w X.K X.mg X.base (L2.CX X.prog X.w) k xn ps (spN X.K C R)) (hr : Room j X.A) (ha : PAs X C false false (e :: es) env ds) (hR : R ds (.ret (.lst (dI ns)))) (hj : k ≤ j := by decide)
    (hg : Gl X xn := by rfl) (hdb : (xn == ("__debug__" : Str)) = false := by decide) (he : starEach (e :: es) X.env = (false, eval e X.env) :: starEach es X.env := by rfl) (hpl : (backTo pos (starEach es X.env)).any (·.1) = false := by rfl) : PL X C (.Call (.Name xn p) (e :: es) [] pos) env (dI ns) := by
  obtain ⟨f, fd, F, hm, hk, hb⟩ := h
  exact pl_call F (hr.mono hj) hm hk hb passL ha hR hg hdb he hpl
end

/-! ### equality of data -/
def dL (rows : List (List Int)) : List D := rows.map fun r => .lst (dI r)
def dLP (rows : List (List (Int × Int))) : List D := rows.map fun r => .lst (dP r)
theorem eqv_lst {α : Type} [DecidableEq α] (f : α → D) (h : ∀ x y, eqD (f x) (f y) = decide (x = y)) : ∀ xs ys : List α, PyData.eqvAll (D.pyL (xs.map f)) (D.pyL (ys.map f)) = decide (xs = ys)
  | [], [] => by simp [D.pyL, PyData.eqvAll]
  | [], y :: ys => by simp [D.pyL, PyData.eqvAll]
  | x :: xs, [] => by simp [D.pyL, PyData.eqvAll]
  | x :: xs, y :: ys => by
    have ih := eqv_lst f h xs ys
    have hx := h x y
    unfold eqD at hx
    simp only [List.map_cons, D.pyL, PyData.eqvAll]
    rw [ih, hx]
    by_cases c : x = y <;> simp [c]
theorem eqD_map {α : Type} [DecidableEq α] (f : α → D) (h : ∀ x y, eqD (f x) (f y) = decide (x = y)) (xs ys : List α) : eqD (.lst (xs.map f)) (.lst (ys.map f)) = decide (xs = ys) := by
  unfold eqD
  simp only [D.py, PyData.eqv]
  exact eqv_lst f h xs ys
theorem eqD_int (x y : Int) : eqD (.int x) (.int y) = decide (x = y) := by
  unfold eqD
  simp only [D.py, PyData.eqv]
  rw [Bool.beq_eq_decide_eq]
theorem eqD_pr (x y : Int × Int) : eqD (pr x) (pr y) = decide (x = y) := by
  unfold eqD pr
  simp only [D.py, D.pyL, PyData.eqv, PyData.eqvAll]
  rw [Bool.and_true, Bool.beq_eq_decide_eq, Bool.beq_eq_decide_eq, ← Bool.decide_and]
  exact decide_eq_decide.mpr ⟨fun h => Prod.ext h.1 h.2, fun h => by rw [h]; exact ⟨rfl, rfl⟩⟩
theorem eqD_ints (xs ys : List Int) : eqD (.lst (dI xs)) (.lst (dI ys)) = decide (xs = ys) := eqD_map D.int eqD_int xs ys
theorem eqD_prs (xs ys : List (Int × Int)) : eqD (.lst (dP xs)) (.lst (dP ys)) = decide (xs = ys) := eqD_map pr eqD_pr xs ys
theorem eqD_rows (xs ys : List (List Int)) : eqD (.lst (dL xs)) (.lst (dL ys)) = decide (xs = ys) := eqD_map _ eqD_ints xs ys
theorem eqD_prows (xs ys : List (List (Int × Int))) : eqD (.lst (dLP xs)) (.lst (dLP ys)) = decide (xs = ys) := eqD_map _ eqD_prs xs ys
/-- plain, not deeper than n -/
def okD (n : Nat) (d : D) : Prop := d.plain = true ∧ d.py.canLay0 = true ∧ d.py.depth ≤ n
theorem okD_all {n : Nat} : ∀ {ds : List D}, (∀ d ∈ ds, okD n d) → D.plainL ds = true ∧ PyData.canLayAll0 (D.pyL ds) = true ∧ PyData.depthAll (D.pyL ds) ≤ n
  | [], _ => ⟨rfl, rfl, Nat.zero_le _⟩
  | d :: ds, h => by
    obtain ⟨a1, a2, a3⟩ := h d List.mem_cons_self
    obtain ⟨b1, b2, b3⟩ := okD_all fun e he => h e (List.mem_cons_of_mem _ he)
    refine ⟨?_, ?_, ?_⟩
    · show (d.plain && D.plainL ds) = true
      rw [a1, b1]; rfl
    · show (d.py.canLay0 && PyData.canLayAll0 (D.pyL ds)) = true
      rw [a2, b2]; rfl
    · show max d.py.depth (PyData.depthAll (D.pyL ds)) ≤ n
      omega
theorem okD_lst {n : Nat} {ds : List D} (h : ∀ d ∈ ds, okD n d) : okD (n + 1) (.lst ds) := by
  obtain ⟨a, b, c⟩ := okD_all h
  exact ⟨a, b, Nat.succ_le_succ c⟩
theorem okD_tup {n : Nat} {ds : List D} (h : ∀ d ∈ ds, okD n d) : okD (n + 1) (.tup ds) := by
  obtain ⟨a, b, c⟩ := okD_all h
  exact ⟨a, b, Nat.succ_le_succ c⟩
theorem okD_int (i : Int) : okD 0 (.int i) := ⟨rfl, rfl, Nat.zero_le _⟩
theorem okD_bl (i : Bool) : okD 0 (.bl i) := ⟨rfl, rfl, Nat.zero_le _⟩
theorem okD_non : okD 0 .non := ⟨rfl, rfl, Nat.zero_le _⟩
theorem okD_up {n m : Nat} {d : D} (h : okD n d) (hm : n ≤ m := by decide) : okD m d := ⟨h.1, h.2.1, Nat.le_trans h.2.2 hm⟩
theorem okD_map {α : Type} {n : Nat} {f : α → D} {xs : List α} (h : ∀ x, okD n (f x)) : okD (n + 1) (.lst (xs.map f)) := okD_lst fun d hd => by
  obtain ⟨x, _, rfl⟩ := List.mem_map.mp hd
  exact h x
theorem okD_ints (xs : List Int) : okD 1 (.lst (dI xs)) := okD_map okD_int
theorem okD_pr (x : Int × Int) : okD 1 (pr x) := okD_tup fun d hd => by
  rcases List.mem_cons.mp hd with rfl | hd
  · exact okD_int _
  · rw [List.mem_singleton] at hd; subst hd; exact okD_int _
theorem okD_prs (xs : List (Int × Int)) : okD 2 (.lst (dP xs)) := okD_map okD_pr
theorem okD_rows (xs : List (List Int)) : okD 2 (.lst (dL xs)) := okD_map okD_ints
theorem okD_prows (xs : List (List (Int × Int))) : okD 3 (.lst (dLP xs)) := okD_map okD_prs
theorem okD.cmp {n : Nat} {d : D} (h : okD n d) (hn : n ≤ 64 := by decide) : d.cmp := ⟨h.1, Bool.and_eq_true_iff.mpr ⟨h.2.1, decide_eq_true (Nat.le_trans h.2.2 hn)⟩⟩
end Fw

/-! Fw11: numbers of the module, the start of a method, small things. -/
namespace Fw
open PySem L2 Mt
section
variable {X : Cx} {C : Addr} {o s : Bool} {env : Env} {d : D} {ds : List D} {a e : Expr} {es : List Expr} {pos p p2 q : Pos} {xn : Str}
theorem px_gI {i : Int} {t : Tok} (hm : X.mg xn = some (.int i t)) (hg : Gl X xn := by rfl) (hd : (xn == ("__debug__" : Str)) = false := by decide) : PX X C o s (.Name xn pos) env (.int i) :=
  (pe_glob (v := .int i) hg hm ⟨t, rfl⟩ hd).imp fun σ H Q ⟨H0, S0, B, E, k⟩ => k _ H (Same.refl H) (.int i)
end
theorem ow0 {P : Program} {w : World} {K : PySem.W.Frag} {mg : Str → Option Value} {base : Heap} {N : List Str} {qual : Str} {scope : Scope} {f : Addr} {cd : Value} {A : Around} {outer : List PySem.Env} {s : Shared} {H : Hp} : PassesOwn (model (cx0 P w K mg base N qual scope f cd A outer s H).prog (cx0 P w K mg base N qual scope f cd A outer s H).w) (cx0 P w K mg base N qual scope f cd A outer s H).A (cx0 P w K mg base N qual scope f cd A outer s H).env (cx0 P w K mg base N qual scope f cd A outer s H).xe := PassesOwn.never
theorem Room.u65 {k : Nat} {A : Around} (r : Room k A) : A.units + 65 < cLine := by have := r.un; omega
/-- the start of __init__(self, an int, a list) -/
theorem startI {K : PySem.W.Frag} {C : Addr} {H : Hp} {S : Addr → Prop} {N : List Str} {t : Addr} {m : Int} {v : V} {ds : List D} {k : Nat} (hk : N.length = 3 + k) (hS : ∀ a, S a → H a ≠ none) (ht : H t ≠ none) (hv : Rp K C (fun a => S a ∨ a = t) H v (.lst ds)) :
    EnvR K C H (fun a => S a ∨ a = t) (fun _ => False) H (L2.start N [.ref t, .int m, v]) (.raw (.ref t) :: .bor (.int m) :: .dat (.lst ds) :: List.replicate k .emp) := by
  have no : ∀ {i : Nat} {u : Sl}, (Sl.raw (.ref t) :: .bor (.int m) :: .dat (.lst ds) :: List.replicate k Sl.emp)[i]? = some u → u.isOwn = false := fun {i u} q => by
    match i, q with
    | 0, q => cases q; rfl
    | 1, q => cases q; rfl
    | 2, q => cases q; rfl
    | i + 3, q =>
      have q : (List.replicate k Sl.emp)[i]? = some u := q
      have := List.mem_of_getElem? q
      rw [List.eq_of_mem_replicate this]; rfl
  refine ⟨Same.refl H, fun a z => z.elim (hS a) fun z => z ▸ ht, fun _ h => h.elim, ?_, fun i u q => ?_, fun i j a u u' q h1 => by rw [no q] at h1; cases h1⟩
  · unfold L2.start
    simp only [List.length_cons, List.length_append, List.length_map, List.length_replicate, List.length_nil]
    omega
  · match i, q with
    | 0, q => cases q; exact rfl
    | 1, q => cases q; exact ⟨.int m, rfl, .int m⟩
    | 2, q =>
      cases q
      refine ⟨v, rfl, hv.anti fun a z => ?_⟩
      rcases z with (⟨j, u, q1, q2, _⟩ | z) | z
      · rw [no q1] at q2; cases q2
      · exact z.elim
      · exact z
    | i + 3, q =>
      have q : (List.replicate k Sl.emp)[i]? = some u := q
      have := List.mem_of_getElem? q
      rw [List.eq_of_mem_replicate this]; trivial
theorem int_at {n i : Nat} {d : D} {a b : Int} (h : (dI (rgI a b))[i]? = some d) : i < (b - a).toNat ∧ d = .int (a + (i : Int)) := by
  have hi := (List.getElem?_eq_some_iff.mp h).1
  rw [List.length_map, rgI_len] at hi
  rw [List.getElem?_map, rgI_get hi] at h
  exact ⟨hi, (Option.some.inj h).symm⟩
theorem rg_at {i : Nat} {d : D} {b : Int} (h : (dI (rgI 0 b))[i]? = some d) : i < b.toNat ∧ d = .int (i : Int) ∧ (rgI 0 b)[i]? = some (i : Int) := by
  obtain ⟨h1, h2⟩ := int_at (n := 0) h
  rw [Int.sub_zero] at h1
  refine ⟨h1, by rw [h2, Int.zero_add], ?_⟩
  rw [rgI_get (by rw [Int.sub_zero]; exact h1), Int.zero_add]
theorem map_at {α : Type} {f : α → D} {l : List α} {i : Nat} {d : D} (h : (l.map f)[i]? = some d) : ∃ x, l[i]? = some x ∧ d = f x := by
  rw [List.getElem?_map] at h
  cases q : l[i]? with
  | none => rw [q] at h; cases h
  | some x => rw [q] at h; exact ⟨x, rfl, (Option.some.inj h).symm⟩
/-- an element of a list by iAt -/
theorem px_iAt {X : Cx} {C : Addr} {o s : Bool} {env : Env} {a b : Expr} {pos : Pos} {ns : List Int} {i : Int} (ha : PX X C false false a env (.lst (dI ns))) (hb : PX X C false false b env (.int i)) (h0 : 0 ≤ i) (h1 : i < ns.length) (hs : PlainIx b := by exact fun _ _ => rfl) : PX X C o s (.Subscript a b pos) env (.int (iAt ns i)) := px_ixI ha hb h0 h1 hs
end Fw
namespace Fw
open PySem L2 Mt
/-- Tree.__init__ where it stands -/
def FunI (K : PySem.W.Frag) (mg : Str → Option Value) (C : Addr) (st : Stmt) (ps : List Str) : Prop := ∃ (f : Addr) (fd : FuncData), Fun K "__init__" "Tree.__init__" st f fd ∧ Mk K C f ∧ Binds K fd ps [] ∧ mg "Tree" = some (.ref C)
def okT (m : Int) (ds : List D) : Prop := ∃ ts, ds = dP ts ∧ TreeOk m ts
def noT (m : Int) (ds : List D) : Prop := False
def KnTree (P : Program) (w : World) (K : PySem.W.Frag) (mg : Str → Option Value) (base : Heap) (lv : Nat) (C cb : Addr) (ok2 : Int → List D → Prop) : Prop := ∃ (f : Addr) (fd : FuncData) (ps : List Str), Mk K C f ∧ FnOk P w K mg base (L2.CX P w) lv f fd ps (spInit K C cb okT ok2) ∧ Binds K fd ps [] ∧ mg "Tree" = some (.ref C)
theorem px_mkT {X : Cx} {C cb : Addr} {o s : Bool} {env : Env} {a b : Expr} {pos p : Pos} {ok2 : Int → List D → Prop} {k j : Nat} {m : Int} {ts : List (Int × Int)} (h : KnTree X.prog X.w X.K X.mg X.base k C cb ok2) (hr : Room j X.A) (ha : PX X C o s a env (.int m)) (hb2 : PX X C o s b env (.lst (dP ts))) (hok : TreeOk m ts) (hj : k + 1 ≤ j := by decide) (hg : Gl X "Tree" := by rfl)
    (hdb : ("Tree" == ("__debug__" : Str)) = false := by decide) (na : starEach [a, b] X.env = (false, eval a X.env) :: starEach [b] X.env := by rfl) (nb : starEach [b] X.env = (false, eval b X.env) :: starEach [] X.env := by rfl) (hpl : (backTo pos (starEach [b] X.env)).any (·.1) = false := by rfl) :
    PX X C o s (.Call (.Name "Tree" p) [a, b] [] pos) env (.tree m (dP ts)) := by
  obtain ⟨f, fd, ps, M, F, hb, hm⟩ := h
  exact px_tree M F (hr.mono hj) hm hb ha hb2 ⟨ts, rfl, hok⟩ hg hdb na nb hpl

/-! ### for, by a step that may leave -/
def outE {σ ρ : Type} (ev : σ → Env) (out : ρ → Out) : σ ⊕ ρ → Out
  | .inl s => .nx (ev s)
  | .inr x => out x
section
variable {X : Cx} {C : Addr} {E : L2.St → XK} {env : Env} {d : D} {ds : List D} {o : Out} {rest : List Stmt} {pos : Pos} {tg iter : Expr} {body : List Stmt} {s : Bool} {g : TG} {u : Bool → D → Env → Env} {ok : D → Prop} {js : List Nat} {σ ρ α : Type}
theorem sxs_forE (f : σ → α → σ ⊕ ρ) (l : List α) (enc : α → D) (s0 : σ) (ev : σ → Env) (out : ρ → Out) (Inv : Nat → σ → Prop) (hds : ds = l.map enc) (hp : PassesOwn (model X.prog X.w) X.A X.env X.xe) (hc : X.calm = true) (hi : PI X tg iter (tI X.K C s env ds)) (hg : PG X tg g) (T : TgR X.K C g u ok js)
    (i0 : Inv 0 s0) (h0 : Le env (ev s0)) (hok : ∀ a ∈ l, ok (enc a)) (hx : ∀ x, (out x).exit = true)
    (hb : ∀ i a st, l[i]? = some a → Inv i st → (∀ s', f st a = .inl s' → Inv (i + 1) s' ∧ SXs X C E body (u s (enc a) (ev st)) (.nx (ev s'))) ∧ (∀ x, f st a = .inr x → SXs X C E body (u s (enc a) (ev st)) (out x)))
    (h1 : ∀ r, runE f l s0 = .inl r → Inv l.length r → SXs X C E rest (ev r) o) (h2 : ∀ x, runE f l s0 = .inr x → out x = o) (hs : ∀ z, foldedSetIterable iter X.env z = pure z := by intro _; rfl) : SXs X C E (.For tg iter body [] pos :: rest) env o := by
  subst hds
  have hok' : ∀ d ∈ l.map enc, ok d := fun d hd => by
    obtain ⟨a, ha, rfl⟩ := List.mem_map.mp hd
    exact hok a ha
  cases hr : runE f l s0 with
  | inl r =>
    obtain ⟨gs, g0, gl, gst⟩ := runE_inl hr
    have inv : ∀ i, i ≤ l.length → Inv i (gs i) := fun i => by
      induction i with
      | zero => intro _; rw [g0]; exact i0
      | succ i ih =>
        intro hi
        exact ((hb i l[i] _ (List.getElem?_eq_getElem (by omega)) (ih (by omega))).1 _ (gst i l[i] (List.getElem?_eq_getElem (by omega)))).1
    have e := sx_for (E := E) (pos := pos) hp hc hi hg T (fun i => ev (gs i)) (by rw [g0]; exact h0) hok' (fun i d hd => by
      obtain ⟨a, ha, rfl⟩ := map_at hd
      exact ((hb i a _ ha (inv i (Nat.le_of_lt (List.getElem?_eq_some_iff.mp ha).1))).1 _ (gst i a ha)).2) hs
    rw [List.length_map, gl] at e
    exact sxs_cons e (h1 r hr (by rw [← gl]; exact inv _ (Nat.le_refl _)))
  | inr x =>
    obtain ⟨n, a, gs, hn, g0, gst, gx⟩ := runE_inr hr
    have hl := (List.getElem?_eq_some_iff.mp hn).1
    have inv : ∀ i, i ≤ n → Inv i (gs i) := fun i => by
      induction i with
      | zero => intro _; rw [g0]; exact i0
      | succ i ih =>
        intro hi
        exact ((hb i l[i] _ (List.getElem?_eq_getElem (by omega)) (ih (by omega))).1 _ (gst i l[i] (by omega) (List.getElem?_eq_getElem (by omega)))).1
    have e := sx_forX (E := E) (pos := pos) (o := out x) hp hc hi hg T (fun i => ev (gs i)) (by rw [g0]; exact h0) hok' (n := n) (dn := enc a) (by rw [List.getElem?_map, hn]; rfl) (fun i d hi hd => by
      obtain ⟨b, hb', rfl⟩ := map_at hd
      exact ((hb i b _ hb' (inv i (by omega))).1 _ (gst i b hi hb')).2) ((hb n a _ hn (inv n (Nat.le_refl _))).2 x gx) (hx x) hs
    rw [← h2 x hr]
    exact sxs_exit e (hx x)
end

/-! ### lists of ints, at any level -/
section
variable {X : Cx} {C : Addr} {o s : Bool} {env : Env} {a b e : Expr} {pos p p2 p3 : Pos}
theorem pl_catI {xs ys : List Int} (ha : PX X C false false a env (.lst (dI xs))) (hb : PX X C false false b env (.lst (dI ys))) (hz : xs.length + ys.length ≤ 1000000) : PL X C (.BinOp a .Add b pos) env (dI (xs ++ ys)) :=
  (pe_op op_cat ha hb).imp fun σ H Q ⟨H0, S0, B, E, k⟩ => ⟨H0, S0, B, E, fun v H1 e1 r1 => ⟨H0, S0, B, E.mono e1, fun w H2 e2 r2 => by
    cases r1.mono e2 with
    | lst n1 h1 r1 => cases r2 with
      | lst n2 h2 r2 =>
        have q1 := r1.ints
        have q2 := r2.ints
        subst q1 q2
        refine ⟨_, _, _, _, rfl, rfl, h1, h2, by rw [List.length_map, List.length_map]; exact sz hz, fun p hp => k p _ _ ((e1.trans e2).trans (same_new hp)) (same_none (e1.trans e2) hp) upd_same ?_⟩
        rw [← List.map_append]
        exact RpL.ofInts _⟩⟩
theorem pl_listI {ns : List Int} (hm : X.mg "list" = none) (ha : PX X C false false a env (.lst (dI ns))) (hg : Gl X "list" := by rfl) (na : starEach [a] X.env = (false, eval a X.env) :: starEach [] X.env := by rfl) (hpl : (backTo pos (starEach [] X.env)).any (·.1) = false := by rfl) :
    PL X C (.Call (.Name "list" p) [a] [] pos) env (dI ns) :=
  (pe_callTy call_list_of hg hm PyProof.Rows.boot_list (pas1 ha na) (by decide) (by decide) na hpl).imp fun σ H Q ⟨H0, S0, B, E, k⟩ => ⟨H0, S0, B, E, fun vs H1 e1 r1 => by
    obtain ⟨v, rfl, r2⟩ := r1.one
    cases r2 with
    | lst n h r =>
      have q := r.ints
      subst q
      exact ⟨_, _, rfl, .inl (SqL.of h), fun l hl => k l _ _ (e1.trans (same_new hl)) (same_none e1 hl) upd_same (RpL.ofInts _)⟩⟩
theorem pl_sliceI {ns : List Int} {lo hi : Option Expr} {i j : Option Int} (ha : PX X C false false a env (.lst (dI ns))) (hl : POs X C lo env i) (hh : POs X C hi env j) : PL X C (.Subscript a (.Slice lo hi none p2) pos) env (dI (cutD ns i j)) :=
  (pe_slice sl_list ha hl hh).imp fun σ H Q ⟨H0, S0, B, E, k⟩ => ⟨H0, S0, B, E, fun v H1 e1 r1 => ⟨H0, S0, B, E.mono e1, fun H2 e2 => ⟨H0, S0, B, (E.mono e1).mono e2, fun H3 e3 => by
    cases r1.mono (e2.trans e3) with
    | lst n h r =>
      have q := r.ints
      subst q
      refine ⟨_, _, rfl, SqL.of h, fun p hp => k p _ _ ((e1.trans (e2.trans e3)).trans (same_new hp)) (same_none (e1.trans (e2.trans e3)) hp) upd_same ?_⟩
      have e : cutV (ns.map V.int) i j = (cutD ns i j).map V.int := by
        unfold cutV cutD
        rw [List.length_map, ← List.map_drop, ← List.map_take]
      rw [e]
      exact RpL.ofInts _⟩⟩⟩
end
def encOp : Option (List Int) → D
  | some l => .lst (dI l)
  | none => .non
section
variable {X : Cx} {C : Addr} {E : L2.St → XK} {env : Env} {d : D} {ds : List D} {o : Out} {rest : List Stmt} {pos : Pos} {tg iter : Expr} {body : List Stmt} {s : Bool} {g : TG} {u : Bool → D → Env → Env} {ok : D → Prop} {js : List Nat} {σ ρ α : Type}
/-- .. the body told once -/
theorem sxs_forF (f : σ → α → σ ⊕ ρ) (l : List α) (enc : α → D) (s0 : σ) (ev : σ → Env) (out : ρ → Out) (Inv : Nat → σ → Prop) (hds : ds = l.map enc) (hp : PassesOwn (model X.prog X.w) X.A X.env X.xe) (hc : X.calm = true) (hi : PI X tg iter (tI X.K C s env ds)) (hg : PG X tg g) (T : TgR X.K C g u ok js)
    (i0 : Inv 0 s0) (h0 : Le env (ev s0)) (hok : ∀ a ∈ l, ok (enc a)) (hx : ∀ x, (out x).exit = true)
    (hI : ∀ i a st s', l[i]? = some a → Inv i st → f st a = .inl s' → Inv (i + 1) s') (hb : ∀ i a st, l[i]? = some a → Inv i st → SXs X C E body (u s (enc a) (ev st)) (outE ev out (f st a)))
    (h1 : ∀ r, runE f l s0 = .inl r → Inv l.length r → SXs X C E rest (ev r) o) (h2 : ∀ x, runE f l s0 = .inr x → out x = o) (hs : ∀ z, foldedSetIterable iter X.env z = pure z := by intro _; rfl) : SXs X C E (.For tg iter body [] pos :: rest) env o :=
  sxs_forE f l enc s0 ev out Inv hds hp hc hi hg T i0 h0 hok hx (fun i a st ha hv => ⟨fun s' e => ⟨hI i a st s' ha hv e, by have := hb i a st ha hv; rw [e] at this; exact this⟩, fun x e => by have := hb i a st ha hv; rw [e] at this; exact this⟩) h1 h2 hs
end
end Fw

/-! Fw12: the law's end. -/
namespace Fw
open PySem L2 Mt
/-- what is asked of the law at a script -/
def spL (K : PySem.W.Frag) : Sp := fun vs H Q _ => ∃ (a : Addr) (ns : List Int), vs = [.ref a] ∧ ns.length ≤ 63 ∧ Only H ∧ SqL K H a (ns.map V.int) ∧ ∀ H', Q (.bl true) H'
theorem spL_in {K : PySem.W.Frag} (C : Addr) : ∀ vs H Q E, spL K vs H Q E → spN K C RLaw vs H Q E := fun vs H Q E ⟨a, ns, e, hl, ho, h, q⟩ => by
  subst e
  refine ⟨[.scr ns], .ret (.bl true), ⟨ns, rfl, hl, rfl⟩, .cons ?_ .nil, fun v H' _ r => by rw [r.isBl]; exact q H'⟩
  rcases h with (h | ⟨u, h⟩) | h
  · rcases ho a with z | ⟨u, xs, z⟩ <;> (rw [h] at z; cases z)
  · exact .scr (fun z => z) h
  · exact .scrK h
section
variable {P : Program} {w : World} {K : PySem.W.Frag} {mg : Str → Option Value} {base : Heap} {C : Addr} {xn : Str} {st : Stmt} {N ps : List Str} {k : Nat} {R : List D → Res → Prop}
theorem fnL {f : Addr} {fd : FuncData} (F : Fun K xn xn st f fd) (S : FnScope N ps (defScope st)) (hl : ∀ ds r, RLaw ds r → ds.length = ps.length) (hx : ∀ ds c, ¬ RLaw ds (.exc c))
    (hb : ∀ (cdv : Value) (A : Around) (outer : List PySem.Env) (s : Shared) (H : Hp) (ds : List D) (r : Res), Room k (cx0 P w K mg base N xn (defScope st) f cdv A outer s H).A → RLaw ds r →
      ∃ o, resOut r o ∧ SXs (cx0 P w K mg base N xn (defScope st) f cdv A outer s H) C (fun _ => E0) (defBody st) (startE N (ds.map .bor)) o) : FnOk P w K mg base CX0 (k + 1) f fd ps (spL K) := (fnN F S hl hb hx).imp (spL_in C)
theorem funT_mk {h : Heap} {f : Addr} {oc : Value} {od an : Option Addr} {osl : Array (Option Value)} {kV doc pm cdv ct : Value} (X : K.In h) (G : h.Ns mainGlobals mg) (a : PySem.W.nsIn K mainGlobals xn = some (some (.ref f))) (l : K.lookup f = some ⟨oc, od, .func (PySem.W.fnOf xn xn (defArgs st) (defBody st) (defScope st) .none kV doc pm an cdv ct), osl⟩)
    (c : PySem.W.codeIn K cdv xn = true) (kp : PySem.W.keepIn K (.ref f) = true) (b : ∀ (kV doc pm : Value) (an : Option Addr) (cdv ct : Value) (us : List Value), us.length = ps.length → bindArgs (PySem.W.fnOf xn xn (defArgs st) (defBody st) (defScope st) .none kV doc pm an cdv ct) ⟨us, []⟩ = pure (ps.zip us)) : FunT K mg xn st ps := by
  have F := fun_mk (st := st) l c kp
  exact ⟨f, _, F, PySem.W.mg_of X G a, F.binds b⟩
theorem funI_mk {h : Heap} {f : Addr} {oc : Value} {od an : Option Addr} {osl : Array (Option Value)} {kV doc pm cdv ct : Value} (X : K.In h) (G : h.Ns mainGlobals mg) (aC : PySem.W.nsIn K mainGlobals "Tree" = some (some (.ref C))) (a : PySem.W.findIn K (.ref C) "__init__" = some (some (.ref f))) (i : PySem.W.isFn K (.ref f) = true) (l : K.lookup f = some ⟨oc, od, .func (PySem.W.fnOf "__init__" "Tree.__init__" (defArgs st) (defBody st) (defScope st) .none kV doc pm an cdv ct), osl⟩)
    (c : PySem.W.codeIn K cdv "Tree.__init__" = true) (kp : PySem.W.keepIn K (.ref f) = true) (mk : PySem.W.makesIn K C = true) (kC : PySem.W.keepIn K (.ref C) = true) (b : ∀ (kV doc pm : Value) (an : Option Addr) (cdv ct : Value) (us : List Value), us.length = ps.length → bindArgs (PySem.W.fnOf "__init__" "Tree.__init__" (defArgs st) (defBody st) (defScope st) .none kV doc pm an cdv ct) ⟨us, []⟩ = pure (ps.zip us)) : FunI K mg C st ps := by
  have F := fun_mk (st := st) l c kp
  exact ⟨f, _, F, ⟨mk, a, i, kC⟩, F.binds b, PySem.W.mg_of X G aC⟩
end
end Fw

/-! Fw13: new data that are changed, also within. -/
namespace Fw
open PySem L2 Mt
def noB : Sl → Bool
  | .bor d => d.isSc
  | .bvr _ d => d.isSc
  | _ => true
theorem Rp.anyH {K : PySem.W.Frag} {C : Addr} {S S' : Addr → Prop} {H H' : Hp} {d : D} {v : V} (h : Rp K C S H v d) (hd : d.isSc = true) : Rp K C S' H' v d := by
  cases h with
  | non => exact .non
  | bl b => exact .bl b
  | int i => exact .int i
  | lst => cases hd
  | tup => cases hd
  | tree => cases hd
  | scr => cases hd
  | scrK => cases hd
section
variable {K : PySem.W.Frag} {C : Addr} {H0 H1 : Hp} {S S0 B : Addr → Prop} {H H' : Hp} {σ : L2.St} {env : Env}
theorem noB_at {i : Nat} {t : Sl} (hn : env.all noB = true) (h : env[i]? = some t) : noB t = true := List.all_eq_true.mp hn t (List.mem_of_getElem? h)
/-- an object of S0 changes -/
theorem EnvR.chgS (E : EnvR K C H1 S B H σ env) {p : Addr} {o : HO} (hp : S p) (hn : env.all noB = true) : EnvR K C (upd H1 p o) S B (upd H p o) σ env := by
  have p1 := E.sub p hp
  refine ⟨fun a u q => ?_, fun a z => ?_, fun a h => ⟨?_, fun z => ?_, (E.bar a h).2.2⟩, E.len, fun i t ht => ?_, E.inj⟩
  · by_cases e : a = p
    · subst e; rw [upd_same] at q ⊢; exact q
    · rw [upd_ne e] at q ⊢; exact E.base a u q
  · by_cases e : a = p
    · rw [e, upd_same]; exact fun z => nomatch z
    · rw [upd_ne e]; exact E.sub a z
  · rw [upd_ne (fun e => p1 (by rw [← e]; exact (E.bar a h).1))]; exact (E.bar a h).1
  · by_cases e : a = p
    · rw [e, upd_same] at z; cases z
    · rw [upd_ne e] at z; exact (E.bar a h).2.1 z
  · have q := E.slot i t ht
    have nb := noB_at hn ht
    cases t with
    | emp => trivial
    | raw v => exact q
    | bor d => obtain ⟨v, e, r⟩ := q; exact ⟨v, e, r.anyH nb⟩
    | bvr v d => exact ⟨q.1, q.2.anyH nb⟩
    | dat d =>
      obtain ⟨v, e, r⟩ := q
      exact ⟨v, e, r.weak (fun a u n q => by rw [upd_ne (fun e => n (.inr (by rw [e]; exact hp)))]; exact q) (fun _ _ _ z => z)⟩
    | own ds =>
      obtain ⟨a, xs, e, n, q, r⟩ := q
      have ne : a ≠ p := fun e => p1 (by rw [← e]; exact n)
      exact ⟨a, xs, e, by rw [upd_ne ne]; exact n, by rw [upd_ne ne]; exact q, r.weak (fun a u n q => by rw [upd_ne (fun e => n (.inr (by rw [e]; exact hp)))]; exact q) (fun _ _ _ z => z)⟩
    | dct kvs =>
      obtain ⟨a, e, n, q⟩ := q
      have ne : a ≠ p := fun e => p1 (by rw [← e]; exact n)
      exact ⟨a, e, by rw [upd_ne ne]; exact n, by rw [upd_ne ne]; exact q⟩
/-- what is new goes to S0 -/
theorem EnvR.addS (E : EnvR K C H1 S B H σ env) (sm : Same H H') (hn : env.all noB = true) : EnvR K C (reb H' (OwnB B σ env)) (fun a => S a ∨ (H a = none ∧ H' a ≠ none)) B H' σ env := by
  have E' := (E.mono sm).rebase
  refine ⟨E'.base, fun a z => ?_, E'.bar, E'.len, fun i t ht => ?_, E'.inj⟩
  · rcases z with z | z
    · exact E'.sub a z
    · rw [reb_out (fun c => (E.ours c).2 z.1)]; exact z.2
  · have q := E.slot i t ht
    have q' := E'.slot i t ht
    have ss : ∀ a o, H a = some o → (S a ∨ (H a = none ∧ H' a ≠ none)) → S a := fun a o q z => z.elim id fun z => by rw [z.1] at q; cases q
    cases t with
    | emp => trivial
    | raw v => exact q
    | bor d => exact q'
    | bvr v d => exact q'
    | dat d =>
      obtain ⟨v, e, r⟩ := q
      exact ⟨v, e, r.weak (fun a o _ q => sm a o q) (fun a o q z => z.imp id (ss a o q))⟩
    | own ds =>
      obtain ⟨a, xs, e, n, q, r⟩ := q
      obtain ⟨a', xs', e', n', q2, _⟩ := q'
      rw [e] at e'; cases e'
      exact ⟨a, xs, e, n', sm _ _ q, r.weak (fun a o _ q => sm a o q) (fun a o q z => z.imp id (ss a o q))⟩
    | dct kvs => exact q'
theorem EnvR.unS {S' : Addr → Prop} (E : EnvR K C H1 S' B H σ env) (sm : Same H0 H1) (s : ∀ a, S0 a → S' a) (z : ∀ a, S0 a → H0 a ≠ none) : EnvR K C H0 S0 B H σ env :=
  ⟨sm.trans E.base, z, fun a h => ⟨same_none sm (E.bar a h).1, (E.bar a h).2⟩, E.len, fun i t h => (E.slot i t h).weak (fun _ _ _ q => q) (fun _ _ _ _ q => q) (fun _ _ _ z => z) (fun a _ _ z => s a z) (fun _ a _ q => same_none sm q), E.inj⟩
end
/-- e gives a new datum -/
def tNw (K : PySem.W.Frag) (C : Addr) (env : Env) (d : D) : TE := fun σ H Q => ∃ H0 S0 B, EnvR K C H0 S0 B H σ env ∧ ∀ v H', Same H H' → Rp K C (fun a => H a ≠ none) H' v d → Q v H'
abbrev PNw (X : Cx) (C : Addr) (e : Expr) (env : Env) (d : D) : Prop := PE X e (tNw X.K C env d)
abbrev Jt := Hp → (Addr → Prop) → Prop
/-- from slots and what is known of the new to others -/
def tFj (K : PySem.W.Frag) (C : Addr) (env : Env) (J : Jt) (env' : Env) (J' : Jt) : TS := fun Dn σ H => ∃ (H0 H1 : Hp) (S0 Nw B : Addr → Prop), Same H0 H1 ∧ (∀ a, Nw a → H0 a = none) ∧ EnvR K C H1 (fun a => S0 a ∨ Nw a) B H σ env ∧ J H1 Nw ∧
  ∀ σ' H' H1' Nw', Same H0 H1' → (∀ a, Nw' a → H0 a = none) → EnvR K C H1' (fun a => S0 a ∨ Nw' a) B H' σ' env' → J' H1' Nw' → Dn.nx σ' H'
section
variable {X : Cx} {C : Addr} {E : L2.St → XK} {env env1 env2 : Env} {d z : D} {ds : List D} {o : Out} {st : Stmt} {rest sts : List Stmt} {a b c e : Expr} {es : List Expr} {pos p p2 : Pos} {x : Bool} {J J1 J2 : Jt} {xn : Str}
theorem pn_sc {s : Bool} (h : PX X C false false e env d) (hd : d.isSc = true) : PNw X C e env d := h.imp fun σ H Q ⟨H0, S0, B, E, k⟩ => ⟨H0, S0, B, E, fun v H' sm r => k v H' sm (r.anySc hd)⟩
theorem pn_int {i : Int} {j : Nat} : PNw X C (.Constant (.int i) j pos) env (.int i) := pe_int.imp fun σ H Q ⟨H0, S0, B, E, k⟩ => k _ H (Same.refl H) (.int i)
/-- a new tuple of two numbers -/
theorem pn_tup2 {i j : Int} {k : Nat} (ha : PX X C false false a env (.int i)) (hb : PX X C false false b env (.int j)) (na : starEach [a, b] X.env = (false, eval a X.env) :: starEach [b] X.env := by rfl) (nb : starEach [b] X.env = (false, eval b X.env) :: starEach [] X.env := by rfl) : PNw X C (.Tuple [a, b] k pos) env (.tup [.int i, .int j]) :=
  (pe_tup (pas_cons ha (pas1 hb nb) na)).imp fun σ H Q ⟨H0, S0, B, E, k⟩ => ⟨H0, S0, B, E, fun vs H1 e1 r1 => ⟨by rw [r1.len]; exact sz (by show 2 ≤ 1000000; decide), fun p hp => k _ _ (e1.trans (same_new hp)) (.tup (fun z => z (same_none e1 hp)) upd_same (by
    obtain ⟨v, w, rfl, q1, q2⟩ := r1.two
    cases q1; cases q2
    exact .cons (.int _) (.cons (.int _) .nil)))⟩⟩
theorem pn_nil : PNw X C (.List [] pos) env (.lst []) :=
  (pe_lst (pas_nil (o := false) (s := false) (env := env) (C := C))).imp fun σ H Q ⟨H0, S0, B, E, k⟩ => ⟨H0, S0, B, E, fun vs H1 e1 r1 => ⟨by rw [r1.len]; exact sz (by decide), fun p hp => k (.ref p) _ (e1.trans (same_new hp)) (.lst (fun z => z (same_none e1 hp)) upd_same (by cases r1; exact .nil))⟩⟩
theorem pn_call {CX : CXT} {E : XK} {f : Addr} {fd : FuncData} {k : Nat} {ps : List Str} {R : List D → Res → Prop} (F : FnOk X.prog X.w X.K X.mg X.base CX k f fd ps (spN X.K C R)) (hr : Room k X.A) (hm : X.mg xn = some (.ref f)) (hk : PySem.W.keepIn X.K (.ref f) = true) (hb : Binds X.K fd ps []) (hx : Passes CX X E) (ha : PAs X C false false (e :: es) env ds) (hR : R ds (.ret d))
    (hg : Gl X xn := by rfl) (hdb : (xn == ("__debug__" : Str)) = false := by decide) (he : starEach (e :: es) X.env = (false, eval e X.env) :: starEach es X.env := by rfl) (hpl : (backTo pos (starEach es X.env)).any (·.1) = false := by rfl) : PNw X C (.Call (.Name xn p) (e :: es) [] pos) env d :=
  (pe_call F hr hg hm hk hb .nil hx ha hdb he hpl).imp fun σ H Q ⟨H0, S0, B, EE, k⟩ => ⟨H0, S0, B, EE, fun vs H1 e1 r => ⟨ds, .ret d, hR, by rw [List.append_nil]; exact r.anti fun a z => z.elim, fun v H' sm rv => k v H' (e1.trans sm) (rv.anti fun a z => same_some e1 z)⟩⟩
theorem pn_kn {k j : Nat} {ps : List Str} {R : List D → Res → Prop} (h : Kn X.prog X.w X.K X.mg X.base CX0 k xn ps (spN X.K C R)) (hr : Room j X.A) (ha : PAs X C false false (e :: es) env ds) (hR : R ds (.ret d)) (hj : k ≤ j := by decide)
    (hg : Gl X xn := by rfl) (hdb : (xn == ("__debug__" : Str)) = false := by decide) (he : starEach (e :: es) X.env = (false, eval e X.env) :: starEach es X.env := by rfl) (hpl : (backTo pos (starEach es X.env)).any (·.1) = false := by rfl) : PNw X C (.Call (.Name xn p) (e :: es) [] pos) env d := by
  obtain ⟨f, fd, F, hm, hk, hb⟩ := h
  exact pn_call F (hr.mono hj) hm hk hb pass0 ha hR hg hdb he hpl
theorem fj_sx (h : SX X C E st env (.nx env1)) : PS X st (tFj X.K C env J env1 J) :=
  h.imp fun Dn σ H ⟨H0, H1, S0, Nw, B, sm, hN, EE, hJ, k⟩ => ⟨H1, _, B, EE, fun σ' H' E' => k σ' H' H1 Nw sm hN E' hJ⟩
theorem fj_cons (h1 : PS X st (tFj X.K C env J env1 J1)) (h2 : PSs X rest (tFj X.K C env1 J1 env2 J2)) : PSs X (st :: rest) (tFj X.K C env J env2 J2) :=
  (pss_cons h1 h2).imp fun Dn σ H ⟨H0, H1, S0, Nw, B, sm, hN, EE, hJ, k⟩ => ⟨H0, H1, S0, Nw, B, sm, hN, EE, hJ, fun σ' H' H1' Nw' s' n' E' j' => ⟨H0, H1', S0, Nw', B, s', n', E', j', k⟩⟩
theorem fj_one (h : PS X st (tFj X.K C env J env1 J1)) : PSs X [st] (tFj X.K C env J env1 J1) := pss_one h
theorem fj_le {env' : Env} (h : PS X st (tFj X.K C env1 J env' J1)) (l : Le env env1) : PS X st (tFj X.K C env J env' J1) :=
  h.imp fun Dn σ H ⟨H0, H1, S0, Nw, B, sm, hN, EE, hJ, k⟩ => ⟨H0, H1, S0, Nw, B, sm, hN, EE.le l, hJ, k⟩
theorem fj_out {env' : Env} {J' : Jt} (h : PS X st (tFj X.K C env J env1 J1)) (l : Le env1 env') (hj : ∀ H N, J1 H N → J' H N) : PS X st (tFj X.K C env J env' J') :=
  h.imp fun Dn σ H ⟨H0, H1, S0, Nw, B, sm, hN, EE, hJ, k⟩ => ⟨H0, H1, S0, Nw, B, sm, hN, EE, hJ, fun σ' H' H1' Nw' s' n' E' j' => k σ' H' H1' Nw' s' n' (E'.le l) (hj _ _ j')⟩
theorem fj_pre {J' : Jt} (h : PS X st (tFj X.K C env J env1 J1)) (hj : ∀ H N, J' H N → J H N) : PS X st (tFj X.K C env J' env1 J1) :=
  h.imp fun Dn σ H ⟨H0, H1, S0, Nw, B, sm, hN, EE, hJ, k⟩ => ⟨H0, H1, S0, Nw, B, sm, hN, EE, hj _ _ hJ, k⟩
theorem fj_ifT {ta fa : List Stmt} (hc : PTt X C c env true) (h : PSs X ta (tFj X.K C env J env1 J1)) : PS X (.If c ta fa pos) (tFj X.K C env J env1 J1) :=
  (ps_if hc h (pss_never (sts := fa))).imp fun Dn σ H ⟨H0, H1, S0, Nw, B, sm, hN, EE, hJ, k⟩ => ⟨H1, _, B, EE, fun H' s' => iteT ⟨H0, H1, S0, Nw, B, sm, hN, EE.mono s', hJ, k⟩⟩
/-- x = e, new; then what changes it; to the end -/
theorem fj_whole (i : Nat) (he : PNw X C e env d) (hn : env.all noB = true) (h : ∀ v, PSs X rest (tFj X.K C (env.set i (.bvr v d)) (fun H1 Nw => Rp X.K C (fun a => ¬ Nw a) H1 v d) env1 (fun _ _ => True))) (hN : X.N.Nodup) (hi : X.N[i]? = some xn := by rfl) (hx : Loc X.env.scope xn := by first | exact Or.inl rfl | exact Or.inr rfl)
    (hs : swapsWith e (some (.Name xn p)) pos.line X.env = pure false := by rfl) (hf : X.fn xn = true ∨ X.env.scope.names.lookup xn = some .local := by first | exact .inl rfl | exact .inr rfl) : SXs X C E (.Assign [.Name xn p] e pos :: rest) env (.nx env1) :=
  (pss_cons (ps_set hN hi hx he hs hf) (PSs.ex h)).imp fun Dn σ H ⟨H0, S0, B, EE, k⟩ => ⟨H0, S0, B, EE, fun v H' sm r => by
    have E1 := EE.addS sm hn
    have hnw : ∀ a, H a = none ∧ H' a ≠ none → reb H' (OwnB B σ env) a = H' a := fun a z => reb_out (fun c => (EE.ours c).2 z.1)
    have s0 : Same H0 (reb H' (OwnB B σ env)) := (EE.mono sm).toReb
    have r1 : Rp X.K C (fun a => ¬ (H a = none ∧ H' a ≠ none)) (reb H' (OwnB B σ env)) v d := r.weak (fun a o n q => by
      have hz : H a = none := by
        cases z : H a with
        | none => rfl
        | some u => exact absurd (fun y => by rw [y] at z; cases z) n
      rw [hnw a ⟨hz, fun y => by rw [q] at y; cases y⟩]; exact q) (fun a o q z w => z ⟨w, fun y => by rw [q] at y; cases y⟩)
    refine ⟨v, H0, reb H' (OwnB B σ env), S0, (fun a => H a = none ∧ H' a ≠ none), B, s0, fun a z => same_none EE.base z.1, E1.set i _ v rfl ⟨rfl, r.weak (fun _ _ _ q => q) (fun a o _ z => (EE.ours (by
      rcases z with z | z
      · exact .inl z
      · exact .inr z)).2)⟩, r1, fun σ2 H2 H1' Nw' s2 n2 E2 _ => k σ2 H2 (E2.unS s2 (fun a z => .inl z) EE.sub)⟩⟩
end

section
variable {X : Cx} {C : Addr} {E : L2.St → XK} {env env1 env2 : Env} {d z : D} {ds : List D} {o : Out} {st : Stmt} {rest sts body : List Stmt} {a b c e : Expr} {es : List Expr} {pos p p2 : Pos} {x : Bool} {J J1 J2 J' : Jt} {xn : Str}
theorem fj_append (i : Nat) {ad : Addr} {px apos cpos : Pos} (he : PNw X C e env z) (hi : env[i]? = some (.raw (.ref ad))) (hn : env.all noB = true)
    (hJ : ∀ H1 Nw, J H1 Nw → Nw ad ∧ ∃ ys, H1 ad = some (.lst ys) ∧ ys.length < 1000000 ∧ ∀ H2 Nw2 w, Same H1 H2 → (∀ b, Nw b → Nw2 b) → Rp X.K C (fun b => ¬ Nw2 b) H2 w z → J' (upd H2 ad (.lst (ys ++ [w]))) Nw2)
    (hN : X.N[i]? = some xn := by rfl) (hv : Vis X.env.scope xn := by first | exact Or.inl rfl | exact Or.inr (Or.inl rfl))
    (hd : (xn == ("__debug__" : Str)) = false := by decide) (hcd : (xn == ("__classdict__" : Str)) = false := by decide)
    (hbase : attributeBase (.Name xn px) "append" X.env (eval (.Name xn px) X.env) = eval (.Name xn px) X.env := by rfl) (hfew : ((backTo cpos (starEach [e] X.env)).all (fun x => !x.1) && (backToKw cpos (keywordEach [] X.env)).all (fun x => x.1.isSome)
      && decide (([e] : List Expr).length + ([] : List Keyword).length + (if ([] : List Keyword).isEmpty then 0 else 1) < 30)) = true := by rfl)
    (hline : (apos.endLine == cpos.line) = true := by rfl) (na : starEach [e] X.env = (false, eval e X.env) :: starEach [] X.env := by rfl) (hplain : (backTo cpos (starEach [] X.env)).any (·.1) = false := by rfl)
    (hs : swapsWith (.Call (.Attribute (.Name xn px) "append" apos) [e] [] cpos) none pos.line X.env = pure false := by rfl) :
    PS X (.Expr (.Call (.Attribute (.Name xn px) "append" apos) [e] [] cpos) pos) (tFj X.K C env J env J') :=
  (ps_expr (pe_bm PySem.F.plainAttrs_list PySem.F.slot_list_append PySem.F.type_list_append mt_append (pe_var (i := i) hN hv hd hcd) (pa_cons he pa_nil na) hbase hfew hline na hplain) hs).imp fun Dn σ H ⟨H0, H1, S0, Nw, B, sm, hNw, EE, j, k⟩ => by
    have e1 : σ[i]? = some (some (V.ref ad)) := EE.slot i _ hi
    obtain ⟨na, ys, h1, hz, hJ'⟩ := hJ H1 Nw j
    have hH := EE.base _ _ h1
    refine ⟨_, e1, lst_ty hH, H1, _, B, EE, fun w H2 s2 r => ?_⟩
    have E2 := EE.addS s2 hn
    have sr : Same H1 (reb H2 (OwnB B σ env)) := (EE.mono s2).toReb
    have hnw : ∀ b, H b = none ∧ H2 b ≠ none → reb H2 (OwnB B σ env) b = H2 b := fun b z => reb_out (fun c => (EE.ours c).2 z.1)
    have r1 : Rp X.K C (fun b => ¬ (Nw b ∨ (H b = none ∧ H2 b ≠ none))) (reb H2 (OwnB B σ env)) w z := r.weak (fun b o n q => by
      have hz : H b = none := by
        cases z : H b with
        | none => rfl
        | some u => exact absurd (fun y => by rw [y] at z; cases z) n
      rw [hnw b ⟨hz, fun y => by rw [q] at y; cases y⟩]; exact q) (fun b o q z w => z (.inr ⟨w, fun y => by rw [q] at y; cases y⟩))
    have E3 : EnvR X.K C (reb H2 (OwnB B σ env)) (fun a => S0 a ∨ (Nw a ∨ (H a = none ∧ H2 a ≠ none))) B H2 σ env := E2.unS (Same.refl _) (fun a z => by
      rcases z with z | z | z
      · exact .inl (.inl z)
      · exact .inl (.inr z)
      · exact .inr z) (fun a z => E2.sub a (by
      rcases z with z | z | z
      · exact .inl (.inl z)
      · exact .inl (.inr z)
      · exact .inr z))
    have n0 := hNw ad na
    exact ⟨ad, ys, w, rfl, rfl, s2 _ _ hH, szl hz, k σ _ _ (fun b => Nw b ∨ (H b = none ∧ H2 b ≠ none)) (same_mut (sm.trans sr) n0) (fun b z => z.elim (hNw b) fun z => same_none (sm.trans EE.base) z.1) (E3.chgS (.inr (.inl na)) hn) (hJ' _ _ w sr (fun b z => .inl z) r1)⟩
/-- a new list of new lists: what is known of it at p while they grow -/
def JF (K : PySem.W.Frag) (C : Addr) (Q : List D → Prop) (p : Addr) (xs : List V) (n : Nat) : Jt := fun H1 Nw => Nw p ∧ H1 p = some (.lst xs) ∧ ∀ x ∈ xs, ∃ a ys ds, x = .ref a ∧ a ≠ p ∧ Nw a ∧ H1 a = some (.lst ys) ∧ RpL K C (fun c => ¬ Nw c ∨ ∃ l, H1 c = some (.lst l)) H1 ys ds ∧ Q ds ∧ ds.length ≤ n
def JE (K : PySem.W.Frag) (C : Addr) (Q : List D → Prop) (p : Addr) (xs : List V) (n : Nat) (a : Addr) (ds : List D) : Jt := fun H1 Nw => JF K C Q p xs n H1 Nw ∧ a ≠ p ∧ Nw a ∧ ∃ ys, H1 a = some (.lst ys) ∧ RpL K C (fun c => ¬ Nw c ∨ ∃ l, H1 c = some (.lst l)) H1 ys ds
theorem fj_for {Q : List D → Prop} {yn : Str} {ad : Addr} {xs : List V} {py px : Pos} (i j : Nat) (L0 : Nat) (hp : PassesOwn (model X.prog X.w) X.A X.env X.xe) (hc : X.calm = true) (hNd : X.N.Nodup) (hi : env[i]? = some (.raw (.ref ad))) (hj : env[j]? = some .emp)
    (hb : ∀ n a ds, Q ds → ds.length ≤ n → n < L0 + xs.length → PSs X body (tFj X.K C (env.set j (.bvr (.ref a) (.lst ds))) (JE X.K C Q ad xs n a ds) env (JF X.K C Q ad xs (n + 1))))
    (hN : X.N[i]? = some xn := by rfl) (hv : Vis X.env.scope xn := by first | exact Or.inl rfl | exact Or.inr (Or.inl rfl))
    (hd : (xn == ("__debug__" : Str)) = false := by decide) (hcd : (xn == ("__classdict__" : Str)) = false := by decide)
    (hM : X.N[j]? = some yn := by rfl) (hx : Loc X.env.scope yn := by first | exact Or.inl rfl | exact Or.inr rfl) (hf : X.fn yn = true ∨ X.env.scope.names.lookup yn = some .local := by first | exact .inl rfl | exact .inr rfl)
    (hs : ∀ z, foldedSetIterable (.Name xn px) X.env z = pure z := by intro _; rfl) :
    PS X (.For (.Name yn py) (.Name xn px) body [] pos) (tFj X.K C env (JF X.K C Q ad xs L0) env (JF X.K C Q ad xs (L0 + xs.length))) := by
  have hB : PSs X body (fun Dn σ H => ∃ q : { q : Nat × Addr × List D // Q q.2.2 ∧ q.2.2.length ≤ q.1 ∧ q.1 < L0 + xs.length }, tFj X.K C (env.set j (.bvr (.ref q.1.2.1) (.lst q.1.2.2))) (JE X.K C Q ad xs q.1.1 q.1.2.1 q.1.2.2) env (JF X.K C Q ad xs (q.1.1 + 1)) Dn σ H) := PSs.ex fun q => hb _ _ _ q.2.1 q.2.2.1 q.2.2.2
  refine (ps_for hp hc (pi_list (tg := .Name yn py) (pe_var (pos := px) (i := i) hN hv hd hcd)) (pg_name (i := j) (pos := py) hNd hM hx hf) hB hs).imp fun Dn σ H ⟨H0, H1, S0, Nw, B, sm, hNw, EE, hJ, k⟩ => ?_
  have e1 : σ[i]? = some (some (V.ref ad)) := EE.slot i _ hi
  refine ⟨_, e1, ad, rfl, ⟨xs, SqL.of (EE.base _ _ hJ.2.1)⟩, ?_⟩
  refine for_it (g := gName j) (D := Dn) (tb := fun Dn σ H => ∃ q : { q : Nat × Addr × List Fw.D // Q q.2.2 ∧ q.2.2.length ≤ q.1 ∧ q.1 < L0 + xs.length }, tFj X.K C (env.set j (.bvr (.ref q.1.2.1) (.lst q.1.2.2))) (JE X.K C Q ad xs q.1.1 q.1.2.1 q.1.2.2) env (JF X.K C Q ad xs (q.1.1 + 1)) Dn σ H) (walk_list (K := X.K) (a := ad) (xs := xs)) (fun n σ' H' => ∃ H1' Nw', Same H0 H1' ∧ (∀ a, Nw' a → H0 a = none) ∧ EnvR X.K C H1' (fun a => S0 a ∨ Nw' a) B H' σ' env ∧ JF X.K C Q ad xs (L0 + n) H1' Nw') ⟨H1, Nw, sm, hNw, EE, hJ⟩ (fun n σ' H' _ ⟨H1', Nw', _, _, q, j'⟩ => SqL.of (q.base _ _ j'.2.1)) (fun n v σ' H' H'' hn q y => ?_) fun σ' H' ⟨H1', Nw', s', n', q, j'⟩ => k σ' H' H1' Nw' s' n' q j'
  obtain ⟨H1', Nw', s', n', q, j'⟩ := q
  obtain ⟨eH, ev⟩ := y
  subst eH
  obtain ⟨a, ys, ds, rfl, ap, na, ha, rd, hQ, hl⟩ := j'.2.2 v (List.mem_of_getElem? ev)
  have nO : ∀ c, OwnB B σ' env c → ¬ Nw' c := fun c h z => q.sub c (.inr z) (q.ours h).1
  exact ⟨⟨(L0 + n, a, ds), hQ, hl, by show L0 + n < L0 + xs.length; omega⟩, H0, H1', S0, Nw', B, s', n', q.set j (.bvr (.ref a) (.lst ds)) (.ref a) rfl ⟨rfl, .lst (fun h => nO a h na) (q.base _ _ ha) (rd.weak (fun c o _ z => q.base c o z) (fun c _ _ h => .inl (nO c h)))⟩, ⟨j', ap, na, ys, ha, rd⟩, fun σ3 H3 H1'' Nw'' s3 n3 E3 j3 => ⟨H1'', Nw'', s3, n3, E3, j3⟩⟩
/-- a's list grows by a datum -/
theorem jf_grow {K : PySem.W.Frag} {Q : List D → Prop} {ad a : Addr} {xs : List V} {n : Nat} {ds : List D} (hQ : Q ds) (hQz : Q (ds ++ [z])) (hl : ds.length ≤ n) (hn : n < 1000000) (hz : ∀ (S : Addr → Prop) (H : Hp) (w : V), Rp K C S H w z → Rp K C (fun c => S c ∨ ∃ l, H c = some (.lst l)) H w z) :
    ∀ H1 Nw, JE K C Q ad xs n a ds H1 Nw → Nw a ∧ ∃ ys, H1 a = some (.lst ys) ∧ ys.length < 1000000 ∧ ∀ H2 Nw2 w, Same H1 H2 → (∀ b, Nw b → Nw2 b) → Rp K C (fun b => ¬ Nw2 b) H2 w z → JF K C Q ad xs (n + 1) (upd H2 a (.lst (ys ++ [w]))) Nw2 := fun H1 Nw ⟨⟨f1, f2, f3⟩, ap, na, ys, ha, rd⟩ => by
  refine ⟨na, ys, ha, by rw [rd.len]; omega, fun H2 Nw2 w sm sN rw' => ⟨sN _ f1, by rw [upd_ne (Ne.symm ap)]; exact sm _ _ f2, fun x hx => ?_⟩⟩
  have ha2 := sm _ _ ha
  have lw : ∀ {vs : List V} {es : List D}, RpL K C (fun c => ¬ Nw c ∨ ∃ l, H1 c = some (.lst l)) H1 vs es → RpL K C (fun c => ¬ Nw2 c ∨ ∃ l, upd H2 a (.lst (ys ++ [w])) c = some (.lst l)) (upd H2 a (.lst (ys ++ [w]))) vs es := fun r => r.weak (fun c o n q => by
    rw [upd_ne (fun e => n (.inr ⟨ys, by rw [e]; exact ha⟩))]; exact sm c o q) (fun c o q z => by
    rcases z with z | ⟨l, z⟩
    · exact .inl fun y => z (sN c y)
    · by_cases e : c = a
      · exact .inr ⟨ys, by rw [e]; exact ha⟩
      · rw [upd_ne e, sm _ _ q] at z
        injection z with z
        subst z
        exact .inr ⟨l, q⟩)
  obtain ⟨b, zs, es, rfl, bp, nb, hb, rb, qb, lb⟩ := f3 x hx
  by_cases e : b = a
  · subst e
    refine ⟨b, ys ++ [w], ds ++ [z], rfl, bp, sN _ nb, upd_same, (lw rd).append (.cons ?_ .nil), hQz, by rw [List.length_append, List.length_singleton]; omega⟩
    refine (hz _ _ _ rw').weak (fun c o n q => by rw [upd_ne (fun e => n (.inr ⟨ys, by rw [e]; exact ha2⟩))]; exact q) (fun c o q z => by
      rcases z with z | ⟨l, z⟩
      · exact .inl z
      · by_cases e : c = b
        · exact .inr ⟨ys, by rw [e]; exact ha2⟩
        · rw [upd_ne e] at z
          exact .inr ⟨l, z⟩)
  · exact ⟨b, zs, es, rfl, bp, sN _ nb, by rw [upd_ne e]; exact sm _ _ hb, lw rb, qb, by omega⟩
/-- the whole: what a new list of lists of numbers, of pairs gives -/
theorem jf_start {K : PySem.W.Frag} {Q : List D → Prop} {ad : Addr} {L : List (List D)} {n : Nat} {H1 : Hp} {Nw : Addr → Prop} (hQ : ∀ ds ∈ L, Q ds ∧ ds.length ≤ n) (hne : ∀ ds ∈ L, ∀ d ∈ ds, d.isSc = true ∨ ∃ es, d = .tup es)
    (hR : ∀ ds ∈ L, ∀ (S : Addr → Prop) (vs : List V), RpL K C S H1 vs ds → RpL K C (fun c => S c ∨ ∃ l, H1 c = some (.lst l)) H1 vs ds) (r : Rp K C (fun a => ¬ Nw a) H1 (.ref ad) (.lst (L.map D.lst))) : ∃ xs, xs.length = L.length ∧ JF K C Q ad xs n H1 Nw := by
  cases r with
  | @lst _ xs _ nn h r =>
    refine ⟨xs, by rw [r.len, List.length_map], Classical.not_not.mp nn, h, fun x hx => ?_⟩
    obtain ⟨d, hd, rx⟩ := r.mem hx
    obtain ⟨ds, hds, rfl⟩ := List.mem_map.mp hd
    cases rx with
    | @lst a ys _ na ha ry =>
      refine ⟨a, ys, ds, rfl, fun e => ?_, Classical.not_not.mp na, ha, hR ds hds _ _ ry, hQ ds hds⟩
      subst e
      rw [h] at ha
      injection ha with ha
      injection ha with ha
      subst ha
      obtain ⟨d', hd', rx'⟩ := ry.mem hx
      rcases hne ds hds d' hd' with q | ⟨es, rfl⟩
      · cases rx' <;> cases q
      · cases rx' with
        | tup _ h3 _ => rw [h] at h3; cases h3
theorem hR_int {K : PySem.W.Frag} {H : Hp} {S : Addr → Prop} {vs : List V} {ns : List Int} (r : RpL K C S H vs (dI ns)) : RpL K C (fun c => S c ∨ ∃ l, H c = some (.lst l)) H vs (dI ns) := by
  have e := r.ints
  subst e
  exact RpL.ofInts ns
theorem hR_pr {K : PySem.W.Frag} {H : Hp} {S : Addr → Prop} {v : V} {q : Int × Int} (r : Rp K C S H v (pr q)) : Rp K C (fun c => S c ∨ ∃ l, H c = some (.lst l)) H v (pr q) := by
  obtain ⟨t, rfl, n, h⟩ := r.pair
  exact .tup (fun z => z.elim n fun ⟨l, z⟩ => by rw [h] at z; cases z) h (.cons (.int _) (.cons (.int _) .nil))
theorem hR_prs {K : PySem.W.Frag} {H : Hp} {S : Addr → Prop} : ∀ {vs : List V} {ps : List (Int × Int)}, RpL K C S H vs (dP ps) → RpL K C (fun c => S c ∨ ∃ l, H c = some (.lst l)) H vs (dP ps)
  | [], [], _ => .nil
  | v :: vs, q :: ps, .cons h r => .cons (hR_pr h) (hR_prs r)
end

section
variable {X : Cx} {C : Addr} {env env1 env2 : Env} {d z : D} {st : Stmt} {rest sts body : List Stmt} {J J1 J2 J' : Jt}
theorem fj_exs {ι : Type} {Js : ι → Jt} (h : ∀ i, PSs X sts (tFj X.K C env (Js i) env1 J')) : PSs X sts (tFj X.K C env (fun H N => ∃ i, Js i H N) env1 J') :=
  (PSs.ex h).imp fun Dn σ H ⟨H0, H1, S0, Nw, B, sm, hN, EE, ⟨i, j⟩, k⟩ => ⟨i, H0, H1, S0, Nw, B, sm, hN, EE, j, k⟩
theorem fj_pres (h : PSs X sts (tFj X.K C env1 J1 env2 J2)) (l : Le env env1) (hj : ∀ H N, J H N → J1 H N) : PSs X sts (tFj X.K C env J env2 J2) :=
  h.imp fun Dn σ H ⟨H0, H1, S0, Nw, B, sm, hN, EE, j, k⟩ => ⟨H0, H1, S0, Nw, B, sm, hN, EE.le l, hj _ _ j, k⟩
theorem fj_never (h : ∀ H N, ¬ J H N) : PSs X sts (tFj X.K C env J env1 J1) := (pss_never (sts := sts)).imp fun Dn σ H ⟨H0, H1, S0, Nw, B, sm, hN, EE, j, k⟩ => (h _ _ j).elim
end
end Fw

/-! Fw14: three names set at once, scopes of comprehensions. -/
namespace Fw
open PySem L2 Mt
section
variable {X : Cx} {C : Addr} {E : L2.St → XK} {env : Env} {d da db dc : D} {a b c e : Expr} {pos p : Pos}
theorem sx_par3 (s : Bool) (j1 j2 j3 : Nat) {x1 x2 x3 : Str} {q1 q2 q3 tpos t2 : Pos} {kk k2 : Nat} (ha : PX X C true s a env da) (hb : PX X C true s b env db) (hd : PX X C true s c env dc) (hc : X.calm = true) (hN : X.N.Nodup) (h12 : j1 ≠ j2 := by decide) (h13 : j1 ≠ j3 := by decide) (h23 : j2 ≠ j3 := by decide)
    (h1 : X.N[j1]? = some x1 := by rfl) (h2 : X.N[j2]? = some x2 := by rfl) (h3 : X.N[j3]? = some x3 := by rfl) (l1 : X.env.scope.names.lookup x1 = some .local := by rfl) (l2 : X.env.scope.names.lookup x2 = some .local := by rfl) (l3 : X.env.scope.names.lookup x3 = some .local := by rfl)
    (na : starEach [a, b, c] X.env = (false, eval a X.env) :: starEach [b, c] X.env := by rfl) (nb : starEach [b, c] X.env = (false, eval b X.env) :: starEach [c] X.env := by rfl) (nc : starEach [c] X.env = (false, eval c X.env) :: starEach [] X.env := by rfl)
    (hw : swappedStores [.Tuple [.Name x1 q1, .Name x2 q2, .Name x3 q3] kk tpos] (.Tuple [a, b, c] k2 t2) X.env = pure (some [x1, x2, x3]) := by rfl) (hs : swapsWithSole [.Tuple [.Name x1 q1, .Name x2 q2, .Name x3 q3] kk tpos] (.Tuple [a, b, c] k2 t2) pos.line X.env = pure false := by rfl) :
    SX X C E (.Assign [.Tuple [.Name x1 q1, .Name x2 q2, .Name x3 q3] kk tpos] (.Tuple [a, b, c] k2 t2) pos) env (.nx (((env.set j1 (mkS s da)).set j2 (mkS s db)).set j3 (mkS s dc))) :=
  (ps_par3 hc hN h1 h2 h3 h12 h13 h23 l1 l2 l3 (pas_cons ha (pas_cons hb (pas1 hd nc) nb) na) hw hs).imp fun D σ H ⟨H0, S0, B, EE, k⟩ => ⟨H0, S0, B, EE, fun vs H1 e1 rv => by
    cases rv with
    | cons r1 rv =>
      obtain ⟨w2, w3, rfl, r2, r3⟩ := rv.two
      have up : ∀ {σ : L2.St} {env : Env} {i : Nat} {s' : Bool} {d' : Fw.D} {v : V} {w : V} {d3 : Fw.D}, Rp X.K C (AvO true s S0 B σ env) H1 w d3 → Rp X.K C (AvO true s S0 B (σ.set i (some v)) (env.set i (mkS s' d'))) H1 w d3 := fun r => r.anti fun a z => z.imp (fun z => ⟨rfl, z.2.imp (fun z => ownA_set mkS_own z) id⟩) id
      exact ⟨_, _, _, rfl, k _ _ ((((EE.mono e1).set j1 (mkS s da) _ mkS_own (slR_mk r1)).set j2 (mkS s db) _ mkS_own (slR_mk (up r2))).set j3 (mkS s dc) _ mkS_own (slR_mk (up (up r3))))⟩⟩
end
/-- the scope of the comprehension that a statement stores -/
def lcSc (d : Scope) : Stmt → Scope
  | .Assign _ (.ListComp _ _ sc _) _ => sc
  | _ => d
def encH : Option Int → D
  | none => .non
  | some p => .int p
end Fw
namespace Fw
open PySem L2
/-- the scope of a comprehension within a def of scope d -/
def relS (sc d : Scope) : Scope := relabel sc { scope := d, locals := 0, globals := 0, cells := [] }
end Fw

/-! Fw15: try with several clauses that name the error; what is asked of an error caught. -/
namespace Fw
open PySem PySem.Spec PyProof.Rows L2 Mt
abbrev Cl := Value × (Addr → Value → Option Addr → TS)
/-- the ends of a suite behind which slot i is no more -/
def gone (i : Nat) (Dn : Ends) : Ends := { nx := fun t h => Dn.nx (t.set i none) h, rt := Dn.rt, bk := fun t h => Dn.bk (t.set i none) h, ct := fun t h => Dn.ct (t.set i none) h }
def wA (K : PySem.W.Frag) (i : Nat) (Wo : WX) (Dn : Ends) : List Cl → WX
  | [] => Wo
  | q :: l => fun cls dd t h => ∃ yes, PySem.W.exmOne K cls q.1 = some yes ∧ (yes = true → ∀ ad, h ad = none → q.2 ad cls dd (gone i Dn) (t.set i (some (.ref ad))) h) ∧ (yes = false → wA K i Wo Dn l cls dd t h)
inductive HA (X : Cx) (nm : Str) : List ExceptHandler → List Cl → Prop
  | nil : HA X nm [] []
  | cons {cn : Str} {q : Cl} {s0 : Stmt} {ss : List Stmt} {p1 p2 : Pos} {hs : List ExceptHandler} {l : List Cl} (names : Names X cn q.1) (run : ∀ (ad : Addr) (ob : Obj) (cls : Value) (dd : Option Addr) (pn : List (Addr × Obj)), Zc cls dd ob → (∃ us, ob.data = .fields us) → PSs (X.suite ad ((ad, ob) :: pn)) (s0 :: ss) (q.2 ad cls dd)) (more : HA X nm hs l) :
      HA X nm (.ExceptHandler (some (.Name cn p1)) (some nm) (s0 :: ss) p2 :: hs) (q :: l)
section
variable {X : Cx} {nm : Str} {i : Nat} {body : List Stmt} {c0 : ExceptHandler} {hs : List ExceptHandler} {l : List Cl} {pos : Pos} {tb : WX → TS} {Wo : WX}
theorem ps_tryA (fr : X.stack = X.env :: X.outer) (lo : X.env.frame = some X.env.locals) (nd : X.N.Nodup) (at_ : X.N[i]? = some nm) (kd : X.env.kindOf nm = some .local) (tk : L2.Takes X Wo)
    (hb : ∀ (W : WX) (pn : List (Addr × Obj)) (xe : Value → Shared → Prop), L2.Takes (X.tr pn xe) W → PassesOwn (model X.prog X.w) X.A X.env xe → PSs (X.tr pn xe) body (tb W))
    (cl : HA X nm (c0 :: hs) l) : PS X (.Try body (c0 :: hs) [] [] pos) (fun Dn t h => tb (wA X.K i Wo Dn l) Dn t h) := by
  refine ⟨fun pins s t h Dn I w => ?_⟩
  have good := I.ok
  refine wpAny_Try_except ?_
  refine wpAny_mono ((hb (wA X.K i Wo Dn l) (X.pn ++ pins) (fun er z1 => wpAny (model X.prog X.w) X.A (noteFrame er X.env) (fun _ z2 => wpAny (model X.prog X.w) X.A (setFlight er none)
    (fun _ z3 => wpAny (model X.prog X.w) X.A (handleBy er X.env (c0 :: hs)) (SP X pins Dn) X.xe z3) X.xe z2) X.xe z1) (fun ev z air => ?_) PassesOwn.looking).run [] s t h Dn (I.toTry _) w) (fun fl z en => ?_) (fun _ _ g => g)
  · obtain ⟨ad, Bs, zI, pi2, t2, h2, cls, dd, rfl, J1, fresh, ups, sky0, none0, ose, bare, asked⟩ := air
    have J := Inv.ofTry J1 good
    have frames : X.A.frames = some (X.env :: X.outer) := by rw [good.frames, fr]
    have sky : Sky Bs (X.env :: X.outer) ad (Zc cls dd) X.env.locals z.heap := by rw [← fr]; exact sky0
    show wpAny _ X.A (noteFrame (.ref ad) X.env) _ _ _
    refine Sky.land Zc.steady frames lo sky fun k3 fly up3 => ?_
    have J3 : Inv X pins t2 h2 { z with heap := k3 } := Inv.landed J fresh fly.1 (ups.trans up3) ose bare
    obtain ⟨ob3, us3, get3, zc3, dat3⟩ := fly.there
    have apart : ad ∉ frs (X.env :: X.outer) := fun mem => by
      obtain ⟨_, o', e', nf⟩ := fly.2.2.1.mem mem
      rw [get3] at e'; cases e'
      exact nf _ dat3
    have nl : ad ≠ X.env.locals := fun e => apart (List.mem_filterMap.mpr ⟨X.env, List.mem_cons_self, by rw [lo, e]⟩)
    have nf : ad ∉ X.fs := fun mem => by
      obtain ⟨en, hen, q⟩ := List.mem_filterMap.mp mem
      exact apart (List.mem_filterMap.mpr ⟨en, List.mem_cons_of_mem _ hen, q⟩)
    have Sx := J3.suite get3 dat3 none0 nl nf
    have each : ∀ {hs' : List ExceptHandler} {l' : List Cl}, HA X nm hs' l' → wA X.K i Wo Dn l' cls dd t2 h2 → wpAny (model X.prog X.w) X.A (handleBy (.ref ad) X.env hs') (SP X pins Dn) X.xe { z with heap := k3 } := fun {hs' l'} k => by
      induction k with
      | nil =>
        intro out
        refine wpAny_handleBy_nil ?_
        obtain ⟨_, _, _, _, _, T, _, _, g1, _, g2, g3, _⟩ := id fly
        unfold PySem.passOn
        refine wpAny_bind (wpAny_field g1 g2 g3 ?_)
        rw [if_neg (show ¬ ((Value.ref T == Value.none) = true) by simp)]
        have go : wpAny (model X.prog X.w) X.A (setFlight (.ref ad) X.env.frame) (fun _ z4 => wpAny (model X.prog X.w) X.A (throw (.ref ad) : Sem Flow) (SP X pins Dn) X.xe z4) X.xe { z with heap := k3 } := by
          rw [lo]
          exact HandSPX.setFlight_upZ fly fun k4 held up4 => wpAny_throw (tk _ _ ⟨ad, Bs, zI, pins, t2, h2, cls, dd, rfl, J, fresh, (ups.trans up3).trans up4, .inr (.inr (by rw [fr]; exact held)), none0, ose, bare, out⟩)
        first
          | exact wpAny_bind (wpAny_pure (wpAny_bind go))
          | exact wpAny_bind go
      | @cons cn q s0 ss p1 p2 hs2 l2 names run more ih =>
        rintro ⟨yes, known, y1, y2⟩
        refine wpAny_handleBy_cons (codeAny_handlers_test ?_) (fun e => nomatch e)
        have ty : PySem.W.Looks (model X.prog X.w) k3 (typeOf (.ref ad)) cls := fun _ _ _ _ st g => wpAny_typeOf_ref (st _ _ get3) (by rw [zc3.1]; exact g)
        have mt := PySem.W.exm_one (M := model X.prog X.w) J3.kIn ty known
        have name : ∀ {Q E : Value → Shared → Prop}, Q q.1 { z with heap := k3 } → wpAny (model X.prog X.w) (X.A.mark (some (.ref ad))) (eval (.Name cn p1) X.env) Q E { z with heap := k3 } := fun g => by
          rcases names with ⟨n1, n2, n3 | ⟨n3, n4, n5⟩⟩
          · exact ld_glob (X := X.suite ad ((ad, ob3) :: (X.pn ++ pins))) Sx n1 n3 g n2
          · exact ld_blt (X := X.suite ad ((ad, ob3) :: (X.pn ++ pins))) Sx n1 n3 n4 g n5 n2
        refine name (mt.here ?_)
        cases yes with
        | false => exact ih (y2 rfl)
        | true =>
          refine codeAny_handlers_suite_as (HandSPX.lands_againZ fly fun k4 fly4 up4 => ?_)
          have J4 : Inv X pins t2 h2 { z with heap := k4 } := Inv.landed J fresh fly4.1 ((ups.trans up3).trans up4) ose bare
          obtain ⟨ob4, us4, get4, zc4, dat4⟩ := fly4.there
          refine store_ok (X := X.suite ad ((ad, ob4) :: (X.pn ++ pins))) (v := .ref ad) (J4.suite get4 dat4 none0 nl nf) nd at_ (.inl kd) rfl (fun z5 S5 => ?_) (.inr kd)
          refine wpAny_mono ((run ad ob4 cls dd (X.pn ++ pins) zc4 ⟨_, dat4⟩).run [] z5 _ h2 _ S5 (y1 rfl ad none0)) (fun fl z6 en => ?_) (fun _ _ no => False.elim no)
          have shut : ∀ {t6 : L2.St} {h6 : Hp} {G : Shared → Prop}, Inv (X.suite ad ((ad, ob4) :: (X.pn ++ pins))) [] t6 h6 z6 → (∀ z7, Inv X pins (t6.set i none) h6 z7 → G z7) → wpAny (model X.prog X.w) X.A (do bindName X.env nm .none; unbindBehindTheSuite X.env nm p2) (fun _ z7 => G z7) X.xe z6 :=
            fun S6 g => gone_ok (S6.unsuite good) nd at_ kd g
          cases fl with
          | ret _ => rcases en with ⟨v6, t6, h6, S6, r6, g6⟩; exact shut S6 fun _ J7 => ⟨_, _, _, J7, r6, g6⟩
          | next => rcases en with ⟨t6, h6, S6, g6⟩; exact shut S6 fun _ J7 => ⟨_, _, J7, g6⟩
          | brk => rcases en with ⟨t6, h6, S6, g6⟩; exact shut S6 fun _ J7 => ⟨_, _, J7, g6⟩
          | cont => rcases en with ⟨t6, h6, S6, g6⟩; exact shut S6 fun _ J7 => ⟨_, _, J7, g6⟩
    exact each cl asked
  · cases fl with
    | ret _ => rcases en with ⟨v1, t1, h1, J1, r1, g1⟩; exact ⟨v1, t1, h1, J1.ofTry good, r1, g1⟩
    | next => rcases en with ⟨t1, h1, J1, g1⟩; exact wpAny_execs_nil ⟨t1, h1, J1.ofTry good, g1⟩
    | brk => rcases en with ⟨t1, h1, J1, g1⟩; exact ⟨t1, h1, J1.ofTry good, g1⟩
    | cont => rcases en with ⟨t1, h1, J1, g1⟩; exact ⟨t1, h1, J1.ofTry good, g1⟩
end
end Fw
namespace Fw
open PySem L2 Mt
section
variable {X : Cx} {C : Addr} {E : L2.St → XK} {o s : Bool} {env : Env} {d : D} {nm : Str} {i : Nat} {body : List Stmt} {c0 : ExceptHandler} {hs : List ExceptHandler} {l : List Cl} {pos p p2 p3 : Pos} {cc : Addr}
/-- the body lets nothing out, and gives d -/
theorem sx_tryR (fr : X.stack = X.env :: X.outer) (lo : X.env.frame = some X.env.locals) (nd : X.N.Nodup) (at_ : X.N[i]? = some nm) (kd : X.env.kindOf nm = some .local)
    (hb : ∀ (W : WX) (pn : List (Addr × Obj)) (xe : Value → Shared → Prop), L2.Takes (X.tr pn xe) W → SXs (X.tr pn xe) C (fun σ cls dd H => W cls dd σ H) body env (.rt d)) (cl : HA X nm (c0 :: hs) l) : SX X C E (.Try body (c0 :: hs) [] [] pos) env (.rt d) :=
  (ps_tryA (tb := fun W => tS X.K C (fun σ cls dd H => W cls dd σ H) env (.rt d)) (Wo := fun _ _ _ _ => False) fr lo nd at_ kd takes0 (fun W pn xe tk _ => hb W pn xe tk) cl).imp fun Dn σ H ⟨H0, S0, B, EE, k⟩ => ⟨H0, S0, B, EE, k⟩
/-- the body lets an error of the class cc out -/
theorem sx_tryX (fr : X.stack = X.env :: X.outer) (lo : X.env.frame = some X.env.locals) (nd : X.N.Nodup) (at_ : X.N[i]? = some nm) (kd : X.env.kindOf nm = some .local)
    (hb : ∀ (W : WX) (pn : List (Addr × Obj)) (xe : Value → Shared → Prop), L2.Takes (X.tr pn xe) W → SXs (X.tr pn xe) C (fun σ cls dd H => W cls dd σ H) body env (.xc cc env)) (cl : HA X nm (c0 :: hs) l)
    (hw : ∀ (H0 : Hp) (S0 B : Addr → Prop) (Dn : Ends) (σ : L2.St) (H : Hp), EnvR X.K C H0 S0 B H σ env → (∀ v H', Same H0 H' → Rp X.K C S0 H' v d → Dn.rt v H') → wA X.K i (fun _ _ _ _ => False) Dn l (.ref cc) none σ H) : SX X C E (.Try body (c0 :: hs) [] [] pos) env (.rt d) :=
  (ps_tryA (tb := fun W => tS X.K C (fun σ cls dd H => W cls dd σ H) env (.xc cc env)) (Wo := fun _ _ _ _ => False) fr lo nd at_ kd takes0 (fun W pn xe tk _ => hb W pn xe tk) cl).imp fun Dn σ H ⟨H0, S0, B, EE, k⟩ => ⟨H0, S0, B, EE, fun σ' H' E' => hw H0 S0 B Dn σ' H' E' k⟩
/-- a suite's reading: of an error of the class cc, it gives d -/
def tSu (K : PySem.W.Frag) (C cc : Addr) (i : Nat) (env : Env) (d : D) : Addr → Value → Option Addr → TS := fun ad cls dd Dn σ H => cls = .ref cc ∧ dd = none ∧ tS K C (fun _ => E0) (env.set i (.raw (.ref ad))) (.rt d) Dn σ H
theorem su_of {sts : List Stmt} (h : ∀ (ad : Addr) (ob : Obj) (pn : List (Addr × Obj)), Zc (.ref cc) none ob → (∃ us, ob.data = .fields us) → SXs (X.suite ad ((ad, ob) :: pn)) C (fun _ => E0) sts (env.set i (.raw (.ref ad))) (.rt d)) :
    ∀ (ad : Addr) (ob : Obj) (cls : Value) (dd : Option Addr) (pn : List (Addr × Obj)), Zc cls dd ob → (∃ us, ob.data = .fields us) → PSs (X.suite ad ((ad, ob) :: pn)) sts (tSu X.K C cc i env d ad cls dd) := fun ad ob cls dd pn hz hf =>
  ⟨fun pins s σ H D I ⟨e1, e2, q⟩ => by subst e1 e2; exact (h ad ob pn hz hf).run pins s σ H D I q⟩
/-- the first clause that names it -/
theorem wA_yes {K : PySem.W.Frag} {c : Value} {H0 : Hp} {S0 B : Addr → Prop} {Dn : Ends} {σ : L2.St} {H : Hp} (hx : PySem.W.exmOne K (.ref cc) c = some true) (EE : EnvR K C H0 S0 B H σ env) (k : ∀ v H', Same H0 H' → Rp K C S0 H' v d → Dn.rt v H') : wA K i (fun _ _ _ _ => False) Dn ((c, tSu K C cc i env d) :: l) (.ref cc) none σ H :=
  ⟨true, hx, fun _ ad _ => ⟨rfl, rfl, H0, S0, B, EE.set i (.raw (.ref ad)) (.ref ad) rfl rfl, k⟩, fun h => nomatch h⟩
theorem wA_no {K : PySem.W.Frag} {q : Cl} {Dn : Ends} {σ : L2.St} {H : Hp} (hx : PySem.W.exmOne K (.ref cc) q.1 = some false) (h : wA K i (fun _ _ _ _ => False) Dn l (.ref cc) none σ H) : wA K i (fun _ _ _ _ => False) Dn (q :: l) (.ref cc) none σ H := ⟨false, hx, (fun z => Bool.noConfusion z), fun _ => h⟩
/-- isinstance(e, T), e the error caught -/
theorem px_isE {ad : Addr} {ob : Obj} {pn : List (Addr × Obj)} {en tn : Str} {tc : Addr} {b : Bool} (j : Nat) (Cc : ExcC X.K cc) (hz : Zc (.ref cc) none ob) (hf : ∃ us, ob.data = .fields us) (hi : env[j]? = some (.raw (.ref ad))) (hm : X.mg "isinstance" = none) (hT : X.mg tn = some (.ref tc)) (hk : PySem.W.kitOne X.K (.ref cc) (.ref tc) = some b)
    (hN : X.N[j]? = some en := by rfl) (hv : Vis X.env.scope en := by first | exact Or.inl rfl | exact Or.inr (Or.inl rfl)) (hd : (en == ("__debug__" : Str)) = false := by decide) (hcd : (en == ("__classdict__" : Str)) = false := by decide) (hg : Gl X "isinstance" := by rfl) (hg2 : Gl X tn := by rfl) (hd2 : (tn == ("__debug__" : Str)) = false := by decide)
    (na : starEach [.Name en p2, .Name tn p3] X.env = (false, eval (.Name en p2) X.env) :: starEach [.Name tn p3] X.env := by rfl) (nb : starEach [.Name tn p3] X.env = (false, eval (.Name tn p3) X.env) :: starEach [] X.env := by rfl) (hpl : (backTo pos (starEach [.Name tn p3] X.env)).any (·.1) = false := by rfl) :
    PX (X.suite ad ((ad, ob) :: pn)) C o s (.Call (.Name "isinstance" p) [.Name en p2, .Name tn p3] [] pos) env (.bl b) :=
  (pe_callB (call_isE Cc hz hf) hg hm PyProof.Rows.boot_isinstance (pa_cons (pe_var (i := j) hN hv hd hcd) (pa_cons (pe_glob (v := .ref tc) hg2 hT rfl hd2) pa_nil nb) na) (by decide) (by decide) na hpl).imp fun σ H Q ⟨H0, S0, B, EE, k⟩ =>
    ⟨_, EE.slot j _ hi, .ref tc, .ref tc, b, rfl, fun u h => h, hk, k _ H (Same.refl H) (.ofSc rfl)⟩
end
/-- what is known of a class -/
structure ClsE (K : PySem.W.Frag) (c : Addr) : Prop where
  b : PySem.W.subIn K (.ref c) (.type "BaseException") = some true
  i : PySem.W.isClsIn K c = true
  t : PySem.W.typeIn K (.ref c) = some (.type "type")
theorem kitCls_of {K : PySem.W.Frag} {a c : Addr} {b : Bool} (q : ClsE K c) (h : PySem.W.subIn K (.ref a) (.ref c) = some b) : PySem.W.kitCls K (.ref a) (.ref c) = some b := by
  unfold PySem.W.kitCls
  have e : ((PySem.W.clsIn K c).isSome && PySem.W.typeIn K (.ref c) == some (.type "type")) = true := by
    rw [show (PySem.W.clsIn K c).isSome = true from q.i, q.t]; rfl
  show (if ((PySem.W.clsIn K c).isSome && PySem.W.typeIn K (.ref c) == some (.type "type")) = true then _ else _) = _
  rw [if_pos e]
  exact h
theorem exm_of {K : PySem.W.Frag} {a c : Addr} {b : Bool} (q : ClsE K c) (h : PySem.W.subIn K (.ref a) (.ref c) = some b) : PySem.W.exmOne K (.ref a) (.ref c) = some b := by
  unfold PySem.W.exmOne
  rw [if_pos (by rw [q.b]; rfl)]
  exact kitCls_of q h
theorem kit_of {K : PySem.W.Frag} {a c : Addr} {b : Bool} (q : ClsE K c) (h : PySem.W.subIn K (.ref a) (.ref c) = some b) (h2 : PySem.W.subIn K (.ref c) (.ref c) = some true) : PySem.W.kitOne K (.ref a) (.ref c) = some b := by
  unfold PySem.W.kitOne
  by_cases e : a = c
  · subst e
    rw [h2] at h
    rw [if_pos (by simp)]; exact h
  · rw [if_neg (by simpa using e)]
    exact kitCls_of q h
end Fw

/-! Fw16: count and index of lists. -/
namespace Fw
open PySem L2 Mt
def rCntB (K : PySem.W.Frag) : V → List V → Hp → VK → Prop := fun x xs H Q => ∃ (ad : Addr) (bs : List Bool) (k : Bool), x = .ref ad ∧ xs = [.bl k] ∧ SqL K H ad (bs.map V.bl) ∧ Q (.int (bs.count k : Nat)) H
theorem vals_bl : ∀ {bs : List Bool} {us : List Value}, Vals (bs.map V.bl) us → us = bs.map Value.bool
  | [], _, .nil => rfl
  | b :: bs, _, .cons r t => by
    cases r
    rw [vals_bl t]; rfl
theorem cntB (k : Bool) : ∀ bs : List Bool, (bs.map Value.bool).countP (PyProof.Rows.isBoolOf k) = bs.count k
  | [] => rfl
  | b :: bs => by
    rw [List.map_cons, List.countP_cons, List.count_cons, cntB k bs]; rfl
theorem mt_cntB {X : Cx} : MtR X "list.count" (rCntB X.K) := by
  intro pins st σ H x xs v us Q I rx rs h
  obtain ⟨ad, bs, k, rfl, rfl, sq, q⟩ := h
  cases rx
  obtain ⟨u, rfl, ru⟩ := rs.one
  cases ru
  obtain ⟨its, rv, ⟨⟨cl, dc, da, sl⟩, n, there, c1, c2, c3⟩, _⟩ := I.list sq
  simp only at c1 c3
  subst c1 c3
  have e := vals_bl rv
  subst e
  refine call_meets PySem.F.slot_list_count ⟨_, there, rfl⟩ PySem.F.entry_list_count (PySem.F.args_list_count_2 _ _) (SeqAt.list_countAt ad (bs.map Value.bool).toArray n dc sl (.bool k) (PyProof.Rows.isBoolOf k))
    ⟨there, fun y hy => ?_, ⟨.int (bs.count k : Nat), H, I.tok _, ⟨st.toks, ?_⟩, q⟩⟩
  · obtain ⟨b, _, rfl⟩ := List.mem_map.mp (show y ∈ bs.map Value.bool by simpa using hy)
    exact SeqAt.EqAt.bool_bool b k
  · show Value.int (((bs.map Value.bool).countP (PyProof.Rows.isBoolOf k) : Nat) : Int) st.toks = _
    rw [cntB]
section
variable {X : Cx} {C : Addr} {o s : Bool} {env : Env} {ob e : Expr} {apos cpos : Pos}
theorem px_count {ns : List Int} {k : Int} (ho : PX X C false false ob env (.lst (dI ns))) (he : PX X C false false e env (.int k)) (hbase : attributeBase ob "count" X.env (eval ob X.env) = eval ob X.env := by rfl)
    (hfew : ((backTo cpos (starEach [e] X.env)).all (fun x => !x.1) && (backToKw cpos (keywordEach [] X.env)).all (fun x => x.1.isSome) && decide (([e] : List Expr).length + ([] : List Keyword).length + (if ([] : List Keyword).isEmpty then 0 else 1) < 30)) = true := by rfl)
    (hline : (apos.endLine == cpos.line) = true := by rfl) (na : starEach [e] X.env = (false, eval e X.env) :: starEach [] X.env := by rfl) (hplain : (backTo cpos (starEach [] X.env)).any (·.1) = false := by rfl) :
    PX X C o s (.Call (.Attribute ob "count" apos) [e] [] cpos) env (.int (ns.count k : Nat)) :=
  (pe_bm PySem.F.plainAttrs_list PySem.F.slot_list_count PySem.F.type_list_count mt_lcount ho (pas1 he na) hbase hfew hline na hplain).imp fun σ H Q ⟨H0, S0, B, E, q⟩ => ⟨H0, S0, B, E, fun v H1 e1 r => by
    cases r with
    | lst n h r =>
      have e := r.ints
      subst e
      exact ⟨lst_ty h, H0, S0, B, E.mono e1, fun vs H2 e2 r2 => by
        obtain ⟨w, rfl, rw'⟩ := r2.one
        cases rw'
        exact ⟨_, ns, k, rfl, rfl, SqL.of (e2 _ _ h), q _ H2 (e1.trans e2) (.ofSc rfl)⟩⟩⟩
theorem px_countB {bs : List Bool} {k : Bool} (ho : PX X C false false ob env (.lst (bs.map D.bl))) (he : PX X C false false e env (.bl k)) (hbase : attributeBase ob "count" X.env (eval ob X.env) = eval ob X.env := by rfl)
    (hfew : ((backTo cpos (starEach [e] X.env)).all (fun x => !x.1) && (backToKw cpos (keywordEach [] X.env)).all (fun x => x.1.isSome) && decide (([e] : List Expr).length + ([] : List Keyword).length + (if ([] : List Keyword).isEmpty then 0 else 1) < 30)) = true := by rfl)
    (hline : (apos.endLine == cpos.line) = true := by rfl) (na : starEach [e] X.env = (false, eval e X.env) :: starEach [] X.env := by rfl) (hplain : (backTo cpos (starEach [] X.env)).any (·.1) = false := by rfl) :
    PX X C o s (.Call (.Attribute ob "count" apos) [e] [] cpos) env (.int (bs.count k : Nat)) :=
  (pe_bm PySem.F.plainAttrs_list PySem.F.slot_list_count PySem.F.type_list_count mt_cntB ho (pas1 he na) hbase hfew hline na hplain).imp fun σ H Q ⟨H0, S0, B, E, q⟩ => ⟨H0, S0, B, E, fun v H1 e1 r => by
    cases r with
    | lst n h r =>
      have e := r.bls
      subst e
      exact ⟨lst_ty h, H0, S0, B, E.mono e1, fun vs H2 e2 r2 => by
        obtain ⟨w, rfl, rw'⟩ := r2.one
        cases rw'
        exact ⟨_, bs, k, rfl, rfl, SqL.of (e2 _ _ h), q _ H2 (e1.trans e2) (.ofSc rfl)⟩⟩⟩
/-- xs.index(k), k at place j and nowhere ahead -/
theorem px_index {ns : List Int} {k : Int} {j : Nat} (ho : PX X C false false ob env (.lst (dI ns))) (he : PX X C false false e env (.int k)) (hj : ns[j]? = some k) (hno : ∀ m : Nat, m < j → ns[m]? ≠ some k) (hbase : attributeBase ob "index" X.env (eval ob X.env) = eval ob X.env := by rfl)
    (hfew : ((backTo cpos (starEach [e] X.env)).all (fun x => !x.1) && (backToKw cpos (keywordEach [] X.env)).all (fun x => x.1.isSome) && decide (([e] : List Expr).length + ([] : List Keyword).length + (if ([] : List Keyword).isEmpty then 0 else 1) < 30)) = true := by rfl)
    (hline : (apos.endLine == cpos.line) = true := by rfl) (na : starEach [e] X.env = (false, eval e X.env) :: starEach [] X.env := by rfl) (hplain : (backTo cpos (starEach [] X.env)).any (·.1) = false := by rfl) :
    PX X C o s (.Call (.Attribute ob "index" apos) [e] [] cpos) env (.int (j : Nat)) :=
  (pe_bm PySem.F.plainAttrs_list PySem.F.slot_list_index PySem.F.type_list_index mt_index ho (pas1 he na) hbase hfew hline na hplain).imp fun σ H Q ⟨H0, S0, B, E, q⟩ => ⟨H0, S0, B, E, fun v H1 e1 r => by
    cases r with
    | lst n h r =>
      have e := r.ints
      subst e
      exact ⟨lst_ty h, H0, S0, B, E.mono e1, fun vs H2 e2 r2 => by
        obtain ⟨w, rfl, rw'⟩ := r2.one
        cases rw'
        refine ⟨_, ns.map V.int, .int k, j, .int k, rfl, rfl, SqL.of (e2 _ _ h), rfl, flat_ints ns, by rw [List.getElem?_map, hj]; rfl, beq_self_eq_true k, fun m z' hm hz => ?_, q _ H2 (e1.trans e2) (.ofSc rfl)⟩
        rw [List.getElem?_map] at hz
        cases y : ns[m]? with
        | none => rw [y] at hz; cases hz
        | some n2 =>
          rw [y] at hz
          cases hz
          show (n2 == k) = false
          exact beq_eq_false_iff_ne.mpr fun e => hno m hm (by rw [y, e])⟩⟩
end
end Fw

/-! Fw17: tuples of lists. -/
namespace Fw
open PySem L2 Mt
section
variable {X : Cx} {C : Addr} {o s : Bool} {env : Env} {a : Expr} {pos p : Pos}
theorem px_tupI {ns : List Int} (hm : X.mg "tuple" = none) (ha : PX X C false false a env (.lst (dI ns))) (hg : Gl X "tuple" := by rfl) (na : starEach [a] X.env = (false, eval a X.env) :: starEach [] X.env := by rfl) (hpl : (backTo pos (starEach [] X.env)).any (·.1) = false := by rfl) :
    PX X C o s (.Call (.Name "tuple" p) [a] [] pos) env (.tup (dI ns)) :=
  (pe_callTy call_tuple_of hg hm PyProof.Rows.boot_tuple (pas1 ha na) (by decide) (by decide) na hpl).imp fun σ H Q ⟨H0, S0, B, E, k⟩ => ⟨H0, S0, B, E, fun vs H1 e1 r1 => by
    obtain ⟨v, rfl, r2⟩ := r1.one
    cases r2 with
    | lst n h r =>
      have q := r.ints
      subst q
      exact ⟨_, _, rfl, .inl ⟨SqL.of h, fun l hl => k _ _ (e1.trans (same_new hl)) (.tup (fun z => AvO.some (E.mono e1) z hl) upd_same (RpL.ofInts _))⟩⟩⟩
end
end Fw

/-! Fw18: a comprehension's list of new data, changed within. -/
namespace Fw
open PySem L2 Mt
def noD : Sl → Bool
  | .dat _ => false
  | .own _ => false
  | .dct _ => false
  | _ => true
/-- slots that tell nothing of S0: it may be all that stands -/
theorem EnvR.anyS {K : PySem.W.Frag} {C : Addr} {H0 : Hp} {S0 B : Addr → Prop} {H : Hp} {σ : L2.St} {env : Env} (E : EnvR K C H0 S0 B H σ env) (hn : env.all noD = true) : EnvR K C (reb H (OwnB B σ env)) (fun a => H a ≠ none ∧ ¬ OwnB B σ env a) B H σ env := by
  have E' := E.rebase
  refine ⟨E'.base, fun a z => by rw [reb_out z.2]; exact z.1, E'.bar, E'.len, fun i t ht => ?_, E'.inj⟩
  have q := E'.slot i t ht
  have nd : noD t = true := List.all_eq_true.mp hn t (List.mem_of_getElem? ht)
  cases t with
  | emp => trivial
  | raw v => exact q
  | bor d => exact q
  | bvr v d => exact q
  | dat d => cases nd
  | own ds => cases nd
  | dct kvs => cases nd
section
variable {X : Cx} {C : Addr} {E : L2.St → XK} {env env1 b : Env} {ds : List D} {z : D} {elt tg iter : Expr} {ifs : List Expr} {scope : Scope} {own : List (Str × Nat)} {pos : Pos} {s : Bool} {g : TG} {u : Bool → D → Env → Env} {ok : D → Prop} {js : List Nat} {α : Type} {rest : List Stmt} {J J' : Jt}
/-- y = [elt for tg in iter]; then what changes it; to the end. b: the slots, as what only stands -/
theorem fj_wholeLc (l : List α) (enc : α → D) (f : α → Bool) (h : α → D) (hds : ds = l.map enc) (i : Nat) {y : Str} {py spos : Pos} (hb : Le env b) (hnd : b.all noD = true) (hn : env.all noB = true) (hc : X.calm = true) (hN : X.N.Nodup) (hy : X.N[i]? = some y) (hyl : X.env.scope.names.lookup y = some .local)
    (hsw : swapsWith (.ListComp elt [⟨tg, iter, ifs, 0⟩] scope pos) (some (.Name y py)) spos.line X.env = pure true) (hi : PI X tg iter (tI X.K C s b ds)) (bk : BlkOk X.N X.env.scope scope own) (T : TgR X.K C g u ok js)
    (hg : ∀ (s : Shared) (H : Hp) (C : Addr) (cl : List (Str × Addr)) (fp : List Addr), PG (X.blk s H scope (compEnvC scope cl C X.env) fp) tg g)
    (hok : ∀ x ∈ l, ok (enc x)) (hjs : ∀ j ∈ js, j ∈ own.map (·.2)) (hw : ((own.map (·.2)).all fun j => !(b.getD j .emp).isOwn) = true) (hz : l.length ≤ 1000000)
    (ht : ∀ x ∈ l, ∀ (s' : Shared) (H : Hp) (Cc : Addr) (cl : List (Str × Addr)) (fp : List Addr), PTss (X.blk s' H scope (compEnvC scope cl Cc X.env) fp) C ifs (u s (enc x) (wipeE b (own.map (·.2)))) (f x))
    (he : ∀ x ∈ l, f x = true → ∀ (s' : Shared) (H : Hp) (Cc : Addr) (cl : List (Str × Addr)) (fp : List Addr), PX (X.blk s' H scope (compEnvC scope cl Cc X.env) fp) C true true elt (u s (enc x) (wipeE b (own.map (·.2)))) (h x))
    (hr : ∀ v, PSs X rest (tFj X.K C (env.set i (.bvr v (.lst ((l.filter f).map h)))) (fun H1 Nw => ∃ p xs, v = .ref p ∧ Nw p ∧ H1 p = some (.lst xs) ∧ RpL X.K C (fun a => ¬ Nw a ∨ a = p) H1 xs ((l.filter f).map h)) env1 (fun _ _ => True)))
    (hs : ∀ x, foldedSetIterable iter X.env x = pure x := by intro _; rfl) : SXs X C E (.Assign [.Name y py] (.ListComp elt [⟨tg, iter, ifs, 0⟩] scope pos) spos :: rest) env (.nx env1) :=
  (pss_cons (ps_setLc hc hN hy hyl hsw hi bk hg (fun s' H Cc cl fp => PTs.ex (ι := { x : α // x ∈ l }) (t := fun q => tT X.K C (u s (enc q.1) (wipeE b (own.map (·.2)))) (f q.1)) fun q => ht q.1 q.2 s' H Cc cl fp) (fun s' H Cc cl fp => PE.ex (ι := { x : α // x ∈ l ∧ f x = true }) (t := fun q => tD X.K C true true (u s (enc q.1) (wipeE b (own.map (·.2)))) (h q.1)) fun q => he q.1 q.2.1 q.2.2 s' H Cc cl fp) hs) (PSs.ex hr)).imp fun Dn σ H ⟨H0, S0, B, EE, k⟩ => by
    have Eb := (EE.le hb).anyS hnd
    unfold tSeq tAsg
    refine lc_imp (s := s) (env := b) l enc f h hds T hok hjs hw hz σ H _ ⟨_, _, B, Eb, fun p xs H' sm hp h1 r => ?_⟩
    have E1 := EE.addS sm hn
    have hnw : ∀ a, H a = none ∧ H' a ≠ none → reb H' (OwnB B σ env) a = H' a := fun a z => reb_out (fun c => (EE.ours c).2 z.1)
    have np : H p = none ∧ H' p ≠ none := ⟨hp, fun y => by rw [h1] at y; cases y⟩
    -- all that stood is barred
    have r0 : RpL X.K C (fun a => H a ≠ none ∨ a = p) H' xs ((l.filter f).map h) := r.anti fun a z => z.elim (fun z => .inl (by
      by_cases c : OwnB B σ b a
      · exact .inl ⟨rfl, c⟩
      · exact .inr ⟨rfl, z, c⟩)) .inr
    have r1 : RpL X.K C (fun a => ¬ (H a = none ∧ H' a ≠ none) ∨ a = p) (reb H' (OwnB B σ env)) xs ((l.filter f).map h) := r0.weak (fun a o n q => by
      have hz : H a = none := by
        cases z : H a with
        | none => rfl
        | some u => exact absurd (.inl (fun y => by rw [y] at z; cases z)) n
      rw [hnw a ⟨hz, fun y => by rw [q] at y; cases y⟩]; exact q) (fun a o q z => z.imp (fun z w => z ⟨w, fun y => by rw [q] at y; cases y⟩) id)
    refine ⟨.ref p, H0, reb H' (OwnB B σ env), S0, (fun a => H a = none ∧ H' a ≠ none), B, (EE.mono sm).toReb, fun a z => same_none EE.base z.1, E1.set i _ (.ref p) rfl ⟨rfl, ?_⟩, ⟨p, xs, rfl, np, by rw [hnw p np]; exact h1, r1⟩, fun σ2 H2 H1' Nw' s2 n2 E2 _ => k σ2 H2 (E2.unS s2 (fun a z => .inl z) EE.sub)⟩
    exact .lst (fun z => (EE.ours z).2 hp) h1 (r0.anti fun a z => .inl (EE.ours z).2)
/-- what stands somewhere grows: ob gives the list at ad -/
theorem fj_appendG {ad : Addr} {ob e : Expr} {apos cpos : Pos} {tob : TE} (he : PNw X C e env z) (hob : PE X ob tob) (hob2 : ∀ (σ : L2.St) (H H0 H1 : Hp) (S0 Nw B : Addr → Prop), EnvR X.K C H1 (fun a => S0 a ∨ Nw a) B H σ env → J H1 Nw → Same H0 H1 → ∀ Q : VK, Q (.ref ad) H → tob σ H Q) (hn : env.all noB = true)
    (hJ : ∀ H1 Nw, J H1 Nw → Nw ad ∧ ∃ ys, H1 ad = some (.lst ys) ∧ ys.length < 1000000 ∧ ∀ H2 Nw2 w, Same H1 H2 → (∀ b, Nw b → Nw2 b) → Rp X.K C (fun b => ¬ Nw2 b) H2 w z → J' (upd H2 ad (.lst (ys ++ [w]))) Nw2)
    (hbase : attributeBase ob "append" X.env (eval ob X.env) = eval ob X.env := by rfl) (hfew : ((backTo cpos (starEach [e] X.env)).all (fun x => !x.1) && (backToKw cpos (keywordEach [] X.env)).all (fun x => x.1.isSome)
      && decide (([e] : List Expr).length + ([] : List Keyword).length + (if ([] : List Keyword).isEmpty then 0 else 1) < 30)) = true := by rfl)
    (hline : (apos.endLine == cpos.line) = true := by rfl) (na : starEach [e] X.env = (false, eval e X.env) :: starEach [] X.env := by rfl) (hplain : (backTo cpos (starEach [] X.env)).any (·.1) = false := by rfl)
    (hs : swapsWith (.Call (.Attribute ob "append" apos) [e] [] cpos) none pos.line X.env = pure false := by rfl) :
    PS X (.Expr (.Call (.Attribute ob "append" apos) [e] [] cpos) pos) (tFj X.K C env J env J') :=
  (ps_expr (pe_bm PySem.F.plainAttrs_list PySem.F.slot_list_append PySem.F.type_list_append mt_append hob (pa_cons he pa_nil na) hbase hfew hline na hplain) hs).imp fun Dn σ H ⟨H0, H1, S0, Nw, B, sm, hNw, EE, j, k⟩ => by
    obtain ⟨na, ys, h1, hz, hJ'⟩ := hJ H1 Nw j
    have hH := EE.base _ _ h1
    refine hob2 σ H H0 H1 S0 Nw B EE j sm _ ⟨lst_ty hH, H1, _, B, EE, fun w H2 s2 r => ?_⟩
    have E2 := EE.addS s2 hn
    have sr : Same H1 (reb H2 (OwnB B σ env)) := (EE.mono s2).toReb
    have hnw : ∀ b, H b = none ∧ H2 b ≠ none → reb H2 (OwnB B σ env) b = H2 b := fun b z => reb_out (fun c => (EE.ours c).2 z.1)
    have r1 : Rp X.K C (fun b => ¬ (Nw b ∨ (H b = none ∧ H2 b ≠ none))) (reb H2 (OwnB B σ env)) w z := r.weak (fun b o n q => by
      have hz : H b = none := by
        cases z : H b with
        | none => rfl
        | some u => exact absurd (fun y => by rw [y] at z; cases z) n
      rw [hnw b ⟨hz, fun y => by rw [q] at y; cases y⟩]; exact q) (fun b o q z w => z (.inr ⟨w, fun y => by rw [q] at y; cases y⟩))
    have mv : ∀ a, (S0 a ∨ (Nw a ∨ (H a = none ∧ H2 a ≠ none))) → ((S0 a ∨ Nw a) ∨ (H a = none ∧ H2 a ≠ none)) := fun a z => by
      rcases z with z | z | z
      · exact .inl (.inl z)
      · exact .inl (.inr z)
      · exact .inr z
    have E3 : EnvR X.K C (reb H2 (OwnB B σ env)) (fun a => S0 a ∨ (Nw a ∨ (H a = none ∧ H2 a ≠ none))) B H2 σ env := E2.unS (Same.refl _) mv (fun a z => E2.sub a (mv a z))
    exact ⟨ad, ys, w, rfl, rfl, s2 _ _ hH, szl hz, k σ _ _ (fun b => Nw b ∨ (H b = none ∧ H2 b ≠ none)) (same_mut (sm.trans sr) (hNw ad na)) (fun b z => z.elim (hNw b) fun z => same_none (sm.trans EE.base) z.1) (E3.chgS (.inr (.inl na)) hn) (hJ' _ _ w sr (fun b z => .inl z) r1)⟩
end
section
variable {X : Cx} {C : Addr} {env env1 : Env} {c : Expr} {pos : Pos} {J J1 : Jt}
theorem fj_ifF {ta fa : List Stmt} (hc : PTt X C c env false) (h : PSs X fa (tFj X.K C env J env1 J1)) : PS X (.If c ta fa pos) (tFj X.K C env J env1 J1) :=
  (ps_if hc (pss_never (sts := ta)) h).imp fun Dn σ H ⟨H0, H1, S0, Nw, B, sm, hN, EE, hJ, k⟩ => ⟨H1, _, B, EE, fun H' s' => iteF ⟨H0, H1, S0, Nw, B, sm, hN, EE.mono s', hJ, k⟩⟩
/-- xs[n], xs in slot i -/
theorem pe_ixRaw {xn : Str} {p pos : Pos} {n : Int} {j : Nat} {cp : Pos} (i : Nat) (hN : X.N[i]? = some xn := by rfl) (hv : Vis X.env.scope xn := by first | exact Or.inl rfl | exact Or.inr (Or.inl rfl)) (hd : (xn == ("__debug__" : Str)) = false := by decide) (hcd : (xn == ("__classdict__" : Str)) = false := by decide) :
    PE X (.Subscript (.Name xn p) (.Constant (.int n) j cp) pos) (tOp (rIxL X.K) (tVar i) (tC (.int n))) := pe_ix ix_list (pe_var (i := i) hN hv hd hcd) pe_int (fun _ _ => rfl)
end
theorem px_ixJ {X : Cx} {C : Addr} {o s : Bool} {env : Env} {a b : Expr} {pos : Pos} {ns : List Int} {i j : Int} (ha : PX X C false false a env (.lst (dI ns))) (hb : PX X C false false b env (.int i)) (hi : L2.atI (dI ns) i = some (.int j)) (hs : PlainIx b := by exact fun _ _ => rfl) : PX X C o s (.Subscript a b pos) env (.int j) :=
  (pe_ix ix_list ha hb hs).imp (tOp_sc rfl fun S x y H Q r1 r2 q => by
    cases r2
    cases r1 with
    | lst n h r =>
      obtain ⟨v, q1, q2⟩ := r.atI hi
      cases q2
      exact ⟨_, _, i, _, rfl, rfl, SqL.of h, q1, q⟩)
end Fw

/-! Fw19: a dict of ours, from ints to ints. -/
namespace Fw
open PySem L2 Mt
theorem valV_kvO (k : Int) : ∀ kvs : List (Int × Int), valV (kvO kvs) (Sum.inl k : Key) = (lookI kvs k).map V.int
  | [] => rfl
  | p :: kvs => by
    have ih := valV_kvO k kvs
    unfold kvO at ih ⊢
    rw [List.map_cons]
    by_cases e : p.1 = k
    · rw [valV_pos (show (Sum.inl p.1 : Key) = Sum.inl k by rw [e])]
      unfold lookI
      rw [List.find?_cons_of_pos (by simpa using e)]; rfl
    · rw [valV_neg (fun h => e (by injection h)), ih]
      unfold lookI
      rw [List.find?_cons_of_neg (by simpa using e)]
theorem putK_kvO {kvs : List (Int × Int)} {k v : Int} (h : lookI kvs k = none) : putK (kvO kvs) (Sum.inl k : Key) (V.int v) = kvO (kvs ++ [(k, v)]) := by
  unfold putK
  have e : ((kvO kvs).any fun kv => decide (kv.1 = (Sum.inl k : Key))) = false := by
    rw [valV_any, valV_kvO, h]; rfl
  rw [e, if_neg (by decide)]
  unfold kvO
  rw [List.map_append]; rfl
section
variable {X : Cx} {C : Addr} {E : L2.St → XK} {o s : Bool} {env : Env} {a b e : Expr} {pos p p2 : Pos} {xn : Str} {kvs : List (Int × Int)}
theorem dctAt {K : PySem.W.Frag} {H0 : Hp} {S0 B : Addr → Prop} {H : Hp} {σ : L2.St} {i : Nat} (EE : EnvR K C H0 S0 B H σ env) (h : env[i]? = some (.dct kvs)) : ∃ l, σ[i]? = some (some (V.ref l)) ∧ H l = some (.dK (kvO kvs)) ∧ H0 l = none := by
  obtain ⟨l, e, n, h1⟩ := EE.slot i _ h
  exact ⟨l, e, h1, n⟩
/-- x = {k: v} -/
theorem sx_dict1 (i : Nat) {k v : Int} (ha : PX X C false false a env (.int k)) (hb : PX X C false false b env (.int v)) (hN : X.N.Nodup) (hil : Nat.blt i env.length = true := by rfl) (hi : X.N[i]? = some xn := by rfl) (hx : Loc X.env.scope xn := by first | exact Or.inl rfl | exact Or.inr rfl) (hs : swapsWith (.Dict [some a] [b] p2) (some (.Name xn p)) pos.line X.env = pure false := by rfl)
    (hf : X.fn xn = true ∨ X.env.scope.names.lookup xn = some .local := by first | exact .inl rfl | exact .inr rfl) : SX X C E (.Assign [.Name xn p] (.Dict [some a] [b] p2) pos) env (.nx (env.set i (.dct [(k, v)]))) :=
  (ps_set hN hi hx (pe_disp (pps_cons ha hb pps_nil) rfl rfl (by simp) (by simp)) hs hf).imp fun D σ H ⟨H0, S0, B, EE, q⟩ => fun ad hn => by
    have E1 := EE.mono (same_new (o := .dK []) hn)
    refine ⟨H0, S0, B, E1, fun x H1 e1 r1 => ⟨H0, S0, B, E1.mono e1, fun y H2 e2 r2 => ?_⟩⟩
    cases r1
    cases r2
    have h0 := e2 _ _ (e1 _ _ (upd_same (H := H) (a := ad) (o := HO.dK [])))
    refine ⟨h0, [(Sum.inl k, V.int v)], rfl, by simp, q _ _ ?_⟩
    have sm : Same H (upd H2 ad (.dK (mergeK [] [(Sum.inl k, V.int v)]))) := same_mut (((same_new hn).trans e1).trans e2) hn
    exact EE.setOwn sm i (.dct [(k, v)]) ad hn (Nat.le_of_ble_eq_true hil) rfl ⟨ad, rfl, same_none EE.base hn, upd_same⟩
/-- e in x, not in x -/
theorem pt_notInK (i : Nat) {k : Int} (hu : X.A.units + 1 < cLine) (ha : PX X C false false a env (.int k)) (hd : env[i]? = some (.dct kvs)) (hN : X.N[i]? = some xn := by rfl) (hv : Vis X.env.scope xn := by first | exact Or.inl rfl | exact Or.inr (Or.inl rfl) | exact Or.inr (Or.inr rfl)) (hd1 : (xn == ("__debug__" : Str)) = false := by decide) (hcd : (xn == ("__classdict__" : Str)) = false := by decide) :
    PTt X C (.Compare a [.NotIn] [.Name xn p] pos) env (!(lookI kvs k).isSome) :=
  (pt_cmp (pc_dnotin hu ha (pe_var (i := i) hN hv hd1 hcd))).imp fun σ H Q ⟨H0, S0, B, EE, q⟩ => by
    show tDNotIn _ _ σ H _
    refine ⟨H0, S0, B, EE, fun v H1 e1 r1 => ?_⟩
    cases r1
    obtain ⟨l, el, hl, _⟩ := dctAt (EE.mono e1) hd
    refine ⟨_, el, l, _, rfl, DGet.k (k := Sum.inl k) hl, _, rfl, ?_⟩
    rw [valV_kvO, Option.isSome_map]
    exact q H1 e1
/-- x[e] -/
theorem px_getK (i : Nat) {k v : Int} (hu : X.A.units + 1 < cLine) (hb : PX X C false false b env (.int k)) (hd : env[i]? = some (.dct kvs)) (hk : lookI kvs k = some v) (hs : NoSl b := by exact fun _ _ => rfl) (hN : X.N[i]? = some xn := by rfl) (hv : Vis X.env.scope xn := by first | exact Or.inl rfl | exact Or.inr (Or.inl rfl) | exact Or.inr (Or.inr rfl)) (hd1 : (xn == ("__debug__" : Str)) = false := by decide) (hcd : (xn == ("__classdict__" : Str)) = false := by decide) :
    PX X C o s (.Subscript (.Name xn p) b pos) env (.int v) :=
  (pe_dget hu (pe_var (i := i) hN hv hd1 hcd) hb hs).imp fun σ H Q ⟨H0, S0, B, EE, q⟩ => by
    obtain ⟨l, el, hl, _⟩ := dctAt EE hd
    refine ⟨_, el, H0, S0, B, EE, fun w H1 e1 r1 => ?_⟩
    cases r1
    refine ⟨l, .int v, rfl, ?_, q _ H1 e1 (.ofSc rfl)⟩
    have g := DGet.k (k := Sum.inl k) (e1 _ _ hl)
    rw [valV_kvO, hk] at g
    exact g
/-- x[e] = v, at a new key -/
theorem sx_putK (i : Nat) {k v : Int} (hu : X.A.units + 1 < cLine) (he : PX X C false false e env (.int v)) (hb : PX X C false false b env (.int k)) (hd : env[i]? = some (.dct kvs)) (hk : lookI kvs k = none) (hz : kvs.length < 1000000) (hs : swapsWith e (some (.Subscript (.Name xn p) b p2)) pos.line X.env = pure false := by rfl)
    (hN : X.N[i]? = some xn := by rfl) (hv : Vis X.env.scope xn := by first | exact Or.inl rfl | exact Or.inr (Or.inl rfl) | exact Or.inr (Or.inr rfl)) (hd1 : (xn == ("__debug__" : Str)) = false := by decide) (hcd : (xn == ("__classdict__" : Str)) = false := by decide) :
    SX X C E (.Assign [.Subscript (.Name xn p) b p2] e pos) env (.nx (env.set i (.dct (kvs ++ [(k, v)])))) :=
  (ps_dput hu (pe_var (i := i) hN hv hd1 hcd) hb he hs).imp fun D σ H ⟨H0, S0, B, EE, q⟩ => ⟨H0, S0, B, EE, fun w H1 e1 r1 => by
    cases r1
    have E1 := EE.mono e1
    obtain ⟨l, el, hl, n0⟩ := dctAt E1 hd
    refine ⟨_, el, H0, S0, B, E1, fun x H2 e2 r2 => ?_⟩
    cases r2
    refine ⟨l, _, rfl, DPut.k (k := Sum.inl k) (v := .int v) (e2 _ _ hl) (by unfold kvO; rw [List.length_map]; exact szl hz), ?_⟩
    rw [putK_kvO hk]
    exact q σ _ ((E1.mono e2).chg hd rfl rfl el ⟨l, rfl, n0, upd_same⟩)⟩
end
end Fw

/-! Fw20: what several parts share: marks looked at, bounds. -/
namespace Fw
open PySem L2 Mt
def isMk (m : Int) (marks : List Int) : Bool := decide (sortI marks = rg m)
def resB (b : Bool) (cb : Addr) (d : D) : Res := if b then .ret d else .exc cb
theorem isMk_len {m : Int} {marks : List Int} (h : isMk m marks = true) (h0 : 0 ≤ m) : (marks.length : Int) = m := isMarks.len (sort_rgI'.mp (of_decide_eq_true h)) h0
theorem isMk_marks {m : Int} {marks : List Int} : isMk m marks = true ↔ isMarks m marks := by
  unfold isMk isMarks
  rw [decide_eq_true_iff]
  exact sort_rgI'
def resG (b g : Bool) (cb cn : Addr) (d : D) : Res := if b then (if g then .ret d else .exc cn) else .exc cb
def partsB (marks : List Int) (n : Int) (t : Int × Int) : Bool := !(decide (iAt marks t.1 ≤ n) == decide (iAt marks t.2 ≤ n))
def partsM (ts : List (Int × Int)) (marks : List Int) (n : Int) : Bool := ts.all (partsB marks n)
def bdF (ts : List (Int × Int)) (marks : List Int) (_ : Unit) (n : Int) : Unit ⊕ Int := if partsM ts marks n then .inr n else .inl ()
def boundM (m : Int) (ts : List (Int × Int)) (marks : List Int) : Unit ⊕ Int := runE (bdF ts marks) (rg m) ()
def encI : Unit ⊕ Int → D
  | .inl _ => .non
  | .inr n => .int n
theorem bound_some {m : Int} {ts : List (Int × Int)} {mk : List Int} (h : HasBd m ts mk) : ∃ n, boundM m ts mk = .inr n ∧ 0 ≤ n ∧ n < m ∧ partsM ts mk n = true := by
  obtain ⟨b, b0, b1, hb⟩ := h
  have hp : partsM ts mk b = true := List.all_eq_true.mpr fun t ht => by
    unfold partsB
    rcases hb t ht with c | c
    · rw [decide_eq_true c.1, decide_eq_false (by omega)]; rfl
    · rw [decide_eq_false (show ¬ iAt mk t.1 ≤ b by omega), decide_eq_true c.1]; rfl
  have go : ∀ l : List Int, b ∈ l → ∃ n, n ∈ l ∧ runE (bdF ts mk) l () = .inr n ∧ partsM ts mk n = true := fun l => by
    induction l with
    | nil => intro h; cases h
    | cons x l ih =>
      intro h
      cases q : partsM ts mk x with
      | true => exact ⟨x, List.mem_cons_self, by unfold runE; have : bdF ts mk () x = .inr x := by { unfold bdF; rw [if_pos q] }; rw [this], q⟩
      | false =>
        have hx : b ∈ l := by
          rcases List.mem_cons.mp h with e | e
          · subst e; rw [hp] at q; cases q
          · exact e
        obtain ⟨n, n1, n2, n3⟩ := ih hx
        refine ⟨n, List.mem_cons_of_mem _ n1, ?_, n3⟩
        unfold runE
        have : bdF ts mk () x = .inl () := by unfold bdF; rw [if_neg (by rw [q]; decide)]
        rw [this]; exact n2
  obtain ⟨n, n1, n2, n3⟩ := go (rg m) (mem_rg.mpr ⟨b0, b1⟩)
  exact ⟨n, n2, (mem_rg.mp n1).1, (mem_rg.mp n1).2, n3⟩
end Fw

/-! Fw21: joined trees: what several parts share. -/
namespace Fw
open PySem L2 Mt
def joinD (m : Int) (ts : List (Int × Int)) (mk : List Int) (m2 : Int) (ts2 : List (Int × Int)) (more : List Int) (b : Int) : D := .tup [.tree (m + m2) (dP (sortP (joinR m ts mk m2 ts2 more b))), .lst (dI (joinK m2 mk more b))]
def joinO (cb cn : Addr) (m2 : Int) (ts2 : List (Int × Int)) (more : List Int) (d : D) : Res := resG (isMk m2 more) (unl (alongM ts2 more)) cb cn d
def joinRes (cb cn cu : Addr) (m : Int) (ts : List (Int × Int)) (mk : List Int) (m2 : Int) (ts2 : List (Int × Int)) (more : List Int) : Res :=
  if isMk m mk then (if unl (alongM ts mk) then (match boundM m ts mk with
    | .inl _ => .exc cu
    | .inr b => joinO cb cn m2 ts2 more (joinD m ts mk m2 ts2 more b)) else .exc cn) else .exc cb
theorem bound_parts {m : Int} {ts : List (Int × Int)} {mk : List Int} {b : Int} (h : boundM m ts mk = .inr b) : 0 ≤ b ∧ b < m ∧ partsM ts mk b = true := by
  have go : ∀ l : List Int, runE (bdF ts mk) l () = .inr b → b ∈ l ∧ partsM ts mk b = true := fun l => by
    induction l with
    | nil => intro h; cases h
    | cons x l ih =>
      intro h
      unfold runE at h
      cases q : partsM ts mk x with
      | true =>
        have e : bdF ts mk () x = .inr x := by unfold bdF; rw [if_pos q]
        rw [e] at h
        cases h
        exact ⟨List.mem_cons_self, q⟩
      | false =>
        have e : bdF ts mk () x = .inl () := by unfold bdF; rw [if_neg (by rw [q]; decide)]
        rw [e] at h
        exact ⟨List.mem_cons_of_mem _ (ih h).1, (ih h).2⟩
  have := go _ h
  exact ⟨(mem_rg.mp this.1).1, (mem_rg.mp this.1).2, this.2⟩
theorem parts_iff {ts : List (Int × Int)} {mk : List Int} {b : Int} (h : partsM ts mk b = true) : ∀ t ∈ ts, (iAt mk t.1 ≤ b ∧ b < iAt mk t.2) ∨ (iAt mk t.2 ≤ b ∧ b < iAt mk t.1) := fun t ht => by
  have := List.all_eq_true.mp h t ht
  unfold partsB at this
  by_cases c : iAt mk t.1 ≤ b <;> by_cases d : iAt mk t.2 ≤ b
  · rw [decide_eq_true c, decide_eq_true d] at this; cases this
  · exact .inl ⟨c, by omega⟩
  · exact .inr ⟨d, by omega⟩
  · rw [decide_eq_false c, decide_eq_false d] at this; cases this
theorem bound_has {m : Int} {ts : List (Int × Int)} {mk : List Int} {b : Int} (h : boundM m ts mk = .inr b) : HasBd m ts mk := ⟨b, (bound_parts h).1, (bound_parts h).2.1, parts_iff (bound_parts h).2.2⟩
end Fw

/-! Fw22: defs whose result may be part of the trees that they were handed. -/
namespace Fw
open PySem L2 Mt
def isTr : D → Bool
  | .tree _ _ => true
  | _ => false
def parS (S : Addr → Prop) (d : D) : Addr → Prop := fun a => isTr d = true ∧ S a
inductive RpQ (K : PySem.W.Frag) (C : Addr) (S : Addr → Prop) (H : Hp) : List V → List D → Prop
  | nil : RpQ K C S H [] []
  | cons {v : V} {vs : List V} {d : D} {ds : List D} : Rp K C (parS S d) H v d → RpQ K C S H vs ds → RpQ K C S H (v :: vs) (d :: ds)
section
variable {K : PySem.W.Frag} {C : Addr} {S : Addr → Prop} {H H' : Hp}
theorem RpQ.len : ∀ {vs : List V} {ds : List D}, RpQ K C S H vs ds → vs.length = ds.length
  | _, _, .nil => rfl
  | _, _, .cons _ r => congrArg (· + 1) r.len
theorem RpQ.getD : ∀ {vs : List V} {ds : List D} {i : Nat} {d : D}, RpQ K C S H vs ds → ds[i]? = some d → ∃ v, vs[i]? = some v ∧ Rp K C (parS S d) H v d
  | _, _, _, _, .nil, h => by simp at h
  | _, _, 0, _, .cons r _, h => by
    simp only [List.getElem?_cons_zero, Option.some.injEq] at h
    subst h
    exact ⟨_, rfl, r⟩
  | _, _, i + 1, _, .cons _ r, h => by
    simp only [List.getElem?_cons_succ] at h
    obtain ⟨v, e, q⟩ := r.getD h
    exact ⟨v, by simpa using e, q⟩
theorem RpQ.mono (e : Same H H') : ∀ {vs : List V} {ds : List D}, RpQ K C S H vs ds → RpQ K C S H' vs ds
  | _, _, .nil => .nil
  | _, _, .cons h r => .cons (h.mono e) (r.mono e)
theorem RpQ.toL : ∀ {vs : List V} {ds : List D}, RpQ K C S H vs ds → RpL K C (fun _ => False) H vs ds
  | _, _, .nil => .nil
  | _, _, .cons h r => .cons (h.anti fun a z => z.elim) r.toL
end
def spP (K : PySem.W.Frag) (C : Addr) (R : List D → Res → Prop) : Sp := fun vs H Q E => ∃ (S : Addr → Prop) (ds : List D) (r : Res), (∀ a, S a → H a ≠ none) ∧ R ds r ∧ RpQ K C S H vs ds ∧ r.k K C S H Q E
def slP (d : D) : Sl := if isTr d then .dat d else .bor d
theorem slP_own (d : D) : (slP d).isOwn = false := by
  unfold slP
  cases isTr d <;> rfl
section
variable {K : PySem.W.Frag} {C : Addr} {H : Hp}
theorem startP {S0 : Addr → Prop} (hS : ∀ a, S0 a → H a ≠ none) {N : List Str} {vs : List V} {ds : List D} (h : RpQ K C S0 H vs ds) :
    EnvR K C H S0 (fun _ => False) H (L2.start N vs) (startE N (ds.map slP)) := by
  have noown : ∀ {i : Nat} {t : Sl}, (startE N (ds.map slP))[i]? = some t → t.isOwn = false := fun {i t} q => by
    unfold startE at q
    by_cases hi : i < (ds.map slP).length
    · rw [List.getElem?_append_left hi, List.getElem?_map] at q
      cases z : ds[i]? with
      | none => rw [z] at q; cases q
      | some d => rw [z] at q; cases q; exact slP_own d
    · rw [List.getElem?_append_right (by omega)] at q
      have := List.mem_of_getElem? q
      rw [List.eq_of_mem_replicate this]; rfl
  refine ⟨Same.refl H, hS, fun _ h => h.elim, ?_, fun i t q => ?_, fun i j a t t' q h1 => by rw [noown q] at h1; cases h1⟩
  · unfold startE L2.start
    simp only [List.length_append, List.length_map, List.length_replicate, h.len]
  · have no : ∀ a, ¬ OwnB (fun _ => False) (L2.start N vs) (startE N (ds.map slP)) a := fun a z => by
      rcases z with ⟨j, t, q1, q2, _⟩ | z
      · rw [noown q1] at q2; cases q2
      · exact z
    unfold startE at q
    by_cases hi : i < (ds.map slP).length
    · rw [List.getElem?_append_left hi, List.getElem?_map] at q
      cases z : ds[i]? with
      | none => rw [z] at q; cases q
      | some d =>
        rw [z] at q
        cases q
        obtain ⟨v, e1, r⟩ := h.getD z
        have e2 : (L2.start N vs)[i]? = some (some v) := by
          unfold L2.start
          rw [List.getElem?_append_left (by rw [List.length_map, h.len]; simpa using hi), List.getElem?_map, e1]; rfl
        show SlR K C H S0 _ H (L2.start N vs)[i]? (slP d)
        rw [e2]
        cases hd : isTr d with
        | true =>
          have : slP d = .dat d := by unfold slP; rw [hd, if_pos rfl]
          rw [this]
          exact ⟨v, rfl, r.anti fun a z => ⟨hd, z.resolve_left (no a)⟩⟩
        | false =>
          have : slP d = .bor d := by unfold slP; rw [hd, if_neg (by decide)]
          rw [this]
          exact ⟨v, rfl, r.anti fun a z => (no a z).elim⟩
    · rw [List.getElem?_append_right (by omega)] at q
      have := List.mem_of_getElem? q
      rw [List.eq_of_mem_replicate this]; trivial
end
section
variable {P : Program} {w : World} {K : PySem.W.Frag} {mg : Str → Option Value} {base : Heap} {C : Addr} {xn : Str} {st : Stmt} {N ps : List Str} {k : Nat} {R : List D → Res → Prop}
theorem knP (T : FunT K mg xn st ps) (S : FnScope N ps (defScope st)) (hl : ∀ ds r, R ds r → ds.length = ps.length) (hx : ∀ ds c, ¬ R ds (.exc c))
    (hb : ∀ (f : Addr) (cdv : Value) (A : Around) (outer : List PySem.Env) (s : Shared) (H : Hp) (ds : List D) (r : Res), Room k (cx0 P w K mg base N xn (defScope st) f cdv A outer s H).A → R ds r →
      ∃ o, resOut r o ∧ SXs (cx0 P w K mg base N xn (defScope st) f cdv A outer s H) C (fun _ => E0) (defBody st) (startE N (ds.map slP)) o) : Kn P w K mg base CX0 (k + 1) xn ps (spP K C R) := by
  obtain ⟨f, fd, F, hm, b⟩ := T
  refine ⟨f, fd, ?_, hm, F.kp, b⟩
  refine F.ok S (fun vs H Q E h => ?_) (fun cdv A outer s H vs Q E hr h => ?_)
  · obtain ⟨S, ds, r, _, hR, h, _⟩ := h
    rw [h.len]; exact hl ds r hR
  · obtain ⟨S, ds, r, hS, hR, h, q⟩ := h
    obtain ⟨o, ho, hx'⟩ := hb f cdv A outer s H ds r hr hR
    refine ⟨_, ⟨fun pins s' σ H' D I hw => hx'.run pins s' σ H' D I hw⟩, H, S, (fun _ => False), startP hS h, out_res ho ?_⟩
    cases r with
    | ret d => exact q
    | exc c => exact absurd hR (hx ds c)
theorem knXP (T : FunT K mg xn st ps) (S : FnScope N ps (defScope st)) (hl : ∀ ds r, R ds r → ds.length = ps.length)
    (hb : ∀ (f : Addr) (cdv : Value) (A : Around) (outer : List PySem.Env) (s : Shared) (H : Hp) (E : XK) (ds : List D) (r : Res), Room k (cxX P w K mg base N xn (defScope st) f cdv A outer s H E).A → R ds r →
      ∃ o, resOut r o ∧ SXs (cxX P w K mg base N xn (defScope st) f cdv A outer s H E) C (fun _ => E) (defBody st) (startE N (ds.map slP)) o) : Kn P w K mg base (L2.CX P w) (k + 1) xn ps (spP K C R) := by
  obtain ⟨f, fd, F, hm, b⟩ := T
  refine ⟨f, fd, ?_, hm, F.kp, b⟩
  refine F.okX S (fun vs H Q E h => ?_) (fun cdv A outer s H vs Q E hr h => ?_)
  · obtain ⟨S, ds, r, _, hR, h, _⟩ := h
    rw [h.len]; exact hl ds r hR
  · obtain ⟨S, ds, r, hS, hR, h, q⟩ := h
    obtain ⟨o, ho, hx'⟩ := hb f cdv A outer s H E ds r hr hR
    exact ⟨_, ⟨fun pins s' σ H' D I hw => hx'.run pins s' σ H' D I hw⟩, H, S, (fun _ => False), startP hS h, out_res ho q⟩
end
/-- arguments: trees as data, the others as what only stands -/
def tAq (K : PySem.W.Frag) (C : Addr) (o s : Bool) (env : Env) (ds : List D) : TA := fun σ H Q => ∃ H0 S0 B, EnvR K C H0 S0 B H σ env ∧ ∀ vs H', Same H H' → RpQ K C (AvO o s S0 B σ env) H' vs ds → Q vs H'
abbrev PAq (X : Cx) (C : Addr) (o s : Bool) (es : List Expr) (env : Env) (ds : List D) : Prop := PA X es (tAq X.K C o s env ds)
/-- what stands, but for what trees are made of, and what is barred -/
def nonT (H : Hp) (a : Addr) : Prop := (∃ (i : Int) (xs : List V), H a = some (.lst (.int i :: xs)))
section
variable {X : Cx} {C : Addr} {o s : Bool} {env env1 : Env} {d : D} {ds : List D} {e : Expr} {es : List Expr} {pos p : Pos} {xn : Str} {k j : Nat} {ps : List Str} {R : List D → Res → Prop} {E : L2.St → XK} {cc : Addr}
theorem paq_nil : PAq X C o s [] env [] := pa_nil.imp fun σ H Q ⟨H0, S0, B, E, k⟩ => k [] H (Same.refl H) .nil
theorem paq_tree {m : Int} {ts : List D} (ha : PX X C o s e env (.tree m ts)) (hr : PAq X C o s es env ds) (hs : starEach (e :: es) X.env = (false, eval e X.env) :: starEach es X.env := by rfl) : PAq X C o s (e :: es) env (.tree m ts :: ds) :=
  (pa_cons ha hr hs).imp fun σ H Q ⟨H0, S0, B, E, k⟩ => ⟨H0, S0, B, E, fun v H1 e1 r1 => ⟨H0, S0, B, E.mono e1, fun vs H2 e2 r2 => k _ H2 (e1.trans e2) (.cons ((r1.mono e2).anti fun a z => z.2) r2)⟩⟩
theorem paq_cons (ha : PX X C false false e env d) (hr : PAq X C o s es env ds) (hd : isTr d = false := by rfl) (hs : starEach (e :: es) X.env = (false, eval e X.env) :: starEach es X.env := by rfl) : PAq X C o s (e :: es) env (d :: ds) :=
  (pa_cons ha hr hs).imp fun σ H Q ⟨H0, S0, B, E, k⟩ => ⟨H0, S0, B, E, fun v H1 e1 r1 => ⟨H0, S0, B, E.mono e1, fun vs H2 e2 r2 => k _ H2 (e1.trans e2) (.cons ((r1.mono e2).anti fun a z => by exact absurd z.1 (by rw [hd]; decide)) r2)⟩⟩
theorem px_knP (h : Kn X.prog X.w X.K X.mg X.base CX0 k xn ps (spP X.K C R)) (hr : Room j X.A) (ha : PAq X C o s (e :: es) env ds) (hR : R ds (.ret d)) (hj : k ≤ j := by decide)
    (hg : Gl X xn := by rfl) (hdb : (xn == ("__debug__" : Str)) = false := by decide) (he : starEach (e :: es) X.env = (false, eval e X.env) :: starEach es X.env := by rfl) (hpl : (backTo pos (starEach es X.env)).any (·.1) = false := by rfl) : PX X C o s (.Call (.Name xn p) (e :: es) [] pos) env d := by
  obtain ⟨f, fd, F, hm, hk, hb⟩ := h
  exact (pe_call F (hr.mono hj) hg hm hk hb .nil pass0 ha hdb he hpl).imp fun σ H Q ⟨H0, S0, B, EE, k⟩ => ⟨H0, S0, B, EE, fun vs H1 e1 r => ⟨_, ds, .ret d, fun a z => AvO.some (EE.mono e1) z, hR, by rw [List.append_nil]; exact r, fun v H' sm rv => k v H' (e1.trans sm) rv⟩⟩
theorem px_knxP (h : Kn X.prog X.w X.K X.mg X.base (L2.CX X.prog X.w) k xn ps (spP X.K C R)) (hr : Room j X.A) (ha : PAq X C o s (e :: es) env ds) (hR : R ds (.ret d)) (hj : k ≤ j := by decide)
    (hg : Gl X xn := by rfl) (hdb : (xn == ("__debug__" : Str)) = false := by decide) (he : starEach (e :: es) X.env = (false, eval e X.env) :: starEach es X.env := by rfl) (hpl : (backTo pos (starEach es X.env)).any (·.1) = false := by rfl) : PX X C o s (.Call (.Name xn p) (e :: es) [] pos) env d := by
  obtain ⟨f, fd, F, hm, hk, hb⟩ := h
  exact (pe_call F (hr.mono hj) hg hm hk hb .nil passL ha hdb he hpl).imp fun σ H Q ⟨H0, S0, B, EE, k⟩ => ⟨H0, S0, B, EE, fun vs H1 e1 r => ⟨_, ds, .ret d, fun a z => AvO.some (EE.mono e1) z, hR, by rw [List.append_nil]; exact r, fun v H' sm rv => k v H' (e1.trans sm) rv⟩⟩
theorem px_knXP (tk : TkE X E) (h : Kn X.prog X.w X.K X.mg X.base (L2.CX X.prog X.w) k xn ps (spP X.K C R)) (hr : Room j X.A) (ha : PAq X C false false (e :: es) env ds) (hR : R ds (.exc cc)) (hj : k ≤ j := by decide)
    (hg : Gl X xn := by rfl) (hdb : (xn == ("__debug__" : Str)) = false := by decide) (he : starEach (e :: es) X.env = (false, eval e X.env) :: starEach es X.env := by rfl) (hpl : (backTo pos (starEach es X.env)).any (·.1) = false := by rfl) : PXx X C E (.Call (.Name xn p) (e :: es) [] pos) env cc := by
  obtain ⟨f, fd, F, hm, hk, hb⟩ := h
  exact (pe_callS (E := E) F (hr.mono hj) hg hm hk hb (fun σ => passAt tk σ) ha hdb he hpl).imp fun σ H Q ⟨H0, S0, B, EE, k⟩ => ⟨H0, S0, B, EE, fun vs H1 e1 r => ⟨_, ds, .exc cc, fun a z => AvO.some (EE.mono e1) z, hR, r, fun H' sm => k H' ((EE.mono e1).mono sm)⟩⟩
end
/-- xs[n] of a tuple, in slot i -/
theorem pe_ixRawT {X : Cx} {xn : Str} {p pos : Pos} {n : Int} {j : Nat} {cp : Pos} (i : Nat) (hN : X.N[i]? = some xn := by rfl) (hv : Vis X.env.scope xn := by first | exact Or.inl rfl | exact Or.inr (Or.inl rfl)) (hd : (xn == ("__debug__" : Str)) = false := by decide) (hcd : (xn == ("__classdict__" : Str)) = false := by decide) :
    PE X (.Subscript (.Name xn p) (.Constant (.int n) j cp) pos) (tOp (rIxT X.K) (tVar i) (tC (.int n))) := pe_ix ix_tup (pe_var (i := i) hN hv hd hcd) pe_int (fun _ _ => rfl)
theorem rpl_treeT {K : PySem.W.Frag} {C : Addr} {S : Addr → Prop} {H : Hp} : ∀ {xs : List V} {ts : List (Int × Int)}, RpL K C S H xs (dP ts) → RpL K C (fun a => S a ∨ nonT H a) H xs (dP ts)
  | _, [], h => by cases h; exact .nil
  | _, t :: ts, h => by
    cases h with
    | cons r rs =>
      refine .cons ?_ (rpl_treeT rs)
      cases r with
      | tup n hh r2 =>
        refine .tup (fun z => z.elim n fun ⟨i, xs, e⟩ => by rw [hh] at e; cases e) hh ?_
        cases r2 with
        | cons q1 q2 => cases q2 with
          | cons q2 q3 =>
            cases q1; cases q2; cases q3
            exact .cons (.int _) (.cons (.int _) .nil)
theorem rp_treeT {K : PySem.W.Frag} {C : Addr} {S : Addr → Prop} {H : Hp} {v : V} {m : Int} {ts : List (Int × Int)} (h : Rp K C S H v (.tree m (dP ts))) : Rp K C (fun a => S a ∨ nonT H a) H v (.tree m (dP ts)) := by
  cases h with
  | @tree a dx b xs _ _ n n2 h1 h2 r =>
    refine .tree (fun z => z.elim n fun ⟨i, ys, e⟩ => by rw [h1] at e; cases e) (fun z => z.elim n2 fun ⟨i, ys, e⟩ => ?_) h1 h2 (rpl_treeT r)
    rw [h2] at e
    cases e
    cases ts with
    | nil => cases r
    | cons t ts => cases r with
      | cons q _ => cases q
theorem rpq_treeT {K : PySem.W.Frag} {C : Addr} {S : Addr → Prop} {H : Hp} : ∀ {vs : List V} {ds : List D}, (∀ d ∈ ds, isTr d = true → ∃ m ts, d = .tree m (dP ts)) → RpQ K C S H vs ds → RpQ K C (fun a => S a ∨ nonT H a) H vs ds
  | _, _, _, .nil => .nil
  | _, d :: ds, hd, .cons r rs => by
    refine .cons ?_ (rpq_treeT (fun d h => hd d (List.mem_cons_of_mem _ h)) rs)
    cases q : isTr d with
    | false => exact r.anti fun a z => absurd z.1 (by rw [q]; decide)
    | true =>
      obtain ⟨m, ts, rfl⟩ := hd d List.mem_cons_self q
      have r' : Rp K C S H _ (.tree m (dP ts)) := r.anti fun a z => ⟨rfl, z⟩
      exact (rp_treeT r').anti fun a z => z.2
/-- e gives what leans on nothing barred, nor on a list of numbers that stood -/
def tNq (K : PySem.W.Frag) (C : Addr) (env : Env) (d : D) : TE := fun σ H Q => ∃ H0 S0 B, EnvR K C H0 S0 B H σ env ∧ ∀ v H', Same H H' → Rp K C (fun a => AvO true true S0 B σ env a ∨ nonT H a) H' v d → Q v H'
section
variable {X : Cx} {C : Addr} {env env1 : Env} {d : D} {ds : List D} {e : Expr} {es : List Expr} {pos p : Pos} {xn : Str} {k j : Nat} {ps : List Str} {R : List D → Res → Prop} {E : L2.St → XK} {rest : List Stmt}
theorem pq_knP (h : Kn X.prog X.w X.K X.mg X.base CX0 k xn ps (spP X.K C R)) (hr : Room j X.A) (ha : PAq X C true true (e :: es) env ds) (hR : R ds (.ret d)) (hT : ∀ d ∈ ds, isTr d = true → ∃ m ts, d = .tree m (dP ts)) (hj : k ≤ j := by decide)
    (hg : Gl X xn := by rfl) (hdb : (xn == ("__debug__" : Str)) = false := by decide) (he : starEach (e :: es) X.env = (false, eval e X.env) :: starEach es X.env := by rfl) (hpl : (backTo pos (starEach es X.env)).any (·.1) = false := by rfl) : PE X (.Call (.Name xn p) (e :: es) [] pos) (tNq X.K C env d) := by
  obtain ⟨f, fd, F, hm, hk, hb⟩ := h
  refine (pe_call F (hr.mono hj) hg hm hk hb .nil pass0 ha hdb he hpl).imp fun σ H Q ⟨H0, S0, B, EE, k⟩ => ⟨H0, S0, B, EE, fun vs H1 e1 r => ⟨(fun a => AvO true true S0 B σ env a ∨ nonT H1 a), ds, .ret d, ?_, hR, ?_, ?_⟩⟩
  · intro a z
    rcases z with z | ⟨i, xs, z⟩
    · exact AvO.some (EE.mono e1) z
    · intro y; rw [z] at y; cases y
  · rw [List.append_nil]; exact rpq_treeT hT r
  · intro v H' sm rv
    refine k v H' (e1.trans sm) (rv.anti fun a z => ?_)
    rcases z with z | ⟨i, xs, z⟩
    · exact .inl z
    · exact .inr ⟨i, xs, e1 _ _ z⟩
/-- x = e, a tuple of a tree and a new list of numbers; then what changes the list; to the end -/
theorem fj_wholeP (i : Nat) {m : Int} {ts : List D} {n0 : Int} {ns : List Int} (he : PE X e (tNq X.K C env (.tup [.tree m ts, .lst (dI (n0 :: ns))]))) (hn : env.all noB = true)
    (h : ∀ v, PSs X rest (tFj X.K C (env.set i (.bvr v (.tup [.tree m ts, .lst (dI (n0 :: ns))]))) (fun H1 Nw => ∃ (q : Addr × V × Addr), v = .ref q.1 ∧ H1 q.1 = some (.tup [q.2.1, .ref q.2.2]) ∧ H1 q.2.2 = some (.lst ((n0 :: ns).map V.int)) ∧ Nw q.2.2) env1 (fun _ _ => True))) (hN : X.N.Nodup) (hi : X.N[i]? = some xn := by rfl) (hx : Loc X.env.scope xn := by first | exact Or.inl rfl | exact Or.inr rfl)
    (hs : swapsWith e (some (.Name xn p)) pos.line X.env = pure false := by rfl) (hf : X.fn xn = true ∨ X.env.scope.names.lookup xn = some .local := by first | exact .inl rfl | exact .inr rfl) : SXs X C E (.Assign [.Name xn p] e pos :: rest) env (.nx env1) :=
  (pss_cons (ps_set hN hi hx he hs hf) (PSs.ex h)).imp fun Dn σ H ⟨H0, S0, B, EE, k⟩ => ⟨H0, S0, B, EE, fun v H' sm r => by
    have E1 := EE.addS sm hn
    have hnw : ∀ a, H a = none ∧ H' a ≠ none → reb H' (OwnB B σ env) a = H' a := fun a z => reb_out (fun c => (EE.ours c).2 z.1)
    have s0 : Same H0 (reb H' (OwnB B σ env)) := (EE.mono sm).toReb
    have av : ∀ a, OwnB B σ env a → (AvO true true S0 B σ env a ∨ nonT H a) := fun a z => .inl (.inl ⟨rfl, z⟩)
    refine ⟨v, H0, reb H' (OwnB B σ env), S0, (fun a => H a = none ∧ H' a ≠ none), B, s0, fun a z => same_none EE.base z.1, E1.set i _ v rfl ⟨rfl, r.anti fun a z => av a (by
      rcases z with z | z
      · exact .inl z
      · exact .inr z)⟩, ?_, fun σ2 H2 H1' Nw' s2 n2 E2 _ => k σ2 H2 (E2.unS s2 (fun a z => .inl z) EE.sub)⟩
    cases r with
    | @tup p xs _ np hp rr =>
      cases rr with
      | cons r0 rr => cases rr with
        | cons r1 rr =>
          cases rr
          cases r1 with
          | @lst q ys _ nq hq rq =>
            have e2 := rq.ints
            subst e2
            refine ⟨(p, _, q), rfl, by rw [reb_out (fun c => np (av _ c))]; exact hp, by rw [reb_out (fun c => nq (av _ c))]; exact hq, ?_, fun y => by rw [hq] at y; cases y⟩
            cases z : H q with
            | none => rfl
            | some o =>
              have := sm _ _ z
              rw [hq] at this
              cases this
              exact absurd (.inr ⟨_, _, z⟩) nq⟩
end
end Fw

/-! Fw23: isinstance of a tree. -/
namespace Fw
open PySem L2 Mt
theorem kit_self (K : PySem.W.Frag) (C : Addr) : PySem.W.kitOne K (.ref C) (.ref C) = some true := by unfold PySem.W.kitOne; simp
structure InsT (K : PySem.W.Frag) (C : Addr) : Prop where
  cl : Cls K C
  ha : PySem.W.findIn K (.ref C) "__class__" = some (some (.builtin "object.__class__"))
  hn : PySem.W.specialIn K (.builtin "object.__class__") "__get__" = some (some (.builtin "getset_descriptor.__get__"))
  ht : PySem.W.takesIn K (.builtin "object.__class__") = some true
  hm : PySem.W.mroIn K C (.type "object") = some true
theorem px_isT {X : Cx} {C : Addr} {o s : Bool} {env : Env} {a : Expr} {m : Int} {ds : List D} {p p3 pos : Pos} (ha : PX X C false false a env (.tree m ds)) (IT : InsT X.K C) (hm : X.mg "isinstance" = none) (hT : X.mg "Tree" = some (.ref C)) (hg : Gl X "isinstance" := by rfl) (hg2 : Gl X "Tree" := by rfl) (hd2 : ("Tree" == ("__debug__" : Str)) = false := by decide)
    (na : starEach [a, .Name "Tree" p3] X.env = (false, eval a X.env) :: starEach [.Name "Tree" p3] X.env := by rfl) (nb : starEach [.Name "Tree" p3] X.env = (false, eval (.Name "Tree" p3) X.env) :: starEach [] X.env := by rfl) (hpl : (backTo pos (starEach [.Name "Tree" p3] X.env)).any (·.1) = false := by rfl) :
    PX X C o s (.Call (.Name "isinstance" p) [a, .Name "Tree" p3] [] pos) env (.bl true) :=
  (pe_callB call_isi hg hm PyProof.Rows.boot_isinstance (pa_cons ha (pa_cons (pe_glob (v := .ref C) hg2 hT rfl hd2) pa_nil nb) na) (by decide) (by decide) na hpl).imp fun σ H Q ⟨H0, S0, B, EE, k⟩ => ⟨H0, S0, B, EE, fun v H1 e1 r1 => by
    refine ⟨v, .ref C, .ref C, .ref C, true, rfl, .own C, ?_, kit_self _ _, k _ H1 e1 (.ofSc rfl)⟩
    cases r1 with
    | tree n n2 h h2 r => exact .base (.ins h IT.cl IT.ha IT.hn IT.ht IT.hm)⟩
end Fw

/-! Fw24: a list from a place on. -/
namespace Fw
open PySem L2 Mt
theorem cut_from {α : Type} {l : List α} {k : Int} (h0 : 0 ≤ k) (h1 : k ≤ l.length) : cutD l (some k) none = l.drop k.toNat := by
  unfold cutD
  have e1 : HT.sIx l.length 0 (some k) = k.toNat := by unfold HT.sIx; simp only; rw [if_neg (by omega)]; omega
  have e2 : HT.sIx l.length l.length none = l.length := rfl
  rw [e1, e2, List.take_of_length_le (by rw [List.length_drop]; omega)]
theorem take_flat {α : Type} {L : List (List α)} {i : Nat} {l : List α} (h : L[i]? = some l) : (L.take (i + 1)).flatten = (L.take i).flatten ++ l := by
  rw [take_succ_get h, List.flatten_append, List.flatten_singleton]
theorem flat_take_le {α : Type} (L : List (List α)) (i : Nat) : (L.take i).flatten.length ≤ L.flatten.length := by
  have := congrArg List.length (congrArg List.flatten (List.take_append_drop i L))
  rw [List.flatten_append, List.length_append] at this
  omega
def R_tm (g : Int → List (Int × Int) → List Int → Res) : List D → Res → Prop := fun ds r => ∃ (m : Int) (ts : List (Int × Int)) (marks : List Int), ds = [.tree m (dP ts), .lst (dI marks)] ∧ 0 ≤ m ∧ m ≤ 1000 ∧ (∀ t ∈ ts, inPl m t) ∧ ts.length ≤ 1000 ∧ r = g m ts marks
end Fw

/-! Fw25: sorted(set(pairs)). -/
namespace Fw
open PySem L2 Mt PyProof.Rows
def pairOf (k : List Int) : Int × Int := (k.getD 0 0, k.getD 1 0)
def keyIn (L : List (Addr × List Int)) : Value → Int × Int
  | .ref b => match L.find? (fun q => decide (q.1 = b)) with
    | some q => pairOf q.2
    | none => (0, 0)
  | _ => (0, 0)
theorem keyIn_at {L : List (Addr × List Int)} (one : ∀ q ∈ L, ∀ r ∈ L, q.1 = r.1 → q = r) {q : Addr × List Int} (hq : q ∈ L) : keyIn L (.ref q.1) = pairOf q.2 := by
  unfold keyIn
  cases h : L.find? (fun r => decide (r.1 = q.1)) with
  | none => exact absurd (List.find?_eq_none.mp h q hq) (by simp)
  | some r =>
    have e := List.find?_some h
    have m := List.mem_of_find?_eq_some h
    have e2 := one r m q hq (of_decide_eq_true e)
    show (match L.find? (fun r => decide (r.1 = q.1)) with | some q => pairOf q.2 | none => (0, 0)) = pairOf q.2
    rw [h, e2]
section
variable {P : Program} {w : World} {A : Around} {E : Value → Shared → Prop} {z : Shared}
theorem isPair_of {h : Heap} {b : Addr} {x y : Int} (q : IsT P w h [x, y] b) : Srt.IsPair h (.ref b) x y := by
  obtain ⟨o, items, n, ho, hc, hd, hi⟩ := q
  have hi := ints_of_items hi
  obtain ⟨l⟩ := items
  cases hi with
  | cons _ t r => cases r with
    | cons _ u r =>
      cases r
      exact ⟨b, o, t, u, n, rfl, ho, hc, hd⟩
/-- the values of a set's list are addresses of its rows -/
theorem rows_from {L : List (Addr × List Int)} : ∀ {us : List Value}, (∀ u ∈ us, ∃ q ∈ L, u = Value.ref q.1) → ∃ M : List (Addr × List Int), us = M.map (fun q => Value.ref q.1) ∧ ∀ q ∈ M, q ∈ L
  | [], _ => ⟨[], rfl, fun q hq => by cases hq⟩
  | u :: us, h => by
    obtain ⟨q, hq, e⟩ := h u List.mem_cons_self
    obtain ⟨M, e2, hM⟩ := rows_from (us := us) fun v hv => h v (List.mem_cons_of_mem _ hv)
    refine ⟨q :: M, by rw [List.map_cons, e, e2], fun r hr => ?_⟩
    rcases List.mem_cons.mp hr with e3 | hr
    · rw [e3]; exact hq
    · exact hM r hr
theorem sorted_setP {a : Addr} {L : List (Addr × List Int)} {es : Array (Int × Value)} {ep : Nat} {t : SetTable} {Q : Value → Shared → Prop} (R : SetTR P w z.heap a L es ep t) (hc : A.handled = none) (h2 : ∀ q ∈ L, ∃ x y, q.2 = [x, y])
    (fin : ∀ z2 p (us : Array Value) (n : Nat) (M : List (Addr × List Int)), (∀ b o, z.heap.get? b = some o → z2.heap.get? b = some o) → z2.gens = z.gens → z2.os = z.os → z.heap.objs.size ≤ p → z2.heap.get? p = some (seqObj "list" us n) → us.toList = M.map (fun q => Value.ref q.1) → M.Perm L → M.Pairwise (fun q r => leP (pairOf q.2) (pairOf r.2) = true) → Q (.ref p) z2) :
    wpAny (model P w) A (call (.builtin "sorted") [.ref a]) Q E z := by
  obtain ⟨o, ho, hx, hd⟩ := R.ob
  have esz := R.size
  have small := R.few
  have one : ∀ q ∈ L, ∀ r ∈ L, q.1 = r.1 → q = r := fun q hq r hr e => by
    have t1 := R.tup q hq
    have t2 := R.tup r hr
    rw [e] at t1
    exact Prod.ext e (t1.inj t2)
  refine Calls.call_function_entry kind_sorted plain_sorted entry_sorted (args_sorted1 _) ?_
  unfold Builtin.«sorted»
  refine wpAny_bind (m := checkCount "sorted" 1 1 _) (wpAny_pure ?_)
  refine wpAny_bind (collect_set (A := A.in1) hc ⟨o, ho, hx.1, hd⟩ R.fits (by unfold scanBound; omega) R.tab.ris R.led fun z1 us kp zl gg oo pm => ?_)
  have hrows : es.toList.map (·.2) = L.map fun q => Value.ref q.1 := by
    rw [R.rows]
    unfold rowsOf
    rw [List.map_map]; rfl
  rw [hrows] at pm
  have ul : us.length < 64 := by rw [pm.length_eq, List.length_map]; exact small
  have us_sz : us.length ≤ sizeLine := by rw [sizeLine_eq]; omega
  refine wpAny_bind (wpAny_newList ?_ us_sz)
  have hL : (z1.heap.push (seqObj "list" us.toArray 0)).get? z1.heap.objs.size = some (seqObj "list" us.toArray 0) := Heap.get?_push_size _ rfl
  have hp : ∀ v ∈ us, Srt.IsPair (z1.heap.push (seqObj "list" us.toArray 0)) v (keyIn L v).1 (keyIn L v).2 := fun v hv => by
    obtain ⟨q, hq, e⟩ := List.mem_map.mp (pm.mem_iff.mp hv)
    obtain ⟨x, y, e2⟩ := h2 q hq
    have tq := R.tup q hq
    rw [← e, keyIn_at one hq, e2]
    rw [e2] at tq
    exact isPair_of (isT_keep tq fun b u g => Heap.get?_push_of_some _ (kp b u g))
  refine wpAny_bind (wpAny_holding (wpAny_call_entry slot_list_sort ⟨_, hL, rfl⟩ entry_list_sort (SrtO.list_sort_ord (SrtO.swo_lex (keyIn L)) hL us_sz (fun u2 => ?_) fun out hs hb => ⟨_, rfl, ?_⟩) (args_list_sort _)))
  · refine SrtO.pairs_sortableO (by omega) hp fun o2 e2 cl => ?_
    have e3 := e2.symm.trans hL
    cases e3
    exact absurd (Value.type.inj cl) (by decide)
  · obtain ⟨n, hn⟩ := sortedHeap_at (vs := us) (out := out.toArray) hL
    obtain ⟨M, eM, hM⟩ := rows_from (L := L) (us := out) fun v hv => by
      obtain ⟨q, hq, e⟩ := List.mem_map.mp (pm.mem_iff.mp (hb.perm.mem_iff.mp hv))
      exact ⟨q, hq, e.symm⟩
    have refs : (L.map fun q => Value.ref q.1).Nodup := by
      refine List.pairwise_map.mpr (List.Pairwise.imp_of_mem (fun {q r} hq hr ne e => ?_) (nodup_of_map R.nd))
      injection e with e
      exact ne (one q hq r hr e)
    have pM : (M.map fun q => Value.ref q.1).Perm (L.map fun q => Value.ref q.1) := by rw [← eM]; exact hb.perm.trans pm
    have permM : M.Perm L := by
      refine (List.perm_ext_iff_of_nodup (nodup_of_map (pM.nodup_iff.mpr refs)) (nodup_of_map R.nd)).mpr fun q => ⟨hM q, fun hq => ?_⟩
      obtain ⟨r, hr, e⟩ := List.mem_map.mp (pM.mem_iff.mpr (List.mem_map.mpr ⟨q, hq, rfl⟩))
      injection e with e
      rw [← one r (hM r hr) q hq e]; exact hr
    refine wpAny_pure ⟨_, rfl, fin _ z1.heap.objs.size out.toArray n M (fun b u g => ?_) gg oo zl hn (by simpa using eM) permM ?_⟩
    · have g1 := kp b u g
      have lt1 := Heap.lt_size g1
      show (sortedHeap (z1.heap.push (seqObj "list" us.toArray 0)) z1.heap.objs.size us out.toArray).get? b = some u
      rw [sortedHeap_old (Nat.ne_of_lt lt1) (by rw [size_push']; exact Nat.lt_succ_of_lt lt1)]
      exact Heap.get?_push_of_some _ g1
    · have hs : (M.map fun q => Value.ref q.1).Pairwise (fun x y => SrtO.lexB (keyIn L y) (keyIn L x) = false) := by rw [← eM]; exact hs
      refine List.Pairwise.imp_of_mem (fun {q r} hq hr g => ?_) (List.pairwise_map.mp hs)
      rw [keyIn_at one (hM q hq), keyIn_at one (hM r hr)] at g
      have g := SrtO.lexB_no.mp g
      rw [leP_iff]
      omega
end
def rSortedSP (K : PySem.W.Frag) (P : Program) (w : World) : List V → Hp → VK → Prop := fun vs H Q => ∃ (a : Addr) (L : List (Addr × List Int)), vs = [V.ref a] ∧ H a = some (SetTO P w a L) ∧ (∀ q ∈ L, SqT K H q.1 (q.2.map V.int)) ∧ (∀ q ∈ L, ∃ x y, q.2 = [x, y]) ∧
  ∀ (M : List (Addr × List Int)) (p : Addr), M.Perm L → (M.map (·.2)).Nodup → M.Pairwise (fun q r => leP (pairOf q.2) (pairOf r.2) = true) → H p = none → Q (.ref p) (upd H p (.lst (M.map fun q => V.ref q.1)))
theorem cr_sortedSP {X : Cx} (hc : X.calm = true) : CallR X (.builtin "sorted") (rSortedSP X.K X.prog X.w) := by
  intro pins z σ H vs us Q I r h
  obtain ⟨a, L, rfl, ha, hq, h2, fin⟩ := h
  obtain ⟨es, ep, t, R⟩ := ((I.hok a _ ha).1 : SetT0 X.prog X.w z.heap a L).full fun q hm => I.isT (hq q hm)
  rw [Vals.ref1 r]
  refine sorted_setP R (I.ok.hd hc) h2 fun z2 p out n M kp gg oo hp at_ eq pm pw => ?_
  have few : M.length < 64 := by rw [pm.length_eq]; exact R.few
  have hn : H p = none := I.hok.fresh hp
  have hv : Vals (M.map fun q => V.ref q.1) out.toList := by rw [eq]; exact vals_of_refs M
  have J : Inv X pins σ (upd H p (.lst (M.map fun q => V.ref q.1))) { z with heap := z2.heap, gens := z2.gens, drawn := z2.drawn, toks := z2.toks } :=
    I.call (ch := []) (Un.laid kp hp hn) (I.hok.laid kp hp ⟨by rw [List.length_map, sizeLine_eq]; omega, out.toList, n, hv, at_⟩) (by rw [gg]; exact I.bare) (fun _ y => nomatch y)
  have e : z2 = { z with heap := z2.heap, gens := z2.gens, drawn := z2.drawn, toks := z2.toks } := by
    cases z2; cases z; cases oo; rfl
  rw [e]
  exact ⟨.ref p, _, J, rfl, fin M p pm ((pm.map (·.2)).nodup_iff.mpr R.nd) pw hn⟩
def refA : V → Addr
  | .ref t => t
  | _ => 0
theorem pl_sortSet {X : Cx} {C : Addr} {env : Env} {a : Expr} {p p2 q pos : Pos} {ts : List (Int × Int)} (hc : X.calm = true) (hu : X.A.units + 64 < cLine) (hm : X.mg "sorted" = none) (hm2 : X.mg "set" = none) (ha : PX X C true true a env (.lst (dP ts))) (hl : ts.length < 64) (hg : Gl X "sorted" := by rfl) (hg2 : Gl X "set" := by rfl)
    (na : starEach [a] X.env = (false, eval a X.env) :: starEach [] X.env := by rfl) (hpl : (backTo q (starEach [] X.env)).any (·.1) = false := by rfl) (nb : starEach [(.Call (.Name "set" p2) [a] [] q : Expr)] X.env = (false, eval (.Call (.Name "set" p2) [a] [] q) X.env) :: starEach [] X.env := by rfl) (hpl2 : (backTo pos (starEach [] X.env)).any (·.1) = false := by rfl) :
    PL X C (.Call (.Name "sorted" p) [.Call (.Name "set" p2) [a] [] q] [] pos) env (dP (uniqP ts)) :=
  (pe_callB (cr_sortedSP hc) hg hm PyProof.Rows.boot_sorted (pa_cons (pe_callTy (cr_setOfT hc hu) hg2 hm2 PyProof.Rows.boot_set (pas1 ha na) (by decide) (by decide) na hpl) pa_nil nb) (by decide) (by decide) nb hpl2).imp fun σ H Q ⟨H0, S0, B, E, k⟩ => ⟨H0, S0, B, E, fun vs H1 e1 r1 => by
    obtain ⟨v, rfl, r2⟩ := r1.one
    cases r2 with
    | @lst l xs _ n h r =>
      obtain ⟨e, f⟩ := r.pairs
      have key : ∀ x ∈ xs, x = V.ref (refA x) ∧ ¬ AvO true true S0 B σ env (refA x) ∧ H1 (refA x) = some (.tup [.int (kAt H1 x).1, .int (kAt H1 x).2]) := fun x hx => by
        obtain ⟨t, rfl, n2, g⟩ := f x hx
        exact ⟨rfl, n2, g⟩
      have hxs : xs = (xs.map fun x => (refA x, [(kAt H1 x).1, (kAt H1 x).2])).map fun q => V.ref q.1 := by
        rw [List.map_map]
        refine (Eq.trans (List.map_congr_left (g := id) fun x hx => (key x hx).1.symm) (List.map_id _)).symm
      refine ⟨l, xs.map fun x => (refA x, [(kAt H1 x).1, (kAt H1 x).2]), rfl, SqL.of (by rw [← hxs]; exact h), fun q hq => ?_, by rw [List.length_map]; rw [e, List.length_map] at hl; exact hl, fun b L hb sub sup => ?_⟩
      · obtain ⟨x, hx, rfl⟩ := List.mem_map.mp hq
        exact SqT.of (key x hx).2.2
      · have ne : ∀ {c : Addr} {o : HO}, H1 c = some o → c ≠ b := fun hcc z => by rw [z, hb] at hcc; cases hcc
        have inL : ∀ q ∈ L, ∃ x ∈ xs, q = (refA x, [(kAt H1 x).1, (kAt H1 x).2]) := fun q hq => by
          obtain ⟨x, hx, e2⟩ := List.mem_map.mp (sub q hq)
          exact ⟨x, hx, e2.symm⟩
        refine ⟨b, L, rfl, upd_same, fun q hq => ?_, fun q hq => ?_, fun M p pm nd pw hp => ?_⟩
        · obtain ⟨x, hx, rfl⟩ := inL q hq
          have g := (key x hx).2.2
          exact SqT.of (by rw [upd_ne (ne g)]; exact g)
        · obtain ⟨x, hx, rfl⟩ := inL q hq
          exact ⟨_, _, rfl⟩
        · have up : Same H1 (upd H1 b (SetTO X.prog X.w b L)) := same_new hb
          have hp1 : H1 p = none := by
            by_cases c : p = b
            · rw [c]; exact hb
            · rw [upd_ne c] at hp; exact hp
          have inM : ∀ q ∈ M, ∃ x ∈ xs, q = (refA x, [(kAt H1 x).1, (kAt H1 x).2]) := fun q hq => inL q (pm.mem_iff.mp hq)
          have hM : (M.map fun q => pairOf q.2) = uniqP ts := by
            have i1 : (M.map fun q => pairOf q.2).Nodup := List.pairwise_map.mpr (List.Pairwise.imp_of_mem (fun {q r} hq hr ne e2 => ne (by
              obtain ⟨x, _, rfl⟩ := inM q hq
              obtain ⟨x', _, rfl⟩ := inM r hr
              have a1 := congrArg Prod.fst e2
              have a2 := congrArg Prod.snd e2
              show [(kAt H1 x).1, (kAt H1 x).2] = [(kAt H1 x').1, (kAt H1 x').2]
              have a1 : (kAt H1 x).1 = (kAt H1 x').1 := a1
              have a2 : (kAt H1 x).2 = (kAt H1 x').2 := a2
              rw [a1, a2])) (List.pairwise_map.mp nd))
            refine uniq_of i1 (fun y => ?_) (List.pairwise_map.mpr pw)
            rw [e, List.mem_map, List.mem_map]
            constructor
            · rintro ⟨q, hq, rfl⟩
              obtain ⟨x, hx, rfl⟩ := inM q hq
              exact ⟨x, hx, rfl⟩
            · rintro ⟨x, hx, rfl⟩
              obtain ⟨q, hq, e3⟩ := List.mem_map.mp (sup _ (List.mem_map.mpr ⟨x, hx, rfl⟩))
              exact ⟨q, pm.mem_iff.mpr hq, by rw [e3]; rfl⟩
          refine k p _ _ ((e1.trans up).trans (same_new hp)) (same_none e1 hp1) upd_same ?_
          have rr : RpL X.K C (fun c => AvO true true S0 B σ env c ∨ c = p) (upd (upd H1 b (SetTO X.prog X.w b L)) p (.lst (M.map fun q => V.ref q.1))) (M.map fun q => V.ref q.1) (dP ((M.map fun q => V.ref q.1).map (kAt H1))) := RpL.ofPairs (up.trans (same_new hp)) fun v hv => by
            obtain ⟨q, hq, rfl⟩ := List.mem_map.mp hv
            obtain ⟨x, hx, rfl⟩ := inM q hq
            obtain ⟨x1, x2, x3⟩ := key x hx
            refine ⟨refA x, rfl, fun z => z.elim x2 fun z => ?_, by rw [← x1]; exact x3⟩
            rw [z, hp1] at x3; cases x3
          rw [show (M.map fun q => V.ref q.1).map (kAt H1) = uniqP ts by
            rw [← hM, List.map_map]
            refine List.map_congr_left fun q hq => ?_
            obtain ⟨x, hx, rfl⟩ := inM q hq
            show kAt H1 (V.ref (refA x)) = ((kAt H1 x).1, (kAt H1 x).2)
            rw [← (key x hx).1]] at rr
          exact rr⟩
end Fw

/-! Fw26: trees made where an error is caught; of a list that is changed later; try that goes on. -/
namespace Fw
open PySem L2 Mt PyProof.Rows
section
variable {X : Cx} {CX : CXT} {k : Nat} {f C : Addr} {fd : FuncData} {ps : List Str} {sp : Sp} {E : L2.St → XK} {xn : Str} {p pos : Pos} {e : Expr} {es : List Expr} {t : TA}
theorem run_mkAt {pins : List (Addr × Obj)} {σ : L2.St} {H : Hp} {z : Shared} {Q : VK} {us : List Value} {vs : List V} (M : Mk X.K C f) (F : FnOk X.prog X.w X.K X.mg X.base CX k f fd ps sp) (room : Room (k + 1) X.A) (bi : Binds X.K fd ps []) (ok : PassesAt CX X σ (E σ)) (I : Inv X pins σ H z) (r : Vals vs us)
    (w : ∀ x dx, H x = none → H dx = none → dx ≠ x → sp (.ref x :: vs) (upd (upd H dx (.own x)) x (.ins C dx [])) (fun v H2 => v = .non ∧ Q (.ref x) H2) (E σ)) : wpAny (model X.prog X.w) X.A (call (.ref C) us) (EP X pins σ Q) X.xe z := by
  have told := w (z.heap.objs.size + 1) z.heap.objs.size (I.hok.fresh (Nat.le_succ _)) (I.hok.fresh (Nat.le_refl _)) (Nat.ne_of_lt (Nat.lt_succ_self _))
  have J := Inv.made (C := C) I
  have rr : Vals (V.ref (z.heap.objs.size + 1) :: vs) (Value.ref (z.heap.objs.size + 1) :: us) := .cons rfl r
  have ln : (Value.ref (z.heap.objs.size + 1) :: us ++ []).length = ps.length := by
    have a := rr.length
    rw [F.len _ _ _ _ told] at a
    rw [List.append_nil]
    exact a.symm
  have bb := bi _ (Value.ref (z.heap.objs.size + 1) :: us) J.kIn ln
  rw [List.append_nil] at bb
  refine wpAny_call (make_map (f := f) I.kIn M.makes M.init (beq_iff_eq.mp M.fn) (codeAny_mono (F.run _ X.stack _ _ ⟨Value.ref (z.heap.objs.size + 1) :: us, []⟩ _ _ _ (E σ) (room.make C us []) (J.env0.make C us []) bb rr told) fun res z2 hz => ?_))
  cases res with
  | error er => exact ok pins _ _ er z2 J hz
  | ok fl => cases fl with
    | ret u =>
      obtain ⟨v, H2, J2, rv, ev, q⟩ := J.after hz
      subst ev
      exact ⟨rv, ⟨V.ref (z.heap.objs.size + 1), H2, J2, rfl, q⟩⟩
    | next => exact False.elim hz
    | brk => exact False.elim hz
    | cont => exact False.elim hz
def tMkAt (C : Addr) (sp : Sp) (E : L2.St → XK) (t : TA) : TE := fun σ H Q => t σ H fun vs H1 => ∀ x dx, H1 x = none → H1 dx = none → dx ≠ x → sp (.ref x :: vs) (upd (upd H1 dx (.own x)) x (.ins C dx [])) (fun v H2 => v = .non ∧ Q (.ref x) H2) (E σ)
theorem pe_mkAt (M : Mk X.K C f) (F : FnOk X.prog X.w X.K X.mg X.base CX k f fd ps sp) (room : Room (k + 1) X.A) (hg : Gl X xn) (hm : X.mg xn = some (.ref C)) (bi : Binds X.K fd ps []) (ok : ∀ σ, PassesAt CX X σ (E σ)) (ha : PA X (e :: es) t) (hdb : (xn == ("__debug__" : Str)) = false := by decide)
    (na : starEach (e :: es) X.env = (false, eval e X.env) :: starEach es X.env := by rfl) (hpl : (backTo pos (starEach es X.env)).any (·.1) = false := by rfl) : PE X (.Call (.Name xn p) (e :: es) [] pos) (tMkAt C sp E t) := by
  refine ⟨fun pins z σ H Q I w => wpAny_Call_Name_kw (ld_glob I hg hm ?_ hdb)⟩
  refine PySem.W.callWith_K (h₀ := X.base) I.ok.mod.kin M.kp (thn (ha.run pos pins z σ H _ I w) fun us z1 ⟨vs, H1, J, r, q⟩ => ⟨J.kIn, ?_⟩) na hpl
  exact run_mkAt M F room bi (ok σ) J r q
end
section
variable {X : Cx} {C : Addr} {env e1 : Env} {a b : Expr} {p p2 p3 pos : Pos} {k j : Nat} {m : Int} {ts : List (Int × Int)} {ds : List D} {ok2 : Int → List D → Prop} {cb cc : Addr} {E : L2.St → XK}
/-- Tree(a, b) that is none -/
theorem px_mkTX (tk : TkE X E) (h : KnTree X.prog X.w X.K X.mg X.base k C cb ok2) (hr : Room j X.A) (ha : PX X C false false a env (.int m)) (hb2 : PX X C false false b env (.lst ds)) (hno : ok2 m ds) (hj : k + 1 ≤ j := by decide) (hg : Gl X "Tree" := by rfl)
    (hdb : ("Tree" == ("__debug__" : Str)) = false := by decide) (na : starEach [a, b] X.env = (false, eval a X.env) :: starEach [b] X.env := by rfl) (nb : starEach [b] X.env = (false, eval b X.env) :: starEach [] X.env := by rfl) (hpl : (backTo pos (starEach [b] X.env)).any (·.1) = false := by rfl) :
    PXx X C E (.Call (.Name "Tree" p) [a, b] [] pos) env cb := by
  obtain ⟨f, fd, ps, M, F, hb, hm⟩ := h
  exact (pe_mkAt (E := E) M F (hr.mono hj) hg hm hb (fun σ => passAt tk σ) (pas_cons ha (pas1 hb2 nb) na) hdb na hpl).imp fun σ H Q ⟨H0, S0, B, EE, k⟩ => ⟨H0, S0, B, EE, fun vs H1 e1 r t dx ht hdx hne => by
    obtain ⟨v, w, rfl, r1, r2⟩ := r.two
    cases r1
    have E1 := EE.mono e1
    have up : Same H1 (upd (upd H1 dx (.own t)) t (.ins C dx [])) := (same_new hdx).trans (same_new (by rw [upd_ne (Ne.symm hne)]; exact ht))
    exact ⟨fun _ => False, t, dx, m, w, ds, rfl, fun a z => z.elim, fun z => z, upd_same, by rw [upd_ne hne]; exact upd_same, r2.weak (fun a u _ q => up a u q) (fun a u q z => z.elim False.elim fun z => by rw [z, ht] at q; cases q), .inr ⟨hno, fun H' sm => k H' ((E1.mono up).mono sm)⟩⟩⟩
theorem rpl_but {K : PySem.W.Frag} {S S' : Addr → Prop} {H : Hp} {l : Addr} {ys : List V} (hl : H l = some (.lst ys)) (sub : ∀ c, S c → c ≠ l → S' c) : ∀ {xs : List V} {ts : List (Int × Int)}, RpL K C S' H xs (dP ts) → RpL K C S H xs (dP ts)
  | _, [], h => by cases h; exact .nil
  | _, t :: ts, h => by
    cases h with
    | cons r rs =>
      refine .cons ?_ (rpl_but hl sub rs)
      cases r with
      | @tup c _ _ n hh r2 =>
        have ne : c ≠ l := fun e => by rw [e, hl] at hh; cases hh
        refine .tup (fun y => n (sub _ y ne)) hh ?_
        cases r2 with
        | cons q1 q2 => cases q2 with
          | cons q2 q3 =>
            cases q1; cases q2; cases q3
            exact .cons (.int _) (.cons (.int _) .nil)
/-- Tree(a, x), x a list of ties of our own -/
theorem px_mkTO {o s : Bool} {xn : Str} (i : Nat) (h : KnTree X.prog X.w X.K X.mg X.base k C cb ok2) (hr : Room j X.A) (ha : PX X C o s a env (.int m)) (hi : env[i]? = some (.own (dP ts))) (hok : TreeOk m ts) (hj : k + 1 ≤ j := by decide) (hN : X.N[i]? = some xn := by rfl) (hv : Vis X.env.scope xn := by first | exact Or.inl rfl | exact Or.inr (Or.inl rfl))
    (hd : (xn == ("__debug__" : Str)) = false := by decide) (hcd : (xn == ("__classdict__" : Str)) = false := by decide) (hg : Gl X "Tree" := by rfl)
    (hdb : ("Tree" == ("__debug__" : Str)) = false := by decide) (na : starEach [a, .Name xn p2] X.env = (false, eval a X.env) :: starEach [.Name xn p2] X.env := by rfl) (nb : starEach [.Name xn p2] X.env = (false, eval (.Name xn p2) X.env) :: starEach [] X.env := by rfl) (hpl : (backTo pos (starEach [.Name xn p2] X.env)).any (·.1) = false := by rfl) :
    PX X C o s (.Call (.Name "Tree" p) [a, .Name xn p2] [] pos) env (.tree m (dP ts)) := by
  obtain ⟨f, fd, ps, M, F, hb, hm⟩ := h
  exact (pe_make M F (hr.mono hj) hg hm hb .nil passL (pa_cons ha (pa_cons (pe_var (i := i) hN hv hd hcd) pa_nil nb) na) hdb na hpl).imp fun σ H Q ⟨H0, S0, B, EE, k⟩ => ⟨H0, S0, B, EE, fun v H1 e1 r1 => by
    obtain ⟨l, xs, es, h1, rx, oA, n0⟩ := ownAt EE hi
    cases r1
    refine ⟨_, es, fun t dx ht hdx hne => ?_⟩
    have E1 := EE.mono e1
    have h1' := e1 _ _ h1
    have up : Same H1 (upd (upd H1 dx (.own t)) t (.ins C dx [])) := (same_new hdx).trans (same_new (by rw [upd_ne (Ne.symm hne)]; exact ht))
    have lt : l ≠ t := fun y => by rw [y, ht] at h1'; cases h1'
    have rx1 : RpL X.K C (fun c => (AvO o s S0 B σ env c ∧ c ≠ l) ∨ c = t) (upd (upd H1 dx (.own t)) t (.ins C dx [])) xs (dP ts) := (rx.mono e1).weak (fun c u _ q => up c u q) (fun c u q y => by
      rcases y with ⟨y, _⟩ | y
      · rcases y with ⟨_, y⟩ | ⟨_, y⟩
        · exact .inl y
        · exact .inr y
      · rw [y, ht] at q; cases q)
    refine ⟨(fun c => AvO o s S0 B σ env c ∧ c ≠ l), t, dx, m, .ref l, dP ts, rfl, fun c y => same_some up (AvO.some E1 y.1), fun y => AvO.some E1 y.1 ht, upd_same, by rw [upd_ne hne]; exact upd_same, .lst (fun y => by
      rcases y with y | y
      · exact y.2 rfl
      · exact lt y) (up _ _ h1') rx1, .inl ⟨⟨ts, rfl, hok⟩, fun H' b ys kp hbn k1 k2 rr => ⟨rfl, ?_⟩⟩⟩
    have sm : Same H1 H' := fun c u q => kp c u (fun y => by rw [y, ht] at q; cases q) (up c u q)
    refine k _ H' (e1.trans sm) (.tree (fun y => AvO.some E1 y ht) (fun y => AvO.some E1 y (same_none up hbn)) k1 k2 (rpl_but (sm _ _ h1') (fun c y ne => .inl ⟨y, ne⟩) rr))⟩
end
section
variable {X : Cx} {C : Addr} {E : L2.St → XK} {env e1 : Env} {d : D} {nm : Str} {i : Nat} {body : List Stmt} {c0 : ExceptHandler} {hs : List ExceptHandler} {l : List Cl} {pos : Pos}
/-- the body goes on behind -/
theorem sx_tryN (fr : X.stack = X.env :: X.outer) (lo : X.env.frame = some X.env.locals) (nd : X.N.Nodup) (at_ : X.N[i]? = some nm) (kd : X.env.kindOf nm = some .local)
    (hb : ∀ (W : WX) (pn : List (Addr × Obj)) (xe : Value → Shared → Prop), L2.Takes (X.tr pn xe) W → SXs (X.tr pn xe) C (fun σ cls dd H => W cls dd σ H) body env (.nx e1)) (cl : HA X nm (c0 :: hs) l) : SX X C E (.Try body (c0 :: hs) [] [] pos) env (.nx e1) :=
  (ps_tryA (tb := fun W => tS X.K C (fun σ cls dd H => W cls dd σ H) env (.nx e1)) (Wo := fun _ _ _ _ => False) fr lo nd at_ kd takes0 (fun W pn xe tk _ => hb W pn xe tk) cl).imp fun Dn σ H ⟨H0, S0, B, EE, k⟩ => ⟨H0, S0, B, EE, k⟩
end
theorem kit_ofTy {K : PySem.W.Frag} {a : Addr} {n : String} {b : Bool} (hm : PySem.W.kitMeta n = true) (h : PySem.W.subIn K (.ref a) (.type n) = some b) : PySem.W.kitOne K (.ref a) (.type n) = some b := by
  unfold PySem.W.kitOne
  rw [if_neg (by simp)]
  unfold PySem.W.kitCls
  show (if PySem.W.kitMeta n = true then _ else _) = _
  rw [if_pos hm]; exact h
/-- isinstance(e, T), T a built-in class -/
theorem px_isEB {X : Cx} {C : Addr} {o s : Bool} {env : Env} {cc ad : Addr} {ob : Obj} {pn : List (Addr × Obj)} {en tn : Str} {U : String} {b : Bool} {p p2 p3 pos : Pos} (j : Nat) (Cc : ExcC X.K cc) (hz : Zc (.ref cc) none ob) (hf : ∃ us, ob.data = .fields us) (hi : env[j]? = some (.raw (.ref ad))) (hm : X.mg "isinstance" = none) (hm2 : X.mg tn = none) (hv2 : bootBuiltins tn = some (.type U)) (hk : PySem.W.kitOne X.K (.ref cc) (.type U) = some b)
    (hN : X.N[j]? = some en := by rfl) (hv : Vis X.env.scope en := by first | exact Or.inl rfl | exact Or.inr (Or.inl rfl)) (hd : (en == ("__debug__" : Str)) = false := by decide) (hcd : (en == ("__classdict__" : Str)) = false := by decide) (hg : Gl X "isinstance" := by rfl) (hg2 : Gl X tn := by rfl) (hn : tn ≠ "__name__" := by decide) (hd2 : (tn == ("__debug__" : Str)) = false := by decide)
    (na : starEach [.Name en p2, .Name tn p3] X.env = (false, eval (.Name en p2) X.env) :: starEach [.Name tn p3] X.env := by rfl) (nb : starEach [.Name tn p3] X.env = (false, eval (.Name tn p3) X.env) :: starEach [] X.env := by rfl) (hpl : (backTo pos (starEach [.Name tn p3] X.env)).any (·.1) = false := by rfl) :
    PX (X.suite ad ((ad, ob) :: pn)) C o s (.Call (.Name "isinstance" p) [.Name en p2, .Name tn p3] [] pos) env (.bl b) :=
  (pe_callB (call_isE Cc hz hf) hg hm PyProof.Rows.boot_isinstance (pa_cons (pe_var (i := j) hN hv hd hcd) (pa_cons (pe_bltn (v := .ty U) hg2 hm2 hv2 rfl hn hd2) pa_nil nb) na) (by decide) (by decide) na hpl).imp fun σ H Q ⟨H0, S0, B, EE, k⟩ =>
    ⟨_, EE.slot j _ hi, .ty U, .type U, b, rfl, fun u h => h, hk, k _ H (Same.refl H) (.ofSc rfl)⟩
end Fw

/-! Fw27: tables of sets up to 512 places, without the question where an element is found again: what is put in is new. -/
namespace Fw
open PySem L2 Mt PyProof.Rows
/-- four widths -/
def Mk4 (m : Nat) : Prop := m = 7 ∨ m = 31 ∨ m = 127 ∨ m = 511
/-- the places met in n turns, as the bits of a number -/
def orb (m : Nat) : Nat → Nat → Nat → Nat
  | 0, _, acc => acc
  | n + 1, x, acc => orb m n ((x * 5 + 1) % (m + 1)) (acc ||| 2 ^ x)
theorem orb_bit (m j : Nat) : ∀ (n i a acc : Nat), (orb m n (lcgI m i a) acc).testBit j = true → acc.testBit j = true ∨ ∃ k, k < n ∧ lcgI m i (a + k) = j
  | 0, _, _, _, h => .inl h
  | n + 1, i, a, acc, h => by
    have h' : (orb m n (lcgI m i (a + 1)) (acc ||| 2 ^ lcgI m i a)).testBit j = true := h
    rcases orb_bit m j n i (a + 1) _ h' with q | ⟨k, hk, e⟩
    · rw [Nat.testBit_or, Nat.testBit_two_pow] at q
      rcases Bool.or_eq_true _ _ ▸ q with q | q
      · exact .inl q
      · exact .inr ⟨0, Nat.succ_pos _, of_decide_eq_true q⟩
    · exact .inr ⟨k + 1, Nat.succ_lt_succ hk, by rw [show a + (k + 1) = a + 1 + k by omega]; exact e⟩
theorem orb7 : orb 7 8 0 0 = 2 ^ 8 - 1 ∧ lcgI 7 0 8 = 0 := by decide +kernel
theorem orb31 : orb 31 32 0 0 = 2 ^ 32 - 1 ∧ lcgI 31 0 32 = 0 := by decide +kernel
theorem orb127 : orb 127 128 0 0 = 2 ^ 128 - 1 ∧ lcgI 127 0 128 = 0 := by decide +kernel
theorem orb511 : orb 511 512 0 0 = 2 ^ 512 - 1 ∧ lcgI 511 0 512 = 0 := by decide +kernel
theorem orb_full {m : Nat} (hm : Mk4 m) : orb m (m + 1) 0 0 = 2 ^ (m + 1) - 1 ∧ lcgI m 0 (m + 1) = 0 := by
  rcases hm with e | e | e | e <;> subst e
  · exact orb7
  · exact orb31
  · exact orb127
  · exact orb511
theorem lap_add (m i a : Nat) : ∀ k, lcgI m (lcgI m i a) k = lcgI m i (a + k)
  | 0 => rfl
  | k + 1 => by
    show (lcgI m (lcgI m i a) k * 5 + 1) % (m + 1) = (lcgI m i (a + k) * 5 + 1) % (m + 1)
    rw [lap_add m i a k]
theorem orb_meets {m : Nat} (hm : Mk4 m) {i j : Nat} (hi : i ≤ m) (hj : j ≤ m) : ∃ k, k ≤ m ∧ lcgI m i k = j := by
  obtain ⟨full, lap⟩ := orb_full hm
  have from0 : ∀ j, j ≤ m → ∃ b, b ≤ m ∧ lcgI m 0 b = j := fun j hj => by
    have h : (orb m (m + 1) (lcgI m 0 0) 0).testBit j = true := by
      show (orb m (m + 1) 0 0).testBit j = true
      rw [full, Nat.testBit_two_pow_sub_one]
      exact decide_eq_true (Nat.lt_succ_of_le hj)
    rcases orb_bit m j (m + 1) 0 0 0 h with q | ⟨k, hk, e⟩
    · rw [Nat.zero_testBit] at q
      exact absurd q (by decide)
    · exact ⟨k, Nat.le_of_lt_succ hk, by rw [Nat.zero_add] at e; exact e⟩
  obtain ⟨a, ha, ea⟩ := from0 i hi
  obtain ⟨b, hb, eb⟩ := from0 j hj
  by_cases c : a ≤ b
  · exact ⟨b - a, by omega, by rw [← ea, lap_add, show a + (b - a) = b by omega]; exact eb⟩
  · refine ⟨m + 1 + b - a, by omega, ?_⟩
    rw [← ea, lap_add, show a + (m + 1 + b - a) = m + 1 + b by omega, ← lap_add, lap]
    exact eb
theorem runs_meet {m : Nat} (hm : Mk4 m) (h : Int) {j : Nat} (hj : j ≤ m) : ∃ n, n ≤ m + 12 ∧ runI m (SetTable.bits h) n = j := by
  obtain ⟨k, hk, e⟩ := orb_meets hm (runI_le m (SetTable.bits h) 12) hj
  exact ⟨12 + k, by omega, (runI_tail (bits_lt h) k).trans e⟩
theorem way_meets {m : Nat} (hm : Mk4 m) (h : Int) {j : Nat} (hj : j ≤ m) : ∃ k, k < 10 * SetTable.turns m ∧ way m h k = j := by
  obtain ⟨n, hn, e⟩ := runs_meet hm h hj
  obtain ⟨k, hk, e2⟩ := run_nth m (SetTable.bits h) n
  refine ⟨k, ?_, (congrArg SetTable.Probe.j e2).trans e⟩
  unfold SetTable.turns
  omega
theorem way_in (m : Nat) (h : Int) (k : Nat) : way m h k ≤ m := by
  have hi : SetTable.bits h % (m + 1) ≤ m := Nat.le_of_lt_succ (Nat.mod_lt _ (Nat.succ_pos _))
  have r := (runEnd_bd hi).1
  have q := nth_in (m := m) k (runAt m (SetTable.bits h % (m + 1)) (SetTable.bits h)) (by
    have g := runEnd_ge m (SetTable.bits h % (m + 1))
    show SetTable.bits h % (m + 1) + (SetTable.runEnd m (SetTable.bits h % (m + 1)) - SetTable.bits h % (m + 1)) ≤ m
    omega)
  exact Nat.le_trans (Nat.le_add_right _ _) q
/-- a table with n elements in it -/
structure TQ (t : SetTable) (n : Nat) : Prop where
  up : Ris t.place.toList
  none_ : t.dummies = #[]
  len : t.place.size = n
  msk : Mk4 t.mask
theorem TQ.open_ {t : SetTable} {n : Nat} (T : TQ t n) (hn : n ≤ t.mask) (h : Int) : ∃ K, K < 10 * SetTable.turns t.mask ∧ way t.mask h K ∉ t.place.toList ∧ ∀ c, c < K → way t.mask h c ∈ t.place.toList := by
  have hl : t.place.toList.length < t.mask + 1 := by
    rw [Array.length_toList, T.len]
    omega
  obtain ⟨j, hj, hne⟩ := st_missing t.place.toList (t.mask + 1) hl
  obtain ⟨k, hk, e⟩ := way_meets T.msk h (Nat.le_of_lt_succ hj)
  obtain ⟨K, h1, h2, h3⟩ := st_least (p := fun k => way t.mask h k ∉ t.place.toList) k (by show way t.mask h k ∉ _; rw [e]; exact hne)
  exact ⟨K, Nat.lt_of_le_of_lt h1 hk, h2, fun c hc => Classical.byContradiction fun z => h3 c hc z⟩
theorem TQ.put_ {t : SetTable} {n j : Nat} (T : TQ t n) (hj : j ∉ t.place.toList) : TQ (t.put j).1 (n + 1) ∧ (t.put j).1.fill = n + 1 ∧ (t.put j).2 = SetTable.below t.place j ∧ SetTable.below t.place j ≤ n := by
  obtain ⟨c1, _, _⟩ := below_cut T.up j
  have hnp : t.place[SetTable.below t.place j]? ≠ some j := fun e => hj (List.mem_of_getElem? (by rw [Array.getElem?_toList]; exact e))
  have hpl : SetTable.below t.place j ≤ t.place.toList.length := by rw [Array.length_toList]; exact c1
  have hs : (t.put j).1.place.size = n + 1 := by
    rw [← Array.length_toList, put_place t j, len_ins _ hpl, Array.length_toList, T.len]
  refine ⟨⟨ris_insert T.up hnp, put_dm T.none_ j, hs, T.msk⟩, ?_, rfl, by rw [← T.len]; exact c1⟩
  show (t.put j).1.place.size + (t.put j).1.dummies.size = n + 1
  rw [hs, put_dm T.none_ j]
  rfl
/-! laid anew -/
theorem free_some {m : Nat} (hm : Mk4 m) (ow : Array (Option Nat)) (h : Int) {j : Nat} (hj : j ≤ m) (hf : oAt ow j = none) :
    ∃ K, SetTable.layClean.free m ow (SetTable.turns m) (SetTable.bits h % (m + 1)) (SetTable.bits h) = some (way m h K) ∧ oAt ow (way m h K) = none := by
  obtain ⟨n, hn, e⟩ := runs_meet hm h hj
  have hw : way m h (off m (SetTable.bits h % (m + 1)) (SetTable.bits h) n) = j := by
    have q := nth_off m n (SetTable.bits h % (m + 1)) (SetTable.bits h)
    rw [itL_run] at q
    exact (congrArg SetTable.Probe.j q).trans e
  obtain ⟨K, k1, k2, k3⟩ := st_least (p := fun k => oAt ow (way m h k) = none) (off m (SetTable.bits h % (m + 1)) (SetTable.bits h) n) (by
    show oAt ow (way m h _) = none
    rw [hw]
    exact hf)
  refine ⟨K, free_spec m ow (SetTable.turns m) n _ _ K (by unfold SetTable.turns; omega) k1 (fun k hk => ?_) ?_, k2⟩
  · have q := k3 k hk
    show (oAt ow (way m h k)).isNone = false
    cases z : oAt ow (way m h k) with
    | none => exact absurd z q
    | some _ => rfl
  · show (oAt ow (way m h K)).isNone = true
    rw [show oAt ow (way m h K) = none from k2]
    rfl
/-- n are seated -/
structure Seat (m n : Nat) (ow : Array (Option Nat)) : Prop where
  sz : ow.size = m + 1
  all : ∀ k, k < n → ∃ j, j ≤ m ∧ oAt ow j = some k
  ps : ∃ ps : List Nat, ps.length = n ∧ ∀ j, j ≤ m → oAt ow j ≠ none → j ∈ ps
theorem Seat.more {m n : Nat} (hm : Mk4 m) {ow : Array (Option Nat)} (W : Seat m n ow) (hn : n ≤ m) (h : Int) :
    ∃ j, SetTable.layClean.free m ow (SetTable.turns m) (SetTable.bits h % (m + 1)) (SetTable.bits h) = some j ∧ Seat m (n + 1) (ow.setIfInBounds j (some n)) := by
  obtain ⟨ps, hps, hin⟩ := W.ps
  obtain ⟨j0, h0, hn0⟩ := st_missing ps (m + 1) (by omega)
  have hj0 : oAt ow j0 = none := by
    cases z : oAt ow j0 with
    | none => rfl
    | some k => exact absurd (hin j0 (Nat.le_of_lt_succ h0) (by rw [z]; exact fun e => nomatch e)) hn0
  obtain ⟨K, e1, e2⟩ := free_some hm ow h (Nat.le_of_lt_succ h0) hj0
  have hjm := way_in m h K
  generalize way m h K = j at e1 e2 hjm
  have self := oAt_set_self (owner := ow) (some n) (show j < ow.size by rw [W.sz]; omega)
  refine ⟨j, e1, by rw [Array.size_setIfInBounds]; exact W.sz, fun k hk => ?_, j :: ps, by rw [List.length_cons, hps], fun i hi e => ?_⟩
  · by_cases c : k = n
    · rw [c]
      exact ⟨j, hjm, self⟩
    · obtain ⟨i, hi, e⟩ := W.all k (by omega)
      refine ⟨i, hi, ?_⟩
      rw [oAt_set_ne _ (fun z => by rw [z, e2] at e; exact nomatch e)]
      exact e
  · by_cases c : i = j
    · rw [c]
      exact List.mem_cons_self
    · rw [oAt_set_ne _ c] at e
      exact List.mem_cons_of_mem _ (hin i hi e)
theorem seat_fold {m : Nat} (hm : Mk4 m) : ∀ (hs : List Int) (n : Nat) (ow : Array (Option Nat)), Seat m n ow → n + hs.length ≤ m →
    ∃ ow', hs.foldl (stepF m) (some (ow, n)) = some (ow', n + hs.length) ∧ Seat m (n + hs.length) ow'
  | [], n, ow, W, _ => ⟨ow, rfl, W⟩
  | h :: hs, n, ow, W, hl => by
    rw [List.length_cons] at hl
    obtain ⟨j, e, W'⟩ := W.more hm (by omega) h
    obtain ⟨ow', f, W2⟩ := seat_fold hm hs (n + 1) _ W' (by omega)
    have en : n + (h :: hs).length = n + 1 + hs.length := by rw [List.length_cons]; omega
    rw [en]
    refine ⟨ow', ?_, W2⟩
    rw [List.foldl_cons, stepF_some e]
    exact f
theorem relaid4 (t : SetTable) {hs : Array Int} {wanted M : Nat} (hw : SetTable.sizeAbove wanted - 1 = M) (hM : Mk4 M) (hn : hs.size ≤ M) :
    ∃ t' order, t.relaid hs wanted = some (t', order) ∧ order.toList.Perm (List.range hs.size) ∧ TQ t' hs.size ∧ t'.mask = M ∧ t'.led = t.led ∧ t'.plain = t.plain := by
  obtain ⟨ow, e, W⟩ := seat_fold hM hs.toList 0 (Array.replicate (M + 1) none) ⟨by simp, fun k hk => absurd hk (Nat.not_lt_zero _), [], rfl, fun j hj z => absurd (oAt_init hj) z⟩ (by rw [Array.length_toList]; omega)
  rw [Nat.zero_add, Array.length_toList] at e W
  have hr : t.relaid hs wanted = some (tabOf t M ow, ((liveOf M ow).map (·.2)).toArray) := by
    rw [relaid_eq, hw, layClean_eq, e]
    rfl
  have ris := ris_live (fun j => ow.getD j none) (List.range (M + 1)) (by
    unfold Ris
    exact List.pairwise_lt_range)
  have r1 : Ris ((liveOf M ow).map (·.1)) := ris.1
  have nd : ((liveOf M ow).map (·.1)).Nodup := List.Pairwise.imp (fun h => Nat.ne_of_lt h) r1
  have hall : ∀ k, k < hs.size → k ∈ (liveOf M ow).map (·.2) := fun k hk => by
    obtain ⟨j, b1, b2⟩ := W.all k hk
    exact List.mem_map.mpr ⟨(j, k), (mem_live W.sz).2 ⟨b1, b2⟩, rfl⟩
  have hlen : (liveOf M ow).length = hs.size := by
    obtain ⟨ps, p1, p2⟩ := W.ps
    have a := nat_nodup_len ((liveOf M ow).map (·.1)) ps nd fun x hx => by
      obtain ⟨⟨y, k⟩, hq, ey⟩ := List.mem_map.mp hx
      obtain ⟨b1, b2⟩ := (mem_live W.sz).1 hq
      rw [← ey]
      exact p2 y b1 (by rw [b2]; exact fun z => nomatch z)
    have b := nat_nodup_len (List.range hs.size) ((liveOf M ow).map (·.2)) List.nodup_range fun k hk => hall k (List.mem_range.mp hk)
    rw [List.length_map, p1] at a
    rw [List.length_map, List.length_range] at b
    omega
  refine ⟨tabOf t M ow, _, hr, perm_range hs.size _ (by rw [List.length_map]; exact hlen) hall, ⟨r1, rfl, ?_, hM⟩, rfl, rfl, rfl⟩
  show ((liveOf M ow).map (·.1)).toArray.size = hs.size
  rw [List.size_toArray, List.length_map]
  exact hlen
theorem size4_5 : SetTable.sizeAbove (SetTable.grown 5) = 32 := by decide +kernel
theorem size4_19 : SetTable.sizeAbove (SetTable.grown 19) = 128 := by decide +kernel
theorem size4_77 : SetTable.sizeAbove (SetTable.grown 77) = 512 := by decide +kernel
end Fw

/-! Fw28: a set of tuples that grows by new ones. -/
namespace Fw
open PySem L2 Mt PyProof.Rows
theorem nth_dm (m : Nat) : ∀ (n : Nat) (p : SetTable.Probe), p.dummy = none → (nth m p n).dummy = none
  | 0, _, h => h
  | n + 1, p, h => nth_dm m n (adv m p) (by unfold adv; split <;> exact h)
structure SQ (P : Program) (w : World) (h : Heap) (a : Addr) (L : List (Addr × List Int)) (es : Array (Int × Value)) (ep : Nat) (t : SetTable) : Prop where
  at_ : ∃ o, h.get? a = some o ∧ o.ExactSet ∧ o.data = .set es ep t
  row : es.toList = rowsOf P w L
  tq : TQ t L.length
  tups : ∀ p ∈ L, IsT P w h p.2 p.1
  pla : t.plain = true
  ord : w.params.followText "set-order" = true ∨ t.led = true
  free : L.length * 5 < t.mask * 3
section
variable {P : Program} {w : World} {A : Around} {E : Value → Shared → Prop} {z : Shared}
variable {a : Addr} {L : List (Addr × List Int)} {es : Array (Int × Value)} {ep : Nat} {t : SetTable}
theorem row_len (hr : es.toList = rowsOf P w L) : es.size = L.length := by
  rw [← Array.length_toList, hr]
  exact List.length_map _
theorem fits4 {n : Nat} (T : TQ t n) (h : n ≤ t.mask) : t.fits n = true := by
  unfold SetTable.fits SetTable.fill
  rw [T.none_, T.len]
  simp [h]
theorem SQ.sz (R : SQ P w z.heap a L es ep t) : es.size = L.length := row_len R.row
theorem SQ.fit (R : SQ P w z.heap a L es ep t) : t.fits es.size = true := by
  rw [R.sz]
  exact fits4 R.tq (by have := R.free; omega)
theorem SQ.ent (R : SQ P w z.heap a L es ep t) {i : Nat} {p : Addr × List Int} (h : L[i]? = some p) : es[i]? = some (thash P w p.2, Value.ref p.1) := by
  have q : es.toList[i]? = (rowsOf P w L)[i]? := by rw [R.row]
  rw [Array.getElem?_toList] at q
  rw [q]
  show (L.map _)[i]? = _
  rw [List.getElem?_map, h]
  rfl
theorem SQ.stay (R : SQ P w z.heap a L es ep t) : ¬ t.gaveWay = true := by
  unfold SetTable.gaveWay
  rcases R.tq.msk with e | e | e | e <;> rw [e] <;> decide
theorem seek_new (R : SQ P w z.heap a L es ep t) {x : Addr} {k : List Int} (hx : IsT P w z.heap k x) (hu : A.units < cLine) (new : k ∉ L.map (·.2)) {Q : SetFound → Shared → Prop} (hQ : ∀ j, j ∉ t.place.toList → Q (.free j false) z) :
    ∀ (f r : Nat) (p : SetTable.Probe) (st : Option SetTable.Probe), st.getD (t.probeStart (thash P w k)) = p → p.dummy = none → r < f → r < 10 * SetTable.turns t.mask → (nth t.mask p r).j ∉ t.place.toList → (∀ c, c < r → (nth t.mask p c).j ∈ t.place.toList) →
      wpAny (model P w) A (setSearchFrom a (.ref x) (thash P w k) true f st) Q E z
  | 0, _, _, _, _, _, h, _, _, _ => absurd h (Nat.not_lt_zero _)
  | f + 1, r, p, st, hp, hn, hrf, hrt, hfree, hfull => by
    obtain ⟨o, ho, hex, hd⟩ := R.at_
    rw [setSearchFrom_succ]
    refine wpAny_bind (wpAny_setState_of ho hd R.fit ?_)
    dsimp only
    refine wp_if_neg R.stay ?_
    have sp := go_spec t R.tq.up R.tq.none_ (fun i => (es[i]?.map (·.1)).getD 0) (thash P w k) (10 * SetTable.turns t.mask) r p hn hrt hfull hfree
    rw [hp]
    rcases sp with ⟨n, i, hnr, hi, hh, _, hpr⟩ | ⟨_, hpr⟩
    · have pr : t.probe (fun i => (es[i]?.map (·.1)).getD 0) (thash P w k) p = some (.candidate (nth t.mask p n).j i (nth t.mask p (n + 1))) := hpr
      rw [pr]
      dsimp only
      have hil : i < L.length := by
        have q := (List.getElem?_eq_some_iff.mp hi).1
        rw [Array.length_toList, R.tq.len] at q
        exact q
      obtain ⟨y, hy⟩ : ∃ y, L[i]? = some y := ⟨_, List.getElem?_eq_getElem hil⟩
      have my := List.mem_of_getElem? hy
      have ne : ¬ y.2 = k := fun e => new (List.mem_map.mpr ⟨y, my, e⟩)
      have tail : wpAny (model P w) A (searchRest a (.ref x) (thash P w k) true f es t (nth t.mask p n).j i (nth t.mask p (n + 1))) Q E z := by
        unfold searchRest
        rw [R.ent hy]
        dsimp only
        refine wpAny_bind (wpAny_holding (wpAny_eqBool_tuple hu (R.tups y my) hx ?_))
        refine wpAny_bind (wpAny_setState_of ho hd R.fit ?_)
        dsimp only
        refine wp_if_neg (by simp [ne]) ?_
        rw [sameMem]
        dsimp only
        have live := slot_live R.tq.up hi
        simp only [if_true, live, R.ent hy]
        refine wpAny_bind (wpAny_isSame_ref_self (wpAny_bind (wpAny_pure ?_)))
        simp only [if_true]
        refine wp_if_neg (by simp [ne]) ?_
        have sh : ∀ c, nth t.mask (nth t.mask p (n + 1)) c = nth t.mask p (n + 1 + c) := fun c => (nth_add t.mask (n + 1) p c).symm
        refine seek_new R hx hu new hQ f (r - (n + 1)) (nth t.mask p (n + 1)) (some (nth t.mask p (n + 1))) rfl (nth_dm _ _ _ hn) (by omega) (by omega) ?_ fun c hc => ?_
        · rw [sh, show n + 1 + (r - (n + 1)) = r by omega]
          exact hfree
        · rw [sh]
          exact hfull _ (by omega)
      by_cases hl : t.led = true
      · exact wp_if_neg (by simp [hl]) tail
      · refine wp_if_pos (by simp [hl]) ?_
        refine wpAny_bind (seen_tup hx (fun v hv => ?_) ?_)
        · obtain ⟨e, he, ee⟩ := List.mem_map.mp hv
          have h1 : e ∈ es ∧ e.1 = thash P w k := by simpa using he
          have h2 : e ∈ rowsOf P w L := R.row ▸ (by simpa using h1.1)
          obtain ⟨q, hq, e2⟩ := List.mem_map.mp h2
          exact ⟨q.2, q.1, by rw [← ee, ← e2], R.tups q hq⟩
        · exact wp_if_neg (by decide) tail
    · have pr : t.probe (fun i => (es[i]?.map (·.1)).getD 0) (thash P w k) p = some (.empty (nth t.mask p r).j none) := hpr
      rw [pr]
      dsimp only
      exact wpAny_pure (hQ _ hfree)
theorem search_new (R : SQ P w z.heap a L es ep t) {x : Addr} {k : List Int} (hx : IsT P w z.heap k x) (hu : A.units < cLine) (new : k ∉ L.map (·.2)) {Q : SetFound → Shared → Prop} (hQ : ∀ j, j ∉ t.place.toList → Q (.free j false) z) :
    wpAny (model P w) A (setSearch a (.ref x) (thash P w k) true) Q E z := by
  obtain ⟨K, h1, h2, h3⟩ := R.tq.open_ (by have := R.free; omega) (thash P w k)
  have big : 10 * SetTable.turns t.mask ≤ 10000 := by
    unfold SetTable.turns
    rcases R.tq.msk with e | e | e | e <;> omega
  unfold setSearch
  exact seek_new R hx hu new hQ 100000 K _ none rfl rfl (by omega) h1 h2 h3
/-- laid anew, with more room -/
theorem relay4 {o : Obj} (ho : z.heap.get? a = some o) (hex : o.ExactSet) (hd : o.data = .set es ep t) (hrow : es.toList = rowsOf P w L) (T : TQ t L.length) (hm : L.length ≤ t.mask) (tup : ∀ p ∈ L, IsT P w z.heap p.2 p.1)
    (pl : t.plain = true) (ld : w.params.followText "set-order" = true ∨ t.led = true) {wanted M : Nat} (hw : SetTable.sizeAbove wanted - 1 = M) (hM : Mk4 M) (hw2 : SetTable.sizeAbove wanted ≤ 512) (hn : L.length * 5 < M * 3) {Q : Unit → Shared → Prop}
    (hQ : ∀ h' L' es' ep' t', Heap.SameBut a z.heap h' → SQ P w h' a L' es' ep' t' → L'.Perm L → Q () { z with heap := h' }) : wpAny (model P w) A (setRelay a wanted) Q E z := by
  have hsl := row_len hrow
  obtain ⟨t', order, e, hp, T', em, el, epl⟩ := relaid4 t (hs := es.map (·.1)) hw hM (by rw [Array.size_map, hsl]; omega)
  rw [Array.size_map, hsl] at hp T'
  obtain ⟨L2, r1, r2, _⟩ := order_rows L es order hrow hp
  have hs2 : (order.filterMap (es[·]?)).size = es.size := by rw [row_len r1, r2.length_eq, hsl]
  rw [setRelay_eq]
  refine wpAny_bind (wpAny_setState_of ho hd (by rw [hsl]; exact fits4 T hm) ?_)
  dsimp only
  refine wp_if_neg (by rw [sizeLine_eq]; omega) ?_
  rw [e]
  dsimp only
  refine wpAny_bind (wp_if_neg (by rw [hs2]; simp) (wpAny_pure ?_))
  dsimp only
  have T512 : es.size ≤ 400 := by
    rw [hsl]
    rcases hM with c | c | c | c <;> omega
  refine wpAny_storeSet_of ho hd ?_ (by rw [hs2, sizeLine_eq]; omega)
  have sb := Heap.SameBut.update z.heap a (Obj.putSet (order.filterMap (es[·]?)) t')
  refine hQ _ L2 _ (ep + 1) t' sb ⟨⟨_, store_at ho hd, hex, rfl⟩, r1, by rw [r2.length_eq]; exact T', fun p hpm => isT_same (tup p (r2.mem_iff.mp hpm)) ho hd sb, by rw [epl]; exact pl, by rw [el]; exact ld, ?_⟩ r2
  rw [r2.length_eq, em]
  exact hn
/-- one more -/
theorem add_new (R : SQ P w z.heap a L es ep t) {x : Addr} {k : List Int} (hx : IsT P w z.heap k x) (hu : A.units < cLine) (few : L.length < 300) (new : k ∉ L.map (·.2)) {Q : Bool → Shared → Prop}
    (hQ : ∀ h' L' es' ep' t', Heap.SameBut a z.heap h' → SQ P w h' a L' es' ep' t' → L'.Perm ((x, k) :: L) → Q true { z with heap := h' }) :
    wpAny (model P w) A (setAddHashed a (.ref x) (thash P w k)) Q E z := by
  obtain ⟨o, ho, hex, hd⟩ := R.at_
  have hsl := R.sz
  have room := R.free
  unfold setAddHashed
  refine wpAny_holding ?_
  rw [show (100000 : Nat) = 99999 + 1 from rfl, setAddHashedIn_succ]
  refine wpAny_bind (wpAny_setState_of ho hd R.fit ?_)
  dsimp only
  refine wp_if_neg (by simp [byScan, Value.scannable]) (wpAny_bind (search_new R hx hu new fun j hj => ?_))
  dsimp only
  refine wpAny_bind (wpAny_setState_of ho hd R.fit ?_)
  dsimp only
  obtain ⟨q1, q2, q3, q4⟩ := R.tq.put_ hj
  have m1 : (t.put j).1.mask = t.mask := rfl
  have l1 : (t.put j).1.led = t.led := rfl
  have p1 : (t.put j).1.plain = true := R.pla
  rw [show (t.put j) = ((t.put j).1, SetTable.below t.place j) from rfl]
  generalize SetTable.below t.place j = b at q3 q4 ⊢
  generalize (t.put j).1 = t1 at q1 q2 m1 l1 p1 ⊢
  dsimp only
  first
    | refine wp_if_pos p1 (wpAny_bind (hashBy_tup hx ?_))
    | exact wpAny_bind (wp_if_pos p1 (hashBy_tup hx ?_))
    | (refine wpAny_bind ?_; refine wp_if_pos p1 ?_; refine hashBy_tup hx ?_)
  simp only [if_true]
  have row1 : (SetTable.insertAt es b (thash P w k, Value.ref x)).toList = rowsOf P w (L.take b ++ (x, k) :: L.drop b) := by
    rw [SetTable.toList_insertAt, rows_put, R.row]
  have pm := put_perm L b (x, k)
  have len1 : (L.take b ++ (x, k) :: L.drop b).length = L.length + 1 := pm.length_eq
  generalize L.take b ++ (x, k) :: L.drop b = L1 at row1 pm len1
  have es1 := row_len row1
  generalize SetTable.insertAt es b (thash P w k, Value.ref x) = ns at row1 es1 ⊢
  refine wpAny_bind (wpAny_storeSet_of ho hd ?_ (by rw [es1, len1, sizeLine_eq]; omega))
  have sb := Heap.SameBut.update z.heap a (Obj.putSet ns t1)
  have ho1 := store_at (es' := ns) (t' := t1) ho hd
  generalize z.heap.update a (Obj.putSet ns t1) = h1 at sb ho1 ⊢
  have tup1 : ∀ p ∈ L1, IsT P w h1 p.2 p.1 := fun p hp => by
    rcases List.mem_cons.mp (pm.mem_iff.mp hp) with e | hp
    · rw [e]
      exact isT_same hx ho hd sb
    · exact isT_same (R.tups p hp) ho hd sb
  have ld1 : w.params.followText "set-order" = true ∨ t1.led = true := by rw [l1]; exact R.ord
  have tq1 : TQ t1 L1.length := by rw [len1]; exact q1
  have full : t1.tooFull = true ↔ (L.length + 1) * 5 ≥ t.mask * 3 := by
    unfold SetTable.tooFull
    rw [decide_eq_true_eq, q2, m1]
  by_cases hf : (L.length + 1) * 5 ≥ t.mask * 3
  · have grow : ∀ n M, L.length + 1 = n → SetTable.sizeAbove (SetTable.grown n) = M + 1 → Mk4 M → M ≤ 511 → n * 5 < M * 3 →
        wpAny (model P w) A (setRelay a (SetTable.grown (es.size + 1))) (fun _ z' => wpAny (model P w) A (pure true) Q E z') E { z with heap := h1 } := fun n M en c1 c2 c3 c4 => by
      rw [hsl, en]
      refine relay4 (z := { z with heap := h1 }) ho1 hex rfl row1 tq1 (by rw [len1, m1]; omega) tup1 p1 ld1 (M := M) (by rw [c1]; rfl) c2 (by rw [c1]; omega) (by rw [len1, en]; exact c4) ?_
      intro h2 L2 es2 ep2 t2 sb2 R2 pm2
      exact wpAny_pure (hQ h2 L2 es2 ep2 t2 (sb.trans sb2) R2 (pm2.trans pm))
    have go : wpAny (model P w) A (setRelay a (SetTable.grown (es.size + 1))) (fun _ z' => wpAny (model P w) A (pure true) Q E z') E { z with heap := h1 } := by
      rcases R.tq.msk with e | e | e | e <;> rw [e] at hf room
      · exact grow 5 31 (by omega) size4_5 (.inr (.inl rfl)) (by omega) (by omega)
      · exact grow 19 127 (by omega) size4_19 (.inr (.inr (.inl rfl))) (by omega) (by omega)
      · exact grow 77 511 (by omega) size4_77 (.inr (.inr (.inr rfl))) (by omega) (by omega)
      · exact absurd hf (by omega)
    first
      | exact wp_if_pos (by simp [full.mpr hf]) (wpAny_bind go)
      | exact wpAny_bind (wp_if_pos (by simp [full.mpr hf]) go)
  · have nf : ¬ t1.tooFull = true := fun c => hf (full.mp c)
    have fin := hQ h1 L1 ns (ep + 1) t1 sb ⟨⟨_, ho1, hex, rfl⟩, row1, tq1, tup1, p1, ld1, by rw [len1, m1]; omega⟩ pm
    first
      | exact wp_if_neg (by simp [nf]) (wpAny_pure fin)
      | exact wpAny_bind (wp_if_neg (by simp [nf]) (wpAny_pure (wpAny_pure fin)))
end
end Fw

/-! Fw29: len(set(xs)), xs up to 300 pairs, all unlike. -/
namespace Fw
open PySem L2 Mt PyProof.Rows
section
variable {P : Program} {w : World} {A : Around} {E : Value → Shared → Prop} {z : Shared}
theorem SQ.keep {h h' : Heap} {a : Addr} {L : List (Addr × List Int)} {es : Array (Int × Value)} {ep : Nat} {t : SetTable} (R : SQ P w h a L es ep t) (ha : ∀ o, h.get? a = some o → h'.get? a = some o) (ht : ∀ p ∈ L, IsT P w h' p.2 p.1) : SQ P w h' a L es ep t := by
  obtain ⟨o, ho, r⟩ := R.at_
  exact ⟨⟨o, ha o ho, r⟩, R.row, R.tq, ht, R.pla, R.ord, R.free⟩
abbrev newSet (w : World) : Obj := { cls := .type "set", dict := none, data := .set #[] 0 (.fresh 0 0 (!w.params.followText "set-order")) }
theorem sq_none {h : Heap} {a : Addr} (ho : h.get? a = some (newSet w)) : SQ P w h a [] #[] 0 (.fresh 0 0 (!w.params.followText "set-order")) where
  at_ := ⟨_, ho, ⟨rfl, rfl, rfl⟩, rfl⟩
  row := rfl
  tq := ⟨List.Pairwise.nil, rfl, rfl, .inl rfl⟩
  tups := fun p hp => nomatch hp
  pla := rfl
  ord := by
    show _ ∨ (!w.params.followText "set-order") = true
    cases w.params.followText "set-order" <;> decide
  free := by
    show 0 * 5 < 7 * 3
    decide
theorem take_grow {α : Type} {l : List α} {i : Nat} {x : α} (h : l[i]? = some x) : l.take (i + 1) = l.take i ++ [x] := by
  rw [List.take_succ, h]
  rfl
/-- the loop of set.update, each item new -/
theorem loop_new {I : Addr} {fp wr : List Addr} {G : Array GenState → Array GenState → Prop} {n : Nat} {Pv : Nat → Value → Prop} {St : Nat → Shared → Prop} {Rz : Result → Shared → Prop}
    (W : WalksS P w A.in1 I fp wr G n Pv St) (S : Addr) (out : S ∉ fp) (ks : List (Addr × List Int)) (hn : n = ks.length) (few : ks.length ≤ 300) (nd : (ks.map (·.2)).Nodup) (val : ∀ i v, Pv i v → ∃ p, ks[i]? = some p ∧ v = .ref p.1)
    (h0 : Heap) (tk : ∀ p ∈ ks, IsT P w h0 p.2 p.1) (S0 : h0.get? S = none) (w0 : ∀ b ∈ wr, h0.get? b = none) (hu : A.in1.units < cLine) :
    ∀ (k i : Nat) (z : Shared), i + k = n → St i z → (∀ b o, h0.get? b = some o → z.heap.get? b = some o) → (∃ L es ep t, SQ P w z.heap S L es ep t ∧ L.Perm (ks.take i)) →
      (∀ z' L es ep t, Moved (S :: wr) G z z' → SQ P w z'.heap S L es ep t → L.Perm ks → (∀ b o, h0.get? b = some o → z'.heap.get? b = some o) → Rz (.ok (.ret .none)) z') →
      codeAny (model P w) A (.builtin "set.update.loop" ⟨[.ref S, .ref I], []⟩) Rz z := by
  have notW : S ∉ wr := fun h => out (W.sub _ h)
  have wider : ∀ b ∈ wr, b ∈ S :: wr := fun b hb => List.mem_cons_of_mem _ hb
  have still : ∀ {z z' : Shared}, Moved wr G z z' → (∀ b o, h0.get? b = some o → z.heap.get? b = some o) → ∀ b o, h0.get? b = some o → z'.heap.get? b = some o := fun m kp b o e =>
    m.heap b o (fun hb => by rw [w0 b hb] at e; exact nomatch e) (kp b o e)
  intro k
  induction k with
  | zero =>
    intro i z hi st kp ⟨L, es, ep, t, R, pm⟩ fin
    obtain rfl : i = n := hi
    refine codeAny_builtin F.entry_set_update_loop ((Around.under_plainId (A := A) F.plain_set_update_loop _) ▸ ?_)
    show wpAny _ A.in1 (pyNext (.ref I) >>= _) _ _ z
    refine wpAny_bind (W.done z _ _ st fun z' m => ?_)
    have kp' := still m kp
    have pm' : L.Perm ks := by rw [hn, List.take_length] at pm; exact pm
    show wpAny _ A.in1 (ret Value.none) _ _ z'
    exact wpAny_pure (fin z' L es ep t (m.mono wider) (R.keep (fun o e => m.heap S o notW e) fun p hp => isT_keep (tk p (pm'.mem_iff.mp hp)) kp') pm' kp')
  | succ k ih =>
    intro i z hi st kp ⟨L, es, ep, t, R, pm⟩ fin
    refine codeAny_builtin F.entry_set_update_loop ((Around.under_plainId (A := A) F.plain_set_update_loop _) ▸ ?_)
    show wpAny _ A.in1 (pyNext (.ref I) >>= _) _ _ z
    refine wpAny_bind (W.item i z _ _ (by omega) st fun v z' pv st' m => ?_)
    obtain ⟨p, hp, rfl⟩ := val i v pv
    have kp' := still m kp
    have inK : ∀ q ∈ L, q ∈ ks := fun q hq => List.mem_of_mem_take (pm.mem_iff.mp hq)
    have R' : SQ P w z'.heap S L es ep t := R.keep (fun o e => m.heap S o notW e) fun q hq => isT_keep (tk q (inK q hq)) kp'
    have hx : IsT P w z'.heap p.2 p.1 := isT_keep (tk p (List.mem_of_getElem? hp)) kp'
    have il := (List.getElem?_eq_some_iff.mp hp).1
    have ll : L.length = i := by rw [pm.length_eq, List.length_take]; omega
    have new : p.2 ∉ L.map (·.2) := fun c => by
      have c2 := (pm.map (·.2)).mem_iff.mp c
      rw [List.map_take] at c2
      have e2 : (ks.map (·.2))[i]? = some p.2 := by rw [List.getElem?_map, hp]; rfl
      have c3 : p.2 ∈ (ks.map (·.2)).drop i := List.mem_of_getElem? (i := 0) (by rw [List.getElem?_drop, Nat.add_zero]; exact e2)
      have nd2 := nd
      rw [← List.take_append_drop i (ks.map (·.2))] at nd2
      exact (List.nodup_append.mp nd2).2.2 _ c2 _ c3 rfl
    show wpAny _ A.in1 (holding [Value.ref p.1] (setAdd S (.ref p.1)) >>= _) _ _ z'
    unfold setAdd
    refine wpAny_bind (wpAny_holding (wpAny_holding (wpAny_bind (wpAny_pyHash_tuple hu hx ?_))))
    refine add_new (z := { z' with toks := z'.toks + (p.2.length + 1) }) R' hx hu (by omega) new fun h' L' es' ep' t' sb R2 pm2 => ?_
    have far : ∀ b, b ≠ S → h'.get? b = z'.heap.get? b := fun b hb => sb.2 b hb
    refine wpAny_pure ⟨plainId_quiet F.plain_set_update_loop _, ih (i + 1) _ (by omega) (W.frame _ z' _ _ st' (Nat.le_add_right _ _) fun b hb o e => ?_) (fun b o e => ?_) ⟨L', es', ep', t', R2, pm2.trans ?_⟩ fun z2 L2 es2 ep2 t2 m2 R3 pm3 kp3 => ?_⟩
    · rw [far b fun c => out (c ▸ hb)]
      exact e
    · rw [far b fun c => by rw [c, S0] at e; exact nomatch e]
      exact kp' b o e
    · rw [take_grow hp]
      exact (pm.cons p).trans (List.perm_append_singleton p _).symm
    · refine fin z2 L2 es2 ep2 t2 (Moved.trans W.gtrans ((m.mono wider).then_heap (Nat.le_add_right _ _) fun b o hb e => ?_) m2) R3 pm3 kp3
      rw [far b fun c => hb (c ▸ List.mem_cons_self)]
      exact e
set_option maxHeartbeats 8000000 in
/-- set(xs) -/
theorem set_new {l : Addr} {its : Array Value} (ks : List (Addr × List Int)) {Q : Value → Shared → Prop} (hc : A.handled = none) (il : z.heap.IsList l its) (hit : its.toList = ks.map fun p => Value.ref p.1)
    (tk : ∀ p ∈ ks, IsT P w z.heap p.2 p.1) (few : ks.length ≤ 300) (nd : (ks.map (·.2)).Nodup) (hu : A.units + 3 < cLine)
    (fin : ∀ (h' : Heap) (tk : Nat) L es ep t, SQ P w h' z.heap.objs.size L es ep t → L.Perm ks → (∀ b o, z.heap.get? b = some o → h'.get? b = some o) → Q (.ref z.heap.objs.size) { z with heap := h', toks := tk }) :
    wpAny (model P w) A (call (.type "set") [.ref l]) Q E z := by
  have isz : its.size = ks.length := by rw [← Array.length_toList, hit, List.length_map]
  obtain ⟨cc, tt, mro⟩ := F.called_set.mro
  have made := F.called_set.made
  have sub := F.called_set.sub
  refine wpAny_call (codeAny_of_tree (show wpAny _ _ (callAny (.type "set") _) _ _ _ from wpAny_pure ⟨Code.quiet_builtin _ (by decide +kernel), codeAny_builtin F.entry_type_call ?_⟩))
  rw [Around.under_plain (weight_type_call_type "set" [.ref l] []) rfl]
  have nt := F.called_set.notType
  have cr := F.called_set.canCreate
  have tc := F.typeCall_set_1 (.ref l)
  repeat (any_goals (first | assumption | wp_step))
  refine codeAny_mono (code_set_led1 (.ref l) (E := E) (Q₁ := fun b z1 => b = .ref z.heap.objs.size ∧ z1 = { z with heap := z.heap.push (newSet w) }) ⟨rfl, rfl⟩) fun r z1 hr => ?_
  cases r with
  | error e => exact hr
  | ok fl =>
    cases fl with
    | ret b =>
      obtain ⟨rfl, rfl⟩ := hr
      have at0 : (z.heap.push (newSet w)).get? z.heap.objs.size = some (newSet w) := Heap.get?_push_size _ rfl
      have ty : Shared.TypeIs { z with heap := z.heap.push (newSet w) } (.ref z.heap.objs.size) "set" := ⟨_, at0, rfl⟩
      have li := F.called_set.init.lookup
      have bi := F.called_set.init.bind (.ref z.heap.objs.size)
      repeat (any_goals (first | assumption | wp_step))
      refine codeAny_mono (codeAny_call_builtin (R := wants (fun r z2 => r = .none ∧ ∃ h' k L es ep t, z2 = { z with heap := h', toks := k } ∧ SQ P w h' z.heap.objs.size L es ep t ∧ L.Perm ks ∧ (∀ b o, z.heap.get? b = some o → h'.get? b = some o)) E) F.called_set.init.plain F.entry_set_init (check_set_init_1 ty ?_)) fun r2 z2 hr2 => ?_
      · obtain ⟨ol, hol, cl, nl, dl⟩ := il
        obtain ⟨oc, od, oda, osl⟩ := ol
        simp only at cl dl
        subst cl
        subst dl
        have at1 : (z.heap.push (newSet w)).get? l = some { cls := .type "list", dict := od, data := .seq its nl, slots := osl } := Heap.get?_push_of_some _ hol
        have s1 := F.sub_list_set
        have s2 := F.sub_list_frozenset
        have ne1 : (Value.type "list" == Value.type "dict") = false := by decide
        have il1 : (z.heap.push (newSet w)).IsList l its := ⟨_, at1, rfl, nl, rfl⟩
        unfold Builtin.«set.__init__» noKeywords Builtin.Frozenset.updateFrom
        generalize hpi : pyIter = pi
        wp_walk
        subst hpi
        refine wpAny_pyIter_list il1 (wpAny_bind (wpAny_runValue ?_))
        have ls := Heap.lt_size hol
        have hc3 : A.in1.in1.in1.handled = none := by simp [hc]
        have psz : (z.heap.push (newSet w)).objs.size = z.heap.objs.size + 1 := Heap.size_push ..
        have lne : l ≠ (z.heap.push (newSet w)).objs.size := by rw [psz]; exact Nat.ne_of_lt (Nat.lt_succ_of_lt ls)
        have sout : z.heap.objs.size ∉ [(z.heap.push (newSet w)).objs.size, l] := by
          rw [psz]
          simp only [List.mem_cons, List.not_mem_nil, or_false, not_or]
          exact And.intro (Nat.ne_of_lt (Nat.lt_succ_self _)) (Nat.ne_of_gt ls)
        have val : ∀ (i : Nat) (v : Value), its[i]? = some v → ∃ p, ks[i]? = some p ∧ v = .ref p.1 := fun i v hv => by
          rw [← Array.getElem?_toList, hit, List.getElem?_map] at hv
          obtain ⟨p, hp, e⟩ := Option.map_eq_some_iff.mp hv
          exact ⟨p, hp, e.symm⟩
        have beyond : ∀ b, z.heap.objs.size ≤ b → z.heap.get? b = none := fun b hb => by
          cases q : z.heap.get? b with
          | none => rfl
          | some o => exact absurd (Heap.lt_size q) (Nat.not_lt.mpr hb)
        refine loop_new ((Walks.list hc3 _ l lne its).toS) z.heap.objs.size sout ks isz few nd val z.heap tk (beyond _ (Nat.le_refl _)) (fun b hb => beyond b ?_) hu its.size 0 _ (by omega) ⟨⟨_, Heap.get?_push_size _ rfl, rfl, rfl⟩, il1.push _⟩ (fun b o e => Heap.get?_push_of_some _ (Heap.get?_push_of_some _ e)) ⟨[], #[], 0, _, sq_none (Heap.get?_push_of_some _ at0), List.Perm.refl _⟩ ?_
        · rw [List.mem_singleton.mp hb, psz]
          exact Nat.le_add_right _ 1
        · intro z' L es ep t m R pm kp
          obtain ⟨h', g', d', t', o'⟩ := z'
          obtain rfl : g' = z.gens := m.gens
          obtain rfl : d' = z.drawn := m.drawn
          obtain rfl : o' = z.os := m.os
          show wpAny _ _ _ _ _ _
          refine wpAny_pure (show wpAny _ _ (ret Value.none) _ _ _ from wpAny_pure ⟨rfl, h', t', L, es, ep, t, rfl, R, pm, kp⟩)
      · cases r2 with
        | error e => exact hr2
        | ok f2 =>
          cases f2 with
          | ret r =>
            obtain ⟨rfl, h', k, L, es, ep, t, rfl, R, pm, kp⟩ := hr2
            repeat (any_goals (first | assumption | wp_step))
            exact fin _ _ _ _ _ _ R pm kp
          | _ => exact hr2.elim
    | _ => exact hr.elim
end
def tLenSetP (K : PySem.W.Frag) (ta : TE) : TE := fun σ H Q => ta σ H fun x H1 => ∃ (l : Addr) (ks : List (Addr × List Int)), x = .ref l ∧ SqL K H1 l (ks.map fun p => V.ref p.1) ∧ (∀ p ∈ ks, SqT K H1 p.1 (p.2.map V.int)) ∧ ks.length ≤ 300 ∧ (ks.map (·.2)).Nodup ∧ Q (.int (ks.length : Nat)) H1
theorem pe_lenSetP {X : Cx} {a : Expr} {ta : TE} {p p2 q pos : Pos} (hg : Gl X "len") (hm : X.mg "len" = none) (hg2 : Gl X "set") (hm2 : X.mg "set" = none) (ha : PE X a ta) (hc : X.calm = true) (hu : X.A.units + 64 < cLine)
    (na : starEach [a] X.env = (false, eval a X.env) :: starEach [] X.env) : PE X (.Call (.Name "len" p) [.Call (.Name "set" p2) [a] [] q] [] pos) (tLenSetP X.K ta) := by
  refine ⟨fun pins s σ H Q I h => ?_⟩
  refine PyProof.Rows.Call_ (ld_blt I hg hm PySem.boot_len ?_)
  refine PyProof.Rows.callWith_builtin1 (PyProof.Rows.args_cons ?_ rfl) rfl rfl
  refine PyProof.Rows.Call_ (ld_blt I hg2 hm2 PyProof.Rows.boot_set ?_)
  refine PyProof.Rows.callWith_type1 (PyProof.Rows.args_cons (thn (ha.run pins s σ H _ I h) fun v s1 ⟨x, H1, I1, r1, q1⟩ => PyProof.Rows.args_nil ?_) na) na rfl
  obtain ⟨l, ks, rfl, hq, ht, hl, nd, q1⟩ := q1
  cases r1
  obtain ⟨its, r, pl, hz⟩ := I1.list hq
  refine set_new ks (I1.ok.hd hc) pl.isList (by simpa using refs_of_vals r) (fun p hp => I1.isT (ht p hp)) hl nd (by omega) fun h' tk L es ep t R pm kp => ?_
  refine PyProof.Rows.args_nil ?_
  obtain ⟨o, ho, hex, hd⟩ := R.at_
  have I2 : Inv X pins σ H1 { s1 with heap := h', toks := tk } := I1.kept fun b o e => kp b o e
  have hn : es.size = ks.length := (row_len R.row).trans pm.length_eq
  exact call_len_set ho hex hd (SQ.fit (z := { s1 with heap := h', toks := tk }) R) (by rw [hn]; omega) ⟨.int ks.length, H1, I2.tok _, ⟨_, by rw [hn]⟩, q1⟩
section
variable {X : Cx} {C : Addr} {o s : Bool} {env : Env} {a : Expr} {pos p p2 q : Pos}
theorem px_lenSetP {ps : List (Int × Int)} (hc : X.calm = true) (hu : X.A.units + 64 < cLine) (hm : X.mg "len" = none) (hm2 : X.mg "set" = none) (ha : PX X C false false a env (.lst (dP ps))) (hl : ps.length ≤ 300) (nd : ps.Nodup) (hg : Gl X "len" := by rfl) (hg2 : Gl X "set" := by rfl) (na : starEach [a] X.env = (false, eval a X.env) :: starEach [] X.env := by rfl) :
    PX X C o s (.Call (.Name "len" p) [.Call (.Name "set" p2) [a] [] q] [] pos) env (.int (ps.length : Nat)) :=
  (pe_lenSetP hg hm hg2 hm2 ha hc hu na).imp fun σ H Q ⟨H0, S0, B, E, k⟩ => ⟨H0, S0, B, E, fun v H1 e1 r => by
    cases r with
    | @lst l xs _ n h r =>
      obtain ⟨e, f⟩ := r.pairs
      have key : ∀ x ∈ xs, x = V.ref (refA x) ∧ H1 (refA x) = some (.tup [.int (kAt H1 x).1, .int (kAt H1 x).2]) := fun x hx => by
        obtain ⟨t, rfl, _, g⟩ := f x hx
        exact ⟨rfl, g⟩
      have el : ps.length = xs.length := by rw [e, List.length_map]
      have hxs : xs = (xs.map fun x => (refA x, [(kAt H1 x).1, (kAt H1 x).2])).map fun q => V.ref q.1 := by
        rw [List.map_map]
        exact ((List.map_congr_left (g := id) fun x hx => (key x hx).1.symm).trans (List.map_id _)).symm
      refine ⟨l, xs.map fun x => (refA x, [(kAt H1 x).1, (kAt H1 x).2]), rfl, SqL.of (by rw [← hxs]; exact h), fun q hq => ?_, by rw [List.length_map, ← el]; exact hl, ?_, ?_⟩
      · obtain ⟨x, hx, rfl⟩ := List.mem_map.mp hq
        exact SqT.of (key x hx).2
      · rw [e] at nd
        rw [List.map_map]
        refine List.pairwise_map.mpr ((List.pairwise_map.mp nd).imp fun {x y} ne c => ne ?_)
        have c1 : [(kAt H1 x).1, (kAt H1 x).2] = [(kAt H1 y).1, (kAt H1 y).2] := c
        injection c1 with c2 c3
        injection c3 with c4 _
        exact Prod.ext c2 c4
      · rw [List.length_map, ← el]
        exact k _ H1 e1 (.ofSc rfl)⟩
end
end Fw

namespace T
open PySem L2 Fw Mt
def topS (i : Nat) : Stmt := PySem.Challenge.pw_markedties_k10_whole_joined_and_laid.main.body.getD i (.Pass ⟨0, 0, 0, 0⟩)
abbrev s_check_marks : Stmt := topS 8
abbrev n_check_marks : List Str := ["tree", "marks"]
theorem sc_check_marks : FnScope n_check_marks ["tree", "marks"] (defScope s_check_marks) := ⟨rfl, rfl, rfl, by decide +kernel, rfl, by decide +kernel, by decide +kernel⟩
abbrev s_along : Stmt := topS 9
abbrev n_along : List Str := ["tree", "marks", "one", "two"]
theorem sc_along : FnScope n_along ["tree", "marks"] (defScope s_along) := ⟨rfl, rfl, rfl, by decide +kernel, rfl, by decide +kernel, by decide +kernel⟩
abbrev s_differences : Stmt := topS 10
abbrev n_differences : List Str := ["tree", "marks"]
theorem sc_differences : FnScope n_differences ["tree", "marks"] (defScope s_differences) := ⟨rfl, rfl, rfl, by decide +kernel, rfl, by decide +kernel, by decide +kernel⟩
abbrev s_all_unlike : Stmt := topS 11
abbrev n_all_unlike : List Str := ["numbers"]
theorem sc_all_unlike : FnScope n_all_unlike ["numbers"] (defScope s_all_unlike) := ⟨rfl, rfl, rfl, by decide +kernel, rfl, by decide +kernel, by decide +kernel⟩
abbrev s_is_good : Stmt := topS 12
abbrev n_is_good : List Str := ["tree", "marks"]
theorem sc_is_good : FnScope n_is_good ["tree", "marks"] (defScope s_is_good) := ⟨rfl, rfl, rfl, by decide +kernel, rfl, by decide +kernel, by decide +kernel⟩
abbrev s_check_good : Stmt := topS 13
abbrev n_check_good : List Str := ["tree", "marks"]
theorem sc_check_good : FnScope n_check_good ["tree", "marks"] (defScope s_check_good) := ⟨rfl, rfl, rfl, by decide +kernel, rfl, by decide +kernel, by decide +kernel⟩
abbrev s_parts_at : Stmt := topS 14
abbrev n_parts_at : List Str := ["tree", "marks", "number", "one", "two"]
theorem sc_parts_at : FnScope n_parts_at ["tree", "marks", "number"] (defScope s_parts_at) := ⟨rfl, rfl, rfl, by decide +kernel, rfl, by decide +kernel, by decide +kernel⟩
abbrev s_bound : Stmt := topS 15
abbrev n_bound : List Str := ["tree", "marks", "number"]
theorem sc_bound : FnScope n_bound ["tree", "marks"] (defScope s_bound) := ⟨rfl, rfl, rfl, by decide +kernel, rfl, by decide +kernel, by decide +kernel⟩
abbrev s_joins_all : Stmt := topS 18
abbrev n_joins_all : List Str := ["many", "ties", "name", "one", "two", "low", "high", "other"]
theorem sc_joins_all : FnScope n_joins_all ["many", "ties"] (defScope s_joins_all) := ⟨rfl, rfl, rfl, by decide +kernel, rfl, by decide +kernel, by decide +kernel⟩
abbrev s_Tree_init : Stmt := inClass (topS 19) 0
abbrev n_Tree_init : List Str := ["self", "many", "ties", "k", "tie"]
theorem sc_Tree_init : FnScope n_Tree_init ["self", "many", "ties"] (defScope s_Tree_init) := ⟨rfl, rfl, rfl, by decide +kernel, rfl, by decide +kernel, by decide +kernel⟩
abbrev s_neighbours : Stmt := topS 20
abbrev n_neighbours : List Str := ["tree", "place", "found", "one", "two"]
theorem sc_neighbours : FnScope n_neighbours ["tree", "place"] (defScope s_neighbours) := ⟨rfl, rfl, rfl, by decide +kernel, rfl, by decide +kernel, by decide +kernel⟩
abbrev s_joined : Stmt := topS 22
abbrev n_joined : List Str := ["tree", "marks", "other", "more", "least", "first", "second", "ties", "found", "one", "two", "mark"]
theorem sc_joined : FnScope n_joined ["tree", "marks", "other", "more"] (defScope s_joined) := ⟨rfl, rfl, rfl, by decide +kernel, rfl, by decide +kernel, by decide +kernel⟩
abbrev s_inner_ones : Stmt := topS 24
abbrev n_inner_ones : List Str := ["tree", "place"]
theorem sc_inner_ones : FnScope n_inner_ones ["tree"] (defScope s_inner_ones) := ⟨rfl, rfl, rfl, by decide +kernel, rfl, by decide +kernel, by decide +kernel⟩
abbrev s_inner_beside : Stmt := topS 25
abbrev n_inner_beside : List Str := ["tree", "inner", "place", "other"]
theorem sc_inner_beside : FnScope n_inner_beside ["tree", "inner", "place"] (defScope s_inner_beside) := ⟨rfl, rfl, rfl, by decide +kernel, rfl, by decide +kernel, by decide +kernel⟩
abbrev s_is_comb : Stmt := topS 26
abbrev n_is_comb : List Str := ["tree", "inner", "place"]
theorem sc_is_comb : FnScope n_is_comb ["tree"] (defScope s_is_comb) := ⟨rfl, rfl, rfl, by decide +kernel, rfl, by decide +kernel, by decide +kernel⟩
abbrev s_first_place : Stmt := topS 27
abbrev n_first_place : List Str := ["tree", "inner", "place"]
theorem sc_first_place : FnScope n_first_place ["tree", "inner"] (defScope s_first_place) := ⟨rfl, rfl, rfl, by decide +kernel, rfl, by decide +kernel, by decide +kernel⟩
abbrev s_comb_marks : Stmt := topS 28
abbrev n_comb_marks : List Str := ["tree", "inner", "here", "marks", "low", "high", "upward", "left", "place", "one"]
theorem sc_comb_marks : FnScope n_comb_marks ["tree"] (defScope s_comb_marks) := ⟨rfl, rfl, rfl, by decide +kernel, rfl, by decide +kernel, by decide +kernel⟩
abbrev s_copy_at : Stmt := topS 30
abbrev n_copy_at : List Str := ["tree", "marks", "shift", "size", "found", "one", "two", "first", "second"]
theorem sc_copy_at : FnScope n_copy_at ["tree", "marks", "shift"] (defScope s_copy_at) := ⟨rfl, rfl, rfl, by decide +kernel, rfl, by decide +kernel, by decide +kernel⟩
abbrev s_copies : Stmt := topS 31
abbrev n_copies : List Str := ["tree", "marks", "shift"]
theorem sc_copies : FnScope n_copies ["tree", "marks"] (defScope s_copies) := ⟨rfl, rfl, rfl, by decide +kernel, rfl, by decide +kernel, by decide +kernel⟩
abbrev s_fits : Stmt := topS 33
abbrev n_fits : List Str := ["tree", "marks", "differences", "mark", "place", "found", "one", "two", "difference"]
theorem sc_fits : FnScope n_fits ["tree", "marks", "differences", "mark"] (defScope s_fits) := ⟨rfl, rfl, rfl, by decide +kernel, rfl, by decide +kernel, by decide +kernel⟩
abbrev s_searched : Stmt := topS 34
abbrev n_searched : List Str := ["tree", "marks", "differences", "first", "found", "mark", "more"]
theorem sc_searched : FnScope n_searched ["tree", "marks", "differences", "first"] (defScope s_searched) := ⟨rfl, rfl, rfl, by decide +kernel, rfl, by decide +kernel, by decide +kernel⟩
abbrev s_first_marking : Stmt := topS 35
abbrev n_first_marking : List Str := ["tree", "found"]
theorem sc_first_marking : FnScope n_first_marking ["tree"] (defScope s_first_marking) := ⟨rfl, rfl, rfl, by decide +kernel, rfl, by decide +kernel, by decide +kernel⟩
abbrev s_law_cell_at : Stmt := topS 37
abbrev n_law_cell_at : List Str := ["script", "k"]
theorem sc_law_cell_at : FnScope n_law_cell_at ["script", "k"] (defScope s_law_cell_at) := ⟨rfl, rfl, rfl, by decide +kernel, rfl, by decide +kernel, by decide +kernel⟩
abbrev s_law_mix : Stmt := topS 38
abbrev n_law_mix : List Str := ["cell", "k", "many", "some", "stir"]
theorem sc_law_mix : FnScope n_law_mix ["cell", "k", "many"] (defScope s_law_mix) := ⟨rfl, rfl, rfl, by decide +kernel, rfl, by decide +kernel, by decide +kernel⟩
abbrev s_law_tree_by : Stmt := topS 39
abbrev n_law_tree_by : List Str := ["script", "base", "most", "cell", "many", "way", "names", "k", "ties", "elder", "one", "two"]
theorem sc_law_tree_by : FnScope n_law_tree_by ["script", "base", "most"] (defScope s_law_tree_by) := ⟨rfl, rfl, rfl, by decide +kernel, rfl, by decide +kernel, by decide +kernel⟩
abbrev s_law_comb_by : Stmt := topS 40
abbrev n_law_comb_by : List Str := ["script", "base", "most", "cell", "many", "names", "k", "ties", "here", "one", "two"]
theorem sc_law_comb_by : FnScope n_law_comb_by ["script", "base", "most"] (defScope s_law_comb_by) := ⟨rfl, rfl, rfl, by decide +kernel, rfl, by decide +kernel, by decide +kernel⟩
abbrev s_law_covers : Stmt := topS 41
abbrev n_law_covers : List Str := ["tree", "marks", "pairs", "one", "size"]
theorem sc_law_covers : FnScope n_law_covers ["tree", "marks"] (defScope s_law_covers) := ⟨rfl, rfl, rfl, by decide +kernel, rfl, by decide +kernel, by decide +kernel⟩
abbrev s_law : Stmt := topS 42
abbrev n_law : List Str := ["script", "many", "ties", "first", "marks", "second", "more", "tree", "found"]
theorem sc_law : FnScope n_law ["script"] (defScope s_law) := ⟨rfl, rfl, rfl, by decide +kernel, rfl, by decide +kernel, by decide +kernel⟩
section
variable {P : Program} {w : World} {K : PySem.W.Frag} {mg : Str → Option Value} {base : Heap} {C : Addr}
def R_law_cell_at : List D → Res → Prop := fun ds r => ∃ (ns : List Int) (k : Int), ds = [.scr ns, .int k] ∧ 0 ≤ k ∧ r = .ret (.int (cellAt ns k))
theorem k_law_cell_at (T : FunT K mg "_law_cell_at" s_law_cell_at ["script", "k"]) (bt : Bt mg) : Kn P w K mg base CX0 1 "_law_cell_at" ["script", "k"] (spN K C R_law_cell_at) := by
  refine knN T sc_law_cell_at (fun ds r ⟨_, _, h, _⟩ => by rw [h]; rfl) (fun ds c ⟨_, _, _, _, h⟩ => nomatch h) (fun f cdv A outer s H ds r hr hR => ?_)
  obtain ⟨ns, k, rfl, hk, rfl⟩ := hR
  refine ⟨.rt (.int (cellAt ns k)), rfl, ?_⟩
  refine sxs_ifx (pt_c (cm_lt (px_name 1) (px_lenS bt.len (px_name 0)))) (fun h => ?_) (fun _ => rfl) (fun h => ?_)
  · have h := of_decide_eq_true h
    unfold cellAt
    rw [if_pos h]
    exact sxs_one (sx_ret (px_ixS (px_name 0) (px_name 1) (atI_d ns 0 hk h)))
  · have h := of_decide_eq_false h
    unfold cellAt
    rw [if_neg h]
    exact sxs_one (sx_ret px_int)

def R_law_mix : List D → Res → Prop := fun ds r => ∃ cell k many : Int, ds = [.int cell, .int k, .int many] ∧ 0 < many ∧ r = .ret (.int (mix cell k many))
theorem k_law_mix (T : FunT K mg "_law_mix" s_law_mix ["cell", "k", "many"]) : Kn P w K mg base CX0 1 "_law_mix" ["cell", "k", "many"] (spN K C R_law_mix) := by
  refine knN T sc_law_mix (fun ds r ⟨_, _, _, h, _⟩ => by rw [h]; rfl) (fun ds c ⟨_, _, _, _, _, h⟩ => nomatch h) (fun f cdv A outer s H ds r hr hR => ?_)
  obtain ⟨cell, k, many, rfl, hm, rfl⟩ := hR
  refine ⟨.rt (.int (mix cell k many)), rfl, ?_⟩
  refine sxs_cons (sx_setL 3 (pl_lst (pas_cons px_int (pas_cons px_int (pas_cons px_int (pas_cons px_int (pas_cons px_int (pas_cons px_int (pas_cons px_int (pas_cons px_int (pas_cons px_int (pas_cons px_int (pas_cons px_int (pas_cons px_int (pas_cons px_int pas_nil)))))))))))))) sc_law_mix.nd) ?_
  have hk := Int.emod_nonneg k (show (13 : Int) ≠ 0 by decide)
  have hk2 := Int.emod_lt_of_pos k (show (0 : Int) < 13 by decide)
  have hc := Int.emod_nonneg cell (show (2147483647 : Int) ≠ 0 by decide)
  have hc2 := Int.emod_lt_of_pos cell (show (0 : Int) < 2147483647 by decide)
  refine sxs_cons (sx_set true 4 (px_add (px_add (px_mul (px_add (px_mod (px_name 0) px_int (by decide)) px_int) (px_ixI (ns := someL) (px_name 3) (px_mod (px_name 1) px_int (by decide)) hk hk2) (.inl ⟨by omega, by omega⟩)) (px_mul px_int (px_name 1) (.inl ⟨by decide, by decide⟩))) (px_mul px_int (px_fdiv (px_name 1) px_int ⟨by decide, by decide⟩) (.inl ⟨by decide, by decide⟩))) sc_law_mix.nd) ?_
  refine sxs_cons (sx_set true 4 (px_mod (px_name 4) px_int (by decide)) sc_law_mix.nd) ?_
  have hs : 0 ≤ stir cell k := Int.emod_nonneg _ (by decide)
  have hs2 : stir cell k < 1000000007 := Int.emod_lt_of_pos _ (by decide)
  refine sxs_one (sx_ret (px_mod (px_fdiv (px_mod (px_add (px_mul (i := stir cell k) (j := stir cell k) (px_name 4) (px_name 4) (.inl ⟨by omega, by omega⟩)) (px_mul px_int (px_name 1) (.inl ⟨by decide, by decide⟩))) px_int (by decide)) px_int ⟨by decide, by decide⟩) (px_name 2) hm))

def R_law_tree_by : List D → Res → Prop := fun ds r => ∃ (ns : List Int) (b m : Int), ds = [.scr ns, .int b, .int m] ∧ 0 ≤ b ∧ 0 < m ∧ m ≤ 1000 ∧ r = .ret (.tup [.int (treeN ns b m), .lst (dP (sortP (treeRaw ns b m)))])
theorem k_law_tree_by (T : FunT K mg "_law_tree_by" s_law_tree_by ["script", "base", "most"]) (bt : Bt mg) (G_law_cell_at : Kn P w K mg base CX0 1 "_law_cell_at" ["script", "k"] (spN K C R_law_cell_at)) (G_law_mix : Kn P w K mg base CX0 1 "_law_mix" ["cell", "k", "many"] (spN K C R_law_mix)) :
    Kn P w K mg base CX0 2 "_law_tree_by" ["script", "base", "most"] (spN K C R_law_tree_by) := by
  refine knN T sc_law_tree_by (fun ds r ⟨_, _, _, h, _⟩ => by rw [h]; rfl) (fun ds c ⟨_, _, _, _, _, _, _, h⟩ => nomatch h) (fun f cdv A outer s H ds r hr hR => ?_)
  obtain ⟨ns, b, m, rfl, hb, hm, hm2, rfl⟩ := hR
  refine ⟨.rt _, rfl, ?_⟩
  have ow := PassesOwn.never (M := model P w) (A := (cx0 P w K mg base n_law_tree_by "_law_tree_by" (defScope s_law_tree_by) f cdv A outer s H).A) (env := (cx0 P w K mg base n_law_tree_by "_law_tree_by" (defScope s_law_tree_by) f cdv A outer s H).env)
  refine sxs_cons (sx_set true 3 (px_kn G_law_cell_at hr (pas_cons (px_name 0) (pas_cons (px_name 1) pas_nil)) ⟨ns, b, rfl, hb, rfl⟩) sc_law_tree_by.nd) ?_
  refine sxs_cons (sx_set true 4 (px_add px_int (px_kn G_law_mix hr (pas_cons (px_name 3) (pas_cons px_int (pas_cons (px_name 2) pas_nil))) ⟨_, _, _, rfl, hm, rfl⟩)) sc_law_tree_by.nd) ?_
  refine sxs_cons (sx_set true 5 (px_kn G_law_mix hr (pas_cons (px_name 3) (pas_cons px_int (pas_cons px_int pas_nil))) ⟨_, _, _, rfl, by decide, rfl⟩) sc_law_tree_by.nd) ?_
  refine sxs_cons (sx_setL 6 (pl_lst pas_nil) sc_law_tree_by.nd) ?_
  have hN1 := treeN_pos (ns := ns) (base := b) hm
  have hN2 := treeN_le (ns := ns) (base := b) hm
  generalize hN : treeN ns b m = N at hN1 hN2
  have hN' : 1 + mix (cellAt ns b) 1 m = N := hN
  have hNl : (dI (rgI 0 N)).length = N.toNat := by rw [List.length_map, rgI_len, Int.sub_zero]
  generalize hW : mix (cellAt ns b) 2 4 = W
  refine sxs_cons (sx_for ow rfl (pi_r1 true bt.range (n := N) (px_to (px_name 4) (by rw [← hN'])) ⟨by omega, by omega⟩) (pg_name (i := 7) sc_law_tree_by.nd rfl (.inl rfl)) (tg_name 7)
    (fun i => [.bor (.scr ns), .bor (.int b), .bor (.int m), .dat (.int (cellAt ns b)), .dat (.int N), .dat (.int W), .own (dI (namesOf (cellAt ns (b + 1)) i)), .emp, .emp, .emp, .emp, .emp]) (by rw [← hN', ← hW]; exact Le.refl _) (fun _ _ => trivial) (fun i d hd => ?_)) ?_
  · obtain ⟨hi, hd⟩ : i < N.toNat ∧ d = .int (i : Int) := by
      have hi := (List.getElem?_eq_some_iff.mp hd).1
      rw [hNl] at hi
      rw [List.getElem?_map, rgI_get (by omega)] at hd
      exact ⟨hi, by have := Option.some.inj hd; rw [← this, Int.zero_add]⟩
    subst hd
    refine sxs_one (sx_nxLe (sx_insert 6 (px_kn G_law_mix hr (pas_cons (px_kn G_law_cell_at hr (pas_cons (px_name 0) (pas_cons (px_add (px_name 1) px_int) pas_nil)) ⟨ns, b + 1, rfl, by omega, rfl⟩) (pas_cons (px_name 7) (pas_cons (px_add (px_name 7) px_int) pas_nil))) ⟨_, _, _, rfl, by omega, rfl⟩) (px_name 7) rfl (by rw [List.length_map, namesOf_len]; omega)
      ⟨mix_nn (by omega), by have := mix_lt (cell := cellAt ns (b + 1)) (k := (i : Int)) (many := (i : Int) + 1) (by omega); omega⟩) ?_)
    have e : List.take (mix (cellAt ns (b + 1)) (i : Int) ((i : Int) + 1)).toNat (dI (namesOf (cellAt ns (b + 1)) i)) ++ [D.int (i : Int)] ++ List.drop (mix (cellAt ns (b + 1)) (i : Int) ((i : Int) + 1)).toNat (dI (namesOf (cellAt ns (b + 1)) i)) = dI (namesOf (cellAt ns (b + 1)) (i + 1)) := by
      show _ = List.map D.int (insAt _ _ _)
      unfold insAt dI
      rw [List.map_append, List.map_append, List.map_take, List.map_drop]
      rfl
    rw [e]
    exact .cons (.refl _) (.cons (.refl _) (.cons (.refl _) (.cons (.refl _) (.cons (.refl _) (.cons (.refl _) (.cons (.refl _) (.cons (.emp _) (.cons (.refl _) (.cons (.refl _) (.cons (.refl _) (.cons (.refl _) .nil)))))))))))
  rw [hNl]
  have hnm : namesOf (cellAt ns (b + 1)) N.toNat = treeNames ns b m := by unfold treeNames; rw [hN]
  have hnl : (treeNames ns b m).length = N.toNat := by rw [← hnm, namesOf_len]
  rw [hnm]
  refine sxs_cons (sx_setL 8 (pl_lst pas_nil) sc_law_tree_by.nd) ?_
  have hRl : (dI (rgI 1 N)).length = N.toNat - 1 := by rw [List.length_map, rgI_len]; omega
  generalize hf : elderOf (cellAt ns (b + 2)) W = f2
  refine sxs_cons (sx_for ow rfl (pi_r2 true bt.range px_int (px_name 4) ⟨by omega, by omega⟩ ⟨by omega, by omega⟩) (pg_name (i := 7) sc_law_tree_by.nd rfl (.inl rfl)) (tg_name 7)
    (fun i => [.bor (.scr ns), .bor (.int b), .bor (.int m), .dat (.int (cellAt ns b)), .dat (.int N), .dat (.int W), .own (dI (treeNames ns b m)), .emp, .own (dP (tiesOf (treeNames ns b m) f2 i)), .emp, .emp, .emp]) (Le.refl _) (fun _ _ => trivial) (fun i d hd => ?_)) ?_
  · obtain ⟨hi, hd⟩ : i < N.toNat - 1 ∧ d = .int (1 + (i : Int)) := by
      have hi := (List.getElem?_eq_some_iff.mp hd).1
      rw [hRl] at hi
      rw [List.getElem?_map, rgI_get (by omega)] at hd
      exact ⟨hi, by have := Option.some.inj hd; rw [← this]⟩
    subst hd
    have hk : (1 : Int) ≤ 1 + (i : Int) := by omega
    have he := elder_bd (c := cellAt ns (b + 2)) (way := W) hk
    refine sxs_cons (sx_set true 9 (px_kn G_law_mix hr (pas_cons (px_kn G_law_cell_at hr (pas_cons (px_name 0) (pas_cons (px_add (px_name 1) px_int) pas_nil)) ⟨ns, b + 2, rfl, by omega, rfl⟩) (pas_cons (px_name 7) (pas_cons (px_name 7) pas_nil))) ⟨_, _, _, rfl, by omega, rfl⟩) sc_law_tree_by.nd) ?_
    refine sxs_cons (e1 := [.bor (.scr ns), .bor (.int b), .bor (.int m), .dat (.int (cellAt ns b)), .dat (.int N), .dat (.int W), .own (dI (treeNames ns b m)), .dat (.int (1 + i)), .own (dP (tiesOf (treeNames ns b m) f2 i)), .dat (.int (if W = 1 then max 0 (1 + (i : Int) - 1 - mix (cellAt ns (b + 2)) (1 + i) 2) else mix (cellAt ns (b + 2)) (1 + i) (1 + i))), .emp, .emp])
      (sx_if (pt_c (cm_eqI (px_name 5) px_int)) (fun h => ?_) (fun h => ?_)) ?_
    · have h := of_decide_eq_true h
      rw [if_pos h]
      exact sxs_one (sx_set true 9 (px_max rfl bt.max px_int (px_subt (px_subt (px_name 7) px_int) (px_kn G_law_mix hr (pas_cons (px_kn G_law_cell_at hr (pas_cons (px_name 0) (pas_cons (px_add (px_name 1) px_int) pas_nil)) ⟨ns, b + 2, rfl, by omega, rfl⟩) (pas_cons (px_name 7) (pas_cons px_int pas_nil))) ⟨_, _, _, rfl, by decide, rfl⟩))) sc_law_tree_by.nd)
    · have h := of_decide_eq_false h
      rw [if_neg h]
      exact sxs_nil
    refine sxs_cons (e1 := [.bor (.scr ns), .bor (.int b), .bor (.int m), .dat (.int (cellAt ns b)), .dat (.int N), .dat (.int W), .own (dI (treeNames ns b m)), .dat (.int (1 + i)), .own (dP (tiesOf (treeNames ns b m) f2 i)), .dat (.int (f2 (1 + i))), .emp, .emp])
      (sx_if (pt_w (pw_a (pt_c (cm_eqI (px_name 5) px_int)) (fun h => pw_a1 (pt_c (cm_gt (px_name 7) px_int))))) (fun h => ?_) (fun h => ?_)) ?_
    · have h := Bool.and_eq_true_iff.mp h
      have h1 := of_decide_eq_true h.1
      have h2 := of_decide_eq_true h.2
      rw [show f2 (1 + (i : Int)) = mix (cellAt ns (b + 2)) (1 + i) 2 by rw [← hf]; unfold elderOf; rw [if_pos ⟨h1, h2⟩]]
      exact sxs_one (sx_set true 9 (px_kn G_law_mix hr (pas_cons (px_kn G_law_cell_at hr (pas_cons (px_name 0) (pas_cons (px_add (px_name 1) px_int) pas_nil)) ⟨ns, b + 2, rfl, by omega, rfl⟩) (pas_cons (px_name 7) (pas_cons px_int pas_nil))) ⟨_, _, _, rfl, by decide, rfl⟩) sc_law_tree_by.nd)
    · have h : ¬ (W = 2 ∧ 1 < 1 + (i : Int)) := fun z => by rw [decide_eq_true z.1, decide_eq_true z.2] at h; cases h
      rw [show f2 (1 + (i : Int)) = (if W = 1 then max 0 (1 + (i : Int) - 1 - mix (cellAt ns (b + 2)) (1 + i) 2) else mix (cellAt ns (b + 2)) (1 + i) (1 + i)) by rw [← hf]; unfold elderOf; rw [if_neg h]]
      exact sxs_nil
    rw [hf] at he
    refine sxs_cons (sx_par true 10 11 (px_ixI (ns := treeNames ns b m) (px_name 6) (px_name 7) (by omega) (by rw [hnl]; omega)) (px_ixI (ns := treeNames ns b m) (px_name 6) (px_name 9) he.1 (by rw [hnl]; omega)) rfl sc_law_tree_by.nd) ?_
    refine sxs_one (sx_nxLe (sx_append 8 (px_tup (pas_cons (px_min rfl bt.min (px_name 10) (px_name 11)) (pas_cons (px_max rfl bt.max (px_name 10) (px_name 11)) pas_nil))) rfl (by rw [List.length_map, tiesOf_len]; omega)) ?_)
    rw [tiesOf_succ]
    unfold dP
    rw [List.map_append]
    exact .cons (.refl _) (.cons (.refl _) (.cons (.refl _) (.cons (.refl _) (.cons (.refl _) (.cons (.refl _) (.cons (.refl _) (.cons (.emp _) (.cons (.refl _) (.cons (.emp _) (.cons (.emp _) (.cons (.emp _) .nil)))))))))))
  rw [hRl]
  have ht : treeRaw ns b m = tiesOf (treeNames ns b m) f2 (N.toNat - 1) := by unfold treeRaw; rw [hN, hW, hf]
  rw [ht]
  refine sxs_le (e1 := [.bor (.scr ns), .bor (.int b), .bor (.int m), .dat (.int (cellAt ns b)), .dat (.int N), .dat (.int W), .emp, .emp, .dat (.lst (dP (tiesOf (treeNames ns b m) f2 (N.toNat - 1)))), .emp, .emp, .emp])
    (.cons (.refl _) (.cons (.refl _) (.cons (.refl _) (.cons (.refl _) (.cons (.refl _) (.cons (.refl _) (.cons (.emp _) (.cons (.emp _) (.cons (.frz _) (.cons (.emp _) (.cons (.emp _) (.cons (.emp _) .nil)))))))))))) ?_
  exact sxs_one (sx_ret (px_tup (pas_cons (px_name 4) (pas_cons (pl_x (pl_sortP bt.sorted (px_name 8))) pas_nil))))

def R_law_comb_by : List D → Res → Prop := fun ds r => ∃ (ns : List Int) (b m : Int), ds = [.scr ns, .int b, .int m] ∧ 0 ≤ b ∧ 0 < m ∧ m ≤ 1000 ∧ r = .ret (.tup [.int (treeN ns b m), .lst (dP (sortP (combRaw ns b m)))])
theorem k_law_comb_by (T : FunT K mg "_law_comb_by" s_law_comb_by ["script", "base", "most"]) (bt : Bt mg) (G_law_cell_at : Kn P w K mg base CX0 1 "_law_cell_at" ["script", "k"] (spN K C R_law_cell_at)) (G_law_mix : Kn P w K mg base CX0 1 "_law_mix" ["cell", "k", "many"] (spN K C R_law_mix)) :
    Kn P w K mg base CX0 2 "_law_comb_by" ["script", "base", "most"] (spN K C R_law_comb_by) := by
  refine knN T sc_law_comb_by (fun ds r ⟨_, _, _, h, _⟩ => by rw [h]; rfl) (fun ds c ⟨_, _, _, _, _, _, _, h⟩ => nomatch h) (fun f cdv A outer s H ds r hr hR => ?_)
  obtain ⟨ns, b, m, rfl, hb, hm, hm2, rfl⟩ := hR
  refine ⟨.rt _, rfl, ?_⟩
  have ow := PassesOwn.never (M := model P w) (A := (cx0 P w K mg base n_law_comb_by "_law_comb_by" (defScope s_law_comb_by) f cdv A outer s H).A) (env := (cx0 P w K mg base n_law_comb_by "_law_comb_by" (defScope s_law_comb_by) f cdv A outer s H).env)
  refine sxs_cons (sx_set true 3 (px_kn G_law_cell_at hr (pas_cons (px_name 0) (pas_cons (px_name 1) pas_nil)) ⟨ns, b, rfl, hb, rfl⟩) sc_law_comb_by.nd) ?_
  refine sxs_cons (sx_set true 4 (px_add px_int (px_kn G_law_mix hr (pas_cons (px_name 3) (pas_cons px_int (pas_cons (px_name 2) pas_nil))) ⟨_, _, _, rfl, hm, rfl⟩)) sc_law_comb_by.nd) ?_
  refine sxs_cons (sx_setL 5 (pl_lst pas_nil) sc_law_comb_by.nd) ?_
  have hN1 := treeN_pos (ns := ns) (base := b) hm
  have hN2 := treeN_le (ns := ns) (base := b) hm
  generalize hN : treeN ns b m = N at hN1 hN2
  have hN' : 1 + mix (cellAt ns b) 1 m = N := hN
  have hNl : (dI (rgI 0 N)).length = N.toNat := by rw [List.length_map, rgI_len, Int.sub_zero]
  refine sxs_cons (sx_for ow rfl (pi_r1 true bt.range (n := N) (px_to (px_name 4) (by rw [← hN'])) ⟨by omega, by omega⟩) (pg_name (i := 6) sc_law_comb_by.nd rfl (.inl rfl)) (tg_name 6)
    (fun i => [.bor (.scr ns), .bor (.int b), .bor (.int m), .dat (.int (cellAt ns b)), .dat (.int N), .own (dI (namesOf (cellAt ns (b + 1)) i)), .emp, .emp, .emp, .emp, .emp]) (by rw [← hN']; exact Le.refl _) (fun _ _ => trivial) (fun i d hd => ?_)) ?_
  · obtain ⟨hi, hd⟩ : i < N.toNat ∧ d = .int (i : Int) := by
      have hi := (List.getElem?_eq_some_iff.mp hd).1
      rw [hNl] at hi
      rw [List.getElem?_map, rgI_get (by omega)] at hd
      exact ⟨hi, by have := Option.some.inj hd; rw [← this, Int.zero_add]⟩
    subst hd
    refine sxs_one (sx_nxLe (sx_insert 5 (px_kn G_law_mix hr (pas_cons (px_kn G_law_cell_at hr (pas_cons (px_name 0) (pas_cons (px_add (px_name 1) px_int) pas_nil)) ⟨ns, b + 1, rfl, by omega, rfl⟩) (pas_cons (px_name 6) (pas_cons (px_add (px_name 6) px_int) pas_nil))) ⟨_, _, _, rfl, by omega, rfl⟩) (px_name 6) rfl (by rw [List.length_map, namesOf_len]; omega)
      ⟨mix_nn (by omega), by have := mix_lt (cell := cellAt ns (b + 1)) (k := (i : Int)) (many := (i : Int) + 1) (by omega); omega⟩) ?_)
    have e : List.take (mix (cellAt ns (b + 1)) (i : Int) ((i : Int) + 1)).toNat (dI (namesOf (cellAt ns (b + 1)) i)) ++ [D.int (i : Int)] ++ List.drop (mix (cellAt ns (b + 1)) (i : Int) ((i : Int) + 1)).toNat (dI (namesOf (cellAt ns (b + 1)) i)) = dI (namesOf (cellAt ns (b + 1)) (i + 1)) := by
      show _ = List.map D.int (insAt _ _ _)
      unfold insAt dI
      rw [List.map_append, List.map_append, List.map_take, List.map_drop]
      rfl
    rw [e]
    exact (by repeat (first | exact .nil | refine .cons (by first | exact .refl _ | exact .emp _ | exact .bor _ | exact .frz _ | exact .frb _ | exact .bvr _ _ | exact .rvr _ _) ?_))
  rw [hNl]
  have hnm : namesOf (cellAt ns (b + 1)) N.toNat = treeNames ns b m := by unfold treeNames; rw [hN]
  have hnl : (treeNames ns b m).length = N.toNat := by rw [← hnm, namesOf_len]
  rw [hnm]
  refine sxs_cons (sx_setL 7 (pl_lst pas_nil) sc_law_comb_by.nd) ?_
  refine sxs_cons (sx_set true 8 px_int sc_law_comb_by.nd) ?_
  have hRl : (dI (rgI 1 N)).length = N.toNat - 1 := by rw [List.length_map, rgI_len]; omega
  generalize hf : (fun k : Int => hereOf (cellAt ns (b + 2)) (k - 1).toNat) = f2
  refine sxs_cons (sx_for ow0 rfl (pi_r2 true bt.range px_int (px_name 4) ⟨by omega, by omega⟩ ⟨by omega, by omega⟩) (pg_name (i := 6) sc_law_comb_by.nd rfl (.inl rfl)) (tg_name 6)
    (fun i => [.bor (.scr ns), .bor (.int b), .bor (.int m), .dat (.int (cellAt ns b)), .dat (.int N), .own (dI (treeNames ns b m)), .emp, .own (dP (tiesOf (treeNames ns b m) f2 i)), .dat (.int (hereOf (cellAt ns (b + 2)) i)), .emp, .emp]) (by repeat (first | exact .nil | refine .cons (by first | exact .refl _ | exact .emp _ | exact .bor _ | exact .frz _ | exact .frb _ | exact .bvr _ _ | exact .rvr _ _) ?_)) (fun _ _ => trivial) (fun i d hd => ?_)) ?_
  · obtain ⟨hi, hd⟩ := int_at (n := 0) hd
    subst hd
    have he := here_bd (cellAt ns (b + 2)) i
    refine sxs_cons (sx_par true 9 10 (px_ixI (ns := treeNames ns b m) (px_name 5) (px_name 6) (by omega) (by rw [hnl]; omega)) (px_ixI (ns := treeNames ns b m) (px_name 5) (px_name 8) he.1 (by rw [hnl]; omega)) rfl sc_law_comb_by.nd) ?_
    refine sxs_cons (sx_append 7 (px_tup (pas_cons (px_min rfl bt.min (px_name 9) (px_name 10)) (pas_cons (px_max rfl bt.max (px_name 9) (px_name 10)) pas_nil))) rfl (by rw [List.length_map, tiesOf_len]; omega)) ?_
    have e1 : dP (tiesOf (treeNames ns b m) f2 i) ++ [.tup [.int (min ((treeNames ns b m).getD (1 + (i : Int)).toNat 0) ((treeNames ns b m).getD (hereOf (cellAt ns (b + 2)) i).toNat 0)), .int (max ((treeNames ns b m).getD (1 + (i : Int)).toNat 0) ((treeNames ns b m).getD (hereOf (cellAt ns (b + 2)) i).toNat 0))]] = dP (tiesOf (treeNames ns b m) f2 (i + 1)) := by
      rw [tiesOf_succ]
      unfold dP
      rw [List.map_append]
      have e3 : f2 (1 + (i : Int)) = hereOf (cellAt ns (b + 2)) i := by rw [← hf]; show hereOf _ _ = _; rw [show (1 + (i : Int) - 1).toNat = i by omega]
      rw [e3]; rfl
    rw [e1]
    by_cases c : mix (cellAt ns (b + 2)) (1 + (i : Int)) 2 = 0
    · have e2 : hereOf (cellAt ns (b + 2)) (i + 1) = 1 + (i : Int) := by unfold hereOf; rw [if_pos c]
      rw [e2]
      exact sxs_one (sx_if (x := true) (pt_to (pt_c (cm_eqI (px_kn G_law_mix hr (pas_cons (px_kn G_law_cell_at hr (pas_cons (px_name 0) (pas_cons (px_add (px_name 1) px_int) pas_nil)) ⟨ns, b + 2, rfl, by omega, rfl⟩) (pas_cons (px_name 6) (pas_cons px_int pas_nil))) ⟨_, _, _, rfl, by decide, rfl⟩) px_int)) (decide_eq_true c)) (fun _ => sxs_one (sx_nxLe (sx_set true 8 (px_name 6) sc_law_comb_by.nd) (by repeat (first | exact .nil | refine .cons (by first | exact .refl _ | exact .emp _ | exact .bor _ | exact .frz _ | exact .frb _ | exact .bvr _ _ | exact .rvr _ _) ?_)))) (fun h => nomatch h))
    · have e2 : hereOf (cellAt ns (b + 2)) (i + 1) = hereOf (cellAt ns (b + 2)) i := by rw [hereOf, if_neg c]
      rw [e2]
      exact sxs_one (sx_if (x := false) (pt_to (pt_c (cm_eqI (px_kn G_law_mix hr (pas_cons (px_kn G_law_cell_at hr (pas_cons (px_name 0) (pas_cons (px_add (px_name 1) px_int) pas_nil)) ⟨ns, b + 2, rfl, by omega, rfl⟩) (pas_cons (px_name 6) (pas_cons px_int pas_nil))) ⟨_, _, _, rfl, by decide, rfl⟩) px_int)) (decide_eq_false c)) (fun h => nomatch h) (fun _ => sxs_nilLe (by repeat (first | exact .nil | refine .cons (by first | exact .refl _ | exact .emp _ | exact .bor _ | exact .frz _ | exact .frb _ | exact .bvr _ _ | exact .rvr _ _) ?_))))
  rw [hRl]
  have hraw : tiesOf (treeNames ns b m) f2 (N.toNat - 1) = combRaw ns b m := by unfold combRaw; rw [hN, hf]
  rw [hraw]
  refine sxs_le (e1 := [.bor (.scr ns), .bor (.int b), .bor (.int m), .dat (.int (cellAt ns b)), .dat (.int N), .emp, .emp, .dat (.lst (dP (combRaw ns b m))), .emp, .emp, .emp]) (by repeat (first | exact .nil | refine .cons (by first | exact .refl _ | exact .emp _ | exact .bor _ | exact .frz _ | exact .frb _ | exact .bvr _ _ | exact .rvr _ _) ?_)) ?_
  exact sxs_one (sx_ret (px_tup (pas_cons (px_name 4) (pas_cons (pl_x (pl_sortP (ps := combRaw ns b m) bt.sorted (px_name 7))) pas_nil))))

def R_joins_all : List D → Res → Prop := fun ds r => ∃ (m : Int) (ts : List (Int × Int)), ds = [.int m, .lst (dP ts)] ∧ 1 ≤ m ∧ m ≤ 1000 ∧ (∀ t ∈ ts, inPl m t) ∧ r = .ret (.bl (joinsAll m ts))
theorem k_joins_all (T : FunT K mg "joins_all" s_joins_all ["many", "ties"]) (bt : Bt mg) : Kn P w K mg base CX0 1 "joins_all" ["many", "ties"] (spN K C R_joins_all) := by
  refine knN T sc_joins_all (fun ds r ⟨_, _, h, _⟩ => by rw [h]; rfl) (fun ds c ⟨_, _, _, _, _, _, h⟩ => nomatch h) (fun f cdv A outer s H ds r hr hR => ?_)
  obtain ⟨m, ts, rfl, h1, h2, hp, rfl⟩ := hR
  refine ⟨.rt _, rfl, ?_⟩
  refine sxs_cons (sx_setL 2 (pl_listR1 rfl bt.list bt.range (px_name 0) ⟨by omega, by omega⟩) sc_joins_all.nd) ?_
  refine sxs_cons (sx_for ow0 rfl (pi_l false (px_name 1)) (pg_tup rfl (pgs_cons (pg_name (i := 3) sc_joins_all.nd rfl (.inl rfl)) (pgs_cons (pg_name (i := 4) sc_joins_all.nd rfl (.inl rfl)) pgs_nil))) (tg_pair 3 4)
    (fun i => [.bor (.int m), .bor (.lst (dP ts)), .dat (.lst (dI ((ts.take i).foldl nameStep (rg m)))), .emp, .emp, .emp, .emp, .emp]) (by repeat (first | exact .nil | refine .cons (by first | exact .refl _ | exact .emp _ | exact .bor _ | exact .frz _ | exact .frb _ | exact .bvr _ _ | exact .rvr _ _) ?_)) (fun d hd => by
      obtain ⟨t, _, rfl⟩ := List.mem_map.mp hd
      exact ⟨_, _, rfl⟩) (fun i d hd => ?_)) ?_
  · obtain ⟨t, ht, rfl⟩ := map_at hd
    have hb := hp t (List.mem_of_getElem? ht)
    unfold inPl at hb
    have hl : ((ts.take i).foldl nameStep (rg m)).length = m.toNat := by rw [fold_len, Mt.rg_len]
    have e : (ts.take (i + 1)).foldl nameStep (rg m) = nameStep ((ts.take i).foldl nameStep (rg m)) t := by
      rw [List.take_add_one, ht, List.foldl_append]; rfl
    rw [e]
    generalize hL : (ts.take i).foldl nameStep (rg m) = l at hl
    refine sxs_cons (sx_set true 5 (px_min rfl bt.min (px_iAt (ns := l) (i := t.1) (px_name 2) (px_name 3) (by omega) (by omega)) (px_iAt (ns := l) (i := t.2) (px_name 2) (px_name 4) (by omega) (by omega))) sc_joins_all.nd) ?_
    refine sxs_cons (sx_set true 6 (px_max rfl bt.max (px_iAt (ns := l) (i := t.1) (px_name 2) (px_name 3) (by omega) (by omega)) (px_iAt (ns := l) (i := t.2) (px_name 2) (px_name 4) (by omega) (by omega))) sc_joins_all.nd) ?_
    refine sxs_one (sx_nxLe (sx_setLc l D.int (fun _ => true) (fun x => .int (nameF l t x)) (ds := dI l) rfl (own := [("other", 7)]) (i := 2) rfl sc_joins_all.nd rfl rfl rfl rfl (pi_l false (px_name 2)) (blkOk_by (N := n_joins_all) (sc := defScope s_joins_all) (by decide +kernel)) (tg_name 7) (fun _ _ _ _ _ => pg_name (i := 7) sc_joins_all.nd rfl (.inl rfl)) (fun _ _ => trivial) (by decide) (by rfl) (by omega)
      (fun x hx _ _ _ _ _ => ptss_nil) (fun x hx hf _ _ _ _ _ => px_if (pt_c (cm_eqI (i := x) (px_name 7) (px_name 6))) (fun h => ?_) (fun h => ?_))) ?_)
    · unfold nameF
      rw [if_pos (show x = max (iAt l t.1) (iAt l t.2) from of_decide_eq_true h)]
      exact px_name 5
    · unfold nameF
      rw [if_neg (show ¬ x = max (iAt l t.1) (iAt l t.2) from of_decide_eq_false h)]
      exact px_name 7
    · have e2 : (l.filter fun _ => true).map (fun x => D.int (nameF l t x)) = dI (nameStep l t) := by
        rw [List.filter_eq_self.mpr fun _ _ => rfl]
        unfold nameStep dI
        rw [List.map_map]; rfl
      rw [e2]
      exact (by repeat (first | exact .nil | refine .cons (by first | exact .refl _ | exact .emp _ | exact .bor _ | exact .frz _ | exact .frb _ | exact .bvr _ _ | exact .rvr _ _) ?_))
  · rw [List.length_map, List.take_length]
    refine sxs_one (sx_ret (px_c (cm_eqI (px_max1 (ns := namesAll m ts) (m := maxI (namesAll m ts)) rfl bt.max (px_name 2) (maxI_mem (names_nm h1 hp).1 (fun z => by
      have := names_len m ts
      rw [z, List.length_nil] at this; omega)) (fun z hz => maxI_ge hz)) px_int)))

theorem k_tree (TI : FunI K mg C s_Tree_init ["self", "many", "ties"]) (TT : TreeT K C) (bt : Bt mg) (hM : ∃ t, mg "MOST" = some (.int 12 t)) (G : Kn P w K mg base CX0 1 "joins_all" ["many", "ties"] (spN K C R_joins_all)) (cb : Addr) : KnTree P w K mg base 2 C cb noT := by
  obtain ⟨f, fd, F, M, hb, hC⟩ := TI
  obtain ⟨tM, hM⟩ := hM
  refine ⟨f, fd, _, M, F.okX sc_Tree_init (fun vs H Q E h => ?_) (fun cdv A outer s H vs Q E hr h => ?_), hb, hC⟩
  · obtain ⟨_, _, _, _, _, _, rfl, _⟩ := h; rfl
  · obtain ⟨S, t, dx, m, v, ds, rfl, hS, hSt, ht, hdx, hv, h⟩ := h
    obtain ⟨⟨ts, rfl, hT⟩, hk⟩ := h.resolve_right fun z => z.1.elim
    have t1 := hT.lo
    have t2 := hT.hi
    have t3 := hT.len
    have hE := startI (N := n_Tree_init) (m := m) (k := 2) rfl hS (fun z => by rw [ht] at z; cases z) hv
    refine ⟨_, pss_then (C := C) (X := cxX P w K mg base n_Tree_init "Tree.__init__" (defScope s_Tree_init) f cdv A outer s H E) (env := [.raw (.ref t), .bor (.int m), .dat (.lst (dP ts)), .emp, .emp]) (E := fun _ => E) (env' := [.raw (.ref t), .bor (.int m), .dat (.lst (dP ts)), .emp, .emp]) ?s1
      (pss_then (C := C) (env := [.raw (.ref t), .bor (.int m), .dat (.lst (dP ts)), .emp, .emp]) (env' := [.raw (.ref t), .bor (.int m), .dat (.lst (dP ts)), .emp, .emp]) (E := fun _ => E) ?s2 (pss_then (C := C) (env := [.raw (.ref t), .bor (.int m), .dat (.lst (dP ts)), .emp, .emp]) (env' := [.raw (.ref t), .bor (.int m), .dat (.lst (dP ts)), .emp, .emp]) (E := fun _ => E) ?s3
        (init_tail (C := C) TT bt.list rfl rfl rfl (.inl rfl) (.inl rfl) (.inl rfl) (by decide) (by decide) (by decide) (by decide) (by decide) (by decide) rfl rfl rfl rfl rfl))), ?_⟩
    case s1 =>
      refine sx_if (x := false) (pt_to (pt_w (pw_o (pt_n (pt_ch2 op_le op_le px_int (px_name 1) (px_gI hM))) (fun h => pw_o1 (pt_c (cm_neI (px_lenL bt.len (px_name 2)) (px_subt (px_name 1) px_int)))))) ?_) (fun h => nomatch h) (fun h => sxs_nil)
      rw [decide_eq_true (show (1 : Int) ≤ m from t1), decide_eq_true (show m ≤ 12 from t2), decide_eq_true (show (((dP ts).length : Nat) : Int) = m - 1 by rw [List.length_map]; exact t3)]; rfl
    case s2 =>
      have hen : (enD (dP ts)).length = ts.length := by unfold enD; rw [List.length_mapIdx, List.length_map]
      refine sx_nxLe (sx_for ownsX rfl (pi_en true bt.enumerate (px_name 2)) (pg_tup rfl (pgs_cons (pg_name (i := 3) sc_Tree_init.nd rfl (.inl rfl)) (pgs_cons (pg_name (i := 4) sc_Tree_init.nd rfl (.inl rfl)) pgs_nil))) (tg_pair 3 4)
        (fun i => [.raw (.ref t), .bor (.int m), .dat (.lst (dP ts)), .emp, .emp]) (by repeat (first | exact .nil | refine .cons (by first | exact .refl _ | exact .emp _ | exact .bor _ | exact .frz _ | exact .frb _ | exact .bvr _ _ | exact .rvr _ _) ?_)) (fun d hd => ?_) (fun i d hd => ?_)) (by repeat (first | exact .nil | refine .cons (by first | exact .refl _ | exact .emp _ | exact .bor _ | exact .frz _ | exact .frb _ | exact .bvr _ _ | exact .rvr _ _) ?_))
      · unfold enD at hd
        obtain ⟨i, hi, e⟩ := List.mem_mapIdx.mp hd
        exact ⟨_, _, e.symm⟩
      · unfold enD at hd
        rw [List.getElem?_mapIdx, List.getElem?_map] at hd
        obtain ⟨u, hu, rfl⟩ : ∃ u, ts[i]? = some u ∧ d = .tup [.int (i : Int), pr u] := by
          cases q : ts[i]? with
          | none => rw [q] at hd; cases hd
          | some u => rw [q] at hd; exact ⟨u, rfl, (Option.some.inj hd).symm⟩
        have hb := hT.bd u (List.mem_of_getElem? hu)
        have hlt : i < ts.length := (List.getElem?_eq_some_iff.mp hu).1
        refine sxs_one (sx_if (x := false) (pt_to (pt_w (pw_o (y := decide ((0 : Int) < (i : Int)) && leP u (ts.getD (((i : Int) - 1).toNat) (0, 0))) (pt_n (pt_ch3 op_le op_lt op_lt px_int (px_ixT (d := .int u.1) (px_name 4) px_int rfl) (px_ixT (d := .int u.2) (px_name 4) px_int rfl) (px_name 1)))
          (fun _ => pw_o1 (pt_w (pw_a (pt_c (cm_gt (px_name 3) px_int)) (fun h => pw_a1 (pt_c (cm_geP hr.units0 (px_ixL (px_name 2) (px_subt (px_name 3) px_int) (atI_p ts (by have := of_decide_eq_true h; omega) (by omega))) (px_name 4))))))))) ?_) (fun h => nomatch h) (fun h => sxs_nilLe (by repeat (first | exact .nil | refine .cons (by first | exact .refl _ | exact .emp _ | exact .bor _ | exact .frz _ | exact .frb _ | exact .bvr _ _ | exact .rvr _ _) ?_))))
        rw [decide_eq_true (show (0 : Int) ≤ u.1 by omega), decide_eq_true (show u.1 < u.2 by omega), decide_eq_true (show u.2 < m by omega)]
        show (decide ((0 : Int) < (i : Int)) && leP u (ts.getD (((i : Int) - 1).toNat) (0, 0))) = false
        by_cases c : (0 : Int) < (i : Int)
        · rw [decide_eq_true c, Bool.true_and]
          have hs := List.pairwise_iff_getElem.mp hT.so (i - 1) i (by omega) hlt (by omega)
          rw [List.getD_eq_getElem?_getD, show ((i : Int) - 1).toNat = i - 1 by omega, List.getElem?_eq_getElem (by omega), Option.getD_some]
          have e2 : ts[i] = u := by rw [List.getElem?_eq_getElem hlt] at hu; exact Option.some.inj hu
          rw [e2] at hs
          unfold Mt.ltP at hs
          cases q : leP u ts[i - 1] with
          | false => rfl
          | true => rw [leP_iff] at q; omega
        · rw [decide_eq_false c]; rfl
    case s3 =>
      refine sx_if (x := false) (pt_to (pt_n (pt_e (px_kn (env := [.raw (.ref t), .bor (.int m), .dat (.lst (dP ts)), .emp, .emp]) G hr (pas_cons (px_name 1) (pas_cons (px_name 2) pas_nil)) ⟨m, ts, rfl, t1, by omega, hT.inP, rfl⟩))) ?_) (fun h => nomatch h) (fun h => sxs_nil)
      rw [hT.jo]; rfl
    refine ⟨H, _, _, hE, fun σ1 H1 E1 => ⟨H, _, _, E1, fun σ2 H2 E2 => ⟨H, _, _, E2, fun σ3 H3 E3 => ⟨H, _, _, t, dx, m, dP ts, _, E3, .inr rfl, ht, fun σ4 H4 b xs kp hbn k1 k2 rr => hk H4 b xs kp hbn k1 k2 rr⟩⟩⟩⟩

def R_neighbours : List D → Res → Prop := fun ds r => ∃ (m : Int) (ts : List (Int × Int)) (p : Int), ds = [.tree m (dP ts), .int p] ∧ TreeOk m ts ∧ r = .ret (.lst (dI (besM ts p)))
theorem k_neighbours (T : FunT K mg "neighbours" s_neighbours ["tree", "place"]) (bt : Bt mg) (TT : TreeT K C) : Kn P w K mg base CX0 1 "neighbours" ["tree", "place"] (spN K C R_neighbours) := by
  refine knN T sc_neighbours (fun ds r ⟨_, _, _, h, _⟩ => by rw [h]; rfl) (fun ds c ⟨_, _, _, _, _, h⟩ => nomatch h) (fun f cdv A outer s H ds r hr hR => ?_)
  obtain ⟨m, ts, p, rfl, hT, rfl⟩ := hR
  have t2 := hT.hi
  have t3 := hT.len
  refine ⟨.rt _, rfl, ?_⟩
  refine sxs_cons (sx_setLc ts pr (tiedB p) (fun t => .int (t.1 + t.2 - p)) (ds := dP ts) rfl (own := [("one", 3), ("two", 4)]) (i := 2) rfl sc_neighbours.nd rfl rfl rfl rfl (pi_l false (px_ties TT.cl TT.nT (px_name 0))) (blkOk_by (N := n_neighbours) (sc := defScope s_neighbours) (by decide +kernel)) (tg_pair 3 4) (fun _ _ _ _ _ => pg_tup rfl (pgs_cons (pg_name (i := 3) sc_neighbours.nd rfl (.inl rfl)) (pgs_cons (pg_name (i := 4) sc_neighbours.nd rfl (.inl rfl)) pgs_nil))) (fun _ _ => ⟨_, _, rfl⟩) (by decide) (by rfl) (by omega)
    (fun x hx _ _ _ _ _ => ptss_one (pt_c (cm_inT (ns := [x.1, x.2]) (by rfl) (px_name 1) (px_tup (ds := [.int x.1, .int x.2]) (pas_cons (px_name 3) (pas_cons (px_name 4) pas_nil)) (by show 2 ≤ 1000000; decide)))))
    (fun x hx hf _ _ _ _ _ => px_subt (px_add (px_name 3) (px_name 4)) (px_name 1))) ?_
  rw [show (ts.filter (tiedB p)).map (fun t => D.int (t.1 + t.2 - p)) = dI (besM ts p) by unfold besM dI; rw [List.map_map]; rfl]
  exact sxs_one (sx_ret (px_to (pl_x (pl_sortI (ns := besM ts p) bt.sorted (px_name 2))) (by rw [bes_sorted hT.bd hT.so])))

def R_inner_ones : List D → Res → Prop := fun ds r => ∃ (m : Int) (ts : List (Int × Int)), ds = [.tree m (dP ts)] ∧ TreeOk m ts ∧ r = .ret (.lst (dI (innM m ts)))
theorem k_inner_ones (T : FunT K mg "inner_ones" s_inner_ones ["tree"]) (bt : Bt mg) (TT : TreeT K C) (G : Kn P w K mg base CX0 1 "neighbours" ["tree", "place"] (spN K C R_neighbours)) : Kn P w K mg base CX0 2 "inner_ones" ["tree"] (spN K C R_inner_ones) := by
  refine knN T sc_inner_ones (fun ds r ⟨_, _, h, _⟩ => by rw [h]; rfl) (fun ds c ⟨_, _, _, _, h⟩ => nomatch h) (fun f cdv A outer s H ds r hr hR => ?_)
  obtain ⟨m, ts, rfl, hT, rfl⟩ := hR
  have t1 := hT.lo
  have t2 := hT.hi
  refine ⟨.rt _, rfl, ?_⟩
  refine sxs_one (sx_ret (pl_x (pl_lc (X := cx0 P w K mg base n_inner_ones "inner_ones" (defScope s_inner_ones) f cdv A outer s H) (rg m) D.int (fun p => decide (1 < ((besM ts p).length : Int))) D.int (ds := dI (rg m)) rfl rfl sc_inner_ones.nd (own := [("place", 1)]) (pi_r1 true bt.range (px_many TT.cl TT.nM (px_name 0)) ⟨by omega, by omega⟩) (blkOk_by (N := n_inner_ones) (sc := defScope s_inner_ones) (by decide +kernel)) (tg_name 1) (fun _ _ _ _ _ => pg_name (i := 1) sc_inner_ones.nd rfl (.inl rfl)) (fun _ _ => trivial) (by decide) (by rfl) (by rw [Mt.rg_len]; omega)
    (fun x hx _ _ _ _ _ => ?_) (fun x hx hf _ _ _ _ _ => px_name 1))))
  exact ptss_one (pt_to (pt_c (cm_gt (px_lenL bt.len (px_kn G hr (pas_cons (px_name 0) (pas_cons (px_name 1) pas_nil)) ⟨m, ts, x, rfl, hT, rfl⟩)) px_int)) (by rw [List.length_map]))
def R_inner_beside : List D → Res → Prop := fun ds r => ∃ (m : Int) (ts : List (Int × Int)) (inner : List Int) (p : Int), ds = [.tree m (dP ts), .lst (dI inner), .int p] ∧ TreeOk m ts ∧ r = .ret (.lst (dI ((besM ts p).filter inner.contains)))
theorem k_inner_beside (T : FunT K mg "inner_beside" s_inner_beside ["tree", "inner", "place"]) (bt : Bt mg) (G : Kn P w K mg base CX0 1 "neighbours" ["tree", "place"] (spN K C R_neighbours)) : Kn P w K mg base CX0 2 "inner_beside" ["tree", "inner", "place"] (spN K C R_inner_beside) := by
  refine knN T sc_inner_beside (fun ds r ⟨_, _, _, _, h, _⟩ => by rw [h]; rfl) (fun ds c ⟨_, _, _, _, _, _, h⟩ => nomatch h) (fun f cdv A outer s H ds r hr hR => ?_)
  obtain ⟨m, ts, inner, p, rfl, hT, rfl⟩ := hR
  have t2 := hT.hi
  have t3 := hT.len
  have bl := bes_len (ts := ts) (p := p)
  refine ⟨.rt _, rfl, ?_⟩
  exact sxs_one (sx_ret (pl_x (pl_lc (X := cx0 P w K mg base n_inner_beside "inner_beside" (defScope s_inner_beside) f cdv A outer s H) (besM ts p) D.int inner.contains D.int (ds := dI (besM ts p)) rfl rfl sc_inner_beside.nd (own := [("other", 3)]) (pi_l true (px_kn G hr (pas_cons (px_name 0) (pas_cons (px_name 2) pas_nil)) ⟨m, ts, p, rfl, hT, rfl⟩)) (blkOk_by (N := n_inner_beside) (sc := defScope s_inner_beside) (by decide +kernel)) (tg_name 3) (fun _ _ _ _ _ => pg_name (i := 3) sc_inner_beside.nd rfl (.inl rfl)) (fun _ _ => trivial) (by decide) (by rfl) (by omega)
    (fun x hx _ _ _ _ _ => ptss_one (pt_c (cm_inI (ns := inner) (by rfl) (px_name 3) (px_name 1)))) (fun x hx hf _ _ _ _ _ => px_name 3))))
def R_is_comb : List D → Res → Prop := fun ds r => ∃ (m : Int) (ts : List (Int × Int)), ds = [.tree m (dP ts)] ∧ TreeOk m ts ∧ r = .ret (.bl (combB m ts))
theorem k_is_comb (T : FunT K mg "is_comb" s_is_comb ["tree"]) (bt : Bt mg) (G1 : Kn P w K mg base CX0 2 "inner_ones" ["tree"] (spN K C R_inner_ones)) (G2 : Kn P w K mg base CX0 2 "inner_beside" ["tree", "inner", "place"] (spN K C R_inner_beside)) : Kn P w K mg base CX0 3 "is_comb" ["tree"] (spN K C R_is_comb) := by
  refine knN T sc_is_comb (fun ds r ⟨_, _, h, _⟩ => by rw [h]; rfl) (fun ds c ⟨_, _, _, _, h⟩ => nomatch h) (fun f cdv A outer s H ds r hr hR => ?_)
  obtain ⟨m, ts, rfl, hT, rfl⟩ := hR
  have t2 := hT.hi
  have il := inn_len (m := m) (ts := ts)
  refine ⟨.rt _, rfl, ?_⟩
  refine sxs_cons (sx_set true 1 (px_kn G1 hr (pas_cons (px_name 0) pas_nil) ⟨m, ts, rfl, hT, rfl⟩) sc_is_comb.nd) ?_
  refine sxs_one (sx_ret (px_to (px_all (bs := (innM m ts).map fun p => decide ((((besM ts p).filter (innM m ts).contains).length : Int) ≤ 2)) rfl bt.all (pl_x (pl_to (pl_lc (X := cx0 P w K mg base n_is_comb "is_comb" (defScope s_is_comb) f cdv A outer s H) (innM m ts) D.int (fun _ => true) (fun p => .bl (decide ((((besM ts p).filter (innM m ts).contains).length : Int) ≤ 2))) (ds := dI (innM m ts)) rfl rfl sc_is_comb.nd (own := [("place", 2)]) (pi_l true (px_name 1)) (blkOk_by (N := n_is_comb) (sc := defScope s_is_comb) (by decide +kernel)) (tg_name 2) (fun _ _ _ _ _ => pg_name (i := 2) sc_is_comb.nd rfl (.inl rfl)) (fun _ _ => trivial) (by decide) (by rfl) (by omega)
    (fun x hx _ _ _ _ _ => ptss_nil) (fun x hx hf _ _ _ _ _ => ?_)) ?_))) ?_))
  · exact px_to (px_c (cm_le (px_lenL bt.len (px_kn G2 hr (pas_cons (px_name 0) (pas_cons (px_name 1) (pas_cons (px_name 2) pas_nil))) ⟨m, ts, innM m ts, x, rfl, hT, rfl⟩)) px_int)) (by rw [List.length_map])
  · rw [List.filter_eq_self.mpr fun _ _ => rfl, List.map_map]; rfl
  · unfold combB
    rw [List.all_map]; rfl
def R_first_place : List D → Res → Prop := fun ds r => ∃ (m : Int) (ts : List (Int × Int)), ds = [.tree m (dP ts), .lst (dI (innM m ts))] ∧ TreeOk m ts ∧ r = .ret (.int (zz0 m ts))
theorem k_first_place (T : FunT K mg "first_place" s_first_place ["tree", "inner"]) (bt : Bt mg) (G2 : Kn P w K mg base CX0 2 "inner_beside" ["tree", "inner", "place"] (spN K C R_inner_beside)) : Kn P w K mg base CX0 3 "first_place" ["tree", "inner"] (spN K C R_first_place) := by
  refine knN T sc_first_place (fun ds r ⟨_, _, h, _⟩ => by rw [h]; rfl) (fun ds c ⟨_, _, _, _, h⟩ => nomatch h) (fun f cdv A outer s H ds r hr hR => ?_)
  obtain ⟨m, ts, rfl, hT, rfl⟩ := hR
  refine ⟨.rt _, rfl, ?_⟩
  refine sxs_forF (fpF m ts) (innM m ts) D.int () (fun _ => [.bor (.tree m (dP ts)), .bor (.lst (dI (innM m ts))), .emp]) (fun p => .rt (.int p)) (fun _ _ => True) rfl ow0 rfl (pi_l false (px_name 1)) (pg_name (i := 2) sc_first_place.nd rfl (.inl rfl)) (tg_name 2)
    trivial (by repeat (first | exact .nil | refine .cons (by first | exact .refl _ | exact .emp _ | exact .bor _ | exact .frz _ | exact .frb _ | exact .bvr _ _ | exact .rvr _ _) ?_)) (fun _ _ => trivial) (fun _ => rfl) (fun _ _ _ _ _ _ _ => trivial) (fun i x _ hx _ => ?_) (fun r e _ => ?_) (fun y e => ?_)
  · unfold fpF
    have hc : PTt (cx0 P w K mg base n_first_place "first_place" (defScope s_first_place) f cdv A outer s H) C (match (defBody s_first_place).getD 0 (.Pass ⟨0, 0, 0, 0⟩) with | .For _ _ [.If c _ _ _] _ _ => c | _ => .Constant .none 0 ⟨0, 0, 0, 0⟩) [.bor (.tree m (dP ts)), .bor (.lst (dI (innM m ts))), .bor (.int x)] (decide ((((besM ts x).filter (innM m ts).contains).length : Int) < 2)) :=
      pt_to (pt_c (cm_lt (px_lenL bt.len (px_kn G2 hr (pas_cons (px_name 0) (pas_cons (px_name 1) (pas_cons (px_name 2) pas_nil))) ⟨m, ts, innM m ts, x, rfl, hT, rfl⟩)) px_int)) (by rw [List.length_map])
    by_cases c : (((besM ts x).filter (innM m ts).contains).length : Int) < 2
    · rw [if_pos c]
      exact sxs_exit (sx_if (x := true) (pt_to hc (decide_eq_true c)) (fun _ => sxs_one (sx_ret (px_name 2))) (fun h => nomatch h)) rfl
    · rw [if_neg c]
      exact sxs_one (sx_if (x := false) (pt_to hc (decide_eq_false c)) (fun h => nomatch h) (fun _ => sxs_nilLe (by repeat (first | exact .nil | refine .cons (by first | exact .refl _ | exact .emp _ | exact .bor _ | exact .frz _ | exact .frb _ | exact .bvr _ _ | exact .rvr _ _) ?_))))
  · rw [← first_zz, e]
    exact sxs_one (sx_ret px_int)
  · rw [← first_zz, e]

def R_comb_marks (cc : Addr) : List D → Res → Prop := fun ds r => ∃ (m : Int) (ts : List (Int × Int)), ds = [.tree m (dP ts)] ∧ TreeOk m ts ∧ Gen m ts ∧ r = resB (combB m ts) cc (.lst (dI (zzM m ts)))
theorem kStep_some {ts : List (Int × Int)} {inner : List Int} {c : Ks} {p : Int} (h : c.2.here = some p) : kStep ts inner c = (((zLeft ts inner c.2.marks p).foldl (kIn inner) (c.1, { c.2 with here := none })).1, { ((zLeft ts inner c.2.marks p).foldl (kIn inner) (c.1, { c.2 with here := none })).2 with turn := 1 - ((zLeft ts inner c.2.marks p).foldl (kIn inner) (c.1, { c.2 with here := none })).2.turn }) := by
  unfold kStep
  rw [h]
theorem zTo_drop {m : Int} {inner marks : List Int} : True := trivial
/-- what holds before each place of left -/
theorem k_pre {m : Int} {inner : List Int} {c : Ks} {left : List Int} (k : KInv m c) (z : ZInv m c.2) (t : ZTo m c.2.marks left) {j : Nat} {one : Int} (h : left[j]? = some one) : KInv m ((left.take j).foldl (kIn inner) c) ∧ ZInv m ((left.take j).foldl (kIn inner) c).2 ∧ iAt ((left.take j).foldl (kIn inner) c).2.marks one < 0 := by
  have hj := (List.getElem?_eq_some_iff.mp h).1
  have sp : left = left.take j ++ left.drop j := (List.take_append_drop j left).symm
  have hd : one ∈ left.drop j := by
    have : (left.drop j)[0]? = some one := by rw [List.getElem?_drop, Nat.add_zero]; exact h
    exact List.mem_of_getElem? this
  have nd := t.1
  rw [sp] at nd
  have tk : ZTo m c.2.marks (left.take j) := ⟨(List.nodup_append.mp nd).1, fun q hq => t.2 q (List.mem_of_mem_take hq)⟩
  have tb := t.2 one (List.mem_of_getElem? h)
  refine ⟨kFold_inv k z tk, ?_, ?_⟩
  · rw [kFold_snd]; exact (zFold_inv z tk).1
  · rw [kFold_snd, (fold_mk (inner := inner) z tk one tb.1).1 (fun hm => (List.nodup_append.mp nd).2.2 one hm one hd rfl)]
    exact tb.2.2
theorem k_comb_marks {cc : Addr} (T : FunT K mg "comb_marks" s_comb_marks ["tree"]) (bt : Bt mg) (TT : TreeT K C) (EC : ExcF K mg "NoComb" cc) (G0 : Kn P w K mg base CX0 1 "neighbours" ["tree", "place"] (spN K C R_neighbours)) (G1 : Kn P w K mg base CX0 2 "inner_ones" ["tree"] (spN K C R_inner_ones)) (G2 : Kn P w K mg base CX0 3 "is_comb" ["tree"] (spN K C R_is_comb)) (G3 : Kn P w K mg base CX0 3 "first_place" ["tree", "inner"] (spN K C R_first_place)) :
    Kn P w K mg base (L2.CX P w) 4 "comb_marks" ["tree"] (spN K C (R_comb_marks cc)) := by
  refine knX T sc_comb_marks (fun ds r ⟨_, _, h, _⟩ => by rw [h]; rfl) (fun f cdv A outer s H E ds r hr hR => ?_)
  obtain ⟨m, ts, rfl, hT, hG, rfl⟩ := hR
  have t1 := hT.lo
  have t2 := hT.hi
  have t3 := hT.len
  have hb : Bd m ts := hT.bd
  have hn := hT.nodup
  have hu : A.units + 0 ≤ A.units := Nat.le_refl _
  have hu1 : (cxX P w K mg base n_comb_marks "comb_marks" (defScope s_comb_marks) f cdv A outer s H E).A.units + 1 < cLine := by have := hr.units; omega
  cases hc : combB m ts with
  | false =>
    refine ⟨.xc cc [.bor (.tree m (dP ts)), .emp, .emp, .emp, .emp, .emp, .emp, .emp, .emp, .emp], by simp only [resB]; rfl, ?_⟩
    exact sxs_exit (sx_if (x := true) (pt_to (pt_n (pt_e (px_kn G2 hr (pas_cons (px_name 0) pas_nil) ⟨m, ts, rfl, hT, rfl⟩))) (by rw [hc]; rfl)) (fun _ => sxs_one (sx_raise takesX EC rfl)) (fun h => nomatch h)) rfl
  | true =>
    refine ⟨.rt (.lst (dI (zzM m ts))), by simp only [resB]; rfl, ?_⟩
    refine sxs_cons (sx_if (x := false) (pt_to (pt_n (pt_e (px_kn G2 hr (pas_cons (px_name 0) pas_nil) ⟨m, ts, rfl, hT, rfl⟩))) (by rw [hc]; rfl)) (fun h => nomatch h) (fun _ => sxs_nil)) ?_
    refine sxs_cons (sx_set true 1 (px_kn G1 hr (pas_cons (px_name 0) pas_nil) ⟨m, ts, rfl, hT, rfl⟩) sc_comb_marks.nd) ?_
    refine sxs_cons (sx_set true 2 (px_kn G3 hr (pas_cons (px_name 0) (pas_cons (px_name 1) pas_nil)) ⟨m, ts, rfl, hT, rfl⟩) sc_comb_marks.nd) ?_
    refine sxs_cons (sx_dict1 3 (px_name 2) px_int sc_comb_marks.nd) ?_
    refine sxs_cons (sx_set true 4 px_int sc_comb_marks.nd) ?_
    refine sxs_cons (sx_set true 5 (px_subt (px_many TT.cl TT.nM (px_name 0)) px_int) sc_comb_marks.nd) ?_
    refine sxs_cons (sx_set true 6 px_bl sc_comb_marks.nd) ?_
    obtain ⟨zi, zn⟩ := zzN_spec t1 hb hn
    have il := inn_len (m := m) (ts := ts)
    refine sxs_cons (sx_while ownsX (zzN m ts) (fun i => [.bor (.tree m (dP ts)), .dat (.lst (dI (innM m ts))), .dat (encH (kIter m ts i).2.here), .dct (kIter m ts i).1, .dat (.int (kIter m ts i).2.low), .dat (.int (kIter m ts i).2.high), .dat (.bl (decide ((kIter m ts i).2.turn = 1))), .emp, .emp, .emp]) (by repeat (first | exact .nil | refine .cons (by first | exact .refl _ | exact .emp _ | exact .bor _ | exact .frz _ | exact .frb _ | exact .bvr _ _ | exact .rvr _ _) ?_))
      (fun i hi => pt_to (pt_c (cm_notN (px_name 2))) (by
        have := zi i hi
        rw [← kIter_snd] at this
        cases q : (kIter m ts i).2.here with
        | none => exact absurd q this
        | some p => rfl)) (pt_to (pt_c (cm_notN (px_name 2))) (by rw [kIter_snd, zn]; rfl)) (fun i hi => ?_)) ?_
    · have hK := kIter_inv t1 hb hn i
      have hI := zIter_inv t1 hb hn i
      have hne := zi i hi
      rw [← kIter_snd] at hI hne
      have est : kIter m ts (i + 1) = kStep ts (innM m ts) (kIter m ts i) := rfl
      rw [est]
      generalize kIter m ts i = st at hI hne hK
      cases q : st.2.here with
      | none => exact absurd q hne
      | some p =>
        rw [kStep_some q]
        have lto := zLeft_to hb hn (innM m ts) st.2.marks p
        have ll := zLeft_len (ts := ts) (inner := innM m ts) (marks := st.2.marks) (p := p)
        have z0l : (zL0 ts st.2.marks p).length ≤ 1000 := by
          unfold zL0
          have h3 := List.length_filter_le (fun q => decide (iAt st.2.marks q < 0)) (besM ts p)
          have h4 := bes_len (ts := ts) (p := p)
          omega
        refine sxs_cons (e1 := [.bor (.tree m (dP ts)), .dat (.lst (dI (innM m ts))), .dat (.int p), .dct st.1, .dat (.int st.2.low), .dat (.int st.2.high), .dat (.bl (decide (st.2.turn = 1))), .dat (.lst (dI (zL0 ts st.2.marks p))), .emp, .emp]) (sx_nxLe (sx_setLc (X := cxX P w K mg base n_comb_marks "comb_marks" (defScope s_comb_marks) f cdv A outer s H E) (besM ts p) D.int (fun q => decide (iAt st.2.marks q < 0)) D.int (ds := dI (besM ts p)) rfl (own := [("place", 8)]) (i := 7) rfl sc_comb_marks.nd rfl rfl rfl rfl (pi_l true (px_kn G0 hr (pas_cons (px_name 0) (pas_cons (px_name 2) pas_nil)) ⟨m, ts, p, rfl, hT, rfl⟩)) (blkOk_by (N := n_comb_marks) (sc := defScope s_comb_marks) (by decide +kernel)) (tg_name 8) (fun _ _ _ _ _ => pg_name (i := 8) sc_comb_marks.nd rfl (.inl rfl)) (fun _ _ => trivial) (by decide) (by rfl) (by have := bes_len (ts := ts) (p := p); omega)
          (fun y hy _ _ _ _ _ => ?_) (fun y hy hf _ _ _ _ _ => px_name 8)) (by repeat (first | exact .nil | refine .cons (by first | exact .refl _ | exact .emp _ | exact .bor _ | exact .frz _ | exact .frb _ | exact .bvr _ _ | exact .rvr _ _) ?_))) ?_
        · have yb := bes_bd hb hy
          refine ptss_one (pt_to (pt_notInK (kvs := st.1) (k := y) 3 hu1 (px_name 8) rfl) ?_)
          rw [hK.look y yb.1 yb.2.1]
          by_cases c : 0 ≤ iAt st.2.marks y
          · rw [if_pos c, decide_eq_false (by omega)]; rfl
          · rw [if_neg c, decide_eq_true (by omega)]; rfl
        refine sxs_cons (sx_set true 2 px_non sc_comb_marks.nd) ?_
        have i0 : ZInv m (st.1, ({ st.2 with here := none } : Zs)).2 := ⟨hI.len, hI.turn, hI.low, hI.high, fun _ y => by cases y⟩
        have k0 : KInv m (st.1, ({ st.2 with here := none } : Zs)) := ⟨hK.look, hK.len⟩
        generalize hL : zLeft ts (innM m ts) st.2.marks p = left at lto ll ⊢
        have kp := fun (j : Nat) (one : Int) (h : left[j]? = some one) => k_pre (inner := innM m ts) k0 i0 lto h
        have ftr : ∀ j, ((left.take j).foldl (kIn (innM m ts)) (st.1, { st.2 with here := none })).2.turn = st.2.turn := fun j => by rw [kFold_snd, fold_turn]
        have ftl : (left.foldl (kIn (innM m ts)) (st.1, { st.2 with here := none })).2.turn = st.2.turn := by rw [kFold_snd, fold_turn]
        refine sxs_cons (sx_for ownsX rfl (ds := dI left) (pi_l true (px_to (pl_x (pl_catI (xs := (zL0 ts st.2.marks p).filter fun q => !(innM m ts).contains q) (ys := (zL0 ts st.2.marks p).filter fun q => (innM m ts).contains q)
          (pl_x (pl_lc (zL0 ts st.2.marks p) D.int (fun q => !(innM m ts).contains q) D.int (ds := dI (zL0 ts st.2.marks p)) rfl rfl sc_comb_marks.nd (own := [("one", 9)]) (pi_l true (px_name 7)) (blkOk_by (N := n_comb_marks) (sc := defScope s_comb_marks) (by decide +kernel)) (tg_name 9) (fun _ _ _ _ _ => pg_name (i := 9) sc_comb_marks.nd rfl (.inl rfl)) (fun _ _ => trivial) (by decide) (by rfl) (by omega)
            (fun y hy _ _ _ _ _ => ptss_one (pt_c (cm_notInI (ns := innM m ts) (by rfl) (px_name 9) (px_name 1)))) (fun y hy hf _ _ _ _ _ => px_name 9)))
          (pl_x (pl_lc (zL0 ts st.2.marks p) D.int (fun q => (innM m ts).contains q) D.int (ds := dI (zL0 ts st.2.marks p)) rfl rfl sc_comb_marks.nd (own := [("one", 9)]) (pi_l true (px_name 7)) (blkOk_by (N := n_comb_marks) (sc := defScope s_comb_marks) (by decide +kernel)) (tg_name 9) (fun _ _ _ _ _ => pg_name (i := 9) sc_comb_marks.nd rfl (.inl rfl)) (fun _ _ => trivial) (by decide) (by rfl) (by omega)
            (fun y hy _ _ _ _ _ => ptss_one (pt_c (cm_inI (ns := innM m ts) (by rfl) (px_name 9) (px_name 1)))) (fun y hy hf _ _ _ _ _ => px_name 9)))
          (by
            have h3 := List.length_filter_le (fun q => !(innM m ts).contains q) (zL0 ts st.2.marks p)
            have h4 := List.length_filter_le (fun q => (innM m ts).contains q) (zL0 ts st.2.marks p)
            omega))) (congrArg (fun z => D.lst (dI z)) hL))) (pg_name (i := 8) sc_comb_marks.nd rfl (.inl rfl)) (tg_name 8)
          (fun j => [.bor (.tree m (dP ts)), .dat (.lst (dI (innM m ts))), .dat (encH ((left.take j).foldl (kIn (innM m ts)) (st.1, { st.2 with here := none })).2.here), .dct ((left.take j).foldl (kIn (innM m ts)) (st.1, { st.2 with here := none })).1, .dat (.int ((left.take j).foldl (kIn (innM m ts)) (st.1, { st.2 with here := none })).2.low), .dat (.int ((left.take j).foldl (kIn (innM m ts)) (st.1, { st.2 with here := none })).2.high), .dat (.bl (decide (st.2.turn = 1))), .emp, .emp, .emp]) (by repeat (first | exact .nil | refine .cons (by first | exact .refl _ | exact .emp _ | exact .bor _ | exact .frz _ | exact .frb _ | exact .bvr _ _ | exact .rvr _ _) ?_)) (fun _ _ => trivial) (fun j d hd => ?_)) ?_
        · obtain ⟨one, hone, rfl⟩ := map_at hd
          have ob := lto.2 one (List.mem_of_getElem? hone)
          obtain ⟨kj, zj, nj⟩ := kp j one hone
          have tj := ftr j
          have e1 : (left.take (j + 1)).foldl (kIn (innM m ts)) (st.1, { st.2 with here := none }) = kIn (innM m ts) ((left.take j).foldl (kIn (innM m ts)) (st.1, { st.2 with here := none })) one := by rw [take_succ_get hone, List.foldl_append]; rfl
          rw [e1]
          generalize (left.take j).foldl (kIn (innM m ts)) (st.1, { st.2 with here := none }) = sj at kj zj nj tj
          have hlk : lookI sj.1 one = none := by rw [kj.look one ob.1 ob.2.1, if_neg (by omega)]
          have hlen : sj.1.length < 1000000 := by have := kj.len; omega
          have tl : ∀ (l h : Int) (kv : List (Int × Int)), l = (zIn (innM m ts) sj.2 one).low → h = (zIn (innM m ts) sj.2 one).high → kv = (kIn (innM m ts) sj one).1 →
              SXs (cxX P w K mg base n_comb_marks "comb_marks" (defScope s_comb_marks) f cdv A outer s H E) C (fun _ => E) ((match (defBody s_comb_marks).getD 7 (.Pass ⟨0, 0, 0, 0⟩) with | .While _ b _ _ => (match b.getD 2 (.Pass ⟨0, 0, 0, 0⟩) with | .For _ _ b2 _ _ => b2.drop 1 | _ => []) | _ => [])) [.bor (.tree m (dP ts)), .dat (.lst (dI (innM m ts))), .dat (encH sj.2.here), .dct kv, .dat (.int l), .dat (.int h), .dat (.bl (decide (st.2.turn = 1))), .emp, .dat (.int one), .emp]
                (.nx [.bor (.tree m (dP ts)), .dat (.lst (dI (innM m ts))), .dat (encH (kIn (innM m ts) sj one).2.here), .dct (kIn (innM m ts) sj one).1, .dat (.int (kIn (innM m ts) sj one).2.low), .dat (.int (kIn (innM m ts) sj one).2.high), .dat (.bl (decide (st.2.turn = 1))), .emp, .emp, .emp]) := fun l h kv el eh ek => by
            rw [el, eh, ek]
            cases hin : (innM m ts).contains one with
            | true =>
              refine sxs_one (sx_if (x := true) (pt_to (pt_c (cm_inI (ns := innM m ts) (by rfl) (px_name 8) (px_name 1))) hin) (fun _ => sxs_one (sx_nxLe (sx_set true 2 (px_name 8) sc_comb_marks.nd) ?_)) (fun h => nomatch h))
              rw [show (kIn (innM m ts) sj one).2.here = some one by show (if (innM m ts).contains one then some one else sj.2.here) = _; rw [if_pos hin]]
              exact (by repeat (first | exact .nil | refine .cons (by first | exact .refl _ | exact .emp _ | exact .bor _ | exact .frz _ | exact .frb _ | exact .bvr _ _ | exact .rvr _ _) ?_))
            | false =>
              refine sxs_one (sx_if (x := false) (pt_to (pt_c (cm_inI (ns := innM m ts) (by rfl) (px_name 8) (px_name 1))) hin) (fun h => nomatch h) (fun _ => sxs_nilLe ?_))
              rw [show (kIn (innM m ts) sj one).2.here = sj.2.here by show (if (innM m ts).contains one then some one else sj.2.here) = _; rw [if_neg (by rw [hin]; decide)]]
              exact (by repeat (first | exact .nil | refine .cons (by first | exact .refl _ | exact .emp _ | exact .bor _ | exact .frz _ | exact .frb _ | exact .bvr _ _ | exact .rvr _ _) ?_))
          by_cases c : st.2.turn = 1
          · have c2 : sj.2.turn = 1 := by rw [tj]; exact c
            refine sxs_cons (e1 := [.bor (.tree m (dP ts)), .dat (.lst (dI (innM m ts))), .dat (encH sj.2.here), .dct (sj.1 ++ [(one, sj.2.low)]), .dat (.int (sj.2.low + 1)), .dat (.int sj.2.high), .dat (.bl (decide (st.2.turn = 1))), .emp, .dat (.int one), .emp]) (sx_if (x := true) (pt_to (pt_e (px_name 6)) (decide_eq_true c)) (fun _ => ?_) (fun h => nomatch h)) (tl _ _ _ ?_ ?_ ?_)
            · refine sxs_cons (sx_putK 3 hu1 (px_name 4) (px_name 8) rfl hlk hlen) ?_
              exact sxs_one (sx_nxLe (sx_set true 4 (px_add (px_name 4) px_int) sc_comb_marks.nd) (by repeat (first | exact .nil | refine .cons (by first | exact .refl _ | exact .emp _ | exact .bor _ | exact .frz _ | exact .frb _ | exact .bvr _ _ | exact .rvr _ _) ?_)))
            · show _ = sj.2.low + (if sj.2.turn = 1 then 1 else 0)
              rw [if_pos c2]
            · show _ = sj.2.high - (if sj.2.turn = 0 then 1 else 0)
              rw [if_neg (by omega)]; omega
            · show _ = sj.1 ++ [(one, if sj.2.turn = 0 then sj.2.high else sj.2.low)]
              rw [if_neg (by omega)]
          · have c2 : sj.2.turn = 0 := by rw [tj]; have := hI.turn; omega
            refine sxs_cons (e1 := [.bor (.tree m (dP ts)), .dat (.lst (dI (innM m ts))), .dat (encH sj.2.here), .dct (sj.1 ++ [(one, sj.2.high)]), .dat (.int sj.2.low), .dat (.int (sj.2.high - 1)), .dat (.bl (decide (st.2.turn = 1))), .emp, .dat (.int one), .emp]) (sx_if (x := false) (pt_to (pt_e (px_name 6)) (decide_eq_false c)) (fun h => nomatch h) (fun _ => ?_)) (tl _ _ _ ?_ ?_ ?_)
            · refine sxs_cons (sx_putK 3 hu1 (px_name 5) (px_name 8) rfl hlk hlen) ?_
              exact sxs_one (sx_nxLe (sx_set true 5 (px_subt (px_name 5) px_int) sc_comb_marks.nd) (by repeat (first | exact .nil | refine .cons (by first | exact .refl _ | exact .emp _ | exact .bor _ | exact .frz _ | exact .frb _ | exact .bvr _ _ | exact .rvr _ _) ?_)))
            · show _ = sj.2.low + (if sj.2.turn = 1 then 1 else 0)
              rw [if_neg (by omega)]; omega
            · show _ = sj.2.high - (if sj.2.turn = 0 then 1 else 0)
              rw [if_pos c2]
            · show _ = sj.1 ++ [(one, if sj.2.turn = 0 then sj.2.high else sj.2.low)]
              rw [if_pos c2]
        · rw [List.length_map, List.take_length]
          generalize left.foldl (kIn (innM m ts)) (st.1, { st.2 with here := none }) = F at ftl ⊢
          refine sxs_one (sx_nxLe (sx_set true 6 (px_not (px_name 6)) sc_comb_marks.nd) ?_)
          have et : (!decide (st.2.turn = 1)) = decide (1 - F.2.turn = 1) := by
            rw [ftl]
            rcases hI.turn with c | c <;> rw [c] <;> rfl
          show Le _ [.bor (.tree m (dP ts)), .dat (.lst (dI (innM m ts))), .dat (encH F.2.here), .dct F.1, .dat (.int F.2.low), .dat (.int F.2.high), .dat (.bl (decide (1 - F.2.turn = 1))), .emp, .emp, .emp]
          rw [← et]
          exact (by repeat (first | exact .nil | refine .cons (by first | exact .refl _ | exact .emp _ | exact .bor _ | exact .frz _ | exact .frb _ | exact .bvr _ _ | exact .rvr _ _) ?_))
    · obtain ⟨isM, _, _⟩ := zz_comb hG hT hc
      have hK := kIter_inv t1 hb hn (zzN m ts)
      have es := kIter_snd (m := m) (ts := ts) (zzN m ts)
      have eM : (kIter m ts (zzN m ts)).2.marks = zzM m ts := by rw [es]; rfl
      have look : ∀ x ∈ rg m, lookI (kIter m ts (zzN m ts)).1 x = some (iAt (zzM m ts) x) := fun x hx => by
        have xb := mem_rg.mp hx
        rw [hK.look x xb.1 xb.2, eM, if_pos (isM.bd xb.1 xb.2).1]
      have zl := zzM_len t1 hb hn
      refine sxs_one (sx_ret (px_to (pl_x (pl_lc (rg m) D.int (fun _ => true) (fun x => .int (iAt (zzM m ts) x)) (ds := dI (rg m)) rfl rfl sc_comb_marks.nd (own := [("place", 8)]) (pi_r1 true bt.range (px_many TT.cl TT.nM (px_name 0)) ⟨by omega, by omega⟩) (blkOk_by (N := n_comb_marks) (sc := defScope s_comb_marks) (by decide +kernel)) (tg_name 8) (fun _ _ _ _ _ => pg_name (i := 8) sc_comb_marks.nd rfl (.inl rfl)) (fun _ _ => trivial) (by decide) (by rfl) (by rw [Mt.rg_len]; omega)
        (fun x hx _ _ _ _ _ => ptss_nil) (fun x hx hf _ _ _ _ _ => px_getK (kvs := (kIter m ts (zzN m ts)).1) (k := x) 3 hu1 (px_name 8) rfl (look x hx)))) ?_))
      rw [List.filter_eq_self.mpr fun _ _ => rfl]
      have e : (rg m).map (fun x => D.int (iAt (zzM m ts) x)) = dI (zzM m ts) := by
        unfold dI
        refine List.ext_getElem? fun k => ?_
        rw [List.getElem?_map, List.getElem?_map]
        by_cases hk : k < m.toNat
        · rw [rgI_get (by rw [Int.sub_zero]; exact hk), Int.zero_add]
          have := iAt_get (l := zzM m ts) (i := (k : Int)) (by omega)
          rw [show ((k : Int)).toNat = k by omega] at this
          rw [this]; rfl
        · rw [List.getElem?_eq_none (by rw [Mt.rg_len]; omega), List.getElem?_eq_none (by omega)]; rfl
      rw [e]

def R_check_marks (cb : Addr) : List D → Res → Prop := fun ds r => ∃ (m : Int) (ts : List (Int × Int)) (marks : List Int), ds = [.tree m (dP ts), .lst (dI marks)] ∧ 0 ≤ m ∧ m ≤ 1000 ∧ r = resB (isMk m marks) cb .non
theorem k_check_marks {cb : Addr} (T : FunT K mg "check_marks" s_check_marks ["tree", "marks"]) (bt : Bt mg) (TT : TreeT K C) (EB : ExcF K mg "BadMarks" cb) : Kn P w K mg base (L2.CX P w) 1 "check_marks" ["tree", "marks"] (spN K C (R_check_marks cb)) := by
  refine knX T sc_check_marks (fun ds r ⟨_, _, _, h, _⟩ => by rw [h]; rfl) (fun f cdv A outer s H E ds r hr hR => ?_)
  obtain ⟨m, ts, marks, rfl, h0, h1, rfl⟩ := hR
  cases hk : isMk m marks with
  | true =>
    refine ⟨.nx [.bor (.tree m (dP ts)), .bor (.lst (dI marks))], by simp only [resB]; rfl, ?_⟩
    exact sxs_one (sx_if (x := false) (pt_to (pt_c (cm_neD hr.units (pl_x (pl_sortI (ns := marks) bt.sorted (px_name 1))) (pl_x (pl_listR1 (n := m) rfl bt.list bt.range (px_many TT.cl TT.nM (px_name 0)) ⟨by omega, by omega⟩)) (okD_ints _).cmp (okD_ints _).cmp)) (by rw [eqD_ints]; show (!isMk m marks) = _; rw [hk]; rfl)) (fun h => nomatch h) (fun _ => sxs_nil))
  | false =>
    refine ⟨.xc cb [.bor (.tree m (dP ts)), .bor (.lst (dI marks))], by simp only [resB, hk]; rfl, ?_⟩
    exact sxs_one (sx_if (x := true) (pt_to (pt_c (cm_neD hr.units (pl_x (pl_sortI (ns := marks) bt.sorted (px_name 1))) (pl_x (pl_listR1 (n := m) rfl bt.list bt.range (px_many TT.cl TT.nM (px_name 0)) ⟨by omega, by omega⟩)) (okD_ints _).cmp (okD_ints _).cmp)) (by rw [eqD_ints]; show (!isMk m marks) = _; rw [hk]; rfl)) (fun _ => sxs_one (sx_raise takesX EB rfl)) (fun h => nomatch h))

def R_along : List D → Res → Prop := fun ds r => ∃ (m : Int) (ts : List (Int × Int)) (marks : List Int), ds = [.tree m (dP ts), .lst (dI marks)] ∧ (∀ t ∈ ts, inPl m t) ∧ m ≤ marks.length ∧ ts.length ≤ 1000 ∧ r = .ret (.lst (dI (alongM ts marks)))
theorem k_along (T : FunT K mg "along" s_along ["tree", "marks"]) (bt : Bt mg) (TT : TreeT K C) : Kn P w K mg base CX0 1 "along" ["tree", "marks"] (spN K C R_along) := by
  refine knN T sc_along (fun ds r ⟨_, _, _, h, _⟩ => by rw [h]; rfl) (fun ds c ⟨_, _, _, _, _, _, _, h⟩ => nomatch h) (fun f cdv A outer s H ds r hr hR => ?_)
  obtain ⟨m, ts, marks, rfl, hp, hl, hz, rfl⟩ := hR
  refine ⟨.rt _, rfl, ?_⟩
  refine sxs_one (sx_ret (px_to (pl_x (pl_lc ts pr (fun _ => true) (fun t => .int (dAt marks t)) (ds := dP ts) rfl rfl sc_along.nd (own := [("one", 2), ("two", 3)]) (pi_l false (px_ties TT.cl TT.nT (px_name 0))) (blkOk_by (N := n_along) (sc := defScope s_along) (by decide +kernel)) (tg_pair 2 3) (fun _ _ _ _ _ => pg_tup rfl (pgs_cons (pg_name (i := 2) sc_along.nd rfl (.inl rfl)) (pgs_cons (pg_name (i := 3) sc_along.nd rfl (.inl rfl)) pgs_nil))) (fun _ _ => ⟨_, _, rfl⟩) (by decide) (by rfl) (by omega)
    (fun x hx _ _ _ _ _ => ptss_nil) (fun x hx hf _ _ _ _ _ => ?_))) ?_))
  · have := hp x hx
    unfold inPl at this
    exact px_abs bt.abs (px_subt (px_iAt (ns := marks) (i := x.1) (px_name 1) (px_name 2) (by omega) (by omega)) (px_iAt (ns := marks) (i := x.2) (px_name 1) (px_name 3) (by omega) (by omega)))
  · rw [List.filter_eq_self.mpr fun _ _ => rfl]
    unfold alongM dI
    rw [List.map_map]; rfl
abbrev R_differences (cb : Addr) := R_tm fun m ts marks => resB (isMk m marks) cb (.lst (dI (alongM ts marks)))
theorem k_differences {cb : Addr} (T : FunT K mg "differences" s_differences ["tree", "marks"]) (G1 : Kn P w K mg base (L2.CX P w) 1 "check_marks" ["tree", "marks"] (spN K C (R_check_marks cb))) (G2 : Kn P w K mg base CX0 1 "along" ["tree", "marks"] (spN K C R_along)) : Kn P w K mg base (L2.CX P w) 2 "differences" ["tree", "marks"] (spN K C (R_differences cb)) := by
  refine knX T sc_differences (fun ds r ⟨_, _, _, h, _⟩ => by rw [h]; rfl) (fun f cdv A outer s H E ds r hr hR => ?_)
  obtain ⟨m, ts, marks, rfl, h0, h1, hp, hz, rfl⟩ := hR
  cases hk : isMk m marks with
  | true =>
    refine ⟨.rt (.lst (dI (alongM ts marks))), by simp only [resB, hk]; rfl, ?_⟩
    refine sxs_cons (sx_drop (px_knx G1 hr (pas_cons (px_name 0) (pas_cons (px_name 1) pas_nil)) ⟨m, ts, marks, rfl, h0, h1, by rw [hk]; rfl⟩)) ?_
    exact sxs_one (sx_ret (px_kn G2 hr (pas_cons (px_name 0) (pas_cons (px_name 1) pas_nil)) ⟨m, ts, marks, rfl, hp, by rw [isMk_len hk h0]; exact Int.le_refl _, hz, rfl⟩))
  | false =>
    refine ⟨.xc cb [.bor (.tree m (dP ts)), .bor (.lst (dI marks))], by simp only [resB, hk]; rfl, ?_⟩
    exact sxs_exit (sx_dropX (px_knX takesX G1 hr (pas_cons (px_name 0) (pas_cons (px_name 1) pas_nil)) ⟨m, ts, marks, rfl, h0, h1, by rw [hk]; rfl⟩)) rfl
def R_all_unlike : List D → Res → Prop := fun ds r => ∃ ns : List Int, ds = [.lst (dI ns)] ∧ ns.length ≤ 4000 ∧ r = .ret (.bl (unl ns))
theorem k_all_unlike (T : FunT K mg "all_unlike" s_all_unlike ["numbers"]) (bt : Bt mg) : Kn P w K mg base CX0 1 "all_unlike" ["numbers"] (spN K C R_all_unlike) := by
  refine knN T sc_all_unlike (fun ds r ⟨_, h, _⟩ => by rw [h]; rfl) (fun ds c ⟨_, _, _, h⟩ => nomatch h) (fun f cdv A outer s H ds r hr hR => ?_)
  obtain ⟨ns, rfl, hz, rfl⟩ := hR
  refine ⟨.rt _, rfl, ?_⟩
  exact sxs_one (sx_ret (px_to (px_c (cm_eqI (px_lenSet (ns := ns) rfl bt.len bt.set (px_name 0) hz) (px_lenL bt.len (px_name 0)))) (by rw [List.length_map, ddp_unl])))
abbrev R_is_good (cb : Addr) := R_tm fun m ts marks => resB (isMk m marks) cb (.bl (unl (alongM ts marks)))
theorem k_is_good {cb : Addr} (T : FunT K mg "is_good" s_is_good ["tree", "marks"]) (G1 : Kn P w K mg base (L2.CX P w) 2 "differences" ["tree", "marks"] (spN K C (R_differences cb))) (G2 : Kn P w K mg base CX0 1 "all_unlike" ["numbers"] (spN K C R_all_unlike)) : Kn P w K mg base (L2.CX P w) 3 "is_good" ["tree", "marks"] (spN K C (R_is_good cb)) := by
  refine knX T sc_is_good (fun ds r ⟨_, _, _, h, _⟩ => by rw [h]; rfl) (fun f cdv A outer s H E ds r hr hR => ?_)
  obtain ⟨m, ts, marks, rfl, h0, h1, hp, hz, rfl⟩ := hR
  cases hk : isMk m marks with
  | true =>
    refine ⟨.rt (.bl (unl (alongM ts marks))), by simp only [resB, hk]; rfl, ?_⟩
    exact sxs_one (sx_ret (px_kn G2 hr (pas_cons (px_knx G1 hr (pas_cons (px_name 0) (pas_cons (px_name 1) pas_nil)) ⟨m, ts, marks, rfl, h0, h1, hp, hz, by show _ = resB (isMk m marks) cb _; rw [hk]; rfl⟩) pas_nil) ⟨alongM ts marks, rfl, by unfold alongM; rw [List.length_map]; omega, rfl⟩))
  | false =>
    refine ⟨.xc cb [.bor (.tree m (dP ts)), .bor (.lst (dI marks))], by simp only [resB, hk]; rfl, ?_⟩
    exact sxs_exit (sx_retX (px_argKn (px_knX takesX G1 hr (pas_cons (px_name 0) (pas_cons (px_name 1) pas_nil)) ⟨m, ts, marks, rfl, h0, h1, hp, hz, by show _ = resB (isMk m marks) cb _; rw [hk]; rfl⟩) G2 hr pass0)) rfl

abbrev R_check_good (cb cn : Addr) := R_tm fun m ts marks => resG (isMk m marks) (unl (alongM ts marks)) cb cn .non
theorem k_check_good {cb cn : Addr} (T : FunT K mg "check_good" s_check_good ["tree", "marks"]) (EN : ExcF K mg "NotGood" cn) (G1 : Kn P w K mg base (L2.CX P w) 3 "is_good" ["tree", "marks"] (spN K C (R_is_good cb))) : Kn P w K mg base (L2.CX P w) 4 "check_good" ["tree", "marks"] (spN K C (R_check_good cb cn)) := by
  refine knX T sc_check_good (fun ds r ⟨_, _, _, h, _⟩ => by rw [h]; rfl) (fun f cdv A outer s H E ds r hr hR => ?_)
  obtain ⟨m, ts, marks, rfl, h0, h1, hp, hz, rfl⟩ := hR
  cases hk : isMk m marks with
  | true =>
    have hRR : R_is_good cb [.tree m (dP ts), .lst (dI marks)] (.ret (.bl (unl (alongM ts marks)))) := ⟨m, ts, marks, rfl, h0, h1, hp, hz, by show _ = resB (isMk m marks) cb _; rw [hk]; rfl⟩
    cases hu : unl (alongM ts marks) with
    | true =>
      refine ⟨.nx [.bor (.tree m (dP ts)), .bor (.lst (dI marks))], by simp only [resG, hk, hu]; rfl, ?_⟩
      exact sxs_one (sx_if (x := false) (pt_to (pt_n (pt_e (px_knx G1 hr (pas_cons (px_name 0) (pas_cons (px_name 1) pas_nil)) hRR))) (by rw [hu]; rfl)) (fun h => nomatch h) (fun _ => sxs_nil))
    | false =>
      refine ⟨.xc cn [.bor (.tree m (dP ts)), .bor (.lst (dI marks))], by simp only [resG, hk, hu]; rfl, ?_⟩
      exact sxs_one (sx_if (x := true) (pt_to (pt_n (pt_e (px_knx G1 hr (pas_cons (px_name 0) (pas_cons (px_name 1) pas_nil)) hRR))) (by rw [hu]; rfl)) (fun _ => sxs_one (sx_raise takesX EN rfl)) (fun h => nomatch h))
  | false =>
    refine ⟨.xc cb [.bor (.tree m (dP ts)), .bor (.lst (dI marks))], by simp only [resG, hk]; rfl, ?_⟩
    exact sxs_exit (sx_ifnX (px_knX takesX G1 hr (pas_cons (px_name 0) (pas_cons (px_name 1) pas_nil)) ⟨m, ts, marks, rfl, h0, h1, hp, hz, by show _ = resB (isMk m marks) cb _; rw [hk]; rfl⟩)) rfl

def R_copy_at : List D → Res → Prop := fun ds r => ∃ (m : Int) (ts : List (Int × Int)) (marks : List Int) (sh : Int), ds = [.tree m (dP ts), .lst (dI marks), .int sh] ∧ 1 ≤ m ∧ m ≤ 1000 ∧ (∀ t ∈ ts, inPl m t) ∧ m ≤ marks.length ∧ ts.length ≤ 1000 ∧ r = .ret (.lst (dP (copyM m ts marks sh)))
theorem k_copy_at (T : FunT K mg "copy_at" s_copy_at ["tree", "marks", "shift"]) (bt : Bt mg) (TT : TreeT K C) : Kn P w K mg base CX0 1 "copy_at" ["tree", "marks", "shift"] (spN K C R_copy_at) := by
  refine knN T sc_copy_at (fun ds r ⟨_, _, _, _, h, _⟩ => by rw [h]; rfl) (fun ds c ⟨_, _, _, _, _, _, _, _, _, _, h⟩ => nomatch h) (fun f cdv A outer s H ds r hr hR => ?_)
  obtain ⟨m, ts, marks, sh, rfl, h1, h2, hp, hl, hz, rfl⟩ := hR
  refine ⟨.rt _, rfl, ?_⟩
  refine sxs_cons (sx_set true 3 (px_subt (px_mul px_int (px_many TT.cl TT.nM (px_name 0)) (.inl ⟨by decide, by omega⟩)) px_int) sc_copy_at.nd) ?_
  refine sxs_cons (sx_setL 4 (pl_lst pas_nil) sc_copy_at.nd) ?_
  refine sxs_cons (sx_for ow0 rfl (pi_l false (px_ties TT.cl TT.nT (px_name 0))) (pg_tup rfl (pgs_cons (pg_name (i := 5) sc_copy_at.nd rfl (.inl rfl)) (pgs_cons (pg_name (i := 6) sc_copy_at.nd rfl (.inl rfl)) pgs_nil))) (tg_pair 5 6)
    (fun i => [.bor (.tree m (dP ts)), .bor (.lst (dI marks)), .bor (.int sh), .dat (.int (2 * m - 1)), .own (dP ((ts.take i).map (cpT m marks sh))), .emp, .emp, .emp, .emp]) (by repeat (first | exact .nil | refine .cons (by first | exact .refl _ | exact .emp _ | exact .bor _ | exact .frz _ | exact .frb _ | exact .bvr _ _ | exact .rvr _ _) ?_)) (fun d hd => by
      obtain ⟨t, _, rfl⟩ := List.mem_map.mp hd
      exact ⟨_, _, rfl⟩) (fun i d hd => ?_)) ?_
  · obtain ⟨t, ht, rfl⟩ := map_at hd
    have hb := hp t (List.mem_of_getElem? ht)
    have hi := (List.getElem?_eq_some_iff.mp ht).1
    unfold inPl at hb
    refine sxs_cons (sx_set true 7 (px_mod (px_add (px_iAt (ns := marks) (i := t.1) (px_name 1) (px_name 5) (by omega) (by omega)) (px_name 2)) (px_name 3) (by omega)) sc_copy_at.nd) ?_
    refine sxs_cons (sx_set true 8 (px_mod (px_add (px_iAt (ns := marks) (i := t.2) (px_name 1) (px_name 6) (by omega) (by omega)) (px_name 2)) (px_name 3) (by omega)) sc_copy_at.nd) ?_
    refine sxs_one (sx_nxLe (sx_append 4 (px_tup (pas_cons (px_min rfl bt.min (px_name 7) (px_name 8)) (pas_cons (px_max rfl bt.max (px_name 7) (px_name 8)) pas_nil))) rfl (by rw [List.length_map, List.length_map, List.length_take]; omega)) ?_)
    have e : dP ((ts.take i).map (cpT m marks sh)) ++ [D.tup [.int (min ((iAt marks t.1 + sh) % (2 * m - 1)) ((iAt marks t.2 + sh) % (2 * m - 1))), .int (max ((iAt marks t.1 + sh) % (2 * m - 1)) ((iAt marks t.2 + sh) % (2 * m - 1)))]] = dP ((ts.take (i + 1)).map (cpT m marks sh)) := by
      rw [take_succ_get ht]
      unfold dP
      rw [List.map_append, List.map_append]; rfl
    rw [e]
    exact (by repeat (first | exact .nil | refine .cons (by first | exact .refl _ | exact .emp _ | exact .bor _ | exact .frz _ | exact .frb _ | exact .bvr _ _ | exact .rvr _ _) ?_))
  · rw [List.length_map, List.take_length]
    refine sxs_le (e1 := [.emp, .emp, .emp, .emp, .dat (.lst (dP (ts.map (cpT m marks sh)))), .emp, .emp, .emp, .emp]) (by repeat (first | exact .nil | refine .cons (by first | exact .refl _ | exact .emp _ | exact .bor _ | exact .frz _ | exact .frb _ | exact .bvr _ _ | exact .rvr _ _) ?_)) ?_
    exact sxs_one (sx_ret (pl_x (pl_sortP (ps := ts.map (cpT m marks sh)) bt.sorted (px_name 4))))
abbrev R_copies (cb cn : Addr) : List D → Res → Prop := fun ds r => ∃ (m : Int) (ts : List (Int × Int)) (marks : List Int), ds = [.tree m (dP ts), .lst (dI marks)] ∧ 1 ≤ m ∧ m ≤ 1000 ∧ (∀ t ∈ ts, inPl m t) ∧ ts.length ≤ 1000 ∧ r = resG (isMk m marks) (unl (alongM ts marks)) cb cn (.lst (dLP (copiesM m ts marks)))
theorem k_copies {cb cn : Addr} (T : FunT K mg "copies" s_copies ["tree", "marks"]) (bt : Bt mg) (TT : TreeT K C) (G1 : Kn P w K mg base (L2.CX P w) 4 "check_good" ["tree", "marks"] (spN K C (R_check_good cb cn))) (G2 : Kn P w K mg base CX0 1 "copy_at" ["tree", "marks", "shift"] (spN K C R_copy_at)) : Kn P w K mg base (L2.CX P w) 5 "copies" ["tree", "marks"] (spN K C (R_copies cb cn)) := by
  refine knX T sc_copies (fun ds r ⟨_, _, _, h, _⟩ => by rw [h]; rfl) (fun f cdv A outer s H E ds r hr hR => ?_)
  obtain ⟨m, ts, marks, rfl, h0, h1, hp, hz, rfl⟩ := hR
  by_cases hg : isMk m marks = true ∧ unl (alongM ts marks) = true
  · obtain ⟨hk, hu⟩ := hg
    refine ⟨.rt (.lst (dLP (copiesM m ts marks))), by simp only [resG, hk, hu]; rfl, ?_⟩
    have hl := isMk_len hk (by omega)
    refine sxs_cons (sx_drop (px_knx G1 hr (pas_cons (px_name 0) (pas_cons (px_name 1) pas_nil)) ⟨m, ts, marks, rfl, by omega, h1, hp, hz, by show _ = resG (isMk m marks) (unl (alongM ts marks)) cb cn _; rw [hk, hu]; rfl⟩)) ?_
    refine sxs_one (sx_ret (px_to (pl_x (pl_lc (rg (2 * m - 1)) D.int (fun _ => true) (fun sh => .lst (dP (copyM m ts marks sh))) (ds := dI (rg (2 * m - 1))) rfl rfl sc_copies.nd (own := [("shift", 2)]) (pi_r1 true bt.range (px_subt (px_mul px_int (px_many TT.cl TT.nM (px_name 0)) (.inl ⟨by decide, by omega⟩)) px_int) ⟨by omega, by omega⟩) (blkOk_by (N := n_copies) (sc := defScope s_copies) (by decide +kernel)) (tg_name 2) (fun _ _ _ _ _ => pg_name (i := 2) sc_copies.nd rfl (.inl rfl)) (fun _ _ => trivial) (by decide) (by rfl) (by rw [Mt.rg_len]; omega)
      (fun x hx _ _ _ _ _ => ptss_nil) (fun x hx hf _ _ _ _ _ => ?_))) ?_))
    · exact px_kn G2 hr (pas_cons (px_name 0) (pas_cons (px_name 1) (pas_cons (px_name 2) pas_nil))) ⟨m, ts, marks, x, rfl, h0, h1, hp, by omega, hz, rfl⟩
    · rw [List.filter_eq_self.mpr fun _ _ => rfl]
      unfold dLP copiesM
      rw [List.map_map]; rfl
  · have hcc : ∃ c, resG (isMk m marks) (unl (alongM ts marks)) cb cn .non = .exc c ∧ resG (isMk m marks) (unl (alongM ts marks)) cb cn (.lst (dLP (copiesM m ts marks))) = .exc c := by
      unfold resG
      cases hk : isMk m marks with
      | false => exact ⟨cb, rfl, rfl⟩
      | true =>
        cases hu : unl (alongM ts marks) with
        | false => exact ⟨cn, rfl, rfl⟩
        | true => exact absurd ⟨hk, hu⟩ hg
    obtain ⟨c, e1, e2⟩ := hcc
    refine ⟨.xc c [.bor (.tree m (dP ts)), .bor (.lst (dI marks)), .emp], by rw [e2]; rfl, ?_⟩
    exact sxs_exit (sx_dropX (px_knX takesX G1 hr (pas_cons (px_name 0) (pas_cons (px_name 1) pas_nil)) ⟨m, ts, marks, rfl, by omega, h1, hp, hz, e1.symm⟩)) rfl

def R_parts_at : List D → Res → Prop := fun ds r => ∃ (m : Int) (ts : List (Int × Int)) (marks : List Int) (n : Int), ds = [.tree m (dP ts), .lst (dI marks), .int n] ∧ (∀ t ∈ ts, inPl m t) ∧ m ≤ marks.length ∧ ts.length ≤ 1000 ∧ r = .ret (.bl (partsM ts marks n))
theorem k_parts_at (T : FunT K mg "parts_at" s_parts_at ["tree", "marks", "number"]) (bt : Bt mg) (TT : TreeT K C) : Kn P w K mg base CX0 1 "parts_at" ["tree", "marks", "number"] (spN K C R_parts_at) := by
  refine knN T sc_parts_at (fun ds r ⟨_, _, _, _, h, _⟩ => by rw [h]; rfl) (fun ds c ⟨_, _, _, _, _, _, _, _, h⟩ => nomatch h) (fun f cdv A outer s H ds r hr hR => ?_)
  obtain ⟨m, ts, marks, n, rfl, hp, hl, hz, rfl⟩ := hR
  refine ⟨.rt _, rfl, ?_⟩
  refine sxs_one (sx_ret (px_to (px_all (bs := ts.map (partsB marks n)) rfl bt.all (pl_x (pl_to (pl_lc ts pr (fun _ => true) (fun t => .bl (partsB marks n t)) (ds := dP ts) rfl rfl sc_parts_at.nd (own := [("one", 3), ("two", 4)]) (pi_l false (px_ties TT.cl TT.nT (px_name 0))) (blkOk_by (N := n_parts_at) (sc := defScope s_parts_at) (by decide +kernel)) (tg_pair 3 4) (fun _ _ _ _ _ => pg_tup rfl (pgs_cons (pg_name (i := 3) sc_parts_at.nd rfl (.inl rfl)) (pgs_cons (pg_name (i := 4) sc_parts_at.nd rfl (.inl rfl)) pgs_nil))) (fun _ _ => ⟨_, _, rfl⟩) (by decide) (by rfl) (by omega)
    (fun x hx _ _ _ _ _ => ptss_nil) (fun x hx hf _ _ _ _ _ => ?_)) ?_))) ?_))
  · have := hp x hx
    unfold inPl at this
    exact px_c (cm_neB (px_c (cm_le (px_iAt (ns := marks) (i := x.1) (px_name 1) (px_name 3) (by omega) (by omega)) (px_name 2))) (px_c (cm_le (px_iAt (ns := marks) (i := x.2) (px_name 1) (px_name 4) (by omega) (by omega)) (px_name 2))))
  · rw [List.filter_eq_self.mpr fun _ _ => rfl, List.map_map]; rfl
  · unfold partsM
    rw [List.all_map]; rfl
abbrev R_bound (cb cn : Addr) := R_tm fun m ts marks => resG (isMk m marks) (unl (alongM ts marks)) cb cn (encI (boundM m ts marks))
theorem k_bound {cb cn : Addr} (T : FunT K mg "bound" s_bound ["tree", "marks"]) (bt : Bt mg) (TT : TreeT K C) (G1 : Kn P w K mg base (L2.CX P w) 4 "check_good" ["tree", "marks"] (spN K C (R_check_good cb cn))) (G2 : Kn P w K mg base CX0 1 "parts_at" ["tree", "marks", "number"] (spN K C R_parts_at)) : Kn P w K mg base (L2.CX P w) 5 "bound" ["tree", "marks"] (spN K C (R_bound cb cn)) := by
  refine knX T sc_bound (fun ds r ⟨_, _, _, h, _⟩ => by rw [h]; rfl) (fun f cdv A outer s H E ds r hr hR => ?_)
  obtain ⟨m, ts, marks, rfl, h0, h1, hp, hz, rfl⟩ := hR
  by_cases hg : isMk m marks = true ∧ unl (alongM ts marks) = true
  · obtain ⟨hk, hu⟩ := hg
    refine ⟨.rt (encI (boundM m ts marks)), by simp only [resG, hk, hu]; rfl, ?_⟩
    have hl := isMk_len hk h0
    refine sxs_cons (sx_drop (px_knx G1 hr (pas_cons (px_name 0) (pas_cons (px_name 1) pas_nil)) ⟨m, ts, marks, rfl, h0, h1, hp, hz, by show _ = resG (isMk m marks) (unl (alongM ts marks)) cb cn _; rw [hk, hu]; rfl⟩)) ?_
    refine sxs_forF (bdF ts marks) (rg m) D.int () (fun _ => [.bor (.tree m (dP ts)), .bor (.lst (dI marks)), .emp]) (fun n => .rt (.int n)) (fun _ _ => True) rfl ownsX rfl (pi_r1 true bt.range (px_many TT.cl TT.nM (px_name 0)) ⟨by omega, by omega⟩) (pg_name (i := 2) sc_bound.nd rfl (.inl rfl)) (tg_name 2)
      trivial (by repeat (first | exact .nil | refine .cons (by first | exact .refl _ | exact .emp _ | exact .bor _ | exact .frz _ | exact .frb _ | exact .bvr _ _ | exact .rvr _ _) ?_)) (fun _ _ => trivial) (fun _ => rfl) (fun _ _ _ _ _ _ _ => trivial) (fun i x _ hx _ => ?_) (fun r e _ => ?_) (fun y e => ?_)
    · unfold bdF
      cases hq : partsM ts marks x with
      | true => exact sxs_exit (sx_if (x := true) (pt_to (pt_e (px_kn G2 hr (pas_cons (px_name 0) (pas_cons (px_name 1) (pas_cons (px_name 2) pas_nil))) ⟨m, ts, marks, x, rfl, hp, by omega, hz, rfl⟩)) hq) (fun _ => sxs_one (sx_ret (px_name 2))) (fun h => nomatch h)) rfl
      | false => exact sxs_one (sx_if (x := false) (pt_to (pt_e (px_kn G2 hr (pas_cons (px_name 0) (pas_cons (px_name 1) (pas_cons (px_name 2) pas_nil))) ⟨m, ts, marks, x, rfl, hp, by omega, hz, rfl⟩)) hq) (fun h => nomatch h) (fun _ => sxs_nilLe (by repeat (first | exact .nil | refine .cons (by first | exact .refl _ | exact .emp _ | exact .bor _ | exact .frz _ | exact .frb _ | exact .bvr _ _ | exact .rvr _ _) ?_))))
    · unfold boundM
      rw [e]
      exact sxs_one (sx_ret px_non)
    · unfold boundM
      rw [e]; rfl
  · have hcc : ∃ c, resG (isMk m marks) (unl (alongM ts marks)) cb cn .non = .exc c ∧ resG (isMk m marks) (unl (alongM ts marks)) cb cn (encI (boundM m ts marks)) = .exc c := by
      unfold resG
      cases hk : isMk m marks with
      | false => exact ⟨cb, rfl, rfl⟩
      | true =>
        cases hu : unl (alongM ts marks) with
        | false => exact ⟨cn, rfl, rfl⟩
        | true => exact absurd ⟨hk, hu⟩ hg
    obtain ⟨c, e1, e2⟩ := hcc
    refine ⟨.xc c [.bor (.tree m (dP ts)), .bor (.lst (dI marks)), .emp], by rw [show (fun m ts marks => resG (isMk m marks) (unl (alongM ts marks)) cb cn (encI (boundM m ts marks))) m ts marks = _ from e2]; rfl, ?_⟩
    exact sxs_exit (sx_dropX (px_knX takesX G1 hr (pas_cons (px_name 0) (pas_cons (px_name 1) pas_nil)) ⟨m, ts, marks, rfl, h0, h1, hp, hz, e1.symm⟩)) rfl

def R_joined (cb cn cu : Addr) : List D → Res → Prop := fun ds r => ∃ (m : Int) (ts : List (Int × Int)) (mk : List Int) (m2 : Int) (ts2 : List (Int × Int)) (more : List Int), ds = [.tree m (dP ts), .lst (dI mk), .tree m2 (dP ts2), .lst (dI more)] ∧ TreeOk m ts ∧ TreeOk m2 ts2 ∧ m + m2 ≤ 12 ∧ r = joinRes cb cn cu m ts mk m2 ts2 more
theorem k_joined {cb cn cu ct : Addr} {ok2 : Int → List D → Prop} (T : FunT K mg "joined" s_joined ["tree", "marks", "other", "more"]) (bt : Bt mg) (TT : TreeT K C) (EU : ExcF K mg "NoBound" cu) (G1 : Kn P w K mg base (L2.CX P w) 5 "bound" ["tree", "marks"] (spN K C (R_bound cb cn))) (G2 : Kn P w K mg base (L2.CX P w) 4 "check_good" ["tree", "marks"] (spN K C (R_check_good cb cn))) (G3 : KnTree P w K mg base 2 C ct ok2) : Kn P w K mg base (L2.CX P w) 6 "joined" ["tree", "marks", "other", "more"] (spP K C (R_joined cb cn cu)) := by
  refine knXP T sc_joined (fun ds r ⟨_, _, _, _, _, _, h, _⟩ => by rw [h]; rfl) (fun f cdv A outer s H E ds r hr hR => ?_)
  obtain ⟨m, ts, mk, m2, ts2, more, rfl, hT, hT2, h12, rfl⟩ := hR
  have t1 := hT.lo
  have t2 := hT2.lo
  have t3 := hT.len
  have t4 := hT2.len
  have hR1 : ∀ r, r = resG (isMk m mk) (unl (alongM ts mk)) cb cn (encI (boundM m ts mk)) → R_bound cb cn [.tree m (dP ts), .lst (dI mk)] r := fun r e => ⟨m, ts, mk, rfl, by omega, by omega, hT.inP, by omega, e⟩
  have hR2 : ∀ r, r = resG (isMk m2 more) (unl (alongM ts2 more)) cb cn .non → R_check_good cb cn [.tree m2 (dP ts2), .lst (dI more)] r := fun r e => ⟨m2, ts2, more, rfl, by omega, by omega, hT2.inP, by omega, e⟩
  cases hk : isMk m mk with
  | false =>
    refine ⟨.xc cb [.dat (.tree m (dP ts)), .bor (.lst (dI mk)), .dat (.tree m2 (dP ts2)), .bor (.lst (dI more)), .emp, .emp, .emp, .emp, .emp, .emp, .emp, .emp], by unfold joinRes; rw [hk]; rfl, ?_⟩
    exact sxs_exit (sx_setX (i := 4) (px_knX takesX G1 hr (pas_cons (px_name 0) (pas_cons (px_name 1) pas_nil)) (hR1 _ (by rw [hk]; rfl))) sc_joined.nd rfl) rfl
  | true =>
    cases hu : unl (alongM ts mk) with
    | false =>
      refine ⟨.xc cn [.dat (.tree m (dP ts)), .bor (.lst (dI mk)), .dat (.tree m2 (dP ts2)), .bor (.lst (dI more)), .emp, .emp, .emp, .emp, .emp, .emp, .emp, .emp], by unfold joinRes; rw [hk, hu]; rfl, ?_⟩
      exact sxs_exit (sx_setX (i := 4) (px_knX takesX G1 hr (pas_cons (px_name 0) (pas_cons (px_name 1) pas_nil)) (hR1 _ (by rw [hk, hu]; rfl))) sc_joined.nd rfl) rfl
    | true =>
      have k1 := isMk_marks.mp hk
      have l1 := isMk_len hk (by omega)
      cases hbm : boundM m ts mk with
      | inl u =>
        refine ⟨.xc cu [.dat (.tree m (dP ts)), .bor (.lst (dI mk)), .dat (.tree m2 (dP ts2)), .bor (.lst (dI more)), .dat .non, .emp, .emp, .emp, .emp, .emp, .emp, .emp], by unfold joinRes; rw [hk, hu, hbm]; rfl, ?_⟩
        refine sxs_cons (sx_set true 4 (px_knx (d := .non) G1 hr (pas_cons (px_name 0) (pas_cons (px_name 1) pas_nil)) (hR1 _ (by rw [hk, hu, hbm]; rfl))) sc_joined.nd) ?_
        exact sxs_exit (sx_if (x := true) (pt_to (pt_c (cm_isN (px_name 4))) rfl) (fun _ => sxs_one (sx_raise takesX EU rfl)) (fun h => nomatch h)) rfl
      | inr b =>
        obtain ⟨b0, b1, hpm⟩ := bound_parts hbm
        have pre : ∀ o, SXs (cxX P w K mg base n_joined "joined" (defScope s_joined) f cdv A outer s H E) C (fun _ => E) ((defBody s_joined).drop 2) [.dat (.tree m (dP ts)), .bor (.lst (dI mk)), .dat (.tree m2 (dP ts2)), .bor (.lst (dI more)), .dat (.int b), .emp, .emp, .emp, .emp, .emp, .emp, .emp] o → SXs (cxX P w K mg base n_joined "joined" (defScope s_joined) f cdv A outer s H E) C (fun _ => E) (defBody s_joined) [.dat (.tree m (dP ts)), .bor (.lst (dI mk)), .dat (.tree m2 (dP ts2)), .bor (.lst (dI more)), .emp, .emp, .emp, .emp, .emp, .emp, .emp, .emp] o := fun o h => by
          refine sxs_cons (sx_set true 4 (px_knx (d := .int b) G1 hr (pas_cons (px_name 0) (pas_cons (px_name 1) pas_nil)) (hR1 _ (by rw [hk, hu, hbm]; rfl))) sc_joined.nd) ?_
          exact sxs_cons (sx_if (x := false) (pt_to (pt_c (cm_isN (px_name 4))) rfl) (fun h => nomatch h) (fun _ => sxs_nil)) h
        by_cases hg : isMk m2 more = true ∧ unl (alongM ts2 more) = true
        · obtain ⟨hk2, hu2⟩ := hg
          have k2 := isMk_marks.mp hk2
          have l2 := isMk_len hk2 (by omega)
          have p1 := posI_spec k1 b0 b1
          have p2 := posI_spec k2 (x := m2 - 1) (by omega) (by omega)
          refine ⟨.rt (joinD m ts mk m2 ts2 more b), by unfold joinRes joinO resG; rw [hk, hu, hbm]; simp only [hk2, hu2]; rfl, pre _ ?_⟩
          refine sxs_cons (sx_drop (px_knx G2 hr (pas_cons (px_name 2) (pas_cons (px_name 3) pas_nil)) (hR2 _ (by rw [hk2, hu2]; rfl)))) ?_
          refine sxs_cons (sx_set true 5 (px_index (ns := mk) (k := b) (px_name 1) (px_name 4) p1.2.2.2.1 p1.2.2.2.2) sc_joined.nd) ?_
          refine sxs_cons (sx_set true 6 (px_add (px_many TT.cl TT.nM (px_name 0)) (px_index (ns := more) (k := m2 - 1) (px_name 3) (px_subt (px_many TT.cl TT.nM (px_name 2)) px_int) p2.2.2.2.1 p2.2.2.2.2)) sc_joined.nd) ?_
          refine sxs_cons (e1 := [.dat (.tree m (dP ts)), .bor (.lst (dI mk)), .dat (.tree m2 (dP ts2)), .bor (.lst (dI more)), .dat (.int b), .emp, .emp, .dat (.lst (dP (ts ++ [(posI mk b, m + posI more (m2 - 1))]))), .emp, .emp, .emp, .emp]) (sx_nxLe (sx_setL 7 (pl_to (pl_cat (xs := dP ts) (ys := [.tup [.int (posI mk b), .int (m + posI more (m2 - 1))]]) (pl_x (pl_list bt.list (px_ties TT.cl TT.nT (px_name 0)))) (pl_x (pl_lst (pas_cons (px_tup (pas_cons (px_name 5) (pas_cons (px_name 6) pas_nil))) pas_nil))) (by rw [List.length_map, List.length_singleton]; omega)) (show _ = dP (ts ++ [(posI mk b, m + posI more (m2 - 1))]) by unfold dP; rw [List.map_append]; rfl)) sc_joined.nd) (by repeat (first | exact .nil | refine .cons (by first | exact .refl _ | exact .emp _ | exact .bor _ | exact .frz _ | exact .frb _ | exact .bvr _ _ | exact .rvr _ _) ?_))) ?_
          refine sxs_cons (e1 := [.dat (.tree m (dP ts)), .bor (.lst (dI mk)), .dat (.tree m2 (dP ts2)), .bor (.lst (dI more)), .dat (.int b), .emp, .emp, .dat (.lst (dP (joinR m ts mk m2 ts2 more b))), .emp, .emp, .emp, .emp]) (sx_nxLe (sx_setL 7 (pl_to (pl_cat (px_name 7) (pl_x (pl_lc ts2 pr (fun _ => true) (fun t => pr (shT m t)) (ds := dP ts2) rfl rfl sc_joined.nd (own := [("one", 9), ("two", 10)]) (pi_l false (px_ties TT.cl TT.nT (px_name 2))) (blkOk_by (N := n_joined) (sc := defScope s_joined) (by decide +kernel)) (tg_pair 9 10) (fun _ _ _ _ _ => pg_tup rfl (pgs_cons (pg_name (i := 9) sc_joined.nd rfl (.inl rfl)) (pgs_cons (pg_name (i := 10) sc_joined.nd rfl (.inl rfl)) pgs_nil))) (fun _ _ => ⟨_, _, rfl⟩) (by decide) (by rfl) (by omega)
            (fun x hx _ _ _ _ _ => ptss_nil) (fun x hx hf _ _ _ _ _ => px_tup (ds := [.int (x.1 + m), .int (x.2 + m)]) (pas_cons (px_add (px_name 9) (px_many TT.cl TT.nM (px_name 0))) (pas_cons (px_add (px_name 10) (px_many TT.cl TT.nM (px_name 0))) pas_nil))))) ?_) (show _ = dP (joinR m ts mk m2 ts2 more b) by rw [List.filter_eq_self.mpr fun _ _ => rfl]; unfold joinR dP; rw [List.map_append (l₁ := ts ++ [(posI mk b, m + posI more (m2 - 1))]), List.map_map]; rfl)) sc_joined.nd) (by repeat (first | exact .nil | refine .cons (by first | exact .refl _ | exact .emp _ | exact .bor _ | exact .frz _ | exact .frb _ | exact .bvr _ _ | exact .rvr _ _) ?_))) ?_
          · rw [List.filter_eq_self.mpr fun _ _ => rfl, List.length_map, List.length_map, List.length_append, List.length_singleton]; omega
          refine sxs_cons (e1 := [.dat (.tree m (dP ts)), .bor (.lst (dI mk)), .dat (.tree m2 (dP ts2)), .bor (.lst (dI more)), .dat (.int b), .emp, .emp, .dat (.lst (dP (joinR m ts mk m2 ts2 more b))), .dat (.lst (dI (mk.map fun x => if x ≤ b then x else x + m2))), .emp, .emp, .emp]) (sx_nxLe (sx_setLc mk D.int (fun _ => true) (fun x => .int (if x ≤ b then x else x + m2)) (ds := dI mk) rfl (own := [("mark", 11)]) (i := 8) rfl sc_joined.nd rfl rfl rfl rfl (pi_l false (px_name 1)) (blkOk_by (N := n_joined) (sc := defScope s_joined) (by decide +kernel)) (tg_name 11) (fun _ _ _ _ _ => pg_name (i := 11) sc_joined.nd rfl (.inl rfl)) (fun _ _ => trivial) (by decide) (by rfl) (by omega)
            (fun x hx _ _ _ _ _ => ptss_nil) (fun x hx hf _ _ _ _ _ => ?_)) ?_) ?_
          · by_cases c : x ≤ b
            · rw [if_pos c]
              exact px_if (x := true) (pt_to (pt_c (cm_le (px_name 11) (px_name 4))) (decide_eq_true c)) (fun _ => px_name 11) (fun h => nomatch h)
            · rw [if_neg c]
              exact px_if (x := false) (pt_to (pt_c (cm_le (px_name 11) (px_name 4))) (decide_eq_false c)) (fun h => nomatch h) (fun _ => px_add (px_name 11) (px_many TT.cl TT.nM (px_name 2)))
          · rw [List.filter_eq_self.mpr fun _ _ => rfl, show (mk.map fun x => D.int (if x ≤ b then x else x + m2)) = dI (mk.map fun x => if x ≤ b then x else x + m2) by unfold dI; rw [List.map_map]; rfl]
            exact (by repeat (first | exact .nil | refine .cons (by first | exact .refl _ | exact .emp _ | exact .bor _ | exact .frz _ | exact .frb _ | exact .bvr _ _ | exact .rvr _ _) ?_))
          refine sxs_cons (e1 := [.dat (.tree m (dP ts)), .bor (.lst (dI mk)), .dat (.tree m2 (dP ts2)), .bor (.lst (dI more)), .dat (.int b), .emp, .emp, .dat (.lst (dP (joinR m ts mk m2 ts2 more b))), .dat (.lst (dI (joinK m2 mk more b))), .emp, .emp, .emp]) (sx_nxLe (sx_setL 8 (pl_to (pl_cat (px_name 8) (pl_x (pl_lc more D.int (fun _ => true) (fun x => .int (x + b + 1)) (ds := dI more) rfl rfl sc_joined.nd (own := [("mark", 11)]) (pi_l false (px_name 3)) (blkOk_by (N := n_joined) (sc := defScope s_joined) (by decide +kernel)) (tg_name 11) (fun _ _ _ _ _ => pg_name (i := 11) sc_joined.nd rfl (.inl rfl)) (fun _ _ => trivial) (by decide) (by rfl) (by omega)
            (fun x hx _ _ _ _ _ => ptss_nil) (fun x hx hf _ _ _ _ _ => px_add (px_add (px_name 11) (px_name 4)) px_int))) ?_) (show _ = dI (joinK m2 mk more b) by rw [List.filter_eq_self.mpr fun _ _ => rfl]; unfold joinK dI; rw [List.map_append, List.map_map, List.map_map]; rfl)) sc_joined.nd) (by repeat (first | exact .nil | refine .cons (by first | exact .refl _ | exact .emp _ | exact .bor _ | exact .frz _ | exact .frb _ | exact .bvr _ _ | exact .rvr _ _) ?_))) ?_
          · rw [List.filter_eq_self.mpr fun _ _ => rfl, List.length_map, List.length_map, List.length_map]; omega
          refine sxs_one (sx_ret (px_tup (ds := [.tree (m + m2) (dP (sortP (joinR m ts mk m2 ts2 more b))), .lst (dI (joinK m2 mk more b))]) (pas_cons (px_mkT G3 hr (px_add (px_many TT.cl TT.nM (px_name 0)) (px_many TT.cl TT.nM (px_name 2))) (pl_x (pl_sortP bt.sorted (px_name 7))) (joined_tree hT hT2 k1 k2 b0 b1 h12)) (pas_cons (px_name 8) pas_nil))))
        · have hcc : ∃ c, resG (isMk m2 more) (unl (alongM ts2 more)) cb cn .non = .exc c ∧ resG (isMk m2 more) (unl (alongM ts2 more)) cb cn (joinD m ts mk m2 ts2 more b) = .exc c := by
            unfold resG
            cases hk2 : isMk m2 more with
            | false => exact ⟨cb, rfl, rfl⟩
            | true =>
              cases hu2 : unl (alongM ts2 more) with
              | false => exact ⟨cn, rfl, rfl⟩
              | true => exact absurd ⟨hk2, hu2⟩ hg
          obtain ⟨c, e1, e2⟩ := hcc
          refine ⟨.xc c [.dat (.tree m (dP ts)), .bor (.lst (dI mk)), .dat (.tree m2 (dP ts2)), .bor (.lst (dI more)), .dat (.int b), .emp, .emp, .emp, .emp, .emp, .emp, .emp], by unfold joinRes joinO; rw [hk, hu, hbm]; simp only [if_true]; rw [e2]; rfl, pre _ ?_⟩
          exact sxs_exit (sx_dropX (px_knX takesX G2 hr (pas_cons (px_name 2) (pas_cons (px_name 3) pas_nil)) (hR2 _ e1.symm))) rfl

def encO : List Int ⊕ Unit → D
  | .inl l => .lst (dI l)
  | .inr _ => .non
def R_fits : List D → Res → Prop := fun ds r => ∃ (m : Int) (ts : List (Int × Int)) (marks diffs : List Int) (mark : Int), ds = [.tree m (dP ts), .lst (dI marks), .lst (dI diffs), .int mark] ∧ Bd m ts ∧ diffs.length + ts.length ≤ 100000 ∧ r = .ret (encO (fitsM ts marks diffs mark))
theorem k_fits (T : FunT K mg "fits" s_fits ["tree", "marks", "differences", "mark"]) (bt : Bt mg) (TT : TreeT K C) : Kn P w K mg base CX0 1 "fits" ["tree", "marks", "differences", "mark"] (spN K C R_fits) := by
  refine knN T sc_fits (fun ds r ⟨_, _, _, _, _, h, _⟩ => by rw [h]; rfl) (fun ds c ⟨_, _, _, _, _, _, _, _, h⟩ => nomatch h) (fun f cdv A outer s H ds r hr hR => ?_)
  obtain ⟨m, ts, marks, diffs, mark, rfl, hb, hz, rfl⟩ := hR
  refine ⟨.rt _, rfl, ?_⟩
  refine sxs_cons (sx_set true 4 (px_lenL bt.len (px_name 1)) sc_fits.nd) ?_
  refine sxs_cons (sx_setL 5 (pl_listI bt.list (px_name 2)) sc_fits.nd) ?_
  refine sxs_forE (fitF marks mark) ts pr diffs (fun fo => [.bor (.tree m (dP ts)), .bor (.lst (dI marks)), .bor (.lst (dI diffs)), .bor (.int mark), .dat (.int ((dI marks).length : Nat)), .own (dI fo), .emp, .emp, .emp]) (fun _ => .rt .non) (fun i fo => fo.length ≤ diffs.length + i) rfl ow0 rfl (pi_l false (px_ties TT.cl TT.nT (px_name 0))) (pg_tup rfl (pgs_cons (pg_name (i := 6) sc_fits.nd rfl (.inl rfl)) (pgs_cons (pg_name (i := 7) sc_fits.nd rfl (.inl rfl)) pgs_nil))) (tg_pair 6 7)
    (Nat.le_refl _) (by repeat (first | exact .nil | refine .cons (by first | exact .refl _ | exact .emp _ | exact .bor _ | exact .frz _ | exact .frb _ | exact .bvr _ _ | exact .rvr _ _) ?_)) (fun a _ => ⟨_, _, rfl⟩) (fun _ => rfl) (fun i t fo ht hI => ?_) (fun r e _ => ?_) (fun x e => ?_)
  · have hi := (List.getElem?_eq_some_iff.mp ht).1
    have bt1 := hb t (List.mem_of_getElem? ht)
    have hl : ((dI marks).length : Int) = marks.length := by rw [List.length_map]
    rw [hl]
    by_cases c : t.2 = (marks.length : Int)
    · by_cases c2 : fo.contains (newAt marks mark t) = true
      · refine ⟨fun s' h => ?_, fun x h => ?_⟩
        · unfold fitF at h; rw [if_pos c, if_pos c2] at h; cases h
        · refine sxs_one (sx_if (x := true) (pt_to (pt_c (cm_eqI (px_name 7) (px_name 4))) (decide_eq_true c)) (fun _ => ?_) (fun h => nomatch h))
          refine sxs_cons (sx_set true 8 (px_abs bt.abs (px_subt (px_iAt (ns := marks) (i := t.1) (px_name 1) (px_name 6) (by omega) (by omega)) (px_name 3))) sc_fits.nd) ?_
          exact sxs_exit (sx_if (x := true) (pt_to (pt_c (cm_inI (ns := fo) (by rfl) (px_name 8) (px_name 5))) c2) (fun _ => sxs_one (sx_ret px_non)) (fun h => nomatch h)) rfl
      · have c3 : fo.contains (newAt marks mark t) = false := by cases q : fo.contains (newAt marks mark t) with
          | false => rfl
          | true => exact absurd q c2
        refine ⟨fun s' h => ?_, fun x h => ?_⟩
        · unfold fitF at h
          rw [if_pos c, if_neg c2] at h
          injection h with h
          subst h
          refine ⟨by rw [List.length_append, List.length_singleton]; omega, ?_⟩
          refine sxs_one (sx_if (x := true) (pt_to (pt_c (cm_eqI (px_name 7) (px_name 4))) (decide_eq_true c)) (fun _ => ?_) (fun h => nomatch h))
          refine sxs_cons (sx_set true 8 (px_abs bt.abs (px_subt (px_iAt (ns := marks) (i := t.1) (px_name 1) (px_name 6) (by omega) (by omega)) (px_name 3))) sc_fits.nd) ?_
          refine sxs_cons (sx_if (x := false) (pt_to (pt_c (cm_inI (ns := fo) (by rfl) (px_name 8) (px_name 5))) c3) (fun h => nomatch h) (fun _ => sxs_nil)) ?_
          refine sxs_one (sx_nxLe (sx_append 5 (px_name 8) (ds := dI fo) rfl (by rw [List.length_map]; omega)) ?_)
          rw [show dI fo ++ [D.int ((iAt marks t.1 - mark).natAbs : Nat)] = dI (fo ++ [newAt marks mark t]) by unfold dI; rw [List.map_append]; rfl]
          exact (by repeat (first | exact .nil | refine .cons (by first | exact .refl _ | exact .emp _ | exact .bor _ | exact .frz _ | exact .frb _ | exact .bvr _ _ | exact .rvr _ _) ?_))
        · unfold fitF at h; rw [if_pos c, if_neg c2] at h; cases h
    · refine ⟨fun s' h => ?_, fun x h => ?_⟩
      · unfold fitF at h; rw [if_neg c] at h; injection h with h; subst h
        exact ⟨by omega, sxs_one (sx_if (x := false) (pt_to (pt_c (cm_eqI (px_name 7) (px_name 4))) (decide_eq_false c)) (fun h => nomatch h) (fun _ => sxs_nilLe (by repeat (first | exact .nil | refine .cons (by first | exact .refl _ | exact .emp _ | exact .bor _ | exact .frz _ | exact .frb _ | exact .bvr _ _ | exact .rvr _ _) ?_))))⟩
      · unfold fitF at h; rw [if_neg c] at h; cases h
  · unfold fitsM
    rw [e]
    exact sxs_one (sx_ret (px_name 5))
  · unfold fitsM
    rw [e]; rfl
def R_srch (N : Nat) : List D → Res → Prop := fun ds r => ∃ (m : Int) (ts : List (Int × Int)) (marks diffs : List Int) (first : Bool) (n : Nat), ds = [.tree m (dP ts), .lst (dI marks), .lst (dI diffs), .bl first] ∧ n ≤ N ∧ (marks.length : Int) + n = m ∧ Bd m ts ∧ m ≤ 1000 ∧ diffs.length + (n + 1) * ts.length ≤ 100000 ∧ lenB first m n ≤ 1000000 ∧ r = .ret (.lst (dL (srch m ts first n marks diffs)))
theorem lenB_le {first : Bool} {m : Int} {n : Nat} (h : 1 ≤ m) : lenB first m n ≤ lenB first m (n + 1) := by
  unfold lenB
  split
  · exact Nat.le_refl _
  · exact Nat.pow_le_pow_right (by omega) (Nat.le_succ n)
theorem k_srch1 (N : Nat) (T : FunT K mg "searched" s_searched ["tree", "marks", "differences", "first"]) (bt : Bt mg) (TT : TreeT K C) (G : Kn P w K mg base CX0 1 "fits" ["tree", "marks", "differences", "mark"] (spN K C R_fits))
    (G2 : N = 0 ∨ ∃ M, N = M + 1 ∧ Kn P w K mg base CX0 (N + 1) "searched" ["tree", "marks", "differences", "first"] (spN K C (R_srch M))) : Kn P w K mg base CX0 (N + 2) "searched" ["tree", "marks", "differences", "first"] (spN K C (R_srch N)) := by
  refine knN T sc_searched (fun ds r ⟨_, _, _, _, _, _, h, _⟩ => by rw [h]; rfl) (fun ds c ⟨_, _, _, _, _, _, _, _, _, _, _, _, _, h⟩ => nomatch h) (fun f cdv A outer s H ds r hr hR => ?_)
  obtain ⟨m, ts, marks, diffs, first, n, rfl, hn, hm, hb, hm2, hz, hL, rfl⟩ := hR
  refine ⟨.rt _, rfl, ?_⟩
  have hl : ((dI marks).length : Int) = marks.length := by rw [List.length_map]
  cases n with
  | zero =>
    refine sxs_exit (sx_if (x := true) (pt_to (pt_c (cm_eqI (px_lenL bt.len (px_name 1)) (px_many TT.cl TT.nM (px_name 0)))) (decide_eq_true (by rw [hl]; omega))) (fun _ => ?_) (fun h => nomatch h)) rfl
    exact sxs_one (sx_ret (pl_x (pl_lst (ds := [.lst (dI marks)]) (pas_cons (pl_x (pl_listI bt.list (px_name 1))) pas_nil))))
  | succ n =>
    obtain ⟨M, rfl, G2⟩ := G2.resolve_left (by omega)
    refine sxs_cons (sx_if (x := false) (pt_to (pt_c (cm_eqI (px_lenL bt.len (px_name 1)) (px_many TT.cl TT.nM (px_name 0)))) (decide_eq_false (by rw [hl]; omega))) (fun h => nomatch h) (fun _ => sxs_nil)) ?_
    refine sxs_cons (sx_setL 4 (pl_lst pas_nil) sc_searched.nd) ?_
    have m1 : 1 ≤ m := by omega
    refine sxs_forE (srF ts first marks diffs (srch m ts first n)) (rg m) D.int [] (fun fo => [.bor (.tree m (dP ts)), .bor (.lst (dI marks)), .bor (.lst (dI diffs)), .bor (.bl first), .dat (.lst (dL fo)), .emp, .emp]) (fun x => .rt (.lst (dL x))) (fun i fo => fo.length ≤ i * lenB first m n ∧ (first = true → fo = [])) rfl ow0 rfl (pi_r1 true bt.range (px_many TT.cl TT.nM (px_name 0)) ⟨by omega, by omega⟩) (pg_name (i := 5) sc_searched.nd rfl (.inl rfl)) (tg_name 5)
      ⟨by simp, fun _ => rfl⟩ (by repeat (first | exact .nil | refine .cons (by first | exact .refl _ | exact .emp _ | exact .bor _ | exact .frz _ | exact .frb _ | exact .bvr _ _ | exact .rvr _ _) ?_)) (fun _ _ => trivial) (fun _ => rfl) (fun i x fo hx hI => ?_) (fun r e _ => ?_) (fun y e => ?_)
    · have hi := (List.getElem?_eq_some_iff.mp hx).1
      rw [Mt.rg_len] at hi
      have rl := srch_len (m := m) (ts := ts) (first := first) n
      have stp := fun s' h => srF_inl (ts := ts) (first := first) (marks := marks) (ds := diffs) rl (found := fo) (found' := s') (mark := x) h
      have inv : ∀ s', srF ts first marks diffs (srch m ts first n) fo x = .inl s' → (s'.length ≤ (i + 1) * lenB first m n ∧ (first = true → s' = [])) := fun s' h => by
        have := stp s' h
        exact ⟨by rw [Nat.succ_mul]; omega, fun z => this.2 z (hI.2 z)⟩
      by_cases c : marks.contains x = true
      · refine ⟨fun s' h => ⟨inv s' h, ?_⟩, fun y h => ?_⟩
        · unfold srF at h; rw [if_pos c] at h; injection h with h; subst h
          exact sxs_one (sx_if (x := false) (pt_to (pt_c (cm_notInI (ns := marks) (by rfl) (px_name 5) (px_name 1))) (by rw [c]; rfl)) (fun h => nomatch h) (fun _ => sxs_nilLe (by repeat (first | exact .nil | refine .cons (by first | exact .refl _ | exact .emp _ | exact .bor _ | exact .frz _ | exact .frb _ | exact .bvr _ _ | exact .rvr _ _) ?_))))
        · unfold srF at h; rw [if_pos c] at h; cases h
      · have c' : marks.contains x = false := by cases q : marks.contains x with
          | false => rfl
          | true => exact absurd q c
        have fz : diffs.length + ts.length ≤ 100000 := by
          have : ts.length ≤ (n + 1 + 1) * ts.length := Nat.le_mul_of_pos_left _ (by omega)
          omega
        cases hf : fitsM ts marks diffs x with
        | inr z =>
          refine ⟨fun s' h => ⟨inv s' h, ?_⟩, fun y h => ?_⟩
          · unfold srF at h; rw [if_neg c, hf] at h; injection h with h; subst h
            refine sxs_one (sx_if (x := true) (pt_to (pt_c (cm_notInI (ns := marks) (by rfl) (px_name 5) (px_name 1))) (by rw [c']; rfl)) (fun _ => ?_) (fun h => nomatch h))
            refine sxs_cons (sx_set true 6 (px_to (px_kn G hr (pas_cons (px_name 0) (pas_cons (px_name 1) (pas_cons (px_name 2) (pas_cons (px_name 5) pas_nil)))) ⟨m, ts, marks, diffs, x, rfl, hb, fz, rfl⟩ (by omega)) (congrArg encO hf)) sc_searched.nd) ?_
            exact sxs_one (sx_if (x := false) (pt_to (pt_c (cm_notN (px_name 6))) rfl) (fun h => nomatch h) (fun _ => sxs_nilLe (by repeat (first | exact .nil | refine .cons (by first | exact .refl _ | exact .emp _ | exact .bor _ | exact .frz _ | exact .frb _ | exact .bvr _ _ | exact .rvr _ _) ?_))))
          · unfold srF at h; rw [if_neg c, hf] at h; cases h
        | inl more =>
          have ml := fits_len hf
          have mz : more.length + (n + 1) * ts.length ≤ 100000 := by rw [Nat.succ_mul (n + 1)] at hz; omega
          have rl1 := rl (marks ++ [x]) more
          have bz : fo.length + lenB first m n ≤ 1000000 := by
            cases hfi : first with
            | true => rw [hI.2 hfi]; unfold lenB; simp
            | false =>
              have h1 := hI.1
              rw [hfi] at h1 hL
              unfold lenB at h1 hL ⊢
              simp only [Bool.false_eq_true, if_false] at h1 hL ⊢
              rw [Nat.pow_succ] at hL
              have : (i + 1) * m.toNat ^ n ≤ m.toNat ^ n * m.toNat := by rw [Nat.mul_comm (m.toNat ^ n)]; exact Nat.mul_le_mul_right _ (by omega)
              rw [Nat.succ_mul] at this
              omega
          have hxe : srF ts first marks diffs (srch m ts first n) fo x = if first = true ∧ 0 < (fo ++ srch m ts first n (marks ++ [x]) more).length then .inr (fo ++ srch m ts first n (marks ++ [x]) more) else .inl (fo ++ srch m ts first n (marks ++ [x]) more) := by
            unfold srF
            rw [if_neg c, hf]
          by_cases hc : first = true ∧ 0 < (fo ++ srch m ts first n (marks ++ [x]) more).length
          · rw [if_pos hc] at hxe
            refine ⟨fun s' h => (by rw [hxe] at h; cases h), fun y h => ?_⟩
            · rw [hxe] at h; injection h with h; subst h
              refine sxs_one (sx_if (x := true) (pt_to (pt_c (cm_notInI (ns := marks) (by rfl) (px_name 5) (px_name 1))) (by rw [c']; rfl)) (fun _ => ?_) (fun h => nomatch h))
              refine sxs_cons (sx_set true 6 (px_to (px_kn G hr (pas_cons (px_name 0) (pas_cons (px_name 1) (pas_cons (px_name 2) (pas_cons (px_name 5) pas_nil)))) ⟨m, ts, marks, diffs, x, rfl, hb, fz, rfl⟩ (by omega)) (congrArg encO hf)) sc_searched.nd) ?_
              refine sxs_one (sx_if (x := true) (pt_to (pt_c (cm_notN (px_name 6))) rfl) (fun _ => ?_) (fun h => nomatch h))
              refine sxs_cons (sx_setL 4 (pl_to (ds' := dL (fo ++ srch m ts first n (marks ++ [x]) more)) (pl_cat (xs := dL fo) (ys := dL (srch m ts first n (marks ++ [x]) more)) (px_name 4) (px_kn G2 hr (pas_cons (px_name 0) (pas_cons (pl_x (pl_catI (xs := marks) (ys := [x]) (px_name 1) (pl_x (pl_lst (pas_cons (px_name 5) pas_nil))) (by rw [List.length_singleton]; omega))) (pas_cons (px_name 6) (pas_cons (px_name 3) pas_nil)))) ⟨m, ts, marks ++ [x], more, first, n, rfl, by omega, by rw [List.length_append, List.length_singleton]; omega, hb, hm2, mz, Nat.le_trans (lenB_le m1) hL, rfl⟩ (by omega)) (by unfold dL; rw [List.length_map, List.length_map]; omega)) (by unfold dL; rw [List.map_append])) sc_searched.nd) ?_
              exact sxs_one (sx_if (x := true) (pt_to (pt_w (pw_a (x := first) (y := true) (pt_e (px_name 3)) (fun h => pw_a1 (pt_to (pt_c (cm_gt (px_lenL bt.len (px_name 4)) px_int)) (decide_eq_true (by have := hc.2; unfold dL; rw [List.length_map]; omega)))))) (by rw [hc.1]; rfl)) (fun _ => sxs_one (sx_ret (px_name 4))) (fun h => nomatch h))
          · rw [if_neg hc] at hxe
            refine ⟨fun s' h => ⟨inv s' h, ?_⟩, fun y h => (by rw [hxe] at h; cases h)⟩
            · rw [hxe] at h; injection h with h; subst h
              refine sxs_one (sx_if (x := true) (pt_to (pt_c (cm_notInI (ns := marks) (by rfl) (px_name 5) (px_name 1))) (by rw [c']; rfl)) (fun _ => ?_) (fun h => nomatch h))
              refine sxs_cons (sx_set true 6 (px_to (px_kn G hr (pas_cons (px_name 0) (pas_cons (px_name 1) (pas_cons (px_name 2) (pas_cons (px_name 5) pas_nil)))) ⟨m, ts, marks, diffs, x, rfl, hb, fz, rfl⟩ (by omega)) (congrArg encO hf)) sc_searched.nd) ?_
              refine sxs_one (sx_if (x := true) (pt_to (pt_c (cm_notN (px_name 6))) rfl) (fun _ => ?_) (fun h => nomatch h))
              refine sxs_cons (sx_setL 4 (pl_to (ds' := dL (fo ++ srch m ts first n (marks ++ [x]) more)) (pl_cat (xs := dL fo) (ys := dL (srch m ts first n (marks ++ [x]) more)) (px_name 4) (px_kn G2 hr (pas_cons (px_name 0) (pas_cons (pl_x (pl_catI (xs := marks) (ys := [x]) (px_name 1) (pl_x (pl_lst (pas_cons (px_name 5) pas_nil))) (by rw [List.length_singleton]; omega))) (pas_cons (px_name 6) (pas_cons (px_name 3) pas_nil)))) ⟨m, ts, marks ++ [x], more, first, n, rfl, by omega, by rw [List.length_append, List.length_singleton]; omega, hb, hm2, mz, Nat.le_trans (lenB_le m1) hL, rfl⟩ (by omega)) (by unfold dL; rw [List.length_map, List.length_map]; omega)) (by unfold dL; rw [List.map_append])) sc_searched.nd) ?_
              refine sxs_one (sx_if (x := false) (pt_to (pt_w (pw_a (x := first) (y := decide (0 < (fo ++ srch m ts first n (marks ++ [x]) more).length)) (pt_e (px_name 3)) (fun h => pw_a1 (pt_to (pt_c (cm_gt (px_lenL bt.len (px_name 4)) px_int)) (decide_eq_decide.mpr (by unfold dL; rw [List.length_map]; omega)))))) ?_) (fun h => nomatch h) (fun _ => sxs_nilLe (by repeat (first | exact .nil | refine .cons (by first | exact .refl _ | exact .emp _ | exact .bor _ | exact .frz _ | exact .frb _ | exact .bvr _ _ | exact .rvr _ _) ?_))))
              cases hfi : first with
              | false => rfl
              | true =>
                rw [hfi] at hc
                rw [decide_eq_false (fun z => hc ⟨rfl, z⟩)]; rfl
    · unfold srch
      rw [e]
      exact sxs_one (sx_ret (px_name 4))
    · unfold srch
      rw [e]; rfl
theorem k_srch (T : FunT K mg "searched" s_searched ["tree", "marks", "differences", "first"]) (bt : Bt mg) (TT : TreeT K C) (G : Kn P w K mg base CX0 1 "fits" ["tree", "marks", "differences", "mark"] (spN K C R_fits)) :
    ∀ N : Nat, Kn P w K mg base CX0 (N + 2) "searched" ["tree", "marks", "differences", "first"] (spN K C (R_srch N))
  | 0 => k_srch1 0 T bt TT G (.inl rfl)
  | N + 1 => k_srch1 (N + 1) T bt TT G (.inr ⟨N, rfl, k_srch T bt TT G N⟩)

def R_first_marking : List D → Res → Prop := fun ds r => ∃ (m : Int) (ts : List (Int × Int)), ds = [.tree m (dP ts)] ∧ TreeOk m ts ∧ r = .ret (encOp (lawFirst m ts m.toNat []))
theorem k_first_marking (T : FunT K mg "first_marking" s_first_marking ["tree"]) (bt : Bt mg) (G : Kn P w K mg base CX0 14 "searched" ["tree", "marks", "differences", "first"] (spN K C (R_srch 12))) : Kn P w K mg base CX0 15 "first_marking" ["tree"] (spN K C R_first_marking) := by
  refine knN T sc_first_marking (fun ds r ⟨_, _, h, _⟩ => by rw [h]; rfl) (fun ds c ⟨_, _, _, _, h⟩ => nomatch h) (fun f cdv A outer s H ds r hr hR => ?_)
  obtain ⟨m, ts, rfl, hT, rfl⟩ := hR
  refine ⟨.rt _, rfl, ?_⟩
  have t1 := hT.lo
  have t2 := hT.hi
  have t3 := hT.len
  have hz : 0 + (m.toNat + 1) * ts.length ≤ 100000 := by
    have : (m.toNat + 1) * ts.length ≤ 13 * 12 := Nat.mul_le_mul (by omega) (by omega)
    omega
  refine sxs_cons (sx_set true 1 (px_to (px_kn G hr (pas_cons (px_name 0) (pas_cons (pl_x (pl_lst pas_nil)) (pas_cons (pl_x (pl_lst pas_nil)) (pas_cons px_bl pas_nil)))) ⟨m, ts, [], [], true, m.toNat, rfl, by omega, by rw [List.length_nil]; omega, hT.bd, by omega, hz, by unfold lenB; simp, rfl⟩) (congrArg (fun z => D.lst (dL z)) (srch_true hT.bd m.toNat [] [] List.nodup_nil (by rw [inD_nil hT.bd])))) sc_first_marking.nd) ?_
  cases lawFirst m ts m.toNat [] with
  | none =>
    exact sxs_exit (sx_if (x := true) (pt_to (pt_c (cm_eqI (px_lenL (ds := []) bt.len (px_name 1)) px_int)) rfl) (fun _ => sxs_one (sx_ret px_non)) (fun h => nomatch h)) rfl
  | some l =>
    refine sxs_cons (sx_if (x := false) (pt_to (pt_c (cm_eqI (px_lenL (ds := [.lst (dI l)]) bt.len (px_name 1)) px_int)) rfl) (fun h => nomatch h) (fun _ => sxs_nil)) ?_
    exact sxs_one (sx_ret (px_ixL (ds := [.lst (dI l)]) (px_name 1) px_int rfl))

def R_law_lays : List D → Res → Prop := fun ds r => ∃ (m : Int) (ts : List (Int × Int)) (mk : List Int), ds = [.tree m (dP ts), .lst (dI mk)] ∧ TreeOk m ts ∧ isMk m mk = true ∧ unl (alongM ts mk) = true ∧ r = .ret (.bl true)
theorem k_law_lays {cb cn : Addr} (T : FunT K mg "_law_covers" s_law_covers ["tree", "marks"]) (bt : Bt mg) (TT : TreeT K C) (G1 : Kn P w K mg base (L2.CX P w) 5 "copies" ["tree", "marks"] (spN K C (R_copies cb cn))) : Kn P w K mg base CX0 6 "_law_covers" ["tree", "marks"] (spN K C R_law_lays) := by
  refine knN T sc_law_covers (fun ds r ⟨_, _, _, h, _⟩ => by rw [h]; rfl) (fun ds c ⟨_, _, _, _, _, _, _, h⟩ => nomatch h) (fun f cdv A outer s H ds r hr hR => ?_)
  obtain ⟨m, ts, mk, rfl, hT, hk, hu, rfl⟩ := hR
  refine ⟨.rt _, rfl, ?_⟩
  have t1 := hT.lo
  have t2 := hT.hi
  have t3 := hT.len
  have k := isMk_marks.mp hk
  have nd := pairs_nd t1 hT.bd hT.nodup k hu
  have pl := pairs_len (m := m) (ts := ts) (mk := mk)
  have plb : (2 * m - 1).toNat * ts.length ≤ 23 * 11 := Nat.mul_le_mul (by omega) (by omega)
  have pz : (((2 * m - 1).toNat * ts.length : Nat) : Int) = (2 * m - 1) * (m - 1) := by
    rw [Int.natCast_mul, t3, Int.toNat_of_nonneg (by omega)]
  refine sxs_cons (sx_setL 2 (pl_lst pas_nil) sc_law_covers.nd) ?_
  refine sxs_cons (sx_for (ds := dLP (copiesM m ts mk)) ow0 rfl (pi_l true (px_knx G1 hr (pas_cons (px_name 0) (pas_cons (px_name 1) pas_nil)) ⟨m, ts, mk, rfl, t1, by omega, hT.inP, by omega, by rw [hk, hu]; rfl⟩)) (pg_name (i := 3) sc_law_covers.nd rfl (.inl rfl)) (tg_name 3)
    (fun i => [.bor (.tree m (dP ts)), .emp, .own (dP ((copiesM m ts mk).take i).flatten), .emp, .emp]) (by repeat (first | exact .nil | refine .cons (by first | exact .refl _ | exact .emp _ | exact .bor _ | exact .frz _ | exact .frb _ | exact .bvr _ _ | exact .rvr _ _) ?_)) (fun _ _ => trivial) (fun i d hd => ?_)) ?_
  · unfold dLP at hd
    obtain ⟨one, hone, rfl⟩ := map_at hd
    have fl := flat_take_le (copiesM m ts mk) (i + 1)
    have ft := take_flat hone
    refine sxs_one (sx_nxLe (sx_extend 2 (px_name 3) rfl (by rw [ft, List.length_append] at fl; rw [List.length_map, List.length_map]; omega)) ?_)
    rw [show dP ((copiesM m ts mk).take i).flatten ++ dP one = dP ((copiesM m ts mk).take (i + 1)).flatten by rw [ft]; unfold dP; rw [List.map_append]]
    exact (by repeat (first | exact .nil | refine .cons (by first | exact .refl _ | exact .emp _ | exact .bor _ | exact .frz _ | exact .frb _ | exact .bvr _ _ | exact .rvr _ _) ?_))
  · rw [show (dLP (copiesM m ts mk)).length = (copiesM m ts mk).length by unfold dLP; rw [List.length_map], List.take_length]
    generalize (copiesM m ts mk).flatten = ps at nd pl
    refine sxs_le (e1 := [.bor (.tree m (dP ts)), .emp, .dat (.lst (dP ps)), .emp, .emp]) (by repeat (first | exact .nil | refine .cons (by first | exact .refl _ | exact .emp _ | exact .bor _ | exact .frz _ | exact .frb _ | exact .bvr _ _ | exact .rvr _ _) ?_)) ?_
    refine sxs_cons (sx_set true 4 (px_subt (px_mul px_int (px_many TT.cl TT.nM (px_name 0)) (.inr ⟨by omega, by omega⟩)) px_int) sc_law_covers.nd) ?_
    refine sxs_one (sx_ret (px_to (px_a (px_c (cm_eqI (px_lenL bt.len (px_name 2)) (px_mul (px_name 4) (px_subt (px_many TT.cl TT.nM (px_name 0)) px_int) (.inr ⟨by omega, by omega⟩)))) (fun _ => px_one (px_c (cm_eqI (px_lenSetP (ps := ps) rfl hr.units bt.len bt.set (px_name 2) (by omega) nd) (px_lenL bt.len (px_name 2)))))) ?_))
    rw [List.length_map, decide_eq_true (rfl : (ps.length : Int) = (ps.length : Nat)), decide_eq_true (show ((ps.length : Nat) : Int) = (2 * m - 1) * (m - 1) by rw [pl]; exact pz)]
    rfl

theorem k_law {f : Addr} {fd : FuncData} {cb cn cu cc : Addr} (F : Fun K "law" "law" s_law f fd) (bt : Bt mg) (TT : TreeT K C)
    (G1 : Kn P w K mg base CX0 2 "_law_tree_by" ["script", "base", "most"] (spN K C R_law_tree_by)) (G2 : Kn P w K mg base CX0 2 "_law_comb_by" ["script", "base", "most"] (spN K C R_law_comb_by)) (ct : Addr) (G3 : KnTree P w K mg base 2 C ct noT) (G4 : Kn P w K mg base (L2.CX P w) 4 "comb_marks" ["tree"] (spN K C (R_comb_marks cc)))
    (G5 : Kn P w K mg base CX0 15 "first_marking" ["tree"] (spN K C R_first_marking)) (G6 : Kn P w K mg base (L2.CX P w) 6 "joined" ["tree", "marks", "other", "more"] (spP K C (R_joined cb cn cu))) (G7 : Kn P w K mg base (L2.CX P w) 3 "is_good" ["tree", "marks"] (spN K C (R_is_good cb))) (G8 : Kn P w K mg base (L2.CX P w) 2 "differences" ["tree", "marks"] (spN K C (R_differences cb)))
    (G9 : Kn P w K mg base (L2.CX P w) 5 "bound" ["tree", "marks"] (spN K C (R_bound cb cn))) (G10 : Kn P w K mg base CX0 6 "_law_covers" ["tree", "marks"] (spN K C R_law_lays)) :
    FnOk P w K mg base CX0 16 f fd ["script"] (spL K) := by
  refine fnL (C := C) F sc_law (fun ds r ⟨_, h, _⟩ => by rw [h]; rfl) (fun ds c ⟨_, _, _, h⟩ => nomatch h) (fun cdv A outer s H ds r hr hR => ?_)
  obtain ⟨ns, rfl, hns, rfl⟩ := hR
  refine ⟨.rt _, rfl, ?_⟩
  have hT := comb_ok ns (b := 0) (m := 6) (by decide) (by decide)
  have hG := comb_gen ns (b := 0) (m := 6) (by decide)
  have hC := comb_comb ns (b := 0) (m := 6) (by decide) (by decide)
  have h6 := treeN_le (ns := ns) (base := 0) (most := 6) (by decide)
  have hT2 := tree_ok ns (b := 10) (m := 6) (by decide) (by decide)
  have h62 := treeN_le (ns := ns) (base := 10) (most := 6) (by decide)
  refine sxs_cons (sx_pair true 1 2 (px_kn G2 hr (pas_cons (px_name 0) (pas_cons px_int (pas_cons px_int pas_nil))) ⟨ns, 0, 6, rfl, by decide, by decide, by decide, rfl⟩) rfl sc_law.nd) ?_
  generalize treeN ns 0 6 = m at hT hG hC h6
  generalize sortP (combRaw ns 0 6) = ts at hT hG hC
  have t1 := hT.lo
  have t3 := hT.len
  obtain ⟨z1, z2, z3⟩ := zz_comb hG hT hC
  refine sxs_cons (sx_set true 3 (px_mkT G3 hr (px_name 1) (px_name 2) hT) sc_law.nd) ?_
  refine sxs_cons (sx_set true 4 (px_knx (d := .lst (dI (zzM m ts))) G4 hr (pas_cons (px_name 3) pas_nil) ⟨m, ts, rfl, hT, hG, by rw [hC]; rfl⟩) sc_law.nd) ?_
  generalize zzM m ts = mk at z1 z2 z3
  refine sxs_cons (sx_pair true 1 2 (px_kn G1 hr (pas_cons (px_name 0) (pas_cons px_int (pas_cons px_int pas_nil))) ⟨ns, 10, 6, rfl, by decide, by decide, by decide, rfl⟩) rfl sc_law.nd) ?_
  generalize treeN ns 10 6 = m2 at hT2 h62
  generalize sortP (treeRaw ns 10 6) = ts2 at hT2
  have t4 := hT2.lo
  have t5 := hT2.len
  refine sxs_cons (sx_set true 5 (px_mkT G3 hr (px_name 1) (px_name 2) hT2) sc_law.nd) ?_
  refine sxs_cons (sx_set true 6 (px_kn G5 hr (pas_cons (px_name 5) pas_nil) ⟨m2, ts2, rfl, hT2, rfl⟩) sc_law.nd) ?_
  cases hq : lawFirst m2 ts2 m2.toNat [] with
  | none => exact sxs_exit (sx_if (x := true) (pt_to (pt_c (cm_isN (px_name 6))) rfl) (fun _ => sxs_one (sx_ret px_bl)) (fun h => nomatch h)) rfl
  | some more =>
    refine sxs_cons (sx_if (x := false) (pt_to (pt_c (cm_isN (px_name 6))) rfl) (fun h => nomatch h) (fun _ => sxs_nil)) ?_
    have k2 : isMarks m2 more ∧ unl (alongM ts2 more) = true := by
      rw [first_goOn] at hq
      obtain ⟨a, b⟩ := goOn_ok m2.toNat [] (rowOk_nil hT2.bd) more (List.mem_of_head? hq)
      rw [List.length_nil] at b
      have hl : (more.length : Int) = m2 := by omega
      have km := row_marks a hl
      exact ⟨km, by rw [← good_unl hT2.bd hT2.len km]; exact row_good hT2.bd hT2.len a hl⟩
    obtain ⟨k2, u2⟩ := k2
    obtain ⟨b, hbm, b0, b1, hpm⟩ := bound_some z3
    have hk := isMk_marks.mpr z1
    have hk2 := isMk_marks.mpr k2
    have hJ := joined_tree hT hT2 z1 k2 b0 b1 (by omega)
    have hKm := joinK_marks z1 k2 t1 t4 b0 b1
    have hJu := joined_unl hT hT2 z1 k2 b0 b1 z2 u2 (parts_iff hpm)
    have hgd := good_unl hJ.bd hJ.len hKm
    rw [hJu] at hgd
    refine sxs_cons (sx_pair true 7 8 (px_knxP (d := joinD m ts mk m2 ts2 more b) G6 hr (paq_tree (px_name 3) (paq_cons (px_name 4) (paq_tree (px_name 5) (paq_cons (px_name 6) paq_nil)))) ⟨m, ts, mk, m2, ts2, more, rfl, hT, hT2, by omega, by unfold joinRes joinO resG; rw [hk, z2, hbm]; simp only [hk2, u2]; rfl⟩) rfl sc_law.nd) ?_
    generalize joinK m2 mk more b = jk at hKm hgd hJu
    generalize sortP (joinR m ts mk m2 ts2 more b) = jt at hJ hgd hJu
    have hJk := isMk_marks.mpr hKm
    have jl := hKm.len (by omega)
    have j3 := hJ.len
    have hg2 : sortI (alongM jt jk) = rgI 1 (m + m2) := by
      have q := of_decide_eq_true hgd
      rw [jl] at q
      exact q
    refine sxs_cons (sx_if (x := false) (pt_to (pt_w (pw_o (pt_c (cm_isnotTrue (i := true) (px_knx (d := .bl true) G7 hr (pas_cons (px_name 7) (pas_cons (px_name 8) pas_nil)) ⟨m + m2, jt, jk, rfl, by omega, by omega, hJ.inP, by omega, by show _ = resB (isMk _ jk) cb _; rw [hJk, hJu]; rfl⟩))) (fun _ => pw_o1 (pt_c (cm_neD hr.units (pl_x (pl_sortI (ns := alongM jt jk) bt.sorted (px_knx (d := .lst (dI (alongM jt jk))) G8 hr (pas_cons (px_name 7) (pas_cons (px_name 8) pas_nil)) ⟨m + m2, jt, jk, rfl, by omega, by omega, hJ.inP, by omega, by show _ = resB (isMk _ jk) cb _; rw [hJk]; rfl⟩))) (pl_x (pl_listR2 (i := 1) (n := m + m2) rfl bt.list bt.range px_int (px_many TT.cl TT.nM (px_name 7)) ⟨by omega, by omega⟩ ⟨by omega, by omega⟩)) (okD_ints _).cmp (okD_ints _).cmp))))) (by rw [eqD_ints, hg2, decide_eq_true (rfl : rgI 1 (m + m2) = rgI 1 (m + m2))]; rfl)) (fun h => nomatch h) (fun _ => sxs_nil)) ?_
    refine sxs_one (sx_ret (px_a (x := true) (px_to (px_c (cm_notN (px_knx (d := .int b) G9 hr (pas_cons (px_name 3) (pas_cons (px_name 4) pas_nil)) ⟨m, ts, mk, rfl, by omega, by omega, hT.inP, by omega, by show _ = resG (isMk m mk) (unl (alongM ts mk)) cb cn (encI (boundM m ts mk)); rw [hk, z2, hbm]; rfl⟩))) rfl) (fun _ => px_one (px_kn G10 hr (pas_cons (px_name 7) (pas_cons (px_name 8) pas_nil)) ⟨_, _, _, rfl, hJ, hJk, hJu, rfl⟩))))

theorem all_mk {l : PySem.W.OpenLaw} {w : World} {K : PySem.W.Frag} {h : Heap} {mg : Str → Option Value} {fa C : Addr} {tM : Tok} {e_NoComb : Addr} {e_BadMarks : Addr} {e_NotGood : Addr} {e_NoBound : Addr} {f0 : Addr} {od0 an0 : Option Addr} {sl0 : Array (Option Value)} {oc0 kV0 dc0 pm0 cd0 ct0 : Value} {f1 : Addr} {od1 an1 : Option Addr} {sl1 : Array (Option Value)} {oc1 kV1 dc1 pm1 cd1 ct1 : Value} {f2 : Addr} {od2 an2 : Option Addr} {sl2 : Array (Option Value)} {oc2 kV2 dc2 pm2 cd2 ct2 : Value} {f3 : Addr} {od3 an3 : Option Addr} {sl3 : Array (Option Value)} {oc3 kV3 dc3 pm3 cd3 ct3 : Value} {f4 : Addr} {od4 an4 : Option Addr} {sl4 : Array (Option Value)} {oc4 kV4 dc4 pm4 cd4 ct4 : Value} {f5 : Addr} {od5 an5 : Option Addr} {sl5 : Array (Option Value)} {oc5 kV5 dc5 pm5 cd5 ct5 : Value} {f6 : Addr} {od6 an6 : Option Addr} {sl6 : Array (Option Value)} {oc6 kV6 dc6 pm6 cd6 ct6 : Value} {f7 : Addr} {od7 an7 : Option Addr} {sl7 : Array (Option Value)} {oc7 kV7 dc7 pm7 cd7 ct7 : Value} {f8 : Addr} {od8 an8 : Option Addr} {sl8 : Array (Option Value)} {oc8 kV8 dc8 pm8 cd8 ct8 : Value} {f9 : Addr} {od9 an9 : Option Addr} {sl9 : Array (Option Value)} {oc9 kV9 dc9 pm9 cd9 ct9 : Value} {f10 : Addr} {od10 an10 : Option Addr} {sl10 : Array (Option Value)} {oc10 kV10 dc10 pm10 cd10 ct10 : Value} {f11 : Addr} {od11 an11 : Option Addr} {sl11 : Array (Option Value)} {oc11 kV11 dc11 pm11 cd11 ct11 : Value} {f12 : Addr} {od12 an12 : Option Addr} {sl12 : Array (Option Value)} {oc12 kV12 dc12 pm12 cd12 ct12 : Value} {f13 : Addr} {od13 an13 : Option Addr} {sl13 : Array (Option Value)} {oc13 kV13 dc13 pm13 cd13 ct13 : Value} {f14 : Addr} {od14 an14 : Option Addr} {sl14 : Array (Option Value)} {oc14 kV14 dc14 pm14 cd14 ct14 : Value} {f15 : Addr} {od15 an15 : Option Addr} {sl15 : Array (Option Value)} {oc15 kV15 dc15 pm15 cd15 ct15 : Value} {f16 : Addr} {od16 an16 : Option Addr} {sl16 : Array (Option Value)} {oc16 kV16 dc16 pm16 cd16 ct16 : Value} {f17 : Addr} {od17 an17 : Option Addr} {sl17 : Array (Option Value)} {oc17 kV17 dc17 pm17 cd17 ct17 : Value} {f18 : Addr} {od18 an18 : Option Addr} {sl18 : Array (Option Value)} {oc18 kV18 dc18 pm18 cd18 ct18 : Value} {f19 : Addr} {od19 an19 : Option Addr} {sl19 : Array (Option Value)} {oc19 kV19 dc19 pm19 cd19 ct19 : Value} {f20 : Addr} {od20 an20 : Option Addr} {sl20 : Array (Option Value)} {oc20 kV20 dc20 pm20 cd20 ct20 : Value} {f21 : Addr} {od21 an21 : Option Addr} {sl21 : Array (Option Value)} {oc21 kV21 dc21 pm21 cd21 ct21 : Value} {f22 : Addr} {od22 an22 : Option Addr} {sl22 : Array (Option Value)} {oc22 kV22 dc22 pm22 cd22 ct22 : Value} {f23 : Addr} {od23 an23 : Option Addr} {sl23 : Array (Option Value)} {oc23 kV23 dc23 pm23 cd23 ct23 : Value} {f24 : Addr} {od24 an24 : Option Addr} {sl24 : Array (Option Value)} {oc24 kV24 dc24 pm24 cd24 ct24 : Value} {f25 : Addr} {od25 an25 : Option Addr} {sl25 : Array (Option Value)} {oc25 kV25 dc25 pm25 cd25 ct25 : Value} {f26 : Addr} {od26 an26 : Option Addr} {sl26 : Array (Option Value)} {oc26 kV26 dc26 pm26 cd26 ct26 : Value} {fC : Addr} {odC anC : Option Addr} {slC : Array (Option Value)} {ocC kVC dcC pmC cdC ctC : Value} (X : K.In h) (G : h.Ns mainGlobals mg) (hfa : mg "law" = some (.ref fa))
    (a0 : PySem.W.nsIn K mainGlobals "joins_all" = some (some (.ref f0)))
    (l0 : K.lookup f0 = some ⟨oc0, od0, .func (PySem.W.fnOf "joins_all" "joins_all" (defArgs s_joins_all) (defBody s_joins_all) (defScope s_joins_all) .none kV0 dc0 pm0 an0 cd0 ct0), sl0⟩)
    (c0 : PySem.W.codeIn K cd0 "joins_all" = true)
    (k0 : PySem.W.keepIn K (.ref f0) = true)
    (a1 : PySem.W.nsIn K mainGlobals "neighbours" = some (some (.ref f1)))
    (l1 : K.lookup f1 = some ⟨oc1, od1, .func (PySem.W.fnOf "neighbours" "neighbours" (defArgs s_neighbours) (defBody s_neighbours) (defScope s_neighbours) .none kV1 dc1 pm1 an1 cd1 ct1), sl1⟩)
    (c1 : PySem.W.codeIn K cd1 "neighbours" = true)
    (k1 : PySem.W.keepIn K (.ref f1) = true)
    (a2 : PySem.W.nsIn K mainGlobals "inner_ones" = some (some (.ref f2)))
    (l2 : K.lookup f2 = some ⟨oc2, od2, .func (PySem.W.fnOf "inner_ones" "inner_ones" (defArgs s_inner_ones) (defBody s_inner_ones) (defScope s_inner_ones) .none kV2 dc2 pm2 an2 cd2 ct2), sl2⟩)
    (c2 : PySem.W.codeIn K cd2 "inner_ones" = true)
    (k2 : PySem.W.keepIn K (.ref f2) = true)
    (a3 : PySem.W.nsIn K mainGlobals "inner_beside" = some (some (.ref f3)))
    (l3 : K.lookup f3 = some ⟨oc3, od3, .func (PySem.W.fnOf "inner_beside" "inner_beside" (defArgs s_inner_beside) (defBody s_inner_beside) (defScope s_inner_beside) .none kV3 dc3 pm3 an3 cd3 ct3), sl3⟩)
    (c3 : PySem.W.codeIn K cd3 "inner_beside" = true)
    (k3 : PySem.W.keepIn K (.ref f3) = true)
    (a4 : PySem.W.nsIn K mainGlobals "is_comb" = some (some (.ref f4)))
    (l4 : K.lookup f4 = some ⟨oc4, od4, .func (PySem.W.fnOf "is_comb" "is_comb" (defArgs s_is_comb) (defBody s_is_comb) (defScope s_is_comb) .none kV4 dc4 pm4 an4 cd4 ct4), sl4⟩)
    (c4 : PySem.W.codeIn K cd4 "is_comb" = true)
    (k4 : PySem.W.keepIn K (.ref f4) = true)
    (a5 : PySem.W.nsIn K mainGlobals "first_place" = some (some (.ref f5)))
    (l5 : K.lookup f5 = some ⟨oc5, od5, .func (PySem.W.fnOf "first_place" "first_place" (defArgs s_first_place) (defBody s_first_place) (defScope s_first_place) .none kV5 dc5 pm5 an5 cd5 ct5), sl5⟩)
    (c5 : PySem.W.codeIn K cd5 "first_place" = true)
    (k5 : PySem.W.keepIn K (.ref f5) = true)
    (a6 : PySem.W.nsIn K mainGlobals "comb_marks" = some (some (.ref f6)))
    (l6 : K.lookup f6 = some ⟨oc6, od6, .func (PySem.W.fnOf "comb_marks" "comb_marks" (defArgs s_comb_marks) (defBody s_comb_marks) (defScope s_comb_marks) .none kV6 dc6 pm6 an6 cd6 ct6), sl6⟩)
    (c6 : PySem.W.codeIn K cd6 "comb_marks" = true)
    (k6 : PySem.W.keepIn K (.ref f6) = true)
    (a7 : PySem.W.nsIn K mainGlobals "check_marks" = some (some (.ref f7)))
    (l7 : K.lookup f7 = some ⟨oc7, od7, .func (PySem.W.fnOf "check_marks" "check_marks" (defArgs s_check_marks) (defBody s_check_marks) (defScope s_check_marks) .none kV7 dc7 pm7 an7 cd7 ct7), sl7⟩)
    (c7 : PySem.W.codeIn K cd7 "check_marks" = true)
    (k7 : PySem.W.keepIn K (.ref f7) = true)
    (a8 : PySem.W.nsIn K mainGlobals "along" = some (some (.ref f8)))
    (l8 : K.lookup f8 = some ⟨oc8, od8, .func (PySem.W.fnOf "along" "along" (defArgs s_along) (defBody s_along) (defScope s_along) .none kV8 dc8 pm8 an8 cd8 ct8), sl8⟩)
    (c8 : PySem.W.codeIn K cd8 "along" = true)
    (k8 : PySem.W.keepIn K (.ref f8) = true)
    (a9 : PySem.W.nsIn K mainGlobals "differences" = some (some (.ref f9)))
    (l9 : K.lookup f9 = some ⟨oc9, od9, .func (PySem.W.fnOf "differences" "differences" (defArgs s_differences) (defBody s_differences) (defScope s_differences) .none kV9 dc9 pm9 an9 cd9 ct9), sl9⟩)
    (c9 : PySem.W.codeIn K cd9 "differences" = true)
    (k9 : PySem.W.keepIn K (.ref f9) = true)
    (a10 : PySem.W.nsIn K mainGlobals "all_unlike" = some (some (.ref f10)))
    (l10 : K.lookup f10 = some ⟨oc10, od10, .func (PySem.W.fnOf "all_unlike" "all_unlike" (defArgs s_all_unlike) (defBody s_all_unlike) (defScope s_all_unlike) .none kV10 dc10 pm10 an10 cd10 ct10), sl10⟩)
    (c10 : PySem.W.codeIn K cd10 "all_unlike" = true)
    (k10 : PySem.W.keepIn K (.ref f10) = true)
    (a11 : PySem.W.nsIn K mainGlobals "is_good" = some (some (.ref f11)))
    (l11 : K.lookup f11 = some ⟨oc11, od11, .func (PySem.W.fnOf "is_good" "is_good" (defArgs s_is_good) (defBody s_is_good) (defScope s_is_good) .none kV11 dc11 pm11 an11 cd11 ct11), sl11⟩)
    (c11 : PySem.W.codeIn K cd11 "is_good" = true)
    (k11 : PySem.W.keepIn K (.ref f11) = true)
    (a12 : PySem.W.nsIn K mainGlobals "check_good" = some (some (.ref f12)))
    (l12 : K.lookup f12 = some ⟨oc12, od12, .func (PySem.W.fnOf "check_good" "check_good" (defArgs s_check_good) (defBody s_check_good) (defScope s_check_good) .none kV12 dc12 pm12 an12 cd12 ct12), sl12⟩)
    (c12 : PySem.W.codeIn K cd12 "check_good" = true)
    (k12 : PySem.W.keepIn K (.ref f12) = true)
    (a13 : PySem.W.nsIn K mainGlobals "parts_at" = some (some (.ref f13)))
    (l13 : K.lookup f13 = some ⟨oc13, od13, .func (PySem.W.fnOf "parts_at" "parts_at" (defArgs s_parts_at) (defBody s_parts_at) (defScope s_parts_at) .none kV13 dc13 pm13 an13 cd13 ct13), sl13⟩)
    (c13 : PySem.W.codeIn K cd13 "parts_at" = true)
    (k13 : PySem.W.keepIn K (.ref f13) = true)
    (a14 : PySem.W.nsIn K mainGlobals "bound" = some (some (.ref f14)))
    (l14 : K.lookup f14 = some ⟨oc14, od14, .func (PySem.W.fnOf "bound" "bound" (defArgs s_bound) (defBody s_bound) (defScope s_bound) .none kV14 dc14 pm14 an14 cd14 ct14), sl14⟩)
    (c14 : PySem.W.codeIn K cd14 "bound" = true)
    (k14 : PySem.W.keepIn K (.ref f14) = true)
    (a15 : PySem.W.nsIn K mainGlobals "joined" = some (some (.ref f15)))
    (l15 : K.lookup f15 = some ⟨oc15, od15, .func (PySem.W.fnOf "joined" "joined" (defArgs s_joined) (defBody s_joined) (defScope s_joined) .none kV15 dc15 pm15 an15 cd15 ct15), sl15⟩)
    (c15 : PySem.W.codeIn K cd15 "joined" = true)
    (k15 : PySem.W.keepIn K (.ref f15) = true)
    (a16 : PySem.W.nsIn K mainGlobals "copy_at" = some (some (.ref f16)))
    (l16 : K.lookup f16 = some ⟨oc16, od16, .func (PySem.W.fnOf "copy_at" "copy_at" (defArgs s_copy_at) (defBody s_copy_at) (defScope s_copy_at) .none kV16 dc16 pm16 an16 cd16 ct16), sl16⟩)
    (c16 : PySem.W.codeIn K cd16 "copy_at" = true)
    (k16 : PySem.W.keepIn K (.ref f16) = true)
    (a17 : PySem.W.nsIn K mainGlobals "copies" = some (some (.ref f17)))
    (l17 : K.lookup f17 = some ⟨oc17, od17, .func (PySem.W.fnOf "copies" "copies" (defArgs s_copies) (defBody s_copies) (defScope s_copies) .none kV17 dc17 pm17 an17 cd17 ct17), sl17⟩)
    (c17 : PySem.W.codeIn K cd17 "copies" = true)
    (k17 : PySem.W.keepIn K (.ref f17) = true)
    (a18 : PySem.W.nsIn K mainGlobals "fits" = some (some (.ref f18)))
    (l18 : K.lookup f18 = some ⟨oc18, od18, .func (PySem.W.fnOf "fits" "fits" (defArgs s_fits) (defBody s_fits) (defScope s_fits) .none kV18 dc18 pm18 an18 cd18 ct18), sl18⟩)
    (c18 : PySem.W.codeIn K cd18 "fits" = true)
    (k18 : PySem.W.keepIn K (.ref f18) = true)
    (a19 : PySem.W.nsIn K mainGlobals "searched" = some (some (.ref f19)))
    (l19 : K.lookup f19 = some ⟨oc19, od19, .func (PySem.W.fnOf "searched" "searched" (defArgs s_searched) (defBody s_searched) (defScope s_searched) .none kV19 dc19 pm19 an19 cd19 ct19), sl19⟩)
    (c19 : PySem.W.codeIn K cd19 "searched" = true)
    (k19 : PySem.W.keepIn K (.ref f19) = true)
    (a20 : PySem.W.nsIn K mainGlobals "first_marking" = some (some (.ref f20)))
    (l20 : K.lookup f20 = some ⟨oc20, od20, .func (PySem.W.fnOf "first_marking" "first_marking" (defArgs s_first_marking) (defBody s_first_marking) (defScope s_first_marking) .none kV20 dc20 pm20 an20 cd20 ct20), sl20⟩)
    (c20 : PySem.W.codeIn K cd20 "first_marking" = true)
    (k20 : PySem.W.keepIn K (.ref f20) = true)
    (a21 : PySem.W.nsIn K mainGlobals "_law_cell_at" = some (some (.ref f21)))
    (l21 : K.lookup f21 = some ⟨oc21, od21, .func (PySem.W.fnOf "_law_cell_at" "_law_cell_at" (defArgs s_law_cell_at) (defBody s_law_cell_at) (defScope s_law_cell_at) .none kV21 dc21 pm21 an21 cd21 ct21), sl21⟩)
    (c21 : PySem.W.codeIn K cd21 "_law_cell_at" = true)
    (k21 : PySem.W.keepIn K (.ref f21) = true)
    (a22 : PySem.W.nsIn K mainGlobals "_law_mix" = some (some (.ref f22)))
    (l22 : K.lookup f22 = some ⟨oc22, od22, .func (PySem.W.fnOf "_law_mix" "_law_mix" (defArgs s_law_mix) (defBody s_law_mix) (defScope s_law_mix) .none kV22 dc22 pm22 an22 cd22 ct22), sl22⟩)
    (c22 : PySem.W.codeIn K cd22 "_law_mix" = true)
    (k22 : PySem.W.keepIn K (.ref f22) = true)
    (a23 : PySem.W.nsIn K mainGlobals "_law_tree_by" = some (some (.ref f23)))
    (l23 : K.lookup f23 = some ⟨oc23, od23, .func (PySem.W.fnOf "_law_tree_by" "_law_tree_by" (defArgs s_law_tree_by) (defBody s_law_tree_by) (defScope s_law_tree_by) .none kV23 dc23 pm23 an23 cd23 ct23), sl23⟩)
    (c23 : PySem.W.codeIn K cd23 "_law_tree_by" = true)
    (k23 : PySem.W.keepIn K (.ref f23) = true)
    (a24 : PySem.W.nsIn K mainGlobals "_law_comb_by" = some (some (.ref f24)))
    (l24 : K.lookup f24 = some ⟨oc24, od24, .func (PySem.W.fnOf "_law_comb_by" "_law_comb_by" (defArgs s_law_comb_by) (defBody s_law_comb_by) (defScope s_law_comb_by) .none kV24 dc24 pm24 an24 cd24 ct24), sl24⟩)
    (c24 : PySem.W.codeIn K cd24 "_law_comb_by" = true)
    (k24 : PySem.W.keepIn K (.ref f24) = true)
    (a25 : PySem.W.nsIn K mainGlobals "_law_covers" = some (some (.ref f25)))
    (l25 : K.lookup f25 = some ⟨oc25, od25, .func (PySem.W.fnOf "_law_covers" "_law_covers" (defArgs s_law_covers) (defBody s_law_covers) (defScope s_law_covers) .none kV25 dc25 pm25 an25 cd25 ct25), sl25⟩)
    (c25 : PySem.W.codeIn K cd25 "_law_covers" = true)
    (k25 : PySem.W.keepIn K (.ref f25) = true)
    (a26 : PySem.W.nsIn K mainGlobals "law" = some (some (.ref f26)))
    (l26 : K.lookup f26 = some ⟨oc26, od26, .func (PySem.W.fnOf "law" "law" (defArgs s_law) (defBody s_law) (defScope s_law) .none kV26 dc26 pm26 an26 cd26 ct26), sl26⟩)
    (c26 : PySem.W.codeIn K cd26 "law" = true)
    (k26 : PySem.W.keepIn K (.ref f26) = true)
    (aT : PySem.W.nsIn K mainGlobals "Tree" = some (some (.ref C)))
    (aC : PySem.W.findIn K (.ref C) "__init__" = some (some (.ref fC)))
    (iC : PySem.W.isFn K (.ref fC) = true)
    (lC : K.lookup fC = some ⟨ocC, odC, .func (PySem.W.fnOf "__init__" "Tree.__init__" (defArgs s_Tree_init) (defBody s_Tree_init) (defScope s_Tree_init) .none kVC dcC pmC anC cdC ctC), slC⟩)
    (cC : PySem.W.codeIn K cdC "Tree.__init__" = true)
    (kC : PySem.W.keepIn K (.ref fC) = true)
    (mk : PySem.W.makesIn K C = true)
    (kc : PySem.W.keepIn K (.ref C) = true)
    (pg : PySem.W.plainGet K C Str.empty = true)
    (hd : PySem.W.hasDictIn K C = true)
    (po : PySem.W.plainOver K C = true)
    (sa : PySem.W.findIn K (.ref C) "__setattr__" = some (some (.builtin "object.__setattr__")))
    (nM : PySem.W.findIn K (.ref C) "many" = some none)
    (nT : PySem.W.findIn K (.ref C) "ties" = some none)
    (gM : PySem.W.nsIn K mainGlobals "MOST" = some (some (.int 12 tM)))
    (x_NoComb : PySem.W.nsIn K mainGlobals "NoComb" = some (some (.ref e_NoComb)))
    (b_NoComb : PySem.W.subIn K (.ref e_NoComb) (.type "BaseException") = some true)
    (i_NoComb : PySem.W.isClsIn K e_NoComb = true)
    (t_NoComb : PySem.W.typeIn K (.ref e_NoComb) = some (.type "type"))
    (x_BadMarks : PySem.W.nsIn K mainGlobals "BadMarks" = some (some (.ref e_BadMarks)))
    (b_BadMarks : PySem.W.subIn K (.ref e_BadMarks) (.type "BaseException") = some true)
    (i_BadMarks : PySem.W.isClsIn K e_BadMarks = true)
    (t_BadMarks : PySem.W.typeIn K (.ref e_BadMarks) = some (.type "type"))
    (x_NotGood : PySem.W.nsIn K mainGlobals "NotGood" = some (some (.ref e_NotGood)))
    (b_NotGood : PySem.W.subIn K (.ref e_NotGood) (.type "BaseException") = some true)
    (i_NotGood : PySem.W.isClsIn K e_NotGood = true)
    (t_NotGood : PySem.W.typeIn K (.ref e_NotGood) = some (.type "type"))
    (x_NoBound : PySem.W.nsIn K mainGlobals "NoBound" = some (some (.ref e_NoBound)))
    (b_NoBound : PySem.W.subIn K (.ref e_NoBound) (.type "BaseException") = some true)
    (i_NoBound : PySem.W.isClsIn K e_NoBound = true)
    (t_NoBound : PySem.W.typeIn K (.ref e_NoBound) = some (.type "type"))
    (y_NoComb : PySem.W.excIn K e_NoComb [.type "ValueError", .type "Exception", .type "BaseException", .type "object"] "ValueError.__new__" = true)
    (u_NoComb : PySem.W.keepIn K (.ref e_NoComb) = true)
    (y_BadMarks : PySem.W.excIn K e_BadMarks [.type "ValueError", .type "Exception", .type "BaseException", .type "object"] "ValueError.__new__" = true)
    (u_BadMarks : PySem.W.keepIn K (.ref e_BadMarks) = true)
    (y_NotGood : PySem.W.excIn K e_NotGood [.type "ValueError", .type "Exception", .type "BaseException", .type "object"] "ValueError.__new__" = true)
    (u_NotGood : PySem.W.keepIn K (.ref e_NotGood) = true)
    (y_NoBound : PySem.W.excIn K e_NoBound [.type "ValueError", .type "Exception", .type "BaseException", .type "object"] "ValueError.__new__" = true)
    (u_NoBound : PySem.W.keepIn K (.ref e_NoBound) = true)
    (z_abs : PySem.W.nsIn K mainGlobals "abs" = some none)
    (z_min : PySem.W.nsIn K mainGlobals "min" = some none)
    (z_max : PySem.W.nsIn K mainGlobals "max" = some none)
    (z_len : PySem.W.nsIn K mainGlobals "len" = some none)
    (z_range : PySem.W.nsIn K mainGlobals "range" = some none)
    (z_list : PySem.W.nsIn K mainGlobals "list" = some none)
    (z_sorted : PySem.W.nsIn K mainGlobals "sorted" = some none)
    (z_set : PySem.W.nsIn K mainGlobals "set" = some none)
    (z_all : PySem.W.nsIn K mainGlobals "all" = some none)
    (z_enumerate : PySem.W.nsIn K mainGlobals "enumerate" = some none)
    (z_zip : PySem.W.nsIn K mainGlobals "zip" = some none)
    (z_tuple : PySem.W.nsIn K mainGlobals "tuple" = some none)
    (z_int : PySem.W.nsIn K mainGlobals "int" = some none)
    (z_bool : PySem.W.nsIn K mainGlobals "bool" = some none)
    (z_isinstance : PySem.W.nsIn K mainGlobals "isinstance" = some none)
    : ∃ fd : FuncData, (∀ (s : Shared) (v : Value), BindsTo s fd ⟨[v], []⟩ [("script", v)]) ∧ ∀ base : Heap, K.In base → base.Ns mainGlobals mg → FnOk l.prog w K mg base CX0 16 fa fd ["script"] (spL K) := by
  have e := hfa.symm.trans (PySem.W.mg_of X G a26)
  cases e
  have T_joins_all : FunT K mg "joins_all" s_joins_all ["many", "ties"] := funT_mk X G a0 l0 c0 k0 (fun _ _ _ _ _ _ us hl => match us, hl with | [_, _], _ => rfl)
  have T_neighbours : FunT K mg "neighbours" s_neighbours ["tree", "place"] := funT_mk X G a1 l1 c1 k1 (fun _ _ _ _ _ _ us hl => match us, hl with | [_, _], _ => rfl)
  have T_inner_ones : FunT K mg "inner_ones" s_inner_ones ["tree"] := funT_mk X G a2 l2 c2 k2 (fun _ _ _ _ _ _ us hl => match us, hl with | [_], _ => rfl)
  have T_inner_beside : FunT K mg "inner_beside" s_inner_beside ["tree", "inner", "place"] := funT_mk X G a3 l3 c3 k3 (fun _ _ _ _ _ _ us hl => match us, hl with | [_, _, _], _ => rfl)
  have T_is_comb : FunT K mg "is_comb" s_is_comb ["tree"] := funT_mk X G a4 l4 c4 k4 (fun _ _ _ _ _ _ us hl => match us, hl with | [_], _ => rfl)
  have T_first_place : FunT K mg "first_place" s_first_place ["tree", "inner"] := funT_mk X G a5 l5 c5 k5 (fun _ _ _ _ _ _ us hl => match us, hl with | [_, _], _ => rfl)
  have T_comb_marks : FunT K mg "comb_marks" s_comb_marks ["tree"] := funT_mk X G a6 l6 c6 k6 (fun _ _ _ _ _ _ us hl => match us, hl with | [_], _ => rfl)
  have T_check_marks : FunT K mg "check_marks" s_check_marks ["tree", "marks"] := funT_mk X G a7 l7 c7 k7 (fun _ _ _ _ _ _ us hl => match us, hl with | [_, _], _ => rfl)
  have T_along : FunT K mg "along" s_along ["tree", "marks"] := funT_mk X G a8 l8 c8 k8 (fun _ _ _ _ _ _ us hl => match us, hl with | [_, _], _ => rfl)
  have T_differences : FunT K mg "differences" s_differences ["tree", "marks"] := funT_mk X G a9 l9 c9 k9 (fun _ _ _ _ _ _ us hl => match us, hl with | [_, _], _ => rfl)
  have T_all_unlike : FunT K mg "all_unlike" s_all_unlike ["numbers"] := funT_mk X G a10 l10 c10 k10 (fun _ _ _ _ _ _ us hl => match us, hl with | [_], _ => rfl)
  have T_is_good : FunT K mg "is_good" s_is_good ["tree", "marks"] := funT_mk X G a11 l11 c11 k11 (fun _ _ _ _ _ _ us hl => match us, hl with | [_, _], _ => rfl)
  have T_check_good : FunT K mg "check_good" s_check_good ["tree", "marks"] := funT_mk X G a12 l12 c12 k12 (fun _ _ _ _ _ _ us hl => match us, hl with | [_, _], _ => rfl)
  have T_parts_at : FunT K mg "parts_at" s_parts_at ["tree", "marks", "number"] := funT_mk X G a13 l13 c13 k13 (fun _ _ _ _ _ _ us hl => match us, hl with | [_, _, _], _ => rfl)
  have T_bound : FunT K mg "bound" s_bound ["tree", "marks"] := funT_mk X G a14 l14 c14 k14 (fun _ _ _ _ _ _ us hl => match us, hl with | [_, _], _ => rfl)
  have T_joined : FunT K mg "joined" s_joined ["tree", "marks", "other", "more"] := funT_mk X G a15 l15 c15 k15 (fun _ _ _ _ _ _ us hl => match us, hl with | [_, _, _, _], _ => rfl)
  have T_copy_at : FunT K mg "copy_at" s_copy_at ["tree", "marks", "shift"] := funT_mk X G a16 l16 c16 k16 (fun _ _ _ _ _ _ us hl => match us, hl with | [_, _, _], _ => rfl)
  have T_copies : FunT K mg "copies" s_copies ["tree", "marks"] := funT_mk X G a17 l17 c17 k17 (fun _ _ _ _ _ _ us hl => match us, hl with | [_, _], _ => rfl)
  have T_fits : FunT K mg "fits" s_fits ["tree", "marks", "differences", "mark"] := funT_mk X G a18 l18 c18 k18 (fun _ _ _ _ _ _ us hl => match us, hl with | [_, _, _, _], _ => rfl)
  have T_searched : FunT K mg "searched" s_searched ["tree", "marks", "differences", "first"] := funT_mk X G a19 l19 c19 k19 (fun _ _ _ _ _ _ us hl => match us, hl with | [_, _, _, _], _ => rfl)
  have T_first_marking : FunT K mg "first_marking" s_first_marking ["tree"] := funT_mk X G a20 l20 c20 k20 (fun _ _ _ _ _ _ us hl => match us, hl with | [_], _ => rfl)
  have T_law_cell_at : FunT K mg "_law_cell_at" s_law_cell_at ["script", "k"] := funT_mk X G a21 l21 c21 k21 (fun _ _ _ _ _ _ us hl => match us, hl with | [_, _], _ => rfl)
  have T_law_mix : FunT K mg "_law_mix" s_law_mix ["cell", "k", "many"] := funT_mk X G a22 l22 c22 k22 (fun _ _ _ _ _ _ us hl => match us, hl with | [_, _, _], _ => rfl)
  have T_law_tree_by : FunT K mg "_law_tree_by" s_law_tree_by ["script", "base", "most"] := funT_mk X G a23 l23 c23 k23 (fun _ _ _ _ _ _ us hl => match us, hl with | [_, _, _], _ => rfl)
  have T_law_comb_by : FunT K mg "_law_comb_by" s_law_comb_by ["script", "base", "most"] := funT_mk X G a24 l24 c24 k24 (fun _ _ _ _ _ _ us hl => match us, hl with | [_, _, _], _ => rfl)
  have T_law_covers : FunT K mg "_law_covers" s_law_covers ["tree", "marks"] := funT_mk X G a25 l25 c25 k25 (fun _ _ _ _ _ _ us hl => match us, hl with | [_, _], _ => rfl)
  have F_law := fun_mk (st := s_law) l26 c26 k26
  have TT : TreeT K C := ⟨⟨pg, hd, po, sa⟩, nM, nT⟩
  have TI : FunI K mg C s_Tree_init ["self", "many", "ties"] := funI_mk X G aT aC iC lC cC kC mk kc (fun _ _ _ _ _ _ us hl => match us, hl with | [_, _, _], _ => rfl)
  have hM : ∃ t, mg "MOST" = some (.int 12 t) := ⟨tM, PySem.W.mg_of X G gM⟩
  have G_NoComb : mg "NoComb" = some (.ref e_NoComb) := PySem.W.mg_of X G x_NoComb
  have Q_NoComb : ClsE K e_NoComb := ⟨b_NoComb, i_NoComb, t_NoComb⟩
  have G_BadMarks : mg "BadMarks" = some (.ref e_BadMarks) := PySem.W.mg_of X G x_BadMarks
  have Q_BadMarks : ClsE K e_BadMarks := ⟨b_BadMarks, i_BadMarks, t_BadMarks⟩
  have G_NotGood : mg "NotGood" = some (.ref e_NotGood) := PySem.W.mg_of X G x_NotGood
  have Q_NotGood : ClsE K e_NotGood := ⟨b_NotGood, i_NotGood, t_NotGood⟩
  have G_NoBound : mg "NoBound" = some (.ref e_NoBound) := PySem.W.mg_of X G x_NoBound
  have Q_NoBound : ClsE K e_NoBound := ⟨b_NoBound, i_NoBound, t_NoBound⟩
  have E_NoComb : ExcF K mg "NoComb" e_NoComb := ⟨G_NoComb, y_NoComb, u_NoComb, b_NoComb, t_NoComb⟩
  have E_BadMarks : ExcF K mg "BadMarks" e_BadMarks := ⟨G_BadMarks, y_BadMarks, u_BadMarks, b_BadMarks, t_BadMarks⟩
  have E_NotGood : ExcF K mg "NotGood" e_NotGood := ⟨G_NotGood, y_NotGood, u_NotGood, b_NotGood, t_NotGood⟩
  have E_NoBound : ExcF K mg "NoBound" e_NoBound := ⟨G_NoBound, y_NoBound, u_NoBound, b_NoBound, t_NoBound⟩
  have bt : Bt mg := { abs := PySem.W.mg_none_of X G z_abs, min := PySem.W.mg_none_of X G z_min, max := PySem.W.mg_none_of X G z_max, len := PySem.W.mg_none_of X G z_len, range := PySem.W.mg_none_of X G z_range, list := PySem.W.mg_none_of X G z_list, sorted := PySem.W.mg_none_of X G z_sorted, set := PySem.W.mg_none_of X G z_set, all := PySem.W.mg_none_of X G z_all, enumerate := PySem.W.mg_none_of X G z_enumerate, zip := PySem.W.mg_none_of X G z_zip, tuple := PySem.W.mg_none_of X G z_tuple, int := PySem.W.mg_none_of X G z_int, bool := PySem.W.mg_none_of X G z_bool, isinstance := PySem.W.mg_none_of X G z_isinstance }
  refine ⟨PySem.W.fnOf "law" "law" (defArgs s_law) (defBody s_law) (defScope s_law) .none kV26 dc26 pm26 an26 cd26 ct26, fun s v => .of_eq rfl, fun base _ _ => ?_⟩
  have g1 := k_law_cell_at (P := l.prog) (w := w) (base := base) (C := C) T_law_cell_at bt
  have g2 := k_law_mix (P := l.prog) (w := w) (base := base) (C := C) T_law_mix
  have g3 := k_law_tree_by T_law_tree_by bt g1 g2
  have g3b := k_law_comb_by T_law_comb_by bt g1 g2
  have g4 := k_joins_all (P := l.prog) (w := w) (base := base) (C := C) T_joins_all bt
  have g5 := k_tree TI TT bt hM g4 C
  have c1 := k_neighbours (P := l.prog) (w := w) (base := base) T_neighbours bt TT
  have c2 := k_inner_ones T_inner_ones bt TT c1
  have c3 := k_inner_beside T_inner_beside bt c1
  have c4 := k_is_comb T_is_comb bt c2 c3
  have c5 := k_first_place T_first_place bt c3
  have c6 := k_comb_marks T_comb_marks bt TT E_NoComb c1 c2 c4 c5
  have m1 := k_check_marks (P := l.prog) (w := w) (base := base) T_check_marks bt TT E_BadMarks
  have m2 := k_along (P := l.prog) (w := w) (base := base) T_along bt TT
  have m3 := k_differences T_differences m1 m2
  have m4 := k_all_unlike (P := l.prog) (w := w) (base := base) (C := C) T_all_unlike bt
  have m5 := k_is_good T_is_good m3 m4
  have m6 := k_check_good T_check_good E_NotGood m5
  have m7 := k_parts_at (P := l.prog) (w := w) (base := base) T_parts_at bt TT
  have m8 := k_bound T_bound bt TT m6 m7
  have m9 := k_joined T_joined bt TT E_NoBound m8 m6 g5
  have d1 := k_copy_at (P := l.prog) (w := w) (base := base) T_copy_at bt TT
  have d2 := k_copies T_copies bt TT m6 d1
  have n1 := k_fits (P := l.prog) (w := w) (base := base) T_fits bt TT
  have n2 := k_srch T_searched bt TT n1 12
  have n3 := k_first_marking T_first_marking bt n2
  have l1 := k_law_lays T_law_covers bt TT d2
  exact k_law F_law bt TT g3 g3b C g5 c6 n3 m9 m5 m3 m8 l1
end
end T
open PySem PySem.W PyProof.Rows
set_option maxHeartbeats 0 in
theorem PySem.Challenge.cw_markedties_k10_whole_joined_and_laid_holds : PySem.Challenge.rw_markedties_k10_whole_joined_and_laid.Holds := by
  w_on; o_law; k_head; (case hw => w_witness2)
  k_fill
  refine L2.walk_of (l := PySem.Challenge.rw_markedties_k10_whole_joined_and_laid) (n := 63) (k := 16) (x := "script") (CX := fun _ => L2.CX0) (sp := fun w => Fw.spL _) rfl (by decide) rfl ⟨rfl, by decide, by decide⟩ (fun w h Y => PySem.W.kIn_of Y) ?F (fun _ _ a ns hl hO hS => ⟨a, ns, rfl, hl, hO, hS, fun _ => rfl⟩) (fun _ _ _ _ _ h => h)
  case F =>
    intro w mg fa h KX G hmg
    refine' T.all_mk KX G hmg ?a0 ?l0 ?c0 ?k0 ?a1 ?l1 ?c1 ?k1 ?a2 ?l2 ?c2 ?k2 ?a3 ?l3 ?c3 ?k3 ?a4 ?l4 ?c4 ?k4 ?a5 ?l5 ?c5 ?k5 ?a6 ?l6 ?c6 ?k6 ?a7 ?l7 ?c7 ?k7 ?a8 ?l8 ?c8 ?k8 ?a9 ?l9 ?c9 ?k9 ?a10 ?l10 ?c10 ?k10 ?a11 ?l11 ?c11 ?k11 ?a12 ?l12 ?c12 ?k12 ?a13 ?l13 ?c13 ?k13 ?a14 ?l14 ?c14 ?k14 ?a15 ?l15 ?c15 ?k15 ?a16 ?l16 ?c16 ?k16 ?a17 ?l17 ?c17 ?k17 ?a18 ?l18 ?c18 ?k18 ?a19 ?l19 ?c19 ?k19 ?a20 ?l20 ?c20 ?k20 ?a21 ?l21 ?c21 ?k21 ?a22 ?l22 ?c22 ?k22 ?a23 ?l23 ?c23 ?k23 ?a24 ?l24 ?c24 ?k24 ?a25 ?l25 ?c25 ?k25 ?a26 ?l26 ?c26 ?k26 ?aT ?aC ?iC ?lC ?cC ?kC ?mk ?kc ?pg ?hd ?po ?sa ?nM ?nT ?gM ?x_NoComb ?b_NoComb ?i_NoComb ?t_NoComb ?x_BadMarks ?b_BadMarks ?i_BadMarks ?t_BadMarks ?x_NotGood ?b_NotGood ?i_NotGood ?t_NotGood ?x_NoBound ?b_NoBound ?i_NoBound ?t_NoBound ?y_NoComb ?u_NoComb ?y_BadMarks ?u_BadMarks ?y_NotGood ?u_NotGood ?y_NoBound ?u_NoBound ?z_abs ?z_min ?z_max ?z_len ?z_range ?z_list ?z_sorted ?z_set ?z_all ?z_enumerate ?z_zip ?z_tuple ?z_int ?z_bool ?z_isinstance
    (case a0 => k_is)
    (case l0 => k_is)
    (case c0 => k_is)
    (case k0 => k_is)
    (case a1 => k_is)
    (case l1 => k_is)
    (case c1 => k_is)
    (case k1 => k_is)
    (case a2 => k_is)
    (case l2 => k_is)
    (case c2 => k_is)
    (case k2 => k_is)
    (case a3 => k_is)
    (case l3 => k_is)
    (case c3 => k_is)
    (case k3 => k_is)
    (case a4 => k_is)
    (case l4 => k_is)
    (case c4 => k_is)
    (case k4 => k_is)
    (case a5 => k_is)
    (case l5 => k_is)
    (case c5 => k_is)
    (case k5 => k_is)
    (case a6 => k_is)
    (case l6 => k_is)
    (case c6 => k_is)
    (case k6 => k_is)
    (case a7 => k_is)
    (case l7 => k_is)
    (case c7 => k_is)
    (case k7 => k_is)
    (case a8 => k_is)
    (case l8 => k_is)
    (case c8 => k_is)
    (case k8 => k_is)
    (case a9 => k_is)
    (case l9 => k_is)
    (case c9 => k_is)
    (case k9 => k_is)
    (case a10 => k_is)
    (case l10 => k_is)
    (case c10 => k_is)
    (case k10 => k_is)
    (case a11 => k_is)
    (case l11 => k_is)
    (case c11 => k_is)
    (case k11 => k_is)
    (case a12 => k_is)
    (case l12 => k_is)
    (case c12 => k_is)
    (case k12 => k_is)
    (case a13 => k_is)
    (case l13 => k_is)
    (case c13 => k_is)
    (case k13 => k_is)
    (case a14 => k_is)
    (case l14 => k_is)
    (case c14 => k_is)
    (case k14 => k_is)
    (case a15 => k_is)
    (case l15 => k_is)
    (case c15 => k_is)
    (case k15 => k_is)
    (case a16 => k_is)
    (case l16 => k_is)
    (case c16 => k_is)
    (case k16 => k_is)
    (case a17 => k_is)
    (case l17 => k_is)
    (case c17 => k_is)
    (case k17 => k_is)
    (case a18 => k_is)
    (case l18 => k_is)
    (case c18 => k_is)
    (case k18 => k_is)
    (case a19 => k_is)
    (case l19 => k_is)
    (case c19 => k_is)
    (case k19 => k_is)
    (case a20 => k_is)
    (case l20 => k_is)
    (case c20 => k_is)
    (case k20 => k_is)
    (case a21 => k_is)
    (case l21 => k_is)
    (case c21 => k_is)
    (case k21 => k_is)
    (case a22 => k_is)
    (case l22 => k_is)
    (case c22 => k_is)
    (case k22 => k_is)
    (case a23 => k_is)
    (case l23 => k_is)
    (case c23 => k_is)
    (case k23 => k_is)
    (case a24 => k_is)
    (case l24 => k_is)
    (case c24 => k_is)
    (case k24 => k_is)
    (case a25 => k_is)
    (case l25 => k_is)
    (case c25 => k_is)
    (case k25 => k_is)
    (case a26 => k_is)
    (case l26 => k_is)
    (case c26 => k_is)
    (case k26 => k_is)
    (case aT => k_is)
    (case aC => k_is)
    (case iC => k_is)
    (case lC => k_is)
    (case cC => k_is)
    (case kC => k_is)
    (case mk => k_is)
    (case kc => k_is)
    (case pg => k_is)
    (case hd => k_is)
    (case po => k_is)
    (case sa => k_is)
    (case nM => k_is)
    (case nT => k_is)
    (case gM => k_is)
    (case x_NoComb => k_is)
    (case b_NoComb => k_is)
    (case i_NoComb => k_is)
    (case t_NoComb => k_is)
    (case x_BadMarks => k_is)
    (case b_BadMarks => k_is)
    (case i_BadMarks => k_is)
    (case t_BadMarks => k_is)
    (case x_NotGood => k_is)
    (case b_NotGood => k_is)
    (case i_NotGood => k_is)
    (case t_NotGood => k_is)
    (case x_NoBound => k_is)
    (case b_NoBound => k_is)
    (case i_NoBound => k_is)
    (case t_NoBound => k_is)
    (case y_NoComb => k_exc)
    (case u_NoComb => k_is)
    (case y_BadMarks => k_exc)
    (case u_BadMarks => k_is)
    (case y_NotGood => k_exc)
    (case u_NotGood => k_is)
    (case y_NoBound => k_exc)
    (case u_NoBound => k_is)
    (case z_abs => k_is)
    (case z_min => k_is)
    (case z_max => k_is)
    (case z_len => k_is)
    (case z_range => k_is)
    (case z_list => k_is)
    (case z_sorted => k_is)
    (case z_set => k_is)
    (case z_all => k_is)
    (case z_enumerate => k_is)
    (case z_zip => k_is)
    (case z_tuple => k_is)
    (case z_int => k_is)
    (case z_bool => k_is)
    (case z_isinstance => k_is)
