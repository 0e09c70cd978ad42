import PyProof.Rows.All
import Wide.All
import OpenK.AllK
import Wide.FinOn
import KE.KStateDown
import Lean
import HandS.Base
import HandS.Call
import HandS.Ends
import HandS.More
import HandS.Words
import HandS.WordsExc
import HandS.Defaults
import HandS.Head0
import HandS.Head1
import HandS.Head2
import HandS.HeadEnd
import HandS.HeadHook1
import HandS.HeadHook2
import PySem.Challenge.RW_givesifgets_k52_whole_timetable_or_paper
import HandS.ForMost
import HandS.Flow
import HandS.Deep
import HandS.TupAny
import HandS.TupLe
import HandS.IsInst
import HandS.Conv
import HandS.Star
import HandS.Style
import HandS.Wide
import HandS.WideMore
import HandS.SetFor
import HandS.Strs
import HandS.TupSets
import HandS.Walk
import HandS.Evl
import KE.SortData
import KE.GoesEnum
import HandS.DictComp
import HandS.NamedTupSort
import HandS.SortOrd
import KE.KSortTupAny
section
set_option autoImplicit false
set_option linter.all false
/-! Lots, their order, what can be done in some first days. Plain lists and numbers. -/
namespace K52
abbrev Lot := List Int
abbrev Cal := List Int
abbrev Jobs := List (Int × List Int)

/-! ### ascending lots -/
def Asc (l : Lot) : Prop := l.Pairwise (· < ·)
instance (l : Lot) : Decidable (Asc l) := inferInstanceAs (Decidable (l.Pairwise (· < ·)))
def ins (x : Int) : Lot → Lot
  | [] => [x]
  | y :: r => if x < y then x :: y :: r else if x = y then y :: r else y :: ins x r
def asc (l : Lot) : Lot := l.foldr ins []
theorem mem_ins {x z : Int} : ∀ {l : Lot}, z ∈ ins x l ↔ z = x ∨ z ∈ l
  | [] => by simp [ins]
  | y :: r => by
    unfold ins
    split
    · simp
    · split
      · rename_i e; subst e; simp
      · rw [List.mem_cons, mem_ins, List.mem_cons]
        constructor
        · rintro (h | h | h)
          · exact .inr (.inl h)
          · exact .inl h
          · exact .inr (.inr h)
        · rintro (h | h | h)
          · exact .inr (.inl h)
          · exact .inl h
          · exact .inr (.inr h)
theorem ins_asc {x : Int} : ∀ {l : Lot}, Asc l → Asc (ins x l)
  | [], _ => by simp [ins, Asc]
  | y :: r, h => by
    have h' := List.pairwise_cons.mp h
    unfold ins
    split
    · rename_i hlt
      refine List.pairwise_cons.mpr ⟨fun z hz => ?_, h⟩
      rcases List.mem_cons.mp hz with e | hz
      · omega
      · have := h'.1 z hz; omega
    · split
      · exact h
      · refine List.pairwise_cons.mpr ⟨fun z hz => ?_, ins_asc h'.2⟩
        rcases mem_ins.mp hz with e | hz
        · omega
        · exact h'.1 z hz
theorem asc_asc : ∀ l : Lot, Asc (asc l)
  | [] => List.Pairwise.nil
  | x :: r => ins_asc (asc_asc r)
theorem mem_asc {z : Int} : ∀ {l : Lot}, z ∈ asc l ↔ z ∈ l
  | [] => by simp [asc]
  | x :: r => by
    show z ∈ ins x (asc r) ↔ _
    rw [mem_ins, mem_asc, List.mem_cons]
theorem Asc.ext : ∀ {a b : Lot}, Asc a → Asc b → (∀ x, x ∈ a ↔ x ∈ b) → a = b
  | [], [], _, _, _ => rfl
  | [], y :: s, _, _, h => absurd ((h y).mpr List.mem_cons_self) (by simp)
  | x :: r, [], _, _, h => absurd ((h x).mp List.mem_cons_self) (by simp)
  | x :: r, y :: s, ha, hb, h => by
    have ha' := List.pairwise_cons.mp ha
    have hb' := List.pairwise_cons.mp hb
    have e : x = y := by
      rcases List.mem_cons.mp ((h x).mp List.mem_cons_self) with e | h1
      · exact e
      · rcases List.mem_cons.mp ((h y).mpr List.mem_cons_self) with e | h2
        · exact e.symm
        · have := hb'.1 x h1
          have := ha'.1 y h2
          omega
    subst e
    rw [Asc.ext ha'.2 hb'.2 fun z => ?_]
    constructor
    · intro hz
      rcases List.mem_cons.mp ((h z).mp (List.mem_cons_of_mem _ hz)) with e | h1
      · subst e; exact absurd (ha'.1 z hz) (Int.lt_irrefl _)
      · exact h1
    · intro hz
      rcases List.mem_cons.mp ((h z).mpr (List.mem_cons_of_mem _ hz)) with e | h1
      · subst e; exact absurd (hb'.1 z hz) (Int.lt_irrefl _)
      · exact h1
theorem Asc.nodup {l : Lot} (h : Asc l) : l.Nodup := List.Pairwise.imp (fun {_ _} h => by omega) h
theorem asc_of {l : Lot} (h : Asc l) : asc l = l := Asc.ext (asc_asc l) h fun _ => mem_asc
theorem Asc.filter {l : Lot} (p : Int → Bool) (h : Asc l) : Asc (l.filter p) := List.Pairwise.filter p h
theorem Asc.sub {a b : Lot} (s : a.Sublist b) (h : Asc b) : Asc a := List.Pairwise.sublist s h
def together (a b : Lot) : Lot := asc (a ++ b)
theorem mem_together {a b : Lot} {z : Int} : z ∈ together a b ↔ z ∈ a ∨ z ∈ b := by rw [together, mem_asc, List.mem_append]
theorem together_asc (a b : Lot) : Asc (together a b) := asc_asc _
theorem together_eq {a b c : Lot} (hc : Asc c) (h : ∀ z, z ∈ c ↔ z ∈ a ∨ z ∈ b) : together a b = c := Asc.ext (together_asc a b) hc fun z => by rw [mem_together, h]
theorem together_nil {a : Lot} (h : Asc a) : together a [] = a := together_eq h fun z => by simp

/-! ### the first n numbers -/
def rg (n : Nat) : List Int := (List.range n).map fun i : Nat => (i : Int)
theorem mem_rg {n : Nat} {z : Int} : z ∈ rg n ↔ 0 ≤ z ∧ z < n := by
  unfold rg
  rw [List.mem_map]
  constructor
  · rintro ⟨i, hi, rfl⟩
    have := List.mem_range.mp hi
    omega
  · intro h
    exact ⟨z.toNat, List.mem_range.mpr (by omega), by omega⟩
theorem rg_succ (n : Nat) : rg (n + 1) = rg n ++ [(n : Int)] := by
  unfold rg
  rw [List.range_succ, List.map_append] <;> rfl
theorem rg_len (n : Nat) : (rg n).length = n := by unfold rg; rw [List.length_map, List.length_range]
theorem rg_asc (n : Nat) : Asc (rg n) := by
  induction n with
  | zero => exact List.Pairwise.nil
  | succ n ih =>
    rw [rg_succ]
    refine List.pairwise_append.mpr ⟨ih, List.pairwise_singleton _ _, fun a ha b hb => ?_⟩
    have := mem_rg.mp ha
    rw [List.mem_singleton.mp hb]
    omega
def InR (n : Nat) (l : Lot) : Prop := ∀ x ∈ l, 0 ≤ x ∧ x < n
theorem asc_sublist : ∀ {b a : Lot}, Asc a → Asc b → (∀ x ∈ a, x ∈ b) → a.Sublist b
  | [], a, _, _, h => by
    cases a with
    | nil => exact List.Sublist.slnil
    | cons x r => exact absurd (h x List.mem_cons_self) (by simp)
  | y :: s, [], _, _, _ => List.nil_sublist _
  | y :: s, x :: r, ha, hb, h => by
    have ha' := List.pairwise_cons.mp ha
    have hb' := List.pairwise_cons.mp hb
    by_cases e : x = y
    · subst e
      refine List.Sublist.cons_cons _ (asc_sublist ha'.2 hb'.2 fun z hz => ?_)
      rcases List.mem_cons.mp (h z (List.mem_cons_of_mem _ hz)) with e | h1
      · subst e; exact absurd (ha'.1 z hz) (Int.lt_irrefl _)
      · exact h1
    · have hx : x ∈ s := by
        rcases List.mem_cons.mp (h x List.mem_cons_self) with e' | h1
        · exact absurd e' e
        · exact h1
      refine List.Sublist.cons _ (asc_sublist ha hb'.2 fun z hz => ?_)
      rcases List.mem_cons.mp (h z hz) with e' | h1
      · subst e'
        rcases List.mem_cons.mp hz with q | q
        · exact absurd q.symm e
        · have := ha'.1 z q
          have := hb'.1 x hx
          omega
      · exact h1

/-! ### the order of lots -/
def lx : List Int → List Int → Bool
  | [], [] => false
  | [], _ :: _ => true
  | _ :: _, [] => false
  | x :: xs, y :: ys => if x = y then lx xs ys else decide (x < y)
theorem lx_irr : ∀ a : List Int, lx a a = false
  | [] => rfl
  | x :: r => by
    show (if x = x then lx r r else decide (x < x)) = false
    rw [if_pos rfl]; exact lx_irr r
theorem lx_asym : ∀ a b : List Int, lx a b = true → lx b a = false
  | [], [], h => by cases h
  | [], _ :: _, _ => rfl
  | _ :: _, [], h => by cases h
  | x :: r, y :: s, h => by
    have h : (if x = y then lx r s else decide (x < y)) = true := h
    show (if y = x then lx s r else decide (y < x)) = false
    by_cases e : x = y
    · rw [if_pos e] at h
      rw [if_pos e.symm]; exact lx_asym r s h
    · rw [if_neg e] at h
      rw [if_neg (fun q => e q.symm)]
      have := of_decide_eq_true h
      exact decide_eq_false (by omega)
theorem lx_trans : ∀ a b c : List Int, lx a b = true → lx b c = true → lx a c = true
  | [], [], _, h, _ => by cases h
  | [], _ :: _, [], _, h => by cases h
  | [], _ :: _, _ :: _, _, _ => rfl
  | _ :: _, [], _, h, _ => by cases h
  | _ :: _, _ :: _, [], _, h => by cases h
  | x :: r, y :: s, z :: t, h1, h2 => by
    have h1 : (if x = y then lx r s else decide (x < y)) = true := h1
    have h2 : (if y = z then lx s t else decide (y < z)) = true := h2
    show (if x = z then lx r t else decide (x < z)) = true
    by_cases e : x = y
    · rw [if_pos e] at h1
      by_cases e2 : y = z
      · rw [if_pos e2] at h2
        rw [if_pos (e.trans e2)]; exact lx_trans r s t h1 h2
      · rw [if_neg e2] at h2
        have := of_decide_eq_true h2
        rw [if_neg (by omega)]
        exact decide_eq_true (by omega)
    · rw [if_neg e] at h1
      have q1 := of_decide_eq_true h1
      by_cases e2 : y = z
      · rw [if_neg (by omega)]
        exact decide_eq_true (by omega)
      · rw [if_neg e2] at h2
        have := of_decide_eq_true h2
        rw [if_neg (by omega)]
        exact decide_eq_true (by omega)
theorem lx_tri : ∀ a b : List Int, lx a b = false → lx b a = false → a = b
  | [], [], _, _ => rfl
  | [], _ :: _, h, _ => by cases h
  | _ :: _, [], _, h => by cases h
  | x :: r, y :: s, h1, h2 => by
    have h1 : (if x = y then lx r s else decide (x < y)) = false := h1
    have h2 : (if y = x then lx s r else decide (y < x)) = false := h2
    by_cases e : x = y
    · rw [if_pos e] at h1
      rw [if_pos e.symm] at h2
      rw [e, lx_tri r s h1 h2]
    · rw [if_neg e] at h1
      rw [if_neg (fun q => e q.symm)] at h2
      have := of_decide_eq_false h1
      have := of_decide_eq_false h2
      omega
def LAsc (f : List Lot) : Prop := f.Pairwise fun a b => lx a b = true
instance (f : List Lot) : Decidable (LAsc f) := inferInstanceAs (Decidable (f.Pairwise fun a b => lx a b = true))
theorem LAsc.nodup {f : List Lot} (h : LAsc f) : f.Nodup := List.Pairwise.imp (fun {a b} h e => by subst e; rw [lx_irr] at h; cases h) h
theorem LAsc.ext : ∀ {a b : List Lot}, LAsc a → LAsc b → (∀ x, x ∈ a ↔ x ∈ b) → a = b
  | [], [], _, _, _ => rfl
  | [], y :: s, _, _, h => absurd ((h y).mpr List.mem_cons_self) (by simp)
  | x :: r, [], _, _, h => absurd ((h x).mp List.mem_cons_self) (by simp)
  | x :: r, y :: s, ha, hb, h => by
    have ha' := List.pairwise_cons.mp ha
    have hb' := List.pairwise_cons.mp hb
    have e : x = y := by
      rcases List.mem_cons.mp ((h x).mp List.mem_cons_self) with e | h1
      · exact e
      · rcases List.mem_cons.mp ((h y).mpr List.mem_cons_self) with e | h2
        · exact e.symm
        · have q1 := hb'.1 x h1
          have q2 := ha'.1 y h2
          rw [lx_asym _ _ q2] at q1; cases q1
    subst e
    rw [LAsc.ext ha'.2 hb'.2 fun z => ?_]
    constructor
    · intro hz
      rcases List.mem_cons.mp ((h z).mp (List.mem_cons_of_mem _ hz)) with e | h1
      · subst e
        have q := ha'.1 z hz
        rw [lx_irr] at q; cases q
      · exact h1
    · intro hz
      rcases List.mem_cons.mp ((h z).mpr (List.mem_cons_of_mem _ hz)) with e | h1
      · subst e
        have q := hb'.1 z hz
        rw [lx_irr] at q; cases q
      · exact h1
def insL (x : Lot) : List Lot → List Lot
  | [] => [x]
  | y :: r => if lx x y = true then x :: y :: r else if x = y then y :: r else y :: insL x r
def lsort (l : List Lot) : List Lot := l.foldr insL []
theorem mem_insL {x z : Lot} : ∀ {l : List Lot}, z ∈ insL x l ↔ z = x ∨ z ∈ l
  | [] => by simp [insL]
  | y :: r => by
    unfold insL
    split
    · simp
    · split
      · rename_i e; subst e; simp
      · rw [List.mem_cons, mem_insL, List.mem_cons]
        constructor
        · rintro (h | h | h)
          · exact .inr (.inl h)
          · exact .inl h
          · exact .inr (.inr h)
        · rintro (h | h | h)
          · exact .inr (.inl h)
          · exact .inl h
          · exact .inr (.inr h)
theorem insL_asc {x : Lot} : ∀ {l : List Lot}, LAsc l → LAsc (insL x l)
  | [], _ => List.pairwise_singleton _ _
  | y :: r, h => by
    have h' := List.pairwise_cons.mp h
    unfold insL
    split
    · rename_i hlt
      refine List.pairwise_cons.mpr ⟨fun z hz => ?_, h⟩
      rcases List.mem_cons.mp hz with e | hz
      · rw [e]; exact hlt
      · exact lx_trans _ _ _ hlt (h'.1 z hz)
    · rename_i h1
      split
      · exact h
      · rename_i h2
        refine List.pairwise_cons.mpr ⟨fun z hz => ?_, insL_asc h'.2⟩
        rcases mem_insL.mp hz with e | hz
        · rw [e]
          cases q : lx y x with
          | true => rfl
          | false => exact absurd (lx_tri x y (by cases q2 : lx x y with | true => exact absurd q2 h1 | false => rfl) q) h2
        · exact h'.1 z hz
theorem lsort_asc : ∀ l : List Lot, LAsc (lsort l)
  | [] => List.Pairwise.nil
  | x :: r => insL_asc (lsort_asc r)
theorem mem_lsort {z : Lot} : ∀ {l : List Lot}, z ∈ lsort l ↔ z ∈ l
  | [] => by simp [lsort]
  | x :: r => by
    show z ∈ insL x (lsort r) ↔ _
    rw [mem_insL, mem_lsort, List.mem_cons]
theorem lsort_of {l : List Lot} (h : LAsc l) : lsort l = l := LAsc.ext (lsort_asc l) h fun _ => mem_lsort
end K52
end
section
set_option autoImplicit false
set_option linter.all false
/-! Shares of a day, what can be done with one more day. -/
namespace K52
def gj (js : Jobs) (j : Int) : Int := (js.getD j.toNat (0, [])).1
def dj (js : Jobs) (j : Int) : List Int := (js.getD j.toNat (0, [])).2
def ca (cal : Cal) (d : Int) : Int := cal.getD d.toNat 0
def sumG (js : Jobs) (l : Lot) : Int := (l.map (gj js)).sum
structure Ok (cal : Cal) (js : Jobs) : Prop where
  cal0 : ∀ x ∈ cal, 0 ≤ x
  gift : ∀ j ∈ js, 0 < j.1
  days : ∀ j ∈ js, Asc j.2 ∧ InR cal.length j.2
theorem getD_mem {α : Type} {l : List α} {i : Nat} {d : α} (h : i < l.length) : l.getD i d ∈ l := by
  rw [List.getD_eq_getElem?_getD, List.getElem?_eq_getElem h]
  exact List.getElem_mem h
theorem getD_out {α : Type} {l : List α} {i : Nat} {d : α} (h : ¬ i < l.length) : l.getD i d = d := by
  rw [List.getD_eq_getElem?_getD, List.getElem?_eq_none (by omega)] <;> rfl
section
variable {cal : Cal} {js : Jobs}
theorem Ok.ca0 (ok : Ok cal js) (d : Int) : 0 ≤ ca cal d := by
  unfold ca
  by_cases h : d.toNat < cal.length
  · exact ok.cal0 _ (getD_mem h)
  · rw [getD_out h]; exact Int.le_refl _
theorem Ok.gj0 (ok : Ok cal js) (j : Int) : 0 ≤ gj js j := by
  unfold gj
  by_cases h : j.toNat < js.length
  · exact Int.le_of_lt (ok.gift _ (getD_mem h))
  · rw [getD_out h]; exact Int.le_refl _
theorem Ok.gjp (ok : Ok cal js) {j : Int} (h : 0 ≤ j ∧ j < js.length) : 0 < gj js j := ok.gift _ (getD_mem (by omega))
theorem Ok.djR (ok : Ok cal js) (j : Int) : Asc (dj js j) ∧ InR cal.length (dj js j) := by
  unfold dj
  by_cases h : j.toNat < js.length
  · exact ok.days _ (getD_mem h)
  · rw [getD_out h]; exact ⟨List.Pairwise.nil, fun _ h => by cases h⟩
theorem sumG_nil : sumG js [] = 0 := rfl
theorem sumG_cons {x : Int} {l : Lot} : sumG js (x :: l) = gj js x + sumG js l := by simp [sumG]
theorem sumG_append {a b : Lot} : sumG js (a ++ b) = sumG js a + sumG js b := by simp [sumG]
theorem sumG_nonneg (ok : Ok cal js) : ∀ l : Lot, 0 ≤ sumG js l
  | [] => Int.le_refl _
  | x :: r => by
    rw [sumG_cons]
    have := ok.gj0 x
    have := sumG_nonneg ok r
    omega
theorem sumG_sub (ok : Ok cal js) {a b : Lot} (s : a.Sublist b) : sumG js a ≤ sumG js b := by
  induction s with
  | slnil => exact Int.le_refl _
  | cons x _ ih => rw [sumG_cons]; have := ok.gj0 x; omega
  | cons_cons x _ ih => rw [sumG_cons, sumG_cons]; omega
def CanDay (cal : Cal) (js : Jobs) (day : Int) (S : Lot) : Prop := (∀ j ∈ S, day ∈ dj js j) ∧ sumG js S ≤ ca cal day
theorem CanDay.nil (ok : Ok cal js) (d : Int) : CanDay cal js d [] := ⟨fun _ h => (by cases h), ok.ca0 d⟩
theorem CanDay.sub (ok : Ok cal js) {d : Int} {a b : Lot} (s : a.Sublist b) (h : CanDay cal js d b) : CanDay cal js d a :=
  ⟨fun j hj => h.1 j (s.mem hj), by have := sumG_sub ok s; have := h.2; omega⟩

/-! ### all lots of some jobs that can be done on a day -/
def shareStep (cal : Cal) (js : Jobs) (day : Int) (found : List Lot) (job : Int) : List Lot :=
  if (dj js job).contains day = true then found ++ (found.filter fun lot => decide (sumG js lot ≤ ca cal day - gj js job)).map fun lot => lot ++ [job] else found
def sharesOn (cal : Cal) (js : Jobs) (day : Int) (some : Lot) : List Lot := some.foldl (shareStep cal js day) [[]]
theorem sub_snoc {α : Type} {S pre : List α} {x : α} : S.Sublist (pre ++ [x]) ↔ S.Sublist pre ∨ ∃ T, S = T ++ [x] ∧ T.Sublist pre := by
  rw [List.sublist_append_iff]
  constructor
  · rintro ⟨a, b, rfl, ha, hb⟩
    rcases b with _ | ⟨y, b⟩
    · left; rw [List.append_nil]; exact ha
    · right
      have hl := hb.length_le
      have : b = [] := by
        cases b with
        | nil => rfl
        | cons z r => simp at hl
      subst this
      have : y = x := by simpa using hb
      subst this
      exact ⟨a, rfl, ha⟩
  · rintro (h | ⟨T, rfl, h⟩)
    · exact ⟨S, [], by simp, h, List.nil_sublist _⟩
    · exact ⟨T, [x], rfl, h, List.Sublist.refl _⟩
theorem share_step (ok : Ok cal js) {day : Int} {acc : List Lot} {pre : Lot} {x : Int} (h : ∀ S, S ∈ acc ↔ S.Sublist pre ∧ CanDay cal js day S) :
    ∀ S, S ∈ shareStep cal js day acc x ↔ S.Sublist (pre ++ [x]) ∧ CanDay cal js day S := by
  intro S
  unfold shareStep
  by_cases hx : (dj js x).contains day = true
  · rw [if_pos hx, List.mem_append, List.mem_map, h, sub_snoc]
    have hx' : day ∈ dj js x := by simpa using hx
    constructor
    · rintro (⟨h1, h2⟩ | ⟨T, hT, rfl⟩)
      · exact ⟨.inl h1, h2⟩
      · rw [List.mem_filter, h] at hT
        obtain ⟨⟨h1, h2⟩, h3⟩ := hT
        have h3 := of_decide_eq_true h3
        refine ⟨.inr ⟨T, rfl, h1⟩, fun j hj => ?_, ?_⟩
        · rcases List.mem_append.mp hj with q | q
          · exact h2.1 j q
          · rw [List.mem_singleton.mp q]; exact hx'
        · rw [sumG_append, sumG_cons, sumG_nil]; omega
    · rintro ⟨h1 | ⟨T, rfl, h1⟩, h2⟩
      · exact .inl ⟨h1, h2⟩
      · refine .inr ⟨T, List.mem_filter.mpr ⟨(h T).mpr ⟨h1, h2.sub ok (List.sublist_append_left _ _)⟩, decide_eq_true ?_⟩, rfl⟩
        have := h2.2
        rw [sumG_append, sumG_cons, sumG_nil] at this
        omega
  · rw [if_neg hx, h, sub_snoc]
    constructor
    · rintro ⟨h1, h2⟩; exact ⟨.inl h1, h2⟩
    · rintro ⟨h1 | ⟨T, rfl, h1⟩, h2⟩
      · exact ⟨h1, h2⟩
      · exact absurd (h2.1 x (by simp)) (by simpa using hx)
theorem share_fold (ok : Ok cal js) {day : Int} : ∀ (rest : Lot) (acc : List Lot) (pre : Lot), (∀ S, S ∈ acc ↔ S.Sublist pre ∧ CanDay cal js day S) →
    ∀ S, S ∈ rest.foldl (shareStep cal js day) acc ↔ S.Sublist (pre ++ rest) ∧ CanDay cal js day S
  | [], acc, pre, h => fun S => by rw [List.append_nil]; exact h S
  | x :: r, acc, pre, h => fun S => by
    rw [List.foldl_cons, share_fold ok r _ (pre ++ [x]) (share_step ok h) S, List.append_assoc] <;> rfl
theorem mem_shares (ok : Ok cal js) {day : Int} {some S : Lot} : S ∈ sharesOn cal js day some ↔ S.Sublist some ∧ CanDay cal js day S := by
  have := share_fold ok (day := day) some [[]] [] (fun S => by
    rw [List.mem_singleton]
    constructor
    · rintro rfl; exact ⟨List.nil_sublist _, CanDay.nil ok day⟩
    · rintro ⟨h, _⟩; exact List.sublist_nil.mp h) S
  simpa [sharesOn] using this
theorem shareStep_len (day : Int) (acc : List Lot) (x : Int) : (shareStep cal js day acc x).length ≤ 2 * acc.length := by
  unfold shareStep
  split
  · rw [List.length_append, List.length_map]
    have := List.length_filter_le (fun lot => decide (sumG js lot ≤ ca cal day - gj js x)) acc
    omega
  · omega
theorem share_len (day : Int) : ∀ (some : Lot) (acc : List Lot), (some.foldl (shareStep cal js day) acc).length ≤ 2 ^ some.length * acc.length
  | [], acc => by simp
  | x :: r, acc => by
    rw [List.foldl_cons]
    refine Nat.le_trans (share_len day r _) ?_
    refine Nat.le_trans (Nat.mul_le_mul_left _ (shareStep_len day acc x)) ?_
    rw [List.length_cons, Nat.pow_succ, Nat.mul_assoc]
    exact Nat.le_refl _

/-! ### fronts lead on -/
def isWithin (lot : Lot) (front : List Lot) : Bool := front.any fun other => lot.all fun job => other.contains job
def others (n : Nat) (lot : Lot) : Lot := (rg n).filter fun j => !lot.contains j
def leadsOn (cal : Cal) (js : Jobs) (day : Int) (front later : List Lot) : Bool :=
  front.all fun lot => (sharesOn cal js day (others js.length lot)).all fun share => isWithin (together lot share) later
def lawBoth (n : Nat) (lot share : Lot) : Lot := (rg n).filter fun j => lot.contains j || share.contains j
def lawLeads (cal : Cal) (js : Jobs) (day : Int) (front later : List Lot) : Bool :=
  front.all fun lot => (sharesOn cal js day (rg js.length)).all fun share => isWithin (lawBoth js.length lot share) later
theorem within_iff {lot : Lot} {front : List Lot} : isWithin lot front = true ↔ ∃ o ∈ front, ∀ j ∈ lot, j ∈ o := by
  unfold isWithin
  rw [List.any_eq_true]
  constructor
  · rintro ⟨o, ho, h⟩; exact ⟨o, ho, fun j hj => by simpa using List.all_eq_true.mp h j hj⟩
  · rintro ⟨o, ho, h⟩; exact ⟨o, ho, List.all_eq_true.mpr fun j hj => by simpa using h j hj⟩
theorem within_congr {a b : Lot} {front : List Lot} (h : ∀ x, x ∈ a ↔ x ∈ b) : isWithin a front = isWithin b front := by
  rw [Bool.eq_iff_iff, within_iff, within_iff]
  constructor
  · rintro ⟨o, ho, q⟩; exact ⟨o, ho, fun j hj => q j ((h j).mpr hj)⟩
  · rintro ⟨o, ho, q⟩; exact ⟨o, ho, fun j hj => q j ((h j).mp hj)⟩
theorem mem_others {n : Nat} {lot : Lot} {z : Int} : z ∈ others n lot ↔ (0 ≤ z ∧ z < n) ∧ z ∉ lot := by
  unfold others
  rw [List.mem_filter, mem_rg]; simp
theorem others_asc (n : Nat) (lot : Lot) : Asc (others n lot) := (rg_asc n).filter _
theorem sub_rg {n : Nat} {S : Lot} (h : S.Sublist (rg n)) : Asc S ∧ InR n S := ⟨(rg_asc n).sub h, fun x hx => mem_rg.mp (h.mem hx)⟩
theorem leads_eq (ok : Ok cal js) {day : Int} {front later : List Lot} (hf : ∀ l ∈ front, Asc l ∧ InR js.length l) : leadsOn cal js day front later = lawLeads cal js day front later := by
  rw [Bool.eq_iff_iff]
  unfold leadsOn lawLeads
  rw [List.all_eq_true, List.all_eq_true]
  refine forall_congr' fun lot => forall_congr' fun hl => ?_
  rw [List.all_eq_true, List.all_eq_true]
  obtain ⟨ha, hr⟩ := hf lot hl
  constructor
  · intro h S hS
    obtain ⟨s1, s2⟩ := (mem_shares ok).mp hS
    obtain ⟨sa, sr⟩ := sub_rg s1
    have hT : S.filter (fun j => !lot.contains j) ∈ sharesOn cal js day (others js.length lot) := by
      refine (mem_shares ok).mpr ⟨asc_sublist (sa.filter _) (others_asc _ _) fun x hx => ?_, s2.sub ok List.filter_sublist⟩
      obtain ⟨q1, q2⟩ := List.mem_filter.mp hx
      exact mem_others.mpr ⟨sr x q1, by simpa using q2⟩
    rw [← h _ hT]
    refine within_congr fun x => ?_
    unfold lawBoth
    rw [mem_together, List.mem_filter, mem_rg, List.mem_filter]
    by_cases q : x ∈ lot
    · simp [q, hr x q]
    · simp only [q, false_or, List.contains_eq_mem, decide_false, Bool.false_or, decide_eq_true_eq, Bool.not_false, and_true]
      exact ⟨fun z => z.2, fun z => ⟨sr x z, z⟩⟩
  · intro h S hS
    obtain ⟨s1, s2⟩ := (mem_shares ok).mp hS
    have s3 : S.Sublist (rg js.length) := s1.trans List.filter_sublist
    obtain ⟨sa, sr⟩ := sub_rg s3
    rw [← h S ((mem_shares ok).mpr ⟨s3, s2⟩)]
    refine within_congr fun x => ?_
    unfold lawBoth
    rw [mem_together, List.mem_filter, mem_rg]
    simp only [List.contains_eq_mem, Bool.or_eq_true, decide_eq_true_eq]
    constructor
    · intro z
      refine ⟨?_, z⟩
      rcases z with z | z
      · exact hr x z
      · exact sr x z
    · exact fun z => z.2
end
end K52
end
section
set_option autoImplicit false
set_option linter.all false
/-! What can be done with one more day; in some first days. -/
namespace K52
abbrev Used := List (Lot × Int)
def uget (u : Used) (k : Lot) : Option Int := (u.find? fun p => decide (p.1 = k)).map (·.2)
def uput (u : Used) (k : Lot) (v : Int) : Used := if (u.any fun p => decide (p.1 = k)) = true then u.map (fun p => if p.1 = k then (p.1, v) else p) else u ++ [(k, v)]
theorem uget_mem {u : Used} (nd : (u.map (·.1)).Nodup) {k : Lot} {v : Int} : uget u k = some v ↔ (k, v) ∈ u := by
  induction u with
  | nil => simp [uget]
  | cons p r ih =>
    have nd' := List.nodup_cons.mp nd
    have ih' := ih nd'.2
    unfold uget at ih' ⊢
    rw [List.find?_cons]
    by_cases e : p.1 = k
    · rw [decide_eq_true e]
      simp only [Option.map_some, Option.some.injEq, List.mem_cons]
      constructor
      · intro h; left; rw [← h, ← e]
      · rintro (h | h)
        · rw [← h]
        · exact absurd (List.mem_map.mpr ⟨(k, v), h, rfl⟩) (by rw [← e]; exact nd'.1)
    · rw [decide_eq_false e]
      simp only [ih', List.mem_cons]
      constructor
      · exact .inr
      · rintro (h | h)
        · exact absurd (by rw [← h]) e
        · exact h
theorem uput_mem {u : Used} {k : Lot} {v : Int} {p : Lot × Int} : p ∈ uput u k v ↔ (p = (k, v)) ∨ (p.1 ≠ k ∧ p ∈ u) := by
  unfold uput
  by_cases h : (u.any fun p => decide (p.1 = k)) = true
  · rw [if_pos h, List.mem_map]
    obtain ⟨q, hq, e⟩ := List.any_eq_true.mp h
    have e := of_decide_eq_true e
    constructor
    · rintro ⟨a, ha, rfl⟩
      by_cases z : a.1 = k
      · rw [if_pos z, z]; exact .inl rfl
      · rw [if_neg z]; exact .inr ⟨z, ha⟩
    · rintro (rfl | ⟨z, hp⟩)
      · exact ⟨q, hq, by rw [if_pos e, e]⟩
      · exact ⟨p, hp, by rw [if_neg z]⟩
  · rw [if_neg h, List.mem_append, List.mem_singleton]
    have no : ∀ q ∈ u, q.1 ≠ k := fun q hq e => h (List.any_eq_true.mpr ⟨q, hq, decide_eq_true e⟩)
    constructor
    · rintro (z | z)
      · exact .inr ⟨no p z, z⟩
      · exact .inl z
    · rintro (z | z)
      · exact .inr z
      · exact .inl z.2
theorem uput_keys {u : Used} {k : Lot} {v : Int} : (uput u k v).map (·.1) = if (u.any fun p => decide (p.1 = k)) = true then u.map (·.1) else u.map (·.1) ++ [k] := by
  unfold uput
  by_cases h : (u.any fun p => decide (p.1 = k)) = true
  · rw [if_pos h, if_pos h, List.map_map]
    refine List.map_congr_left fun p _ => ?_
    show (if p.1 = k then (p.1, v) else p).1 = p.1
    split <;> rfl
  · rw [if_neg h, if_neg h, List.map_append] <;> rfl
theorem uput_nd {u : Used} (nd : (u.map (·.1)).Nodup) (k : Lot) (v : Int) : ((uput u k v).map (·.1)).Nodup := by
  rw [uput_keys]
  split
  · exact nd
  · rename_i h
    refine List.nodup_append.mpr ⟨nd, by simp, fun a ha b hb e => ?_⟩
    rw [List.mem_singleton.mp hb] at e
    obtain ⟨p, hp, hpe⟩ := List.mem_map.mp ha
    exact h (List.any_eq_true.mpr ⟨p, hp, decide_eq_true (hpe.trans e)⟩)

section
variable (cal : Cal) (js : Jobs) (day : Int)
def stepLot (job : Int) (u : Used) (lot : Lot) : Used :=
  if (!lot.contains job && decide ((uget u lot).getD 0 + gj js job ≤ ca cal day)) = true then
    uput u (together lot [job]) (min ((uget u (together lot [job])).getD (ca cal day)) ((uget u lot).getD 0 + gj js job))
  else u
def stepJob (u : Used) (job : Int) : Used :=
  if (dj js job).contains day = true then (lsort (u.map (·.1))).foldl (stepLot cal js day job) u else u
def usedOf (done : List Lot) (n : Nat) : Used := (rg n).foldl (stepJob cal js day) (done.map fun l => (l, 0))
def doneLater (done : List Lot) : List Lot := lsort ((usedOf cal js day done js.length).map (·.1))
end
section
variable {cal : Cal} {js : Jobs} {day : Int} {done : List Lot}
/-- S can be added on the day to A -/
def Adds (cal : Cal) (js : Jobs) (day : Int) (k : Int) (A S : Lot) : Prop := Asc S ∧ (∀ x ∈ S, 0 ≤ x ∧ x < k) ∧ (∀ x ∈ S, x ∉ A) ∧ CanDay cal js day S
structure UInv (cal : Cal) (js : Jobs) (day : Int) (done : List Lot) (k : Int) (u : Used) : Prop where
  nd : (u.map (·.1)).Nodup
  asc : ∀ p ∈ u, Asc p.1 ∧ InR js.length p.1
  sound : ∀ p ∈ u, ∃ A ∈ done, ∃ S, Adds cal js day k A S ∧ p.1 = together A S ∧ p.2 = sumG js S
  compl : ∀ A ∈ done, ∀ S, Adds cal js day k A S → ∃ v, (together A S, v) ∈ u ∧ v ≤ sumG js S
theorem Adds.mono {k k' : Int} {A S : Lot} (h : k ≤ k') (a : Adds cal js day k A S) : Adds cal js day k' A S :=
  ⟨a.1, fun x hx => ⟨(a.2.1 x hx).1, by have := (a.2.1 x hx).2; omega⟩, a.2.2⟩
/-- within a job's turn -/
structure UIn (cal : Cal) (js : Jobs) (day : Int) (done : List Lot) (k : Int) (u0 : Used) (pre : List Lot) (u : Used) : Prop where
  nd : (u.map (·.1)).Nodup
  asc : ∀ p ∈ u, Asc p.1 ∧ InR js.length p.1
  keep : ∀ p, k ∉ p.1 → (p ∈ u ↔ p ∈ u0)
  sound : ∀ p ∈ u, ∃ A ∈ done, ∃ S, Adds cal js day (k + 1) A S ∧ p.1 = together A S ∧ p.2 = sumG js S
  old : ∀ p ∈ u0, ∃ v, v ≤ p.2 ∧ (p.1, v) ∈ u
  dn : ∀ lot ∈ pre, k ∉ lot → ∀ v, (lot, v) ∈ u0 → v + gj js k ≤ ca cal day → ∃ w, w ≤ v + gj js k ∧ (together lot [k], w) ∈ u
theorem together_snoc {A S : Lot} {k : Int} (hS : Asc (S ++ [k])) : together (together A S) [k] = together A (S ++ [k]) :=
  Asc.ext (together_asc _ _) (together_asc _ _) fun z => by
    rw [mem_together, mem_together, mem_together, List.mem_append, or_assoc]
theorem asc_snoc {S : Lot} {k : Int} (hS : Asc S) (h : ∀ x ∈ S, x < k) : Asc (S ++ [k]) :=
  List.pairwise_append.mpr ⟨hS, List.pairwise_singleton _ _, fun a ha b hb => by rw [List.mem_singleton.mp hb]; exact h a ha⟩
theorem uin_step (ok : Ok cal js) {k : Int} {u0 u : Used} {pre : List Lot} {lot : Lot} (hk : 0 ≤ k ∧ k < js.length) (hd : day ∈ dj js k) (I0 : UInv cal js day done k u0) (hl : lot ∈ u0.map (·.1))
    (I : UIn cal js day done k u0 pre u) : UIn cal js day done k u0 (pre ++ [lot]) (stepLot cal js day k u lot) := by
  obtain ⟨⟨lot', v0⟩, hp0, e0⟩ := List.mem_map.mp hl
  have e0 : lot' = lot := e0
  subst e0
  unfold stepLot
  by_cases hc : (!lot'.contains k && decide ((uget u lot').getD 0 + gj js k ≤ ca cal day)) = true
  · rw [if_pos hc]
    rw [Bool.and_eq_true] at hc
    have hk' : k ∉ lot' := by simpa using hc.1
    have hin : (lot', v0) ∈ u := (I.keep _ hk').mpr hp0
    have hg : uget u lot' = some v0 := (uget_mem I.nd).mpr hin
    have hle : v0 + gj js k ≤ ca cal day := by
      have := of_decide_eq_true hc.2
      rw [hg] at this; exact this
    rw [hg]
    simp only [Option.getD_some]
    generalize hm : together lot' [k] = more
    have hmk : k ∈ more := by rw [← hm, mem_together]; right; simp
    generalize hv : min ((uget u more).getD (ca cal day)) (v0 + gj js k) = nv
    obtain ⟨A, hA, S, hS, e1, e2⟩ := I.sound _ hin
    have e1 : lot' = together A S := e1
    have e2 : v0 = sumG js S := e2
    have hlow : ∀ x ∈ S, x < k := fun x hx => by
      have h1 := (hS.2.1 x hx).2
      have h2 : x ≠ k := fun z => hk' (by rw [e1, mem_together]; right; rw [← z]; exact hx)
      omega
    have hSk : Asc (S ++ [k]) := asc_snoc hS.1 hlow
    refine ⟨uput_nd I.nd _ _, fun p hp => ?_, fun p hpk => ?_, fun p hp => ?_, fun p hp => ?_, fun l hl2 hkl v hv2 hle2 => ?_⟩
    · rcases uput_mem.mp hp with rfl | ⟨_, hp⟩
      · refine ⟨by show Asc more; rw [← hm]; exact together_asc _ _, fun x hx => ?_⟩
        have hx : x ∈ more := hx
        rw [← hm, mem_together] at hx
        rcases hx with hx | hx
        · exact (I.asc _ hin).2 x hx
        · rw [List.mem_singleton.mp hx]; exact hk
      · exact I.asc p hp
    · rw [uput_mem]
      constructor
      · rintro (rfl | ⟨_, hp⟩)
        · exact absurd hmk hpk
        · exact (I.keep p hpk).mp hp
      · intro hp
        refine .inr ⟨fun z => hpk (by rw [z]; exact hmk), (I.keep p hpk).mpr hp⟩
    · rcases uput_mem.mp hp with rfl | ⟨_, hp⟩
      · -- the new value: the old one, or the lot's and the gifts
        have new : ∃ A ∈ done, ∃ S, Adds cal js day (k + 1) A S ∧ more = together A S ∧ v0 + gj js k = sumG js S := by
          refine ⟨A, hA, S ++ [k], ⟨hSk, fun x hx => ?_, fun x hx => ?_, fun x hx => ?_, ?_⟩, ?_, ?_⟩
          · rcases List.mem_append.mp hx with q | q
            · exact hS.2.1 x q
            · rw [List.mem_singleton.mp q]; omega
          · rcases List.mem_append.mp hx with q | q
            · exact hS.2.2.1 x q
            · rw [List.mem_singleton.mp q]; exact fun z => hk' (by rw [e1, mem_together]; exact .inl z)
          · rcases List.mem_append.mp hx with q | q
            · exact hS.2.2.2.1 x q
            · rw [List.mem_singleton.mp q]; exact hd
          · rw [sumG_append, sumG_cons, sumG_nil]; omega
          · rw [← hm, e1]; exact together_snoc hSk
          · rw [sumG_append, sumG_cons, sumG_nil]; omega
        show ∃ A ∈ done, ∃ S, Adds cal js day (k + 1) A S ∧ more = together A S ∧ nv = sumG js S
        cases hq : uget u more with
        | none =>
          rw [hq] at hv
          have : nv = v0 + gj js k := by
            rw [← hv]; simp only [Option.getD_none]; omega
          rw [this]; exact new
        | some old =>
          rw [hq] at hv
          simp only [Option.getD_some] at hv
          by_cases c : old ≤ v0 + gj js k
          · have : nv = old := by omega
            rw [this]
            exact I.sound _ ((uget_mem I.nd).mp hq)
          · have : nv = v0 + gj js k := by omega
            rw [this]; exact new
      · exact I.sound p hp
    · obtain ⟨v, h1, h2⟩ := I.old p hp
      by_cases c : p.1 = more
      · have hq : uget u more = some v := (uget_mem I.nd).mpr (by rw [← c]; exact h2)
        rw [hq] at hv
        simp only [Option.getD_some] at hv
        exact ⟨nv, by omega, uput_mem.mpr (.inl (by rw [c]))⟩
      · exact ⟨v, h1, uput_mem.mpr (.inr ⟨c, h2⟩)⟩
    · rcases List.mem_append.mp hl2 with q | q
      · obtain ⟨w, h1, h2⟩ := I.dn l q hkl v hv2 hle2
        by_cases c : together l [k] = more
        · have hq : uget u more = some w := (uget_mem I.nd).mpr (by rw [← c]; exact h2)
          rw [hq] at hv
          simp only [Option.getD_some] at hv
          exact ⟨nv, by omega, uput_mem.mpr (.inl (by rw [c]))⟩
        · exact ⟨w, h1, uput_mem.mpr (.inr ⟨c, h2⟩)⟩
      · have q := List.mem_singleton.mp q
        subst q
        have hv3 : v = v0 := by
          have a := (uget_mem I0.nd).mpr hv2
          have b := (uget_mem I0.nd).mpr hp0
          rw [a] at b; exact Option.some.inj b
        subst hv3
        exact ⟨nv, by omega, uput_mem.mpr (.inl (by rw [hm]))⟩
  · rw [if_neg hc]
    refine ⟨I.nd, I.asc, I.keep, I.sound, I.old, fun l hl2 hkl v hv2 hle2 => ?_⟩
    rcases List.mem_append.mp hl2 with q | q
    · exact I.dn l q hkl v hv2 hle2
    · have q := List.mem_singleton.mp q
      subst q
      refine absurd ?_ hc
      have hg : uget u l = some v := (uget_mem I.nd).mpr ((I.keep _ hkl).mpr hv2)
      rw [hg, Bool.and_eq_true]
      exact ⟨by simpa using hkl, decide_eq_true hle2⟩
theorem uin_fold (ok : Ok cal js) {k : Int} {u0 : Used} (hk : 0 ≤ k ∧ k < js.length) (hd : day ∈ dj js k) (I0 : UInv cal js day done k u0) :
    ∀ (rest pre : List Lot) (u : Used), (∀ l ∈ rest, l ∈ u0.map (·.1)) → UIn cal js day done k u0 pre u → UIn cal js day done k u0 (pre ++ rest) (rest.foldl (stepLot cal js day k) u)
  | [], pre, u, _, I => by rw [List.append_nil]; exact I
  | l :: r, pre, u, h, I => by
    rw [List.foldl_cons]
    have := uin_fold ok hk hd I0 r (pre ++ [l]) _ (fun x hx => h x (List.mem_cons_of_mem _ hx)) (uin_step ok hk hd I0 (h l List.mem_cons_self) I)
    rw [List.append_assoc] at this
    exact this
theorem uinv_step (ok : Ok cal js) {k : Int} {u : Used} (hk : 0 ≤ k ∧ k < js.length) (I : UInv cal js day done k u) : UInv cal js day done (k + 1) (stepJob cal js day u k) := by
  unfold stepJob
  by_cases hd : (dj js k).contains day = true
  · rw [if_pos hd]
    have hd : day ∈ dj js k := by simpa using hd
    have J := uin_fold ok hk hd I (lsort (u.map (·.1))) [] u (fun l hl => mem_lsort.mp hl)
      ⟨I.nd, I.asc, fun _ _ => Iff.rfl, fun p hp => by
        obtain ⟨A, hA, S, hS, e⟩ := I.sound p hp
        exact ⟨A, hA, S, hS.mono (by omega), e⟩, fun p hp => ⟨p.2, Int.le_refl _, hp⟩, fun l hl => by cases hl⟩
    rw [List.nil_append] at J
    refine ⟨J.nd, J.asc, J.sound, fun A hA S hS => ?_⟩
    by_cases hkS : k ∈ S
    · have hT : Adds cal js day k A (S.filter fun x => decide (x ≠ k)) := by
        refine ⟨hS.1.filter _, fun x hx => ?_, fun x hx => hS.2.2.1 x (List.mem_filter.mp hx).1, hS.2.2.2.sub ok List.filter_sublist⟩
        obtain ⟨h1, h2⟩ := List.mem_filter.mp hx
        have := hS.2.1 x h1
        have : x ≠ k := of_decide_eq_true h2
        omega
      generalize hTe : (S.filter fun x => decide (x ≠ k)) = T at hT
      have hTS : S = T ++ [k] := Asc.ext hS.1 (asc_snoc hT.1 fun x hx => (hT.2.1 x hx).2) fun z => by
        rw [← hTe, List.mem_append, List.mem_filter, List.mem_singleton]
        by_cases e : z = k
        · subst e; simp [hkS]
        · simp [e]
      obtain ⟨v, h1, h2⟩ := I.compl A hA T hT
      have hkn : k ∉ together A T := fun z => by
        rcases mem_together.mp z with q | q
        · exact hS.2.2.1 k hkS q
        · exact absurd (hT.2.1 k q).2 (Int.lt_irrefl _)
      have hs : sumG js S = sumG js T + gj js k := by rw [hTS, sumG_append, sumG_cons, sumG_nil]; omega
      have hle := hS.2.2.2.2
      obtain ⟨w, q1, q2⟩ := J.dn (together A T) (mem_lsort.mpr (List.mem_map.mpr ⟨_, h1, rfl⟩)) hkn v h1 (by omega)
      refine ⟨w, ?_, by omega⟩
      rw [hTS, ← together_snoc (by rw [← hTS]; exact hS.1)]
      exact q2
    · have hS' : Adds cal js day k A S := ⟨hS.1, fun x hx => by
        have := hS.2.1 x hx
        have : x ≠ k := fun z => hkS (by rw [← z]; exact hx)
        omega, hS.2.2⟩
      obtain ⟨v, h1, h2⟩ := I.compl A hA S hS'
      obtain ⟨w, q1, q2⟩ := J.old _ h1
      have q1 : w ≤ v := q1
      exact ⟨w, q2, by omega⟩
  · rw [if_neg hd]
    refine ⟨I.nd, I.asc, fun p hp => ?_, fun A hA S hS => ?_⟩
    · obtain ⟨A, hA, S, hS, e⟩ := I.sound p hp
      exact ⟨A, hA, S, hS.mono (by omega), e⟩
    · refine I.compl A hA S ⟨hS.1, fun x hx => ?_, hS.2.2⟩
      have := hS.2.1 x hx
      have : x ≠ k := fun z => hd (by subst z; simpa using hS.2.2.2.1 x hx)
      omega
/-- lots that stand well -/
def Lots (n : Nat) (done : List Lot) : Prop := LAsc done ∧ ∀ l ∈ done, Asc l ∧ InR n l
theorem uinv_zero (ok : Ok cal js) (hd : Lots js.length done) : UInv cal js day done 0 (done.map fun l => (l, 0)) := by
  have e : (done.map fun l => ((l, 0) : Lot × Int)).map (·.1) = done := by rw [List.map_map]; exact List.map_id _
  refine ⟨by rw [e]; exact hd.1.nodup, fun p hp => ?_, fun p hp => ?_, fun A hA S hS => ?_⟩
  · obtain ⟨l, hl, rfl⟩ := List.mem_map.mp hp
    exact hd.2 l hl
  · obtain ⟨l, hl, rfl⟩ := List.mem_map.mp hp
    exact ⟨l, hl, [], ⟨List.Pairwise.nil, fun _ h => (by cases h), fun _ h => (by cases h), CanDay.nil ok day⟩, (together_nil (hd.2 l hl).1).symm, rfl⟩
  · have : S = [] := by
      cases S with
      | nil => rfl
      | cons x r => have := hS.2.1 x List.mem_cons_self; omega
    subst this
    exact ⟨0, List.mem_map.mpr ⟨A, hA, by rw [together_nil (hd.2 A hA).1]⟩, Int.le_refl _⟩
theorem uinv_all (ok : Ok cal js) (hd : Lots js.length done) : ∀ n : Nat, n ≤ js.length → UInv cal js day done n (usedOf cal js day done n)
  | 0, _ => uinv_zero ok hd
  | n + 1, h => by
    unfold usedOf
    rw [rg_succ, List.foldl_append]
    have := uinv_step ok (k := (n : Int)) ⟨by omega, by omega⟩ (uinv_all ok hd n (by omega))
    have e : ((n + 1 : Nat) : Int) = (n : Int) + 1 := by omega
    rw [e]
    exact this
theorem doneLater_lots (ok : Ok cal js) (hd : Lots js.length done) : Lots js.length (doneLater cal js day done) := by
  have I := uinv_all (day := day) ok hd js.length (Nat.le_refl _)
  refine ⟨lsort_asc _, fun l hl => ?_⟩
  obtain ⟨p, hp, rfl⟩ := List.mem_map.mp (mem_lsort.mp hl)
  exact I.asc p hp
theorem mem_doneLater (ok : Ok cal js) (hd : Lots js.length done) {L : Lot} : L ∈ doneLater cal js day done ↔ ∃ A ∈ done, ∃ S, Adds cal js day js.length A S ∧ L = together A S := by
  have I := uinv_all (day := day) ok hd js.length (Nat.le_refl _)
  unfold doneLater
  rw [mem_lsort, List.mem_map]
  constructor
  · rintro ⟨p, hp, rfl⟩
    obtain ⟨A, hA, S, hS, e, _⟩ := I.sound p hp
    exact ⟨A, hA, S, hS, e⟩
  · rintro ⟨A, hA, S, hS, rfl⟩
    obtain ⟨v, h1, _⟩ := I.compl A hA S hS
    exact ⟨_, h1, rfl⟩

/-! ### in some first days -/
def doneAt (cal : Cal) (js : Jobs) : Nat → List Lot
  | 0 => [[]]
  | k + 1 => doneLater cal js k (doneAt cal js k)
def doneDays (cal : Cal) (js : Jobs) (days : Nat) : List (List Lot) := (List.range (days + 1)).map (doneAt cal js)
def Doable (cal : Cal) (js : Jobs) : Nat → Lot → Prop
  | 0, L => L = []
  | k + 1, L => ∃ A, Doable cal js k A ∧ ∃ S, Adds cal js k js.length A S ∧ L = together A S
theorem doneAt_lots (ok : Ok cal js) : ∀ k, Lots js.length (doneAt cal js k)
  | 0 => ⟨List.pairwise_singleton _ _, fun l hl => by rw [List.mem_singleton.mp hl]; exact ⟨List.Pairwise.nil, fun _ h => by cases h⟩⟩
  | k + 1 => doneLater_lots ok (doneAt_lots ok k)
theorem mem_doneAt (ok : Ok cal js) : ∀ (k : Nat) (L : Lot), L ∈ doneAt cal js k ↔ Doable cal js k L
  | 0, L => List.mem_singleton
  | k + 1, L => by
    show L ∈ doneLater cal js k (doneAt cal js k) ↔ _
    rw [mem_doneLater ok (doneAt_lots ok k)]
    constructor
    · rintro ⟨A, hA, r⟩; exact ⟨A, (mem_doneAt ok k A).mp hA, r⟩
    · rintro ⟨A, hA, r⟩; exact ⟨A, (mem_doneAt ok k A).mpr hA, r⟩
theorem nil_doneAt (ok : Ok cal js) : ∀ k, Doable cal js k []
  | 0 => rfl
  | k + 1 => ⟨[], nil_doneAt ok k, [], ⟨List.Pairwise.nil, fun _ h => (by cases h), fun _ h => (by cases h), CanDay.nil ok _⟩, (together_nil List.Pairwise.nil).symm⟩
end
end K52
end
section
set_option autoImplicit false
set_option linter.all false
/-! Timetables, and all ways by trying. -/
namespace K52
section
variable (cal : Cal) (js : Jobs)
def rest (lot ahead : Lot) : Lot := lot.filter fun j => !ahead.contains j
def canB (day : Int) (lot : Lot) : Bool := (lot.all fun j => (dj js j).contains day) && decide (sumG js lot ≤ ca cal day)
def shareOn (day : Int) (lot : Lot) (done : List Lot) : Lot := (done.find? fun ahead => decide (together ahead (rest lot ahead) = lot) && canB cal js day (rest lot ahead)).getD lot
def setStep (ahead : Lot) (day : Int) (t : List Int) (job : Int) : List Int := if (!ahead.contains job) = true then t.set job.toNat day else t
def setAll (t : List Int) (lot ahead : Lot) (day : Int) : List Int := lot.foldl (setStep ahead day) t
def tableStep (st : Lot × List Int) (day : Nat) : Lot × List Int := (shareOn cal js day st.1 (doneAt cal js day), setAll st.2 st.1 (shareOn cal js day st.1 (doneAt cal js day)) day)
def tableOf (days : Nat) : List Int := ((List.range days).reverse.foldl (tableStep cal js) (rg js.length, List.replicate js.length 0)).2
def timetable (days : Nat) : Option (List Int) := if (doneAt cal js days).contains (rg js.length) = true then some (tableOf cal js days) else none
end
def tj (t : List Int) (j : Int) : Int := t.getD j.toNat 0
def loadT (js : Jobs) (t : List Int) (x : Int) : Int := sumG js ((rg t.length).filter fun j => decide (tj t j = x))
structure Table (cal : Cal) (js : Jobs) (d : Nat) (t : List Int) : Prop where
  len : t.length = js.length
  day : ∀ j ∈ rg js.length, tj t j ∈ dj js j ∧ 0 ≤ tj t j ∧ tj t j < d
  room : ∀ x : Int, 0 ≤ x → loadT js t x ≤ ca cal x
section
variable {cal : Cal} {js : Jobs}
theorem setStep_len {a : Lot} {d : Int} {t : List Int} {j : Int} : (setStep a d t j).length = t.length := by
  unfold setStep
  split
  · exact List.length_set
  · rfl
theorem setAll_len {a : Lot} {d : Int} : ∀ (lot : Lot) (t : List Int), (setAll t lot a d).length = t.length
  | [], t => rfl
  | x :: r, t => by
    show (setAll (setStep a d t x) r a d).length = _
    rw [setAll_len r, setStep_len]
theorem setStep_at {a : Lot} {d : Int} {t : List Int} {j x : Int} (hj : 0 ≤ j ∧ j < t.length) (hx : 0 ≤ x) : tj (setStep a d t x) j = if x = j ∧ x ∉ a then d else tj t j := by
  unfold setStep
  by_cases h : (!a.contains x) = true
  · rw [if_pos h]
    have h' : x ∉ a := by simpa using h
    unfold tj
    rw [List.getD_eq_getElem?_getD, List.getD_eq_getElem?_getD]
    by_cases e : x = j
    · subst e
      rw [if_pos ⟨rfl, h'⟩, List.getElem?_set_self (by omega)] <;> rfl
    · rw [if_neg (fun z => e z.1), List.getElem?_set_ne (by omega)]
  · rw [if_neg h, if_neg]
    intro z
    exact h (by simpa using z.2)
theorem setAll_at {a : Lot} {d : Int} {j : Int} : ∀ (lot : Lot) (t : List Int), (0 ≤ j ∧ j < t.length) → (∀ x ∈ lot, 0 ≤ x) → tj (setAll t lot a d) j = if j ∈ lot ∧ j ∉ a then d else tj t j
  | [], t, _, _ => by rw [if_neg (by simp)] <;> rfl
  | x :: r, t, hj, hx => by
    show tj (setAll (setStep a d t x) r a d) j = _
    rw [setAll_at r _ (by rw [setStep_len]; exact hj) fun z hz => hx z (List.mem_cons_of_mem _ hz), setStep_at hj (hx x List.mem_cons_self)]
    by_cases ha : j ∈ a
    · rw [if_neg (fun z => z.2 ha), if_neg (fun z => z.2 (by rw [z.1]; exact ha)), if_neg (fun z => z.2 ha)]
    · by_cases hr : j ∈ r
      · rw [if_pos ⟨hr, ha⟩, if_pos ⟨List.mem_cons_of_mem _ hr, ha⟩]
      · rw [if_neg (fun z => hr z.1)]
        by_cases e : x = j
        · subst e
          rw [if_pos ⟨rfl, ha⟩, if_pos ⟨List.mem_cons_self, ha⟩]
        · rw [if_neg (fun z => e z.1), if_neg]
          rintro ⟨z, _⟩
          rcases List.mem_cons.mp z with q | q
          · exact e q.symm
          · exact hr q
theorem canB_iff {day : Int} {lot : Lot} : canB cal js day lot = true ↔ CanDay cal js day lot := by
  unfold canB CanDay
  rw [Bool.and_eq_true, List.all_eq_true, decide_eq_true_eq]
  simp
theorem shareOn_ok (ok : Ok cal js) {d : Nat} {lot : Lot} (h : Doable cal js (d + 1) lot) :
    Doable cal js d (shareOn cal js d lot (doneAt cal js d)) ∧ together (shareOn cal js d lot (doneAt cal js d)) (rest lot (shareOn cal js d lot (doneAt cal js d))) = lot ∧
      CanDay cal js d (rest lot (shareOn cal js d lot (doneAt cal js d))) := by
  obtain ⟨A, hA, S, hS, e⟩ := h
  have hA' := (mem_doneAt ok d A).mpr hA
  have hAa := ((doneAt_lots ok d).2 A hA').1
  have er : rest lot A = S := by
    unfold rest
    refine Asc.ext ?_ hS.1 fun z => ?_
    · rw [e]; exact (together_asc _ _).filter _
    · rw [List.mem_filter, e, mem_together]
      constructor
      · rintro ⟨h1 | h1, h2⟩
        · exact absurd h1 (by simpa using h2)
        · exact h1
      · intro hz; exact ⟨.inr hz, by simpa using hS.2.2.1 z hz⟩
  unfold shareOn
  cases q : (doneAt cal js d).find? fun ahead => decide (together ahead (rest lot ahead) = lot) && canB cal js d (rest lot ahead) with
  | none =>
    have := List.find?_eq_none.mp q A hA'
    rw [er, decide_eq_true e.symm, canB_iff.mpr hS.2.2.2] at this
    exact absurd rfl this
  | some a =>
    have h1 := List.find?_some q
    rw [Bool.and_eq_true] at h1
    have h2 := List.mem_of_find?_eq_some q
    exact ⟨(mem_doneAt ok d a).mp h2, of_decide_eq_true h1.1, canB_iff.mp h1.2⟩
structure TInv (cal : Cal) (js : Jobs) (D d : Nat) (lot : Lot) (t : List Int) : Prop where
  len : t.length = js.length
  can : Doable cal js d lot
  day : ∀ j ∈ rg js.length, j ∉ lot → (d : Int) ≤ tj t j ∧ tj t j < D ∧ tj t j ∈ dj js j
  room : ∀ x : Int, (d : Int) ≤ x → sumG js ((rg js.length).filter fun j => decide (j ∉ lot ∧ tj t j = x)) ≤ ca cal x
theorem filter_eq {n : Nat} {p q : Int → Bool} (h : ∀ j ∈ rg n, p j = q j) : (rg n).filter p = (rg n).filter q := List.filter_congr h
theorem doable_lots (ok : Ok cal js) {k : Nat} {L : Lot} (h : Doable cal js k L) : Asc L ∧ InR js.length L := (doneAt_lots ok k).2 L ((mem_doneAt ok k L).mpr h)
theorem tinv_step (ok : Ok cal js) {D d : Nat} (hd : d < D) {lot : Lot} {t : List Int} (I : TInv cal js D (d + 1) lot t) :
    TInv cal js D d (tableStep cal js (lot, t) d).1 (tableStep cal js (lot, t) d).2 := by
  obtain ⟨h1, h2, h3⟩ := shareOn_ok ok I.can
  obtain ⟨la, lr⟩ := doable_lots ok I.can
  show TInv cal js D d (shareOn cal js d lot (doneAt cal js d)) (setAll t lot (shareOn cal js d lot (doneAt cal js d)) d)
  generalize shareOn cal js d lot (doneAt cal js d) = a at h1 h2 h3 ⊢
  have sub : ∀ z ∈ a, z ∈ lot := fun z hz => by rw [← h2, mem_together]; exact .inl hz
  have at_ : ∀ j ∈ rg js.length, tj (setAll t lot a d) j = if j ∈ lot ∧ j ∉ a then (d : Int) else tj t j := fun j hj =>
    setAll_at lot t (by rw [I.len]; exact mem_rg.mp hj) fun x hx => (lr x hx).1
  refine ⟨by rw [setAll_len, I.len], h1, fun j hj hja => ?_, fun x hx => ?_⟩
  · rw [at_ j hj]
    by_cases hl : j ∈ lot
    · rw [if_pos ⟨hl, hja⟩]
      exact ⟨Int.le_refl _, by omega, h3.1 j (List.mem_filter.mpr ⟨hl, by simpa using hja⟩)⟩
    · rw [if_neg (fun z => hl z.1)]
      obtain ⟨q1, q2, q3⟩ := I.day j hj hl
      exact ⟨by omega, q2, q3⟩
  · by_cases e : x = d
    · subst e
      have : ((rg js.length).filter fun j => decide (j ∉ a ∧ tj (setAll t lot a d) j = (d : Int))) = rest lot a := by
        refine Asc.ext ((rg_asc _).filter _) (la.filter _) fun z => ?_
        unfold rest
        rw [List.mem_filter, mem_rg, List.mem_filter, decide_eq_true_eq]
        constructor
        · rintro ⟨z1, z2, z3⟩
          rw [at_ z (mem_rg.mpr z1)] at z3
          by_cases hl : z ∈ lot
          · exact ⟨hl, by simpa using z2⟩
          · rw [if_neg (fun q => hl q.1)] at z3
            have := (I.day z (mem_rg.mpr z1) hl).1
            omega
        · rintro ⟨z1, z2⟩
          have z2 : z ∉ a := by simpa using z2
          refine ⟨lr z z1, z2, ?_⟩
          rw [at_ z (mem_rg.mpr (lr z z1)), if_pos ⟨z1, z2⟩]
      rw [this]
      exact h3.2
    · refine Int.le_trans (Int.le_of_eq ?_) (I.room x (by omega))
      congr 1
      refine filter_eq fun j hj => ?_
      rw [at_ j hj]
      by_cases hl : j ∈ lot
      · by_cases ha : j ∈ a
        · simp [hl, ha]
        · simp [hl, ha]; omega
      · have ha : j ∉ a := fun z => hl (sub j z)
        simp [hl, ha]
theorem tinv_down (ok : Ok cal js) {D : Nat} : ∀ (d : Nat), d ≤ D → ∀ (st : Lot × List Int), TInv cal js D d st.1 st.2 →
    TInv cal js D 0 ((List.range d).reverse.foldl (tableStep cal js) st).1 ((List.range d).reverse.foldl (tableStep cal js) st).2
  | 0, _, st, I => I
  | d + 1, h, st, I => by
    rw [List.range_succ, List.reverse_append]
    exact tinv_down ok d (by omega) _ (tinv_step ok (by omega) (lot := st.1) (t := st.2) I)
theorem tableOf_ok (ok : Ok cal js) {d : Nat} (h : Doable cal js d (rg js.length)) : Table cal js d (tableOf cal js d) := by
  have I0 : TInv cal js d d (rg js.length) (List.replicate js.length 0) := by
    refine ⟨List.length_replicate, h, fun j hj hn => absurd hj hn, fun x _ => ?_⟩
    have : ((rg js.length).filter fun j => decide (j ∉ rg js.length ∧ tj (List.replicate js.length 0) j = x)) = [] := by
      rw [List.filter_eq_nil_iff]
      intro a ha
      simp [ha]
    rw [this]; exact ok.ca0 x
  have I := tinv_down ok d (Nat.le_refl _) (rg js.length, List.replicate js.length 0) I0
  unfold tableOf
  generalize (List.range d).reverse.foldl (tableStep cal js) (rg js.length, List.replicate js.length 0) = st at I
  obtain ⟨lot, t⟩ := st
  have e : lot = [] := I.can
  subst e
  refine ⟨I.len, fun j hj => ?_, fun x hx => ?_⟩
  · obtain ⟨q1, q2, q3⟩ := I.day j hj (by simp)
    exact ⟨q3, by omega, q2⟩
  · have := I.room x (by omega)
    unfold loadT
    rw [I.len]
    simpa using this

/-! ### all ways -/
def load (js : Jobs) (s : List (Option Int)) (x : Int) : Int := sumG js ((rg s.length).filter fun j => decide (s.getD j.toNat none = some x))
def sharedStep (cal : Cal) (js : Jobs) (found : List (List (Option Int))) (at_ : Nat) : List (List (Option Int)) :=
  found.flatMap fun s => (s ++ [none]) :: ((dj js at_).filter fun day => decide (load js s day + gj js at_ ≤ ca cal day)).map fun day => s ++ [some day]
def sharedK (cal : Cal) (js : Jobs) (k : Nat) : List (List (Option Int)) := (List.range k).foldl (sharedStep cal js) [[]]
structure Part (cal : Cal) (js : Jobs) (k : Nat) (s : List (Option Int)) : Prop where
  len : s.length = k
  day : ∀ (i : Nat) (x : Int), s[i]? = some (some x) → x ∈ dj js i
  room : ∀ x : Int, load js s x ≤ ca cal x
theorem getD_snoc_lt {α : Type} {s : List α} {o d : α} {i : Nat} (h : i < s.length) : (s ++ [o]).getD i d = s.getD i d := by
  rw [List.getD_eq_getElem?_getD, List.getD_eq_getElem?_getD, List.getElem?_append_left h]
theorem getD_snoc_eq {α : Type} {s : List α} {o d : α} : (s ++ [o]).getD s.length d = o := by
  rw [List.getD_eq_getElem?_getD, List.getElem?_append_right (Nat.le_refl _)]
  simp
theorem load_snoc {s : List (Option Int)} {o : Option Int} {x : Int} : load js (s ++ [o]) x = load js s x + if o = some x then gj js s.length else 0 := by
  unfold load
  rw [List.length_append, List.length_singleton, rg_succ, List.filter_append, sumG_append]
  congr 1
  · congr 1
    refine filter_eq fun j hj => ?_
    have := mem_rg.mp hj
    rw [getD_snoc_lt (by omega)]
  · rw [List.filter_cons]
    rw [show ((s.length : Int)).toNat = s.length by omega, getD_snoc_eq]
    by_cases e : o = some x
    · rw [if_pos (decide_eq_true e), if_pos e]
      show sumG js [((s.length : Nat) : Int)] = _
      rw [sumG_cons, sumG_nil, Int.add_zero]
    · rw [if_neg (by rw [decide_eq_false e]; decide), if_neg e] <;> rfl
theorem part_snoc (ok : Ok cal js) {k : Nat} {s : List (Option Int)} {o : Option Int} : Part cal js (k + 1) (s ++ [o]) ↔ Part cal js k s ∧ (o = none ∨ ∃ x, o = some x ∧ x ∈ dj js k ∧ load js s x + gj js k ≤ ca cal x) := by
  constructor
  · intro P
    have hl : s.length = k := by have := P.len; rw [List.length_append, List.length_singleton] at this; omega
    subst hl
    have le : ∀ x, load js s x ≤ load js (s ++ [o]) x := fun x => by
      rw [load_snoc]
      have := ok.gj0 (s.length : Int)
      split <;> omega
    refine ⟨⟨rfl, fun i x h => P.day i x (by rw [List.getElem?_append_left (by obtain ⟨z, _⟩ := List.getElem?_eq_some_iff.mp h; exact z)]; exact h), fun x => Int.le_trans (le x) (P.room x)⟩, ?_⟩
    cases o with
    | none => exact .inl rfl
    | some x =>
      refine .inr ⟨x, rfl, P.day s.length x (by simp), ?_⟩
      have := P.room x
      rw [load_snoc, if_pos rfl] at this
      exact this
  · rintro ⟨P, h⟩
    have hl := P.len
    subst hl
    refine ⟨by simp, fun i x e => ?_, fun x => ?_⟩
    · by_cases hi : i < s.length
      · rw [List.getElem?_append_left hi] at e
        exact P.day i x e
      · have hi' : i = s.length := by
          obtain ⟨z, _⟩ := List.getElem?_eq_some_iff.mp e
          rw [List.length_append, List.length_singleton] at z
          omega
        subst hi'
        have e : o = some x := by simpa using e
        rcases h with h | ⟨y, h, hd, _⟩
        · rw [h] at e; cases e
        · rw [h] at e; cases e; exact hd
    · rw [load_snoc]
      by_cases e : o = some x
      · rw [if_pos e]
        rcases h with h | ⟨y, h, _, hr⟩
        · rw [h] at e; cases e
        · rw [h] at e; cases e; exact hr
      · rw [if_neg e]; have := P.room x; omega
theorem part_zero (ok : Ok cal js) : Part cal js 0 [] := ⟨rfl, fun i x h => (by simp at h), fun x => ok.ca0 x⟩
theorem snoc_of {α : Type} : ∀ {s : List α} {k : Nat}, s.length = k + 1 → ∃ t o, s = t ++ [o] := fun {s k} h => by
  have hn : s ≠ [] := by intro e; subst e; simp at h
  exact ⟨s.dropLast, s.getLast hn, (List.dropLast_concat_getLast hn).symm⟩
theorem mem_sharedK (ok : Ok cal js) : ∀ (k : Nat) (s : List (Option Int)), s ∈ sharedK cal js k ↔ Part cal js k s
  | 0, s => by
    show s ∈ [[]] ↔ _
    rw [List.mem_singleton]
    constructor
    · rintro rfl; exact part_zero ok
    · intro P; exact List.eq_nil_of_length_eq_zero P.len
  | k + 1, s => by
    unfold sharedK
    rw [List.range_succ, List.foldl_append]
    show s ∈ sharedStep cal js (sharedK cal js k) k ↔ _
    unfold sharedStep
    rw [List.mem_flatMap]
    constructor
    · rintro ⟨t, ht, hs⟩
      have P := (mem_sharedK ok k t).mp ht
      rcases List.mem_cons.mp hs with rfl | hs
      · exact (part_snoc ok).mpr ⟨P, .inl rfl⟩
      · obtain ⟨x, hx, rfl⟩ := List.mem_map.mp hs
        obtain ⟨h1, h2⟩ := List.mem_filter.mp hx
        exact (part_snoc ok).mpr ⟨P, .inr ⟨x, rfl, h1, of_decide_eq_true h2⟩⟩
    · intro P
      obtain ⟨t, o, rfl⟩ := snoc_of P.len
      obtain ⟨P', h⟩ := (part_snoc ok).mp P
      refine ⟨t, (mem_sharedK ok k t).mpr P', ?_⟩
      rcases h with rfl | ⟨x, rfl, h1, h2⟩
      · exact List.mem_cons_self
      · exact List.mem_cons_of_mem _ (List.mem_map.mpr ⟨x, List.mem_filter.mpr ⟨h1, decide_eq_true h2⟩, rfl⟩)
def tables (cal : Cal) (js : Jobs) : List (List (Option Int)) := (sharedK cal js js.length).filter fun s => !s.contains none
def within (cal : Cal) (js : Jobs) (d : Int) : List (List (Option Int)) := (tables cal js).filter fun s => s.all fun o => decide (o.getD 0 < d)
def lotK (n : Nat) (s : List (Option Int)) (k : Nat) : Lot := (rg n).filter fun j => match s.getD j.toNat none with
  | some x => decide (x < k)
  | none => false
theorem mem_lotK {n : Nat} {s : List (Option Int)} {k : Nat} {j : Int} : j ∈ lotK n s k ↔ (0 ≤ j ∧ j < n) ∧ ∃ x, s.getD j.toNat none = some x ∧ x < k := by
  unfold lotK
  rw [List.mem_filter, mem_rg]
  cases s.getD j.toNat none with
  | none => simp
  | some x => simp
theorem part_doable (ok : Ok cal js) {s : List (Option Int)} (P : Part cal js js.length s) : ∀ k : Nat, Doable cal js k (lotK js.length s k) := by
  have inD : ∀ j : Int, (0 ≤ j ∧ j < js.length) → ∀ x, s.getD j.toNat none = some x → x ∈ dj js j := fun j hj x e => by
    have hl : j.toNat < s.length := by rw [P.len]; omega
    rw [List.getD_eq_getElem?_getD, List.getElem?_eq_getElem hl] at e
    have e : s[j.toNat] = some x := e
    have := P.day j.toNat x (by rw [List.getElem?_eq_getElem hl, e])
    rw [show ((j.toNat : Nat) : Int) = j by omega] at this
    exact this
  intro k
  induction k with
  | zero =>
    show _ = []
    refine List.eq_nil_iff_forall_not_mem.mpr fun j hj => ?_
    obtain ⟨h1, x, h2, h3⟩ := mem_lotK.mp hj
    have := ((ok.djR j).2 x (inD j h1 x h2)).1
    omega
  | succ k ih =>
    refine ⟨_, ih, (rg js.length).filter (fun j => decide (s.getD j.toNat none = some (k : Int))), ⟨(rg_asc _).filter _, fun x hx => mem_rg.mp (List.mem_filter.mp hx).1, fun x hx hn => ?_, fun x hx => ?_, ?_⟩, ?_⟩
    · have h1 := of_decide_eq_true (List.mem_filter.mp hx).2
      obtain ⟨_, y, h2, h3⟩ := mem_lotK.mp hn
      rw [h1] at h2; cases h2; omega
    · have h1 := of_decide_eq_true (List.mem_filter.mp hx).2
      exact inD x (mem_rg.mp (List.mem_filter.mp hx).1) _ h1
    · have := P.room k
      unfold load at this
      rw [P.len] at this
      exact this
    · refine Asc.ext ((rg_asc _).filter _) (together_asc _ _) fun j => ?_
      rw [mem_together, mem_lotK, mem_lotK, List.mem_filter, mem_rg, decide_eq_true_eq]
      constructor
      · rintro ⟨h1, x, h2, h3⟩
        by_cases e : x = k
        · subst e; exact .inr ⟨h1, h2⟩
        · exact .inl ⟨h1, x, h2, by omega⟩
      · rintro (⟨h1, x, h2, h3⟩ | ⟨h1, h2⟩)
        · exact ⟨h1, x, h2, by omega⟩
        · exact ⟨h1, k, h2, by omega⟩
theorem tj_at {t : List Int} {j : Int} (h : 0 ≤ j ∧ j < t.length) : (t.map some).getD j.toNat none = some (tj t j) := by
  unfold tj
  rw [List.getD_eq_getElem?_getD, List.getD_eq_getElem?_getD, List.getElem?_map, List.getElem?_eq_getElem (by omega)] <;> rfl
theorem load_map {t : List Int} {x : Int} : load js (t.map some) x = loadT js t x := by
  unfold load loadT
  rw [List.length_map]
  congr 1
  refine filter_eq fun j hj => ?_
  rw [tj_at (mem_rg.mp hj)]
  simp
theorem table_part (ok : Ok cal js) {d : Nat} {t : List Int} (T : Table cal js d t) : Part cal js js.length (t.map some) := by
  refine ⟨by rw [List.length_map]; exact T.len, fun i x e => ?_, fun x => ?_⟩
  · rw [List.getElem?_map] at e
    obtain ⟨y, h1, h2⟩ := Option.map_eq_some_iff.mp e
    cases h2
    obtain ⟨hi, h1'⟩ := List.getElem?_eq_some_iff.mp h1
    have := (T.day i (mem_rg.mpr ⟨by omega, by have := T.len; omega⟩)).1
    unfold tj at this
    rw [show ((i : Nat) : Int).toNat = i by omega, List.getD_eq_getElem?_getD, h1] at this
    exact this
  · rw [load_map]
    by_cases hx : 0 ≤ x
    · exact T.room x hx
    · have : loadT js t x = 0 := by
        unfold loadT
        have : ((rg t.length).filter fun j => decide (tj t j = x)) = [] := by
          rw [List.filter_eq_nil_iff]
          intro j hj
          have := (T.day j (by rw [← T.len]; exact hj)).2.1
          simp; omega
        rw [this]; rfl
      rw [this]; exact ok.ca0 x
theorem mem_within (ok : Ok cal js) {d : Nat} {s : List (Option Int)} : s ∈ within cal js d ↔ Part cal js js.length s ∧ none ∉ s ∧ ∀ o ∈ s, o.getD 0 < d := by
  unfold within tables
  rw [List.mem_filter, List.mem_filter, mem_sharedK ok, List.all_eq_true]
  simp only [List.contains_eq_mem, Bool.not_eq_true', decide_eq_false_iff_not, decide_eq_true_eq, and_assoc]
theorem within_doable (ok : Ok cal js) {d : Nat} : within cal js d ≠ [] ↔ Doable cal js d (rg js.length) := by
  constructor
  · intro h
    obtain ⟨s, hs⟩ := List.exists_mem_of_ne_nil _ h
    obtain ⟨P, hn, hd⟩ := (mem_within ok).mp hs
    have e : lotK js.length s d = rg js.length := by
      refine Asc.ext ((rg_asc _).filter _) (rg_asc _) fun j => ?_
      rw [mem_lotK, mem_rg]
      refine ⟨fun z => z.1, fun z => ⟨z, ?_⟩⟩
      have hl : j.toNat < s.length := by rw [P.len]; omega
      rw [List.getD_eq_getElem?_getD, List.getElem?_eq_getElem hl]
      cases q : s[j.toNat] with
      | none => exact absurd (by rw [← q]; exact List.getElem_mem hl) hn
      | some x =>
        refine ⟨x, rfl, ?_⟩
        have := hd _ (List.getElem_mem hl)
        rw [q] at this; exact this
    rw [← e]
    exact part_doable ok P d
  · intro h e
    have T := tableOf_ok ok h
    have : (tableOf cal js d).map some ∈ within cal js d := by
      refine (mem_within ok).mpr ⟨table_part ok T, by simp, fun o ho => ?_⟩
      obtain ⟨x, hx, rfl⟩ := List.mem_map.mp ho
      obtain ⟨i, hi, rfl⟩ := List.getElem_of_mem hx
      have := (T.day i (mem_rg.mpr ⟨by omega, by have := T.len; omega⟩)).2.2
      unfold tj at this
      rw [show ((i : Nat) : Int).toNat = i by omega, List.getD_eq_getElem?_getD, List.getElem?_eq_getElem hi] at this
      exact this
    rw [e] at this; cases this
theorem timetable_some (ok : Ok cal js) {d : Nat} (h : Doable cal js d (rg js.length)) : timetable cal js d = some (tableOf cal js d) := by
  unfold timetable
  rw [if_pos]
  simpa using (mem_doneAt ok d _).mpr h
theorem timetable_none (ok : Ok cal js) {d : Nat} (h : ¬ Doable cal js d (rg js.length)) : timetable cal js d = none := by
  unfold timetable
  rw [if_neg]
  intro z
  exact h ((mem_doneAt ok d _).mp (by simpa using z))
end
end K52
end
section
set_option autoImplicit false
set_option linter.all false
/-! Fronts and delay papers. -/
namespace K52
section
variable (cal : Cal) (js : Jobs)
def greatest (done : List Lot) : List Lot := done.filter fun lot => !(others js.length lot).any fun job => done.contains (together lot [job])
def frontsOf (days : Nat) : List (List Lot) := (doneDays cal js days).map (greatest js)
def leadsAll (F : List (List Lot)) : Bool := (List.range (F.length - 1)).all fun k => leadsOn cal js k (F.getD k []) (F.getD (k + 1) [])
def lawLeadsAll (F : List (List Lot)) : Bool := (List.range (F.length - 1)).all fun k => lawLeads cal js k (F.getD k []) (F.getD (k + 1) [])
end
def FrontsOk (n : Nat) (F : List (List Lot)) : Prop := ∀ f ∈ F, f ≠ [] ∧ Lots n f
def lastF (F : List (List Lot)) : List Lot := F.getD (F.length - 1) []
section
variable {cal : Cal} {js : Jobs}
theorem getF {n : Nat} {F : List (List Lot)} (h : FrontsOk n F) {k : Nat} (hk : k < F.length) : F.getD k [] ≠ [] ∧ Lots n (F.getD k []) := h _ (getD_mem hk)
theorem leadsAll_eq (ok : Ok cal js) {F : List (List Lot)} (h : FrontsOk js.length F) : leadsAll cal js F = lawLeadsAll cal js F := by
  unfold leadsAll lawLeadsAll
  rw [Bool.eq_iff_iff, List.all_eq_true, List.all_eq_true]
  refine forall_congr' fun k => forall_congr' fun hk => ?_
  have hk := List.mem_range.mp hk
  rw [leads_eq ok (getF h (show k < F.length by omega)).2.2]
theorem others_less {n : Nat} {L : Lot} {j : Int} (hj : j ∈ others n L) : (others n (together L [j])).length < (others n L).length := by
  have e : others n (together L [j]) = (others n L).filter fun x => decide (x ≠ j) := by
    refine Asc.ext (others_asc _ _) ((others_asc _ _).filter _) fun z => ?_
    rw [mem_others, List.mem_filter, mem_others, mem_together, List.mem_singleton, decide_eq_true_eq]
    constructor
    · rintro ⟨h1, h2⟩; exact ⟨⟨h1, fun q => h2 (.inl q)⟩, fun q => h2 (.inr q)⟩
    · rintro ⟨⟨h1, h2⟩, h3⟩; exact ⟨h1, fun q => q.elim h2 h3⟩
  rw [e]
  refine List.length_filter_lt_length_iff_exists.mpr ⟨j, hj, by simp⟩
theorem greatest_above {done : List Lot} (hd : Lots js.length done) : ∀ (m : Nat) (L : Lot), (others js.length L).length ≤ m → L ∈ done → ∃ M ∈ greatest js done, ∀ x ∈ L, x ∈ M := by
  intro m
  induction m with
  | zero =>
    intro L hm hL
    refine ⟨L, List.mem_filter.mpr ⟨hL, ?_⟩, fun x hx => hx⟩
    have : others js.length L = [] := List.eq_nil_of_length_eq_zero (by omega)
    rw [this] <;> rfl
  | succ m ih =>
    intro L hm hL
    by_cases h : (others js.length L).any (fun job => done.contains (together L [job])) = true
    · obtain ⟨j, hj, hc⟩ := List.any_eq_true.mp h
      have hc : together L [j] ∈ done := by simpa using hc
      have := others_less hj
      obtain ⟨M, hM, hs⟩ := ih (together L [j]) (by omega) hc
      exact ⟨M, hM, fun x hx => hs x (mem_together.mpr (.inl hx))⟩
    · exact ⟨L, List.mem_filter.mpr ⟨hL, by simpa using h⟩, fun x hx => hx⟩
theorem greatest_lots {done : List Lot} (hd : Lots js.length done) : Lots js.length (greatest js done) :=
  ⟨List.Pairwise.filter _ hd.1, fun l hl => hd.2 l (List.mem_filter.mp hl).1⟩
theorem frontsOf_len (days : Nat) : (frontsOf cal js days).length = days + 1 := by
  unfold frontsOf doneDays
  rw [List.length_map, List.length_map, List.length_range]
theorem frontsOf_at {days k : Nat} (h : k ≤ days) : (frontsOf cal js days).getD k [] = greatest js (doneAt cal js k) := by
  unfold frontsOf doneDays
  rw [List.getD_eq_getElem?_getD, List.getElem?_map, List.getElem?_map, List.getElem?_range (by omega)] <;> rfl
theorem frontsOf_ok (ok : Ok cal js) (days : Nat) : FrontsOk js.length (frontsOf cal js days) := by
  intro f hf
  unfold frontsOf doneDays at hf
  rw [List.map_map] at hf
  obtain ⟨k, _, rfl⟩ := List.mem_map.mp hf
  refine ⟨fun e => ?_, greatest_lots (doneAt_lots ok k)⟩
  obtain ⟨M, hM, _⟩ := greatest_above (doneAt_lots ok k) _ [] (Nat.le_refl _) ((mem_doneAt ok k _).mpr (nil_doneAt ok k))
  have e : greatest js (doneAt cal js k) = [] := e
  rw [e] at hM; cases hM
theorem frontsOf_leads (ok : Ok cal js) (days : Nat) : leadsAll cal js (frontsOf cal js days) = true := by
  unfold leadsAll
  rw [List.all_eq_true]
  intro k hk
  have hk := List.mem_range.mp hk
  rw [frontsOf_len] at hk
  rw [frontsOf_at (by omega), frontsOf_at (by omega)]
  unfold leadsOn
  rw [List.all_eq_true]
  intro lot hl
  rw [List.all_eq_true]
  intro S hS
  obtain ⟨s1, s2⟩ := (mem_shares ok).mp hS
  have hlot := (List.mem_filter.mp hl).1
  have hin : together lot S ∈ doneAt cal js (k + 1) := by
    refine (mem_doneAt ok _ _).mpr ⟨lot, (mem_doneAt ok _ _).mp hlot, S, ⟨(others_asc _ _).sub s1, fun x hx => (mem_others.mp (s1.mem hx)).1, fun x hx => (mem_others.mp (s1.mem hx)).2, s2⟩, rfl⟩
  obtain ⟨M, hM, hs⟩ := greatest_above (doneAt_lots ok (k + 1)) _ _ (Nat.le_refl _) hin
  exact within_iff.mpr ⟨M, hM, hs⟩
theorem others_all {n : Nat} : others n (rg n) = [] := by
  refine List.eq_nil_iff_forall_not_mem.mpr fun j hj => ?_
  obtain ⟨h1, h2⟩ := mem_others.mp hj
  exact h2 (mem_rg.mpr h1)
theorem lastF_fronts (ok : Ok cal js) (days : Nat) : rg js.length ∈ lastF (frontsOf cal js days) ↔ Doable cal js days (rg js.length) := by
  unfold lastF
  rw [frontsOf_len, show days + 1 - 1 = days by omega, frontsOf_at (Nat.le_refl _), ← mem_doneAt ok]
  unfold greatest
  rw [List.mem_filter, others_all]
  simp
/-- whatever fronts: what can be done in the first k days is part of some lot of entry k -/
theorem fronts_cover (ok : Ok cal js) {F : List (List Lot)} (h : FrontsOk js.length F) (hl : leadsAll cal js F = true) : ∀ (k : Nat) (L : Lot), k < F.length → Doable cal js k L → isWithin L (F.getD k []) = true
  | 0, L, hk, hL => by
    have e : L = [] := hL
    subst e
    obtain ⟨o, ho⟩ := List.exists_mem_of_ne_nil _ (getF h hk).1
    exact within_iff.mpr ⟨o, ho, fun x hx => by cases hx⟩
  | k + 1, L, hk, hL => by
    obtain ⟨A, hA, S, hS, rfl⟩ := hL
    obtain ⟨o, ho, hs⟩ := within_iff.mp (fronts_cover ok h hl k A (by omega) hA)
    unfold leadsAll at hl
    have h1 := List.all_eq_true.mp hl k (List.mem_range.mpr (by omega))
    have h2 := List.all_eq_true.mp h1 o ho
    have hT : S.filter (fun j => !o.contains j) ∈ sharesOn cal js k (others js.length o) := by
      refine (mem_shares ok).mpr ⟨asc_sublist (hS.1.filter _) (others_asc _ _) fun x hx => ?_, hS.2.2.2.sub ok List.filter_sublist⟩
      obtain ⟨q1, q2⟩ := List.mem_filter.mp hx
      exact mem_others.mpr ⟨hS.2.1 x q1, by simpa using q2⟩
    obtain ⟨l, hl2, hs2⟩ := within_iff.mp (List.all_eq_true.mp h2 _ hT)
    refine within_iff.mpr ⟨l, hl2, fun x hx => hs2 x ?_⟩
    rw [mem_together, List.mem_filter]
    rcases mem_together.mp hx with q | q
    · exact .inl (hs x q)
    · by_cases c : x ∈ o
      · exact .inl c
      · exact .inr ⟨q, by simpa using c⟩
theorem due_sound (ok : Ok cal js) {F : List (List Lot)} {d : Nat} (h : FrontsOk js.length F) (hl : leadsAll cal js F = true) (hlen : F.length = d + 1) (hn : rg js.length ∉ lastF F) : ¬ Doable cal js d (rg js.length) := by
  intro hd
  obtain ⟨o, ho, hs⟩ := within_iff.mp (fronts_cover ok h hl d _ (by omega) hd)
  have h2 := (getF h (k := d) (by omega)).2.2 o ho
  have e : o = rg js.length := Asc.ext h2.1 (rg_asc _) fun x => ⟨fun hx => mem_rg.mpr (h2.2 x hx), hs x⟩
  unfold lastF at hn
  rw [hlen, show d + 1 - 1 = d by omega] at hn
  exact hn (e ▸ ho)
def delayT (cal : Cal) (js : Jobs) (days : Int) (F : List (List Lot)) : Bool := (decide (1 ≤ F.length) && decide (F.length ≤ cal.length + 1) && leadsAll cal js F) && decide ((F.length : Int) = days + 1) && !(lastF F).contains (rg js.length)
theorem delay_fronts (ok : Ok cal js) {d : Nat} (hd : d ≤ cal.length) : delayT cal js d (frontsOf cal js d) = true ↔ ¬ Doable cal js d (rg js.length) := by
  unfold delayT
  rw [frontsOf_leads ok, frontsOf_len, decide_eq_true (by omega : 1 ≤ d + 1), decide_eq_true (by omega : d + 1 ≤ cal.length + 1), decide_eq_true (by omega : ((d + 1 : Nat) : Int) = (d : Int) + 1), ← lastF_fronts ok]
  simp

/-! ### the fewest days -/
def fewest (cal : Cal) (js : Jobs) : Option Nat := (List.range (cal.length + 1)).find? fun d => (doneAt cal js d).contains (rg js.length)
theorem done_iff (ok : Ok cal js) (d : Nat) : (doneAt cal js d).contains (rg js.length) = true ↔ Doable cal js d (rg js.length) := by
  rw [List.contains_iff_mem, mem_doneAt ok]
end
end K52
end
section
set_option autoImplicit false
set_option linter.all false
/-! Counting blocks, where gifts divide one another and all days are free. -/
namespace K52
def sumTo : Nat → (Nat → Int) → Int
  | 0, _ => 0
  | d + 1, F => sumTo d F + F d
theorem sumTo_add (F G : Nat → Int) : ∀ d, sumTo d (fun x => F x + G x) = sumTo d F + sumTo d G
  | 0 => rfl
  | d + 1 => by
    show sumTo d (fun x => F x + G x) + (F d + G d) = (sumTo d F + F d) + (sumTo d G + G d)
    rw [sumTo_add F G d]; omega
theorem sumTo_le {F G : Nat → Int} : ∀ d, (∀ x, x < d → F x ≤ G x) → sumTo d F ≤ sumTo d G
  | 0, _ => Int.le_refl _
  | d + 1, h => by
    have h1 := sumTo_le d fun x hx => h x (by omega)
    have h2 := h d (by omega)
    show sumTo d F + F d ≤ sumTo d G + G d
    omega
theorem sumTo_mul (g : Int) (F : Nat → Int) : ∀ d, sumTo d (fun x => g * F x) = g * sumTo d F
  | 0 => by simp [sumTo]
  | d + 1 => by show sumTo d _ + _ = g * (sumTo d F + F d); rw [sumTo_mul g F d, Int.mul_add]
theorem sumTo_congr {F G : Nat → Int} : ∀ d, (∀ x, x < d → F x = G x) → sumTo d F = sumTo d G
  | 0, _ => rfl
  | d + 1, h => by
    show sumTo d F + F d = sumTo d G + G d
    rw [sumTo_congr d fun x hx => h x (by omega), h d (by omega)]
theorem sumTo_zero : ∀ d, sumTo d (fun _ => 0) = 0
  | 0 => rfl
  | d + 1 => by show sumTo d _ + 0 = 0; rw [sumTo_zero d]; rfl
theorem sumTo_one (c : Int) {x0 : Nat} : ∀ d, sumTo d (fun x => if x = x0 then c else 0) = if x0 < d then c else 0
  | 0 => rfl
  | d + 1 => by
    show sumTo d (fun x => if x = x0 then c else 0) + (if d = x0 then c else 0) = _
    rw [sumTo_one c d]
    by_cases h : d = x0
    · subst h
      rw [if_neg (Nat.lt_irrefl _), if_pos rfl, if_pos (Nat.lt_succ_self _), Int.zero_add]
    · by_cases h2 : x0 < d
      · rw [if_pos h2, if_neg h, if_pos (by omega), Int.add_zero]
      · rw [if_neg h2, if_neg h, if_neg (by omega)] <;> rfl
/-- a sum by days -/
theorem sum_by {js : Jobs} (f : Int → Option Int) (d : Nat) : ∀ L : Lot, (∀ j ∈ L, ∃ x : Nat, x < d ∧ f j = some (x : Int)) → sumG js L = sumTo d fun x => sumG js (L.filter fun j => decide (f j = some (x : Int)))
  | [], _ => by
    exact ((sumTo_congr (G := fun _ => 0) d fun x _ => rfl).trans (sumTo_zero d)).symm
  | j :: r, h => by
    obtain ⟨x0, h1, h2⟩ := h j List.mem_cons_self
    rw [sumG_cons, sum_by f d r fun z hz => h z (List.mem_cons_of_mem _ hz)]
    have e : sumTo d (fun x => sumG js ((j :: r).filter fun j => decide (f j = some (x : Int)))) = sumTo d (fun x => (if x = x0 then gj js j else 0) + sumG js (r.filter fun j => decide (f j = some (x : Int)))) := by
      refine sumTo_congr d fun x _ => ?_
      rw [List.filter_cons]
      by_cases c : x = x0
      · subst c
        rw [if_pos (decide_eq_true h2), sumG_cons, if_pos rfl]
      · rw [if_neg (by rw [h2]; simp; omega), if_neg c, Int.zero_add]
    rw [e, sumTo_add, sumTo_one, if_pos h1]
def blocks (cal : Cal) (d : Nat) (g : Int) : Int := ((cal.take d).map fun x => x / g).sum
theorem blocks_eq {cal : Cal} {g : Int} : ∀ d : Nat, d ≤ cal.length → blocks cal d g = sumTo d fun x => ca cal x / g
  | 0, _ => rfl
  | d + 1, h => by
    unfold blocks
    rw [List.take_succ_eq_append_getElem (by omega), List.map_append, List.sum_append]
    show blocks cal d g + _ = sumTo d _ + _
    rw [blocks_eq d (by omega)]
    congr 1
    show (List.map _ [cal[d]]).sum = ca cal d / g
    unfold ca
    rw [show ((d : Nat) : Int).toNat = d by omega, List.getD_eq_getElem?_getD, List.getElem?_eq_getElem (by omega)]
    simp
def big (js : Jobs) (g : Int) : Int := ((js.map (·.1)).filter fun z => decide (g ≤ z)).sum
theorem gj_map {js : Jobs} : (rg js.length).map (gj js) = js.map (·.1) := by
  refine List.ext_getElem (by simp [rg]) fun i h1 h2 => ?_
  have hi : i < js.length := by simpa using h2
  rw [List.getElem_map, List.getElem_map]
  have : (rg js.length)[i]'(by rw [rg_len]; exact hi) = (i : Int) := by simp [rg]
  rw [this]
  unfold gj
  rw [show ((i : Nat) : Int).toNat = i by omega, List.getD_eq_getElem?_getD, List.getElem?_eq_getElem hi] <;> rfl
theorem big_eq {js : Jobs} {g : Int} : big js g = sumG js ((rg js.length).filter fun j => decide (g ≤ gj js j)) := by
  unfold big sumG
  rw [← gj_map, List.filter_map] <;> rfl
theorem sumG_more {js : Jobs} {i : Int} {p q : Int → Bool} (hp : p i = false) (hq : ∀ j, q j = (p j || decide (j = i))) : ∀ L : Lot, L.Nodup → sumG js (L.filter q) = sumG js (L.filter p) + if i ∈ L then gj js i else 0
  | [], _ => rfl
  | x :: r, h => by
    have h' := List.nodup_cons.mp h
    have ih := sumG_more (js := js) hp hq r h'.2
    rw [List.filter_cons, List.filter_cons]
    by_cases e : x = i
    · subst e
      rw [if_pos (by rw [hq]; simp), if_neg (by rw [hp]; decide), if_pos List.mem_cons_self, sumG_cons, ih, if_neg h'.1]
      omega
    · have e2 : q x = p x := by rw [hq, decide_eq_false e, Bool.or_false]
      have e3 : (if i ∈ x :: r then gj js i else 0) = if i ∈ r then gj js i else 0 := by
        by_cases c : i ∈ r
        · rw [if_pos c, if_pos (List.mem_cons_of_mem _ c)]
        · rw [if_neg c, if_neg]
          intro z
          rcases List.mem_cons.mp z with z | z
          · exact e z.symm
          · exact c z
      rw [e2, e3]
      cases p x with
      | true => rw [if_pos rfl, if_pos rfl, sumG_cons, sumG_cons, ih]; omega
      | false => rw [if_neg (by decide), if_neg (by decide), ih]
theorem exists_max (f : Int → Int) : ∀ L : Lot, L ≠ [] → ∃ m ∈ L, ∀ x ∈ L, f x ≤ f m
  | [], h => absurd rfl h
  | [x], _ => ⟨x, List.mem_cons_self, fun y hy => by rw [List.mem_singleton.mp hy]; exact Int.le_refl _⟩
  | x :: y :: r, _ => by
    obtain ⟨m, hm, h⟩ := exists_max f (y :: r) (by simp)
    by_cases c : f m ≤ f x
    · refine ⟨x, List.mem_cons_self, fun z hz => ?_⟩
      rcases List.mem_cons.mp hz with rfl | hz
      · exact Int.le_refl _
      · exact Int.le_trans (h z hz) c
    · refine ⟨m, List.mem_cons_of_mem _ hm, fun z hz => ?_⟩
      rcases List.mem_cons.mp hz with rfl | hz
      · omega
      · exact h z hz
section
variable {cal : Cal} {js : Jobs}
theorem sumG_dvd {g : Int} : ∀ L : Lot, (∀ j ∈ L, g ∣ gj js j) → g ∣ sumG js L
  | [], _ => Int.dvd_zero _
  | x :: r, h => by
    rw [sumG_cons]
    exact Int.dvd_add (h x List.mem_cons_self) (sumG_dvd r fun j hj => h j (List.mem_cons_of_mem _ hj))
/-- each job's gifts divide those of every job that has more -/
def Chain (js : Jobs) : Prop := ∀ a b : Int, (0 ≤ a ∧ a < js.length) → (0 ≤ b ∧ b < js.length) → gj js a ≤ gj js b → gj js a ∣ gj js b
def Free (cal : Cal) (js : Jobs) : Prop := ∀ j : Int, (0 ≤ j ∧ j < js.length) → dj js j = rg cal.length
theorem count_of (ok : Ok cal js) (ch : Chain js) {d : Nat} (hd : d ≤ cal.length) (h : Doable cal js d (rg js.length)) {a : Int} (ha : 0 ≤ a ∧ a < js.length) : big js (gj js a) ≤ gj js a * blocks cal d (gj js a) := by
  have T := tableOf_ok ok h
  generalize tableOf cal js d = t at T
  have hg := ok.gjp ha
  rw [big_eq, blocks_eq d hd, ← sumTo_mul]
  rw [sum_by (fun j => some (tj t j)) d _ fun j hj => by
    obtain ⟨_, q1, q2⟩ := T.day j (List.mem_filter.mp hj).1
    exact ⟨(tj t j).toNat, by omega, by rw [show (((tj t j).toNat : Nat) : Int) = tj t j by omega]⟩]
  refine sumTo_le d fun x hx => ?_
  have hdv : gj js a ∣ sumG js (List.filter (fun j => decide (some (tj t j) = some (x : Int))) (List.filter (fun j => decide (gj js a ≤ gj js j)) (rg js.length))) := by
    refine sumG_dvd _ fun j hj => ?_
    have h1 := (List.mem_filter.mp hj).1
    exact ch a j ha (mem_rg.mp (List.mem_filter.mp h1).1) (of_decide_eq_true (List.mem_filter.mp h1).2)
  have hle : sumG js (List.filter (fun j => decide (some (tj t j) = some (x : Int))) (List.filter (fun j => decide (gj js a ≤ gj js j)) (rg js.length))) ≤ ca cal x := by
    refine Int.le_trans (sumG_sub ok ?_) (T.room x (by omega))
    rw [T.len, List.filter_filter]
    have e : (rg js.length).filter (fun j => decide (tj t j = (x : Int))) = (rg js.length).filter (fun j => decide (some (tj t j) = some (x : Int))) := filter_eq fun j _ => by simp
    rw [e]
    rw [show (fun a_1 => decide (some (tj t a_1) = some (x : Int)) && decide (gj js a ≤ gj js a_1)) = fun a_1 => (decide (gj js a ≤ gj js a_1)) && decide (some (tj t a_1) = some (x : Int)) by funext z; rw [Bool.and_comm]]
    rw [← List.filter_filter]
    exact List.filter_sublist
  obtain ⟨c, hc⟩ := hdv
  rw [hc] at hle ⊢
  refine Int.mul_le_mul_of_nonneg_left ?_ (by omega)
  exact Int.le_ediv_of_mul_le hg (by rw [Int.mul_comm]; exact hle)

/-! ### the greatest first -/
structure Grd (cal : Cal) (js : Jobs) (d : Nat) (s : List (Option Int)) : Prop where
  part : Part cal js js.length s
  low : ∀ (i : Nat) (x : Int), s[i]? = some (some x) → 0 ≤ x ∧ x < d
  ord : ∀ (i k : Nat), s[i]? = some none → ∀ x, s[k]? = some (some x) → gj js i ≤ gj js k
theorem at_iff {s : List (Option Int)} {j : Int} (hj : 0 ≤ j ∧ j < s.length) {o : Option Int} : s.getD j.toNat none = o ↔ s[j.toNat]? = some o := by
  rw [List.getD_eq_getElem?_getD, List.getElem?_eq_getElem (by omega)]
  simp
theorem load_set {s : List (Option Int)} {i : Nat} {x y : Int} (hi : s[i]? = some none) : load js (s.set i (some x)) y = load js s y + if y = x then gj js i else 0 := by
  obtain ⟨hl, _⟩ := List.getElem?_eq_some_iff.mp hi
  unfold load
  rw [List.length_set]
  by_cases e : y = x
  · subst e
    rw [if_pos rfl]
    have := sumG_more (js := js) (i := (i : Int)) (p := fun j => decide (s.getD j.toNat none = some y)) (q := fun j => decide (s.getD j.toNat none = some y) || decide (j = (i : Int))) (by
      show decide _ = false
      rw [show ((i : Nat) : Int).toNat = i by omega, List.getD_eq_getElem?_getD, hi]
      simp) (fun j => rfl) (rg s.length) (rg_asc _).nodup
    rw [if_pos (mem_rg.mpr ⟨by omega, by omega⟩)] at this
    rw [← this]
    congr 1
    refine filter_eq fun j hj => ?_
    have hj := mem_rg.mp hj
    rw [List.getD_eq_getElem?_getD, List.getElem?_set]
    by_cases c : i = j.toNat
    · have c2 : j = (i : Int) := by omega
      rw [if_pos c, if_pos (by omega)]
      simp [c2]
    · have c2 : ¬ j = (i : Int) := by omega
      rw [if_neg c]
      simp [c2, List.getD_eq_getElem?_getD]
  · rw [if_neg e, Int.add_zero]
    congr 1
    refine filter_eq fun j hj => ?_
    have hj := mem_rg.mp hj
    rw [List.getD_eq_getElem?_getD, List.getD_eq_getElem?_getD, List.getElem?_set]
    by_cases c : i = j.toNat
    · rw [if_pos c, if_pos (by omega), ← c, hi]
      simp; omega
    · rw [if_neg c]
theorem grd_step (ok : Ok cal js) (ch : Chain js) (fr : Free cal js) {d : Nat} (hd : d ≤ cal.length) (hc : ∀ a : Int, (0 ≤ a ∧ a < js.length) → big js (gj js a) ≤ gj js a * blocks cal d (gj js a))
    {s : List (Option Int)} (G : Grd cal js d s) (hn : none ∈ s) : ∃ (i : Nat) (x : Int), s[i]? = some none ∧ Grd cal js d (s.set i (some x)) := by
  have hl := G.part.len
  -- the greatest one that is not placed
  have hne : ((rg js.length).filter fun j => decide (s.getD j.toNat none = none)) ≠ [] := by
    obtain ⟨i, hi, e⟩ := List.getElem_of_mem hn
    intro z
    have : (i : Int) ∈ (rg js.length).filter fun j => decide (s.getD j.toNat none = none) := by
      refine List.mem_filter.mpr ⟨mem_rg.mpr ⟨by omega, by omega⟩, decide_eq_true ?_⟩
      rw [show ((i : Nat) : Int).toNat = i by omega, List.getD_eq_getElem?_getD, List.getElem?_eq_getElem hi, e] <;> rfl
    rw [z] at this; cases this
  obtain ⟨m, hm, hmax⟩ := exists_max (gj js) _ hne
  obtain ⟨hm1, hm2⟩ := List.mem_filter.mp hm
  have hm1 := mem_rg.mp hm1
  have hm2 : s[m.toNat]? = some none := (at_iff (by rw [hl]; exact hm1)).mp (of_decide_eq_true hm2)
  have em : ((m.toNat : Nat) : Int) = m := by omega
  have hg := ok.gjp hm1
  have hord : ∀ j : Int, (0 ≤ j ∧ j < js.length) → ∀ x, s.getD j.toNat none = some x → gj js m ≤ gj js j := fun j hj x e => by
    have := G.ord m.toNat j.toNat hm2 x ((at_iff (by rw [hl]; exact hj)).mp e)
    rw [em, show ((j.toNat : Nat) : Int) = j by omega] at this
    exact this
  -- a day that has room
  have hroom : ∃ x : Nat, x < d ∧ load js s x + gj js m ≤ ca cal x := by
    refine Classical.byContradiction fun hno => ?_
    have hall : ∀ x : Nat, x < d → ca cal x / gj js m ≤ load js s x / gj js m := fun x hx => by
      have h1 : ca cal x < load js s x + gj js m := by
        refine Classical.byContradiction fun q => hno ⟨x, hx, by omega⟩
      have hdv : gj js m ∣ load js s x := by
        unfold load
        refine sumG_dvd _ fun j hj => ?_
        obtain ⟨j1, j2⟩ := List.mem_filter.mp hj
        rw [hl] at j1
        exact ch m j hm1 (mem_rg.mp j1) (hord j (mem_rg.mp j1) x (of_decide_eq_true j2))
      obtain ⟨c, hcx⟩ := hdv
      rw [hcx] at h1 ⊢
      rw [Int.mul_ediv_cancel_left _ (by omega)]
      have h2 : ca cal x < gj js m * (c + 1) := by rw [Int.mul_add, Int.mul_one]; exact h1
      have := Int.ediv_lt_of_lt_mul hg (by rw [Int.mul_comm] at h2; exact h2)
      omega
    have hsum : sumTo d (fun x => ca cal x / gj js m) ≤ sumTo d (fun x => load js s x / gj js m) := sumTo_le d hall
    have hplaced : sumG js ((rg js.length).filter fun j => (s.getD j.toNat none).isSome) = sumTo d fun x => load js s x := by
      rw [sum_by (fun j => s.getD j.toNat none) d _ fun j hj => by
        obtain ⟨j1, j2⟩ := List.mem_filter.mp hj
        have j1 := mem_rg.mp j1
        cases q : s.getD j.toNat none with
        | none => rw [q] at j2; cases j2
        | some y =>
          have := G.low j.toNat y ((at_iff (by rw [hl]; exact j1)).mp q)
          exact ⟨y.toNat, by omega, by rw [show ((y.toNat : Nat) : Int) = y by omega]⟩]
      refine sumTo_congr d fun x _ => ?_
      unfold load
      rw [List.filter_filter, hl]
      congr 1
      refine filter_eq fun j _ => ?_
      cases s.getD j.toNat none with
      | none => simp
      | some y => simp
    have hmul : gj js m * sumTo d (fun x => load js s x / gj js m) ≤ sumTo d fun x => load js s x := by
      rw [← sumTo_mul]
      refine sumTo_le d fun x _ => ?_
      exact Int.mul_ediv_self_le (by omega)
    have hbig : sumG js ((rg js.length).filter fun j => (s.getD j.toNat none).isSome) + gj js m ≤ big js (gj js m) := by
      have e := sumG_more (js := js) (i := m) (p := fun j => (s.getD j.toNat none).isSome) (q := fun j => (s.getD j.toNat none).isSome || decide (j = m)) (by
        show Option.isSome _ = false
        rw [(at_iff (by rw [hl]; exact hm1)).mpr hm2]; rfl) (fun j => rfl) (rg js.length) (rg_asc _).nodup
      rw [if_pos (mem_rg.mpr hm1)] at e
      rw [← e, big_eq]
      refine sumG_sub ok (asc_sublist ((rg_asc _).filter _) ((rg_asc _).filter _) fun j hj => ?_)
      obtain ⟨j1, j2⟩ := List.mem_filter.mp hj
      refine List.mem_filter.mpr ⟨j1, decide_eq_true ?_⟩
      rcases Bool.or_eq_true_iff.mp j2 with z | z
      · cases q : s.getD j.toNat none with
        | none => rw [q] at z; cases z
        | some y => exact hord j (mem_rg.mp j1) y q
      · rw [of_decide_eq_true z]; exact Int.le_refl _
    have hcount := hc m hm1
    rw [blocks_eq d hd] at hcount
    have := Int.mul_le_mul_of_nonneg_left hsum (Int.le_of_lt hg)
    omega
  obtain ⟨x, hx, hfit⟩ := hroom
  refine ⟨m.toNat, x, hm2, ⟨⟨by rw [List.length_set]; exact hl, fun i y e => ?_, fun y => ?_⟩, fun i y e => ?_, fun i k hi y hk => ?_⟩⟩
  · rw [List.getElem?_set] at e
    by_cases c : m.toNat = i
    · rw [if_pos c, if_pos (by omega)] at e
      cases e
      rw [fr i (by omega), mem_rg]
      omega
    · rw [if_neg c] at e
      exact G.part.day i y e
  · rw [load_set hm2, em]
    by_cases c : y = x
    · rw [if_pos c, c]; exact hfit
    · rw [if_neg c]; have := G.part.room y; omega
  · rw [List.getElem?_set] at e
    by_cases c : m.toNat = i
    · rw [if_pos c, if_pos (by omega)] at e
      cases e; omega
    · rw [if_neg c] at e
      exact G.low i y e
  · have hi' : s[i]? = some none := by
      rw [List.getElem?_set] at hi
      by_cases c : m.toNat = i
      · rw [if_pos c, if_pos (by omega)] at hi; cases hi
      · rw [if_neg c] at hi; exact hi
    have hil : i < s.length := by
      obtain ⟨z, _⟩ := List.getElem?_eq_some_iff.mp hi'
      exact z
    rw [List.getElem?_set] at hk
    by_cases c : m.toNat = k
    · have := hmax (i : Int) (List.mem_filter.mpr ⟨mem_rg.mpr ⟨by omega, by omega⟩, decide_eq_true (by
        rw [show ((i : Nat) : Int).toNat = i by omega, List.getD_eq_getElem?_getD, hi'] <;> rfl)⟩)
      rw [← c, em]; exact this
    · rw [if_neg c] at hk
      exact G.ord i k hi' y hk
theorem count_set : ∀ {s : List (Option Int)} {i : Nat} {x : Int}, s[i]? = some none → (s.set i (some x)).count none + 1 = s.count none
  | [], i, x, h => by simp at h
  | o :: r, 0, x, h => by
    have : o = none := by simpa using h
    subst this
    simp
  | o :: r, i + 1, x, h => by
    have h : r[i]? = some none := by simpa using h
    have ih := count_set (x := x) h
    rw [List.set_cons_succ, List.count_cons, List.count_cons]
    omega
theorem grd_all (ok : Ok cal js) (ch : Chain js) (fr : Free cal js) {d : Nat} (hd : d ≤ cal.length) (hc : ∀ a : Int, (0 ≤ a ∧ a < js.length) → big js (gj js a) ≤ gj js a * blocks cal d (gj js a)) :
    ∀ (m : Nat) (s : List (Option Int)), s.count none = m → Grd cal js d s → ∃ s', Grd cal js d s' ∧ none ∉ s'
  | 0, s, h, G => ⟨s, G, List.count_eq_zero.mp h⟩
  | m + 1, s, h, G => by
    obtain ⟨i, x, hi, G'⟩ := grd_step ok ch fr hd hc G (List.count_pos_iff.mp (by omega))
    exact grd_all ok ch fr hd hc m _ (by have := count_set (x := x) hi; omega) G'
theorem count_iff (ok : Ok cal js) (ch : Chain js) (fr : Free cal js) {d : Nat} (hd : d ≤ cal.length) : (∀ g ∈ js.map (·.1), big js g ≤ g * blocks cal d g) ↔ Doable cal js d (rg js.length) := by
  constructor
  · intro h
    have hc : ∀ a : Int, (0 ≤ a ∧ a < js.length) → big js (gj js a) ≤ gj js a * blocks cal d (gj js a) := fun a ha => h _ (by
      rw [← gj_map]; exact List.mem_map.mpr ⟨a, mem_rg.mpr ha, rfl⟩)
    have G0 : Grd cal js d (List.replicate js.length none) := by
      have hno : ∀ (i : Nat) (x : Int), (List.replicate js.length (none : Option Int))[i]? = some (some x) → False := fun i x e => by
        have := List.mem_of_getElem? e
        rw [List.mem_replicate] at this
        cases this.2
      refine ⟨⟨List.length_replicate, fun i x e => (hno i x e).elim, fun x => ?_⟩, fun i x e => (hno i x e).elim, fun i k _ x e => (hno k x e).elim⟩
      have : load js (List.replicate js.length none) x = 0 := by
        unfold load
        have : ((rg (List.replicate js.length (none : Option Int)).length).filter fun j => decide ((List.replicate js.length (none : Option Int)).getD j.toNat none = some x)) = [] := by
          rw [List.filter_eq_nil_iff]
          intro j _
          rw [List.getD_eq_getElem?_getD, List.getElem?_replicate]
          split <;> simp
        rw [this]; rfl
      rw [this]; exact ok.ca0 x
    obtain ⟨s, G, hn⟩ := grd_all ok ch fr hd hc _ _ rfl G0
    refine (within_doable ok).mp fun e => ?_
    have : s ∈ within cal js d := (mem_within ok).mpr ⟨G.part, hn, fun o ho => by
      obtain ⟨i, hi, rfl⟩ := List.getElem_of_mem ho
      cases q : s[i] with
      | none => exact absurd (by rw [← q]; exact List.getElem_mem hi) hn
      | some x => exact (G.low i x (by rw [List.getElem?_eq_getElem hi, q])).2⟩
    rw [e] at this; cases this
  · intro h g hg
    rw [← gj_map] at hg
    obtain ⟨a, ha, rfl⟩ := List.mem_map.mp hg
    exact count_of ok ch hd h (mem_rg.mp ha)
end
end K52
end
section
set_option Elab.async false
set_option linter.all false
set_option maxRecDepth 100000
set_option maxHeartbeats 0
namespace K52
open PySem PySem.Spec PyProof.Rows L2
def topS (i : Nat) : Stmt := PySem.Challenge.pw_givesifgets_k52_whole_timetable_or_paper.main.body.getD i (.Pass ⟨0, 0, 0, 0⟩)
abbrev sIsInteger : Stmt := topS 1
abbrev sIsNumber : Stmt := topS 2
abbrev sIsIndex : Stmt := topS 3
abbrev sIsRising : Stmt := topS 4
abbrev sGiftsOn : Stmt := topS 6
abbrev sIsTimetable : Stmt := topS 7
abbrev sTogether : Stmt := topS 9
abbrev sIsFront : Stmt := topS 10
abbrev sSharesOn : Stmt := topS 11
abbrev sIsWithin : Stmt := topS 12
abbrev sLeadsOn : Stmt := topS 13
abbrev sAreFronts : Stmt := topS 14
abbrev sDoneLater : Stmt := topS 15
abbrev sDoneDays : Stmt := topS 16
abbrev sGreatest : Stmt := topS 17
abbrev sFronts : Stmt := topS 18
abbrev sAllJobs : Stmt := topS 20
abbrev sIsDoneOn : Stmt := topS 21
abbrev sShareOn : Stmt := topS 22
abbrev sTimetableWithin : Stmt := topS 23
abbrev sIsDelayPaper : Stmt := topS 24
abbrev sFewestDays : Stmt := topS 25
abbrev sLawDraw : Stmt := topS 27
abbrev sLawAny : Stmt := topS 28
abbrev sLawOf : Stmt := topS 29
abbrev sLawCalendar : Stmt := topS 31
abbrev sLawJobs : Stmt := topS 32
abbrev sLawShared : Stmt := topS 33
abbrev sLawShares : Stmt := topS 36
abbrev sLawIsLot : Stmt := topS 37
abbrev sLawAreFronts : Stmt := topS 38
abbrev sLawSpoilt : Stmt := topS 39
abbrev sLawTabled : Stmt := topS 40
abbrev sLawSmall : Stmt := topS 41
abbrev sLawCounted : Stmt := topS 42
abbrev sLaw : Stmt := topS 43

def dIsInteger : He.DefD := ⟨("is_integer", none), "is_integer", "is_integer", defArgs sIsInteger, defBody sIsInteger, defScope sIsInteger, [], []⟩
def dIsNumber : He.DefD := ⟨("is_number", none), "is_number", "is_number", defArgs sIsNumber, defBody sIsNumber, defScope sIsNumber, [], []⟩
def dIsIndex : He.DefD := ⟨("is_index", none), "is_index", "is_index", defArgs sIsIndex, defBody sIsIndex, defScope sIsIndex, [], []⟩
def dIsRising : He.DefD := ⟨("is_rising", none), "is_rising", "is_rising", defArgs sIsRising, defBody sIsRising, defScope sIsRising, [], []⟩
def dGiftsOn : He.DefD := ⟨("gifts_on", none), "gifts_on", "gifts_on", defArgs sGiftsOn, defBody sGiftsOn, defScope sGiftsOn, [], []⟩
def dIsTimetable : He.DefD := ⟨("is_timetable", none), "is_timetable", "is_timetable", defArgs sIsTimetable, defBody sIsTimetable, defScope sIsTimetable, [], []⟩
def dTogether : He.DefD := ⟨("together", none), "together", "together", defArgs sTogether, defBody sTogether, defScope sTogether, [], []⟩
def dIsFront : He.DefD := ⟨("is_front", none), "is_front", "is_front", defArgs sIsFront, defBody sIsFront, defScope sIsFront, [], []⟩
def dSharesOn : He.DefD := ⟨("shares_on", none), "shares_on", "shares_on", defArgs sSharesOn, defBody sSharesOn, defScope sSharesOn, [], []⟩
def dIsWithin : He.DefD := ⟨("is_within", none), "is_within", "is_within", defArgs sIsWithin, defBody sIsWithin, defScope sIsWithin, [], []⟩
def dLeadsOn : He.DefD := ⟨("leads_on", none), "leads_on", "leads_on", defArgs sLeadsOn, defBody sLeadsOn, defScope sLeadsOn, [], []⟩
def dAreFronts : He.DefD := ⟨("are_fronts", none), "are_fronts", "are_fronts", defArgs sAreFronts, defBody sAreFronts, defScope sAreFronts, [], []⟩
def dDoneLater : He.DefD := ⟨("done_later", none), "done_later", "done_later", defArgs sDoneLater, defBody sDoneLater, defScope sDoneLater, [], []⟩
def dDoneDays : He.DefD := ⟨("done_days", none), "done_days", "done_days", defArgs sDoneDays, defBody sDoneDays, defScope sDoneDays, [], []⟩
def dGreatest : He.DefD := ⟨("greatest", none), "greatest", "greatest", defArgs sGreatest, defBody sGreatest, defScope sGreatest, [], []⟩
def dFronts : He.DefD := ⟨("fronts", none), "fronts", "fronts", defArgs sFronts, defBody sFronts, defScope sFronts, [], []⟩
def dAllJobs : He.DefD := ⟨("all_jobs", none), "all_jobs", "all_jobs", defArgs sAllJobs, defBody sAllJobs, defScope sAllJobs, [], []⟩
def dIsDoneOn : He.DefD := ⟨("is_done_on", none), "is_done_on", "is_done_on", defArgs sIsDoneOn, defBody sIsDoneOn, defScope sIsDoneOn, [], []⟩
def dShareOn : He.DefD := ⟨("share_on", none), "share_on", "share_on", defArgs sShareOn, defBody sShareOn, defScope sShareOn, [], []⟩
def dTimetableWithin : He.DefD := ⟨("timetable_within", none), "timetable_within", "timetable_within", defArgs sTimetableWithin, defBody sTimetableWithin, defScope sTimetableWithin, [], []⟩
def dIsDelayPaper : He.DefD := ⟨("is_delay_paper", none), "is_delay_paper", "is_delay_paper", defArgs sIsDelayPaper, defBody sIsDelayPaper, defScope sIsDelayPaper, [], []⟩
def dFewestDays : He.DefD := ⟨("fewest_days", none), "fewest_days", "fewest_days", defArgs sFewestDays, defBody sFewestDays, defScope sFewestDays, [], []⟩
def dLawDraw : He.DefD := ⟨("_law_draw", none), "_law_draw", "_law_draw", defArgs sLawDraw, defBody sLawDraw, defScope sLawDraw, [], []⟩
def dLawAny : He.DefD := ⟨("_law_any", none), "_law_any", "_law_any", defArgs sLawAny, defBody sLawAny, defScope sLawAny, [], []⟩
def dLawOf : He.DefD := ⟨("_law_of", none), "_law_of", "_law_of", defArgs sLawOf, defBody sLawOf, defScope sLawOf, [], []⟩
def dLawCalendar : He.DefD := ⟨("_law_calendar", none), "_law_calendar", "_law_calendar", defArgs sLawCalendar, defBody sLawCalendar, defScope sLawCalendar, [], []⟩
def dLawJobs : He.DefD := ⟨("_law_jobs", none), "_law_jobs", "_law_jobs", defArgs sLawJobs, defBody sLawJobs, defScope sLawJobs, [], []⟩
def dLawShared : He.DefD := ⟨("_law_shared", none), "_law_shared", "_law_shared", defArgs sLawShared, defBody sLawShared, defScope sLawShared, [], []⟩
def dLawShares : He.DefD := ⟨("_law_shares", none), "_law_shares", "_law_shares", defArgs sLawShares, defBody sLawShares, defScope sLawShares, [], []⟩
def dLawIsLot : He.DefD := ⟨("_law_is_lot", none), "_law_is_lot", "_law_is_lot", defArgs sLawIsLot, defBody sLawIsLot, defScope sLawIsLot, [], []⟩
def dLawAreFronts : He.DefD := ⟨("_law_are_fronts", none), "_law_are_fronts", "_law_are_fronts", defArgs sLawAreFronts, defBody sLawAreFronts, defScope sLawAreFronts, [], []⟩
def dLawSpoilt : He.DefD := ⟨("_law_spoilt", none), "_law_spoilt", "_law_spoilt", defArgs sLawSpoilt, defBody sLawSpoilt, defScope sLawSpoilt, [], []⟩
def dLawTabled : He.DefD := ⟨("_law_tabled", none), "_law_tabled", "_law_tabled", defArgs sLawTabled, defBody sLawTabled, defScope sLawTabled, [], []⟩
def dLawSmall : He.DefD := ⟨("_law_small", none), "_law_small", "_law_small", defArgs sLawSmall, defBody sLawSmall, defScope sLawSmall, [], []⟩
def dLawCounted : He.DefD := ⟨("_law_counted", none), "_law_counted", "_law_counted", defArgs sLawCounted, defBody sLawCounted, defScope sLawCounted, [], []⟩
def dLaw : He.DefD := ⟨("law", none), "law", "law", defArgs sLaw, defBody sLaw, defScope sLaw, [], []⟩
def fnL : List He.DefD := [dIsInteger, dIsNumber, dIsIndex, dIsRising, dGiftsOn, dIsTimetable, dTogether, dIsFront, dSharesOn, dIsWithin, dLeadsOn, dAreFronts, dDoneLater, dDoneDays, dGreatest, dFronts, dAllJobs, dIsDoneOn, dShareOn, dTimetableWithin, dIsDelayPaper, dFewestDays, dLawDraw, dLawAny, dLawOf, dLawCalendar, dLawJobs, dLawShared, dLawShares, dLawIsLot, dLawAreFronts, dLawSpoilt, dLawTabled, dLawSmall, dLawCounted, dLaw]
def faA : List He.Fa := [.glo "is_integer", .glo "is_number", .glo "is_index", .glo "is_rising", .glo "gifts_on", .glo "is_timetable", .glo "together", .glo "is_front", .glo "shares_on", .glo "is_within", .glo "leads_on", .glo "are_fronts", .glo "done_later", .glo "done_days", .glo "greatest", .glo "fronts", .glo "all_jobs", .glo "is_done_on"]
def faB : List He.Fa := [.glo "share_on", .glo "timetable_within", .glo "is_delay_paper", .glo "fewest_days", .glo "_law_draw", .glo "_law_any", .glo "_law_of", .glo "_law_calendar", .glo "_law_jobs", .glo "_law_shared", .glo "_law_shares", .glo "_law_is_lot", .glo "_law_are_fronts", .glo "_law_spoilt", .glo "_law_tabled", .glo "_law_small", .glo "_law_counted", .glo "law"]
def faC : List He.Fa := [.free "isinstance", .free "int", .free "bool", .free "tuple", .free "list", .free "len", .free "all", .free "any", .free "range", .free "sum", .free "enumerate", .free "sorted", .free "set", .free "min", .free "abs", .free "repr"]
def faL : List He.Fa := faA ++ faB ++ faC
def nmA : List PySem.Str := ["is_integer", "is_number", "is_index", "is_rising", "gifts_on", "is_timetable", "together", "is_front", "shares_on", "is_within", "leads_on", "are_fronts", "done_later", "done_days", "greatest", "fronts", "all_jobs", "is_done_on", "share_on"]
def nmB : List PySem.Str := ["timetable_within", "is_delay_paper", "fewest_days", "_law_draw", "_law_any", "_law_of", "_law_calendar", "_law_jobs", "_law_shared", "_law_shares", "_law_is_lot", "_law_are_fronts", "_law_spoilt", "_law_tabled", "_law_small", "_law_counted", "_law_mixed", "_law_done", "_law_greatest"]
def nmL : List PySem.Str := nmA ++ nmB
abbrev RR : PySem.W.OpenRow := PySem.W.OpenLaw.row PySem.Challenge.rw_givesifgets_k52_whole_timetable_or_paper
abbrev hkL : PySem.W.Hook := He.hookD 4 faL fnL
def obL (s : PySem.W.SharedT) : He.AlD := He.obsDG 4 faL fnL (HandSHeadRun.getT s)
theorem ob_eqL (s : PySem.W.SharedT) : obL s = hkL.obs s.abs := He.obsDG_eq (HandSHeadRun.getT_eq s)
theorem runL (w : World) : HandSHeadRun.RunEq RR (PySem.W.view RR.prog [43]) hkL obL 2000 nmL w := by
  intro os
  kernel_rfl
end K52
end
section
set_option Elab.async false
set_option linter.all false
set_option maxRecDepth 100000
/-! A value stands for data; what a reading evaluates to, as data. -/
namespace K52
open PySem PySem.Spec PyProof.Rows L2

/-! ### a value stands for data -/
mutual
inductive Rep (H : Hp) : V → PyData → Prop
  | non : Rep H .non .none
  | bl (b : Bool) : Rep H (.bl b) (.bool b)
  | int (i : Int) : Rep H (.int i) (.int i)
  | str (x : Str) : Rep H (.str x) (.str x)
  | lst {a : Addr} {xs : List V} {ds : List PyData} : H a = some (.lst xs) → Reps H xs ds → Rep H (.ref a) (.list ds)
  | tup {a : Addr} {xs : List V} {ds : List PyData} : H a = some (.tup xs) → Reps H xs ds → Rep H (.ref a) (.tuple ds)
inductive Reps (H : Hp) : List V → List PyData → Prop
  | nil : Reps H [] []
  | cons {v : V} {vs : List V} {d : PyData} {ds : List PyData} : Rep H v d → Reps H vs ds → Reps H (v :: vs) (d :: ds)
end
mutual
theorem Rep.dp {K : PySem.W.Frag} {H : Hp} : ∀ {v : V} {d : PyData}, Rep H v d → Dp K H v d
  | _, _, .non => .non
  | _, _, .bl b => .bl b
  | _, _, .int i => .int i
  | _, _, .str x => .str x
  | _, _, .lst h r => .lst (SqL.of h) (Reps.dp r)
  | _, _, .tup h r => .tup (SqT.of h) (Reps.dp r)
theorem Reps.dp {K : PySem.W.Frag} {H : Hp} : ∀ {vs : List V} {ds : List PyData}, Reps H vs ds → DpAll K H vs ds
  | _, _, .nil => .nil
  | _, _, .cons h t => .cons (Rep.dp h) (Reps.dp t)
end
mutual
theorem Rep.mono {H H' : Hp} (e : Same H H') : ∀ {v : V} {d : PyData}, Rep H v d → Rep H' v d
  | _, _, .non => .non
  | _, _, .bl b => .bl b
  | _, _, .int i => .int i
  | _, _, .str x => .str x
  | _, _, .lst h r => .lst (e _ _ h) (Reps.mono e r)
  | _, _, .tup h r => .tup (e _ _ h) (Reps.mono e r)
theorem Reps.mono {H H' : Hp} (e : Same H H') : ∀ {vs : List V} {ds : List PyData}, Reps H vs ds → Reps H' vs ds
  | _, _, .nil => .nil
  | _, _, .cons h t => .cons (Rep.mono e h) (Reps.mono e t)
end
/-! no list within -/
mutual
def noL : PyData → Bool
  | .list _ => false
  | .tuple ds => noLs ds
  | _ => true
def noLs : List PyData → Bool
  | [] => true
  | d :: ds => noL d && noLs ds
end
/-- the tuples stand -/
def TS (H H' : Hp) : Prop := ∀ a xs, H a = some (.tup xs) → H' a = some (.tup xs)
theorem TS.of {H H' : Hp} (e : Same H H') : TS H H' := fun a xs h => e a _ h
theorem TS.refl (H : Hp) : TS H H := fun _ _ h => h
theorem TS.trans {H H1 H2 : Hp} (a : TS H H1) (b : TS H1 H2) : TS H H2 := fun x xs h => b x xs (a x xs h)
theorem TS.upd {H H' : Hp} {a : Addr} {o : HO} (e : TS H H') (h : ∀ xs, H' a ≠ some (.tup xs)) : TS H (upd H' a o) := fun b xs hb => by
  by_cases c : b = a
  · subst c; exact absurd (e b xs hb) (h xs)
  · rw [upd_ne c]; exact e b xs hb
mutual
theorem Rep.ts {H H' : Hp} (e : TS H H') : ∀ {v : V} {d : PyData}, noL d = true → Rep H v d → Rep H' v d
  | _, _, _, .non => .non
  | _, _, _, .bl b => .bl b
  | _, _, _, .int i => .int i
  | _, _, _, .str x => .str x
  | _, _, n, .lst h r => by simp [noL] at n
  | _, _, n, .tup h r => .tup (e _ _ h) (Reps.ts e (by simpa [noL] using n) r)
theorem Reps.ts {H H' : Hp} (e : TS H H') : ∀ {vs : List V} {ds : List PyData}, noLs ds = true → Reps H vs ds → Reps H' vs ds
  | _, _, _, .nil => .nil
  | _, _, n, .cons h t => by
    simp only [noLs, Bool.and_eq_true] at n
    exact .cons (Rep.ts e n.1 h) (Reps.ts e n.2 t)
end
theorem noLs_map {α : Type} {f : α → PyData} (h : ∀ a, noL (f a) = true) : ∀ l : List α, noLs (l.map f) = true
  | [] => rfl
  | a :: r => by simp [noLs, h a, noLs_map h r]
theorem Reps.length {H : Hp} {vs : List V} {ds : List PyData} : Reps H vs ds → vs.length = ds.length
  | .nil => rfl
  | .cons _ t => by rw [List.length_cons, List.length_cons, Reps.length t]
theorem Reps.append {H : Hp} {ws : List V} {es : List PyData} (b : Reps H ws es) : ∀ {vs : List V} {ds : List PyData}, Reps H vs ds → Reps H (vs ++ ws) (ds ++ es)
  | _, _, .nil => b
  | _, _, .cons h t => .cons h (Reps.append b t)
theorem Reps.snoc {H : Hp} {vs : List V} {ds : List PyData} {v : V} {d : PyData} (h : Reps H vs ds) (r : Rep H v d) : Reps H (vs ++ [v]) (ds ++ [d]) := Reps.append (.cons r .nil) h
theorem Reps.get {H : Hp} : ∀ {vs : List V} {ds : List PyData} {i : Nat} {v : V}, Reps H vs ds → vs[i]? = some v → ∃ d, ds[i]? = some d ∧ Rep H v d
  | _, _, _, _, .nil, e => by simp at e
  | _, _, 0, _, .cons h _, e => by simp at e; subst e; exact ⟨_, rfl, h⟩
  | _, _, i + 1, v, .cons _ t, e => by
    obtain ⟨d, h1, h2⟩ := Reps.get (i := i) (v := v) t (by simpa using e)
    exact ⟨d, by simpa using h1, h2⟩
theorem Reps.get' {H : Hp} : ∀ {vs : List V} {ds : List PyData} {i : Nat} {d : PyData}, Reps H vs ds → ds[i]? = some d → ∃ v, vs[i]? = some v ∧ Rep H v d
  | _, _, _, _, .nil, e => by simp at e
  | _, _, 0, _, .cons h _, e => by simp at e; subst e; exact ⟨_, rfl, h⟩
  | _, _, i + 1, d, .cons _ t, e => by
    obtain ⟨v, h1, h2⟩ := Reps.get' (i := i) (d := d) t (by simpa using e)
    exact ⟨v, by simpa using h1, h2⟩
theorem Reps.set {H : Hp} {v : V} {d : PyData} (r : Rep H v d) : ∀ {vs : List V} {ds : List PyData} (i : Nat), Reps H vs ds → Reps H (vs.set i v) (ds.set i d)
  | _, _, _, .nil => .nil
  | _, _, 0, .cons _ t => .cons r t
  | _, _, i + 1, .cons q t => .cons q (Reps.set r i t)
theorem Reps.take {H : Hp} : ∀ {vs : List V} {ds : List PyData} (n : Nat), Reps H vs ds → Reps H (vs.take n) (ds.take n)
  | _, _, 0, _ => .nil
  | _, _, _ + 1, .nil => .nil
  | _, _, n + 1, .cons h t => .cons h (Reps.take n t)
theorem Reps.drop {H : Hp} : ∀ {vs : List V} {ds : List PyData} (n : Nat), Reps H vs ds → Reps H (vs.drop n) (ds.drop n)
  | _, _, 0, r => r
  | _, _, _ + 1, .nil => .nil
  | _, _, n + 1, .cons _ t => Reps.drop n t
theorem Reps.reverse {H : Hp} : ∀ {vs : List V} {ds : List PyData}, Reps H vs ds → Reps H vs.reverse ds.reverse
  | _, _, .nil => .nil
  | _, _, .cons h t => by rw [List.reverse_cons, List.reverse_cons]; exact (Reps.reverse t).snoc h
theorem Reps.dropLast {H : Hp} {vs : List V} {ds : List PyData} (h : Reps H vs ds) : Reps H vs.dropLast ds.dropLast := by
  rw [List.dropLast_eq_take, List.dropLast_eq_take, h.length]; exact h.take _
theorem Reps.ints {H : Hp} : ∀ (ns : List Int), Reps H (ns.map V.int) (ns.map PyData.int)
  | [] => .nil
  | n :: r => .cons (.int n) (Reps.ints r)
theorem Reps.of_ints {H : Hp} : ∀ {ns : List Int} {vs : List V}, Reps H vs (ns.map PyData.int) → vs = ns.map V.int
  | [], _, .nil => rfl
  | n :: r, _, .cons h t => by cases h; rw [Reps.of_ints t] <;> rfl
theorem Reps.of_bools {H : Hp} : ∀ {ns : List Bool} {vs : List V}, Reps H vs (ns.map PyData.bool) → vs = ns.map V.bl
  | [], _, .nil => rfl
  | n :: r, _, .cons h t => by cases h; rw [Reps.of_bools t] <;> rfl

/-! ### what evaluates to what -/
def ED (te : TE) (σ : L2.St) (H : Hp) (d : PyData) : Prop := ∀ H1, Same H H1 → ∀ Q : VK, (∀ v H2, Same H1 H2 → Rep H2 v d → Q v H2) → te σ H1 Q
def EB (tt : TT) (σ : L2.St) (H : Hp) (b : Bool) : Prop := ∀ H1, Same H H1 → ∀ Q : Bool → Hp → Prop, (∀ H2, Same H1 H2 → Q b H2) → tt σ H1 Q
def EA (ta : TA) (σ : L2.St) (H : Hp) (ds : List PyData) : Prop := ∀ H1, Same H H1 → ∀ Q : List V → Hp → Prop, (∀ vs H2, Same H1 H2 → Reps H2 vs ds → Q vs H2) → ta σ H1 Q
def RD (r : R2) (a b c : PyData) : Prop := ∀ (H : Hp) (x y : V), Rep H x a → Rep H y b → ∀ Q : VK, (∀ v H', Same H H' → Rep H' v c → Q v H') → r x y H Q
def UD (r : V → Hp → VK → Prop) (a c : PyData) : Prop := ∀ (H : Hp) (x : V), Rep H x a → ∀ Q : VK, (∀ v H', Same H H' → Rep H' v c → Q v H') → r x H Q
def CD (r : List V → Hp → VK → Prop) (ds : List PyData) (c : PyData) : Prop := ∀ (H : Hp) (vs : List V), Reps H vs ds → ∀ Q : VK, (∀ v H', Same H H' → Rep H' v c → Q v H') → r vs H Q
section
variable {K : PySem.W.Frag} {σ : L2.St} {H H' : Hp} {ta tb te tc : TE} {t u : TT} {a b c d : PyData} {r : R2}
theorem ED.mono (e : Same H H') (h : ED te σ H d) : ED te σ H' d := fun H1 s Q q => h H1 (e.trans s) Q q
theorem EB.mono {b : Bool} (e : Same H H') (h : EB t σ H b) : EB t σ H' b := fun H1 s Q q => h H1 (e.trans s) Q q
theorem ed_var {i : Nat} {v : V} (h : σ[i]? = some (some v)) (r : Rep H v d) : ED (tVar i) σ H d := fun H1 s Q q => ⟨v, h, q v H1 (Same.refl _) (r.mono s)⟩
theorem ed_int {i : Int} : ED (tC (.int i)) σ H (.int i) := fun H1 _ Q q => q _ H1 (Same.refl _) (.int i)
theorem ed_bl {i : Bool} : ED (tC (.bl i)) σ H (.bool i) := fun H1 _ Q q => q _ H1 (Same.refl _) (.bl i)
theorem ed_non : ED (tC .non) σ H .none := fun H1 _ Q q => q _ H1 (Same.refl _) .non
theorem ed_op (ha : ED ta σ H a) (hb : ED tb σ H b) (hr : RD r a b c) : ED (tOp r ta tb) σ H c := fun H1 s Q q =>
  ha H1 s _ fun x H2 s2 rx => hb H2 (s.trans s2) _ fun y H3 s3 ry => hr H3 x y (rx.mono s3) ry Q fun v H4 s4 rv => q v H4 ((s2.trans s3).trans s4) rv
theorem ed_un {r : V → Hp → VK → Prop} (ha : ED ta σ H a) (hr : UD r a c) : ED (tUn r ta) σ H c := fun H1 s Q q =>
  ha H1 s _ fun x H2 s2 rx => hr H2 x rx Q fun v H3 s3 rv => q v H3 (s2.trans s3) rv
theorem ea_nil : EA tNil σ H [] := fun H1 _ Q q => q [] H1 (Same.refl _) .nil
theorem ea_cons {tr : TA} {ds : List PyData} (h : ED ta σ H d) (hr : EA tr σ H ds) : EA (tCons ta tr) σ H (d :: ds) := fun H1 s Q q =>
  h H1 s _ fun x H2 s2 rx => hr H2 (s.trans s2) _ fun vs H3 s3 rs => q _ H3 (s2.trans s3) (.cons (rx.mono s3) rs)
theorem ed_cb {r : List V → Hp → VK → Prop} {tr : TA} {ds : List PyData} (h : EA tr σ H ds) (hr : CD r ds c) : ED (tCB r tr) σ H c := fun H1 s Q q =>
  h H1 s _ fun vs H2 s2 rs => hr H2 vs rs Q fun v H3 s3 rv => q v H3 (s2.trans s3) rv
theorem ed_is (h : ED te σ H a) (e : a = b) : ED te σ H b := e ▸ h
theorem eb_is {a b : Bool} (h : EB t σ H a) (e : a = b) : EB t σ H b := e ▸ h
/-- a new object extends the heap -/
theorem same_new {p : Addr} {o : HO} (h : H p = none) : Same H (upd H p o) := fun b x e => by rw [upd_ne (ne_of_none e h)]; exact e
theorem same_mut {p : Addr} {o : HO} (e : Same H H') (h : H p = none) : Same H (upd H' p o) := fun b x q => by rw [upd_ne (ne_of_none q h)]; exact e b x q
theorem ed_tup {tr : TA} {ds : List PyData} (h : EA tr σ H ds) (hl : ds.length ≤ 100000) : ED (tTup tr) σ H (.tuple ds) := fun H1 s Q q =>
  h H1 s _ fun vs H2 s2 rs => ⟨by rw [rs.length]; exact Nat.le_trans hl (by decide), fun p hp => q _ _ (s2.trans (same_new hp)) (.tup upd_same (rs.mono (same_new hp)))⟩
theorem ed_lst {tr : TA} {ds : List PyData} (h : EA tr σ H ds) (hl : ds.length ≤ 100000) : ED (tLst tr) σ H (.list ds) := fun H1 s Q q =>
  h H1 s _ fun vs H2 s2 rs => ⟨by rw [rs.length]; exact Nat.le_trans hl (by decide), fun p hp => q _ _ (s2.trans (same_new hp)) (.lst upd_same (rs.mono (same_new hp)))⟩
/-- *e within a display -/
theorem ea_star {tr : TA} {ds es : List PyData} (h : ED ta σ H (.tuple ds)) (hr : EA tr σ H es) : EA (StX.tStar K ta tr) σ H (ds ++ es) := fun H1 s Q q =>
  h H1 s _ fun x H2 s2 rx => by
    cases rx with
    | tup ha rs => exact ⟨_, _, rfl, .inl (SqT.of ha), hr H2 (s.trans s2) _ fun vs H3 s3 rt => q _ H3 (s2.trans s3) (Reps.append rt (rs.mono s3))⟩
/-! tests -/
theorem eb_test {b : Bool} (h : ED te σ H (.bool b)) : EB (tTest te) σ H b := fun H1 s Q q => h H1 s _ fun v H2 s2 r => by cases r; exact ⟨b, rfl, q H2 s2⟩
theorem eb_B {b : Bool} (h : ED te σ H (.bool b)) : EB (tB te) σ H b := fun H1 s Q q => h H1 s _ fun v H2 s2 r => by cases r; exact ⟨b, rfl, q H2 s2⟩
theorem eb_and {a b : Bool} (h1 : EB t σ H a) (h2 : a = true → EB u σ H b) : EB (tAnd t u) σ H (a && b) := fun H1 s Q q => h1 H1 s _ fun H2 s2 => by
  cases a with
  | true => exact h2 rfl H2 (s.trans s2) Q fun H3 s3 => q H3 (s2.trans s3)
  | false => exact q H2 s2
theorem eb_or {a b : Bool} (h1 : EB t σ H a) (h2 : a = false → EB u σ H b) : EB (tOr t u) σ H (a || b) := fun H1 s Q q => h1 H1 s _ fun H2 s2 => by
  cases a with
  | true => exact q H2 s2
  | false => exact h2 rfl H2 (s.trans s2) Q fun H3 s3 => q H3 (s2.trans s3)
theorem eb_not {a : Bool} (h : EB t σ H a) : EB (tNot t) σ H (!a) := fun H1 s Q q => h H1 s _ fun H2 s2 => q H2 s2
theorem ed_andV {a b : Bool} (h1 : ED ta σ H (.bool a)) (h2 : a = true → ED tb σ H (.bool b)) : ED (tAndV ta tb) σ H (.bool (a && b)) := fun H1 s Q q => h1 H1 s _ fun v H2 s2 r => by
  cases r
  refine ⟨a, rfl, ?_⟩
  cases a with
  | true => exact h2 rfl H2 (s.trans s2) Q fun v H3 s3 r => q v H3 (s2.trans s3) r
  | false => exact q _ H2 s2 (.bl false)
theorem ed_orV {a b : Bool} (h1 : ED ta σ H (.bool a)) (h2 : a = false → ED tb σ H (.bool b)) : ED (tOrV ta tb) σ H (.bool (a || b)) := fun H1 s Q q => h1 H1 s _ fun v H2 s2 r => by
  cases r
  refine ⟨a, rfl, ?_⟩
  cases a with
  | true => exact q _ H2 s2 (.bl true)
  | false => exact h2 rfl H2 (s.trans s2) Q fun v H3 s3 r => q v H3 (s2.trans s3) r
theorem ed_notV {a : Bool} (h : ED ta σ H (.bool a)) : ED (tNotV ta) σ H (.bool (!a)) := fun H1 s Q q => h H1 s _ fun v H2 s2 r => by cases r; exact ⟨a, rfl, q _ H2 s2 (.bl _)⟩
theorem ed_if {b : Bool} {d1 d2 : PyData} (h : EB t σ H b) (h1 : b = true → ED ta σ H d1) (h2 : b = false → ED tb σ H d2) : ED (tIf t ta tb) σ H (if b = true then d1 else d2) := fun H1 s Q q => h H1 s _ fun H2 s2 => by
  cases b with
  | true => exact h1 rfl H2 (s.trans s2) Q fun v H3 s3 r => q v H3 (s2.trans s3) r
  | false => exact h2 rfl H2 (s.trans s2) Q fun v H3 s3 r => q v H3 (s2.trans s3) r
theorem ed_chain {r' : R2} {x y z : PyData} {p q' : Bool} (ha : ED ta σ H x) (hb : ED tb σ H y) (hc : ED tc σ H z) (hr : RD r x y (.bool p)) (hr' : RD r' y z (.bool q')) : ED (tChain r r' ta tb tc) σ H (.bool (p && q')) := fun H1 s Q q =>
  ha H1 s _ fun v1 H2 s2 r1 => hb H2 (s.trans s2) _ fun v2 H3 s3 r2 => hr H3 v1 v2 (r1.mono s3) r2 _ fun v3 H4 s4 r3 => by
    cases r3
    refine ⟨p, rfl, ?_⟩
    cases p with
    | true => exact hc H4 ((s.trans s2).trans (s3.trans s4)) _ fun v4 H5 s5 r4 => hr' H5 v2 v4 (r2.mono (s4.trans s5)) r4 Q fun v H6 s6 rv => q v H6 ((s2.trans s3).trans ((s4.trans s5).trans s6)) rv
    | false => exact q _ H4 ((s2.trans s3).trans s4) (.bl false)
/-! calls of pure defs -/
def spP {α : Type} (args : α → List PyData) (pre : α → Prop) (res : α → PyData) : Sp := fun vs H Q _ => ∃ x, Reps H vs (args x) ∧ pre x ∧ ∀ v H', Same H H' → Rep H' v (res x) → Q v H'
theorem spP_len {α : Type} {args : α → List PyData} {pre : α → Prop} {res : α → PyData} {n : Nat} (h : ∀ x, (args x).length = n) {vs : List V} {H : Hp} {Q : VK} {E : XK} (p : spP args pre res vs H Q E) : vs.length = n := by
  obtain ⟨x, rs, _⟩ := p
  rw [rs.length, h]
theorem ed_call {α : Type} {args : α → List PyData} {pre : α → Prop} {res : α → PyData} {E : XK} {tr : TA} (x : α) (h : EA tr σ H (args x)) (p : pre x) : ED (tCall (spP args pre res) [] E tr) σ H (res x) := fun H1 s Q q =>
  h H1 s _ fun vs H2 s2 rs => by
    rw [List.append_nil]
    exact ⟨x, rs, p, fun v H3 s3 rv => q v H3 (s2.trans s3) rv⟩
end
end K52
end
section
set_option Elab.async false
set_option linter.all false
set_option maxRecDepth 100000
/-! enumerate(tuple), in a for and in a comprehension. -/
namespace K52
open PySem PySem.Spec PyProof.Rows L2
set_option maxHeartbeats 2000000 in
theorem meets_enum1 {v : Value} {o : Obj} {H : Heap → Prop} (B : Begins v o H) :
    Meets (Builtin.«enumerate.__new__» ⟨[.type "enumerate", v], []⟩) (fun _ R s => H s.heap ∧
      R (.ok (.ret (.ref (s.heap.push o).objs.size))) { s with heap := (s.heap.push o).push { cls := .type "enumerate", data := .fields #[.none, .bool false, .ref s.heap.objs.size, rawInt 0, .none, .none] } }) :=
  .of_wp fun prog w A R s h => by
    obtain ⟨hp, g, d, tk, os⟩ := s
    obtain ⟨h1, h⟩ := h
    have hsub := sub_enumerate
    have q1 : ∀ {A' : Around} {E : Value → Shared → Prop} {Q : Value → Shared → Prop}, Q (.ref hp.objs.size) ⟨hp.push o, g, d, tk, os⟩ → wpAny (model prog w) A' (pyIter v) Q E ⟨hp, g, d, tk, os⟩ :=
      fun q => B.iter prog w _ _ ⟨hp, g, d, tk, os⟩ _ h1 q
    wp_walk using q1
    refine wpAny_stack_any fun st => wpAny_pure ?_
    split
    · rename_i c _ _ _ _ _
      cases (c == Value.type "enumerate")
      all_goals
        wp_walk using q1
        exact ⟨_, rfl, h⟩
    · wp_walk using q1
      exact ⟨_, rfl, h⟩
section
variable {prog : Program} {w : World} {A : Around} {E : Value → Shared → Prop} {s : Shared}
theorem enum_one {v : Value} {o : Obj} {H : Heap → Prop} {Q : Value → Shared → Prop} (B : Begins v o H) (h1 : H s.heap)
    (h : ∀ h', IsEnum h' (s.heap.objs.size + 1) s.heap.objs.size 0 .none → h'.get? s.heap.objs.size = some o → (∀ b o, s.heap.get? b = some o → h'.get? b = some o) → Q (.ref (s.heap.objs.size + 1)) { s with heap := h' }) :
    wpAny (model prog w) A (call (.type "enumerate") [v]) Q E s := by
  refine callType_new F.called_enumerate (by decide) (F.typeCall_enumerate_1 _) (F.newCall_enumerate_1 _) (fun obj => F.args_object_init_2 obj _) F.entry_enumerate_new (meets_enum1 B) ⟨h1, ?_⟩
  have hz : (s.heap.push o).objs.size = s.heap.objs.size + 1 := Heap.size_push ..
  show _ ∧ _
  rw [hz]
  have he : IsEnum ((s.heap.push o).push { cls := .type "enumerate", data := .fields #[.none, .bool false, .ref s.heap.objs.size, rawInt 0, .none, .none] }) (s.heap.objs.size + 1) s.heap.objs.size 0 .none := by
    have q := Heap.get?_push_size (s.heap.push o) (o := { cls := .type "enumerate", data := .fields #[.none, .bool false, .ref s.heap.objs.size, rawInt 0, .none, .none] }) rfl
    rw [hz] at q; exact q
  exact ⟨⟨_, he, rfl⟩, h _ he (Heap.get?_push_of_some _ (Heap.get?_push_size _ B.free)) fun b u x => Heap.get?_push_of_some _ (Heap.get?_push_of_some _ x)⟩
end
/-- the tuple at a, each item in a new pair -/
def Iet (K : PySem.W.Frag) (a : Addr) : It :=
  ⟨fun i H => ∃ (xs : List V) (x : V), SqT K H a xs ∧ xs[i]? = some x, fun i H v H' => ∃ T x, v = .ref T ∧ H T = none ∧ H' = upd H T (.tup [.int (i : Nat), x]) ∧ ∀ xs, SqT K H a xs → xs[i]? = some x, fun i H => ∃ xs : List V, SqT K H a xs ∧ xs.length = i⟩
theorem turn_enumT {P : Program} {w : World} {K : PySem.W.Frag} {elts : List Expr} {kk : Nat} {tpos : Pos} (a e it : Addr) :
    Turn P w K (.Tuple elts kk tpos) (Iet K a) [e, it] e (fun i h => (∃ old, IsEnum h e it ((i : Nat) : Int) old) ∧ h.IsTupleIter it a i ∧ e ≠ it) where
  mem := by simp
  obj := fun i h st b hb => by
    obtain ⟨⟨old, he⟩, ⟨o, ho, hc, hd⟩, _⟩ := st
    rcases (by simpa using hb : b = e ∨ b = it) with z | z
    · subst z; exact ⟨_, he, fun v q => nomatch q⟩
    · subst z; exact ⟨o, ho, fun v q => by rw [hd] at q; cases q⟩
  keep := fun i h h' st k => by
    obtain ⟨⟨old, he⟩, hi, hne⟩ := st
    exact ⟨⟨old, k e (by simp) _ he⟩, hi.at fun o q => k it (by simp) o q, hne⟩
  item := by
    intro X hP hw hK hc i pins s σ H E I hf st hg
    subst hP hw hK
    obtain ⟨⟨old, he⟩, hit, hne⟩ := st
    obtain ⟨xs, x, hq, hx⟩ := hg
    obtain ⟨its, rv, p, hz⟩ := I.tuple hq
    obtain ⟨u, hu, ru⟩ := rv.get hx
    have hel : e < s.heap.objs.size := Heap.lt_size he
    have hil : it < s.heap.objs.size := by obtain ⟨_, q, _⟩ := hit; exact Heap.lt_size q
    have hit0 := hit
    have pt : s.heap.IsTuple a its.toArray := p
    have hae : a ≠ e := by
      rintro rfl
      obtain ⟨o, ho, hc2, _⟩ := pt
      rw [show s.heap.get? a = some _ from he] at ho
      cases ho
      exact absurd (Value.type.inj hc2) (by decide)
    have hai : a ≠ it := by
      rintro rfl
      obtain ⟨o, ho, hc2, _⟩ := pt
      obtain ⟨o2, ho2, hc3, _⟩ := hit0
      rw [ho2] at ho; cases ho
      rw [hc3] at hc2
      exact absurd (Value.type.inj hc2) (by decide)
    have D := Draws.tuple (prog := X.prog) (w := X.w) (A := X.A.in1) (by simp [I.ok.hd hc]) it a hai its.toArray
    have hi : i < its.length := (List.getElem?_eq_some_iff.mp hu).1
    refine wpAny_pyNext_enum_itemC D he ⟨hit, pt⟩ (by simpa using hi) hne (by simp [hae.symm, hne]) fun y h' tk hy ho hs' hT hsz hk => ?_
    have hyu : y = u := by
      have q : its.toArray[i]? = some y := hy
      rw [List.getElem?_toArray, hu] at q
      exact (Option.some.inj q).symm
    subst hyu
    refine ⟨_, rfl, wpAny_letOwnedTupleGo_enum (s := { s with heap := h', toks := tk + 1 }) ho fun h'' he' sb => ?_⟩
    have hT2 : h''.get? s.heap.objs.size = some { cls := .type "tuple", data := .seq #[.int i tk, y] } := (sb.2 _ (Nat.ne_of_gt hel)).trans hT
    have new : ObjOk X.prog X.w (upd H s.heap.objs.size (.tup [.int (i : Nat), x])) h'' s.heap.objs.size (.tup [.int (i : Nat), x]) :=
      ⟨by show 2 ≤ sizeLine; decide, [.int i tk, y], .cons ⟨_, rfl⟩ (.cons ru .nil), ⟨_, hT2, rfl, _, rfl⟩⟩
    have I1 : Inv X pins σ (upd H s.heap.objs.size (.tup [.int (i : Nat), x])) { s with heap := h'', toks := tk + 1 } :=
      I.turnedNew (ch := [e, it]) (fun b ob hb q => (sb.2 b (fun z => hb (by simp [z]))).trans (hk b ob (fun z => hb (by simp [z])) (fun z => hb (by simp [z])) q)) hf (Nat.le_refl _) new
    refine ⟨.ref s.heap.objs.size, _, I1, rfl, ⟨_, x, rfl, I.hok.fresh (Nat.le_refl _), rfl, fun ys hy => by rw [I.tuple_inj hy hq]; exact hx⟩, ⟨⟨y, ?_⟩, hs'.1.at fun o q => (sb.2 it (Ne.symm hne)).trans q, hne⟩, fun b hb => ?_⟩
    · have e1 : ((i + 1 : Nat) : Int) = (i : Int) + 1 := by omega
      rw [e1]; exact he'
    · have hb' : b < s.heap.objs.size := by
        rcases (by simpa using hb : b = e ∨ b = it) with z | z
        · rw [z]; exact hel
        · rw [z]; exact hil
      rw [upd_ne (Nat.ne_of_lt hb')]
      exact (hf b hb).1
  done := by
    intro X hP hw hK hc i pins s σ H E I hf st hg
    subst hP hw hK
    obtain ⟨⟨old, he⟩, hit, hne⟩ := st
    obtain ⟨xs, hq, hx⟩ := hg
    obtain ⟨its, rv, p, hz⟩ := I.tuple hq
    obtain ⟨f0, f1, f2, f3, f4, f5⟩ := hf it (by simp)
    have hl := rv.length
    have pt : s.heap.IsTuple a its.toArray := p
    have hai : a ≠ it := by
      rintro rfl
      obtain ⟨o, ho, hc2, _⟩ := pt
      obtain ⟨o2, ho2, hc3, _⟩ := hit
      rw [ho2] at ho; cases ho
      rw [hc3] at hc2
      exact absurd (Value.type.inj hc2) (by decide)
    have hae : a ≠ e := by
      rintro rfl
      obtain ⟨o, ho, hc2, _⟩ := pt
      rw [show s.heap.get? a = some _ from he] at ho
      cases ho
      exact absurd (Value.type.inj hc2) (by decide)
    have D := Draws.tuple (prog := X.prog) (w := X.w) (A := X.A.in1) (by simp [I.ok.hd hc]) it a hai its.toArray
    have hn : its.toArray.size = i := by rw [List.size_toArray, ← hl, hx]
    refine wpAny_pyNext_enum_endD D he (by rw [hn]; exact ⟨hit, pt⟩) fun h' eb => ⟨rfl, I.turned (t' := s.toks) (fun b o hb q => eb b o hb q) f0 f1 f3 f4 f5⟩
  self := fun A i s Q E st h => by
    obtain ⟨⟨_, he⟩, _⟩ := st
    exact wpAny_pyIter_enum he h
def iEnT (K : PySem.W.Frag) (ta : TA) : TI := fun σ H R => ta σ H fun vs H1 => ∃ a xs, vs = [.ref a] ∧ SqT K H1 a xs ∧ R (Iet K a) H1
theorem pi_enT {X : Cx} {e : Expr} {ta : TA} {p pos tpos : Pos} {elts : List Expr} {kk : Nat} (hg : Gl X "enumerate") (hm : X.mg "enumerate" = none) (ha : PA X [e] ta) (hs : starEach [e] X.env = [(false, eval e X.env)] := by rfl) :
    PI X (.Tuple elts kk tpos) (.Call (.Name "enumerate" p) [e] [] pos) (iEnT X.K ta) := by
  refine ⟨fun pins s σ H R I h => ?_⟩
  refine Call_ (ld_blt I hg hm boot_enumerate (PyProof.Rows.callWith_type1 (thn (ha.run pos pins s σ H _ I h) fun us s1 ⟨vs, H1, I1, r1, q1⟩ => ?_) hs rfl))
  obtain ⟨a, xs, ex, hq, q⟩ := q1
  subst ex
  cases r1 with
  | cons r rr =>
    cases rr
    cases r
    obtain ⟨its, rv, p', hz⟩ := I1.tuple hq
    refine enum_one (begins_tuple a its.toArray) p' fun h' he hit hk => wpAny_pyIter_enum he ?_
    have I2 : Inv X pins σ H1 { s1 with heap := h' } := I1.kept (t' := s1.toks) hk
    refine ⟨s1.heap.objs.size + 1, [s1.heap.objs.size + 1, s1.heap.objs.size], _, _, H1, rfl, I2, turn_enumT a (s1.heap.objs.size + 1) s1.heap.objs.size, ⟨⟨.none, he⟩, ⟨_, hit, rfl, rfl⟩, Nat.succ_ne_self _⟩, fun b hb => ?_, q⟩
    have hle : s1.heap.objs.size ≤ b := by
      rcases (by simpa using hb : b = s1.heap.objs.size + 1 ∨ b = s1.heap.objs.size) with z | z
      · rw [z]; exact Nat.le_add_right _ _
      · rw [z]; exact Nat.le_refl _
    exact I1.fpOk hle (I1.hok.fresh hle)
theorem walk_enT {K : PySem.W.Frag} {a : Addr} {xs : List V} : Walk (Iet K a) xs.length (fun H => SqT K H a xs) (YPair (fun i => some (.int (i : Nat))) (fun i => xs[i]?)) := by
  refine ⟨fun i _ hi q => ⟨xs, xs[i], q, by simp [hi]⟩, fun _ q => ⟨xs, q, rfl⟩, fun i H v H' _ q y => ?_⟩
  obtain ⟨T, x, h1, h2, h3, h4⟩ := y
  exact ⟨T, .int (i : Nat), x, h1, h2, h3, rfl, h4 xs q⟩
end K52
end
section
set_option Elab.async false
set_option linter.all false
set_option maxRecDepth 100000
/-! in over lists and tuples of data, is of constants, calls by keywords alone, repr, where no repr is under way. -/
namespace K52
open PySem PySem.Spec PyProof.Rows L2
section
variable {X : Cx}
/-- x in y, x not in y: y a list or a tuple of data -/
def rInA (K : PySem.W.Frag) (neg : Bool) : R2 := fun x y H Q => ∃ d e ds, Dp K H x d ∧ Dp K H y e ∧ (e = .list ds ∨ e = .tuple ds) ∧ SeqAt.shaped d = true ∧ SeqAt.shaped e = true ∧
  Q (.bl (if neg = true then !ds.any fun z => PyData.eqv z d else ds.any fun z => PyData.eqv z d)) H
theorem op_inA (hu : X.A.units + 65 < cLine) : OpR X (compareOp .In) (rInA X.K false) := by
  intro pins s σ H x y v u Q I rx ry h
  obtain ⟨d, e, ds, hd, he, hc, sd, se, q⟩ := h
  obtain ⟨as, r1⟩ := Dp.reads I d x v hd rx
  obtain ⟨bs, r2⟩ := Dp.reads I e y u he ry
  rcases hc with rfl | rfl
  · exact SeqAt.in_list_reads r2 r1 (SeqAt.canLay_of_shaped se) (SeqAt.canLay_of_shaped sd) (room_in_shaped sd hu) ⟨.bl _, H, I, rfl, q⟩
  · exact SeqAt.in_tuple_reads r2 r1 (SeqAt.canLay_of_shaped se) (SeqAt.canLay_of_shaped sd) (room_in_shaped sd hu) ⟨.bl _, H, I, rfl, q⟩
theorem op_notInA (hu : X.A.units + 65 < cLine) : OpR X (compareOp .NotIn) (rInA X.K true) := by
  intro pins s σ H x y v u Q I rx ry h
  obtain ⟨d, e, ds, hd, he, hc, sd, se, q⟩ := h
  obtain ⟨as, r1⟩ := Dp.reads I d x v hd rx
  obtain ⟨bs, r2⟩ := Dp.reads I e y u he ry
  rcases hc with rfl | rfl
  · exact SeqAt.notIn_list_reads r2 r1 (SeqAt.canLay_of_shaped se) (SeqAt.canLay_of_shaped sd) (room_in_shaped sd hu) ⟨.bl _, H, I, rfl, q⟩
  · exact SeqAt.notIn_tuple_reads r2 r1 (SeqAt.canLay_of_shaped se) (SeqAt.canLay_of_shaped sd) (room_in_shaped sd hu) ⟨.bl _, H, I, rfl, q⟩
/-- None, True, False: x is y -/
def cst : V → Bool
  | .non => true
  | .bl _ => true
  | _ => false
theorem cst_of {z : V} {t : Value} (hz : cst z = true) (r : RelV z t) : (z = .non ∧ t = .none) ∨ ∃ b, z = .bl b ∧ t = .bool b := by
  cases z with
  | non => exact .inl ⟨rfl, r⟩
  | bl b => exact .inr ⟨b, rfl, r⟩
  | _ => cases hz
theorem op_isC : OpR X (compareOp .Is) (fun x y H Q => cst x = true ∧ cst y = true ∧ Q (.bl (decide (x = y))) H) := by
  intro pins s σ H x y v u Q I rx ry h
  obtain ⟨hx, hy, q⟩ := h
  rcases cst_of hx rx with ⟨rfl, rfl⟩ | ⟨a, rfl, rfl⟩ <;> rcases cst_of hy ry with ⟨rfl, rfl⟩ | ⟨b, rfl, rfl⟩
  · exact wpAny_is_plain rfl ⟨.bl _, H, I, rfl, q⟩
  · exact wpAny_is_plain rfl ⟨.bl _, H, I, rfl, q⟩
  · exact wpAny_is_plain rfl ⟨.bl _, H, I, rfl, q⟩
  · refine wpAny_is_plain rfl ⟨.bl _, H, I, rfl, ?_⟩
    cases a <;> cases b <;> exact q
theorem op_isNotC : OpR X (compareOp .IsNot) (fun x y H Q => cst x = true ∧ cst y = true ∧ Q (.bl (!decide (x = y))) H) := by
  intro pins s σ H x y v u Q I rx ry h
  obtain ⟨hx, hy, q⟩ := h
  rcases cst_of hx rx with ⟨rfl, rfl⟩ | ⟨a, rfl, rfl⟩ <;> rcases cst_of hy ry with ⟨rfl, rfl⟩ | ⟨b, rfl, rfl⟩
  · exact wpAny_isNot_plain rfl ⟨.bl _, H, I, rfl, q⟩
  · exact wpAny_isNot_plain rfl ⟨.bl _, H, I, rfl, q⟩
  · exact wpAny_isNot_plain rfl ⟨.bl _, H, I, rfl, q⟩
  · refine wpAny_isNot_plain rfl ⟨.bl _, H, I, rfl, ?_⟩
    cases a <;> cases b <;> exact q
/-- f(k = v, ..), no positional argument -/
theorem pe_callKw {CX : CXT} {k : Nat} {f : Addr} {fd : FuncData} {ps ks : List Str} {sp : Sp} {E : XK} {x : Str} {p pos : Pos} {kws : List Keyword} {tk : TA} {g : List Value → List Value → List Value} {gV : List V → List V → List V}
    (F : FnOk X.prog X.w X.K X.mg X.base CX k f fd ps sp) (hr : Room k X.A) (hg : Gl X x) (hm : X.mg x = some (.ref f)) (hk : PySem.W.keepIn X.K (.ref f) = true) (hb : KBn X.K fd ps 0 ks g gV) (hx : Passes CX X E)
    (hkw : PK X kws tk) (hall : (backToKw pos (keywordEach kws X.env)).all (·.1.isSome) = true := by rfl) (hks : (backToKw pos (keywordEach kws X.env)).filterMap (·.1) = ks := by rfl)
    (hdb : (x == ("__debug__" : Str)) = false := by decide)
    (hpl : ((backTo pos (starEach [] X.env)).any (·.1) || (backToKw pos (keywordEach kws X.env)).any (·.1.isNone)) = false := by rfl) :
    PE X (.Call (.Name x p) [] kws pos) (tCallN 0 ks.length sp gV E tNil tk) := by
  refine ⟨fun pins s σ H Q I h => ?_⟩
  refine wpAny_Call_Name_kw (ld_glob I hg hm ?_ hdb)
  refine PySem.W.callWith_KW0 (h₀ := X.base) I.ok.mod.kin hk hall ?_ hpl
  refine thn (hkw.run pos pins s σ H _ I h) fun ws s2 ⟨zs, H2, I2, rz, l1, l2, q2⟩ => ⟨I2.kIn, ?_⟩
  rw [hks]
  exact run_fnN (us := []) (vs := []) F hr hb hx I2 .nil rz rfl l2 q2
end
end K52
end
section
set_option Elab.async false
set_option linter.all false
set_option maxRecDepth 100000
/-! Defs that are promised where no repr is under way (A.guards is empty): their calls, the law's end; repr of data. -/
namespace K52
open PySem PySem.Spec PyProof.Rows L2
/-- as FnOk, where no repr is under way -/
structure FnG (P : Program) (w : World) (K : PySem.W.Frag) (mg : Str → Option Value) (base : Heap) (CX : CXT) (k : Nat) (f : Addr) (fd : FuncData) (ps : List Str) (sp : Sp) : Prop where
  len : ∀ vs H Q E, sp vs H Q E → vs.length = ps.length
  run : ∀ (A : Around) (outer : List Env) (s : Shared) (H : Hp) (args : Args) (us : List Value) (vs : List V) (Q : VK) (E : XK), A.guards = some [] → Room k A → Env0 P w K mg base A outer s H → BindsTo s fd args (ps.zip us) → Vals vs us → sp vs H Q E →
    codeAny (model P w) A (.call (.ref f) args) (CR CX outer P w H s Q E) s
section
variable {P : Program} {w : World} {K : PySem.W.Frag} {mg : Str → Option Value} {base : Heap} {x qual : Str} {params : Arguments} {body : List Stmt} {scope : Scope} {dvs : List V} {kws : List (Str × V)} {f : Addr} {fd : FuncData}
theorem okG {CX : CXT} {N ps : List Str} {k : Nat} {sp : Sp} (F : FunD K x qual params body scope dvs kws f fd) (S : FnScope N ps scope) (len : ∀ vs H Q E, sp vs H Q E → vs.length = ps.length)
    (hbody : ∀ (cdv : Value) (A : Around) (outer : List Env) (s : Shared) (H : Hp) (vs : List V) (Q : VK) (E : XK), A.guards = some [] → Room k (A.deeper (envOfC qual scope s.heap.objs.size f cdv)) → sp vs H Q E →
      ∃ t, PSs (cxOf CX P w K mg base N qual scope f cdv A outer s H E) body t ∧ t { nx := fun _ H' => Q .non H', rt := Q } (start N vs) H) : FnG P w K mg base CX (k + 1) f fd ps sp := by
  obtain ⟨oc, od, dV, kV, doc, pm, an, cdv, ct, osl, rfl, lk, hcd, _, _⟩ := F.ex
  refine ⟨len, fun A outer s H args us vs Q E hG hr e0 hb r hsp => ?_⟩
  -- one entry alone: the promise is asked of these arguments, so fn_of's walk is taken at A
  have hl := len _ _ _ _ hsp
  have KX : K.In s.heap := e0.mod.kin.keeps fun b o e => (e0.bs b o e).1
  have lim : s.heap.NoLimit := e0.mod.nolimit.keeps fun b o e => (e0.bs b o e).1
  have hkind : ∀ y ∈ ps.zip us, scope.names.lookup y.1 = some .local ∨ (scope.names.lookup y.1 = some .cell ∧ ((cellsFrom (s.heap.objs.size + 1) scope.names []).lookup y.1).isSome = true) := by
    rintro ⟨n, v⟩ hy
    exact (S.par n (List.of_mem_zip hy).1).imp id fun q => ⟨q, PySem.W.cellsFrom_some _ _ _ (.inl q)⟩
  refine codeAny_call_function hr.depth (KX _ _ lk) rfl S.co S.gen rfl (PySem.W.codeRec_of KX hcd) (hb _ _ _ _ ?_)
  refine wpAny_newFunctionEnv_cells S.kind hkind fun env he s1 x => ?_
  subst he
  refine ⟨lim.keeps x.toInCall.keep, codeAny_func ?_⟩
  obtain ⟨t, ht, hq⟩ := hbody cdv A outer s H vs Q E hG (hr.deeper _) hsp
  have I := inv_start (CX := CX) (E := E) (cd := cdv) (qual := qual) S hr.hd e0 hl r x
  refine wpAny_mono (ht.run [] s1 (start N vs) H _ I hq) (fun fl s' hs => ?_) fun e s' hs => hs
  cases fl with
  | ret u =>
    obtain ⟨v, σ', H', J, rv, q⟩ := hs
    exact ⟨v, H', J.os, J.bare, J.base, J.hok, rv, q⟩
  | next =>
    obtain ⟨σ', H', J, q⟩ := hs
    exact ⟨V.non, H', J.os, J.bare, J.base, J.hok, rfl, q⟩
  | brk => obtain ⟨_, _, _, q⟩ := hs; exact False.elim q
  | cont => obtain ⟨_, _, _, q⟩ := hs; exact False.elim q
end
section
variable {X : Cx} {CX : CXT} {k : Nat} {f : Addr} {fd : FuncData} {ps : List Str} {sp : Sp} {E : XK} {x : Str} {p pos : Pos} {e : Expr} {es : List Expr} {t : TA}
theorem pe_callG (hG : X.A.guards = some []) (F : FnG X.prog X.w X.K X.mg X.base CX k f fd ps sp) (hr : Room k X.A) (hg : Gl X x) (hm : X.mg x = some (.ref f)) (hk : PySem.W.keepIn X.K (.ref f) = true) (hb : Binds X.K fd ps []) (hx : Passes CX X E)
    (ha : PA X (e :: es) t) (hdb : (x == ("__debug__" : Str)) = false := by decide) (he : starEach (e :: es) X.env = (false, eval e X.env) :: starEach es X.env := by rfl) (hpl : (backTo pos (starEach es X.env)).any (·.1) = false := by rfl) :
    PE X (.Call (.Name x p) (e :: es) [] pos) (tCall sp [] E t) := by
  refine ⟨fun pins s σ H Q I h => ?_⟩
  refine wpAny_Call_Name_kw (ld_glob I hg hm ?_ hdb)
  refine PySem.W.callWith_K (h₀ := X.base) I.ok.mod.kin hk (thn (ha.run pos pins s σ H _ I h) fun us s1 ⟨vs, H1, I1, r, q⟩ => ⟨I1.kIn, ?_⟩) he hpl
  have q : sp (vs ++ []) H1 Q E := q
  rw [List.append_nil] at q
  have hl : us.length = ps.length := by rw [← r.length]; exact F.len _ _ _ _ q
  have hb' := hb s1 us I1.kIn (by rw [List.append_nil]; exact hl)
  rw [List.append_nil] at hb'
  refine wpAny_call (codeAny_mono (F.run X.A X.stack s1 H1 ⟨us, []⟩ us vs Q E hG hr I1.env0 hb' r q) fun r s' hq => ?_)
  cases r with
  | error e => exact hx pins σ H1 s1 e s' I1 hq
  | ok fl =>
    cases fl with
    | ret u => exact I1.after hq
    | next => exact False.elim hq
    | brk => exact False.elim hq
    | cont => exact False.elim hq
/-- repr of data -/
def rRepr (K : PySem.W.Frag) : List V → Hp → VK → Prop := fun xs H Q => ∃ x d, xs = [x] ∧ Dp K H x d ∧ d.showable = true ∧ d.hasDict = false ∧ d.depth ≤ 20 ∧ d.shown.length ≤ sizeLine ∧ Q (.str d.shown) H
theorem call_reprD (hG : X.A.guards = some []) (hu : X.A.units + 64 < cLine) : CallR X (.builtin "repr") (rRepr X.K) := by
  intro pins s σ H xs us Q I r h
  obtain ⟨x, d, rfl, hd, hs, hh, hdp, hz, q⟩ := h
  obtain ⟨u, rfl, ru⟩ := vals1 r
  have big : ∀ {a : Addr}, u = .ref a → wpAny (model X.prog X.w) X.A (call (.builtin "repr") [u]) (EP X pins σ Q) X.xe s := fun {a} e => by
    subst e
    obtain ⟨as, rd⟩ := Dp.reads I d x _ hd ru
    exact repr_of_reads' rd hs (fun z => by rw [hh] at z; cases z) hG (by omega) (fun _ _ e => e) (fun h' u tk hk => ⟨.str d.shown, H, I.kept hk, ⟨_, rfl⟩, q⟩) hz
  cases hd with
  | non =>
    cases (show u = Value.none from ru)
    exact PySem.P.repr_of_none ⟨.str _, H, I.tok _, ⟨_, rfl⟩, q⟩
  | bl b =>
    cases (show u = Value.bool b from ru)
    exact PySem.P.repr_of_bool ⟨.str _, H, I.tok _, ⟨_, rfl⟩, by
      simp only [PyData.shown] at q
      cases b <;> exact q⟩
  | int i =>
    obtain ⟨tk, rfl⟩ := ru
    exact PySem.P.repr_of_int (by simpa [PyData.showable] using hs) ⟨.str _, H, I.tok _, ⟨_, rfl⟩, by simpa only [PyData.shown] using q⟩
  | str z =>
    obtain ⟨tk, rfl⟩ := ru
    exact PySem.P.repr_of_str ⟨.str _, H, I.tok _, ⟨_, rfl⟩, by simpa only [PyData.shown] using q⟩ (by simpa only [PyData.shown] using hz)
  | lst h1 h2 => exact big ru
  | tup h1 h2 => exact big ru
end

/-! ### the law's end -/
/-- the law's call at the heap behind the top; H: nothing is tracked but the script -/
theorem law_at {P : Program} {w : World} {K : PySem.W.Frag} {mg mb : Str → Option Value} {k : Nat} {fa a : Addr} {fd : FuncData} {x : Str} {sp : Sp} {s₁ : Shared} {vs : List Value} {H : Hp}
    (KX : K.In s₁.heap) (hns : s₁.heap.Ns mainGlobals mg) (hb : s₁.heap.Ns builtinsNs mb) (hbb : ∀ x : Str, x ≠ "__name__" → mb x = bootBuiltins x) (hlim : s₁.heap.NoLimit) (hg : s₁.gens = #[])
    (ha : s₁.heap.get? a = some { cls := .type "list", data := .seq vs.toArray }) (hr : Room k callerA)
    (F : ∀ base : Heap, K.In base → base.Ns mainGlobals mg → FnG P w K mg base CX0 k fa fd [x] sp) (hbind : ∀ (s : Shared) (u : Value), BindsTo s fd ⟨[u], []⟩ [(x, u)])
    (hO : Only H) (hsp : sp [.ref a] H (fun v _ => v = .bl true) fun _ _ _ => False) (hok : HOk P w H s₁.heap) (hA : ∀ b, H b ≠ none → b = a) (hK : H a ≠ none → K.lookup a = none) :
    codeAny (model P w) callerA (.call (.ref fa) ⟨[.ref a], []⟩) (fun r s' => r = .ok (.ret (.bool true)) ∧ OldK s₁.heap s'.heap ∧ s'.os = s₁.os ∧ AllBare s'.gens) s₁ := by
  have at_a : ∀ {b : Addr}, H b ≠ none → s₁.heap.get? b = some { cls := .type "list", data := .seq vs.toArray } := fun {b} h => by rw [hA b h]; exact ha
  have free_of : ∀ {b : Addr}, ¬ H b ≠ none → H b = none := fun {b} h => Classical.byContradiction h
  have nsK : ∀ {b : Addr} {m : Str → Option Value}, s₁.heap.Ns b m → (hidT s₁.heap H).Ns b m := by
    rintro b m ⟨o, es, ep, e, d, r⟩
    refine ⟨o, es, ep, hidT_get e (free_of fun h => ?_), d, r⟩
    have q := at_a h
    rw [e] at q
    cases q
    have d' : Data.seq vs.toArray _ = Data.dict es ep := d
    cases d'
  have hKb : K.In (hidT s₁.heap H) := fun b o e => hidT_get (KX b o e) (free_of fun h => by
    have q := hA b h
    subst q
    rw [hK h] at e; cases e)
  obtain ⟨mc, h1, h2⟩ := hlim
  have e0 : Env0 P w K mg (hidT s₁.heap H) callerA [] s₁ H := ⟨rfl, ⟨hKb, nsK hns, ⟨mb, nsK hb, hbb⟩, ⟨mc, nsK h1, h2⟩⟩, fun b o e => of_hidT e, Nat.le_of_eq (hidT_size _ _), trivial, fun b hb => absurd (show b ∈ ([] : List Addr) from hb) (by simp), hok, .of_eq hg⟩
  refine codeAny_mono ((F _ hKb (nsK hns)).run callerA [] s₁ H ⟨[.ref a], []⟩ [.ref a] [.ref a] _ _ rfl hr e0 (hbind s₁ (.ref a)) (.cons rfl .nil) hsp) fun r s' h => ?_
  cases r with
  | error e => exact False.elim h
  | ok fl =>
    cases fl with
    | next => exact False.elim h
    | brk => exact False.elim h
    | cont => exact False.elim h
    | ret u =>
      obtain ⟨v, H', os, bare, un, hok', r', q⟩ := h
      have q' : v = .bl true := q
      subst q'
      obtain rfl : u = Value.bool true := r'
      refine ⟨rfl, OldK.of_keep fun b o e => ?_, os, bare⟩
      rcases hO b with z | ⟨ob, xs, z⟩
      · exact un.keep b o e z (by intro y; exact absurd (show b ∈ ([] : List Addr) from y) (by simp)) (by simp)
      · obtain ⟨e1, _⟩ := hok b _ z
        obtain ⟨e2, _⟩ := hok' b _ (un.frzs b ob _ z)
        rw [e] at e1; cases e1
        exact e2
theorem walk_ofG {l : PySem.W.OpenLaw} {n k : Nat} {q : Program} {loose : List Str} {XP : (Str → Option Value) → Heap → Prop} {YP : World → Heap → Prop} {d : DefRec} {x : Str}
    (hn : l.most = some n) (hn2 : n ≤ sizeLine) (hdf : d.params.defaults = []) (hr : Room k callerA)
    (F : ∀ (w : World) (mg : Str → Option Value) (fa : Addr) (h : Heap), YP w h → h.Ns mainGlobals mg → mg d.name = some (.ref fa) →
      ∃ (K : PySem.W.Frag) (fd : FuncData) (sp : Sp), K.In h ∧ (∀ (s : Shared) (u : Value), BindsTo s fd ⟨[u], []⟩ [(x, u)]) ∧
        (∀ (H : Hp) (a : Addr) (ns : List Int), ns.length ≤ n → SqL K H a (ns.map V.int) → sp [.ref a] H (fun v _ => v = .bl true) fun _ _ _ => False) ∧
        ∀ base : Heap, K.In base → base.Ns mainGlobals mg → FnG l.prog w K mg base CX0 k fa fd [x] sp) :
    PySem.W.WalkO q loose XP YP l.row.toRowW d [] (fun f vs => PySem.call f vs) := by
  refine Att.attach_call hn hdf fun w s₀ s₁ mg mb fa o pm cd doc a vs ns G Y ho hd hcd hmg hobj hints hlen hg => ?_
  obtain ⟨K, fd, sp, KX, hb, hsp, hF⟩ := F w mg fa _ Y G.T.g hmg
  have rv := vals_ints hints
  have hl : ns.length ≤ sizeLine := Nat.le_trans hlen hn2
  cases hk : K.lookup a with
  | some o =>
    have e := KX a o hk
    rw [hobj] at e
    cases e
    have hz : vs.toArray.size ≤ sizeLine := by rw [List.size_toArray, hints.length]; exact hl
    exact law_at (H := fun _ => none) KX G.T.g G.T.b G.T.builtins G.T.nolimit hg hobj hr hF hb (fun _ => .inl rfl)
      (hsp _ a ns hlen (.inr ⟨_, vs.toArray, _, hk, rfl, rfl, rfl, hz, by simpa using rv⟩))
      (fun b u z => by have z' : (none : Option HO) = some u := z; cases z') (fun b z => absurd rfl z) fun z => absurd rfl z
  | none =>
    have hat : ∀ {b : Addr} {u : HO}, (if b = a then some (HO.frz { cls := .type "list", data := .seq vs.toArray } (.lst (ns.map V.int))) else none) = some u → b = a ∧ u = .frz { cls := .type "list", data := .seq vs.toArray } (.lst (ns.map V.int)) := fun {b u} z => by
      by_cases c : b = a
      · rw [if_pos c] at z; exact ⟨c, (Option.some.inj z).symm⟩
      · rw [if_neg c] at z; cases z
    refine law_at (H := fun b => if b = a then some (.frz { cls := .type "list", data := .seq vs.toArray } (.lst (ns.map V.int))) else none) KX G.T.g G.T.b G.T.builtins G.T.nolimit hg hobj hr hF hb (fun b => ?_)
      (hsp _ a ns hlen (.inl (.inr ⟨{ cls := .type "list", data := .seq vs.toArray }, if_pos rfl⟩))) (fun b u z => ?_) (fun b z => ?_) fun _ => hk
    · by_cases c : b = a
      · exact .inr ⟨_, _, if_pos c⟩
      · exact .inl (if_neg c)
    · obtain ⟨rfl, rfl⟩ := hat z
      exact ⟨hobj, by rw [List.length_map]; exact hl, vs, _, rv, hobj⟩
    · cases q : (if b = a then some (HO.frz { cls := .type "list", data := .seq vs.toArray } (.lst (ns.map V.int))) else none) with
      | none => exact absurd q z
      | some u => exact (hat q).1
end K52
end
section
set_option Elab.async false
set_option linter.all false
set_option maxRecDepth 100000
/-! {k: v for target in iter}, the keys tuples. -/
namespace K52
open PySem PySem.Spec PyProof.Rows L2
section
variable {X : Cx}
/-- a comprehension's store d[y] = v where the keys are tuples -/
theorem d_dictSetT {pins : List (Addr × Obj)} {σ : L2.St} {H : Hp} {s : Shared} {E : Value → Shared → Prop} {D b : Addr} {kvs : List (List Key × V)} {k : List Key} {v : V} {r : Value} {Q : Unit → Shared → Prop} (hu : X.A.units + 1 < cLine) (I : Inv X pins σ H s)
    (e : H D = some (.dT kvs)) (eb : H b = some (.tup (k.map kV))) (hz : kvs.length < sizeLine) (rv : RelV v r) (h : ∀ s', Inv X pins σ (upd H D (.dT (putK kvs k v))) s' → Q () s') :
    wpAny (model X.prog X.w) X.A (dictSet D (.ref b) r) Q E s := by
  obtain ⟨z, hd, xs, rel, dd⟩ := dt_of I.hok e
  have hzx : xs.length ≤ sizeLine := by rw [← Paired.length rel]; exact z
  have hl : (putK kvs k v).length ≤ sizeLine := by have := length_putK kvs k v; omega
  refine wpAny_dictSet_heap (hsz := hzx) (show X.A.units < cLine by omega) (key_of I.hok eb) dd fun h' dd' hs => h _ ?_
  obtain ⟨q, es, ep, hq, h2, h3, h4, _, h5⟩ := dd'
  refine d_write I (by rw [e]; exact True.intro) hs ⟨q, hq⟩ ⟨hl, hd, _, (rel.put k eb rv).keeps fun c ys ec => ?_, q, es, ep, hq, h2, h3, h4, h5⟩
  rw [upd_ne (ne_of ec e (fun z => nomatch z))]
  exact ec
/-- what its reading asks: D the new dict -/
def tDcT (wi : TI) (g : TG) (tk tv : TE) (vs : List Nat) : TE := fun σ H Q => wi σ H fun J H1 => ∀ D, H1 D = none → ∃ W : Nat → Nat → Hp → Prop, (∃ m, W 0 m (upd H1 D (.dT []))) ∧ ∀ i m H, W i m H →
  (J.stop i H ∧ Q (.ref D) H) ∨ (J.go i H ∧ ∃ Nx : Hp → Prop, (∀ H', Nx H' → ∃ m', m' < m ∧ W (i + 1) m' H') ∧ ∀ x H', J.yld i H x H' → g x (wipe σ vs) H' fun σ2 H2 => wipe σ2 vs = wipe σ vs ∧
    tk σ2 H2 fun y H3 => tv σ2 H3 fun z H4 => ∃ (b : Addr) (kvs : List (List Key × V)) (k : List Key), y = .ref b ∧ H4 b = some (.tup (k.map kV)) ∧ H4 D = some (.dT kvs) ∧ kvs.length < sizeLine ∧ Nx (upd H4 D (.dT (putK kvs k z))))
theorem dcT_core {pins : List (Addr × Obj)} {s : Shared} {σ : L2.St} {H : Hp} {Q : VK} {kx vx tg iter : Expr} {scope : Scope} {own : List (Str × Nat)} {pos pos' : Pos} {wi : TI} {g : TG} {tk tv : TE} {use : Option (Value → Sem Unit)} {Qf : Value → Shared → Prop} (hu : X.A.units + 1 < cLine)
    (hc : X.calm = true) (hN : X.N.Nodup) (I : Inv X pins σ H s) (hi : PI X tg iter wi) (ok : BlkOk X.N X.env.scope scope own)
    (hg : ∀ (s : Shared) (H : Hp) (C : Addr) (cl : List (Str × Addr)) (fp : List Addr), PG (X.blk s H scope (compEnvC scope cl C X.env) fp) tg g)
    (hk : ∀ (s : Shared) (H : Hp) (C : Addr) (cl : List (Str × Addr)) (fp : List Addr), PE (X.blk s H scope (compEnvC scope cl C X.env) fp) kx tk)
    (he : ∀ (s : Shared) (H : Hp) (C : Addr) (cl : List (Str × Addr)) (fp : List Addr), PE (X.blk s H scope (compEnvC scope cl C X.env) fp) vx tv) (hs : ∀ x, foldedSetIterable iter X.env x = pure x)
    (h : tDcT wi g tk tv (own.map (·.2)) σ H Q)
    (hRR : ∀ D C s' m H', Inv X pins σ H' s' → Q (.ref D) H' → s'.heap.Ns C m → FpOk X pins H' C → compPost (model X.prog X.w) X.A X.xe use Qf (.ref D) C (.ok .next) s') :
    wpAny (model X.prog X.w) X.A (comprehension (.DictComp kx vx [⟨tg, iter, [], 0⟩] scope pos) scope X.env pos' newDict false (eval iter X.env) use) Qf X.xe s := by
  have hfree : ∀ y ∈ scope.names, y.2 = .free → ∃ c, X.env.cells.lookup y.1 = some c := fun y hy e => I.ok.has _ (ok.free y hy e)
  refine wpAny_comprehension_free (use := use) rfl hs (closure_ok hfree) ok.kind (fun y hy e => by rw [ok.uniq y hy, e])
    (thn (hi.run pins s σ H _ I h) fun xv s1 hx => thn hx fun itv s2 h2 => ?_)
  obtain ⟨it, fp, tn, J, H2, rfl, I2, T, st2, f2, q⟩ := h2
  refine wpAny_newObj_type (newEnv_comp ?_)
  generalize hD : s2.heap.objs.size = D
  have hDn : H2 D = none := I2.hok.fresh (Nat.le_of_eq hD)
  obtain ⟨W, ⟨m0, w0⟩, turn⟩ := q D hDn
  generalize hs3 : ({ s2 with heap := s2.heap.push { cls := .type "dict", data := .dict #[] } } : Shared) = s3
  have h3 : s3.heap = s2.heap.push { cls := .type "dict", data := .dict #[] } := by rw [← hs3]
  generalize hH3 : upd H2 D (.dT []) = H3 at w0
  have I3 : Inv X pins σ H3 s3 := by
    rw [← hs3, ← hH3]
    refine I2.laid (t' := s2.toks) (fun b o e => Heap.get?_push_of_some _ e) (Nat.le_of_eq hD) ?_
    rw [← hD]
    exact dt_empty s2.heap I2.big
  have sz : ∀ b ∈ fp, b < s2.heap.objs.size := fun b hb => Heap.lt_size (T.obj _ _ st2 b hb).choose_spec.1
  have f3 : ∀ b ∈ fp, FpOk X pins H3 b ∧ b < s3.heap.objs.size := fun b hb => by
    refine ⟨⟨?_, (f2 b hb).2⟩, by rw [h3, Heap.size_push]; exact Nat.lt_succ_of_lt (sz b hb)⟩
    rw [← hH3, upd_ne (by rw [← hD]; exact Nat.ne_of_lt (sz b hb))]
    exact (f2 b hb).1
  have I4 := block_start I3 ok hN f3
  have pg := hg s3 H3 s3.heap.objs.size (cellsFrom (s3.heap.objs.size + 1) scope.names (cloFrom X.env.cells scope.names [])) fp
  have pk := hk s3 H3 s3.heap.objs.size (cellsFrom (s3.heap.objs.size + 1) scope.names (cloFrom X.env.cells scope.names [])) fp
  have pe := he s3 H3 s3.heap.objs.size (cellsFrom (s3.heap.objs.size + 1) scope.names (cloFrom X.env.cells scope.names [])) fp
  show codeAny _ _ (.compStart (.DictComp kx vx [⟨tg, iter, [], 0⟩] scope pos) 0 (.ref it) (.ref D) (compEnvC scope (cellsFrom (s3.heap.objs.size + 1) scope.names (cloFrom X.env.cells scope.names [])) s3.heap.objs.size X.env)) (compPost (model X.prog X.w) X.A X.xe use Qf (.ref D) s3.heap.objs.size) { s3 with heap := pushCells (s3.heap.push { cls := .type "dict", data := .dict #[] }) scope.names }
  generalize hce : compEnvC scope (cellsFrom (s3.heap.objs.size + 1) scope.names (cloFrom X.env.cells scope.names [])) s3.heap.objs.size X.env = ce at I4 pg pk pe ⊢
  have cL : ce.locals = s3.heap.objs.size := by subst hce; rfl
  generalize hs4 : ({ s3 with heap := pushCells (s3.heap.push { cls := .type "dict", data := .dict #[] }) scope.names } : Shared) = s4 at I4 ⊢
  have st4 : tn 0 s4.heap := T.keep _ _ _ st2 fun b _ o e => by
    rw [← hs4]
    exact pushCells_keeps _ _ _ _ (Heap.get?_push_of_some _ (by rw [h3]; exact Heap.get?_push_of_some _ e))
  have stat : ∀ {σ' : L2.St} {H' : Hp} {s' : Shared}, Inv (X.blk s3 H3 scope ce fp) [] σ' H' s' → (∀ b ∈ fp, H' b = none) → ∀ b ∈ fp, FpOk (X.blk s3 H3 scope ce fp) [] H' b := fun {σ' H' s'} I' hn b hb =>
    ⟨hn b hb, (I'.ok.exf b hb).1, I'.ok.exfs b hb, .inl hb, fun x c e => (I'.ok.exf b hb).2 x c e, fun p hp => absurd (show p ∈ ([] : List (Addr × Obj)) ++ [] from hp) (by simp)⟩
  have huB : (X.blk s3 H3 scope ce fp).A.units + 1 < cLine := hu
  refine codeAny_compStart_dict ?_ (T.self X.A 0 _ _ _ st4 ?_)
  all_goals
    refine compLoop_anyD (fun n s' => ∃ i H', Inv (X.blk s3 H3 scope ce fp) [] (wipe σ (own.map (·.2))) H' s' ∧ tn i s'.heap ∧ (∀ b ∈ fp, H' b = none) ∧ W i n H') ?_ m0 ⟨0, H3, I4, st4, fun b hb => (f3 b hb).1.1, w0⟩
    rintro n s5 ⟨i, H5, I5, st5, n5, w5⟩
    rcases turn i n H5 w5 with ⟨stop, qq⟩ | ⟨go, Nx, hNx, step⟩
    · have td := T.done (X.blk s3 H3 scope ce fp) rfl rfl rfl hc i [] s5 _ H5 (fun _ _ => False) I5 (stat I5 n5) st5 stop
      refine thnF td fun r s6 ⟨hr, I6⟩ => ?_
      subst hr
      have I7 : Inv X pins σ H5 s6 := I3.call' (ch := fp) I6.os I6.base I6.hok I6.bare fun b hb => ⟨(f3 b hb).1.2.2.2.1, (f3 b hb).1.2.1, (f3 b hb).1.2.2.2.2.1, (f3 b hb).1.2.2.2.2.2⟩
      have nC : H5 s3.heap.objs.size = none := by rw [← cL]; exact I6.free
      obtain ⟨m, hn, _⟩ := I6.loc
      have hn : s6.heap.Ns ce.locals m := hn
      rw [cL] at hn
      exact hRR D s3.heap.objs.size s6 m H5 I7 qq hn (I3.fpOk (Nat.le_refl _) nC)
    · have ti := T.item (X.blk s3 H3 scope ce fp) rfl rfl rfl hc i [] s5 _ H5 (fun _ _ => False) I5 (stat I5 n5) st5 go
      refine thnF ti fun r s6 ⟨u, hr, h6⟩ => ?_
      subst hr
      refine thnF h6 fun _ s7 ⟨x, H7, I7, r7, y7, st7, n7⟩ => ?_
      have I7' := I7.pinned (stat I7 n7) (T.obj _ _ st7)
      refine thnF (pg.run _ s7 _ H7 x u _ I7' r7 (step x H7 y7)) fun _ s8 ⟨σ8, H8, I8, hw8, q8⟩ => ?_
      refine wpAny_tests_nil ?_
      show wpAny _ _ _ _ _ _
      refine thnF (pk.run _ s8 σ8 H8 _ I8 q8) fun z s10 ⟨yk, H10, I10, r10, q10⟩ => ?_
      refine thnF (pe.run _ s10 σ8 H10 _ I10 q10) fun z2 s11 ⟨yv, H11, I11, r11, b, kvs, k, ek, eb, hD11, hz11, nx⟩ => ?_
      subst ek
      cases (show z = Value.ref b from r10)
      refine d_dictSetT (X := X.blk s3 H3 scope ce fp) huB I11 hD11 eb hz11 r11 fun s12 I12 => ?_
      obtain ⟨m', hm, w'⟩ := hNx _ nx
      have pin' : ∀ b ∈ fp, ∀ o, s7.heap.get? b = some o → s12.heap.get? b = some o ∧ upd H11 D (.dT (putK kvs k yv)) b = none := fun b hb o e => by
        have z := I12.pin (b, o) (List.mem_append_right _ (List.mem_append_right _ (mem_pinsAt hb e)))
        exact ⟨z.1, z.2.1⟩
      refine ⟨m', hm, i + 1, _, (I12.unpinned (pins := [])).weak (by rw [← hw8, wipe_length]) (fun j v e => ?_), T.keep _ _ _ st7 fun b hb o e => (pin' b hb o e).1, fun b hb => ?_, w'⟩
      · rw [← hw8] at e
        exact (wipe_some e).1
      · obtain ⟨o, e, _⟩ := T.obj _ _ st7 b hb
        exact (pin' b hb o e).2
theorem pe_dcT {kx vx tg iter : Expr} {scope : Scope} {own : List (Str × Nat)} {pos : Pos} {wi : TI} {g : TG} {tk tv : TE} (hu : X.A.units + 1 < cLine) (hc : X.calm = true) (hN : X.N.Nodup) (hi : PI X tg iter wi) (ok : BlkOk X.N X.env.scope scope own)
    (hg : ∀ (s : Shared) (H : Hp) (C : Addr) (cl : List (Str × Addr)) (fp : List Addr), PG (X.blk s H scope (compEnvC scope cl C X.env) fp) tg g)
    (hk : ∀ (s : Shared) (H : Hp) (C : Addr) (cl : List (Str × Addr)) (fp : List Addr), PE (X.blk s H scope (compEnvC scope cl C X.env) fp) kx tk)
    (he : ∀ (s : Shared) (H : Hp) (C : Addr) (cl : List (Str × Addr)) (fp : List Addr), PE (X.blk s H scope (compEnvC scope cl C X.env) fp) vx tv) (hs : ∀ x, foldedSetIterable iter X.env x = pure x := by intro _; rfl) :
    PE X (.DictComp kx vx [⟨tg, iter, [], 0⟩] scope pos) (tDcT wi g tk tv (own.map (·.2))) := by
  refine ⟨fun pins s σ H Q I h => ?_⟩
  rw [arm_eval_DictComp]
  refine dcT_core hu hc hN I hi ok hg hk he hs h fun D C s' m H' I' q hn f => ⟨m, hn, fun h'' sb => ?_⟩
  obtain ⟨f0, f1, f2, f3, f4, f5⟩ := f
  exact ⟨.ref D, H', I'.turned (t' := s'.toks) (fun b o hb e => (sb.2 b hb).trans e) f0 f1 f3 f4 f5, rfl, q⟩
theorem ps_setDcT {i : Nat} {y : Str} {py : Pos} {kx vx tg iter : Expr} {scope : Scope} {own : List (Str × Nat)} {pos spos : Pos} {wi : TI} {g : TG} {tk tv : TE} (hu : X.A.units + 1 < cLine) (hc : X.calm = true) (hN : X.N.Nodup) (hy : X.N[i]? = some y) (hyl : X.env.scope.names.lookup y = some .local)
    (hsw : swapsWith (.DictComp kx vx [⟨tg, iter, [], 0⟩] scope pos) (some (.Name y py)) spos.line X.env = pure true) (hi : PI X tg iter wi) (ok : BlkOk X.N X.env.scope scope own)
    (hg : ∀ (s : Shared) (H : Hp) (C : Addr) (cl : List (Str × Addr)) (fp : List Addr), PG (X.blk s H scope (compEnvC scope cl C X.env) fp) tg g)
    (hk : ∀ (s : Shared) (H : Hp) (C : Addr) (cl : List (Str × Addr)) (fp : List Addr), PE (X.blk s H scope (compEnvC scope cl C X.env) fp) kx tk)
    (he : ∀ (s : Shared) (H : Hp) (C : Addr) (cl : List (Str × Addr)) (fp : List Addr), PE (X.blk s H scope (compEnvC scope cl C X.env) fp) vx tv) (hs : ∀ x, foldedSetIterable iter X.env x = pure x := by intro _; rfl) :
    PS X (.Assign [.Name y py] (.DictComp kx vx [⟨tg, iter, [], 0⟩] scope pos) spos) (tAsg (tDcT wi g tk tv (own.map (·.2))) (gName i)) := by
  refine ⟨fun pins s σ H D I h => ?_⟩
  rw [exec_Assign_Name_used _ _ _ _ hsw]
  refine wpAny_bind (wpAny_standAt (wpAny_bind ?_))
  show wpAny _ X.A (do let _ ← comprehension (.DictComp kx vx [⟨tg, iter, [], 0⟩] scope pos) scope X.env (firstIterPos [⟨tg, iter, [], 0⟩] pos) newDict false (eval iter X.env) (some (assign (.Name y py) X.env))) _ _ s
  have h : tDcT wi g tk tv (own.map (·.2)) σ H (fun x H1 => gName i x σ H1 D.nx) := h
  refine wpAny_bind (thn (dcT_core (Qf := fun _ s' => SP X pins D .next s') hu hc hN I hi ok hg hk he hs h fun L C s' m H' I' q hn f => ?_) fun _ s' hq => wpAny_pure (wpAny_pure hq))
  show wpAny _ _ (assign (.Name y py) X.env (.ref L)) _ _ _
  refine wpAny_assign_Name (store_ok2 (v := V.ref L) I' hN hy (.inl hyl) rfl (fun s2 I2 ⟨a, sb, ha⟩ => ?_) (.inr hyl))
  obtain ⟨f0, f1, f2, f3, f4, f5⟩ := f
  have haC : C ≠ a := by
    rcases ha with z | z
    · rw [z]; exact f1
    · exact fun e => f4 y a z e.symm
  refine ⟨m, hn.sameBut sb haC, fun h3 sb3 => ?_⟩
  exact ⟨_, H', I2.turned (t' := s2.toks) (fun b o hb e => (sb3.2 b hb).trans e) f0 f1 f3 f4 f5, q⟩
theorem swD_true {kx vx : Expr} {gs : List Comprehension} {scope : Scope} {pos py : Pos} {y : Str} {l : Nat} {env : Env} (hk : env.scope.kind = .function) (hy : env.scope.names.lookup y = some .local) (hl : (py.line == pos.line) = true)
    (ha : (scope.names.any fun (n, k) => n == y && (k == .local || k == .cell)) = false) : swapsWith (.DictComp kx vx gs scope pos) (some (.Name y py)) l env = pure true := by
  have ky : env.kindOf y = some .local := hy
  have hb : env.blockKind = .function := by unfold Env.blockKind; rw [hk]; rfl
  unfold swapsWith
  simp only [hb, ky, ha, Expr.pos, hl]
  rfl
end
end K52
end
section
set_option Elab.async false
set_option linter.all false
set_option maxRecDepth 100000
/-! set(list of ints), set(tuple of tuples of ints). -/
namespace K52
open PySem PySem.Spec PyProof.Rows L2
section
variable {P : Program} {w : World} {A : Around} {E : Value → Shared → Prop} {s : Shared}
set_option maxHeartbeats 4000000 in
theorem call_set_listI {l : Addr} {items : Array Value} (ns : List Int) {Q : Value → Shared → Prop} (hh : A.handled = none) (hl : s.heap.IsList l items) (hit : IntsAre items.toList ns) (hb : ns.length + 1 < scanBound)
    (h : ∀ (h' : Heap) (tk c : Nat), SetR w h' s.heap.objs.size (fun j => decide (j ∈ ns)) c → c ≤ ns.length → (∀ b o, s.heap.get? b = some o → h'.get? b = some o) → Q (.ref s.heap.objs.size) { s with heap := h', toks := tk }) :
    wpAny (model P w) A (call (.type "set") [.ref l]) Q E s := by
  have hisz : items.size = ns.length := by
    have q := IntsAre.length hit
    rw [Array.length_toList] at q
    exact q
  obtain ⟨c, tl, hmro⟩ := F.called_set.mro
  have hmade := F.called_set.made
  have hsub := F.called_set.sub
  refine wpAny_call (codeAny_of_tree ?_)
  show wpAny _ _ (callAny (.type "set") _) _ _ _
  refine wpAny_pure ⟨Code.quiet_builtin _ (by decide +kernel), codeAny_builtin F.entry_type_call ?_⟩
  rw [Around.under_plain (weight_type_call_type "set" [.ref l] []) rfl]
  have h1 := F.called_set.notType
  have h2 := F.called_set.canCreate
  have hct := F.typeCall_set_1 (.ref l)
  repeat (any_goals (first | assumption | wp_step))

  refine codeAny_mono (code_set_led1 (.ref l) (E := E) (Q₁ := fun obj s₁ => obj = .ref s.heap.objs.size ∧ s₁ = { s with heap := s.heap.push { cls := .type "set", dict := none, data := .set #[] 0 (.fresh 0 0 (!w.params.followText "set-order")) } }) ⟨rfl, rfl⟩) fun r s₁ hr => ?_
  cases r with
  | error e => exact hr
  | ok fl =>
    cases fl with
    | ret obj =>
      obtain ⟨rfl, rfl⟩ := hr
      have hS : (s.heap.push { cls := .type "set", dict := none, data := .set #[] 0 (.fresh 0 0 (!w.params.followText "set-order")) }).get? s.heap.objs.size = some { cls := .type "set", dict := none, data := .set #[] 0 (.fresh 0 0 (!w.params.followText "set-order")) } := Heap.get?_push_size _ rfl
      have hT : Shared.TypeIs { s with heap := s.heap.push { cls := .type "set", dict := none, data := .set #[] 0 (.fresh 0 0 (!w.params.followText "set-order")) } } (.ref s.heap.objs.size) "set" := ⟨_, hS, rfl⟩
      have hli := F.called_set.init.lookup
      have hbi := F.called_set.init.bind (.ref s.heap.objs.size)
      repeat (any_goals (first | assumption | wp_step))

      refine codeAny_mono (codeAny_call_builtin (R := wants (fun r s₂ => r = .none ∧ ∃ h' tk c, s₂ = { s with heap := h', toks := tk } ∧ SetR w h' s.heap.objs.size (fun j => decide (j ∈ ns)) c ∧ c ≤ ns.length ∧
          (∀ b o, s.heap.get? b = some o → h'.get? b = some o)) E) F.called_set.init.plain F.entry_set_init (check_set_init_1 hT ?_)) fun r₂ s₂ hr₂ => ?_
      · obtain ⟨ol, hol, hcl, nl, hdl⟩ := hl
        obtain ⟨ocls, odict, odata, oslots⟩ := ol
        simp only at hcl hdl
        subst hcl; subst hdl
        have hol' : (s.heap.push { cls := .type "set", dict := none, data := .set #[] 0 (.fresh 0 0 (!w.params.followText "set-order")) }).get? l = some { cls := .type "list", dict := odict, data := .seq items nl, slots := oslots } := Heap.get?_push_of_some _ hol
        have hsls := F.sub_list_set
        have hslf := F.sub_list_frozenset
        have hne : (Value.type "list" == Value.type "dict") = false := by decide
        have hl1 : (s.heap.push { cls := .type "set", dict := none, data := .set #[] 0 (.fresh 0 0 (!w.params.followText "set-order")) }).IsList l items := ⟨_, hol', rfl, nl, rfl⟩
        unfold Builtin.«set.__init__» noKeywords Builtin.Frozenset.updateFrom
        generalize hPI : pyIter = PI
        wp_walk
        subst hPI

        refine wpAny_pyIter_list hl1 ?_
        refine wpAny_bind (wpAny_runValue ?_)
        have hlS : l < s.heap.objs.size := Heap.lt_size hol
        have hh3 : A.in1.in1.in1.handled = none := by simp [hh]
        have hz1 : (s.heap.push { cls := .type "set", dict := none, data := .set #[] 0 (.fresh 0 0 (!w.params.followText "set-order")) }).objs.size = s.heap.objs.size + 1 := Heap.size_push ..
        have hneI : l ≠ (s.heap.push { cls := .type "set", dict := none, data := .set #[] 0 (.fresh 0 0 (!w.params.followText "set-order")) }).objs.size := by
          rw [Heap.size_push]; exact Nat.ne_of_lt (Nat.lt_succ_of_lt hlS)
        have hSf : s.heap.objs.size ∉ [(s.heap.push { cls := .type "set", dict := none, data := .set #[] 0 (.fresh 0 0 (!w.params.followText "set-order")) }).objs.size, l] := by
          rw [Heap.size_push]; simp only [List.mem_cons, List.mem_singleton, List.not_mem_nil, or_false, not_or]
          exact ⟨Nat.ne_of_lt (Nat.lt_succ_self _), Nat.ne_of_gt hlS⟩
        have hval : ∀ (i : Nat) (v : Value), items[i]? = some v → ∃ k t, ns[i]? = some k ∧ v = .int k t := fun i v hv => by
          have hi : i < ns.length := by rw [← hisz]; exact (Array.getElem?_eq_some_iff.mp hv).1
          obtain ⟨t, e⟩ := PyProof.Rows.IntsAre.int_at hit i v (by rw [Array.getElem?_toList]; exact hv)
          refine ⟨ns[i], t, List.getElem?_eq_getElem hi, ?_⟩
          rw [e, List.getD_eq_getElem?_getD, List.getElem?_eq_getElem hi] <;> rfl
        refine set_update_ints ((Walks.list hh3 _ l hneI items).toS) s.heap.objs.size
          hSf ns hisz hb hval (items.size - 0) 0 _ (by omega) (Nat.zero_le _)
          ⟨⟨_, Heap.get?_push_size _ rfl, rfl, rfl⟩, (hl1.push _)⟩ ?hS0 ?hR
        case hS0 =>
          have hget : ((s.heap.push { cls := .type "set", dict := none, data := .set #[] 0 (.fresh 0 0 (!w.params.followText "set-order")) }).push { cls := .type "list_iterator", data := .fields #[.ref l, .int 0 0] }).get? s.heap.objs.size
              = some { cls := .type "set", dict := none, data := .set #[] 0 (.fresh 0 0 (!w.params.followText "set-order")) } := Heap.get?_push_of_some _ hS
          exact ⟨0, Nat.le_refl 0, setR_new_at hget⟩
        case hR =>
          intro s' c' hm hc' hS'
          obtain ⟨h', g2, d', tk', os'⟩ := s'
          have eg : g2 = s.gens := hm.gens
          have ed : d' = s.drawn := hm.drawn
          have eo : os' = s.os := hm.os
          subst eg; subst ed; subst eo
          show wpAny _ _ _ _ _ _
          refine wpAny_pure ?_
          show wpAny _ _ (ret Value.none) _ _ _
          rw [hisz] at hc'
          refine wpAny_pure ⟨rfl, h', tk', c', rfl, hS', hc', fun b o e => ?_⟩
          have hb0 : b < s.heap.objs.size := Heap.lt_size e
          have hb1 : b ≠ s.heap.objs.size := Nat.ne_of_lt hb0
          have hb2 : b ≠ (s.heap.push { cls := .type "set", dict := none, data := .set #[] 0 (.fresh 0 0 (!w.params.followText "set-order")) }).objs.size := by
            rw [Heap.size_push]; exact Nat.ne_of_lt (Nat.lt_succ_of_lt hb0)
          exact hm.heap b o (by simp only [List.mem_cons, List.mem_singleton, List.not_mem_nil, or_false, not_or]; exact ⟨hb1, hb2⟩) (Heap.get?_push_of_some _ (Heap.get?_push_of_some _ e))

      · cases r₂ with
        | error e => exact hr₂
        | ok fl₂ =>
          cases fl₂ with
          | ret r =>
            obtain ⟨rfl, h', tk, c', rfl, hS', hc', hk'⟩ := hr₂
            repeat (any_goals (first | assumption | wp_step))
            exact h _ _ _ hS' hc' hk'
          | _ => exact hr₂.elim
    | _ => exact hr.elim

set_option maxHeartbeats 4000000 in
theorem call_set_tupT {l : Addr} {items : Array Value} (ks : List (Addr × List Int)) {Q : Value → Shared → Prop} (hh : A.handled = none) (hl : s.heap.IsTuple l items) (hit : items.toList = ks.map fun p => Value.ref p.1)
    (hk : ∀ p ∈ ks, IsT P w s.heap p.2 p.1) (hfew : ks.length < 64) (hu : A.units + 3 < cLine)
    (h : ∀ (h' : Heap) (tk : Nat) L es ep t, SetTR P w h' s.heap.objs.size L es ep t → Got ks ks.length L → (∀ b o, s.heap.get? b = some o → h'.get? b = some o) → Q (.ref s.heap.objs.size) { s with heap := h', toks := tk }) :
    wpAny (model P w) A (call (.type "set") [.ref l]) Q E s := by
  have hisz : items.size = ks.length := by
    have q := congrArg List.length hit
    rw [Array.length_toList, List.length_map] at q
    exact q
  obtain ⟨c, tl, hmro⟩ := F.called_set.mro
  have hmade := F.called_set.made
  have hsub := F.called_set.sub
  refine wpAny_call (codeAny_of_tree ?_)
  show wpAny _ _ (callAny (.type "set") _) _ _ _
  refine wpAny_pure ⟨Code.quiet_builtin _ (by decide +kernel), codeAny_builtin F.entry_type_call ?_⟩
  rw [Around.under_plain (weight_type_call_type "set" [.ref l] []) rfl]
  have h1 := F.called_set.notType
  have h2 := F.called_set.canCreate
  have hct := F.typeCall_set_1 (.ref l)
  repeat (any_goals (first | assumption | wp_step))

  refine codeAny_mono (code_set_led1 (.ref l) (E := E) (Q₁ := fun obj s₁ => obj = .ref s.heap.objs.size ∧ s₁ = { s with heap := s.heap.push { cls := .type "set", dict := none, data := .set #[] 0 (.fresh 0 0 (!w.params.followText "set-order")) } }) ⟨rfl, rfl⟩) fun r s₁ hr => ?_
  cases r with
  | error e => exact hr
  | ok fl =>
    cases fl with
    | ret obj =>
      obtain ⟨rfl, rfl⟩ := hr
      have hS : (s.heap.push { cls := .type "set", dict := none, data := .set #[] 0 (.fresh 0 0 (!w.params.followText "set-order")) }).get? s.heap.objs.size = some { cls := .type "set", dict := none, data := .set #[] 0 (.fresh 0 0 (!w.params.followText "set-order")) } := Heap.get?_push_size _ rfl
      have hT : Shared.TypeIs { s with heap := s.heap.push { cls := .type "set", dict := none, data := .set #[] 0 (.fresh 0 0 (!w.params.followText "set-order")) } } (.ref s.heap.objs.size) "set" := ⟨_, hS, rfl⟩
      have hli := F.called_set.init.lookup
      have hbi := F.called_set.init.bind (.ref s.heap.objs.size)
      repeat (any_goals (first | assumption | wp_step))

      refine codeAny_mono (codeAny_call_builtin (R := wants (fun r s₂ => r = .none ∧ ∃ h' tk L es ep t, s₂ = { s with heap := h', toks := tk } ∧ SetTR P w h' s.heap.objs.size L es ep t ∧ Got ks ks.length L ∧
          (∀ b o, s.heap.get? b = some o → h'.get? b = some o)) E) F.called_set.init.plain F.entry_set_init (check_set_init_1 hT ?_)) fun r₂ s₂ hr₂ => ?_
      · obtain ⟨ol, hol, hcl, nl, hdl⟩ := hl
        obtain ⟨ocls, odict, odata, oslots⟩ := ol
        simp only at hcl hdl
        subst hcl; subst hdl
        have hol' : (s.heap.push { cls := .type "set", dict := none, data := .set #[] 0 (.fresh 0 0 (!w.params.followText "set-order")) }).get? l = some { cls := .type "tuple", dict := odict, data := .seq items nl, slots := oslots } := Heap.get?_push_of_some _ hol
        have hsls := F.sub_tuple_set
        have hslf := F.sub_tuple_frozenset
        have hne : (Value.type "tuple" == Value.type "dict") = false := by decide
        have hl1 : (s.heap.push { cls := .type "set", dict := none, data := .set #[] 0 (.fresh 0 0 (!w.params.followText "set-order")) }).IsTuple l items := ⟨_, hol', rfl, nl, rfl⟩
        unfold Builtin.«set.__init__» noKeywords Builtin.Frozenset.updateFrom
        generalize hPI : pyIter = PI
        wp_walk
        subst hPI

        refine wpAny_pyIter_tuple hl1 ?_
        refine wpAny_bind (wpAny_runValue ?_)
        have hlS : l < s.heap.objs.size := Heap.lt_size hol
        have hh3 : A.in1.in1.in1.handled = none := by simp [hh]
        have hz1 : (s.heap.push { cls := .type "set", dict := none, data := .set #[] 0 (.fresh 0 0 (!w.params.followText "set-order")) }).objs.size = s.heap.objs.size + 1 := Heap.size_push ..
        have hneI : l ≠ (s.heap.push { cls := .type "set", dict := none, data := .set #[] 0 (.fresh 0 0 (!w.params.followText "set-order")) }).objs.size := by
          rw [Heap.size_push]; exact Nat.ne_of_lt (Nat.lt_succ_of_lt hlS)
        have hSf : s.heap.objs.size ∉ [(s.heap.push { cls := .type "set", dict := none, data := .set #[] 0 (.fresh 0 0 (!w.params.followText "set-order")) }).objs.size, l] := by
          rw [Heap.size_push]; simp only [List.mem_cons, List.mem_singleton, List.not_mem_nil, or_false, not_or]
          exact ⟨Nat.ne_of_lt (Nat.lt_succ_self _), Nat.ne_of_gt hlS⟩
        have hval : ∀ (i : Nat) (v : Value), items[i]? = some v → ∃ p, ks[i]? = some p ∧ v = .ref p.1 := fun i v hv => by
          have q : items.toList[i]? = some v := by rw [Array.getElem?_toList]; exact hv
          rw [hit, List.getElem?_map] at q
          cases hq : ks[i]? with
          | none => rw [hq] at q; cases q
          | some p =>
            rw [hq] at q
            exact ⟨p, rfl, (Option.some.inj q).symm⟩
        have none_of : ∀ b, s.heap.objs.size ≤ b → s.heap.get? b = none := fun b hb => by
          cases q : s.heap.get? b with
          | none => rfl
          | some o => exact absurd (Nat.lt_of_lt_of_le (Heap.lt_size q) hb) (Nat.lt_irrefl _)
        refine set_update_tups ((Walks.tuple hh3 _ l hneI items).toS) s.heap.objs.size
          hSf ks hisz hfew hval s.heap hk (none_of _ (Nat.le_refl _)) (fun b hb => none_of b (by
            rw [List.mem_singleton.mp hb, Heap.size_push]
            exact Nat.le_succ _)) hu (items.size - 0) 0 _ (by omega) (Nat.zero_le _)
          ⟨⟨_, Heap.get?_push_size _ rfl, rfl, rfl⟩, (hl1.push _)⟩ (fun b o e => Heap.get?_push_of_some _ (Heap.get?_push_of_some _ e)) ?hS0 ?hR
        case hS0 =>
          have hget : ((s.heap.push { cls := .type "set", dict := none, data := .set #[] 0 (.fresh 0 0 (!w.params.followText "set-order")) }).push { cls := .type "tuple_iterator", data := .fields #[.ref l, .int 0 0] }).get? s.heap.objs.size
              = some { cls := .type "set", dict := none, data := .set #[] 0 (.fresh 0 0 (!w.params.followText "set-order")) } := Heap.get?_push_of_some _ hS
          exact ⟨[], #[], 0, _, setTR_fresh hget, Got.zero ks⟩
        case hR =>
          intro s' L es ep t hm hS' g' hkp
          obtain ⟨h', g2, d', tk', os'⟩ := s'
          have eg : g2 = s.gens := hm.gens
          have ed : d' = s.drawn := hm.drawn
          have eo : os' = s.os := hm.os
          subst eg; subst ed; subst eo
          show wpAny _ _ _ _ _ _
          refine wpAny_pure ?_
          show wpAny _ _ (ret Value.none) _ _ _
          rw [hisz] at g'
          exact wpAny_pure ⟨rfl, h', tk', L, es, ep, t, rfl, hS', g', hkp⟩

      · cases r₂ with
        | error e => exact hr₂
        | ok fl₂ =>
          cases fl₂ with
          | ret r =>
            obtain ⟨rfl, h', tk, L, es, ep, t, rfl, hS', g', hk'⟩ := hr₂
            repeat (any_goals (first | assumption | wp_step))
            exact h _ _ _ _ _ _ hS' g' hk'
          | _ => exact hr₂.elim
    | _ => exact hr.elim


end
end K52
end
section
set_option Elab.async false
set_option linter.all false
set_option maxRecDepth 100000
/-! sorting tuples of ints, of any lengths, () among them. -/
namespace K52
open PySem PySem.Spec PySem.W PySem.Calls PyProof.Rows L2
section
variable {prog : Program} {w : World} {A : Around} {E : Value → Shared → Prop} {s : Shared} {Q : Bool → Shared → Prop}
theorem katLex_ints {fin : Bool} : ∀ {ns ms : List Int} {vs ws : List Value} (i : Nat), IntsAre vs ns → IntsAre ws ms → fin = decide (ns.length < ms.length) → Q (HT.lexLt ns ms) s → KatLex prog w A true fin Q (vs.zip ws) i s
  | _, _, _, _, i, .nil, .nil, hf, hq => by
    have e : fin = false := by rw [hf]; rfl
    subst e
    exact kat_nil hq
  | _, _, _, _, i, .nil, .cons c u h, hf, hq => by
    have e : fin = true := by rw [hf]; exact decide_eq_true (Nat.succ_pos _)
    subst e
    exact kat_nil hq
  | _, _, _, _, i, .cons a t h, .nil, hf, hq => by
    have e : fin = false := by rw [hf]; exact decide_eq_false (Nat.not_lt_zero _)
    subst e
    rw [List.zip_nil_right]
    exact kat_nil hq
  | _, _, _, _, i, .cons (ns := ns) a t h, .cons (ns := ms) c u h', hf, hq => by
    rw [List.zip_cons_cons]
    rw [HT.lexLt_cons] at hq
    refine kat_cons (SeqAt.EqAt.int_int a t c u prog w _ _ ?_)
    refine kat_go (fun e => ?_) (fun e => ?_)
    · rw [if_pos (by simpa using e)] at hq
      exact kat_yes (katLex_ints (i + 1) h h' (by rw [hf]; simp only [List.length_cons, Nat.add_lt_add_iff_right]) hq)
    · rw [if_neg (by simpa using e)] at hq
      exact kat_no (PyProof.Rows.oneLt_any_int hq)
/-- as sorting compares two tuples of ints, whatever the keys' kind -/
theorem tup_cmp {v u : Value} {ns ms : List Int} (hu : A.units < cLine) (hv : TS.TupInts s.heap v ns) (hw : TS.TupInts s.heap u ms) (h : Q (HT.lexLt ns ms) s) {κ : SortKind} (hκ : κ = general' ∨ κ = oneType' ∨ κ = tuples' true) :
    wpAny (model prog w) A (keyLt' κ v u) Q E s := by
  obtain ⟨a, xs, rfl, ha, ia⟩ := hv
  obtain ⟨b, ys, rfl, hb, ib⟩ := hw
  have z1 : xs.size = ns.length := by rw [← ia.length]; simp
  have z2 : ys.size = ms.length := by rw [← ib.length]; simp
  rcases hκ with rfl | rfl | rfl
  · show wpAny _ _ (oneLt' false _ _) _ _ _
    exact kat_one _ _ (HT.lt_tupInts ha hb ia ib hu h)
  · rw [keyLt'_oneType, oneLt'_eq]
    simp only [if_true]
    refine wpAny_bind (wpAny_cRoomFor hu ?_)
    obtain ⟨⟨cls, dd, data, sl⟩, ho, hc, n, hd⟩ := id ha
    obtain ⟨⟨cls2, dd2, data2, sl2⟩, ho2, hc2, n2, hd2⟩ := id hb
    simp only at hc hd hc2 hd2
    subst hc hd hc2 hd2
    refine wpAny_bind (wpAny_callSpecialIfBound?_slot (T := "tuple") ⟨_, ho, rfl⟩ F.slot_tuple_lt (call_meets F.slot_tuple_lt ⟨_, ho, rfl⟩ F.entry_tuple_lt (F.args_tuple_lt_2 _ _) (HT.tuple_lt_ints a b xs ys n n2 dd dd2 sl sl2 ns ms ia ib) ⟨ho, ho2, ?_⟩))
    exact wpAny_truthy_bool h
  · obtain ⟨o, ho, hc, n, hd⟩ := ha
    obtain ⟨o2, ho2, hc2, n2, hd2⟩ := hb
    refine kat_lt ho hd ho2 hd2 (katLex_ints 0 ia ib ?_ h)
    rw [z1, z2]
end
section
variable {M : Model} {A : Around} {E : Value → Shared → Prop} {s : Shared}
theorem firsts_tups : ∀ (vs : List Value), (∀ v ∈ vs, ∃ ns, TS.TupInts s.heap v ns) → ∃ fs : List (Option Value), fs.length = vs.length ∧ (∀ f, some f ∈ fs → ∃ n t, f = Value.int n t) ∧ ∀ (Q : List (Option Value) → Shared → Prop) (E : Value → Shared → Prop), Q fs s → wpAny M A (vs.mapM firstOfTuple') Q E s
  | [], _ => ⟨[], rfl, fun f hf => absurd hf (by simp), fun Q E h => by rw [List.mapM_nil]; exact wpAny_pure h⟩
  | v :: vs, t => by
    obtain ⟨ns, a, xs, rfl, ⟨o, ho, hc, n, hd⟩, hi⟩ := t v List.mem_cons_self
    obtain ⟨fs, hl, hf, hq⟩ := firsts_tups vs fun u hu => t u (List.mem_cons_of_mem _ hu)
    refine ⟨xs[0]? :: fs, by simp [hl], fun f hm => ?_, fun Q E h => ?_⟩
    · rcases List.mem_cons.mp hm with e | hm
      · rw [← Array.getElem?_toList] at e
        generalize xs.toList = l at hi e
        cases hi with
        | nil => simp at e
        | cons k t _ =>
          simp at e
          exact ⟨k, t, e⟩
      · exact hf f hm
    · rw [List.mapM_cons]
      refine wpAny_bind ?_
      rw [kas_first_eq]
      refine wpAny_bind (Looks.here (show Looks M s.heap (typeOf (.ref a)) o.cls from (Looks.ld ho).andThen .now) ?_)
      rw [hc, if_neg (by first | decide | simp)]
      refine wpAny_bind (listItems_at ho hd (wpAny_pure ?_))
      exact wpAny_bind (hq (fun bs s' => wpAny M A (pure (xs[0]? :: bs)) Q E s') E (wpAny_pure h))
theorem kind_tups {vs : List Value} (h2 : 2 ≤ vs.length) (t : ∀ v ∈ vs, ∃ ns, TS.TupInts s.heap v ns) : ∃ κ, (κ = general' ∨ κ = oneType' ∨ κ = tuples' true) ∧ ∀ (Q : SortKind → Shared → Prop) (E : Value → Shared → Prop), Q κ s → wpAny M A (keyKind' vs.toArray) Q E s := by
  obtain ⟨v₁, v₂, rest, rfl⟩ : ∃ v₁ v₂ rest, vs = v₁ :: v₂ :: rest := by
    match vs, h2 with
    | [], h2 => simp at h2
    | [_], h2 => simp at h2
    | v₁ :: v₂ :: rest, _ => exact ⟨v₁, v₂, rest, rfl⟩
  obtain ⟨fs, hl, hf, hF⟩ := firsts_tups (M := M) (A := A) _ t
  by_cases hall : (fs.toArray.all fun x => x.isSome) = true
  · refine ⟨_, .inr (.inr rfl), fun Q E h => ?_⟩
    rw [keyKind'_eq, List.mapM_toArray, map_eq_pure_bind]
    refine wpAny_bind (wpAny_bind (hF _ _ (wpAny_pure ?_)))
    rw [if_pos hall]
    refine wpAny_bind (wpAny_rule ?_)
    have hfs : ∃ gs : List Value, fs = gs.map some := by
      have ha : ∀ x ∈ fs, x.isSome = true := by simpa using hall
      clear hall hl hf hF
      induction fs with
      | nil => exact ⟨[], rfl⟩
      | cons x r ih =>
        obtain ⟨gs, e⟩ := ih (fun y hy => ha y (List.mem_cons_of_mem _ hy))
        cases hx : x with
        | none => have := ha x List.mem_cons_self; rw [hx] at this; cases this
        | some g => exact ⟨g :: gs, by rw [e]; rfl⟩
    obtain ⟨gs, rfl⟩ := hfs
    have hfm : ((gs.map some).toArray.filterMap id) = gs.toArray := by simp
    rw [hfm, oneTypeOnly'_eq, List.mapM_toArray, map_eq_pure_bind]
    have hg : ∀ g ∈ gs, Looks M s.heap (typeOf g) (.type "int") := fun g hg => by
      obtain ⟨n, t, rfl⟩ := hf g (List.mem_map.mpr ⟨g, hg, rfl⟩)
      exact Looks.now
    refine wpAny_bind (wpAny_bind (wpAny_bind (kas_mapM (r := Value.type "int") _ (fun v hv Q' hq => (hg v hv).here hq) (wpAny_pure ?_))))
    obtain ⟨g₁, gr, rfl⟩ : ∃ g₁ gr, gs = g₁ :: gr := by
      match gs, hl with
      | g₁ :: gr, _ => exact ⟨g₁, gr, rfl⟩
    have hall2 : ((List.map (fun _ => Value.type "int") (g₁ :: gr)).toArray.all fun x => x == Value.type "int") = true := by
      simp only [List.all_toArray, List.all_map, List.all_eq_true]
      intro _ _
      rfl
    have h0 : (List.map (fun _ => Value.type "int") (g₁ :: gr)).toArray[0]? = some (Value.type "int") := by simp
    rw [h0]
    simp only [hall2, if_true]
    refine wpAny_pure (wpAny_pure ?_)
    have e : (Value.type "int" != Value.type "tuple") = true := by first | decide +kernel | rfl | decide
    simpa [e] using h
  · by_cases hz : ((fs.toArray[0]?).bind id).isSome = true
    · refine ⟨_, .inl rfl, fun Q E h => ?_⟩
      rw [keyKind'_eq, List.mapM_toArray, map_eq_pure_bind]
      refine wpAny_bind (wpAny_bind (hF _ _ (wpAny_pure ?_)))
      rw [if_neg hall, if_pos hz]
      exact wpAny_pure h
    · refine ⟨_, .inr (.inl rfl), fun Q E h => ?_⟩
      rw [keyKind'_eq, List.mapM_toArray, map_eq_pure_bind]
      refine wpAny_bind (wpAny_bind (hF _ _ (wpAny_pure ?_)))
      rw [if_neg hall, if_neg hz]
      rw [oneTypeOnly'_eq, List.mapM_toArray, map_eq_pure_bind]
      have hg : ∀ g ∈ v₁ :: v₂ :: rest, Looks M s.heap (typeOf g) (.type "tuple") := fun g hg => by
        obtain ⟨ns, a, xs, rfl, ⟨o, ho, hc, n, hd⟩, hi⟩ := t g hg
        rw [← hc]
        exact (Looks.ld ho).andThen .now
      refine wpAny_bind (wpAny_bind (wpAny_bind (kas_mapM (r := Value.type "tuple") _ (fun v hv Q' hq => (hg v hv).here hq) (wpAny_pure ?_))))
      have hall2 : ((List.map (fun _ => Value.type "tuple") (v₁ :: v₂ :: rest)).toArray.all fun x => x == Value.type "tuple") = true := by
        simp only [List.all_toArray, List.all_map, List.all_eq_true]
        intro _ _
        rfl
      have h0 : (List.map (fun _ => Value.type "tuple") (v₁ :: v₂ :: rest)).toArray[0]? = some (Value.type "tuple") := by simp
      rw [h0]
      simp only [hall2, if_true]
      exact wpAny_pure (wpAny_pure h)
end
section
variable {prog : Program} {w : World} {A : Around} {E : Value → Shared → Prop} {s : Shared}
theorem TupInts.keeps {h h' : Heap} {v : Value} {ns : List Int} (x : TS.TupInts h v ns) (k : ∀ b o, o.cls = .type "tuple" → h.get? b = some o → h'.get? b = some o) : TS.TupInts h' v ns := by
  obtain ⟨a, xs, e, ⟨o, ho, hc, r⟩, hi⟩ := x
  exact ⟨a, xs, e, ⟨o, k a o hc ho, hc, r⟩, hi⟩
theorem tups_sortable {a : Addr} {vs : List Value} {k : Value → List Int} (hu : A.units < cLine) (h2 : 2 ≤ vs.length) (hp : ∀ v ∈ vs, TS.TupInts s.heap v (k v)) (ha : ∀ o, s.heap.get? a = some o → o.cls ≠ .type "tuple") : SrtO.SortableO prog w A s a vs fun v u => HT.lexLt (k v) (k u) := by
  intro h' keep
  have hp' : ∀ v ∈ vs, TS.TupInts h' v (k v) := fun v hm => TupInts.keeps (hp v hm) fun b o c e => keep b o (fun z => by subst z; exact ha o e c) e
  obtain ⟨κ, hκ, hq⟩ := kind_tups (M := model prog w) (A := A) (s := { s with heap := h' }) h2 fun v hv => ⟨_, hp' v hv⟩
  refine ⟨κ, fun Q E h => hq Q E h, fun p q hm hm' => ?_⟩
  exact tup_cmp (s := { s with heap := h' }) (Q := fun r s' => s' = { s with heap := h' } ∧ r = HT.lexLt (k p.1) (k q.1)) hu (hp' _ hm) (hp' _ hm') ⟨rfl, rfl⟩ hκ
end

section
variable {P : Program} {w : World} {A : Around} {E : Value → Shared → Prop} {s : Shared}
/-- the list that sorted has collected, sorted -/
theorem sort_part {vs : List Value} {k : Value → List Int} {Q : Value → Shared → Prop} (hu : A.units + 1 < cLine) (hz : vs.length ≤ sizeLine) (hp : ∀ v ∈ vs, TS.TupInts s.heap v (k v))
    (h : ∀ (h' : Heap) (out : List Value) (c : Nat), out.Perm vs → out.Pairwise (fun x y => HT.lexLt (k y) (k x) = false) → (∀ b o, s.heap.get? b = some o → h'.get? b = some o) → h'.get? s.heap.objs.size = some (seqObj "list" out.toArray c) → Q .none { s with heap := h' }) :
    wpAny (model P w) A (call (.builtin "list.sort") [.ref s.heap.objs.size]) Q E { s with heap := s.heap.push (seqObj "list" vs.toArray 0) } := by
  have hoL : (s.heap.push (seqObj "list" vs.toArray 0)).get? s.heap.objs.size = some (seqObj "list" vs.toArray 0) := Heap.get?_push_size _ rfl
  have hp' : ∀ v ∈ vs, TS.TupInts (s.heap.push (seqObj "list" vs.toArray 0)) v (k v) := fun v hv => TupInts.keeps (hp v hv) fun b o _ e => Heap.get?_push_of_some _ e
  refine wpAny_call_entry PyProof.Rows.slot_list_sort ⟨_, hoL, rfl⟩ PyProof.Rows.entry_list_sort (SrtO.list_sort_ord (s := { s with heap := s.heap.push (seqObj "list" vs.toArray 0) }) (NtL.swo_lexL k) hoL hz
    (fun h2 => tups_sortable (s := { s with heap := s.heap.push (seqObj "list" vs.toArray 0) }) (by show A.units + 1 < cLine; exact hu) h2 hp' fun o e c => ?_) fun out hs hb => ⟨_, rfl, ?_⟩) (PyProof.Rows.args_list_sort _)
  · have e' : some o = some (seqObj "list" vs.toArray 0) := e.symm.trans hoL
    cases e'
    exact absurd (Value.type.inj c) (by decide)
  · obtain ⟨c, hc⟩ := PyProof.Rows.sortedHeap_at (vs := vs) (out := out.toArray) hoL
    refine h _ out c hb.perm (hs.imp fun {x y} z => z) (fun b u e => ?_) hc
    have hlt := Heap.lt_size e
    show (sortedHeap (s.heap.push (seqObj "list" vs.toArray 0)) s.heap.objs.size vs out.toArray).get? b = some u
    rw [sortedHeap_old (Nat.ne_of_lt hlt) (by rw [size_push']; exact Nat.lt_succ_of_lt hlt)]
    exact Heap.get?_push_of_some _ e
end
section
variable {X : Cx}
/-- sorted(d), d a dict whose keys are tuples of ints -/
def rSortedDT : List V → Hp → VK → Prop := fun xs H Q => ∃ (d : Addr) (kvs : List (List Key × V)) (ks : List (List Int)), xs = [V.ref d] ∧ H d = some (.dT kvs) ∧ kvs.map (·.1) = ks.map (fun k => k.map Sum.inl) ∧
  ∀ (p : Addr) (bs : List (Addr × List Int)), H p = none → (bs.map (·.2)).Perm ks → bs.Pairwise (fun x y => HT.lexLt y.2 x.2 = false) → (∀ b ∈ bs, H b.1 = some (.tup (b.2.map V.int))) → Q (.ref p) (upd H p (.lst (bs.map fun b => V.ref b.1)))
theorem kV_ints (k : List Int) : (k.map Sum.inl).map kV = k.map V.int := by rw [List.map_map]; rfl
/-- the keys with their places -/
theorem keyed_of {H : Hp} : ∀ {kvs : List (List Key × V)} {xs : List (List Key × Addr × Value)} {ks : List (List Int)}, KT H kvs xs → kvs.map (·.1) = ks.map (fun k => k.map Sum.inl) →
    ∃ bs : List (Addr × List Int), bs.map (·.2) = ks ∧ (∀ b ∈ bs, H b.1 = some (.tup (b.2.map V.int))) ∧ xs.map (fun x => Value.ref x.2.1) = bs.map fun b => Value.ref b.1 := by
  intro kvs xs ks r
  unfold KT at r
  induction r generalizing ks with
  | nil =>
    intro e
    cases ks with
    | nil => exact ⟨[], rfl, fun b hb => absurd hb (by simp), rfl⟩
    | cons k r => cases e
  | @cons kv x kvs xs h t ih =>
    intro e
    cases ks with
    | nil => cases e
    | cons k r =>
      rw [List.map_cons, List.map_cons] at e
      injection e with e1 e2
      obtain ⟨bs, b1, b2, b3⟩ := ih e2
      refine ⟨(x.2.1, k) :: bs, by rw [List.map_cons, b1], fun b hb => ?_, by rw [List.map_cons, List.map_cons, b3]⟩
      rcases List.mem_cons.mp hb with q | q
      · subst q
        show H x.2.1 = some (.tup (k.map V.int))
        have hx := h.2.1
        rw [e1, kV_ints] at hx
        exact hx
      · exact b2 b q
theorem tup_raw {pins : List (Addr × Obj)} {σ : L2.St} {H : Hp} {s : Shared} {b : Addr} {ns : List Int} (I : Inv X pins σ H s) (h : H b = some (.tup (ns.map V.int))) : TS.TupInts s.heap (.ref b) ns := tupI_raw I (SqT.of h)
theorem refs_map {α : Type} {f : α → Addr} : ∀ {vs : List Value} {L : List α}, (∀ v ∈ vs, ∃ q ∈ L, v = Value.ref (f q)) → ∃ L' : List α, vs = L'.map (fun q => Value.ref (f q)) ∧ ∀ q ∈ L', q ∈ L
  | [], _, _ => ⟨[], rfl, fun q hq => absurd hq (by simp)⟩
  | v :: vs, L, h => by
    obtain ⟨q, hq, e⟩ := h v List.mem_cons_self
    obtain ⟨L1, e1, hs⟩ := refs_map (vs := vs) fun u hu => h u (List.mem_cons_of_mem _ hu)
    refine ⟨q :: L1, by rw [List.map_cons, e, e1], fun r hr => ?_⟩
    rcases List.mem_cons.mp hr with z | z
    · rw [z]; exact hq
    · exact hs r z
/-- a permutation of refs, as one of the places with what they hold -/
theorem perm_refs {kf : Value → List Int} {vs : List Value} {L : List (Addr × List Int)} (hk : ∀ b ∈ L, kf (.ref b.1) = b.2) (pm : vs.Perm (L.map fun b => Value.ref b.1)) :
    ∃ L' : List (Addr × List Int), vs = L'.map (fun b => Value.ref b.1) ∧ L'.map (·.2) = vs.map kf ∧ (L'.map (·.2)).Perm (L.map (·.2)) ∧ ∀ q ∈ L', q ∈ L := by
  obtain ⟨L', e, hs⟩ := refs_map (f := fun q : Addr × List Int => q.1) (vs := vs) (L := L) fun v hv => by
    obtain ⟨q, hq, e⟩ := List.mem_map.mp (pm.mem_iff.mp hv)
    exact ⟨q, hq, e.symm⟩
  have e2 : L'.map (·.2) = vs.map kf := by
    rw [e, List.map_map]
    exact List.map_congr_left fun q hq => (hk q (hs q hq)).symm
  have e3 : L.map (·.2) = (L.map fun b => Value.ref b.1).map kf := by
    rw [List.map_map]
    exact List.map_congr_left fun q hq => (hk q hq).symm
  refine ⟨L', e, e2, ?_, hs⟩
  rw [e2, e3]
  exact pm.map kf
theorem cr_sortedDT (hc : X.calm = true) (hu : X.A.units + 64 < cLine) : CallR X (.builtin "sorted") rSortedDT := by
  intro pins s σ H xs us Q I r h
  obtain ⟨d, kvs, ks, rfl, hd, hks, q⟩ := h
  rw [Vals.ref1 r]
  obtain ⟨z, hsys, ys, pr, o, es, ep, ho, hx, hdt, he, hn⟩ := dt_of I.hok hd
  obtain ⟨L, l1, l2, l3⟩ := keyed_of pr hks
  have m1 : es.size = ys.length := size_of_entries he
  have m2 : kvs.length = ys.length := Paired.length pr
  refine Calls.call_function_entry PyProof.Rows.kind_sorted PyProof.Rows.plain_sorted PyProof.Rows.entry_sorted (PyProof.Rows.args_sorted1 _) ?_
  unfold Builtin.«sorted»
  refine wpAny_bind (m := checkCount "sorted" 1 1 _) (wpAny_pure ?_)
  refine wpAny_bind (PySem.W.kdu_collect (A := X.A.in1) (kdl_raw hsys hx hdt) (I.ok.hd hc) ho (by omega) fun h' tk acc hk it => ?_)
  have ea : acc.toList = L.map fun b => Value.ref b.1 := by
    rw [← l3]
    have hl : acc.toList.length = ys.length := by rw [Array.length_toList, it.1]; exact m1
    apply List.ext_getElem?
    intro j
    rw [List.getElem?_map]
    cases hj : acc.toList[j]? with
    | none =>
      have h1 := List.getElem?_eq_none_iff.mp hj
      rw [List.getElem?_eq_none (by omega)]
      all_goals rfl
    | some v =>
      obtain ⟨en, hen, hv⟩ := it.2 j v (by rw [← Array.getElem?_toList]; exact hj)
      have qe := entry_at he j
      rw [hen] at qe
      cases hb : ys[j]? with
      | none =>
        rw [hb] at qe
        exact nomatch (show some en = none from qe)
      | some b =>
        rw [hb] at qe
        have e2 : en = entryOfKey (tupleKind (mixKind X.prog X.w)) b := Option.some.inj qe
        rw [hv, e2]
        all_goals rfl
  have hal : acc.toList.length = kvs.length := by rw [Array.length_toList, it.1]; omega
  have I1 : Inv X pins σ H { s with heap := h', toks := tk } := I.kept hk
  have hkf : ∀ b ∈ L, TS.intsOf h' (.ref b.1) = b.2 := fun b hb => (tup_raw I1 (l2 b hb)).ints
  refine wpAny_bind (wpAny_newList ?_ (by rw [hal]; exact z))
  refine wpAny_bind (wpAny_holding (sort_part (s := { s with heap := h', toks := tk }) (k := TS.intsOf h') (by have e : X.A.in1.units = X.A.units + 1 := rfl; omega) (by rw [hal]; exact z) (fun v hv => ?_) fun h2 out c pm pw k2 ho2 => ?_))
  · rw [ea] at hv
    obtain ⟨b, hb, rfl⟩ := List.mem_map.mp hv
    have := tup_raw I1 (l2 b hb)
    rw [hkf b hb]
    exact this
  · rw [ea] at pm
    obtain ⟨L', e1, e2, e3, e4⟩ := perm_refs hkf pm
    have hlen : (L'.map fun b => V.ref b.1).length ≤ sizeLine := by
      have := pm.length_eq
      rw [← ea, hal, e1, List.length_map] at this
      rw [List.length_map, this]; exact z
    have hv : Vals (L'.map fun q => V.ref q.1) out := by rw [e1]; exact vals_of_refs L'
    refine wpAny_pure ⟨_, rfl, .ref h'.objs.size, upd H h'.objs.size (.lst (L'.map fun b => V.ref b.1)), I1.laid (t' := tk) k2 (Nat.le_refl _) ⟨hlen, out, c, hv, ho2⟩, rfl, q _ L' (I1.hok.fresh (Nat.le_refl _)) (by rw [← l1]; exact e3) ?_ fun b hb => l2 b (e4 b hb)⟩
    rw [e1] at pw
    refine List.Pairwise.imp_of_mem (fun {x y} hx hy hle => ?_) (List.pairwise_map.mp pw)
    rw [hkf x (e4 x hx), hkf y (e4 y hy)] at hle
    exact hle
end
end K52
end
section
set_option Elab.async false
set_option linter.all false
set_option maxRecDepth 100000
/-! set and sorted of a set, as calls; as data. -/
namespace K52
open PySem PySem.Spec PyProof.Rows L2
section
variable {X : Cx}
/-- set(l), l a list of ints -/
def rSetLI (K : PySem.W.Frag) (w : World) : List V → Hp → VK → Prop := fun xs H Q => ∃ (l : Addr) (ns : List Int), xs = [V.ref l] ∧ SqL K H l (ns.map V.int) ∧ ns.length < 64 ∧
  ∀ a c, H a = none → c ≤ ns.length → Q (.ref a) (upd H a (SetO w a (fun j => decide (j ∈ ns)) c))
theorem cr_setLI (hc : X.calm = true) : CallR X (.type "set") (rSetLI X.K X.w) := by
  intro pins s σ H xs us Q I r h
  obtain ⟨l, ns, rfl, hl, hf, q⟩ := h
  rw [Vals.ref1 r]
  obtain ⟨its, rv, pl, hz⟩ := I.list hl
  have hn : H s.heap.objs.size = none := I.hok.fresh (Nat.le_refl _)
  refine call_set_listI (P := X.prog) (w := X.w) ns (I.ok.hd hc) pl.isList (by simpa using rv.ints) (by unfold scanBound; omega) fun h' tk c R hcn k => ?_
  exact ⟨.ref s.heap.objs.size, upd H s.heap.objs.size (SetO X.w s.heap.objs.size (fun j => decide (j ∈ ns)) c), I.laid (t' := tk) k (Nat.le_refl _) (setO_new R), rfl, q _ _ hn hcn⟩
def rSetTI (K : PySem.W.Frag) (w : World) : List V → Hp → VK → Prop := fun xs H Q => ∃ (l : Addr) (ns : List Int), xs = [V.ref l] ∧ SqT K H l (ns.map V.int) ∧ ns.length < 64 ∧
  ∀ a c, H a = none → c ≤ ns.length → Q (.ref a) (upd H a (SetO w a (fun j => decide (j ∈ ns)) c))
theorem cr_setTI (hc : X.calm = true) : CallR X (.type "set") (rSetTI X.K X.w) := by
  intro pins s σ H xs us Q I r h
  obtain ⟨l, ns, rfl, hl, hf, q⟩ := h
  rw [Vals.ref1 r]
  obtain ⟨its, rv, pl, hz⟩ := I.tuple hl
  have hn : H s.heap.objs.size = none := I.hok.fresh (Nat.le_refl _)
  refine call_set_tupI (P := X.prog) (w := X.w) ns (I.ok.hd hc) pl (by simpa using rv.ints) (by unfold scanBound; omega) fun h' tk c R hcn k => ?_
  exact ⟨.ref s.heap.objs.size, upd H s.heap.objs.size (SetO X.w s.heap.objs.size (fun j => decide (j ∈ ns)) c), I.laid (t' := tk) k (Nat.le_refl _) (setO_new R), rfl, q _ _ hn hcn⟩
/-- set(t), t a tuple of tuples of ints -/
def rSetTT (K : PySem.W.Frag) (P : Program) (w : World) : List V → Hp → VK → Prop := fun xs H Q => ∃ (l : Addr) (ks : List (Addr × List Int)), xs = [V.ref l] ∧ SqT K H l (ks.map fun p => V.ref p.1) ∧ (∀ p ∈ ks, SqT K H p.1 (p.2.map V.int)) ∧ ks.length < 64 ∧
  ∀ a L, H a = none → (∀ p ∈ L, p ∈ ks) → (∀ p ∈ ks, p.2 ∈ L.map (·.2)) → Q (.ref a) (upd H a (SetTO P w a L))
theorem cr_setTT (hc : X.calm = true) (hu : X.A.units + 64 < cLine) : CallR X (.type "set") (rSetTT X.K X.prog X.w) := by
  intro pins s σ H xs us Q I r h
  obtain ⟨l, ks, rfl, hl, hk, hf, q⟩ := h
  rw [Vals.ref1 r]
  obtain ⟨its, rv, pl, hz⟩ := I.tuple hl
  have hn : H s.heap.objs.size = none := I.hok.fresh (Nat.le_refl _)
  refine call_set_tupT (P := X.prog) (w := X.w) ks (I.ok.hd hc) pl (by simpa using refs_of_vals rv) (fun p hp => I.isT (hk p hp)) hf (by omega) fun h' tk L es ep t R g k => ?_
  refine ⟨.ref s.heap.objs.size, upd H s.heap.objs.size (SetTO X.prog X.w s.heap.objs.size L), I.laid (t' := tk) k (Nat.le_refl _) (setTO_new R.t0), rfl, q _ L hn (fun p hp => ?_) fun p hp => ?_⟩
  · exact List.mem_of_mem_take (g.sub p hp)
  · exact g.all p (by rw [List.take_length]; exact hp)
/-- sorted(set), the set's members tuples of ints -/
def rSortedTO (K : PySem.W.Frag) (P : Program) (w : World) : List V → Hp → VK → Prop := fun vs H Q => ∃ (a : Addr) (L : List (Addr × List Int)), vs = [V.ref a] ∧ H a = some (SetTO P w a L) ∧ (∀ p ∈ L, SqT K H p.1 (p.2.map V.int)) ∧
  ∀ (L' : List (Addr × List Int)) (p : Addr), (∀ q ∈ L', q ∈ L) → (L'.map (·.2)).Perm (L.map (·.2)) → (L'.map (·.2)).Nodup → L'.length < 64 → L'.Pairwise (fun q r => HT.lexLt r.2 q.2 = false) → H p = none → Q (.ref p) (upd H p (.lst (L'.map fun q => V.ref q.1)))
theorem cr_sortedTO (hc : X.calm = true) (hu : X.A.units + 64 < cLine) : CallR X (.builtin "sorted") (rSortedTO X.K X.prog X.w) := by
  intro pins s σ H vs us Q I r h
  obtain ⟨a, L, rfl, ha, hk, q⟩ := h
  have R0 : SetT0 X.prog X.w s.heap a L := (I.hok a _ ha).1
  obtain ⟨es, ep, t, R⟩ := R0.full fun p hp => I.isT (hk p hp)
  rw [Vals.ref1 r]
  obtain ⟨o, ho, hex, hd⟩ := R.ob
  have hsz := R.size
  have hfew := R.few
  refine Calls.call_function_entry PyProof.Rows.kind_sorted PyProof.Rows.plain_sorted PyProof.Rows.entry_sorted (PyProof.Rows.args_sorted1 _) ?_
  unfold Builtin.«sorted»
  refine wpAny_bind (m := checkCount "sorted" 1 1 _) (wpAny_pure ?_)
  refine wpAny_bind (collect_set (A := X.A.in1) (I.ok.hd hc) ⟨o, ho, hex.1, hd⟩ R.fits (by unfold scanBound; omega) R.tab.ris R.led fun s1 ws k1 hz g1 o1 pm => ?_)
  have hes : es.toList.map (·.2) = L.map fun q => Value.ref q.1 := by
    rw [R.rows]
    unfold rowsOf
    rw [List.map_map] <;> rfl
  rw [hes] at pm
  have hvl : ws.length < 64 := by rw [pm.length_eq, List.length_map]; exact hfew
  have hkf : ∀ b ∈ L, TS.intsOf s1.heap (.ref b.1) = b.2 := fun b hb => (tupInts_of (isT_keep (R.tup b hb) k1)).ints
  have hkt : ∀ v ∈ ws, TS.TupInts s1.heap v (TS.intsOf s1.heap v) := fun v hv => by
    obtain ⟨b, hb, rfl⟩ := List.mem_map.mp (pm.mem_iff.mp hv)
    rw [hkf b hb]
    exact tupInts_of (isT_keep (R.tup b hb) k1)
  refine wpAny_bind (wpAny_newList ?_ (by rw [sizeLine_eq]; omega))
  refine wpAny_bind (wpAny_holding (sort_part (s := s1) (k := TS.intsOf s1.heap) (by have e : X.A.in1.units = X.A.units + 1 := rfl; omega) (by rw [sizeLine_eq]; omega) hkt fun h2 out c pm2 pw k2 ho2 => ?_))
  obtain ⟨L', e1, e2, e3, e4⟩ := perm_refs hkf (pm2.trans pm)
  have hL' : L'.length < 64 := by
    have := pm2.length_eq
    rw [e1, List.length_map] at this
    omega
  have hn : H s1.heap.objs.size = none := I.hok.fresh hz
  have kk : ∀ b o, s.heap.get? b = some o → h2.get? b = some o := fun b o e => k2 b o (k1 b o e)
  have J : Inv X pins σ (upd H s1.heap.objs.size (.lst (L'.map fun q => V.ref q.1))) { s with heap := h2, gens := s1.gens, drawn := s1.drawn, toks := s1.toks } :=
    I.call (ch := []) (Un.laid kk hz hn) (I.hok.laid kk hz ⟨by rw [List.length_map, sizeLine_eq]; omega, out, c, by rw [e1]; exact vals_of_refs L', ho2⟩) (by rw [g1]; exact I.bare) (fun _ z => nomatch z)
  have es1 : ({ s1 with heap := h2 } : Shared) = { s with heap := h2, gens := s1.gens, drawn := s1.drawn, toks := s1.toks } := by
    cases s1
    cases s
    cases o1
    rfl
  rw [es1]
  refine wpAny_pure ⟨_, rfl, .ref _, _, J, rfl, q L' _ e4 e3 (e3.nodup_iff.mpr R.nd) hL' ?_ hn⟩
  rw [e1] at pw
  refine List.Pairwise.imp_of_mem (fun {x y} hx hy hle => ?_) (List.pairwise_map.mp pw)
  rw [hkf x (e4 x hx), hkf y (e4 y hy)] at hle
  exact hle
end
end K52
end
section
set_option Elab.async false
set_option linter.all false
set_option maxRecDepth 100000
/-! Lots, jobs, fronts as data; operations on them. -/
namespace K52
open PySem PySem.Spec PyProof.Rows L2

def lotD (l : List Int) : PyData := .tuple (l.map .int)
def jobD (j : Int × List Int) : PyData := .tuple [.int j.1, lotD j.2]
def jobsD (js : Jobs) : PyData := .tuple (js.map jobD)
def frontD (f : List Lot) : PyData := .tuple (f.map lotD)
def frontsD (F : List (List Lot)) : PyData := .tuple (F.map frontD)
def optD : Option Int → PyData
  | none => .none
  | some x => .int x
def partD (s : List (Option Int)) : PyData := .tuple (s.map optD)
theorem lotD_eq (l : List Int) : lotD l = .tuple (l.map .int) := rfl
theorem frontD_eq (l : List Lot) : frontD l = .tuple (l.map lotD) := rfl
theorem frontsD_eq (l : List (List Lot)) : frontsD l = .tuple (l.map frontD) := rfl
theorem noL_lot (l : List Int) : noL (lotD l) = true := noLs_map (f := PyData.int) (fun _ => rfl) l
theorem noL_job (j : Int × List Int) : noL (jobD j) = true := by show (true && (noL (lotD j.2) && true)) = true; rw [noL_lot]; rfl
theorem noL_jobs (js : Jobs) : noL (jobsD js) = true := noLs_map (f := jobD) noL_job js
theorem noL_front (f : List Lot) : noL (frontD f) = true := noLs_map (f := lotD) noL_lot f
theorem noL_fronts (f : List (List Lot)) : noL (frontsD f) = true := noLs_map (f := frontD) noL_front f
theorem noL_opt (o : Option Int) : noL (optD o) = true := by cases o <;> rfl
theorem noL_part (s : List (Option Int)) : noL (partD s) = true := noLs_map (f := optD) noL_opt s
/-! shaped -/
/-- can be laid, of depth at most n -/
def Sh (n : Nat) (d : PyData) : Prop := d.canLay0 = true ∧ d.depth ≤ n
theorem Sh.shaped {n : Nat} {d : PyData} (h : Sh n d) (hn : n ≤ 64 := by decide) : SeqAt.shaped d = true := by
  unfold SeqAt.shaped
  rw [h.1, decide_eq_true (Nat.le_trans h.2 hn)] <;> rfl
theorem Sh.mono {n m : Nat} {d : PyData} (h : Sh n d) (hn : n ≤ m) : Sh m d := ⟨h.1, Nat.le_trans h.2 hn⟩
theorem shs {n : Nat} : ∀ {ds : List PyData}, (∀ d ∈ ds, Sh n d) → PyData.canLayAll0 ds = true ∧ PyData.depthAll ds ≤ n
  | [], _ => ⟨by simp [PyData.canLayAll0], by simp [PyData.depthAll]⟩
  | d :: ds, h => by
    obtain ⟨a, b⟩ := shs fun e he => h e (List.mem_cons_of_mem _ he)
    have q := h d List.mem_cons_self
    refine ⟨by simp [PyData.canLayAll0, q.1, a], ?_⟩
    have := q.2
    simp only [PyData.depthAll]
    omega
theorem Sh.tup {n : Nat} {ds : List PyData} (h : ∀ d ∈ ds, Sh n d) : Sh (n + 1) (.tuple ds) := by
  obtain ⟨a, b⟩ := shs h
  exact ⟨by simpa [PyData.canLay0] using a, by simp only [PyData.depth]; omega⟩
theorem Sh.lst {n : Nat} {ds : List PyData} (h : ∀ d ∈ ds, Sh n d) : Sh (n + 1) (.list ds) := by
  obtain ⟨a, b⟩ := shs h
  exact ⟨by simpa [PyData.canLay0] using a, by simp only [PyData.depth]; omega⟩
theorem sh_int (i : Int) : Sh 1 (.int i) := ⟨by simp [PyData.canLay0], by simp [PyData.depth]⟩
theorem sh_bool (i : Bool) : Sh 1 (.bool i) := ⟨by simp [PyData.canLay0], by simp [PyData.depth]⟩
theorem sh_none : Sh 1 .none := ⟨by simp [PyData.canLay0], by simp [PyData.depth]⟩
theorem sh_map {α : Type} {n : Nat} {f : α → PyData} (h : ∀ a, Sh n (f a)) (l : List α) : ∀ d ∈ l.map f, Sh n d := fun d hd => by
  obtain ⟨a, _, rfl⟩ := List.mem_map.mp hd
  exact h a
theorem sh_lot (l : List Int) : Sh 2 (lotD l) := .tup (sh_map sh_int l)
theorem sh_ints (l : List Int) : Sh 2 (.list (l.map .int)) := .lst (sh_map sh_int l)
theorem sh_lots (l : List Lot) : Sh 3 (.list (l.map lotD)) := .lst (sh_map sh_lot l)
theorem sh_front (f : List Lot) : Sh 3 (frontD f) := .tup (sh_map sh_lot f)
theorem sh_fronts (f : List (List Lot)) : Sh 4 (frontsD f) := .tup (sh_map sh_front f)
theorem sh_opt : ∀ o : Option Int, Sh 1 (optD o)
  | none => sh_none
  | some x => sh_int x
theorem sh_part (s : List (Option Int)) : Sh 2 (partD s) := .tup (sh_map sh_opt s)
/-! eqv -/
theorem eqv_int (a b : Int) : PyData.eqv (.int a) (.int b) = (a == b) := by simp [PyData.eqv]
theorem eqvAll_map {α : Type} [DecidableEq α] {f : α → PyData} (h : ∀ a b, PyData.eqv (f a) (f b) = decide (a = b)) : ∀ l m : List α, PyData.eqvAll (l.map f) (m.map f) = decide (l = m)
  | [], [] => by simp [PyData.eqvAll]
  | [], _ :: _ => by simp [PyData.eqvAll]
  | _ :: _, [] => by simp [PyData.eqvAll]
  | a :: l, b :: m => by
    simp only [List.map_cons, PyData.eqvAll, h, eqvAll_map h l m]
    by_cases e : a = b <;> by_cases e2 : l = m <;> simp [e, e2]
theorem eqv_intD (a b : Int) : PyData.eqv (.int a) (.int b) = decide (a = b) := by rw [eqv_int]; exact Bool.beq_eq_decide_eq a b
theorem eqv_lot (a b : List Int) : PyData.eqv (lotD a) (lotD b) = decide (a = b) := by simp only [lotD, PyData.eqv]; exact eqvAll_map eqv_intD a b
theorem eqv_opt (a b : Option Int) : PyData.eqv (optD a) (optD b) = decide (a = b) := by
  cases a <;> cases b <;> simp [optD, PyData.eqv]
  rename_i x y
  by_cases e : x = y <;> simp [e]
theorem eqv_ints (a b : List Int) : PyData.eqv (.list (a.map .int)) (.list (b.map .int)) = decide (a = b) := by simp only [PyData.eqv]; exact eqvAll_map eqv_intD a b
theorem eqv_lots (a b : List Lot) : PyData.eqv (.list (a.map lotD)) (.list (b.map lotD)) = decide (a = b) := by simp only [PyData.eqv]; exact eqvAll_map eqv_lot a b
theorem eqv_nil (ds : List PyData) : PyData.eqv (.list ds) (.list []) = ds.isEmpty := by cases ds <;> simp [PyData.eqv, PyData.eqvAll]
theorem eqv_nilT (ds : List PyData) : PyData.eqv (.tuple ds) (.tuple []) = ds.isEmpty := by cases ds <;> simp [PyData.eqv, PyData.eqvAll]
theorem any_eqv {α : Type} [BEq α] [LawfulBEq α] {f : α → PyData} (h : ∀ a b, PyData.eqv (f a) (f b) = true ↔ a = b) (l : List α) (x : α) : ((l.map f).any fun z => PyData.eqv z (f x)) = l.contains x := by
  rw [List.any_map, Bool.eq_iff_iff, List.any_eq_true, List.contains_iff_mem]
  constructor
  · rintro ⟨a, ha, e⟩
    have e' : PyData.eqv (f a) (f x) = true := e
    rw [h] at e'
    exact e' ▸ ha
  · intro hx
    exact ⟨x, hx, (h x x).mpr rfl⟩
theorem eqv_intT (a b : Int) : PyData.eqv (.int a) (.int b) = true ↔ a = b := by rw [eqv_intD, decide_eq_true_eq]
theorem eqv_lotT (a b : Lot) : PyData.eqv (lotD a) (lotD b) = true ↔ a = b := by rw [eqv_lot, decide_eq_true_eq]
theorem eqv_optT (a b : Option Int) : PyData.eqv (optD a) (optD b) = true ↔ a = b := by rw [eqv_opt, decide_eq_true_eq]
/-! operations -/
section
variable {K : PySem.W.Frag}
theorem rd_I0 {g : Int → Int → V} {i j : Int} {d : PyData} (h : ∀ H, Rep H (g i j) d) : RD (rI0 g) (.int i) (.int j) d := fun H x y rx ry Q q => by
  cases rx; cases ry
  exact ⟨i, j, rfl, rfl, q _ H (Same.refl _) (h H)⟩
theorem rd_I {C : Int → Int → Prop} {g : Int → Int → V} {i j : Int} {d : PyData} (hc : C i j) (h : ∀ H, Rep H (g i j) d) : RD (rI C g) (.int i) (.int j) d := fun H x y rx ry Q q => by
  cases rx; cases ry
  exact ⟨i, j, rfl, rfl, hc, q _ H (Same.refl _) (h H)⟩
theorem rd_add {i j : Int} : RD (rI0 fun i j => .int (i + j)) (.int i) (.int j) (.int (i + j)) := rd_I0 fun _ => .int _
theorem rd_sub {i j : Int} : RD (rI0 fun i j => .int (i - j)) (.int i) (.int j) (.int (i - j)) := rd_I0 fun _ => .int _
theorem rd_lt {i j : Int} : RD (rI0 fun i j => .bl (decide (i < j))) (.int i) (.int j) (.bool (decide (i < j))) := rd_I0 fun _ => .bl _
theorem rd_le {i j : Int} : RD (rI0 fun i j => .bl (decide (i ≤ j))) (.int i) (.int j) (.bool (decide (i ≤ j))) := rd_I0 fun _ => .bl _
theorem rd_gt {i j : Int} : RD (rI0 fun i j => .bl (decide (j < i))) (.int i) (.int j) (.bool (decide (j < i))) := rd_I0 fun _ => .bl _
theorem rd_ge {i j : Int} : RD (rI0 fun i j => .bl (decide (j ≤ i))) (.int i) (.int j) (.bool (decide (j ≤ i))) := rd_I0 fun _ => .bl _
theorem rd_eqD {a b : PyData} (ha : SeqAt.shaped a = true) (hb : SeqAt.shaped b = true) : RD (rEqD K) a b (.bool (PyData.eqv a b)) := fun H x y rx ry Q q =>
  ⟨a, b, rx.dp, ry.dp, ha, hb, q _ H (Same.refl _) (.bl _)⟩
theorem rd_neD {a b : PyData} (ha : SeqAt.shaped a = true) (hb : SeqAt.shaped b = true) : RD (rNeD K) a b (.bool (!PyData.eqv a b)) := fun H x y rx ry Q q =>
  ⟨a, b, rx.dp, ry.dp, ha, hb, q _ H (Same.refl _) (.bl _)⟩
theorem rd_eqI {i j : Int} : RD (rEqD K) (.int i) (.int j) (.bool (decide (i = j))) := by
  rw [← eqv_intD]; exact rd_eqD (sh_int i).shaped (sh_int j).shaped
theorem rd_neI {i j : Int} : RD (rNeD K) (.int i) (.int j) (.bool (!decide (i = j))) := by
  rw [← eqv_intD]; exact rd_neD (sh_int i).shaped (sh_int j).shaped
theorem rd_in {a : PyData} {ds : List PyData} {e : PyData} (he : e = .list ds ∨ e = .tuple ds) (ha : SeqAt.shaped a = true) (hb : SeqAt.shaped e = true) : RD (rInA K false) a e (.bool (ds.any fun z => PyData.eqv z a)) := fun H x y rx ry Q q =>
  ⟨a, e, ds, rx.dp, ry.dp, he, ha, hb, q _ H (Same.refl _) (.bl _)⟩
theorem rd_ni {a : PyData} {ds : List PyData} {e : PyData} (he : e = .list ds ∨ e = .tuple ds) (ha : SeqAt.shaped a = true) (hb : SeqAt.shaped e = true) : RD (rInA K true) a e (.bool (!ds.any fun z => PyData.eqv z a)) := fun H x y rx ry Q q =>
  ⟨a, e, ds, rx.dp, ry.dp, he, ha, hb, q _ H (Same.refl _) (.bl _)⟩
theorem rd_inI {j : Int} {l : List Int} : RD (rInA K false) (.int j) (lotD l) (.bool (l.contains j)) := by
  rw [← any_eqv eqv_intT l j]; exact rd_in (.inr rfl) (sh_int j).shaped (sh_lot l).shaped
theorem rd_niI {j : Int} {l : List Int} : RD (rInA K true) (.int j) (lotD l) (.bool (!l.contains j)) := by
  rw [← any_eqv eqv_intT l j]; exact rd_ni (.inr rfl) (sh_int j).shaped (sh_lot l).shaped
theorem rd_inL {j : Lot} {l : List Lot} : RD (rInA K false) (lotD j) (frontD l) (.bool (l.contains j)) := by
  rw [← any_eqv eqv_lotT l j]; exact rd_in (.inr rfl) (sh_lot j).shaped (sh_front l).shaped
theorem rd_niL {j : Lot} {l : List Lot} : RD (rInA K true) (lotD j) (frontD l) (.bool (!l.contains j)) := by
  rw [← any_eqv eqv_lotT l j]; exact rd_ni (.inr rfl) (sh_lot j).shaped (sh_front l).shaped
theorem rd_niO {s : List (Option Int)} : RD (rInA K true) .none (partD s) (.bool (!s.contains none)) := by
  rw [← any_eqv eqv_optT s none]; exact rd_ni (.inr rfl) sh_none.shaped (sh_part s).shaped
theorem rd_eqLot {a b : Lot} : RD (rEqD K) (lotD a) (lotD b) (.bool (decide (a = b))) := by
  rw [← eqv_lot]; exact rd_eqD (sh_lot a).shaped (sh_lot b).shaped
/-! items -/
theorem atI_rep {H : Hp} {vs : List V} {ds : List PyData} {i : Int} {d : PyData} (r : Reps H vs ds) (h : atI ds i = some d) : ∃ v, atI vs i = some v ∧ Rep H v d := by
  unfold atI at h ⊢
  rw [r.length]
  cases e : ixN ds.length i with
  | none => rw [e] at h; cases h
  | some j =>
    rw [e] at h
    exact r.get' h
theorem rd_ixT {ds : List PyData} {i : Int} {d : PyData} (h : atI ds i = some d) : RD (rIxT K) (.tuple ds) (.int i) d := fun H x y rx ry Q q => by
  cases ry
  cases rx with
  | tup ha rs =>
    obtain ⟨v, e, rv⟩ := atI_rep rs h
    exact ⟨_, _, i, v, rfl, rfl, SqT.of ha, e, q v H (Same.refl _) rv⟩
theorem rd_ixL {ds : List PyData} {i : Int} {d : PyData} (h : atI ds i = some d) : RD (rIxL K) (.list ds) (.int i) d := fun H x y rx ry Q q => by
  cases ry
  cases rx with
  | lst ha rs =>
    obtain ⟨v, e, rv⟩ := atI_rep rs h
    exact ⟨_, _, i, v, rfl, rfl, SqL.of ha, e, q v H (Same.refl _) rv⟩
theorem atI_map {α : Type} {f : α → PyData} {l : List α} {i : Int} {dflt : α} (h : 0 ≤ i ∧ i < l.length) : atI (l.map f) i = some (f (l.getD i.toNat dflt)) := by
  have e : i = ((i.toNat : Nat) : Int) := by omega
  rw [e]
  refine atI_nat ?_
  have hl : i.toNat < l.length := by omega
  rw [List.getElem?_map, Int.toNat_natCast, List.getD_eq_getElem?_getD, List.getElem?_eq_getElem hl]
  rfl
theorem atI_neg1 {α : Type} {f : α → PyData} {l : List α} {dflt : α} (h : l ≠ []) : atI (l.map f) (-1) = some (f (l.getD (l.length - 1) dflt)) := by
  obtain ⟨m, x, rfl⟩ : ∃ m x, l = m ++ [x] := ⟨l.dropLast, l.getLast h, (List.dropLast_concat_getLast h).symm⟩
  rw [List.map_append, List.map_cons, List.map_nil, atI_last]
  have e : (m ++ [x]).length - 1 = m.length := by simp
  rw [e, List.getD_eq_getElem?_getD, List.getElem?_append_right (Nat.le_refl _), Nat.sub_self]
  rfl
theorem rd_cal {cal : List Int} {d : Int} (h : 0 ≤ d ∧ d < cal.length) : RD (rIxT K) (lotD cal) (.int d) (.int (ca cal d)) := rd_ixT (atI_map (dflt := 0) h)
theorem rd_jobs {js : Jobs} {j : Int} (h : 0 ≤ j ∧ j < js.length) : RD (rIxT K) (jobsD js) (.int j) (jobD (js.getD j.toNat (0, []))) := rd_ixT (atI_map (dflt := (0, [])) h)
theorem rd_job0 {j : Int × List Int} : RD (rIxT K) (jobD j) (.int 0) (.int j.1) := rd_ixT rfl
theorem rd_job1 {j : Int × List Int} : RD (rIxT K) (jobD j) (.int 1) (lotD j.2) := rd_ixT rfl
/-! + -/
theorem rd_cat {ds es : List PyData} (h : ds.length + es.length ≤ 100000) : RD rCat (.list ds) (.list es) (.list (ds ++ es)) := fun H x y rx ry Q q => by
  cases rx with
  | lst ha r1 =>
    cases ry with
    | lst hb r2 =>
      exact ⟨_, _, _, _, rfl, rfl, ha, hb, by rw [r1.length, r2.length]; exact Nat.le_trans h (by decide), fun p hp => q _ _ (same_new hp) (.lst upd_same ((Reps.append r2 r1).mono (same_new hp)))⟩
theorem rd_catA {ds es : List PyData} (h : ds.length + es.length ≤ 100000) : RD (rCatA K) (.tuple ds) (.tuple es) (.tuple (ds ++ es)) := fun H x y rx ry Q q => by
  cases rx with
  | @tup a xs _ ha r1 =>
    cases ry with
    | @tup b ys _ hb r2 =>
      refine ⟨_, _, _, _, rfl, rfl, SqT.of ha, SqT.of hb, by rw [r1.length, r2.length]; exact Nat.le_trans h (by decide), fun e => ?_, fun e e2 => ?_, fun e e2 p hp => ?_⟩
      · subst e
        cases r1
        exact q _ H (Same.refl _) (.tup hb r2)
      · subst e2
        cases r2
        rw [List.append_nil] at q
        exact q _ H (Same.refl _) (.tup ha r1)
      · exact q _ _ (same_new hp) (.tup upd_same ((Reps.append r2 r1).mono (same_new hp)))
theorem rd_ltT {a b : List Int} : RD (rLtT K) (lotD a) (lotD b) (.bool (HT.lexLt a b)) := fun H x y rx ry Q q => by
  cases rx with
  | tup ha r1 =>
    cases ry with
    | tup hb r2 =>
      rw [Reps.of_ints r1] at ha
      rw [Reps.of_ints r2] at hb
      exact ⟨_, _, a, b, rfl, rfl, SqT.of ha, SqT.of hb, q _ H (Same.refl _) (.bl _)⟩
theorem lx_eq : ∀ a b : List Int, HT.lexLt a b = lx a b
  | [], [] => rfl
  | [], _ :: _ => rfl
  | _ :: _, [] => rfl
  | x :: a, y :: b => by
    show (if x = y then HT.lexLt a b else decide (x < y)) = (if x = y then lx a b else decide (x < y))
    rw [lx_eq a b]
/-! is -/
theorem rd_isNN : RD (fun x y H Q => cst x = true ∧ cst y = true ∧ Q (.bl (decide (x = y))) H) .none .none (.bool true) := fun H x y rx ry Q q => by
  cases rx; cases ry; exact ⟨rfl, rfl, q _ H (Same.refl _) (.bl _)⟩
theorem rd_isBB {a b : Bool} : RD (fun x y H Q => cst x = true ∧ cst y = true ∧ Q (.bl (decide (x = y))) H) (.bool a) (.bool b) (.bool (decide (a = b))) := fun H x y rx ry Q q => by
  cases rx; cases ry
  have e : decide (V.bl a = V.bl b) = decide (a = b) := by cases a <;> cases b <;> rfl
  refine ⟨rfl, rfl, ?_⟩
  rw [e]
  exact q _ H (Same.refl _) (.bl _)
theorem rd_isNB {b : Bool} : RD (fun x y H Q => cst x = true ∧ cst y = true ∧ Q (.bl (decide (x = y))) H) .none (.bool b) (.bool false) := fun H x y rx ry Q q => by
  cases rx; cases ry; exact ⟨rfl, rfl, q _ H (Same.refl _) (.bl _)⟩
theorem rd_isN {d : PyData} : RD (fun x y H Q => y = .non ∧ Q (.bl (decide (x = .non))) H) d .none (.bool (match d with | .none => true | _ => false)) := fun H x y rx ry Q q => by
  cases ry
  refine ⟨rfl, ?_⟩
  cases rx <;> exact q _ H (Same.refl _) (.bl _)
theorem rd_notN {d : PyData} : RD (fun x y H Q => y = .non ∧ Q (.bl (!decide (x = .non))) H) d .none (.bool (match d with | .none => false | _ => true)) := fun H x y rx ry Q q => by
  cases ry
  refine ⟨rfl, ?_⟩
  cases rx <;> exact q _ H (Same.refl _) (.bl _)
/-! calls of builtins -/
abbrev rLenQ (K : PySem.W.Frag) : List V → Hp → VK → Prop := fun xs H Q => ∃ p ys, xs = [.ref p] ∧ (SqL K H p ys ∨ SqT K H p ys) ∧ Q (.int ys.length) H
abbrev rListQ (K : PySem.W.Frag) : List V → Hp → VK → Prop := fun xs H Q => ∃ p ys, xs = [.ref p] ∧ (SqL K H p ys ∨ SqT K H p ys) ∧ ∀ l, H l = none → Q (.ref l) (upd H l (.lst ys))
abbrev rTupleQ (K : PySem.W.Frag) : List V → Hp → VK → Prop := fun xs H Q => ∃ p ys, xs = [.ref p] ∧ ((SqL K H p ys ∧ ∀ l, H l = none → Q (.ref l) (upd H l (.tup ys))) ∨ (SqT K H p ys ∧ Q (.ref p) H))
theorem cd_lenL {ds : List PyData} : CD (rLenQ K) [.list ds] (.int ds.length) := fun H vs rs Q q => by
  cases rs with
  | cons r t =>
    cases t
    cases r with
    | lst ha r1 => rw [← r1.length] at q; exact ⟨_, _, rfl, .inl (SqL.of ha), q _ H (Same.refl _) (.int _)⟩
theorem cd_lenT {ds : List PyData} : CD (rLenQ K) [.tuple ds] (.int ds.length) := fun H vs rs Q q => by
  cases rs with
  | cons r t =>
    cases t
    cases r with
    | tup ha r1 => rw [← r1.length] at q; exact ⟨_, _, rfl, .inr (SqT.of ha), q _ H (Same.refl _) (.int _)⟩
theorem cd_listL {ds : List PyData} : CD (rListQ K) [.list ds] (.list ds) := fun H vs rs Q q => by
  cases rs with
  | cons r t =>
    cases t
    cases r with
    | lst ha r1 => exact ⟨_, _, rfl, .inl (SqL.of ha), fun l hl => q _ _ (same_new hl) (.lst upd_same (r1.mono (same_new hl)))⟩
theorem cd_listT {ds : List PyData} : CD (rListQ K) [.tuple ds] (.list ds) := fun H vs rs Q q => by
  cases rs with
  | cons r t =>
    cases t
    cases r with
    | tup ha r1 => exact ⟨_, _, rfl, .inr (SqT.of ha), fun l hl => q _ _ (same_new hl) (.lst upd_same (r1.mono (same_new hl)))⟩
theorem cd_tupleL {ds : List PyData} : CD (rTupleQ K) [.list ds] (.tuple ds) := fun H vs rs Q q => by
  cases rs with
  | cons r t =>
    cases t
    cases r with
    | lst ha r1 => exact ⟨_, _, rfl, .inl ⟨SqL.of ha, fun l hl => q _ _ (same_new hl) (.tup upd_same (r1.mono (same_new hl)))⟩⟩
theorem cd_sum {ns : List Int} : CD (rSum K) [.list (ns.map .int)] (.int ns.sum) := fun H vs rs Q q => by
  cases rs with
  | cons r t =>
    cases t
    cases r with
    | lst ha r1 => rw [Reps.of_ints r1] at ha; exact ⟨_, ns, rfl, SqL.of ha, q _ H (Same.refl _) (.int _)⟩
theorem cd_all {bs : List Bool} : CD (rAll K) [.list (bs.map .bool)] (.bool (bs.all id)) := fun H vs rs Q q => by
  cases rs with
  | cons r t =>
    cases t
    cases r with
    | lst ha r1 => rw [Reps.of_bools r1] at ha; exact ⟨_, bs, rfl, SqL.of ha, q _ H (Same.refl _) (.bl _)⟩
theorem cd_any {bs : List Bool} : CD (rAny K) [.list (bs.map .bool)] (.bool (bs.any id)) := fun H vs rs Q q => by
  cases rs with
  | cons r t =>
    cases t
    cases r with
    | lst ha r1 => rw [Reps.of_bools r1] at ha; exact ⟨_, bs, rfl, SqL.of ha, q _ H (Same.refl _) (.bl _)⟩
abbrev rMin2Q : List V → Hp → VK → Prop := fun xs H Q => ∃ i j, xs = [.int i, .int j] ∧ Q (.int (if j < i then j else i)) H
theorem cd_min2 {i j : Int} : CD rMin2Q [.int i, .int j] (.int (if j < i then j else i)) := fun H vs rs Q q => by
  cases rs with
  | cons r t =>
    cases t with
    | cons r2 t =>
      cases t
      cases r; cases r2
      exact ⟨i, j, rfl, q _ H (Same.refl _) (.int _)⟩
theorem cd_minL {ns : List Int} {m : Int} (h : 0 < ns.length) (hm : ∀ x, x ∈ ns → (∀ y, y ∈ ns → x ≤ y) → x = m) : CD (rMin K) [.list (ns.map .int)] (.int m) := fun H vs rs Q q => by
  cases rs with
  | cons r t =>
    cases t
    cases r with
    | lst ha r1 => rw [Reps.of_ints r1] at ha; exact ⟨_, ns, rfl, SqL.of ha, h, fun x h1 h2 => by rw [hm x h1 h2]; exact q _ H (Same.refl _) (.int _)⟩
/-- isinstance(x, int / bool / tuple / list) -/
def clsOf : PyData → String
  | .none => "NoneType"
  | .bool _ => "bool"
  | .int _ => "int"
  | .str _ => "str"
  | .list _ => "list"
  | .tuple _ => "tuple"
  | .dict _ => "dict"
theorem tyx_rep {H : Hp} {v : V} {d : PyData} (r : Rep H v d) : TyX K H v (.type (clsOf d)) := by
  cases r with
  | non => exact .base .non
  | bl b => exact .base (.bl b)
  | int i => exact .base (.int i)
  | str x => exact .base (.str x)
  | lst h _ => exact .base (.lst h)
  | tup h _ => exact .base (.tup h)
theorem ed_isi {σ : L2.St} {H : Hp} {te : TE} {d : PyData} {n : String} {b : Bool} (h : ED te σ H d) (hb : kitB (clsOf d) n = some b) : ED (tCB (rIsi K) (tCons te (tCons (tC (.ty n)) tNil))) σ H (.bool b) := fun H1 s Q q =>
  h H1 s _ fun v H2 s2 r => ⟨v, .ty n, _, _, b, rfl, .ty n, tyx_rep r, kit_ty hb, q _ H2 s2 (.bl b)⟩
def isInt : PyData → Bool
  | .bool _ => true
  | .int _ => true
  | _ => false
def isBool : PyData → Bool
  | .bool _ => true
  | _ => false
def isTup : PyData → Bool
  | .tuple _ => true
  | _ => false
theorem kit_int : ∀ d : PyData, kitB (clsOf d) "int" = some (isInt d)
  | .none => by decide +kernel
  | .bool _ => by show kitB "bool" "int" = some true; decide +kernel
  | .int _ => by show kitB "int" "int" = some true; decide +kernel
  | .str _ => by show kitB "str" "int" = some false; decide +kernel
  | .list _ => by show kitB "list" "int" = some false; decide +kernel
  | .tuple _ => by show kitB "tuple" "int" = some false; decide +kernel
  | .dict _ => by show kitB "dict" "int" = some false; decide +kernel
theorem kit_bool : ∀ d : PyData, kitB (clsOf d) "bool" = some (isBool d)
  | .none => by decide +kernel
  | .bool _ => by show kitB "bool" "bool" = some true; decide +kernel
  | .int _ => by show kitB "int" "bool" = some false; decide +kernel
  | .str _ => by show kitB "str" "bool" = some false; decide +kernel
  | .list _ => by show kitB "list" "bool" = some false; decide +kernel
  | .tuple _ => by show kitB "tuple" "bool" = some false; decide +kernel
  | .dict _ => by show kitB "dict" "bool" = some false; decide +kernel
theorem kit_tup : ∀ d : PyData, kitB (clsOf d) "tuple" = some (isTup d)
  | .none => by decide +kernel
  | .bool _ => by show kitB "bool" "tuple" = some false; decide +kernel
  | .int _ => by show kitB "int" "tuple" = some false; decide +kernel
  | .str _ => by show kitB "str" "tuple" = some false; decide +kernel
  | .list _ => by show kitB "list" "tuple" = some false; decide +kernel
  | .tuple _ => by show kitB "tuple" "tuple" = some true; decide +kernel
  | .dict _ => by show kitB "dict" "tuple" = some false; decide +kernel
end
end K52
end
section
set_option Elab.async false
set_option linter.all false
set_option maxRecDepth 100000
/-! Slices, ranges, sets as data; iterators; comprehensions; statements. -/
namespace K52
open PySem PySem.Spec PyProof.Rows L2
section
variable {K : PySem.W.Frag} {w : World} {P : Program} {σ : L2.St} {H : Hp} {te : TE} {tl th : TO}
def EO (to : TO) (σ : L2.St) (H : Hp) (o : Option Int) : Prop := ∀ H1, Same H H1 → ∀ Q : Option Int → Hp → Prop, (∀ H2, Same H1 H2 → Q o H2) → to σ H1 Q
theorem eo_none : EO tNoPart σ H none := fun H1 _ Q q => q H1 (Same.refl _)
theorem eo_some {i : Int} (h : ED te σ H (.int i)) : EO (tPart te) σ H (some i) := fun H1 s Q q => h H1 s _ fun v H2 s2 r => by cases r; exact ⟨i, rfl, q H2 s2⟩
def cutD (ds : List PyData) (lo hi : Option Int) : List PyData := (ds.drop (HT.sIx ds.length 0 lo)).take (HT.sIx ds.length ds.length hi - HT.sIx ds.length 0 lo)
theorem Reps.cut {H : Hp} {xs : List V} {ds : List PyData} (r : Reps H xs ds) (lo hi : Option Int) : Reps H (cutV xs lo hi) (cutD ds lo hi) := by
  unfold cutV cutD
  rw [r.length]
  exact (r.drop _).take _
theorem ed_slL {ds : List PyData} {lo hi : Option Int} (h : ED te σ H (.list ds)) (hl : EO tl σ H lo) (hh : EO th σ H hi) : ED (tSl (rSlL K) te tl th) σ H (.list (cutD ds lo hi)) := fun H1 s Q q =>
  h H1 s _ fun v H2 s2 r => hl H2 (s.trans s2) _ fun H3 s3 => hh H3 ((s.trans s2).trans s3) _ fun H4 s4 => by
    cases r with
    | lst ha rs =>
      have hs := s3.trans s4
      exact ⟨_, _, rfl, SqL.of (hs _ _ ha), fun p hp => q _ _ ((s2.trans hs).trans (same_new hp)) (.lst upd_same (((rs.mono hs).cut lo hi).mono (same_new hp)))⟩
theorem cutV_all {xs : List V} {lo hi : Option Int} (h : HT.sIx xs.length 0 lo = 0 ∧ HT.sIx xs.length xs.length hi = xs.length) : cutV xs lo hi = xs := by
  unfold cutV
  rw [h.1, h.2]
  simp
theorem ed_slT {ds : List PyData} {lo hi : Option Int} (h : ED te σ H (.tuple ds)) (hl : EO tl σ H lo) (hh : EO th σ H hi) : ED (tSl (rSlA K) te tl th) σ H (.tuple (cutD ds lo hi)) := fun H1 s Q q =>
  h H1 s _ fun v H2 s2 r => hl H2 (s.trans s2) _ fun H3 s3 => hh H3 ((s.trans s2).trans s3) _ fun H4 s4 => by
    cases r with
    | @tup a xs _ ha rs =>
      have hs := s3.trans s4
      refine ⟨_, _, rfl, SqT.of (hs _ _ ha), fun e => ?_, fun e p hp => q _ _ ((s2.trans hs).trans (same_new hp)) (.tup upd_same (((rs.mono hs).cut lo hi).mono (same_new hp)))⟩
      have rc := (rs.mono hs).cut lo hi
      rw [cutV_all e] at rc
      exact q _ _ (s2.trans hs) (.tup (hs _ _ ha) rc)
theorem ed_rev {ds : List PyData} (h : ED te σ H (.list ds)) : ED (tRevL K te) σ H (.list ds.reverse) := fun H1 s Q q =>
  h H1 s _ fun v H2 s2 r => by
    cases r with
    | lst ha rs => exact ⟨_, _, rfl, SqL.of ha, fun p hp => q _ _ (s2.trans (same_new hp)) (.lst upd_same (rs.reverse.mono (same_new hp)))⟩
theorem rgV_rg (n : Int) : rgV 0 n = (rg n.toNat).map V.int := by
  unfold rgV rg
  rw [List.map_map, Int.sub_zero]
  exact List.map_congr_left fun i _ => by show V.int (0 + (i : Int)) = V.int (i : Int); rw [Int.zero_add]
theorem ed_tupRg {n : Int} (h : ED te σ H (.int n)) (h0 : 0 ≤ n ∧ n ≤ 100000) : ED (tTupRg (tRg1 te)) σ H (lotD (rg n.toNat)) := fun H1 s Q q =>
  h H1 s _ fun v H2 s2 r => by
    cases r
    refine ⟨n, rfl, RgOk.of_le (by omega) (by omega) (by omega) h0.1, fun p hp => q _ _ (s2.trans (same_new hp)) (.tup upd_same ?_)⟩
    rw [rgV_rg]
    exact Reps.ints _
theorem ed_lstRg {n : Int} (h : ED te σ H (.int n)) (h0 : 0 ≤ n ∧ n ≤ 100000) : ED (tLstRg (tRg1 te)) σ H (.list ((rg n.toNat).map .int)) := fun H1 s Q q =>
  h H1 s _ fun v H2 s2 r => by
    cases r
    refine ⟨n, rfl, RgOk.of_le (by omega) (by omega) (by omega) h0.1, fun p hp => q _ _ (s2.trans (same_new hp)) (.lst upd_same ?_)⟩
    rw [rgV_rg]
    exact Reps.ints _
/-! sorted(set(..)) -/
theorem ed_ssLI {ns : List Int} (h : ED te σ H (.list (ns.map .int))) (hz : ns.length < 64) : ED (tCB (rSortedSet w) (tCons (tCB (rSetLI K w) (tCons te tNil)) tNil)) σ H (.list ((asc ns).map .int)) := fun H1 s Q q =>
  h H1 s _ fun v H2 s2 r => by
    cases r with
    | lst ha rs =>
      rw [Reps.of_ints rs] at ha
      refine ⟨_, ns, rfl, SqL.of ha, hz, fun a c hn hc => ⟨a, _, c, rfl, upd_same, by omega, fun ms p h1 h2 h3 hp => ?_⟩⟩
      have e : ms = asc ns := Asc.ext h1 (asc_asc _) fun x => by rw [h2, mem_asc, decide_eq_true_eq]
      have sn := same_new (o := .lst (ms.map V.int)) hp
      subst e
      exact q _ _ ((s2.trans (same_new hn)).trans sn) (.lst upd_same (Reps.ints _))
theorem ed_ssTI {ns : List Int} (h : ED te σ H (lotD ns)) (hz : ns.length < 64) : ED (tCB (rSortedSet w) (tCons (tCB (rSetTI K w) (tCons te tNil)) tNil)) σ H (.list ((asc ns).map .int)) := fun H1 s Q q =>
  h H1 s _ fun v H2 s2 r => by
    cases r with
    | tup ha rs =>
      rw [Reps.of_ints rs] at ha
      refine ⟨_, ns, rfl, SqT.of ha, hz, fun a c hn hc => ⟨a, _, c, rfl, upd_same, by omega, fun ms p h1 h2 h3 hp => ?_⟩⟩
      have e : ms = asc ns := Asc.ext h1 (asc_asc _) fun x => by rw [h2, mem_asc, decide_eq_true_eq]
      have sn := same_new (o := .lst (ms.map V.int)) hp
      subst e
      exact q _ _ ((s2.trans (same_new hn)).trans sn) (.lst upd_same (Reps.ints _))
/-- the places of lots -/
theorem Reps.lots {H : Hp} : ∀ {fs : List Lot} {vs : List V}, Reps H vs (fs.map lotD) → ∃ ks : List (Addr × List Int), vs = ks.map (fun p => V.ref p.1) ∧ ks.map (·.2) = fs ∧ ∀ p ∈ ks, H p.1 = some (.tup (p.2.map V.int))
  | [], _, .nil => ⟨[], rfl, rfl, fun p hp => absurd hp (by simp)⟩
  | f :: fs, _, .cons h t => by
    obtain ⟨ks, e1, e2, e3⟩ := Reps.lots t
    cases h with
    | @tup a xs _ ha rs =>
      rw [Reps.of_ints rs] at ha
      refine ⟨(a, f) :: ks, by rw [e1]; rfl, by rw [List.map_cons, e2], fun p hp => ?_⟩
      rcases List.mem_cons.mp hp with e | hp
      · subst e; exact ha
      · exact e3 p hp
theorem Reps.of_lots {H : Hp} : ∀ {ks : List (Addr × List Int)}, (∀ p ∈ ks, H p.1 = some (.tup (p.2.map V.int))) → Reps H (ks.map fun p => V.ref p.1) ((ks.map (·.2)).map lotD)
  | [], _ => .nil
  | k :: ks, h => .cons (.tup (h k List.mem_cons_self) (Reps.ints _)) (Reps.of_lots fun p hp => h p (List.mem_cons_of_mem _ hp))
theorem lasc_of {l : List Lot} (nd : l.Nodup) (h : l.Pairwise fun a b => HT.lexLt b a = false) : LAsc l := by
  have hb : l.Pairwise fun a b : Lot => a ≠ b := nd
  refine (hb.and h).imp fun {a b} q => ?_
  cases e : lx a b with
  | true => rfl
  | false => exact absurd (lx_tri a b e (by rw [← lx_eq]; exact q.2)) q.1
theorem ed_ssTT {fs : List Lot} (h : ED te σ H (frontD fs)) (hz : fs.length < 64) : ED (tCB (rSortedTO K P w) (tCons (tCB (rSetTT K P w) (tCons te tNil)) tNil)) σ H (.list ((lsort fs).map lotD)) := fun H1 s Q q =>
  h H1 s _ fun v H2 s2 r => by
    cases r with
    | tup ha rs =>
      obtain ⟨ks, e1, e2, e3⟩ := rs.lots
      subst e1
      have hkl : ks.length = fs.length := by rw [← e2, List.length_map]
      refine ⟨_, ks, rfl, SqT.of ha, fun p hp => SqT.of (e3 p hp), by omega, fun a L hn h1 h2 => ⟨a, L, rfl, upd_same, fun p hp => SqT.of (same_new hn _ _ (e3 p (h1 p hp))), fun L' p g1 g2 g3 g4 g5 hp => ?_⟩⟩
      have e : L'.map (·.2) = lsort fs := by
        refine LAsc.ext (lasc_of g3 (List.pairwise_map.mpr g5)) (lsort_asc _) fun x => ?_
        rw [mem_lsort, g2.mem_iff, ← e2]
        constructor
        · intro hx
          obtain ⟨y, hy, e⟩ := List.mem_map.mp hx
          exact List.mem_map.mpr ⟨y, h1 y hy, e⟩
        · intro hx
          obtain ⟨y, hy, e⟩ := List.mem_map.mp hx
          rw [← e]
          exact h2 y hy
      have sn := (same_new (o := SetTO P w a L) hn).trans (same_new (o := .lst (L'.map fun q => V.ref q.1)) hp)
      refine q _ _ (s2.trans sn) (.lst upd_same ?_)
      rw [← e]
      exact Reps.of_lots fun p hp => sn _ _ (e3 p (h1 p (g1 p hp)))
end

/-! ### what an iterator gives -/
def EI (G : Hp → Hp → Prop) (wi : TI) (σ : L2.St) (H : Hp) (ds : List PyData) : Prop := ∀ H1, Same H H1 → ∀ R : It → Hp → Prop,
  (∀ J H2, Same H1 H2 → L2.Walk J ds.length (G H2) (fun i H3 v H4 => Same H3 H4 ∧ ∃ d, ds[i]? = some d ∧ Rep H4 v d) → R J H2) → wi σ H1 R
section
variable {K : PySem.W.Frag} {σ : L2.St} {H : Hp} {te : TE} {ta : TA} {ds : List PyData}
theorem ei_list (h : ED te σ H (.list ds)) : EI Same (iList K te) σ H ds := fun H1 s R q => h H1 s _ fun v H2 s2 r => by
  cases r with
  | @lst a xs _ ha rs =>
    refine ⟨a, rfl, ⟨xs, SqL.of ha⟩, q _ H2 s2 ?_⟩
    rw [← rs.length]
    refine (walk_list (K := K) (a := a) (xs := xs)).mono (fun H3 g => SqL.of (g _ _ ha)) fun i H3 v H4 hi g y => ?_
    obtain ⟨e1, e2⟩ := y
    subst e1
    obtain ⟨d, h1, h2⟩ := rs.get e2
    exact ⟨Same.refl _, d, h1, h2.mono g⟩
theorem ei_tup (h : ED te σ H (.tuple ds)) (hn : noLs ds = true) : EI TS (iTup K te) σ H ds := fun H1 s R q => h H1 s _ fun v H2 s2 r => by
  cases r with
  | @tup a xs _ ha rs =>
    refine ⟨a, rfl, ⟨xs, SqT.of ha⟩, q _ H2 s2 ?_⟩
    rw [← rs.length]
    refine (walk_tup (K := K) (a := a) (xs := xs)).mono (fun H3 g => SqT.of (g _ _ ha)) fun i H3 v H4 hi g y => ?_
    obtain ⟨e1, e2⟩ := y
    subst e1
    have rs' := Reps.ts g hn rs
    obtain ⟨d, h1, h2⟩ := rs'.get e2
    exact ⟨Same.refl _, d, h1, h2⟩
theorem ei_tupS (h : ED te σ H (.tuple ds)) : EI Same (iTup K te) σ H ds := fun H1 s R q => h H1 s _ fun v H2 s2 r => by
  cases r with
  | @tup a xs _ ha rs =>
    refine ⟨a, rfl, ⟨xs, SqT.of ha⟩, q _ H2 s2 ?_⟩
    rw [← rs.length]
    refine (walk_tup (K := K) (a := a) (xs := xs)).mono (fun H3 g => SqT.of (g _ _ ha)) fun i H3 v H4 hi g y => ?_
    obtain ⟨e1, e2⟩ := y
    subst e1
    obtain ⟨d, h1, h2⟩ := rs.get e2
    exact ⟨Same.refl _, d, h1, h2.mono g⟩
theorem ei_rng {n : Int} {G : Hp → Hp → Prop} (h : EA ta σ H [.int n]) (h0 : 0 ≤ n ∧ n ≤ 100000) : EI G (iRng1 ta) σ H ((rg n.toNat).map .int) := fun H1 s R q => h H1 s _ fun vs H2 s2 r => by
  cases r with
  | cons r t =>
    cases t
    cases r
    refine ⟨n, rfl, by omega, by omega, q _ H2 s2 ?_⟩
    rw [List.length_map, rg_len]
    refine (walk_range (lo := 0) (n := n.toNat)).mono (fun H3 g => True.intro) fun i H3 v H4 hi g y => ?_
    obtain ⟨e1, e2⟩ := y
    subst e1 e2
    refine ⟨Same.refl _, .int (i : Nat), ?_, by show Rep H4 (V.int (0 + (i : Int))) (.int (i : Int)); rw [Int.zero_add]; exact .int _⟩
    unfold rg
    rw [List.map_map, List.getElem?_map, List.getElem?_range hi]
    rfl
/-- enumerate: pairs of the place and the item -/
def pairsD (ds : List PyData) : List PyData := ds.zipIdx.map fun p => .tuple [.int (p.2 : Nat), p.1]
theorem pairsD_len (ds : List PyData) : (pairsD ds).length = ds.length := by unfold pairsD; rw [List.length_map, List.length_zipIdx]
theorem ei_en (h : EA ta σ H [.tuple ds]) (hn : noLs ds = true) : EI TS (iEnT K ta) σ H (pairsD ds) := fun H1 s R q => h H1 s _ fun vs H2 s2 r => by
  cases r with
  | cons r t =>
    cases t
    cases r with
    | @tup a xs _ ha rs =>
      refine ⟨a, xs, rfl, SqT.of ha, q _ H2 s2 ?_⟩
      rw [pairsD_len, ← rs.length]
      refine (walk_enT (K := K) (a := a) (xs := xs)).mono (fun H3 g => SqT.of (g _ _ ha)) fun i H3 v H4 hi g y => ?_
      obtain ⟨T, x, z, e1, e2, e3, e4, e5⟩ := y
      subst e1 e3
      cases e4
      obtain ⟨d, h1, h2⟩ := (Reps.ts g hn rs).get e5
      refine ⟨same_new e2, .tuple [.int (i : Nat), d], ?_, .tup upd_same (.cons (.int _) (.cons (h2.mono (same_new e2)) .nil))⟩
      unfold pairsD
      rw [List.getElem?_map, List.getElem?_zipIdx, h1]
      simp
theorem EI.same {wi : TI} (h : EI TS wi σ H ds) : EI Same wi σ H ds := fun H1 s R q => h H1 s R fun J H2 s2 w => q J H2 s2 (w.mono (fun H3 g => TS.of g) fun _ _ _ _ _ _ y => y)
theorem EI.mono {G : Hp → Hp → Prop} {wi : TI} {H' : Hp} (e : Same H H') (h : EI G wi σ H ds) : EI G wi σ H' ds := fun H1 s R q => h H1 (e.trans s) R q
end

/-! ### comprehensions -/
section
variable {K : PySem.W.Frag} {σ : L2.St} {H : Hp} {te : TE} {tt : TT} {wi : TI} {g : TG} {vs : List Nat}
theorem eb_yes : EB tYes σ H true := fun H1 _ Q q => q H1 (Same.refl _)
/-- what a target does to the slots -/
def Bd (g : TG) (v : V) (σ : L2.St) (H : Hp) (σ2 : L2.St) : Prop := ∀ Q : L2.St → Hp → Prop, Q σ2 H → g v σ H Q
theorem bd_name {i : Nat} {v : V} : Bd (gName i) v σ H (σ.set i (some v)) := fun Q q => q
theorem ed_lc {α : Type} {items : List α} {enc : α → PyData} (f : α → Bool) (e : α → PyData) (hn : ∀ a, noL (e a) = true) (hi : EI Same wi σ H (items.map enc)) (hz : items.length ≤ 50000)
    (hb : ∀ (i : Nat) (a : α), items[i]? = some a → ∀ v H1, Same H H1 → Rep H1 v (enc a) → ∃ σ2, Bd g v (wipe σ vs) H1 σ2 ∧ wipe σ2 vs = wipe σ vs ∧ EB tt σ2 H1 (f a) ∧ (f a = true → ED te σ2 H1 (e a))) :
    ED (tLc wi g tt te vs) σ H (.list ((items.filter f).map e)) := fun H0 s Q q => hi H0 s _ fun J H1 s1 w D hD => by
  refine lc_it (te := te) (H1 := H1) (D := D) w (fun i H' => Same H1 H' ∧ ∃ acc, H' D = some (.lst acc) ∧ Reps H' acc (((items.take i).filter f).map e)) ?_ ?_ ?_ ?_
  · exact ⟨same_new hD, [], upd_same, .nil⟩
  · exact fun i H' hi p => p.1
  · rintro i v H' H2 hi ⟨p1, acc, p2, p3⟩ ⟨y1, d, y2, y3⟩
    rw [List.getElem?_map] at y2
    obtain ⟨a, ha, rfl⟩ := Option.map_eq_some_iff.mp y2
    have sH : Same H H2 := (s.trans s1).trans (p1.trans y1)
    obtain ⟨σ2, b1, b2, b3, b4⟩ := hb i a ha v H2 sH y3
    refine b1 _ ⟨b2, b3 H2 (Same.refl _) _ fun H3 s3 => ?_⟩
    have et : items.take (i + 1) = items.take i ++ [a] := by rw [List.take_succ, ha]; rfl
    have hl : acc.length ≤ 50000 := by
      have h1 := p3.length
      rw [List.length_map] at h1
      have h2 := List.length_filter_le f (items.take i)
      have h3 : (items.take i).length ≤ items.length := by rw [List.length_take]; omega
      omega
    cases hf : f a with
    | true =>
      rw [if_pos rfl]
      refine b4 hf H3 s3 _ fun y H4 s4 ry => ⟨acc, s4 _ _ (s3 _ _ (y1 _ _ p2)), Nat.lt_of_le_of_lt hl (by decide), same_mut (p1.trans (y1.trans (s3.trans s4))) hD, acc ++ [y], upd_same, ?_⟩
      have rr : Reps H4 (acc ++ [y]) (((items.take (i + 1)).filter f).map e) := by
        rw [et, List.filter_append, List.map_append, List.filter_cons, if_pos hf]
        exact (p3.mono (y1.trans (s3.trans s4))).snoc ry
      refine Reps.ts (TS.upd (TS.refl _) fun xs => ?_) (noLs_map hn _) rr
      rw [s4 _ _ (s3 _ _ (y1 _ _ p2))]
      exact fun z => by cases z
    | false =>
      rw [if_neg (by decide)]
      refine ⟨p1.trans (y1.trans s3), acc, s3 _ _ (y1 _ _ p2), ?_⟩
      rw [et, List.filter_append, List.filter_cons, if_neg (by rw [hf]; decide), List.filter_nil, List.append_nil]
      exact p3.mono (y1.trans s3)
  · rintro H' ⟨p1, acc, p2, p3⟩
    rw [List.length_map, List.take_length] at p3
    exact q _ H' (s1.trans p1) (.lst p2 p3)
/-- [x for x in xs if t], the items whatever they hold -/
theorem ed_lcId {j : Nat} {items : List PyData} (f : PyData → Bool) (ht : ED te σ H (.tuple items)) (hz : items.length ≤ 50000) (hw : ∀ v : V, wipe ((wipe σ vs).set j (some v)) vs = wipe σ vs) (hj : ∀ v : V, ((wipe σ vs).set j (some v))[j]? = some (some v))
    (hb : ∀ (d : PyData), d ∈ items → ∀ v H1, Same H H1 → Rep H1 v d → EB tt ((wipe σ vs).set j (some v)) H1 (f d)) :
    ED (tLc (iTup K te) (gName j) tt (tVar j) vs) σ H (.list (items.filter f)) := fun H0 s Q q => ht H0 s _ fun v0 H1 s1 r => by
  cases r with
  | @tup a xs _ ha rs =>
    refine ⟨a, rfl, ⟨xs, SqT.of ha⟩, fun D hD => ?_⟩
    refine lc_it (te := tVar j) (H1 := H1) (D := D) (walk_tup (K := K) (a := a) (xs := xs)) (fun i H' => Same H1 H' ∧ ∃ acc, H' D = some (.lst acc) ∧ Reps H1 acc ((items.take i).filter f)) ?_ ?_ ?_ ?_
    · exact ⟨same_new hD, [], upd_same, .nil⟩
    · exact fun i H' hi p => SqT.of (p.1 _ _ ha)
    · rintro i v H' H2 hi ⟨p1, acc, p2, p3⟩ ⟨y1, y2⟩
      subst y1
      obtain ⟨d, hd, rd⟩ := rs.get y2
      refine ⟨hw v, hb d (List.mem_of_getElem? hd) v H2 ((s.trans s1).trans p1) (rd.mono p1) H2 (Same.refl _) _ fun H3 s3 => ?_⟩
      have et : items.take (i + 1) = items.take i ++ [d] := by rw [List.take_succ, hd]; rfl
      have hl : acc.length ≤ 50000 := by
        have h1 := p3.length
        have h2 := List.length_filter_le f (items.take i)
        have h3 : (items.take i).length ≤ items.length := by rw [List.length_take]; omega
        omega
      cases hf : f d with
      | true =>
        rw [if_pos rfl]
        refine ⟨v, hj v, acc, s3 _ _ p2, Nat.lt_of_le_of_lt hl (by decide), same_mut (p1.trans s3) hD, acc ++ [v], upd_same, ?_⟩
        rw [et, List.filter_append, List.filter_cons, if_pos hf]
        exact p3.snoc rd
      | false =>
        rw [if_neg (by decide)]
        refine ⟨p1.trans s3, acc, s3 _ _ p2, ?_⟩
        rw [et, List.filter_append, List.filter_cons, if_neg (by rw [hf]; decide), List.filter_nil, List.append_nil]
        exact p3
    · rintro H' ⟨p1, acc, p2, p3⟩
      rw [rs.length, List.take_length] at p3
      exact q _ H' (s1.trans p1) (.lst p2 (p3.mono p1))
end
/-! ### statements -/
section
variable {K : PySem.W.Frag} {σ : L2.St} {H : Hp} {te : TE} {tt : TT} {wi : TI} {g : TG} {D : Ends} {tz tu tw : L2.TS} {d : PyData}
theorem q_asg {i : Nat} (h : ED te σ H d) (k : ∀ v H1, Same H H1 → Rep H1 v d → tz D (σ.set i (some v)) H1) : tSeq (tAsg te (gName i)) tz D σ H := h H (Same.refl _) _ fun v H1 s r => k v H1 s r
theorem s_asg {i : Nat} (h : ED te σ H d) (k : ∀ v H1, Same H H1 → Rep H1 v d → D.nx (σ.set i (some v)) H1) : tAsg te (gName i) D σ H := h H (Same.refl _) _ fun v H1 s r => k v H1 s r
theorem s_ret (h : ED te σ H d) (k : ∀ v H1, Same H H1 → Rep H1 v d → D.rt v H1) : tRet te D σ H := h H (Same.refl _) _ fun v H1 s r => k v H1 s r
theorem q_when {b : Bool} (h : EB tt σ H b) (h1 : b = true → ∀ H1, Same H H1 → tu { D with nx := tz D } σ H1) (h2 : b = false → ∀ H1, Same H H1 → tz D σ H1) : tSeq (tIfS tt tu tNext) tz D σ H := h H (Same.refl _) _ fun H1 s => by
  cases b with
  | true => exact h1 rfl H1 s
  | false => exact h2 rfl H1 s
theorem s_when {b : Bool} (h : EB tt σ H b) (h1 : b = true → ∀ H1, Same H H1 → tu D σ H1) (h2 : b = false → ∀ H1, Same H H1 → D.nx σ H1) : tIfS tt tu tNext D σ H := h H (Same.refl _) _ fun H1 s => by
  cases b with
  | true => exact h1 rfl H1 s
  | false => exact h2 rfl H1 s
theorem s_if {b : Bool} (h : EB tt σ H b) (h1 : b = true → ∀ H1, Same H H1 → tu D σ H1) (h2 : b = false → ∀ H1, Same H H1 → tw D σ H1) : tIfS tt tu tw D σ H := h H (Same.refl _) _ fun H1 s => by
  cases b with
  | true => exact h1 rfl H1 s
  | false => exact h2 rfl H1 s
theorem q_if {b : Bool} (h : EB tt σ H b) (h1 : b = true → ∀ H1, Same H H1 → tu { D with nx := tz D } σ H1) (h2 : b = false → ∀ H1, Same H H1 → tw { D with nx := tz D } σ H1) : tSeq (tIfS tt tu tw) tz D σ H := h H (Same.refl _) _ fun H1 s => by
  cases b with
  | true => exact h1 rfl H1 s
  | false => exact h2 rfl H1 s
/-- for: P by the heap at the loop's start, the turn, the slots, the heap -/
theorem s_for {G : Hp → Hp → Prop} {ds : List PyData} (hi : EI G wi σ H ds) (Pv : Hp → Nat → L2.St → Hp → Prop) (h0 : ∀ H1, Same H H1 → Pv H1 0 σ H1) (hG : ∀ H1 i σ' H', i ≤ ds.length → Pv H1 i σ' H' → G H1 H')
    (hs : ∀ H1, Same H H1 → ∀ i d v σ' H' H2, ds[i]? = some d → Pv H1 i σ' H' → Same H' H2 → Rep H2 v d → g v σ' H2 fun σ2 H3 => tu { D with nx := Pv H1 (i + 1), ct := Pv H1 (i + 1), bk := D.nx } σ2 H3) (hd : ∀ H1 σ' H', Same H H1 → Pv H1 ds.length σ' H' → D.nx σ' H') :
    tFor wi g tu D σ H := hi H (Same.refl _) _ fun J H1 s w =>
  for_it w (Pv H1) (h0 H1 s) (fun i σ' H' hi p => hG H1 i σ' H' hi p) (fun i v σ' H' H2 hi p y => by
    obtain ⟨y1, d, y2, y3⟩ := y
    exact hs H1 s i d v σ' H' H2 y2 p y1 y3) (fun σ' H' p => hd H1 σ' H' s p)
theorem q_for {G : Hp → Hp → Prop} {ds : List PyData} (hi : EI G wi σ H ds) (Pv : Hp → Nat → L2.St → Hp → Prop) (h0 : ∀ H1, Same H H1 → Pv H1 0 σ H1) (hG : ∀ H1 i σ' H', i ≤ ds.length → Pv H1 i σ' H' → G H1 H')
    (hs : ∀ H1, Same H H1 → ∀ i d v σ' H' H2, ds[i]? = some d → Pv H1 i σ' H' → Same H' H2 → Rep H2 v d → g v σ' H2 fun σ2 H3 => tu { D with nx := Pv H1 (i + 1), ct := Pv H1 (i + 1), bk := tz D } σ2 H3) (hd : ∀ H1 σ' H', Same H H1 → Pv H1 ds.length σ' H' → tz D σ' H') :
    tSeq (tFor wi g tu) tz D σ H := s_for (D := { D with nx := tz D }) hi Pv h0 hG hs hd
end
end K52
end
section
set_option Elab.async false
set_option linter.all false
set_option maxRecDepth 100000
/-! A def under its name: its promise, its calls. -/
namespace K52
open PySem PySem.Spec PyProof.Rows L2
/-- the builtins that the text uses are not stored over -/
structure Bl (mg : Str → Option Value) : Prop where
  isinstance : mg "isinstance" = none
  int : mg "int" = none
  bool : mg "bool" = none
  tuple : mg "tuple" = none
  list : mg "list" = none
  len : mg "len" = none
  all : mg "all" = none
  any : mg "any" = none
  range : mg "range" = none
  sum : mg "sum" = none
  enumerate : mg "enumerate" = none
  sorted : mg "sorted" = none
  set : mg "set" = none
  min : mg "min" = none
  abs : mg "abs" = none
  repr : mg "repr" = none
theorem boot_bool : bootBuiltins "bool" = some (.type "bool") := by decide +kernel
/-- the def st stands under the name x -/
def DefAt (K : PySem.W.Frag) (mg : Str → Option Value) (x : Str) (st : Stmt) : Prop := ∃ (f : Addr) (fd : FuncData), FunD K x x (defArgs st) (defBody st) (defScope st) [] [] f fd ∧ mg x = some (.ref f)
/-- the def under the name x keeps the promise -/
def Df (P : Program) (w : World) (K : PySem.W.Frag) (mg : Str → Option Value) (base : Heap) (k : Nat) (x : Str) (ps : List Str) (sp : Sp) : Prop :=
  ∃ (f : Addr) (fd : FuncData), FnOk P w K mg base CX0 k f fd ps sp ∧ mg x = some (.ref f) ∧ PySem.W.keepIn K (.ref f) = true ∧ Binds K fd ps [] ∧ KBn K fd ps 0 ps (fun _ ws => ws) (fun _ zs => zs)
section
variable {X : Cx} {k : Nat} {x : Str} {ps : List Str} {sp : Sp} {p pos : Pos} {e : Expr} {es : List Expr} {t : TA}
theorem pe_df (G : Df X.prog X.w X.K X.mg X.base k x ps sp) (hr : Room k X.A) (hg : Gl X x) (ha : PA X (e :: es) t) (hdb : (x == ("__debug__" : Str)) = false := by decide) (he : starEach (e :: es) X.env = (false, eval e X.env) :: starEach es X.env := by rfl) (hpl : (backTo pos (starEach es X.env)).any (·.1) = false := by rfl) :
    PE X (.Call (.Name x p) (e :: es) [] pos) (tCall sp [] E0 t) := by
  obtain ⟨f, fd, F, hm, hk, hb, _⟩ := G
  exact pe_call F hr hg hm hk hb .nil pass0 ha hdb he hpl
theorem pe_dfK {kws : List Keyword} {tk : TA} (G : Df X.prog X.w X.K X.mg X.base k x ps sp) (hr : Room k X.A) (hg : Gl X x) (hkw : PK X kws tk) (hall : (backToKw pos (keywordEach kws X.env)).all (·.1.isSome) = true := by rfl) (hks : (backToKw pos (keywordEach kws X.env)).filterMap (·.1) = ps := by rfl)
    (hdb : (x == ("__debug__" : Str)) = false := by decide)
    (hpl : ((backTo pos (starEach [] X.env)).any (·.1) || (backToKw pos (keywordEach kws X.env)).any (·.1.isNone)) = false := by rfl) :
    PE X (.Call (.Name x p) [] kws pos) (tCallN 0 ps.length sp (fun _ zs => zs) E0 tNil tk) := by
  obtain ⟨f, fd, F, hm, hk, _, hb⟩ := G
  exact pe_callKw F hr hg hm hk hb pass0 hkw hall hks hdb hpl
end
section
variable {P : Program} {w : World} {K : PySem.W.Frag} {mg : Str → Option Value} {base : Heap} {x : Str} {st : Stmt}
theorem kbn_of {ps : List Str} {f : Addr} {fd : FuncData} (F : FunD K x x (defArgs st) (defBody st) (defScope st) [] [] f fd)
    (hb : ∀ (kV doc pm : Value) (an : Option Addr) (cdv ct : Value) (us : List Value), us.length = ps.length → bindArgs (PySem.W.fnOf x x (defArgs st) (defBody st) (defScope st) .none kV doc pm an cdv ct) ⟨[], ps.zip us⟩ = pure (ps.zip us)) : KBn K fd ps 0 ps (fun _ ws => ws) (fun _ zs => zs) := by
  obtain ⟨oc, od, dV, kV, doc, pm, an, cdv, ct, osl, rfl, lk, hcd, hD, hK⟩ := F.ex
  rcases hD with ⟨_, rfl⟩ | ⟨e, _⟩
  · refine ⟨fun s us ws _ h0 hl => ?_, fun _ r => r⟩
    match us, h0 with
    | [], _ => exact .of_eq (hb kV doc pm an cdv ct ws hl)
  · exact absurd rfl e
theorem df_ok {N ps : List Str} {k : Nat} {sp : Sp} (D : DefAt K mg x st) (S : FnScope N ps (defScope st))
    (hb : ∀ (kV doc pm : Value) (an : Option Addr) (cdv ct : Value) (us : List Value), us.length = ps.length → bindArgs (PySem.W.fnOf x x (defArgs st) (defBody st) (defScope st) .none kV doc pm an cdv ct) ⟨us, []⟩ = pure (ps.zip us))
    (hb2 : ∀ (kV doc pm : Value) (an : Option Addr) (cdv ct : Value) (us : List Value), us.length = ps.length → bindArgs (PySem.W.fnOf x x (defArgs st) (defBody st) (defScope st) .none kV doc pm an cdv ct) ⟨[], ps.zip us⟩ = pure (ps.zip us))
    (len : ∀ vs H Q E, sp vs H Q E → vs.length = ps.length)
    (hbody : ∀ (f : Addr) (cdv : Value) (A : Around) (outer : List Env) (s : Shared) (H : Hp) (vs : List V) (Q : VK) (E : XK), Room k (A.deeper (envOfC x (defScope st) s.heap.objs.size f cdv)) → sp vs H Q E →
      ∃ t, PSs (cxOf CX0 P w K mg base N x (defScope st) f cdv A outer s H E) (defBody st) t ∧ t { nx := fun _ H' => Q .non H', rt := Q } (start N vs) H) : Df P w K mg base (k + 1) x ps sp := by
  obtain ⟨f, fd, F, hm⟩ := D
  exact ⟨f, fd, F.ok S len fun cdv A outer s H vs Q E hr h => hbody f cdv A outer s H vs Q E hr h, hm, F.kp, F.bindsN hb, kbn_of F hb2⟩
/-- what the promise of a pure def asks of its body -/
theorem df_pure {α : Type} {args : α → List PyData} {pre : α → Prop} {res : α → PyData} {N ps : List Str} {k : Nat} (D : DefAt K mg x st) (S : FnScope N ps (defScope st))
    (hb : ∀ (kV doc pm : Value) (an : Option Addr) (cdv ct : Value) (us : List Value), us.length = ps.length → bindArgs (PySem.W.fnOf x x (defArgs st) (defBody st) (defScope st) .none kV doc pm an cdv ct) ⟨us, []⟩ = pure (ps.zip us))
    (hb2 : ∀ (kV doc pm : Value) (an : Option Addr) (cdv ct : Value) (us : List Value), us.length = ps.length → bindArgs (PySem.W.fnOf x x (defArgs st) (defBody st) (defScope st) .none kV doc pm an cdv ct) ⟨[], ps.zip us⟩ = pure (ps.zip us))
    (len : ∀ a, (args a).length = ps.length)
    (hbody : ∀ (f : Addr) (cdv : Value) (A : Around) (outer : List Env) (s : Shared) (H : Hp) (E : XK), Room k (A.deeper (envOfC x (defScope st) s.heap.objs.size f cdv)) →
      ∃ t, PSs (cxOf CX0 P w K mg base N x (defScope st) f cdv A outer s H E) (defBody st) t ∧ ∀ (a : α) (vs : List V) (Q : VK), Reps H vs (args a) → pre a → (∀ v H', Same H H' → Rep H' v (res a) → Q v H') → t { nx := fun _ H' => Q .non H', rt := Q } (start N vs) H) : Df P w K mg base (k + 1) x ps (spP args pre res) := by
  refine df_ok D S hb hb2 (fun vs H Q E h => spP_len len h) fun f cdv A outer s H vs Q E hr h => ?_
  obtain ⟨t, h1, h2⟩ := hbody f cdv A outer s H E hr
  obtain ⟨a, rs, hp, q⟩ := h
  exact ⟨t, h1, h2 a vs Q rs hp q⟩
end
theorem Reps.c1 {H : Hp} {vs : List V} {a : PyData} (r : Reps H vs [a]) : ∃ v, vs = [v] ∧ Rep H v a := by
  cases r with
  | cons h t => cases t; exact ⟨_, rfl, h⟩
theorem Reps.c2 {H : Hp} {vs : List V} {a b : PyData} (r : Reps H vs [a, b]) : ∃ v w, vs = [v, w] ∧ Rep H v a ∧ Rep H w b := by
  cases r with
  | cons h t => obtain ⟨w, rfl, h2⟩ := t.c1; exact ⟨_, w, rfl, h, h2⟩
theorem Reps.c3 {H : Hp} {vs : List V} {a b c : PyData} (r : Reps H vs [a, b, c]) : ∃ v w x, vs = [v, w, x] ∧ Rep H v a ∧ Rep H w b ∧ Rep H x c := by
  cases r with
  | cons h t => obtain ⟨w, x, rfl, h2⟩ := t.c2; exact ⟨_, w, x, rfl, h, h2⟩
theorem Reps.c4 {H : Hp} {vs : List V} {a b c d : PyData} (r : Reps H vs [a, b, c, d]) : ∃ v w x y, vs = [v, w, x, y] ∧ Rep H v a ∧ Rep H w b ∧ Rep H x c ∧ Rep H y d := by
  cases r with
  | cons h t => obtain ⟨w, x, y, rfl, h2⟩ := t.c3; exact ⟨_, w, x, y, rfl, h, h2⟩
theorem Reps.c5 {H : Hp} {vs : List V} {a b c d e : PyData} (r : Reps H vs [a, b, c, d, e]) : ∃ v w x y z, vs = [v, w, x, y, z] ∧ Rep H v a ∧ Rep H w b ∧ Rep H x c ∧ Rep H y d ∧ Rep H z e := by
  cases r with
  | cons h t => obtain ⟨w, x, y, z, rfl, h2⟩ := t.c4; exact ⟨_, w, x, y, z, rfl, h, h2⟩
end K52
end
section
set_option Elab.async false
set_option linter.all false
set_option maxRecDepth 100000
/-! whole numbers, indexes, rising tuples. -/
namespace K52
open PySem PySem.Spec PyProof.Rows L2
variable {P : Program} {w : World} {K : PySem.W.Frag} {mg : Str → Option Value} {base : Heap}
/-! is_integer .. is_index -/
def isInteger (d : PyData) : Bool := isInt d && !isBool d
def isNumber : PyData → Bool
  | .int i => decide (0 ≤ i)
  | _ => false
def isIndex (n : Int) : PyData → Bool
  | .int i => decide (0 ≤ i) && decide (i < n)
  | _ => false
theorem isInteger_int : ∀ {d : PyData}, isInteger d = true → ∃ i, d = .int i
  | .int i, _ => ⟨i, rfl⟩
def spIsInteger : Sp := spP (α := PyData) (fun d => [d]) (fun _ => True) (fun d => .bool (isInteger d))
theorem scIsInteger : FnScope ["value"] ["value"] (defScope sIsInteger) := ⟨rfl, rfl, rfl, by decide +kernel, rfl, by decide +kernel, by decide +kernel⟩
theorem df_isInteger (F : Bl mg) (D : DefAt K mg "is_integer" sIsInteger) : Df P w K mg base 1 "is_integer" ["value"] spIsInteger := by
  have nd := scIsInteger.nd
  refine df_pure D scIsInteger (fun _ _ _ _ _ _ us hl => match us, hl with | [_], _ => rfl) (fun _ _ _ _ _ _ us hl => match us, hl with | [_], _ => rfl) (fun _ => rfl) fun f cdv A outer s H E hr => ⟨_, PSs.nox (pss_one (ps_ret (pe_and (pe_callB call_isi (by rfl) F.isinstance boot_isinstance (pa_cons (pv 0) (pa_cons (pe_bltn (v := .ty "int") (by rfl) F.int boot_int rfl) pa_nil))) (pe_one (pe_not (pe_callB call_isi (by rfl) F.isinstance boot_isinstance (pa_cons (pv 0) (pa_cons (pe_bltn (v := .ty "bool") (by rfl) F.bool boot_bool rfl) pa_nil)))))))), ?_⟩
  intro d vs Q rs _ q
  obtain ⟨v, rfl, r⟩ := rs.c1
  exact s_ret (ed_andV (ed_isi (ed_var rfl r) (kit_int d)) fun _ => ed_notV (ed_isi (ed_var rfl r) (kit_bool d))) q
def spIsNumber : Sp := spP (α := PyData) (fun d => [d]) (fun _ => True) (fun d => .bool (isNumber d))
theorem scIsNumber : FnScope ["value"] ["value"] (defScope sIsNumber) := ⟨rfl, rfl, rfl, by decide +kernel, rfl, by decide +kernel, by decide +kernel⟩
theorem df_isNumber (F : Bl mg) (D : DefAt K mg "is_number" sIsNumber) (G_is_integer : Df P w K mg base 1 "is_integer" ["value"] spIsInteger) : Df P w K mg base 2 "is_number" ["value"] spIsNumber := by
  have nd := scIsNumber.nd
  refine df_pure D scIsNumber (fun _ _ _ _ _ _ us hl => match us, hl with | [_], _ => rfl) (fun _ _ _ _ _ _ us hl => match us, hl with | [_], _ => rfl) (fun _ => rfl) fun f cdv A outer s H E hr_is_integer => ⟨_, PSs.nox (pss_one (ps_ret (pe_and (pe_df G_is_integer hr_is_integer (by rfl) (pa_cons (pv 0) pa_nil)) (pe_one (pe_cmpR op_ge (pv 0) pe_int (nomark _)))))), ?_⟩
  intro d vs Q rs _ q
  obtain ⟨v, rfl, r⟩ := rs.c1
  have h1 : ED (tCall spIsInteger [] E0 (tCons (tVar 0) tNil)) (start ["value"] [v]) H (.bool (isInteger d)) := ed_call d (ea_cons (ed_var rfl r) ea_nil) True.intro
  cases hd : isInteger d with
  | true =>
    obtain ⟨i, rfl⟩ := isInteger_int hd
    exact s_ret (ed_andV h1 fun _ => ed_op (ed_var rfl r) ed_int rd_ge) q
  | false =>
    refine s_ret (ed_is (ed_andV (b := true) h1 fun e => by rw [hd] at e; cases e) ?_) q
    rw [hd]
    cases d <;> first | rfl | cases hd
def spIsIndex : Sp := spP (α := PyData × Int) (fun x => [x.1, .int x.2]) (fun _ => True) (fun x => .bool (isIndex x.2 x.1))
theorem scIsIndex : FnScope ["value", "many"] ["value", "many"] (defScope sIsIndex) := ⟨rfl, rfl, rfl, by decide +kernel, rfl, by decide +kernel, by decide +kernel⟩
theorem isNumber_int : ∀ {d : PyData}, isNumber d = true → ∃ i, d = .int i
  | .int i, _ => ⟨i, rfl⟩
theorem df_isIndex (F : Bl mg) (D : DefAt K mg "is_index" sIsIndex) (G_is_number : Df P w K mg base 2 "is_number" ["value"] spIsNumber) : Df P w K mg base 3 "is_index" ["value", "many"] spIsIndex := by
  have nd := scIsIndex.nd
  refine df_pure D scIsIndex (fun _ _ _ _ _ _ us hl => match us, hl with | [_, _], _ => rfl) (fun _ _ _ _ _ _ us hl => match us, hl with | [_, _], _ => rfl) (fun _ => rfl) fun f cdv A outer s H E hr_is_number => ⟨_, PSs.nox (pss_one (ps_ret (pe_and (pe_df G_is_number hr_is_number (by rfl) (pa_cons (pv 0) pa_nil)) (pe_one (pe_cmpR op_lt (pv 0) (pv 1) (nomark _)))))), ?_⟩
  intro x vs Q rs _ q
  obtain ⟨d, n⟩ := x
  obtain ⟨v, u, rfl, r, r2⟩ := rs.c2
  have h1 : ED (tCall spIsNumber [] E0 (tCons (tVar 0) tNil)) (start ["value", "many"] [v, u]) H (.bool (isNumber d)) := ed_call d (ea_cons (ed_var rfl r) ea_nil) True.intro
  cases hd : isNumber d with
  | true =>
    obtain ⟨i, rfl⟩ := isNumber_int hd
    exact s_ret (ed_andV h1 fun _ => ed_op (ed_var rfl r) (ed_var rfl r2) rd_lt) q
  | false =>
    refine s_ret (ed_is (ed_andV (b := true) h1 fun e => by rw [hd] at e; cases e) ?_) q
    rw [hd]
    cases d <;> first | rfl | skip
    simp only [isNumber] at hd
    show PyData.bool (false && true) = .bool (_ && _)
    rw [hd] <;> rfl
end K52
end
section
set_option Elab.async false
set_option linter.all false
set_option maxRecDepth 100000
/-! all, any, sum of comprehensions; lots, fronts read off data. -/
namespace K52
open PySem PySem.Spec PyProof.Rows L2
theorem filter_yes {α : Type} (l : List α) : (l.filter fun _ => true) = l := List.filter_eq_self.mpr fun _ _ => rfl
section
variable {K : PySem.W.Frag} {σ : L2.St} {H : Hp} {te : TE} {tt : TT} {wi : TI} {g : TG} {vs : List Nat}
theorem ed_all {α : Type} {items : List α} {enc : α → PyData} (b : α → Bool) (hi : EI Same wi σ H (items.map enc)) (hz : items.length ≤ 50000)
    (hb : ∀ (i : Nat) (a : α), items[i]? = some a → ∀ v H1, Same H H1 → Rep H1 v (enc a) → ∃ σ2, Bd g v (wipe σ vs) H1 σ2 ∧ wipe σ2 vs = wipe σ vs ∧ ED te σ2 H1 (.bool (b a))) :
    ED (tCB (rAll K) (tCons (tLc wi g tYes te vs) tNil)) σ H (.bool (items.all b)) := by
  have h := ed_lc (te := te) (tt := tYes) (vs := vs) (fun _ => true) (fun a => PyData.bool (b a)) (fun _ => rfl) hi hz fun i a ha v H1 s r => by
    obtain ⟨σ2, h1, h2, h3⟩ := hb i a ha v H1 s r
    exact ⟨σ2, h1, h2, eb_yes, fun _ => h3⟩
  have e : (items.filter fun _ => true).map (fun a => PyData.bool (b a)) = (items.map b).map .bool := by rw [filter_yes, List.map_map]; rfl
  rw [e] at h
  have e2 : items.all b = (items.map b).all id := by rw [List.all_map]; rfl
  rw [e2]
  exact ed_cb (ea_cons h ea_nil) cd_all
theorem ed_any {α : Type} {items : List α} {enc : α → PyData} (b : α → Bool) (hi : EI Same wi σ H (items.map enc)) (hz : items.length ≤ 50000)
    (hb : ∀ (i : Nat) (a : α), items[i]? = some a → ∀ v H1, Same H H1 → Rep H1 v (enc a) → ∃ σ2, Bd g v (wipe σ vs) H1 σ2 ∧ wipe σ2 vs = wipe σ vs ∧ ED te σ2 H1 (.bool (b a))) :
    ED (tCB (rAny K) (tCons (tLc wi g tYes te vs) tNil)) σ H (.bool (items.any b)) := by
  have h := ed_lc (te := te) (tt := tYes) (vs := vs) (fun _ => true) (fun a => PyData.bool (b a)) (fun _ => rfl) hi hz fun i a ha v H1 s r => by
    obtain ⟨σ2, h1, h2, h3⟩ := hb i a ha v H1 s r
    exact ⟨σ2, h1, h2, eb_yes, fun _ => h3⟩
  have e : (items.filter fun _ => true).map (fun a => PyData.bool (b a)) = (items.map b).map .bool := by rw [filter_yes, List.map_map]; rfl
  rw [e] at h
  have e2 : items.any b = (items.map b).any id := by rw [List.any_map]; rfl
  rw [e2]
  exact ed_cb (ea_cons h ea_nil) cd_any
/-- [e for .. if t] of ints -/
theorem ed_lcI {α : Type} {items : List α} {enc : α → PyData} (f : α → Bool) (e : α → Int) (hi : EI Same wi σ H (items.map enc)) (hz : items.length ≤ 50000)
    (hb : ∀ (i : Nat) (a : α), items[i]? = some a → ∀ v H1, Same H H1 → Rep H1 v (enc a) → ∃ σ2, Bd g v (wipe σ vs) H1 σ2 ∧ wipe σ2 vs = wipe σ vs ∧ EB tt σ2 H1 (f a) ∧ (f a = true → ED te σ2 H1 (.int (e a)))) :
    ED (tLc wi g tt te vs) σ H (.list (((items.filter f).map e).map .int)) := by
  have h := ed_lc (te := te) (tt := tt) (vs := vs) f (fun a => PyData.int (e a)) (fun _ => rfl) hi hz hb
  rw [List.map_map]
  exact h
theorem ed_lcI1 {α : Type} {items : List α} {enc : α → PyData} (e : α → Int) (hi : EI Same wi σ H (items.map enc)) (hz : items.length ≤ 50000)
    (hb : ∀ (i : Nat) (a : α), items[i]? = some a → ∀ v H1, Same H H1 → Rep H1 v (enc a) → ∃ σ2, Bd g v (wipe σ vs) H1 σ2 ∧ wipe σ2 vs = wipe σ vs ∧ ED te σ2 H1 (.int (e a))) :
    ED (tLc wi g tYes te vs) σ H (.list ((items.map e).map .int)) := by
  have h := ed_lcI (te := te) (tt := tYes) (vs := vs) (fun _ => true) e hi hz fun i a ha v H1 s r => by
    obtain ⟨σ2, h1, h2, h3⟩ := hb i a ha v H1 s r
    exact ⟨σ2, h1, h2, eb_yes, fun _ => h3⟩
  rw [filter_yes] at h
  exact h
end
/-! neighbours -/
theorem adj_iff {α : Type} {r : α → α → Bool} (tr : ∀ a b c, r a b = true → r b c = true → r a c = true) {d : α} : ∀ l : List α, ((List.range (l.length - 1)).all fun k => r (l.getD k d) (l.getD (k + 1) d)) = true ↔ l.Pairwise fun a b => r a b = true
  | [] => by simp
  | [x] => by simp
  | x :: y :: l => by
    have ih := adj_iff tr (d := d) (y :: l)
    have e : (x :: y :: l).length - 1 = ((y :: l).length - 1) + 1 := by simp
    rw [e, List.range_succ_eq_map, List.all_cons, List.all_map, Bool.and_eq_true, List.pairwise_cons]
    have e2 : ((List.range ((y :: l).length - 1)).all ((fun k => r ((x :: y :: l).getD k d) ((x :: y :: l).getD (k + 1) d)) ∘ Nat.succ)) = ((List.range ((y :: l).length - 1)).all fun k => r ((y :: l).getD k d) ((y :: l).getD (k + 1) d)) := rfl
    rw [e2, ih]
    constructor
    · rintro ⟨h1, h2⟩
      refine ⟨fun z hz => ?_, h2⟩
      rcases List.mem_cons.mp hz with rfl | hz
      · exact h1
      · exact tr _ _ _ h1 ((List.pairwise_cons.mp h2).1 z hz)
    · rintro ⟨h1, h2⟩
      exact ⟨h1 y List.mem_cons_self, h2⟩
theorem all_rg {n : Nat} {f : Int → Bool} : (rg n).all f = (List.range n).all fun k => f (k : Int) := by
  unfold rg
  rw [List.all_map]
  rfl
/-! read off data -/
def intOf : PyData → Int
  | .int i => i
  | _ => 0
def itemsOf : PyData → List PyData
  | .tuple ds => ds
  | _ => []
def lotOf (d : PyData) : Lot := (itemsOf d).map intOf
def frontOf (d : PyData) : List Lot := (itemsOf d).map lotOf
def frontsIn (d : PyData) : List (List Lot) := (itemsOf d).map frontOf
def isRising (n : Int) (d : PyData) : Bool := isTup d && (itemsOf d).all (isIndex n) && decide (Asc (lotOf d))
def isFront (n : Int) (d : PyData) : Bool := isTup d && !(itemsOf d).isEmpty && (itemsOf d).all (isRising n) && decide (LAsc (frontOf d))
def areFronts (cal : Cal) (js : Jobs) (d : PyData) : Bool := isTup d && decide (1 ≤ (itemsOf d).length ∧ (itemsOf d).length ≤ cal.length + 1) && (itemsOf d).all (isFront js.length) && leadsAll cal js (frontsIn d)
def isDelay (cal : Cal) (js : Jobs) (days : Int) (d : PyData) : Bool := areFronts cal js d && decide (((itemsOf d).length : Int) = days + 1) && !(lastF (frontsIn d)).contains (rg js.length)
theorem tup_of {d : PyData} (h : isTup d = true) : d = .tuple (itemsOf d) := by cases d <;> first | rfl | cases h
theorem ints_of_idx {n : Int} : ∀ {ds : List PyData}, ds.all (isIndex n) = true → ds = (ds.map intOf).map .int ∧ ∀ i ∈ ds.map intOf, 0 ≤ i ∧ i < n
  | [], _ => ⟨rfl, fun i hi => absurd hi (by simp)⟩
  | d :: ds, h => by
    rw [List.all_cons, Bool.and_eq_true] at h
    obtain ⟨h1, h2⟩ := ints_of_idx h.2
    cases d with
    | int i =>
      have hi : 0 ≤ i ∧ i < n := by
        have := h.1
        simp only [isIndex, Bool.and_eq_true, decide_eq_true_eq] at this
        exact this
      refine ⟨by rw [List.map_cons, List.map_cons, ← h1]; rfl, fun j hj => ?_⟩
      rcases List.mem_cons.mp hj with e | hj
      · rw [e]; exact hi
      · exact h2 j hj
    | _ => exact absurd h.1 (by simp [isIndex])
theorem rising_lot {n : Int} {d : PyData} (h : isRising n d = true) : d = lotD (lotOf d) ∧ Asc (lotOf d) ∧ ∀ i ∈ lotOf d, 0 ≤ i ∧ i < n := by
  unfold isRising at h
  rw [Bool.and_eq_true, Bool.and_eq_true, decide_eq_true_eq] at h
  obtain ⟨h1, h2⟩ := ints_of_idx h.1.2
  refine ⟨?_, h.2, h2⟩
  have := tup_of h.1.1
  rw [h1] at this
  exact this
theorem map_id_of {f : PyData → PyData} : ∀ {ds : List PyData}, (∀ d ∈ ds, d = f d) → ds = ds.map f
  | [], _ => rfl
  | d :: ds, h => by rw [List.map_cons, ← h d List.mem_cons_self, ← map_id_of fun e he => h e (List.mem_cons_of_mem _ he)]
theorem front_of {n : Int} {ds : List PyData} (h : ds.all (isRising n) = true) : PyData.tuple ds = frontD (frontOf (.tuple ds)) ∧ ∀ l ∈ frontOf (.tuple ds), Asc l ∧ ∀ i ∈ l, 0 ≤ i ∧ i < n := by
  rw [List.all_eq_true] at h
  refine ⟨?_, fun l hl => ?_⟩
  · unfold frontD frontOf
    rw [List.map_map]
    congr 1
    exact map_id_of fun d hd => (rising_lot (h d hd)).1
  · obtain ⟨d, hd, rfl⟩ := List.mem_map.mp hl
    exact (rising_lot (h d hd)).2
theorem front_lots {n : Nat} {d : PyData} (h : isFront n d = true) : d = frontD (frontOf d) ∧ frontOf d ≠ [] ∧ Lots n (frontOf d) := by
  unfold isFront at h
  rw [Bool.and_eq_true, Bool.and_eq_true, Bool.and_eq_true, decide_eq_true_eq] at h
  obtain ⟨⟨⟨h1, h2⟩, h3⟩, h4⟩ := h
  have e := tup_of h1
  have f := front_of h3
  rw [← e] at f
  refine ⟨f.1, fun z => ?_, h4, fun l hl => ⟨(f.2 l hl).1, (f.2 l hl).2⟩⟩
  unfold frontOf at z
  rw [List.map_eq_nil_iff] at z
  rw [z] at h2
  cases h2
theorem fronts_of {n : Nat} {ds : List PyData} (h : ds.all (isFront n) = true) : PyData.tuple ds = frontsD (frontsIn (.tuple ds)) ∧ FrontsOk n (frontsIn (.tuple ds)) := by
  rw [List.all_eq_true] at h
  refine ⟨?_, fun l hl => ?_⟩
  · unfold frontsD frontsIn
    rw [List.map_map]
    congr 1
    exact map_id_of fun d hd => (front_lots (h d hd)).1
  · obtain ⟨d, hd, rfl⟩ := List.mem_map.mp hl
    exact (front_lots (h d hd)).2
theorem items_lot (l : Lot) : lotOf (lotD l) = l := by
  show (l.map PyData.int).map intOf = l
  rw [List.map_map]
  exact (List.map_congr_left fun _ _ => rfl).trans (List.map_id l)
theorem items_front (f : List Lot) : frontOf (frontD f) = f := by
  show (f.map lotD).map lotOf = f
  rw [List.map_map]
  exact (List.map_congr_left fun l _ => items_lot l).trans (List.map_id f)
theorem items_fronts (F : List (List Lot)) : frontsIn (frontsD F) = F := by
  show (F.map frontD).map frontOf = F
  rw [List.map_map]
  exact (List.map_congr_left fun l _ => items_front l).trans (List.map_id F)
theorem rising_of {n : Nat} {l : Lot} (h : Asc l ∧ InR n l) : isRising n (lotD l) = true := by
  unfold isRising
  rw [Bool.and_eq_true, Bool.and_eq_true, decide_eq_true_eq, items_lot]
  refine ⟨⟨rfl, ?_⟩, h.1⟩
  rw [List.all_eq_true]
  intro d hd
  obtain ⟨i, hi, rfl⟩ := List.mem_map.mp hd
  have := h.2 i hi
  simp only [isIndex, Bool.and_eq_true, decide_eq_true_eq]
  exact this
theorem isFront_of {n : Nat} {f : List Lot} (h : f ≠ [] ∧ Lots n f) : isFront n (frontD f) = true := by
  unfold isFront
  rw [Bool.and_eq_true, Bool.and_eq_true, Bool.and_eq_true, decide_eq_true_eq, items_front]
  refine ⟨⟨⟨rfl, ?_⟩, ?_⟩, h.2.1⟩
  · cases f with
    | nil => exact absurd rfl h.1
    | cons a r => rfl
  · rw [List.all_eq_true]
    intro d hd
    obtain ⟨l, hl, rfl⟩ := List.mem_map.mp hd
    exact rising_of (h.2.2 l hl)
/-- is_delay_paper of fronts -/
theorem isDelay_fronts {cal : Cal} {js : Jobs} {days : Int} {F : List (List Lot)} (h : FrontsOk js.length F) : isDelay cal js days (frontsD F) = delayT cal js days F := by
  have hl : (itemsOf (frontsD F)).length = F.length := by show (F.map frontD).length = _; rw [List.length_map]
  have ha : (itemsOf (frontsD F)).all (isFront js.length) = true := by
    rw [List.all_eq_true]
    intro d hd
    obtain ⟨f, hf, rfl⟩ := List.mem_map.mp hd
    exact isFront_of (h f hf)
  unfold isDelay areFronts delayT
  rw [ha, hl, items_fronts]
  simp only [Bool.decide_and, Bool.and_true]
  rfl
end K52
end
section
set_option Elab.async false
set_option linter.all false
set_option maxRecDepth 100000
/-! The rules whose readings name the fragment, the fragment being told. -/
namespace K52
open PySem PySem.Spec PyProof.Rows L2
section
variable {X : Cx} {e : Expr} {es : List Expr} {te : TE} {t : TA} {tl : TE} {l tg : Expr} {pos p : Pos}
theorem ixT (K : PySem.W.Frag) (h : X.K = K := by rfl) : IxR X (rIxT K) := h ▸ ix_tup
theorem ixL (K : PySem.W.Frag) (h : X.K = K := by rfl) : IxR X (rIxL K) := h ▸ ix_list
theorem opEq (K : PySem.W.Frag) (hu : X.A.units + 64 < cLine) (h : X.K = K := by rfl) : OpR X (compareOp .Eq) (rEqD K) := h ▸ op_eqD hu
theorem opNe (K : PySem.W.Frag) (hu : X.A.units + 64 < cLine) (h : X.K = K := by rfl) : OpR X (compareOp .NotEq) (rNeD K) := h ▸ op_neD hu
theorem opIn (K : PySem.W.Frag) (hu : X.A.units + 65 < cLine) (h : X.K = K := by rfl) : OpR X (compareOp .In) (rInA K false) := h ▸ op_inA hu
theorem opNi (K : PySem.W.Frag) (hu : X.A.units + 65 < cLine) (h : X.K = K := by rfl) : OpR X (compareOp .NotIn) (rInA K true) := h ▸ op_notInA hu
theorem opLtT (K : PySem.W.Frag) (hu : X.A.units < cLine) (h : X.K = K := by rfl) : OpR X (compareOp .Lt) (rLtT K) := h ▸ op_ltT hu
theorem opCatA (K : PySem.W.Frag) (h : X.K = K := by rfl) : OpR X (binaryOp .Add) (rCatA K) := h ▸ op_catA
theorem clLen (K : PySem.W.Frag) (h : X.K = K := by rfl) : CallR X (.builtin "len") (rLenQ K) := h ▸ call_len_seq
theorem clList (K : PySem.W.Frag) (h : X.K = K := by rfl) : CallR X (.type "list") (rListQ K) := h ▸ call_list_of
theorem clTuple (K : PySem.W.Frag) (h : X.K = K := by rfl) : CallR X (.type "tuple") (rTupleQ K) := h ▸ call_tuple_of
theorem clSum (K : PySem.W.Frag) (hc : X.calm = true) (h : X.K = K := by rfl) : CallR X (.builtin "sum") (rSum K) := h ▸ cr_sum hc
theorem clAll (K : PySem.W.Frag) (hc : X.calm = true) (h : X.K = K := by rfl) : CallR X (.builtin "all") (rAll K) := h ▸ cr_all hc
theorem clAny (K : PySem.W.Frag) (hc : X.calm = true) (h : X.K = K := by rfl) : CallR X (.builtin "any") (rAny K) := h ▸ cr_any hc
theorem clMin (K : PySem.W.Frag) (hc : X.calm = true) (h : X.K = K := by rfl) : CallR X (.builtin "min") (rMin K) := h ▸ cr_min hc
theorem clIsi (K : PySem.W.Frag) (h : X.K = K := by rfl) : CallR X (.builtin "isinstance") (rIsi K) := h ▸ call_isi
theorem clRepr (K : PySem.W.Frag) (hG : X.A.guards = some []) (hu : X.A.units + 64 < cLine) (h : X.K = K := by rfl) : CallR X (.builtin "repr") (rRepr K) := h ▸ call_reprD hG hu
theorem clSetLI (K : PySem.W.Frag) (w : World) (hc : X.calm = true) (h : X.K = K := by rfl) (h2 : X.w = w := by rfl) : CallR X (.type "set") (rSetLI K w) := h ▸ h2 ▸ cr_setLI hc
theorem clSetTI (K : PySem.W.Frag) (w : World) (hc : X.calm = true) (h : X.K = K := by rfl) (h2 : X.w = w := by rfl) : CallR X (.type "set") (rSetTI K w) := h ▸ h2 ▸ cr_setTI hc
theorem clSetTT (K : PySem.W.Frag) (P : Program) (w : World) (hc : X.calm = true) (hu : X.A.units + 64 < cLine) (h : X.K = K := by rfl) (h2 : X.w = w := by rfl) (h3 : X.prog = P := by rfl) : CallR X (.type "set") (rSetTT K P w) := h ▸ h2 ▸ h3 ▸ cr_setTT hc hu
theorem clSortI (w : World) (hc : X.calm = true) (h2 : X.w = w := by rfl) : CallR X (.builtin "sorted") (rSortedSet w) := h2 ▸ cr_sortedSet hc
theorem clSortT (K : PySem.W.Frag) (P : Program) (w : World) (hc : X.calm = true) (hu : X.A.units + 64 < cLine) (h : X.K = K := by rfl) (h2 : X.w = w := by rfl) (h3 : X.prog = P := by rfl) : CallR X (.builtin "sorted") (rSortedTO K P w) := h ▸ h2 ▸ h3 ▸ cr_sortedTO hc hu
theorem slL (K : PySem.W.Frag) (h : X.K = K := by rfl) : SlR X (rSlL K) := h ▸ sl_list
theorem slT (K : PySem.W.Frag) (h : X.K = K := by rfl) : SlR X (rSlA K) := h ▸ sl_tupA
theorem piL (K : PySem.W.Frag) (hl : PE X l tl) (h : X.K = K := by rfl) : PI X tg l (iList K tl) := h ▸ pi_list hl
theorem piT (K : PySem.W.Frag) (hl : PE X l tl) (h : X.K = K := by rfl) : PI X tg l (iTup K tl) := h ▸ pi_tup hl
theorem piE (K : PySem.W.Frag) {ta : TA} {tpos : Pos} {elts : List Expr} {kk : Nat} (hg : Gl X "enumerate") (hm : X.mg "enumerate" = none) (ha : PA X [e] ta) (hs : starEach [e] X.env = [(false, eval e X.env)] := by rfl) (h : X.K = K := by rfl) :
    PI X (.Tuple elts kk tpos) (.Call (.Name "enumerate" p) [e] [] pos) (iEnT K ta) := h ▸ pi_enT hg hm ha hs
theorem paS (K : PySem.W.Frag) (he : PE X e te) (hr : PA X es t) (h : X.K = K := by rfl) (hs : starEach (.Starred e p :: es) X.env = (true, eval e X.env) :: starEach es X.env := by rfl) : PA X (.Starred e p :: es) (StX.tStar K te t) := h ▸ StX.pa_star he hr hs
theorem pgT (K : PySem.W.Frag) {k n : Nat} {t : TGs} (hc : X.calm = true) (hp : PGs X es t) (h : X.K = K := by rfl)
    (hn : (assignEach es X.env).length = n := by rfl) (hst : (assignEach es X.env).findIdx? (·.1) = none := by rfl) : PG X (.Tuple es k pos) (gTup K n t) := h ▸ pg_tup hc hp hn hst
theorem revL (K : PySem.W.Frag) {k : Nat} {p1 p2 p3 pos : Pos} (he : PE X e te) (h : X.K = K := by rfl) : PE X (.Subscript e (.Slice none none (some (.UnaryOp .USub (.Constant (.int 1) k p1) p2)) p3) pos) (tRevL K te) := h ▸ pe_revL he
end
end K52
end
section
set_option Elab.async false
set_option linter.all false
set_option maxRecDepth 100000
/-! is_rising, is_front, together, all_jobs, is_within. -/
namespace K52
open PySem PySem.Spec PyProof.Rows L2
variable {P : Program} {w : World} {K : PySem.W.Frag} {mg : Str → Option Value} {base : Heap}
def Sm : Nat → PyData → Prop
  | 0, _ => True
  | k + 1, d => (itemsOf d).length ≤ 300 ∧ ∀ e ∈ itemsOf d, Sm k e
theorem getD_adj {l : List Int} {k : Int} (h : k ∈ rg ((l.length : Int) - 1).toNat) : (0 ≤ k ∧ k < l.length) ∧ (0 ≤ k + 1 ∧ k + 1 < l.length) := by
  have := mem_rg.mp h
  omega
theorem asc_adj (l : List Int) : ((rg ((l.length : Int) - 1).toNat).all fun k => decide (l.getD k.toNat 0 < l.getD (k + 1).toNat 0)) = decide (Asc l) := by
  have e : ((l.length : Int) - 1).toNat = l.length - 1 := by omega
  rw [e, all_rg, Bool.eq_iff_iff, decide_eq_true_eq]
  have := adj_iff (r := fun a b : Int => decide (a < b)) (d := 0) (fun a b c h1 h2 => by simp at *; omega) l
  have e2 : ((List.range (l.length - 1)).all fun k => decide (l.getD (k : Int).toNat 0 < l.getD ((k : Int) + 1).toNat 0)) = ((List.range (l.length - 1)).all fun k => decide (l.getD k 0 < l.getD (k + 1) 0)) := rfl
  rw [e2, this]
  unfold Asc
  simp
theorem lasc_adj (l : List Lot) : ((rg ((l.length : Int) - 1).toNat).all fun k => HT.lexLt (l.getD k.toNat []) (l.getD (k + 1).toNat [])) = decide (LAsc l) := by
  have e : ((l.length : Int) - 1).toNat = l.length - 1 := by omega
  rw [e, all_rg, Bool.eq_iff_iff, decide_eq_true_eq]
  have := adj_iff (r := fun a b : Lot => HT.lexLt a b) (d := []) (fun a b c h1 h2 => by rw [lx_eq] at *; exact lx_trans a b c h1 h2) l
  have e2 : ((List.range (l.length - 1)).all fun k => HT.lexLt (l.getD (k : Int).toNat []) (l.getD ((k : Int) + 1).toNat [])) = ((List.range (l.length - 1)).all fun k => HT.lexLt (l.getD k []) (l.getD (k + 1) [])) := rfl
  rw [e2, this]
  unfold LAsc
  simp only [lx_eq]
theorem mapid (ds : List PyData) : ds.map id = ds := List.map_id ds
theorem mem_at {α : Type} {l : List α} {i : Nat} {a : α} (h : l[i]? = some a) : a ∈ l := List.mem_of_getElem? h
def spIsRising : Sp := spP (α := PyData × Int) (fun x => [x.1, .int x.2]) (fun x => Sm 1 x.1) (fun x => .bool (isRising x.2 x.1))
theorem scIsRising : FnScope ["value", "many", "one", "at"] ["value", "many"] (defScope sIsRising) := ⟨rfl, rfl, rfl, by decide +kernel, rfl, by decide +kernel, by decide +kernel⟩
theorem df_isRising (F : Bl mg) (D : DefAt K mg "is_rising" sIsRising) (G_is_index : Df P w K mg base 3 "is_index" ["value", "many"] spIsIndex) : Df P w K mg base 4 "is_rising" ["value", "many"] spIsRising := by
  have nd := scIsRising.nd
  refine df_pure D scIsRising (fun _ _ _ _ _ _ us hl => match us, hl with | [_, _], _ => rfl) (fun _ _ _ _ _ _ us hl => match us, hl with | [_, _], _ => rfl) (fun _ => rfl) fun f cdv A outer s H E hr_is_index => ⟨_, PSs.nox (pss_cons (ps_if (PW.pt (pw_or (pt_not (pt_val (pe_callB (clIsi K) (by rfl) F.isinstance boot_isinstance (pa_cons (pv 0) (pa_cons (pe_bltn (v := .ty "tuple") (by rfl) F.tuple boot_tuple rfl) pa_nil))))) (pw_or1 (pt_not (pt_val (pe_callB (clAll K rfl) (by rfl) F.all boot_all (pa_cons (pe_lc (own := [("one", 2)]) (g := gName 2) (tt := tYes) rfl nd (piT K (pv 0)) (blkOk_by (by kernel_rfl)) (fun _ _ _ _ _ => (pg_name (i := 2) nd rfl (by first | exact Or.inl rfl | exact Or.inr rfl))) (fun _ _ _ _ _ => pts_nil) (fun _ _ _ _ _ => (pe_df G_is_index hr_is_index (by rfl) (pa_cons (pv 2) (pa_cons (pv 1) pa_nil))))) pa_nil))))))) (pss_one (ps_ret pe_bl)) pss_nil)
  (pss_one (ps_ret (pe_callB (clAll K rfl) (by rfl) F.all boot_all (pa_cons (pe_lc (own := [("at", 3)]) (g := gName 3) (tt := tYes) rfl nd (pi_range1 (by rfl) F.range (pa_cons (pe_op op_sub (pe_callB (clLen K) (by rfl) F.len boot_len (pa_cons (pv 0) pa_nil)) pe_int) pa_nil)) (blkOk_by (by kernel_rfl)) (fun _ _ _ _ _ => (pg_name (i := 3) nd rfl (by first | exact Or.inl rfl | exact Or.inr rfl))) (fun _ _ _ _ _ => pts_nil) (fun _ _ _ _ _ => (pe_cmpR op_lt (pe_ix (ixT K) (pv 0) (pv 3) (fun _ _ => rfl)) (pe_ix (ixT K) (pv 0) (pe_op op_add (pv 3) pe_int) (fun _ _ => rfl)) (nomark _)))) pa_nil))))), ?_⟩
  intro x vs Q rs hp q
  obtain ⟨d, n⟩ := x
  obtain ⟨v, u, rfl, r, r2⟩ := rs.c2
  cases ht : isTup d with
  | false =>
    refine q_when (b := true) (eb_is (eb_or (b := true) (eb_not (eb_B (ed_isi (ed_var rfl r) (kit_tup d)))) fun e => by rw [ht] at e; cases e) (by rw [ht]; rfl)) (fun _ H1 s1 => s_ret ed_bl fun v H2 s2 rv => q v H2 (s1.trans s2) ?_) fun e => by cases e
    have e : isRising n d = false := by unfold isRising; rw [ht]; rfl
    show Rep H2 v (.bool (isRising n d))
    rw [e]; exact rv
  | true =>
    have hd := tup_of ht
    generalize hds : itemsOf d = ds at hd
    have hz : ds.length ≤ 300 := by rw [← hds]; exact hp.1
    subst hd
    have hall := ed_all (K := K) (te := tCall spIsIndex [] E0 (tCons (tVar 2) (tCons (tVar 1) tNil))) (g := gName 2) (vs := [2]) (wi := iTup K (tVar 0)) (σ := start ["value", "many", "one", "at"] [v, u]) (H := H) (enc := id) (isIndex n) (by rw [mapid]; exact ei_tupS (ed_var rfl r)) (Nat.le_trans hz (by decide)) fun i a ha v1 H1 s1 r1 =>
      ⟨_, bd_name, rfl, ed_call (a, n) (ea_cons (ed_var rfl r1) (ea_cons (ed_var rfl (r2.mono s1)) ea_nil)) True.intro⟩
    refine q_when (b := !ds.all (isIndex n)) (eb_is (eb_or (eb_not (eb_B (ed_isi (ed_var rfl r) (kit_tup _)))) fun e => eb_not (eb_B hall)) rfl) (fun e H1 s1 => s_ret ed_bl fun v H2 s2 rv => q v H2 (s1.trans s2) ?_) fun e H1 s1 => ?_
    · have e2 : isRising n (.tuple ds) = false := by
        unfold isRising
        have : (itemsOf (.tuple ds)).all (isIndex n) = false := by rw [Bool.not_eq_true'] at e; exact e
        rw [this, Bool.and_false, Bool.false_and]
      show Rep H2 v (.bool (isRising n (.tuple ds)))
      rw [e2]; exact rv
    · have ha : ds.all (isIndex n) = true := by rw [Bool.not_eq_false'] at e; exact e
      obtain ⟨h1, h2⟩ := ints_of_idx ha
      generalize hl : ds.map intOf = l at h1 h2
      subst h1
      rw [List.length_map] at hz
      have r' := r.mono s1
      have hall2 := ed_all (K := K) (g := gName 3) (vs := [3]) (σ := start ["value", "many", "one", "at"] [v, u]) (H := H1) (te := tOp (rI0 fun i j => .bl (decide (i < j))) (tOp (rIxT K) (tVar 0) (tVar 3)) (tOp (rIxT K) (tVar 0) (tOp (rI0 fun i j => .int (i + j)) (tVar 3) (tC (.int 1))))) (items := rg ((l.length : Int) - 1).toNat) (enc := .int) (fun k => decide (l.getD k.toNat 0 < l.getD (k + 1).toNat 0))
        (wi := iRng1 (tCons (tOp (rI0 fun i j => .int (i - j)) (tCB (rLenQ K) (tCons (tVar 0) tNil)) (tC (.int 1))) tNil)) ?_ (by rw [rg_len]; omega) fun i a ha v1 H2 s2 r1 => ?_
      · refine s_ret hall2 fun v H2 s2 rv => q v H2 (s1.trans s2) ?_
        show Rep H2 v (.bool (isRising n (.tuple (l.map .int))))
        have e2 : isRising n (.tuple (l.map .int)) = decide (Asc l) := by
          unfold isRising
          have e3 : lotOf (.tuple (l.map .int)) = l := items_lot l
          have e4 : (itemsOf (.tuple (l.map .int))).all (isIndex n) = true := ha
          rw [e3, e4]; rfl
        rw [e2, ← asc_adj]; exact rv
      · by_cases h0 : 0 ≤ (l.length : Int) - 1
        · have hln := cd_lenT (K := K) (ds := l.map .int)
          rw [List.length_map] at hln
          exact ei_rng (ea_cons (ed_op (ed_cb (ea_cons (ed_var rfl r') ea_nil) hln) ed_int rd_sub) ea_nil) ⟨h0, by omega⟩
        · have e : l = [] := by cases l with | nil => rfl | cons a b => exact absurd (by simp) h0
          subst e
          intro H2 s2 R k
          refine (ea_cons (ed_op (ed_cb (ea_cons (ed_var rfl r') ea_nil) cd_lenT) ed_int rd_sub) ea_nil) H2 s2 _ fun ws H3 s3 rw' => ?_
          obtain ⟨w1, rfl, rw1⟩ := rw'.c1
          cases rw1
          refine ⟨-1, rfl, by decide, by decide, k _ H3 s3 ?_⟩
          exact ⟨fun i H4 hi _ => absurd hi (by simp [rg]), fun H4 _ => by show (-1 : Int).toNat ≤ _; simp, fun i H4 x H5 hi => absurd hi (by simp [rg])⟩
      · obtain ⟨k1, k2⟩ := getD_adj (mem_at ha)
        exact ⟨_, bd_name, rfl, ed_op (ed_op (ed_var rfl (r'.mono s2)) (ed_var rfl r1) (rd_ixT (atI_map (dflt := 0) k1))) (ed_op (ed_var rfl (r'.mono s2)) (ed_op (ed_var rfl r1) ed_int rd_add) (rd_ixT (atI_map (dflt := 0) k2))) rd_lt⟩
end K52
end
section
set_option Elab.async false
set_option linter.all false
set_option maxRecDepth 100000
/-! together, all_jobs, is_within, is_front. -/
namespace K52
open PySem PySem.Spec PyProof.Rows L2
variable {P : Program} {w : World} {K : PySem.W.Frag} {mg : Str → Option Value} {base : Heap}
def spTogether : Sp := spP (α := Lot × Lot) (fun x => [lotD x.1, lotD x.2]) (fun x => x.1.length + x.2.length < 64) (fun x => lotD (together x.1 x.2))
theorem scTogether : FnScope ["lot", "other"] ["lot", "other"] (defScope sTogether) := ⟨rfl, rfl, rfl, by decide +kernel, rfl, by decide +kernel, by decide +kernel⟩
theorem df_together (F : Bl mg) (D : DefAt K mg "together" sTogether) : Df P w K mg base 1 "together" ["lot", "other"] spTogether := by
  have nd := scTogether.nd
  refine df_pure D scTogether (fun _ _ _ _ _ _ us hl => match us, hl with | [_, _], _ => rfl) (fun _ _ _ _ _ _ us hl => match us, hl with | [_, _], _ => rfl) (fun _ => rfl) fun f cdv A outer s H E hr => ⟨_, PSs.nox (pss_one (ps_ret (pe_callTy (clTuple K) (by rfl) F.tuple boot_tuple (pa_cons (pe_callB (clSortI w rfl) (by rfl) F.sorted boot_sorted (pa_cons (pe_callTy (clSetLI K w rfl) (by rfl) F.set boot_set (pa_cons (pe_lst (paS K (pv 0) (paS K (pv 1) pa_nil))) pa_nil)) pa_nil)) pa_nil)))), ?_⟩
  intro x vs Q rs hp q
  obtain ⟨a, b⟩ := x
  obtain ⟨v, u, rfl, r, r2⟩ := rs.c2
  have hl : (a.map PyData.int ++ (b.map PyData.int ++ [])).length = a.length + b.length := by simp
  refine s_ret (ed_cb (ea_cons (ed_ssLI (ns := a ++ b) (ed_is (ed_lst (ea_star (ed_var rfl r) (ea_star (ed_var rfl r2) ea_nil)) (by rw [hl]; have := hp; show a.length + b.length ≤ 100000; simp only at this; omega)) (by simp)) (by rw [List.length_append]; exact hp)) ea_nil) cd_tupleL) q
def spAllJobs : Sp := spP (α := Jobs) (fun x => [jobsD x]) (fun x => x.length ≤ 1000) (fun x => lotD (rg x.length))
theorem scAllJobs : FnScope ["jobs"] ["jobs"] (defScope sAllJobs) := ⟨rfl, rfl, rfl, by decide +kernel, rfl, by decide +kernel, by decide +kernel⟩
theorem cd_lenJobs {js : Jobs} : CD (rLenQ K) [jobsD js] (.int js.length) := by
  have h := cd_lenT (K := K) (ds := js.map jobD)
  rw [List.length_map] at h
  exact h
theorem cd_lenLot {l : Lot} : CD (rLenQ K) [lotD l] (.int l.length) := by
  have h := cd_lenT (K := K) (ds := l.map .int)
  rw [List.length_map] at h
  exact h
theorem cd_lenFront {l : List Lot} : CD (rLenQ K) [frontD l] (.int l.length) := by
  have h := cd_lenT (K := K) (ds := l.map lotD)
  rw [List.length_map] at h
  exact h
theorem cd_lenFronts {l : List (List Lot)} : CD (rLenQ K) [frontsD l] (.int l.length) := by
  have h := cd_lenT (K := K) (ds := l.map frontD)
  rw [List.length_map] at h
  exact h
theorem df_allJobs (F : Bl mg) (D : DefAt K mg "all_jobs" sAllJobs) : Df P w K mg base 1 "all_jobs" ["jobs"] spAllJobs := by
  have nd := scAllJobs.nd
  refine df_pure D scAllJobs (fun _ _ _ _ _ _ us hl => match us, hl with | [_], _ => rfl) (fun _ _ _ _ _ _ us hl => match us, hl with | [_], _ => rfl) (fun _ => rfl) fun f cdv A outer s H E hr => ⟨_, PSs.nox (pss_one (ps_ret (pe_tupRg rfl (by rfl) F.tuple (prg_1 (by rfl) F.range (pe_callB (clLen K) (by rfl) F.len boot_len (pa_cons (pv 0) pa_nil)))))), ?_⟩
  intro js vs Q rs hp q
  obtain ⟨v, rfl, r⟩ := rs.c1
  have hp' : js.length ≤ 1000 := hp
  exact s_ret (ed_tupRg (n := (js.length : Int)) (ed_cb (ea_cons (ed_var rfl r) ea_nil) cd_lenJobs) (by omega)) q
def spIsWithin : Sp := spP (α := Lot × List Lot) (fun x => [lotD x.1, frontD x.2]) (fun x => x.1.length ≤ 1000 ∧ x.2.length ≤ 1000) (fun x => .bool (isWithin x.1 x.2))
theorem scIsWithin : FnScope ["lot", "front", "other", "job"] ["lot", "front"] (defScope sIsWithin) := ⟨rfl, rfl, rfl, by decide +kernel, rfl, by decide +kernel, by decide +kernel⟩
theorem df_isWithin (F : Bl mg) (D : DefAt K mg "is_within" sIsWithin) : Df P w K mg base 1 "is_within" ["lot", "front"] spIsWithin := by
  have nd := scIsWithin.nd
  refine df_pure D scIsWithin (fun _ _ _ _ _ _ us hl => match us, hl with | [_, _], _ => rfl) (fun _ _ _ _ _ _ us hl => match us, hl with | [_, _], _ => rfl) (fun _ => rfl) fun f cdv A outer s H E hr => 
    have hu5 : (A.deeper (envOfC "is_within" (defScope sIsWithin) s.heap.objs.size f cdv)).units + 65 < cLine := by have := hr.un; omega
    ⟨_, PSs.nox (pss_one (ps_ret (pe_callB (clAny K rfl) (by rfl) F.any boot_any (pa_cons (pe_lc (own := [("other", 2)]) (g := gName 2) (tt := tYes) rfl nd (piT K (pv 1)) (blkOk_by (by kernel_rfl)) (fun _ _ _ _ _ => (pg_name (i := 2) nd rfl (by first | exact Or.inl rfl | exact Or.inr rfl))) (fun _ _ _ _ _ => pts_nil) (fun _ _ _ _ _ => (pe_callB (clAll K rfl) (by rfl) F.all boot_all (pa_cons (pe_lc (own := [("job", 3)]) (g := gName 3) (tt := tYes) rfl nd (piT K (pv 0)) (blkOk_by (by kernel_rfl)) (fun _ _ _ _ _ => (pg_name (i := 3) nd rfl (by first | exact Or.inl rfl | exact Or.inr rfl))) (fun _ _ _ _ _ => pts_nil) (fun _ _ _ _ _ => (pe_cmpR (opIn K hu5) (pv 3) (pv 2) rfl))) pa_nil)))) pa_nil)))), ?_⟩
  intro x vs Q rs hp q
  obtain ⟨lot, front⟩ := x
  obtain ⟨v, u, rfl, r, r2⟩ := rs.c2
  refine s_ret (ed_any (items := front) (enc := lotD) (fun other => lot.all fun job => other.contains job) (ei_tupS (ed_var rfl r2)) (Nat.le_trans hp.2 (by decide)) fun i other ho v1 H1 s1 r1 => ⟨_, bd_name, rfl, ?_⟩) q
  exact ed_all (items := lot) (enc := .int) (fun job => other.contains job) (ei_tupS (ed_var rfl (r.mono s1))) (Nat.le_trans hp.1 (by decide)) fun i job hj v2 H2 s2 r3 => ⟨_, bd_name, rfl, ed_op (ed_var rfl r3) (ed_var rfl (r1.mono s2)) rd_inI⟩
def spIsFront : Sp := spP (α := Jobs × PyData) (fun x => [jobsD x.1, x.2]) (fun x => Sm 2 x.2) (fun x => .bool (isFront x.1.length x.2))
theorem scIsFront : FnScope ["jobs", "value", "lot", "at"] ["jobs", "value"] (defScope sIsFront) := ⟨rfl, rfl, rfl, by decide +kernel, rfl, by decide +kernel, by decide +kernel⟩
/-- range(len(v) - 1) -/
theorem ei_adj {σ : L2.St} {H : Hp} {te : TE} {n : Nat} (h : ED te σ H (.int n)) (hz : n ≤ 1000) : EI Same (iRng1 (tCons (tOp (rI0 fun i j => .int (i - j)) te (tC (.int 1))) tNil)) σ H ((rg ((n : Int) - 1).toNat).map .int) := by
  by_cases h0 : 0 ≤ (n : Int) - 1
  · exact ei_rng (ea_cons (ed_op h ed_int rd_sub) ea_nil) ⟨h0, by omega⟩
  · have e : n = 0 := by omega
    subst e
    intro H2 s2 R k
    refine (ea_cons (ed_op h ed_int rd_sub) ea_nil) H2 s2 _ fun ws H3 s3 rw' => ?_
    obtain ⟨w1, rfl, rw1⟩ := rw'.c1
    cases rw1
    refine ⟨_, rfl, by decide, by decide, k _ H3 s3 ?_⟩
    exact ⟨fun i H4 hi _ => absurd hi (by simp [rg]), fun H4 _ => by show (((0 : Nat) : Int) - 1).toNat ≤ _; simp [rg], fun i H4 x H5 hi => absurd hi (by simp [rg])⟩
theorem adj_lt {n : Nat} {k : Int} (h : k ∈ rg ((n : Int) - 1).toNat) : (0 ≤ k ∧ k < n) ∧ (0 ≤ k + 1 ∧ k + 1 < n) := by
  have := mem_rg.mp h
  omega
theorem df_isFront (F : Bl mg) (D : DefAt K mg "is_front" sIsFront) (G_is_rising : Df P w K mg base 4 "is_rising" ["value", "many"] spIsRising) : Df P w K mg base 5 "is_front" ["jobs", "value"] spIsFront := by
  have nd := scIsFront.nd
  refine df_pure D scIsFront (fun _ _ _ _ _ _ us hl => match us, hl with | [_, _], _ => rfl) (fun _ _ _ _ _ _ us hl => match us, hl with | [_, _], _ => rfl) (fun _ => rfl) fun f cdv A outer s H E hr_is_rising => 
    have hu : (A.deeper (envOfC "is_front" (defScope sIsFront) s.heap.objs.size f cdv)).units + 64 < cLine := by have := hr_is_rising.un; omega
    have hu0 : (A.deeper (envOfC "is_front" (defScope sIsFront) s.heap.objs.size f cdv)).units < cLine := by have := hr_is_rising.un; omega
    ⟨_, PSs.nox (pss_cons (ps_if (PW.pt (pw_or (pt_not (pt_val (pe_callB (clIsi K) (by rfl) F.isinstance boot_isinstance (pa_cons (pv 1) (pa_cons (pe_bltn (v := .ty "tuple") (by rfl) F.tuple boot_tuple rfl) pa_nil))))) (pw_or (pt_cmpR (opEq K hu) (pe_callB (clLen K) (by rfl) F.len boot_len (pa_cons (pv 1) pa_nil)) pe_int (nomark _)) (pw_or1 (pt_not (pt_val (pe_callB (clAll K rfl) (by rfl) F.all boot_all (pa_cons (pe_lc (own := [("lot", 2)]) (g := gName 2) (tt := tYes) rfl nd (piT K (pv 1)) (blkOk_by (by kernel_rfl)) (fun _ _ _ _ _ => (pg_name (i := 2) nd rfl (by first | exact Or.inl rfl | exact Or.inr rfl))) (fun _ _ _ _ _ => pts_nil) (fun _ _ _ _ _ => (pe_df G_is_rising hr_is_rising (by rfl) (pa_cons (pv 2) (pa_cons (pe_callB (clLen K) (by rfl) F.len boot_len (pa_cons (pv 0) pa_nil)) pa_nil))))) pa_nil)))))))) (pss_one (ps_ret pe_bl)) pss_nil)
  (pss_one (ps_ret (pe_callB (clAll K rfl) (by rfl) F.all boot_all (pa_cons (pe_lc (own := [("at", 3)]) (g := gName 3) (tt := tYes) rfl nd (pi_range1 (by rfl) F.range (pa_cons (pe_op op_sub (pe_callB (clLen K) (by rfl) F.len boot_len (pa_cons (pv 1) pa_nil)) pe_int) pa_nil)) (blkOk_by (by kernel_rfl)) (fun _ _ _ _ _ => (pg_name (i := 3) nd rfl (by first | exact Or.inl rfl | exact Or.inr rfl))) (fun _ _ _ _ _ => pts_nil) (fun _ _ _ _ _ => (pe_cmpR (opLtT K hu0) (pe_ix (ixT K) (pv 1) (pv 3) (fun _ _ => rfl)) (pe_ix (ixT K) (pv 1) (pe_op op_add (pv 3) pe_int) (fun _ _ => rfl)) (nomark _)))) pa_nil))))), ?_⟩
  intro x vs Q rs hp q
  obtain ⟨js, d⟩ := x
  obtain ⟨u, v, rfl, r2, r⟩ := rs.c2
  cases ht : isTup d with
  | false =>
    refine q_when (b := true) (eb_is (eb_or (b := true) (eb_not (eb_B (ed_isi (ed_var rfl r) (kit_tup d)))) fun e => by rw [ht] at e; cases e) (by rw [ht]; rfl)) (fun _ H1 s1 => s_ret ed_bl fun v H2 s2 rv => q v H2 (s1.trans s2) ?_) fun e => by cases e
    have e : isFront js.length d = false := by unfold isFront; rw [ht]; rfl
    show Rep H2 v (.bool (isFront js.length d))
    rw [e]; exact rv
  | true =>
    have hd := tup_of ht
    generalize hds : itemsOf d = ds at hd
    have hz : ds.length ≤ 300 := by rw [← hds]; exact hp.1
    have hsm : ∀ e ∈ ds, Sm 1 e := by rw [← hds]; exact hp.2
    subst hd
    refine q_when (b := decide ((ds.length : Int) = 0) || !ds.all (isRising js.length)) (eb_is (eb_or (eb_not (eb_B (ed_isi (ed_var rfl r) (kit_tup _)))) fun e => eb_or (eb_test (ed_op (ed_cb (ea_cons (ed_var rfl r) ea_nil) cd_lenT) ed_int rd_eqI)) fun e2 => eb_not (eb_B (ed_all (items := ds) (enc := id) (isRising js.length) (by rw [mapid]; exact ei_tupS (ed_var rfl r)) (Nat.le_trans hz (by decide)) fun i a ha v1 H1 s1 r1 =>
      ⟨_, bd_name, rfl, ed_call (a, (js.length : Int)) (ea_cons (ed_var rfl r1) (ea_cons (ed_cb (ea_cons (ed_var rfl (r2.mono s1)) ea_nil) cd_lenJobs) ea_nil)) (hsm a (mem_at ha))⟩))) rfl) (fun e H1 s1 => s_ret ed_bl fun v H2 s2 rv => q v H2 (s1.trans s2) ?_) fun e H1 s1 => ?_
    · have e2 : isFront js.length (.tuple ds) = false := by
        unfold isFront
        show (true && !ds.isEmpty && ds.all (isRising js.length) && _) = false
        rw [Bool.or_eq_true, Bool.not_eq_true', decide_eq_true_eq] at e
        rcases e with e | e
        · have : ds = [] := List.eq_nil_of_length_eq_zero (by omega)
          subst this; rfl
        · rw [e]; simp
      show Rep H2 v (.bool (isFront js.length (.tuple ds)))
      rw [e2]; exact rv
    · rw [Bool.or_eq_false_iff, Bool.not_eq_false', decide_eq_false_iff_not] at e
      obtain ⟨e1, e2⟩ := e
      obtain ⟨h1, h2⟩ := front_of e2
      have hlen : (frontOf (.tuple ds)).length = ds.length := by show (ds.map lotOf).length = _; rw [List.length_map]
      have hF : isFront js.length (.tuple ds) = decide (LAsc (frontOf (.tuple ds))) := by
        unfold isFront
        show (true && !ds.isEmpty && ds.all (isRising js.length) && _) = _
        have : ds.isEmpty = false := by cases ds with | nil => exact absurd rfl e1 | cons a b => rfl
        rw [e2, this]; rfl
      have r' : Rep H1 v (frontD (frontOf (.tuple ds))) := by rw [← h1]; exact r.mono s1
      have hq : ∀ v H', Same H1 H' → Rep H' v (.bool (decide (LAsc (frontOf (.tuple ds))))) → Q v H' := fun v H' s r => q v H' (s1.trans s) (by show Rep H' v (.bool (isFront js.length (.tuple ds))); rw [hF]; exact r)
      rw [← hlen] at hz
      generalize frontOf (.tuple ds) = fr at r' hz hq
      rw [← lasc_adj] at hq
      refine s_ret (ed_all (items := rg ((fr.length : Int) - 1).toNat) (enc := .int) (fun k => HT.lexLt (fr.getD k.toNat []) (fr.getD (k + 1).toNat [])) (ei_adj (ed_cb (ea_cons (ed_var rfl r') ea_nil) cd_lenFront) (by omega)) (by rw [rg_len]; omega) fun i a ha v1 H2 s2 r1 => ?_) hq
      obtain ⟨k1, k2⟩ := adj_lt (mem_at ha)
      exact ⟨_, bd_name, rfl, ed_op (ed_op (ed_var rfl (r'.mono s2)) (ed_var rfl r1) (rd_ixT (atI_map (dflt := []) k1))) (ed_op (ed_var rfl (r'.mono s2)) (ed_op (ed_var rfl r1) ed_int rd_add) (rd_ixT (atI_map (dflt := []) k2))) rd_ltT⟩
end K52
end
section
set_option Elab.async false
set_option linter.all false
/-! How many lots there are; sizes. -/
namespace K52
open PySem PySem.Spec PyProof.Rows L2
def subs : List Int → List (List Int)
  | [] => [[]]
  | x :: r => subs r ++ (subs r).map (x :: ·)
theorem subs_len : ∀ l : List Int, (subs l).length = 2 ^ l.length
  | [] => rfl
  | x :: r => by rw [subs, List.length_append, List.length_map, subs_len r, List.length_cons, Nat.pow_succ]; omega
theorem mem_subs : ∀ {l S : List Int}, S.Sublist l → S ∈ subs l
  | [], S, h => by
    have := List.sublist_nil.mp h
    subst this
    exact List.mem_singleton.mpr rfl
  | x :: r, S, h => by
    rw [subs]
    cases h with
    | cons _ h => exact List.mem_append_left _ (mem_subs h)
    | cons_cons _ h => exact List.mem_append_right _ (List.mem_map.mpr ⟨_, mem_subs h, rfl⟩)
theorem nodup_len {α : Type} [DecidableEq α] : ∀ {f g : List α}, f.Nodup → (∀ x ∈ f, x ∈ g) → f.length ≤ g.length
  | [], _, _, _ => Nat.zero_le _
  | a :: f, g, nd, h => by
    have ha := h a List.mem_cons_self
    have nd' := List.nodup_cons.mp nd
    have ih := nodup_len (f := f) (g := g.erase a) nd'.2 fun x hx => by
      have hne : x ≠ a := fun e => nd'.1 (e ▸ hx)
      exact (List.mem_erase_of_ne hne).mpr (h x (List.mem_cons_of_mem _ hx))
    rw [List.length_erase_of_mem ha] at ih
    have := List.length_pos_of_mem ha
    rw [List.length_cons]
    omega
theorem lot_sub {n : Nat} {l : Lot} (h : Asc l) (hr : InR n l) : l.Sublist (rg n) := asc_sublist h (rg_asc n) fun x hx => mem_rg.mpr (hr x hx)
theorem lot_len {n : Nat} {l : Lot} (h : Asc l) (hr : InR n l) : l.length ≤ n := by
  have := (lot_sub h hr).length_le
  rw [rg_len] at this
  exact this
theorem lots_len {n : Nat} {f : List Lot} (h : Lots n f) : f.length ≤ 2 ^ n := by
  have := nodup_len (f := f) (g := subs (rg n)) h.1.nodup fun x hx => mem_subs (lot_sub (h.2 x hx).1 (h.2 x hx).2)
  rw [subs_len, rg_len] at this
  exact this
/-- what the defs ask of a calendar and its jobs -/
structure Pr (cal : Cal) (js : Jobs) : Prop where
  ok : Ok cal js
  cl : cal.length ≤ 8
  jl : js.length ≤ 8
theorem pow_le8 {n : Nat} (h : n ≤ 8) : 2 ^ n ≤ 256 := Nat.le_trans (Nat.pow_le_pow_right (by decide) h) (by decide)
theorem Pr.lots {cal : Cal} {js : Jobs} (p : Pr cal js) {f : List Lot} (h : Lots js.length f) : f.length ≤ 256 := Nat.le_trans (lots_len h) (pow_le8 p.jl)
theorem Pr.lot {cal : Cal} {js : Jobs} (p : Pr cal js) {l : Lot} (h : Asc l) (hr : InR js.length l) : l.length ≤ 8 := Nat.le_trans (lot_len h hr) p.jl
theorem share_le {cal : Cal} {js : Jobs} {day : Int} {some : Lot} (h : some.length ≤ 8) : (sharesOn cal js day some).length ≤ 256 := by
  have := share_len (cal := cal) (js := js) day some [[]]
  have h2 := pow_le8 h
  unfold sharesOn
  simp only [List.length_singleton, Nat.mul_one] at this
  omega
/-- a share's members are of those asked -/
theorem share_mem {cal : Cal} {js : Jobs} {day : Int} : ∀ (some : Lot) (acc : List Lot) (S : Lot), (∀ T ∈ acc, ∀ x ∈ T, x ∈ S) → (∀ x ∈ some, x ∈ S) → ∀ T ∈ some.foldl (shareStep cal js day) acc, ∀ x ∈ T, x ∈ S
  | [], acc, S, h, _ => h
  | j :: r, acc, S, h, hs => by
    refine share_mem r _ S (fun T hT x hx => ?_) fun x hx => hs x (List.mem_cons_of_mem _ hx)
    unfold shareStep at hT
    split at hT
    · rcases List.mem_append.mp hT with q | q
      · exact h T q x hx
      · obtain ⟨U, hU, rfl⟩ := List.mem_map.mp q
        rcases List.mem_append.mp hx with z | z
        · exact h U (List.mem_filter.mp hU).1 x z
        · rw [List.mem_singleton.mp z]; exact hs j List.mem_cons_self
    · exact h T hT x hx
theorem shares_mem {cal : Cal} {js : Jobs} {day : Int} {some T : Lot} (h : T ∈ sharesOn cal js day some) : ∀ x ∈ T, x ∈ some := share_mem some [[]] some (fun T hT x hx => by rw [List.mem_singleton.mp hT] at hx; cases hx) (fun x hx => hx) T h
theorem foldl_take {α β : Type} {f : β → α → β} {l : List α} {i : Nat} {a : α} {b : β} (h : l[i]? = some a) : (l.take (i + 1)).foldl f b = f ((l.take i).foldl f b) a := by
  rw [List.take_succ, h, List.foldl_append]
  rfl
/-! pairs -/
theorem pairsD_map {α : Type} {f : α → PyData} {l : List α} (dflt : α) : pairsD (l.map f) = (rg l.length).map fun k => .tuple [.int k, f (l.getD k.toNat dflt)] := by
  unfold pairsD rg
  apply List.ext_getElem?
  intro i
  rw [List.getElem?_map, List.getElem?_zipIdx, List.getElem?_map, List.getElem?_map, List.getElem?_map]
  by_cases h : i < l.length
  · rw [List.getElem?_eq_getElem h, List.getElem?_range h]
    simp [List.getD_eq_getElem?_getD, List.getElem?_eq_getElem h]
  · have h1 : l[i]? = none := List.getElem?_eq_none_iff.mpr (by omega)
    have h2 : (List.range l.length)[i]? = none := List.getElem?_eq_none_iff.mpr (by rw [List.length_range]; omega)
    rw [h1, h2]
    rfl
section
variable {K : PySem.W.Frag}
theorem bd_pair {H : Hp} {v : V} {d1 d2 : PyData} {i j : Nat} (r : Rep H v (.tuple [d1, d2])) (σ : L2.St) : ∃ x y, Bd (gTup K 2 (gCons (gName i) (gCons (gName j) gNil))) v σ H ((σ.set i (some x)).set j (some y)) ∧ Rep H x d1 ∧ Rep H y d2 := by
  cases r with
  | tup ha rs =>
    obtain ⟨x, y, rfl, r1, r2⟩ := rs.c2
    exact ⟨x, y, fun Q q => ⟨_, _, rfl, SqT.of ha, rfl, x, [y], rfl, y, [], rfl, rfl, q⟩, r1, r2⟩
end
end K52
end
section
set_option Elab.async false
set_option linter.all false
set_option maxRecDepth 100000
/-! gifts_on, is_timetable, shares_on, leads_on. -/
namespace K52
open PySem PySem.Spec PyProof.Rows L2
variable {P : Program} {w : World} {K : PySem.W.Frag} {mg : Str → Option Value} {base : Heap}
theorem gj_eq (js : Jobs) (j : Int) : (js.getD j.toNat (0, [])).1 = gj js j := rfl
theorem dj_eq (js : Jobs) (j : Int) : (js.getD j.toNat (0, [])).2 = dj js j := rfl
/-- jobs[j][0], jobs[j][1] -/
theorem ed_gift {σ : L2.St} {H : Hp} {ta tb : TE} {js : Jobs} {j : Int} (ha : ED ta σ H (jobsD js)) (hb : ED tb σ H (.int j)) (h : 0 ≤ j ∧ j < js.length) : ED (tOp (rIxT K) (tOp (rIxT K) ta tb) (tC (.int 0))) σ H (.int (gj js j)) := ed_op (ed_op ha hb (rd_jobs h)) ed_int rd_job0
theorem ed_days {σ : L2.St} {H : Hp} {ta tb : TE} {js : Jobs} {j : Int} (ha : ED ta σ H (jobsD js)) (hb : ED tb σ H (.int j)) (h : 0 ≤ j ∧ j < js.length) : ED (tOp (rIxT K) (tOp (rIxT K) ta tb) (tC (.int 1))) σ H (lotD (dj js j)) := ed_op (ed_op ha hb (rd_jobs h)) ed_int rd_job1
def spGiftsOn : Sp := spP (α := Jobs × List Int × Int) (fun x => [jobsD x.1, lotD x.2.1, .int x.2.2]) (fun x => x.2.1.length ≤ x.1.length ∧ x.1.length ≤ 1000) (fun x => .int (loadT x.1 x.2.1 x.2.2))
theorem scGiftsOn : FnScope ["jobs", "table", "day", "at", "one"] ["jobs", "table", "day"] (defScope sGiftsOn) := ⟨rfl, rfl, rfl, by decide +kernel, rfl, by decide +kernel, by decide +kernel⟩
theorem df_giftsOn (F : Bl mg) (D : DefAt K mg "gifts_on" sGiftsOn) : Df P w K mg base 1 "gifts_on" ["jobs", "table", "day"] spGiftsOn := by
  have nd := scGiftsOn.nd
  refine df_pure D scGiftsOn (fun _ _ _ _ _ _ us hl => match us, hl with | [_, _, _], _ => rfl) (fun _ _ _ _ _ _ us hl => match us, hl with | [_, _, _], _ => rfl) (fun _ => rfl) fun f cdv A outer s H E hr =>
    have hu : (A.deeper (envOfC "gifts_on" (defScope sGiftsOn) s.heap.objs.size f cdv)).units + 64 < cLine := hr.units
    ⟨_, PSs.nox (pss_one (ps_ret (pe_callB (clSum K rfl) (by rfl) F.sum boot_sum (pa_cons (pe_lc (own := [("at", 3), ("one", 4)]) (g := (gTup K 2 (gCons (gName 3) ((gCons (gName 4) (gNil))))))  rfl nd (piE K (by rfl) F.enumerate (pa_cons (pv 1) pa_nil)) (blkOk_by (by kernel_rfl)) (fun _ _ _ _ _ => (pgT K (n := 2) rfl (pgs_cons (pg_name (i := 3) nd rfl (by first | exact Or.inl rfl | exact Or.inr rfl)) (pgs_cons (pg_name (i := 4) nd rfl (by first | exact Or.inl rfl | exact Or.inr rfl)) pgs_nil)))) (fun _ _ _ _ _ => (pts_one (pt_cmpR (opEq K hu) (pv 4) (pv 2) (nomark _)))) (fun _ _ _ _ _ => (pe_ix (ixT K) (pe_ix (ixT K) (pv 0) (pv 3) (fun _ _ => rfl)) pe_int (fun _ _ => rfl)))) pa_nil)))), ?_⟩
  intro x vs Q rs hp q
  obtain ⟨js, t, day⟩ := x
  obtain ⟨v1, v2, v3, rfl, r1, r2, r3⟩ := rs.c3
  obtain ⟨hp1, hp2⟩ := (show t.length ≤ js.length ∧ js.length ≤ 1000 from hp)
  refine s_ret (ed_cb (ea_cons (ed_lcI (items := rg t.length) (enc := fun k => .tuple [.int k, .int (t.getD k.toNat 0)]) (fun k => decide (tj t k = day)) (gj js) ?_ (by rw [rg_len]; omega) fun i k hk v H1 s1 r => ?_) ea_nil) cd_sum) q
  · rw [← pairsD_map (f := PyData.int)]
    exact (ei_en (ea_cons (ed_var rfl r2) ea_nil) (noL_lot t)).same
  · obtain ⟨x, y, b, rx, ry⟩ := bd_pair (K := K) (i := 3) (j := 4) r _
    have hk' := mem_rg.mp (mem_at hk)
    exact ⟨_, b, rfl, eb_test (ed_op (ed_var rfl ry) (ed_var rfl (r3.mono s1)) rd_eqI), fun _ => ed_gift (ed_var rfl (r1.mono s1)) (ed_var rfl rx) (by omega)⟩
def isTable (cal : Cal) (js : Jobs) (t : List Int) : Bool := decide (t.length = js.length) && ((rg t.length).all fun k => isIndex cal.length (.int (tj t k)) && (dj js k).contains (tj t k)) && ((rg cal.length).all fun d => decide (loadT js t d ≤ ca cal d))
def spIsTimetable : Sp := spP (α := Cal × Jobs × List Int) (fun x => [lotD x.1, jobsD x.2.1, lotD x.2.2]) (fun x => x.1.length ≤ 1000 ∧ x.2.1.length ≤ 1000 ∧ x.2.2.length ≤ 1000) (fun x => .bool (isTable x.1 x.2.1 x.2.2))
theorem scIsTimetable : FnScope ["calendar", "jobs", "value", "at", "one", "day", "rooms"] ["calendar", "jobs", "value"] (defScope sIsTimetable) := ⟨rfl, rfl, rfl, by decide +kernel, rfl, by decide +kernel, by decide +kernel⟩
theorem df_isTimetable (F : Bl mg) (D : DefAt K mg "is_timetable" sIsTimetable) (G_is_index : Df P w K mg base 3 "is_index" ["value", "many"] spIsIndex) (G_gifts_on : Df P w K mg base 1 "gifts_on" ["jobs", "table", "day"] spGiftsOn) : Df P w K mg base 4 "is_timetable" ["calendar", "jobs", "value"] spIsTimetable := by
  have nd := scIsTimetable.nd
  refine df_pure D scIsTimetable (fun _ _ _ _ _ _ us hl => match us, hl with | [_, _, _], _ => rfl) (fun _ _ _ _ _ _ us hl => match us, hl with | [_, _, _], _ => rfl) (fun _ => rfl) fun f cdv A outer s H E hr =>
    have hu : (A.deeper (envOfC "is_timetable" (defScope sIsTimetable) s.heap.objs.size f cdv)).units + 64 < cLine := hr.units
    have hu5 : (A.deeper (envOfC "is_timetable" (defScope sIsTimetable) s.heap.objs.size f cdv)).units + 65 < cLine := by have := hr.un; omega
    have hr_is_index := hr
    have hr_gifts_on := hr.mono (j := 1) (by decide)
    ⟨_, PSs.nox (pss_cons (ps_if (PW.pt (pw_or (pt_not (pt_val (pe_callB (clIsi K) (by rfl) F.isinstance boot_isinstance (pa_cons (pv 2) (pa_cons (pe_bltn (v := .ty "tuple") (by rfl) F.tuple boot_tuple rfl) pa_nil))))) (pw_or1 (pt_cmpR (opNe K hu) (pe_callB (clLen K) (by rfl) F.len boot_len (pa_cons (pv 2) pa_nil)) (pe_callB (clLen K) (by rfl) F.len boot_len (pa_cons (pv 1) pa_nil)) (nomark _))))) (pss_one (ps_ret pe_bl)) pss_nil)
  (pss_cons (ps_if (pt_not (pt_val (pe_callB (clAll K rfl) (by rfl) F.all boot_all (pa_cons (pe_lc (own := [("at", 3), ("one", 4)]) (g := (gTup K 2 (gCons (gName 3) ((gCons (gName 4) (gNil)))))) (tt := tYes) rfl nd (piE K (by rfl) F.enumerate (pa_cons (pv 2) pa_nil)) (blkOk_by (by kernel_rfl)) (fun _ _ _ _ _ => (pgT K (n := 2) rfl (pgs_cons (pg_name (i := 3) nd rfl (by first | exact Or.inl rfl | exact Or.inr rfl)) (pgs_cons (pg_name (i := 4) nd rfl (by first | exact Or.inl rfl | exact Or.inr rfl)) pgs_nil)))) (fun _ _ _ _ _ => pts_nil) (fun _ _ _ _ _ => (pe_and (pe_df G_is_index hr_is_index (by rfl) (pa_cons (pv 4) (pa_cons (pe_callB (clLen K) (by rfl) F.len boot_len (pa_cons (pv 0) pa_nil)) pa_nil))) (pe_one (pe_cmpR (opIn K hu5) (pv 4) (pe_ix (ixT K) (pe_ix (ixT K) (pv 1) (pv 3) (fun _ _ => rfl)) pe_int (fun _ _ => rfl)) rfl))))) pa_nil)))) (pss_one (ps_ret pe_bl)) pss_nil)
  (pss_one (ps_ret (pe_callB (clAll K rfl) (by rfl) F.all boot_all (pa_cons (pe_lc (own := [("day", 5), ("rooms", 6)]) (g := (gTup K 2 (gCons (gName 5) ((gCons (gName 6) (gNil)))))) (tt := tYes) rfl nd (piE K (by rfl) F.enumerate (pa_cons (pv 0) pa_nil)) (blkOk_by (by kernel_rfl)) (fun _ _ _ _ _ => (pgT K (n := 2) rfl (pgs_cons (pg_name (i := 5) nd rfl (by first | exact Or.inl rfl | exact Or.inr rfl)) (pgs_cons (pg_name (i := 6) nd rfl (by first | exact Or.inl rfl | exact Or.inr rfl)) pgs_nil)))) (fun _ _ _ _ _ => pts_nil) (fun _ _ _ _ _ => (pe_cmpR op_le (pe_df G_gifts_on hr_gifts_on (by rfl) (pa_cons (pv 1) (pa_cons (pv 2) (pa_cons (pv 5) pa_nil)))) (pv 6) (nomark _)))) pa_nil)))))), ?_⟩
  intro x vs Q rs hp q
  obtain ⟨cal, js, t⟩ := x
  obtain ⟨v1, v2, v3, rfl, r1, r2, r3⟩ := rs.c3
  obtain ⟨hp1, hp2, hp3⟩ := (show cal.length ≤ 1000 ∧ js.length ≤ 1000 ∧ t.length ≤ 1000 from hp)
  have q' : ∀ v H', Same H H' → Rep H' v (.bool (isTable cal js t)) → Q v H' := q
  refine q_when (b := !decide ((t.length : Int) = js.length)) (eb_is (eb_or (eb_not (eb_B (ed_isi (ed_var rfl r3) (kit_tup _)))) fun e => eb_test (ed_op (ed_cb (ea_cons (ed_var rfl r3) ea_nil) cd_lenLot) (ed_cb (ea_cons (ed_var rfl r2) ea_nil) cd_lenJobs) rd_neI)) rfl) (fun e H1 s1 => s_ret ed_bl fun v H2 s2 rv => q' v H2 (s1.trans s2) ?_) fun e H1 s1 => ?_
  · have e2 : isTable cal js t = false := by
      unfold isTable
      rw [Bool.not_eq_true', decide_eq_false_iff_not] at e
      have : decide (t.length = js.length) = false := decide_eq_false (by omega)
      rw [this]; rfl
    rw [e2]; exact rv
  · rw [Bool.not_eq_false', decide_eq_true_eq] at e
    have e' : t.length = js.length := by omega
    refine q_when (b := !((rg t.length).all fun k => isIndex cal.length (.int (tj t k)) && (dj js k).contains (tj t k))) (eb_not (eb_B (ed_all (items := rg t.length) (enc := fun k => .tuple [.int k, .int (t.getD k.toNat 0)]) (fun k => isIndex cal.length (.int (tj t k)) && (dj js k).contains (tj t k)) ?_ (by rw [rg_len]; omega) fun i k hk v H2 s2 r => ?_))) (fun ex H2 s2 => s_ret ed_bl fun v H3 s3 rv => q' v H3 ((s1.trans s2).trans s3) ?_) fun ex H2 s2 => ?_
    · rw [← pairsD_map (f := PyData.int)]
      exact (ei_en (ea_cons (ed_var rfl (r3.mono s1)) ea_nil) (noL_lot t)).same
    · obtain ⟨x, y, b, rx, ry⟩ := bd_pair (K := K) (i := 3) (j := 4) r _
      have hk' := mem_rg.mp (mem_at hk)
      exact ⟨_, b, rfl, ed_andV (ed_call (PyData.int (tj t k), (cal.length : Int)) (ea_cons (ed_var rfl ry) (ea_cons (ed_cb (ea_cons (ed_var rfl (r1.mono (s1.trans s2))) ea_nil) cd_lenLot) ea_nil)) True.intro) fun _ => ed_op (ed_var rfl ry) (ed_days (js := js) (ed_var rfl (r2.mono (s1.trans s2))) (ed_var rfl rx) (by omega)) rd_inI⟩
    · have e2 : isTable cal js t = false := by
        unfold isTable
        rw [Bool.not_eq_true'] at ex
        rw [ex, Bool.and_false, Bool.false_and]
      rw [e2]; exact rv
    · rw [Bool.not_eq_false'] at ex
      have e2 : isTable cal js t = ((rg cal.length).all fun d => decide (loadT js t d ≤ ca cal d)) := by
        unfold isTable
        rw [ex, decide_eq_true e']; rfl
      rw [e2] at q'
      have s12 := s1.trans s2
      refine s_ret (ed_all (items := rg cal.length) (enc := fun k => .tuple [.int k, .int (cal.getD k.toNat 0)]) (fun d => decide (loadT js t d ≤ ca cal d)) ?_ (by rw [rg_len]; omega) fun i k hk v H3 s3 r => ?_) fun v H3 s3 rv => q' v H3 (s12.trans s3) rv
      · rw [← pairsD_map (f := PyData.int)]
        exact (ei_en (ea_cons (ed_var rfl (r1.mono s12)) ea_nil) (noL_lot cal)).same
      · obtain ⟨x, y, b, rx, ry⟩ := bd_pair (K := K) (i := 5) (j := 6) r _
        exact ⟨_, b, rfl, ed_op (ed_call (js, t, k) (ea_cons (ed_var rfl (r2.mono (s12.trans s3))) (ea_cons (ed_var rfl (r3.mono (s12.trans s3))) (ea_cons (ed_var rfl rx) ea_nil))) ⟨by show t.length ≤ js.length; omega, hp2⟩) (ed_var rfl ry) rd_le⟩
end K52
end
section
set_option Elab.async false
set_option linter.all false
set_option maxRecDepth 100000
/-! shares_on, leads_on. -/
namespace K52
open PySem PySem.Spec PyProof.Rows L2
variable {P : Program} {w : World} {K : PySem.W.Frag} {mg : Str → Option Value} {base : Heap}
theorem bd_mono {g : TG} {v : V} {σ σ2 : L2.St} {H : Hp} (h : Bd g v σ H σ2) : Bd g v σ H σ2 := h
/-- sum([jobs[one][0] for one in lot]) -/
theorem ed_sumG {σ : L2.St} {H : Hp} {tl ti : TE} {js : Jobs} {lot : Lot} {j : Nat} {vs : List Nat} (hl : ED tl σ H (lotD lot)) (hz : lot.length ≤ 1000) (hr : InR js.length lot) (hw : ∀ v : V, wipe ((wipe σ vs).set j (some v)) vs = wipe σ vs)
    (he : ∀ (k : Int) v H1, Same H H1 → Rep H1 v (.int k) → 0 ≤ k ∧ k < js.length → ED ti ((wipe σ vs).set j (some v)) H1 (.int (gj js k))) :
    ED (tCB (rSum K) (tCons (tLc (iTup K tl) (gName j) tYes ti vs) tNil)) σ H (.int (sumG js lot)) :=
  ed_cb (ea_cons (ed_lcI1 (items := lot) (enc := .int) (gj js) (ei_tupS hl) (Nat.le_trans hz (by decide)) fun i k hk v H1 s1 r => ⟨_, bd_name, hw v, he k v H1 s1 r (hr k (mem_at hk))⟩) ea_nil) cd_sum
structure SharePre (x : Cal × Jobs × Int × Lot) : Prop where
  pr : Pr x.1 x.2.1
  day : 0 ≤ x.2.2.1 ∧ x.2.2.1 < x.1.length
  inr : InR x.2.1.length x.2.2.2
  few : x.2.2.2.length ≤ 8
def spSharesOn : Sp := spP (α := Cal × Jobs × Int × Lot) (fun x => [lotD x.1, jobsD x.2.1, .int x.2.2.1, .list (x.2.2.2.map .int)]) SharePre (fun x => .list ((sharesOn x.1 x.2.1 x.2.2.1 x.2.2.2).map lotD))
theorem scSharesOn : FnScope ["calendar", "jobs", "day", "some", "found", "job", "room", "lot", "one"] ["calendar", "jobs", "day", "some"] (defScope sSharesOn) := ⟨rfl, rfl, rfl, by decide +kernel, rfl, by decide +kernel, by decide +kernel⟩
theorem df_sharesOn (F : Bl mg) (D : DefAt K mg "shares_on" sSharesOn) : Df P w K mg base 1 "shares_on" ["calendar", "jobs", "day", "some"] spSharesOn := by
  have nd := scSharesOn.nd
  refine df_pure D scSharesOn (fun _ _ _ _ _ _ us hl => match us, hl with | [_, _, _, _], _ => rfl) (fun _ _ _ _ _ _ us hl => match us, hl with | [_, _, _, _], _ => rfl) (fun _ => rfl) fun f cdv A outer s H E hr =>
    have hu5 : (A.deeper (envOfC "shares_on" (defScope sSharesOn) s.heap.objs.size f cdv)).units + 65 < cLine := by have := hr.un; omega
    ⟨_, PSs.nox (pss_cons (ps_set (i := 4) nd rfl (Or.inl rfl) (pe_lst (pa_cons (pe_tup pa_nil) pa_nil)))
  (pss_cons (ps_for PassesOwn.never rfl (piL K (pv 3)) (pg_name (i := 5) nd rfl (by first | exact Or.inl rfl | exact Or.inr rfl)) (pss_one (ps_if (pt_cmpR (opIn K hu5) (pv 2) (pe_ix (ixT K) (pe_ix (ixT K) (pv 1) (pv 5) (fun _ _ => rfl)) pe_int (fun _ _ => rfl)) rfl) (pss_cons (ps_set (i := 6) nd rfl (Or.inr rfl) (pe_op op_sub (pe_ix (ixT K) (pv 0) (pv 2) (fun _ _ => rfl)) (pe_ix (ixT K) (pe_ix (ixT K) (pv 1) (pv 5) (fun _ _ => rfl)) pe_int (fun _ _ => rfl))))
  (pss_one (ps_set (i := 4) nd rfl (Or.inl rfl) (pe_op op_cat (pv 4) (pe_lc (own := [("lot", 7)]) (g := gName 7)  rfl nd (piL K (pv 4)) (blkOk_by (by kernel_rfl)) (fun _ _ _ _ _ => (pg_name (i := 7) nd rfl (by first | exact Or.inl rfl | exact Or.inr rfl))) (fun _ _ _ _ _ => (pts_one (pt_cmpR op_le (pe_callB (clSum K rfl) (by rfl) F.sum boot_sum (pa_cons (pe_lc (own := [("one", 8)]) (g := gName 8) (tt := tYes) rfl nd (piT K (pv 7)) (blkOk_by (by kernel_rfl)) (fun _ _ _ _ _ => (pg_name (i := 8) nd rfl (by first | exact Or.inl rfl | exact Or.inr rfl))) (fun _ _ _ _ _ => pts_nil) (fun _ _ _ _ _ => (pe_ix (ixT K) (pe_ix (ixT K) (pv 1) (pv 8) (fun _ _ => rfl)) pe_int (fun _ _ => rfl)))) pa_nil)) (pv 6) (nomark _)))) (fun _ _ _ _ _ => (pe_tup (paS K (pv 7) (pa_cons (pv 5) pa_nil))))))))) pss_nil)))
  (pss_one (ps_ret (pv 4))))), ?_⟩
  intro x vs Q rs hp q
  obtain ⟨cal, js, day, so⟩ := x
  obtain ⟨v1, v2, v3, v4, rfl, r1, r2, r3, r4⟩ := rs.c4
  obtain ⟨hpr, hday, hinr, hfew⟩ := hp
  simp only at hpr hday hinr hfew
  refine q_asg (ed_lst (ea_cons (ed_tup ea_nil (Nat.zero_le _)) ea_nil) (by decide)) fun v5 H1 s1 r5 => ?_
  refine q_for (ei_list (ds := so.map .int) (ed_var rfl (r4.mono s1))) (fun H2 i σ' H' => Same H2 H' ∧ ∃ fv jv rv, σ' = [some v1, some v2, some v3, some v4, some fv, jv, rv, none, none] ∧ Rep H' fv (.list ((sharesOn cal js day (so.take i)).map lotD))) (fun H2 s2 => ⟨Same.refl _, v5, none, none, rfl, r5.mono s2⟩) (fun H2 i σ' H' hi p => p.1) (fun H2 s2 i d v σ' H' H3 hd p s3 rv => ?_) (fun H2 σ' H' s2 p => ?_)
  · obtain ⟨p1, fv, jv, rw', rfl, p3⟩ := p
    rw [List.getElem?_map] at hd
    obtain ⟨job, hj, rfl⟩ := Option.map_eq_some_iff.mp hd
    have hjr := hinr job (mem_at hj)
    have sH : Same H H3 := ((s1.trans s2).trans p1).trans s3
    have p3' := p3.mono s3
    have hstep : sharesOn cal js day (so.take (i + 1)) = shareStep cal js day (sharesOn cal js day (so.take i)) job := foldl_take hj
    have hmem : ∀ l ∈ sharesOn cal js day (so.take i), InR js.length l := fun l hl x hx => hinr x (List.mem_of_mem_take (shares_mem hl x hx))
    have hlen : (sharesOn cal js day (so.take i)).length ≤ 256 := share_le (by rw [List.length_take]; omega)
    have hll8 : ∀ l ∈ sharesOn cal js day (so.take i), l.length ≤ 8 := fun l hl => by
      have h1 := ((mem_shares hpr.ok).mp hl).1.length_le
      rw [List.length_take] at h1
      omega
    generalize sharesOn cal js day (so.take i) = found at p3' hstep hmem hlen hll8
    show tIfS _ _ _ _ _ _
    refine s_when (b := (dj js job).contains day) (eb_test (ed_op (ed_var rfl (r3.mono sH)) (ed_days (ed_var rfl (r2.mono sH)) (ed_var rfl rv) hjr) rd_inI)) (fun hc H4 s4 => ?_) fun hc H4 s4 => ?_
    · refine q_asg (ed_op (ed_op (ed_var rfl (r1.mono (sH.trans s4))) (ed_var rfl (r3.mono (sH.trans s4))) (rd_cal hday)) (ed_gift (ed_var rfl (r2.mono (sH.trans s4))) (ed_var rfl (rv.mono s4)) hjr) rd_sub) fun v6 H5 s5 r6 => ?_
      have s45 := s4.trans s5
      refine s_asg (d := .list ((shareStep cal js day found job).map lotD)) (ed_is (ed_op (ed_var rfl (p3'.mono s45)) (ed_lc (items := found) (enc := lotD) (fun l => decide (sumG js l ≤ ca cal day - gj js job)) (fun l => lotD (l ++ [job])) (fun l => noL_lot _) (ei_list (ed_var rfl (p3'.mono s45))) (by omega) fun k l hl v7 H6 s6 r7 => ?_) (rd_cat ?_)) ?_) fun v8 H6 s6 r8 => ?_
      · have s456 := s45.trans s6
        have hll := hmem l (mem_at hl)
        refine ⟨_, bd_name, rfl, eb_test (ed_op (ed_sumG (js := js) (lot := l) (ed_var rfl r7) ?_ hll (fun _ => rfl) fun k2 v9 H7 s7 r9 hk2 => ed_gift (ed_var rfl (r2.mono ((sH.trans s456).trans s7))) (ed_var rfl r9) hk2) (ed_var rfl (r6.mono s6)) rd_le), fun _ => ?_⟩
        · exact Nat.le_trans (hll8 l (mem_at hl)) (by decide)
        · exact ed_is (ed_tup (ea_star (ed_var rfl r7) (ea_cons (ed_var rfl (rv.mono s456)) ea_nil)) (by have := hll8 l (mem_at hl); simp; omega)) (by simp [lotD])
      · rw [List.length_map, List.length_map]
        have := List.length_filter_le (fun l => decide (sumG js l ≤ ca cal day - gj js job)) found
        omega
      · unfold shareStep
        rw [if_pos hc, List.map_append, List.map_map]
        rfl
      · refine ⟨(p1.trans s3).trans (s45.trans s6), v8, some v, some v6, rfl, ?_⟩
        rw [hstep]; exact r8
    · refine ⟨(p1.trans s3).trans s4, fv, some v, rw', rfl, ?_⟩
      rw [hstep]
      unfold shareStep
      rw [if_neg (by rw [hc]; decide)]
      exact p3'.mono s4
  · obtain ⟨p1, fv, jv, rv, rfl, p3⟩ := p
    rw [List.length_map, List.take_length] at p3
    exact s_ret (ed_var rfl p3) fun v H3 s3 r => q v H3 (((s1.trans s2).trans p1).trans s3) r
structure LeadPre (x : Cal × Jobs × Int × List Lot × List Lot) : Prop where
  pr : Pr x.1 x.2.1
  day : 0 ≤ x.2.2.1 ∧ x.2.2.1 < x.1.length
  front : Lots x.2.1.length x.2.2.2.1
  later : Lots x.2.1.length x.2.2.2.2
def spLeadsOn : Sp := spP (α := Cal × Jobs × Int × List Lot × List Lot) (fun x => [lotD x.1, jobsD x.2.1, .int x.2.2.1, frontD x.2.2.2.1, frontD x.2.2.2.2]) LeadPre (fun x => .bool (leadsOn x.1 x.2.1 x.2.2.1 x.2.2.2.1 x.2.2.2.2))
theorem scLeadsOn : FnScope ["calendar", "jobs", "day", "front", "later", "lot", "others", "job", "share"] ["calendar", "jobs", "day", "front", "later"] (defScope sLeadsOn) := ⟨rfl, rfl, rfl, by decide +kernel, rfl, by decide +kernel, by decide +kernel⟩
theorem mem_take_succ {α : Type} {l : List α} {i : Nat} {a x : α} (h : l[i]? = some a) (hx : x ∈ l.take (i + 1)) : x ∈ l.take i ∨ x = a := by
  rw [List.take_succ, h] at hx
  rcases List.mem_append.mp hx with q | q
  · exact .inl q
  · exact .inr (List.mem_singleton.mp q)
theorem df_leadsOn (F : Bl mg) (D : DefAt K mg "leads_on" sLeadsOn) (G_shares_on : Df P w K mg base 1 "shares_on" ["calendar", "jobs", "day", "some"] spSharesOn) (G_together : Df P w K mg base 1 "together" ["lot", "other"] spTogether)
    (G_is_within : Df P w K mg base 1 "is_within" ["lot", "front"] spIsWithin) : Df P w K mg base 2 "leads_on" ["calendar", "jobs", "day", "front", "later"] spLeadsOn := by
  have nd := scLeadsOn.nd
  refine df_pure D scLeadsOn (fun _ _ _ _ _ _ us hl => match us, hl with | [_, _, _, _, _], _ => rfl) (fun _ _ _ _ _ _ us hl => match us, hl with | [_, _, _, _, _], _ => rfl) (fun _ => rfl) fun f cdv A outer s H E hr =>
    have hu5 : (A.deeper (envOfC "leads_on" (defScope sLeadsOn) s.heap.objs.size f cdv)).units + 65 < cLine := by have := hr.un; omega
    have hr_shares_on := hr
    have hr_together := hr
    have hr_is_within := hr
    ⟨_, PSs.nox (pss_cons (ps_for PassesOwn.never rfl (piT K (pv 3)) (pg_name (i := 5) nd rfl (by first | exact Or.inl rfl | exact Or.inr rfl)) (pss_cons (ps_setLc (i := 6) (own := [("job", 7)]) (g := gName 7)  rfl nd rfl rfl (sw_true rfl rfl rfl (by decide +kernel)) (pi_range1 (by rfl) F.range (pa_cons (pe_callB (clLen K) (by rfl) F.len boot_len (pa_cons (pv 1) pa_nil)) pa_nil)) (blkOk_by (by kernel_rfl)) (fun _ _ _ _ _ => (pg_name (i := 7) nd rfl (by first | exact Or.inl rfl | exact Or.inr rfl))) (fun _ _ _ _ _ => (pts_one (pt_cmpR (opNi K hu5) (pv 7) (pv 5) rfl))) (fun _ _ _ _ _ => (pv 7)))
  (pss_one (ps_for PassesOwn.never rfl (piL K (pe_df G_shares_on hr_shares_on (by rfl) (pa_cons (pv 0) (pa_cons (pv 1) (pa_cons (pv 2) (pa_cons (pv 6) pa_nil)))))) (pg_name (i := 8) nd rfl (by first | exact Or.inl rfl | exact Or.inr rfl)) (pss_one (ps_if (pt_not (pt_val (pe_df G_is_within hr_is_within (by rfl) (pa_cons (pe_df G_together hr_together (by rfl) (pa_cons (pv 5) (pa_cons (pv 8) pa_nil))) (pa_cons (pv 4) pa_nil))))) (pss_one (ps_ret pe_bl)) pss_nil))))))
  (pss_one (ps_ret pe_bl))), ?_⟩
  intro x vs Q rs hp q
  obtain ⟨cal, js, day, front, later⟩ := x
  obtain ⟨v1, v2, v3, v4, v5, rfl, r1, r2, r3, r4, r5⟩ := rs.c5
  obtain ⟨hpr, hday, hfr, hla⟩ := hp
  simp only at hpr hday hfr hla
  have hjl := hpr.jl
  have q' : ∀ v H', Same H H' → Rep H' v (.bool (leadsOn cal js day front later)) → Q v H' := q
  refine q_for (ei_tupS (ds := front.map lotD) (ed_var rfl r4)) (fun H2 i σ' H' => Same H2 H' ∧ (∃ a b c d, σ' = [some v1, some v2, some v3, some v4, some v5, a, b, c, d]) ∧ ∀ lot ∈ front.take i, ((sharesOn cal js day (others js.length lot)).all fun share => isWithin (together lot share) later) = true)
    (fun H2 s2 => ⟨Same.refl _, ⟨none, none, none, none, rfl⟩, fun lot h => absurd h (by simp)⟩) (fun H2 i σ' H' hi p => p.1) (fun H2 s2 i d v σ' H' H3 hd p s3 rv => ?_) (fun H2 σ' H' s2 p => ?_)
  · obtain ⟨p1, ⟨a, b, c, e, rfl⟩, p3⟩ := p
    rw [List.getElem?_map] at hd
    obtain ⟨lot, hl, rfl⟩ := Option.map_eq_some_iff.mp hd
    have hlot := hfr.2 lot (mem_at hl)
    have sH : Same H H3 := (s2.trans p1).trans s3
    have hol : (others js.length lot).length ≤ 8 := Nat.le_trans (List.length_filter_le _ _) (by rw [rg_len]; exact hjl)
    refine q_asg (d := .list ((others js.length lot).map .int)) (ed_is (ed_lcI (items := rg js.length) (enc := .int) (fun j => !lot.contains j) (fun j => j) (ei_rng (n := (js.length : Int)) (ea_cons (ed_cb (ea_cons (ed_var rfl (r2.mono sH)) ea_nil) cd_lenJobs) ea_nil) ⟨by omega, by omega⟩) (by rw [rg_len]; omega) fun k j hj v7 H4 s4 r7 => ⟨_, bd_name, rfl, eb_test (ed_op (ed_var rfl r7) (ed_var rfl (rv.mono s4)) rd_niI), fun _ => ed_var rfl r7⟩) ?_) fun v6 H4 s4 r6 => ?_
    · rw [List.map_id']; rfl
    · have sH4 := sH.trans s4
      refine s_for (ei_list (ds := (sharesOn cal js day (others js.length lot)).map lotD) (ed_call (cal, js, day, others js.length lot) (ea_cons (ed_var rfl (r1.mono sH4)) (ea_cons (ed_var rfl (r2.mono sH4)) (ea_cons (ed_var rfl (r3.mono sH4)) (ea_cons (ed_var rfl r6) ea_nil)))) ⟨hpr, hday, fun x hx => (mem_others.mp hx).1, hol⟩))
        (fun H5 k σ' H' => Same H5 H' ∧ (∃ b c d, σ' = [some v1, some v2, some v3, some v4, some v5, some v, b, c, d]) ∧ ∀ share ∈ (sharesOn cal js day (others js.length lot)).take k, isWithin (together lot share) later = true)
        (fun H5 s5 => ⟨Same.refl _, ⟨some v6, c, e, rfl⟩, fun x h => absurd h (by simp)⟩) (fun H5 k σ' H' hi p => p.1) (fun H5 s5 k d v8 σ' H' H6 hd2 p s6 r8 => ?_) (fun H5 σ' H' s5 p => ?_)
      · obtain ⟨p4, ⟨b2, c2, e2, rfl⟩, p5⟩ := p
        rw [List.getElem?_map] at hd2
        obtain ⟨share, hsh, rfl⟩ := Option.map_eq_some_iff.mp hd2
        have hs8 : share.length ≤ 8 := Nat.le_trans ((mem_shares hpr.ok).mp (mem_at hsh)).1.length_le hol
        have hl8 := hpr.lot hlot.1 hlot.2
        have sH6 : Same H H6 := ((sH4.trans s5).trans p4).trans s6
        have hinr : InR js.length (together lot share) := fun x hx => by
          rcases mem_together.mp hx with z | z
          · exact hlot.2 x z
          · exact (mem_others.mp (shares_mem (mem_at hsh) x z)).1
        refine s_when (b := !isWithin (together lot share) later) (eb_not (eb_B (ed_call (together lot share, later) (ea_cons (ed_call (lot, share) (ea_cons (ed_var rfl (rv.mono (((s4.trans s5).trans p4).trans s6))) (ea_cons (ed_var rfl r8) ea_nil)) (by show lot.length + share.length < 64; omega)) (ea_cons (ed_var rfl (r5.mono sH6)) ea_nil)) ⟨Nat.le_trans (hpr.lot (together_asc _ _) hinr) (by decide), Nat.le_trans (hpr.lots hla) (by decide)⟩))) (fun ec H7 s7 => ?_) fun ec H7 s7 => ?_
        · refine s_ret ed_bl fun v9 H8 s8 r9 => q' v9 H8 ((sH6.trans s7).trans s8) ?_
          have ef : leadsOn cal js day front later = false := by
            unfold leadsOn
            rw [List.all_eq_false]
            refine ⟨lot, mem_at hl, ?_⟩
            rw [Bool.not_eq_true, List.all_eq_false]
            refine ⟨share, mem_at hsh, ?_⟩
            rw [Bool.not_eq_true'] at ec
            rw [ec]; decide
          rw [ef]; exact r9
        · refine ⟨(p4.trans s6).trans s7, ⟨b2, c2, some v8, rfl⟩, fun x hx => ?_⟩
          rcases mem_take_succ hsh hx with z | z
          · exact p5 x z
          · rw [z]; rw [Bool.not_eq_false'] at ec; exact ec
      · obtain ⟨p4, ⟨b2, c2, e2, rfl⟩, p5⟩ := p
        rw [List.length_map, List.take_length] at p5
        refine ⟨((p1.trans s3).trans s4).trans (s5.trans p4), ⟨some v, b2, c2, e2, rfl⟩, fun x hx => ?_⟩
        rcases mem_take_succ hl hx with z | z
        · exact p3 x z
        · rw [z, List.all_eq_true]; exact p5
  · obtain ⟨p1, ⟨a, b, c, e, rfl⟩, p3⟩ := p
    rw [List.length_map, List.take_length] at p3
    refine s_ret ed_bl fun v9 H8 s8 r9 => q' v9 H8 ((s2.trans p1).trans s8) ?_
    have et : leadsOn cal js day front later = true := by
      unfold leadsOn
      rw [List.all_eq_true]
      exact p3
    rw [et]; exact r9
end K52
end
section
set_option Elab.async false
set_option linter.all false
set_option maxRecDepth 100000
/-! are_fronts, is_delay_paper. -/
namespace K52
open PySem PySem.Spec PyProof.Rows L2
variable {P : Program} {w : World} {K : PySem.W.Frag} {mg : Str → Option Value} {base : Heap}
structure DelPre (x : Cal × Jobs × Int × PyData) : Prop where
  pr : Pr x.1 x.2.1
  sm : Sm 3 x.2.2.2
theorem leads_rg {cal : Cal} {js : Jobs} {F : List (List Lot)} : leadsAll cal js F = ((rg ((F.length : Int) - 1).toNat).all fun k => leadsOn cal js k (F.getD k.toNat []) (F.getD (k + 1).toNat [])) := by
  have e : ((F.length : Int) - 1).toNat = F.length - 1 := by omega
  rw [e, all_rg]
  rfl
def spAreFronts : Sp := spP (α := Cal × Jobs × PyData) (fun x => [lotD x.1, jobsD x.2.1, x.2.2]) (fun x => Pr x.1 x.2.1 ∧ Sm 3 x.2.2) (fun x => .bool (areFronts x.1 x.2.1 x.2.2))
theorem scAreFronts : FnScope ["calendar", "jobs", "value", "front", "day"] ["calendar", "jobs", "value"] (defScope sAreFronts) := ⟨rfl, rfl, rfl, by decide +kernel, rfl, by decide +kernel, by decide +kernel⟩
theorem df_areFronts (F : Bl mg) (D : DefAt K mg "are_fronts" sAreFronts) (G_is_front : Df P w K mg base 5 "is_front" ["jobs", "value"] spIsFront) (G_leads_on : Df P w K mg base 2 "leads_on" ["calendar", "jobs", "day", "front", "later"] spLeadsOn) : Df P w K mg base 6 "are_fronts" ["calendar", "jobs", "value"] spAreFronts := by
  have nd := scAreFronts.nd
  refine df_pure D scAreFronts (fun _ _ _ _ _ _ us hl => match us, hl with | [_, _, _], _ => rfl) (fun _ _ _ _ _ _ us hl => match us, hl with | [_, _, _], _ => rfl) (fun _ => rfl) fun f cdv A outer s H E hr =>
    have hu5 : (A.deeper (envOfC "are_fronts" (defScope sAreFronts) s.heap.objs.size f cdv)).units + 65 < cLine := by have := hr.un; omega
    have hr_is_front := hr
    have hr_leads_on := hr.mono (j := 2) (by decide)
    ⟨_, PSs.nox (pss_cons (ps_if (PW.pt (pw_or (pt_not (pt_val (pe_callB (clIsi K) (by rfl) F.isinstance boot_isinstance (pa_cons (pv 2) (pa_cons (pe_bltn (v := .ty "tuple") (by rfl) F.tuple boot_tuple rfl) pa_nil))))) (pw_or1 (pt_not (pt_chain op_le op_le pe_int (pe_callB (clLen K) (by rfl) F.len boot_len (pa_cons (pv 2) pa_nil)) (pe_op op_add (pe_callB (clLen K) (by rfl) F.len boot_len (pa_cons (pv 0) pa_nil)) pe_int)))))) (pss_one (ps_ret pe_bl)) pss_nil)
  (pss_cons (ps_if (pt_not (pt_val (pe_callB (clAll K rfl) (by rfl) F.all boot_all (pa_cons (pe_lc (own := [("front", 3)]) (g := gName 3) (tt := tYes) rfl nd (piT K (pv 2)) (blkOk_by (by kernel_rfl)) (fun _ _ _ _ _ => (pg_name (i := 3) nd rfl (by first | exact Or.inl rfl | exact Or.inr rfl))) (fun _ _ _ _ _ => pts_nil) (fun _ _ _ _ _ => (pe_df G_is_front hr_is_front (by rfl) (pa_cons (pv 1) (pa_cons (pv 3) pa_nil))))) pa_nil)))) (pss_one (ps_ret pe_bl)) pss_nil)
  (pss_one (ps_ret (pe_callB (clAll K rfl) (by rfl) F.all boot_all (pa_cons (pe_lc (own := [("day", 4)]) (g := gName 4) (tt := tYes) rfl nd (pi_range1 (by rfl) F.range (pa_cons (pe_op op_sub (pe_callB (clLen K) (by rfl) F.len boot_len (pa_cons (pv 2) pa_nil)) pe_int) pa_nil)) (blkOk_by (by kernel_rfl)) (fun _ _ _ _ _ => (pg_name (i := 4) nd rfl (by first | exact Or.inl rfl | exact Or.inr rfl))) (fun _ _ _ _ _ => pts_nil) (fun _ _ _ _ _ => (pe_df G_leads_on hr_leads_on (by rfl) (pa_cons (pv 0) (pa_cons (pv 1) (pa_cons (pv 4) (pa_cons (pe_ix (ixT K) (pv 2) (pv 4) (fun _ _ => rfl)) (pa_cons (pe_ix (ixT K) (pv 2) (pe_op op_add (pv 4) pe_int) (fun _ _ => rfl)) pa_nil)))))))) pa_nil)))))), ?_⟩
  intro x vs Q rs hp q
  obtain ⟨cal, js, d⟩ := x
  obtain ⟨v1, v2, v, rfl, r1, r2, r⟩ := rs.c3
  obtain ⟨hpr, hsm⟩ := hp
  simp only at hpr hsm
  have hcl := hpr.cl
  have q' : ∀ v H', Same H H' → Rep H' v (.bool (areFronts cal js d)) → Q v H' := q
  cases ht : isTup d with
  | false =>
    refine q_when (b := true) (eb_is (eb_or (b := true) (eb_not (eb_B (ed_isi (ed_var rfl r) (kit_tup d)))) fun e => by rw [ht] at e; cases e) (by rw [ht]; rfl)) (fun _ H1 s1 => s_ret ed_bl fun v H2 s2 rv => q' v H2 (s1.trans s2) ?_) fun e => by cases e
    have e : areFronts cal js d = false := by unfold areFronts; rw [ht]; rfl
    rw [e]; exact rv
  | true =>
    have hd := tup_of ht
    generalize hds : itemsOf d = ds at hd
    have hz : ds.length ≤ 300 := by rw [← hds]; exact hsm.1
    have hse : ∀ e ∈ ds, Sm 2 e := by rw [← hds]; exact hsm.2
    subst hd
    have hfull : areFronts cal js (.tuple ds) = (decide (1 ≤ ds.length ∧ ds.length ≤ cal.length + 1) && ds.all (isFront js.length) && leadsAll cal js (frontsIn (.tuple ds))) := rfl
    refine q_when (b := !(decide (1 ≤ (ds.length : Int)) && decide ((ds.length : Int) ≤ cal.length + 1))) (eb_is (eb_or (eb_not (eb_B (ed_isi (ed_var rfl r) (kit_tup _)))) fun e => eb_not (eb_test (ed_chain ed_int (ed_cb (ea_cons (ed_var rfl r) ea_nil) cd_lenT) (ed_op (ed_cb (ea_cons (ed_var rfl r1) ea_nil) cd_lenLot) ed_int rd_add) rd_le rd_le))) rfl) (fun e H1 s1 => s_ret ed_bl fun v H2 s2 rv => q' v H2 (s1.trans s2) ?_) fun e H1 s1 => ?_
    · have e2 : areFronts cal js (.tuple ds) = false := by
        rw [hfull]
        have : decide (1 ≤ ds.length ∧ ds.length ≤ cal.length + 1) = false := by
          refine decide_eq_false fun h => ?_
          rw [decide_eq_true (by omega), decide_eq_true (by omega)] at e
          cases e
        rw [this]; rfl
      rw [e2]; exact rv
    · have hlen : 1 ≤ ds.length ∧ ds.length ≤ cal.length + 1 := by
        rw [Bool.not_eq_false', Bool.and_eq_true, decide_eq_true_eq, decide_eq_true_eq] at e
        omega
      refine q_when (b := !ds.all (isFront js.length)) (eb_not (eb_B (ed_all (items := ds) (enc := id) (isFront js.length) (by rw [mapid]; exact ei_tupS (ed_var rfl (r.mono s1))) (Nat.le_trans hz (by decide)) fun i a ha v3 H2 s2 r3 =>
        ⟨_, bd_name, rfl, ed_call (js, a) (ea_cons (ed_var rfl (r2.mono (s1.trans s2))) (ea_cons (ed_var rfl r3) ea_nil)) (hse a (mem_at ha))⟩))) (fun e H2 s2 => s_ret ed_bl fun v H3 s3 rv => q' v H3 ((s1.trans s2).trans s3) ?_) fun e H2 s2 => ?_
      · have e2 : areFronts cal js (.tuple ds) = false := by
          rw [hfull]
          rw [Bool.not_eq_true'] at e
          rw [e, Bool.and_false, Bool.false_and]
        rw [e2]; exact rv
      · rw [Bool.not_eq_false'] at e
        obtain ⟨h1, h2⟩ := fronts_of e
        have hFl : (frontsIn (.tuple ds)).length = ds.length := by show (ds.map frontOf).length = _; rw [List.length_map]
        have e2 : areFronts cal js (.tuple ds) = leadsAll cal js (frontsIn (.tuple ds)) := by rw [hfull, decide_eq_true hlen, e]; rfl
        rw [e2, leads_rg] at q'
        have r' : Rep H2 v (frontsD (frontsIn (.tuple ds))) := by rw [← h1]; exact r.mono (s1.trans s2)
        rw [← hFl] at hlen
        generalize frontsIn (.tuple ds) = F at r' h2 q' hlen
        refine s_ret (ed_all (items := rg ((F.length : Int) - 1).toNat) (enc := .int) (fun k => leadsOn cal js k (F.getD k.toNat []) (F.getD (k + 1).toNat [])) (ei_adj (ed_cb (ea_cons (ed_var rfl r') ea_nil) cd_lenFronts) (by omega)) (by rw [rg_len]; omega) fun i k ha v1 H3 s3 r3 => ?_) fun v H3 s3 rv => q' v H3 ((s1.trans s2).trans s3) rv
        obtain ⟨k1, k2⟩ := adj_lt (mem_at ha)
        have sH := (s1.trans s2).trans s3
        exact ⟨_, bd_name, rfl, ed_call (cal, js, k, F.getD k.toNat [], F.getD (k + 1).toNat []) (ea_cons (ed_var rfl (r1.mono sH)) (ea_cons (ed_var rfl (r2.mono sH)) (ea_cons (ed_var rfl r3) (ea_cons (ed_op (ed_var rfl (r'.mono s3)) (ed_var rfl r3) (rd_ixT (atI_map (dflt := []) k1))) (ea_cons (ed_op (ed_var rfl (r'.mono s3)) (ed_op (ed_var rfl r3) ed_int rd_add) (rd_ixT (atI_map (dflt := []) k2))) ea_nil))))) ⟨hpr, by show 0 ≤ k ∧ k < cal.length; omega, (getF h2 (by omega)).2, (getF h2 (by omega)).2⟩⟩
def spIsDelay : Sp := spP (α := Cal × Jobs × Int × PyData) (fun x => [lotD x.1, jobsD x.2.1, .int x.2.2.1, x.2.2.2]) DelPre (fun x => .bool (isDelay x.1 x.2.1 x.2.2.1 x.2.2.2))
theorem scIsDelay : FnScope ["calendar", "jobs", "days", "value"] ["calendar", "jobs", "days", "value"] (defScope sIsDelayPaper) := ⟨rfl, rfl, rfl, by decide +kernel, rfl, by decide +kernel, by decide +kernel⟩
theorem areFronts_in {cal : Cal} {js : Jobs} {d : PyData} (h : areFronts cal js d = true) : d = frontsD (frontsIn d) ∧ FrontsOk js.length (frontsIn d) ∧ frontsIn d ≠ [] ∧ (frontsIn d).length ≤ cal.length + 1 ∧ leadsAll cal js (frontsIn d) = true := by
  unfold areFronts at h
  rw [Bool.and_eq_true, Bool.and_eq_true, Bool.and_eq_true, decide_eq_true_eq] at h
  obtain ⟨⟨⟨h1, h2⟩, h3⟩, h4⟩ := h
  have e := tup_of h1
  have f := fronts_of h3
  rw [← e] at f
  refine ⟨f.1, f.2, fun z => ?_, by unfold frontsIn; rw [List.length_map]; exact h2.2, h4⟩
  unfold frontsIn at z
  rw [List.map_eq_nil_iff] at z
  rw [z] at h2
  exact absurd h2.1 (by decide)
theorem df_isDelay (F : Bl mg) (D : DefAt K mg "is_delay_paper" sIsDelayPaper) (G_are_fronts : Df P w K mg base 6 "are_fronts" ["calendar", "jobs", "value"] spAreFronts) (G_all_jobs : Df P w K mg base 1 "all_jobs" ["jobs"] spAllJobs) : Df P w K mg base 7 "is_delay_paper" ["calendar", "jobs", "days", "value"] spIsDelay := by
  have nd := scIsDelay.nd
  refine df_pure D scIsDelay (fun _ _ _ _ _ _ us hl => match us, hl with | [_, _, _, _], _ => rfl) (fun _ _ _ _ _ _ us hl => match us, hl with | [_, _, _, _], _ => rfl) (fun _ => rfl) fun f cdv A outer s H E hr =>
    have hu : (A.deeper (envOfC "is_delay_paper" (defScope sIsDelayPaper) s.heap.objs.size f cdv)).units + 64 < cLine := hr.units
    have hu5 : (A.deeper (envOfC "is_delay_paper" (defScope sIsDelayPaper) s.heap.objs.size f cdv)).units + 65 < cLine := by have := hr.un; omega
    have hr_are_fronts := hr
    have hr_all_jobs := hr.mono (j := 1) (by decide)
    ⟨_, PSs.nox (pss_cons (ps_if (PW.pt (pw_or (pt_not (pt_val (pe_df G_are_fronts hr_are_fronts (by rfl) (pa_cons (pv 0) (pa_cons (pv 1) (pa_cons (pv 3) pa_nil)))))) (pw_or1 (pt_cmpR (opNe K hu) (pe_callB (clLen K) (by rfl) F.len boot_len (pa_cons (pv 3) pa_nil)) (pe_op op_add (pv 2) pe_int) (nomark _))))) (pss_one (ps_ret pe_bl)) pss_nil)
  (pss_one (ps_ret (pe_cmpR (opNi K hu5) (pe_df G_all_jobs hr_all_jobs (by rfl) (pa_cons (pv 1) pa_nil)) (pe_ix (ixT K) (pv 3) (pe_un un_neg pe_int) (fun _ _ => rfl)) rfl)))), ?_⟩
  intro x vs Q rs hp q
  obtain ⟨cal, js, days, d⟩ := x
  obtain ⟨v1, v2, v3, v, rfl, r1, r2, r3, r⟩ := rs.c4
  obtain ⟨hpr, hsm⟩ := hp
  simp only at hpr hsm
  have hjl := hpr.jl
  have q' : ∀ v H', Same H H' → Rep H' v (.bool (isDelay cal js days d)) → Q v H' := q
  have hA : EB (tB (tCall spAreFronts [] E0 (tCons (tVar 0) (tCons (tVar 1) (tCons (tVar 3) tNil))))) (start ["calendar", "jobs", "days", "value"] [v1, v2, v3, v]) H (areFronts cal js d) := eb_B (ed_call (cal, js, d) (ea_cons (ed_var rfl r1) (ea_cons (ed_var rfl r2) (ea_cons (ed_var rfl r) ea_nil))) ⟨hpr, hsm⟩)
  cases ha : areFronts cal js d with
  | false =>
    refine q_when (b := true) (eb_is (eb_or (b := true) (eb_not hA) fun e => by rw [ha] at e; cases e) (by rw [ha]; rfl)) (fun _ H1 s1 => s_ret ed_bl fun v H2 s2 rv => q' v H2 (s1.trans s2) ?_) fun e => by cases e
    have e : isDelay cal js days d = false := by unfold isDelay; rw [ha]; rfl
    rw [e]; exact rv
  | true =>
    obtain ⟨h1, h2, h3, h4, h5⟩ := areFronts_in ha
    have hl : (itemsOf d).length = (frontsIn d).length := by unfold frontsIn; rw [List.length_map]
    have hfull : isDelay cal js days d = (decide (((frontsIn d).length : Int) = days + 1) && !(lastF (frontsIn d)).contains (rg js.length)) := by unfold isDelay; rw [ha, hl]; rfl
    rw [hfull] at q'
    have r' : Rep H v (frontsD (frontsIn d)) := by rw [← h1]; exact r
    generalize frontsIn d = G at r' h2 h3 h4 h5 q'
    refine q_when (b := !decide ((G.length : Int) = days + 1)) (eb_is (eb_or (eb_not hA) fun e => eb_test (ed_op (ed_cb (ea_cons (ed_var rfl r') ea_nil) cd_lenFronts) (ed_op (ed_var rfl r3) ed_int rd_add) rd_neI)) (by rw [ha]; rfl)) (fun e H1 s1 => s_ret ed_bl fun v H2 s2 rv => q' v H2 (s1.trans s2) ?_) fun e H1 s1 => ?_
    · rw [Bool.not_eq_true'] at e
      rw [e]; exact rv
    · rw [Bool.not_eq_false'] at e
      rw [e] at q'
      refine s_ret (ed_op (ed_call js (ea_cons (ed_var rfl (r2.mono s1)) ea_nil) (by show js.length ≤ 1000; omega)) (ed_op (ed_var rfl (r'.mono s1)) (ed_un ed_int ?_) (rd_ixT (atI_neg1 (f := frontD) (dflt := []) h3))) rd_niL) fun v H2 s2 rv => q' v H2 (s1.trans s2) rv
      exact fun H x rx Q q => by
        cases rx
        exact ⟨1, rfl, q _ H (Same.refl _) (.int (-1))⟩
end K52
end
section
set_option Elab.async false
set_option linter.all false
set_option maxRecDepth 100000
/-! Dicts with lots as keys; heaps that are the same but at one place. -/
namespace K52
open PySem PySem.Spec PyProof.Rows L2
/-! ### the same but at D -/
def SB (D : Addr) (H H' : Hp) : Prop := ∀ a, a ≠ D → ∀ o, H a = some o → H' a = some o
theorem SB.of {D : Addr} {H H' : Hp} (e : Same H H') : SB D H H' := fun a _ o h => e a o h
theorem SB.trans {D : Addr} {H H1 H2 : Hp} (a : SB D H H1) (b : SB D H1 H2) : SB D H H2 := fun x hx o h => b x hx o (a x hx o h)
theorem SB.upd {D : Addr} {H H' : Hp} {o : HO} (a : SB D H H') : SB D H (upd H' D o) := fun x hx u h => by rw [upd_ne hx]; exact a x hx u h
theorem SB.refl (D : Addr) (H : Hp) : SB D H H := fun _ _ _ h => h
theorem SB.same {D : Addr} {H0 H H' : Hp} (e : Same H0 H) (h0 : H0 D = none) (a : SB D H H') : Same H0 H' := fun x o h => a x (fun z => by rw [z, h0] at h; cases h) o (e x o h)
theorem SB.ts {D : Addr} {H H' : Hp} (hD : ∀ xs, H D ≠ some (.tup xs)) (a : SB D H H') : TS H H' := fun x xs h => a x (fun z => hD xs (z ▸ h)) _ h
section
variable {K : PySem.W.Frag} {σ : L2.St} {H : Hp} {te : TE} {ds : List PyData} {wi : TI}
theorem EI.to {G G' : Hp → Hp → Prop} (h : EI G wi σ H ds) (hG : ∀ H2 H3, Same H H2 → G' H2 H3 → G H2 H3) : EI G' wi σ H ds := fun H1 s R q => h H1 s R fun J H2 s2 w => q J H2 s2 (w.mono (fun H3 g => hG H2 H3 (s.trans s2) g) fun _ _ _ _ _ _ y => y)
theorem ei_listB {D : Addr} (h : ED te σ H (.list ds)) (hn : noLs ds = true) (hD : ∃ o, H D = some o ∧ (∀ xs, o ≠ .tup xs) ∧ ∀ xs, o ≠ .lst xs) : EI (SB D) (iList K te) σ H ds := fun H1 s R q => h H1 s _ fun v H2 s2 r => by
  obtain ⟨o, hD, ht, hl⟩ := hD
  cases r with
  | @lst a xs _ ha rs =>
    have hD2 : H2 D = some o := s2 _ _ (s _ _ hD)
    have hne : a ≠ D := fun e => by rw [e, hD2] at ha; exact hl xs (Option.some.inj ha)
    refine ⟨a, rfl, ⟨xs, SqL.of ha⟩, q _ H2 s2 ?_⟩
    rw [← rs.length]
    refine (walk_list (K := K) (a := a) (xs := xs)).mono (fun H3 g => SqL.of (g a hne _ ha)) fun i H3 v H4 hi g y => ?_
    obtain ⟨e1, e2⟩ := y
    subst e1
    have ts : TS H2 H4 := SB.ts (fun xs z => by rw [hD2] at z; exact ht xs (Option.some.inj z)) g
    obtain ⟨d, h1, h2⟩ := (Reps.ts ts hn rs).get e2
    exact ⟨Same.refl _, d, h1, h2⟩
end
/-! ### the dict -/
def lk (l : Lot) : List Key := l.map Sum.inl
theorem lk_inj {a b : Lot} : lk a = lk b ↔ a = b := by
  constructor
  · intro h
    have := congrArg (List.map fun k : Key => match k with | .inl i => i | .inr _ => 0) h
    unfold lk at this
    rw [List.map_map, List.map_map] at this
    have e : ((fun k : Key => match k with | .inl i => i | .inr _ => (0 : Int)) ∘ Sum.inl) = id := rfl
    rw [e, List.map_id, List.map_id] at this
    exact this
  · intro h; rw [h]
def UK (u : Used) : List (List Key × V) := u.map fun p => (lk p.1, V.int p.2)
theorem UK_keys (u : Used) : (UK u).map (·.1) = (u.map (·.1)).map fun k => k.map Sum.inl := by unfold UK lk; rw [List.map_map, List.map_map]; rfl
theorem UK_len (u : Used) : (UK u).length = u.length := List.length_map _
theorem valV_UK (u : Used) (k : Lot) : valV (UK u) (lk k) = (uget u k).map V.int := by
  unfold valV UK uget
  rw [List.find?_map]
  have e : ((fun kv : List Key × V => decide (kv.1 = lk k)) ∘ fun p : Lot × Int => (lk p.1, V.int p.2)) = fun p : Lot × Int => decide (p.1 = k) := by
    funext p
    exact decide_eq_decide.mpr lk_inj
  rw [e]
  cases u.find? fun p => decide (p.1 = k) <;> rfl
theorem putK_UK (u : Used) (k : Lot) (x : Int) : putK (UK u) (lk k) (.int x) = UK (uput u k x) := by
  unfold putK UK uput
  have e : ((u.map fun p : Lot × Int => (lk p.1, V.int p.2)).any fun kv => decide (kv.1 = lk k)) = u.any fun p => decide (p.1 = k) := by
    rw [List.any_map]
    congr 1
    funext p
    exact decide_eq_decide.mpr lk_inj
  rw [e]
  by_cases c : (u.any fun p => decide (p.1 = k)) = true
  · rw [if_pos c, if_pos c, List.map_map, List.map_map]
    refine List.map_congr_left fun p _ => ?_
    show (if lk p.1 = lk k then (lk p.1, V.int x) else (lk p.1, V.int p.2)) = ((lk (if p.1 = k then (p.1, x) else p).1, V.int (if p.1 = k then (p.1, x) else p).2) : List Key × V)
    by_cases c2 : p.1 = k
    · rw [if_pos c2, if_pos (by rw [c2])]
    · rw [if_neg c2, if_neg (fun z => c2 (lk_inj.mp z))]
  · rw [if_neg c, if_neg c, List.map_append]
    rfl
/-- the keys are lots, no one twice -/
structure KInv (n : Nat) (u : Used) : Prop where
  nd : (u.map (·.1)).Nodup
  lot : ∀ k ∈ u.map (·.1), Asc k ∧ InR n k
theorem KInv.len {n : Nat} {u : Used} (h : KInv n u) : u.length ≤ 2 ^ n := by
  have := nodup_len (f := u.map (·.1)) (g := subs (rg n)) h.nd fun x hx => mem_subs (lot_sub (h.lot x hx).1 (h.lot x hx).2)
  rw [subs_len, rg_len, List.length_map] at this
  exact this
theorem mem_uput_keys {u : Used} {k y : Lot} {x : Int} : y ∈ (uput u k x).map (·.1) ↔ y = k ∨ y ∈ u.map (·.1) := by
  rw [uput_keys]
  by_cases c : (u.any fun p => decide (p.1 = k)) = true
  · rw [if_pos c]
    constructor
    · exact .inr
    · rintro (e | e)
      · obtain ⟨p, hp, e2⟩ := List.any_eq_true.mp c
        rw [decide_eq_true_eq] at e2
        exact List.mem_map.mpr ⟨p, hp, by rw [e2, e]⟩
      · exact e
  · rw [if_neg c, List.mem_append, List.mem_singleton]
    exact ⟨fun h => h.symm, fun h => h.symm⟩
theorem KInv.put {n : Nat} {u : Used} (h : KInv n u) {k : Lot} {x : Int} (hk : Asc k ∧ InR n k) : KInv n (uput u k x) :=
  ⟨uput_nd h.nd k x, fun y hy => by
    rcases mem_uput_keys.mp hy with e | e
    · rw [e]; exact hk
    · exact h.lot y e⟩
section
variable {cal : Cal} {js : Jobs} {day : Int}
theorem KInv.step {u : Used} (h : KInv js.length u) {job : Int} {lot : Lot} (hj : 0 ≤ job ∧ job < js.length) (hl : InR js.length lot) : KInv js.length (stepLot cal js day job u lot) := by
  unfold stepLot
  split
  · refine h.put ⟨together_asc _ _, fun x hx => ?_⟩
    rcases mem_together.mp hx with e | e
    · exact hl x e
    · rw [List.mem_singleton.mp e]; exact hj
  · exact h
theorem step_keys {u : Used} {job : Int} {lot k : Lot} (h : k ∈ u.map (·.1)) : k ∈ (stepLot cal js day job u lot).map (·.1) := by
  unfold stepLot
  split
  · exact mem_uput_keys.mpr (.inr h)
  · exact h
theorem KInv.fold {job : Int} (hj : 0 ≤ job ∧ job < js.length) : ∀ (ls : List Lot) {u : Used}, KInv js.length u → (∀ l ∈ ls, InR js.length l) → KInv js.length (ls.foldl (stepLot cal js day job) u) ∧ ∀ k ∈ u.map (·.1), k ∈ (ls.foldl (stepLot cal js day job) u).map (·.1)
  | [], _, h, _ => ⟨h, fun _ hk => hk⟩
  | l :: ls, u, h, hl => by
    obtain ⟨a, b⟩ := KInv.fold hj ls (h.step hj (hl l List.mem_cons_self)) fun x hx => hl x (List.mem_cons_of_mem _ hx)
    exact ⟨a, fun k hk => b k (step_keys hk)⟩
theorem KInv.job {u : Used} (h : KInv js.length u) {job : Int} (hj : 0 ≤ job ∧ job < js.length) : KInv js.length (stepJob cal js day u job) := by
  unfold stepJob
  split
  · exact (KInv.fold hj _ h fun l hl => (h.lot l (mem_lsort.mp hl)).2).1
  · exact h
theorem KInv.zero {n : Nat} {done : List Lot} (h : Lots n done) : KInv n (done.map fun l => (l, 0)) := by
  have e : (done.map fun l : Lot => (l, (0 : Int))).map (·.1) = done := by rw [List.map_map]; exact (List.map_congr_left fun _ _ => rfl).trans (List.map_id done)
  exact ⟨by rw [e]; exact h.1.nodup, by rw [e]; exact h.2⟩
theorem uget_of {u : Used} {k : Lot} (h : k ∈ u.map (·.1)) : ∃ x, uget u k = some x := by
  obtain ⟨p, hp, rfl⟩ := List.mem_map.mp h
  unfold uget
  cases e : u.find? fun q => decide (q.1 = p.1) with
  | some q => exact ⟨q.2, rfl⟩
  | none =>
    have := List.find?_eq_none.mp e p hp
    simp at this
end
/-! ### evaluations over the dict -/
section
variable {K : PySem.W.Frag} {σ : L2.St} {H : Hp} {te tk : TE} {D : Addr} {u : Used}
theorem kV_lk (k : Lot) : (lk k).map kV = k.map V.int := kV_ints k
theorem rep_lot {v : V} {l : Lot} (r : Rep H v (lotD l)) : ∃ b, v = .ref b ∧ H b = some (.tup (l.map V.int)) := by
  cases r with
  | tup ha rs => rw [Reps.of_ints rs] at ha; exact ⟨_, rfl, ha⟩
theorem dget_lot {v : V} {l : Lot} (hd : H D = some (.dT (UK u))) (r : Rep H v (lotD l)) : DGet H D v ((uget u l).map V.int) := by
  obtain ⟨b, rfl, hb⟩ := rep_lot r
  have := DGet.t (k := lk l) hd (by rw [kV_lk]; exact hb)
  rw [valV_UK] at this
  exact this
theorem ed_dget {i : Nat} {l : Lot} {x : Int} (hs : σ[i]? = some (some (.ref D))) (hd : H D = some (.dT (UK u))) (hk : ED tk σ H (lotD l)) (hx : uget u l = some x) : ED (tDGet (tVar i) tk) σ H (.int x) := fun H1 s Q q =>
  ⟨_, hs, hk H1 s _ fun v H2 s2 r => ⟨D, .int x, rfl, by
    have := dget_lot (s2 _ _ (s _ _ hd)) r
    rw [hx] at this
    exact this, q _ H2 s2 (.int x)⟩⟩
theorem ed_dget2 {i : Nat} {l : Lot} {x : Int} (hs : σ[i]? = some (some (.ref D))) (hd : H D = some (.dT (UK u))) (hk : ED tk σ H (lotD l)) (hx : ED te σ H (.int x)) : ED (tDGet2 (tVar i) tk te) σ H (.int ((uget u l).getD x)) := fun H1 s Q q =>
  ⟨_, hs, D, rfl, .inr ⟨_, .inl (s _ _ hd)⟩, hk H1 s _ fun v H2 s2 r => hx H2 (s.trans s2) _ fun z H3 s3 rz => by
    cases rz
    refine ⟨_, dget_lot ((s.trans (s2.trans s3)) _ _ hd) (r.mono s3), ?_⟩
    cases e : uget u l with
    | none => rw [e] at q; exact q _ H3 (s2.trans s3) (.int x)
    | some y => rw [e] at q; exact q _ H3 (s2.trans s3) (.int y)⟩
theorem ed_sortedDT {i : Nat} {ks : List Lot} {kvs : List (List Key × V)} (hs : σ[i]? = some (some (.ref D))) (hd : H D = some (.dT kvs)) (hk : kvs.map (·.1) = ks.map lk) (nd : ks.Nodup) : ED (tCB rSortedDT (tCons (tVar i) tNil)) σ H (.list ((lsort ks).map lotD)) := fun H1 s Q q =>
  ⟨_, hs, D, kvs, ks, rfl, s _ _ hd, hk, fun p bs hp pm pw hb => by
    have e : bs.map (·.2) = lsort ks := LAsc.ext (lasc_of (pm.nodup_iff.mpr nd) (List.pairwise_map.mpr pw)) (lsort_asc _) fun x => by rw [mem_lsort, pm.mem_iff]
    refine q _ _ (same_new hp) (.lst upd_same ?_)
    rw [← e]
    exact Reps.of_lots fun b hbm => same_new hp _ _ (hb b hbm)⟩
/-- {lot: z for lot in done} -/
theorem t_dcT {j : Nat} {vs : List Nat} {done : List Lot} {z : V} {Q : VK} (h : ED te σ H (frontD done)) (nd : done.Nodup) (hz : done.length ≤ 1000) (hw : ∀ v : V, wipe ((wipe σ vs).set j (some v)) vs = wipe σ vs) (hj : ∀ v : V, ((wipe σ vs).set j (some v))[j]? = some (some v))
    (q : ∀ D H', H D = none → Same H H' → H' D = some (.dT (done.map fun l => (lk l, z))) → Q (.ref D) H') : tDcT (iTup K te) (gName j) (tVar j) (tC z) vs σ H Q := by
  refine ei_tupS (K := K) (ds := done.map lotD) h H (Same.refl _) _ fun J H1 s1 w D hD => ?_
  rw [List.length_map] at w
  refine ⟨fun i m H' => m = done.length - i ∧ i ≤ done.length ∧ Same H1 H' ∧ H' D = some (.dT ((done.take i).map fun l => (lk l, z))), ⟨done.length, by simp, Nat.zero_le _, same_new hD, upd_same⟩, ?_⟩
  rintro i m H' ⟨rfl, hi, p1, p2⟩
  by_cases hlt : i < done.length
  · refine .inr ⟨w.goes i H' hlt p1, fun H2 => Same H1 H2 ∧ H2 D = some (.dT ((done.take (i + 1)).map fun l => (lk l, z))), fun H2 g => ⟨done.length - (i + 1), by omega, rfl, hlt, g⟩, fun v H2 y => ?_⟩
    obtain ⟨y1, d, y2, y3⟩ := w.yields i H' v H2 hlt p1 y
    rw [List.getElem?_map] at y2
    obtain ⟨l, hl, rfl⟩ := Option.map_eq_some_iff.mp y2
    obtain ⟨b, rfl, hb⟩ := rep_lot y3
    have et : done.take (i + 1) = done.take i ++ [l] := by rw [List.take_succ, hl]; rfl
    refine ⟨hw _, .ref b, hj _, b, (done.take i).map fun l => (lk l, z), lk l, rfl, by rw [kV_lk]; exact hb, y1 _ _ p2, ?_, same_mut (p1.trans y1) hD, ?_⟩
    · rw [List.length_map, List.length_take]
      exact Nat.lt_of_le_of_lt (show min i done.length ≤ 1000 by omega) (by decide)
    · rw [upd_same]
      congr 1
      have hno : ((((done.take i).map fun l => (lk l, z)) : List (List Key × V)).any fun kv => decide (kv.1 = lk l)) = false := by
        rw [List.any_eq_false]
        intro kv hkv e
        obtain ⟨l', hl', rfl⟩ := List.mem_map.mp hkv
        rw [decide_eq_true_eq] at e
        have e' := lk_inj.mp e
        subst e'
        have nd2 : (done.take (i + 1)).Nodup := List.Pairwise.sublist (List.take_sublist _ _) nd
        rw [et] at nd2
        exact (List.nodup_append.mp nd2).2.2 l' hl' l' (List.mem_singleton.mpr rfl) rfl
      unfold putK
      rw [if_neg (by rw [hno]; decide), et, List.map_append]
      rfl
  · have e : i = done.length := by omega
    subst e
    rw [List.take_length] at p2
    exact .inl ⟨w.stops H' p1, q D H' (by
      cases h0 : H D with
      | none => rfl
      | some o => have := s1 _ _ h0; rw [hD] at this; cases this) (s1.trans p1) p2⟩
end
end K52
end
section
set_option Elab.async false
set_option linter.all false
set_option maxRecDepth 100000
/-! done_later. -/
namespace K52
open PySem PySem.Spec PyProof.Rows L2
variable {P : Program} {w : World} {K : PySem.W.Frag} {mg : Str → Option Value} {base : Heap}
/-- a pair whose second is a pair -/
theorem bd_pair3 {H : Hp} {v : V} {d1 d2 d3 : PyData} {i j k : Nat} (r : Rep H v (.tuple [d1, .tuple [d2, d3]])) (σ : L2.St) : ∃ x y z, Bd (gTup K 2 (gCons (gName i) (gCons (gTup K 2 (gCons (gName j) (gCons (gName k) gNil))) gNil))) v σ H (((σ.set i (some x)).set j (some y)).set k (some z)) ∧ Rep H x d1 ∧ Rep H y d2 ∧ Rep H z d3 := by
  cases r with
  | tup ha rs =>
    obtain ⟨x, u, rfl, r1, r2⟩ := rs.c2
    obtain ⟨y, z, b, r3, r4⟩ := bd_pair (K := K) (i := j) (j := k) r2 (σ.set i (some x))
    exact ⟨x, y, z, fun Q q => ⟨_, _, rfl, SqT.of ha, rfl, x, [u], rfl, u, [], rfl, b _ ⟨rfl, q⟩⟩, r1, r3, r4⟩
theorem q_asgT {te : TE} {i : Nat} {tz : L2.TS} {D : Ends} {σ : L2.St} {H : Hp} (h : te σ H fun v H1 => tz D (σ.set i (some v)) H1) : tSeq (tAsg te (gName i)) tz D σ H := h
structure LaterPre (x : Cal × Jobs × Int × List Lot) : Prop where
  pr : Pr x.1 x.2.1
  day : 0 ≤ x.2.2.1 ∧ x.2.2.1 < x.1.length
  done : Lots x.2.1.length x.2.2.2
def spDoneLater : Sp := spP (α := Cal × Jobs × Int × List Lot) (fun x => [lotD x.1, jobsD x.2.1, .int x.2.2.1, frontD x.2.2.2]) LaterPre (fun x => frontD (doneLater x.1 x.2.1 x.2.2.1 x.2.2.2))
theorem scDoneLater : FnScope ["calendar", "jobs", "day", "done", "used", "lot", "job", "gifts", "days", "more"] ["calendar", "jobs", "day", "done"] (defScope sDoneLater) := ⟨rfl, rfl, rfl, by decide +kernel, rfl, by decide +kernel, by decide +kernel⟩
theorem noLs_jobsP (js : Jobs) : noLs (js.map jobD) = true := noL_jobs js
theorem df_doneLater (F : Bl mg) (D : DefAt K mg "done_later" sDoneLater) (G_together : Df P w K mg base 1 "together" ["lot", "other"] spTogether) : Df P w K mg base 2 "done_later" ["calendar", "jobs", "day", "done"] spDoneLater := by
  have nd := scDoneLater.nd
  refine df_pure D scDoneLater (fun _ _ _ _ _ _ us hl => match us, hl with | [_, _, _, _], _ => rfl) (fun _ _ _ _ _ _ us hl => match us, hl with | [_, _, _, _], _ => rfl) (fun _ => rfl) fun f cdv A outer s H E hr =>
    have hu : (A.deeper (envOfC "done_later" (defScope sDoneLater) s.heap.objs.size f cdv)).units + 64 < cLine := hr.units
    have hu1 : (A.deeper (envOfC "done_later" (defScope sDoneLater) s.heap.objs.size f cdv)).units + 1 < cLine := hu_of hr
    have hu5 : (A.deeper (envOfC "done_later" (defScope sDoneLater) s.heap.objs.size f cdv)).units + 65 < cLine := by have := hr.un; omega
    have hr_together := hr
    ⟨_, PSs.nox (pss_cons (ps_setDcT (i := 4) (own := [("lot", 5)]) (g := gName 5) hu1 rfl nd rfl rfl (swD_true rfl rfl rfl (by decide +kernel)) (piT K (pv 3)) (blkOk_by (by kernel_rfl)) (fun _ _ _ _ _ => (pg_name (i := 5) nd rfl (by first | exact Or.inl rfl | exact Or.inr rfl))) (fun _ _ _ _ _ => (pv 5)) (fun _ _ _ _ _ => pe_int))
  (pss_cons (ps_for PassesOwn.never rfl (piE K (by rfl) F.enumerate (pa_cons (pv 1) pa_nil)) (pgT K (n := 2) rfl (pgs_cons (pg_name (i := 6) nd rfl (by first | exact Or.inl rfl | exact Or.inr rfl)) (pgs_cons (pgT K (n := 2) rfl (pgs_cons (pg_name (i := 7) nd rfl (by first | exact Or.inl rfl | exact Or.inr rfl)) (pgs_cons (pg_name (i := 8) nd rfl (by first | exact Or.inl rfl | exact Or.inr rfl)) pgs_nil))) pgs_nil))) (pss_one (ps_if (pt_cmpR (opIn K hu5) (pv 2) (pv 8) rfl) (pss_one (ps_for PassesOwn.never rfl (piL K (pe_callB (cr_sortedDT rfl hu) (by rfl) F.sorted boot_sorted (pa_cons (pv 4) pa_nil))) (pg_name (i := 5) nd rfl (by first | exact Or.inl rfl | exact Or.inr rfl)) (pss_one (ps_if (PW.pt (pw_and (pt_cmpR (opNi K hu5) (pv 6) (pv 5) rfl) (pw_and1 (pt_cmpR op_le (pe_op op_add (pe_dget hu1 (pv 4) (pv 5) (fun _ _ => rfl)) (pv 7)) (pe_ix (ixT K) (pv 0) (pv 2) (fun _ _ => rfl)) (nomark _))))) (pss_cons (ps_set (i := 9) nd rfl (Or.inl rfl) (pe_df G_together hr_together (by rfl) (pa_cons (pv 5) (pa_cons (pe_tup (pa_cons (pv 6) pa_nil)) pa_nil))))
  (pss_one (ps_dput hu1 (pv 4) (pv 9) (pe_callB (call_min2 rfl) (by rfl) F.min boot_min (pa_cons (pe_dget2 hu1 (pv 4) (pv 9) (pe_ix (ixT K) (pv 0) (pv 2) (fun _ _ => rfl)) ⟨rfl, rfl, rfl, rfl⟩) (pa_cons (pe_op op_add (pe_dget hu1 (pv 4) (pv 5) (fun _ _ => rfl)) (pv 7)) pa_nil))) rfl))) pss_nil)))) pss_nil)))
  (pss_one (ps_ret (pe_callTy (clTuple K) (by rfl) F.tuple boot_tuple (pa_cons (pe_callB (cr_sortedDT rfl hu) (by rfl) F.sorted boot_sorted (pa_cons (pv 4) pa_nil)) pa_nil)))))), ?_⟩
  intro x vs Q rs hp q
  obtain ⟨cal, js, day, done⟩ := x
  obtain ⟨v1, v2, v3, v4, rfl, r1, r2, r3, r4⟩ := rs.c4
  obtain ⟨hpr, hday, hdo⟩ := hp
  simp only at hpr hday hdo
  have hjl := hpr.jl
  have q' : ∀ v H', Same H H' → Rep H' v (frontD (doneLater cal js day done)) → Q v H' := q
  refine q_asgT (t_dcT (K := K) (done := done) (z := .int 0) (ed_var rfl r4) hdo.1.nodup (Nat.le_trans (hpr.lots hdo) (by decide)) (fun _ => rfl) (fun _ => rfl) fun D H1 hD s1 hH1 => ?_)
  have e0 : (done.map fun l => (lk l, V.int 0)) = UK (done.map fun l => (l, 0)) := by unfold UK; rw [List.map_map]; rfl
  rw [e0] at hH1
  have hDt : ∀ {H2 : Hp}, Same H1 H2 → ∀ xs, H2 D ≠ some (.tup xs) := fun s xs z => by rw [s _ _ hH1] at z; cases z
  have hUin : ∀ i, i ≤ js.length → KInv js.length ((rg i).foldl (stepJob cal js day) (done.map fun l => (l, 0))) := fun i => by
    induction i with
    | zero => intro _; exact KInv.zero hdo
    | succ i ih =>
      intro hi
      rw [rg_succ, List.foldl_append]
      exact (ih (by omega)).job ⟨by omega, by omega⟩
  -- the jobs, one by one
  refine q_for (EI.to (G' := SB D) (ei_en (ea_cons (ed_var rfl (r2.mono s1)) ea_nil) (noLs_jobsP js)) fun H2 H3 s g => SB.ts (hDt s) g)
    (fun H2 i σ' H' => SB D H2 H' ∧ Same H1 H2 ∧ H' D = some (.dT (UK (usedOf cal js day done i))) ∧ ∃ a b c d e, σ' = [some v1, some v2, some v3, some v4, some (.ref D), a, b, c, d, e])
    (fun H2 s2 => ⟨SB.refl _ _, s2, s2 _ _ hH1, none, none, none, none, none, rfl⟩) (fun H2 i σ' H' hi p => p.1) (fun H2 s2 i d v σ' H' H3 hd p s3 rv => ?_) (fun H2 σ' H' s2 p => ?_)
  · obtain ⟨p1, p2, p3, a, b, c, e, g, rfl⟩ := p
    rw [pairsD_map (f := jobD) (0, []), List.getElem?_map] at hd
    obtain ⟨job, hj, rfl⟩ := Option.map_eq_some_iff.mp hd
    have hjr : 0 ≤ job ∧ job < (js.length : Int) := mem_rg.mp (mem_at hj)
    have hji : job = (i : Int) := by
      unfold rg at hj
      rw [List.getElem?_map] at hj
      obtain ⟨k, hk, rfl⟩ := Option.map_eq_some_iff.mp hj
      rw [List.getElem?_range (by have := (List.getElem?_eq_some_iff.mp hk).1; rw [List.length_range] at this; exact this)] at hk
      cases hk; rfl
    have hin : i < js.length := by omega
    have hstep : usedOf cal js day done (i + 1) = stepJob cal js day (usedOf cal js day done i) job := by
      unfold usedOf
      rw [rg_succ, List.foldl_append, hji]; rfl
    have hK := hUin i (by omega)
    have hK' : KInv js.length (usedOf cal js day done i) := hK
    generalize usedOf cal js day done i = u at p3 hstep hK'
    obtain ⟨y, z, t, bd, ry, rz, rt⟩ := bd_pair3 (K := K) (i := 6) (j := 7) (k := 8) (d1 := .int job) (d2 := .int (gj js job)) (d3 := lotD (dj js job)) rv [some v1, some v2, some v3, some v4, some (.ref D), a, b, c, e, g]
    refine bd _ ?_
    have tsH : TS H1 H3 := (TS.of p2).trans ((SB.ts (hDt p2) p1).trans (TS.of s3))
    have tsO : TS H H3 := (TS.of s1).trans tsH
    have r1' := r1.ts tsO (noL_lot cal)
    have r3' : Rep H3 v3 (.int day) := r3.ts tsO rfl
    have p3' := s3 _ _ p3
    show tIfS _ _ _ _ _ _
    refine s_when (b := (dj js job).contains day) (eb_test (ed_op (ed_var rfl r3') (ed_var rfl rt) rd_inI)) (fun hc H4 s4 => ?_) fun hc H4 s4 => ?_
    · have hks : (UK u).map (·.1) = (u.map fun p : Lot × Int => p.1).map lk := UK_keys u
      have p4 := s4 _ _ p3'
      refine s_for (ei_listB (D := D) (ed_sortedDT (ks := u.map fun p : Lot × Int => p.1) rfl p4 hks hK'.nd) (noLs_map (f := lotD) noL_lot _) ⟨_, p4, (fun xs z => by cases z), (fun xs z => by cases z)⟩)
        (fun H5 k σ' H' => SB D H5 H' ∧ Same H4 H5 ∧ H' D = some (.dT (UK (((lsort (u.map (·.1))).take k).foldl (stepLot cal js day job) u))) ∧ ∃ a b, σ' = [some v1, some v2, some v3, some v4, some (.ref D), a, some y, some z, some t, b])
        (fun H5 s5 => ⟨SB.refl _ _, s5, s5 _ _ p4, a, g, rfl⟩) (fun H5 k σ' H' hi p => p.1) (fun H5 s5 k d v5 σ' H' H6 hd2 p s6 r5 => ?_) (fun H5 σ' H' s5 p => ?_)
      · obtain ⟨m1, m2, m3, a2, b2, rfl⟩ := p
        rw [List.getElem?_map] at hd2
        obtain ⟨lot, hl, rfl⟩ := Option.map_eq_some_iff.mp hd2
        have hlu : lot ∈ u.map (·.1) := mem_lsort.mp (mem_at hl)
        have hlot := hK'.lot lot hlu
        have hl8 := hpr.lot hlot.1 hlot.2
        have hstep2 := foldl_take (f := stepLot cal js day job) (b := u) hl
        obtain ⟨hKu, hku⟩ := KInv.fold (cal := cal) (js := js) (day := day) (job := job) ⟨hjr.1, by omega⟩ ((lsort (u.map (·.1))).take k) hK' fun l hl => (hK'.lot l (mem_lsort.mp (List.mem_of_mem_take hl))).2
        have hxu := uget_of (hku lot hlu)
        generalize ((lsort (u.map (·.1))).take k).foldl (stepLot cal js day job) u = u2 at m3 hstep2 hKu hxu
        obtain ⟨x0, hx0⟩ := hxu
        have hDt4 : ∀ xs, H5 D ≠ some (.tup xs) := fun xs z => by rw [m2 _ _ p4] at z; cases z
        have ts6 : TS H3 H6 := (TS.of (s4.trans m2)).trans ((SB.ts hDt4 m1).trans (TS.of s6))
        have m3' := s6 _ _ m3
        have rt6 : Rep H6 v1 (lotD cal) := r1'.ts ts6 (noL_lot cal)
        have r36 : Rep H6 v3 (.int day) := r3'.ts ts6 rfl
        have ry6 : Rep H6 y (.int job) := ry.ts ts6 rfl
        have rz6 : Rep H6 z (.int (gj js job)) := rz.ts ts6 rfl
        show tIfS _ _ _ _ _ _
        refine s_when (b := !lot.contains job && decide (x0 + gj js job ≤ ca cal day)) (eb_and (eb_test (ed_op (ed_var rfl ry6) (ed_var rfl r5) rd_niI)) fun _ => eb_test (ed_op (ed_op (ed_dget rfl m3' (ed_var rfl r5) hx0) (ed_var rfl rz6) rd_add) (ed_op (ed_var rfl rt6) (ed_var rfl r36) (rd_cal hday)) rd_le)) (fun hc2 H7 s7 => ?_) fun hc2 H7 s7 => ?_
        · refine q_asg (ed_call (lot, [job]) (ea_cons (ed_var rfl (r5.mono s7)) (ea_cons (ed_tup (ea_cons (ed_var rfl (ry6.mono s7)) ea_nil) (by show (1 : Nat) ≤ 100000; decide)) ea_nil)) (by show lot.length + 1 < 64; omega)) fun v9 H8 s8 r9' => ?_
          have r9 : Rep H8 v9 (lotD (together lot [job])) := r9'
          have s78 := s7.trans s8
          have m8 := s78 _ _ m3'
          -- the store
          refine (ed_cb (ea_cons (ed_dget2 (x := ca cal day) rfl m8 (ed_var rfl r9) (ed_op (ed_var rfl (rt6.mono s78)) (ed_var rfl (r36.mono s78)) (rd_cal hday))) (ea_cons (ed_op (ed_dget rfl m8 (ed_var rfl (r5.mono s78)) hx0) (ed_var rfl (rz6.mono s78)) rd_add) ea_nil)) cd_min2) H8 (Same.refl _) _ fun vn H9 s9 rn => ?_
          cases rn
          obtain ⟨bb, rfl, hbb⟩ := rep_lot (l := together lot [job]) (r9.mono s9)
          refine ⟨_, rfl, _, rfl, D, _, rfl, DPut.t (k := lk (together lot [job])) (s9 _ _ m8) (by rw [kV_lk]; exact hbb) ?_, ?_⟩
          · rw [UK_len]
            exact Nat.lt_of_le_of_lt (Nat.le_trans hKu.len (pow_le8 hjl)) (by decide)
          · refine ⟨(m1.trans (SB.of (s6.trans (s78.trans s9)))).upd, m2, ?_, some v5, some (.ref bb), rfl⟩
            rw [upd_same, putK_UK, hstep2]
            unfold stepLot
            rw [hx0, Option.getD_some, if_pos hc2]
            have hmin : (if x0 + gj js job < (uget u2 (together lot [job])).getD (ca cal day) then x0 + gj js job else (uget u2 (together lot [job])).getD (ca cal day)) = min ((uget u2 (together lot [job])).getD (ca cal day)) (x0 + gj js job) := by
              rw [Int.min_def]
              split <;> split <;> omega
            rw [hmin]
        · refine ⟨m1.trans (SB.of (s6.trans s7)), m2, ?_, some v5, b2, rfl⟩
          rw [hstep2]
          unfold stepLot
          rw [hx0, Option.getD_some, if_neg (by rw [hc2]; decide)]
          exact s7 _ _ m3'
      · obtain ⟨m1, m2, m3, a2, b2, rfl⟩ := p
        rw [List.length_map, List.take_length] at m3
        refine ⟨(p1.trans (SB.of (s3.trans (s4.trans m2)))).trans m1, p2, ?_, a2, some y, some z, some t, b2, rfl⟩
        rw [hstep, m3]
        unfold stepJob
        rw [if_pos hc]
    · refine ⟨p1.trans (SB.of (s3.trans s4)), p2, ?_, a, some y, some z, some t, g, rfl⟩
      rw [hstep]
      unfold stepJob
      rw [if_neg (by rw [hc]; decide)]
      exact s4 _ _ p3'
  · obtain ⟨p1, p2, p3, a, b, c, e, g, rfl⟩ := p
    rw [pairsD_len, List.length_map] at p3
    have hK : KInv js.length (usedOf cal js day done js.length) := hUin js.length (Nat.le_refl _)
    refine s_ret (ed_cb (ea_cons (ed_sortedDT (ks := (usedOf cal js day done js.length).map fun p : Lot × Int => p.1) rfl p3 (UK_keys _) hK.nd) ea_nil) cd_tupleL) fun v H3 s3 r => q' v H3 ?_ r
    exact ((s1.trans p2).trans (Same.refl _) |> fun s => SB.same s hD p1).trans s3
end K52
end
section
set_option Elab.async false
set_option linter.all false
set_option maxRecDepth 100000
/-! done_days, greatest, fronts. -/
namespace K52
open PySem PySem.Spec PyProof.Rows L2
variable {P : Program} {w : World} {K : PySem.W.Frag} {mg : Str → Option Value} {base : Heap}
section
variable {σ : L2.St} {H : Hp} {te : TE} {d : PyData} {D : Ends} {tz : L2.TS}
theorem s_app {i : Nat} {l : Addr} {xs : List V} (hs : σ[i]? = some (some (.ref l))) (hl : H l = some (.lst xs)) (h : ED te σ H d) (hz : xs.length < 100000) (k : ∀ v H1, Same H H1 → Rep H1 v d → D.nx σ (upd H1 l (.lst (xs ++ [v])))) :
    tDrop (tBM K "list" rAppend (tVar i) (tCons te tNil)) D σ H := ⟨_, hs, .inl ⟨rfl, _, SqL.of hl⟩, h H (Same.refl _) _ fun v H1 s r => ⟨l, xs, v, rfl, rfl, s _ _ hl, Nat.lt_of_lt_of_le hz (by decide), k v H1 s r⟩⟩
theorem q_app {i : Nat} {l : Addr} {xs : List V} (hs : σ[i]? = some (some (.ref l))) (hl : H l = some (.lst xs)) (h : ED te σ H d) (hz : xs.length < 100000) (k : ∀ v H1, Same H H1 → Rep H1 v d → tz D σ (upd H1 l (.lst (xs ++ [v])))) :
    tSeq (tDrop (tBM K "list" rAppend (tVar i) (tCons te tNil))) tz D σ H := s_app (D := { D with nx := tz D }) hs hl h hz k
end
/-- a new list -/
def EL (te : TE) (σ : L2.St) (H : Hp) (ds : List PyData) : Prop := ∀ H1, Same H H1 → ∀ Q : VK, (∀ p xs H2, H1 p = none → Same H1 H2 → H2 p = some (.lst xs) → Reps H2 xs ds → Q (.ref p) H2) → te σ H1 Q
theorem none_back {H H' : Hp} {p : Addr} (e : Same H H') (h : H' p = none) : H p = none := by
  cases h0 : H p with
  | none => rfl
  | some o => have := e _ _ h0; rw [h] at this; cases this
section
variable {σ : L2.St} {H : Hp} {te : TE} {ds : List PyData} {D : Ends} {tz : L2.TS}
theorem el_lst {tr : TA} (h : EA tr σ H ds) (hl : ds.length ≤ 100000) : EL (tLst tr) σ H ds := fun H1 s Q q =>
  h H1 s _ fun vs H2 s2 rs => ⟨by rw [rs.length]; exact Nat.le_trans hl (by decide), fun p hp => q p vs _ (none_back s2 hp) (s2.trans (same_new hp)) upd_same (rs.mono (same_new hp))⟩
theorem el_list {tr : TE} (h : ED tr σ H (.tuple ds)) : EL (tCB (rListQ K) (tCons tr tNil)) σ H ds := fun H1 s Q q =>
  h H1 s _ fun v H2 s2 r => by
    cases r with
    | tup ha rs => exact ⟨_, _, rfl, .inr (SqT.of ha), fun p hp => q p _ _ (none_back s2 hp) (s2.trans (same_new hp)) upd_same (rs.mono (same_new hp))⟩
theorem q_asgL {i : Nat} (h : EL te σ H ds) (k : ∀ p xs H1, H p = none → Same H H1 → H1 p = some (.lst xs) → Reps H1 xs ds → tz D (σ.set i (some (.ref p))) H1) : tSeq (tAsg te (gName i)) tz D σ H := h H (Same.refl _) _ fun p xs H1 a b c d => k p xs H1 a b c d
theorem EL.is {es : List PyData} (h : EL te σ H ds) (e : ds = es) : EL te σ H es := e ▸ h
end
/-- a list's items, the list itself put aside -/
theorem Reps.upd_lst {H : Hp} {l : Addr} {xs ys zs : List V} {ds : List PyData} (r : Reps H zs ds) (hn : noLs ds = true) (hl : H l = some (.lst xs)) : Reps (upd H l (.lst ys)) zs ds := Reps.ts (TS.upd (TS.refl _) fun as z => by rw [hl] at z; cases z) hn r
theorem SB.noT {D : Addr} {H : Hp} {xs : List V} (h : H D = some (.lst xs)) : ∀ ys, H D ≠ some (.tup ys) := fun ys z => by rw [h] at z; cases z
structure DaysPre (x : Cal × Jobs × Nat) : Prop where
  pr : Pr x.1 x.2.1
  days : x.2.2 ≤ x.1.length
def spDoneDays : Sp := spP (α := Cal × Jobs × Nat) (fun x => [lotD x.1, jobsD x.2.1, .int (x.2.2 : Nat)]) DaysPre (fun x => frontsD (doneDays x.1 x.2.1 x.2.2))
theorem scDoneDays : FnScope ["calendar", "jobs", "days", "found", "day"] ["calendar", "jobs", "days"] (defScope sDoneDays) := ⟨rfl, rfl, rfl, by decide +kernel, rfl, by decide +kernel, by decide +kernel⟩
theorem doneDays_succ (cal : Cal) (js : Jobs) (k : Nat) : doneDays cal js (k + 1) = doneDays cal js k ++ [doneAt cal js (k + 1)] := by
  unfold doneDays
  rw [List.range_succ, List.map_append]
  rfl
theorem doneDays_len (cal : Cal) (js : Jobs) (k : Nat) : (doneDays cal js k).length = k + 1 := by unfold doneDays; rw [List.length_map, List.length_range]
theorem doneDays_at {cal : Cal} {js : Jobs} {k i : Nat} (h : i ≤ k) : (doneDays cal js k).getD i [] = doneAt cal js i := by
  unfold doneDays
  rw [List.getD_eq_getElem?_getD, List.getElem?_map, List.getElem?_range (by omega)]
  rfl
theorem df_doneDays (F : Bl mg) (D : DefAt K mg "done_days" sDoneDays) (G_done_later : Df P w K mg base 2 "done_later" ["calendar", "jobs", "day", "done"] spDoneLater) : Df P w K mg base 3 "done_days" ["calendar", "jobs", "days"] spDoneDays := by
  have nd := scDoneDays.nd
  refine df_pure D scDoneDays (fun _ _ _ _ _ _ us hl => match us, hl with | [_, _, _], _ => rfl) (fun _ _ _ _ _ _ us hl => match us, hl with | [_, _, _], _ => rfl) (fun _ => rfl) fun f cdv A outer s H E hr =>
    have hr_done_later := hr
    ⟨_, PSs.nox (pss_cons (ps_set (i := 3) nd rfl (Or.inl rfl) (pe_lst (pa_cons (pe_tup (pa_cons (pe_tup pa_nil) pa_nil)) pa_nil)))
  (pss_cons (ps_for PassesOwn.never rfl (pi_range1 (by rfl) F.range (pa_cons (pv 2) pa_nil)) (pg_name (i := 4) nd rfl (by first | exact Or.inl rfl | exact Or.inr rfl)) (pss_one (ps_expr (pe_bm PySem.F.plainAttrs_list PySem.F.slot_list_append PySem.F.type_list_append mt_append (pv 3) (pa_cons (pe_df G_done_later hr_done_later (by rfl) (pa_cons (pv 0) (pa_cons (pv 1) (pa_cons (pv 4) (pa_cons (pe_ix (ixL K) (pv 3) (pe_un un_neg pe_int) (fun _ _ => rfl)) pa_nil))))) pa_nil)))))
  (pss_one (ps_ret (pe_callTy (clTuple K) (by rfl) F.tuple boot_tuple (pa_cons (pv 3) pa_nil)))))), ?_⟩
  intro x vs Q rs hp q
  obtain ⟨cal, js, days⟩ := x
  obtain ⟨v1, v2, v3, rfl, r1, r2, r3⟩ := rs.c3
  obtain ⟨hpr, hdays⟩ := hp
  simp only at hpr hdays
  have hcl := hpr.cl
  have q' : ∀ v H', Same H H' → Rep H' v (frontsD (doneDays cal js days)) → Q v H' := q
  refine q_asgL (ds := (doneDays cal js 0).map frontD) (EL.is (el_lst (ea_cons (ed_is (b := frontD [[]]) (ed_tup (ea_cons (ed_tup ea_nil (Nat.zero_le _)) ea_nil) (by show (1 : Nat) ≤ 100000; decide)) rfl) ea_nil) (by show (1 : Nat) ≤ 100000; decide)) rfl) fun p ws H1 hpH s1 hp1 rw0 => ?_
  have hn0 : ∀ k, noLs ((doneDays cal js k).map frontD) = true := fun k => noLs_map (f := frontD) noL_front _
  refine q_for (ei_rng (G := SB p) (n := (days : Int)) (ea_cons (ed_var rfl (r3.mono s1)) ea_nil) ⟨by omega, by omega⟩)
    (fun H2 i σ' H' => SB p H2 H' ∧ Same H1 H2 ∧ (∃ xs, H' p = some (.lst xs) ∧ Reps H' xs ((doneDays cal js i).map frontD)) ∧ ∃ a, σ' = [some v1, some v2, some v3, some (.ref p), a])
    (fun H2 s2 => ⟨SB.refl _ _, s2, ⟨ws, s2 _ _ hp1, rw0.mono s2⟩, none, rfl⟩) (fun H2 i σ' H' hi p => p.1) (fun H2 s2 i d v σ' H' H3 hd pv s3 rv => ?_) (fun H2 σ' H' s2 pv => ?_)
  · obtain ⟨p1, p2, ⟨xs, p3, p4⟩, a, rfl⟩ := pv
    have hi : i < days := by
      have := (List.getElem?_eq_some_iff.mp hd).1
      rw [List.length_map, rg_len, Int.toNat_natCast] at this
      exact this
    have hdi : d = .int (i : Int) := by
      unfold rg at hd
      rw [List.map_map, List.getElem?_map, List.getElem?_range (by rw [Int.toNat_natCast]; exact hi)] at hd
      cases hd; rfl
    subst hdi
    have ts : TS H H3 := (TS.of (s1.trans p2)).trans ((SB.ts (SB.noT (p2 _ _ hp1)) p1).trans (TS.of s3))
    have h4 := p4.mono s3
    have hp3 := s3 _ _ p3
    have hlen : xs.length = i + 1 := by rw [p4.length, List.length_map, doneDays_len]
    have hlast : atI ((doneDays cal js i).map frontD) (-1) = some (frontD (doneAt cal js i)) := by
      have e := atI_neg1 (f := frontD) (l := doneDays cal js i) (dflt := []) (fun z => by have := doneDays_len cal js i; rw [z] at this; cases this)
      rw [doneDays_len, doneDays_at (by omega)] at e
      exact e
    refine s_app (K := K) (xs := xs) (d := frontD (doneAt cal js (i + 1))) rfl hp3 (ed_call (cal, js, (i : Int), doneAt cal js i) (ea_cons (ed_var rfl (r1.ts ts (noL_lot _))) (ea_cons (ed_var rfl (r2.ts ts (noL_jobs _))) (ea_cons (ed_var rfl rv) (ea_cons (ed_op (ed_var rfl (.lst hp3 h4)) (ed_un ed_int ?_) (rd_ixL hlast)) ea_nil)))) ⟨hpr, by show 0 ≤ (i : Int) ∧ (i : Int) < cal.length; omega, doneAt_lots hpr.ok i⟩) (by omega) fun v5 H5 s5 r5 => ?_
    · exact fun H x rx Q q => by
        cases rx
        exact ⟨1, rfl, q _ H (Same.refl _) (.int (-1))⟩
    · refine ⟨(p1.trans (SB.of (s3.trans s5))).upd, p2, ⟨xs ++ [v5], upd_same, ?_⟩, some v, rfl⟩
      rw [doneDays_succ, List.map_append]
      refine Reps.upd_lst (l := p) (xs := xs) ((h4.mono s5).snoc r5) ?_ (s5 _ _ hp3)
      rw [← List.map_append, ← doneDays_succ]
      exact hn0 _
  · obtain ⟨p1, p2, ⟨xs, p3, p4⟩, a, rfl⟩ := pv
    rw [List.length_map, rg_len, Int.toNat_natCast] at p4
    refine s_ret (ed_cb (ea_cons (ed_var rfl (.lst p3 p4)) ea_nil) cd_tupleL) fun v H3 s3 r => q' v H3 ?_ r
    exact ((SB.same (s1.trans p2) hpH p1)).trans s3
structure DonePre (x : Jobs × List Lot) : Prop where
  jl : x.1.length ≤ 8
  done : Lots x.1.length x.2
def spGreatest : Sp := spP (α := Jobs × List Lot) (fun x => [jobsD x.1, frontD x.2]) DonePre (fun x => frontD (greatest x.1 x.2))
theorem scGreatest : FnScope ["jobs", "done", "found", "known", "lot", "others", "job"] ["jobs", "done"] (defScope sGreatest) := ⟨rfl, rfl, rfl, by decide +kernel, rfl, by decide +kernel, by decide +kernel⟩
theorem valV_done {done : List Lot} {z : V} {k : Lot} : (valV (done.map fun l => (lk l, z)) (lk k)).isSome = done.contains k := by
  unfold valV
  rw [Option.isSome_map, List.find?_map, Option.isSome_map, Bool.eq_iff_iff, List.find?_isSome, List.contains_iff_mem]
  constructor
  · rintro ⟨l, hl, e⟩
    have e' : decide (lk l = lk k) = true := e
    rw [decide_eq_true_eq] at e'
    exact lk_inj.mp e' ▸ hl
  · intro h
    exact ⟨k, h, decide_eq_true rfl⟩
theorem ed_din {σ : L2.St} {H : Hp} {tk : TE} {D : Addr} {i : Nat} {l : Lot} {done : List Lot} {z : V} (hs : σ[i]? = some (some (.ref D))) (hd : H D = some (.dT (done.map fun l => (lk l, z)))) (hk : ED tk σ H (lotD l)) : ED (tDIn tk (tVar i)) σ H (.bool (done.contains l)) := fun H1 s Q q =>
  hk H1 s _ fun v H2 s2 r => ⟨_, hs, D, _, rfl, by
    obtain ⟨b, rfl, hb⟩ := rep_lot r
    exact DGet.t (k := lk l) (s2 _ _ (s _ _ hd)) (by rw [kV_lk]; exact hb), by rw [valV_done]; exact q _ H2 s2 (.bl _)⟩
theorem df_greatest (F : Bl mg) (D : DefAt K mg "greatest" sGreatest) (G_together : Df P w K mg base 1 "together" ["lot", "other"] spTogether) : Df P w K mg base 2 "greatest" ["jobs", "done"] spGreatest := by
  have nd := scGreatest.nd
  refine df_pure D scGreatest (fun _ _ _ _ _ _ us hl => match us, hl with | [_, _], _ => rfl) (fun _ _ _ _ _ _ us hl => match us, hl with | [_, _], _ => rfl) (fun _ => rfl) fun f cdv A outer s H E hr =>
    have hu1 : (A.deeper (envOfC "greatest" (defScope sGreatest) s.heap.objs.size f cdv)).units + 1 < cLine := hu_of hr
    have hu5 : (A.deeper (envOfC "greatest" (defScope sGreatest) s.heap.objs.size f cdv)).units + 65 < cLine := by have := hr.un; omega
    have hr_together := hr
    ⟨_, PSs.nox (pss_cons (ps_asg (pe_tup (pa_cons (pe_lst pa_nil) (pa_cons (pe_dcT (own := [("lot", 4)]) (g := gName 4) hu1 rfl nd (piT K (pv 1)) (blkOk_by (by kernel_rfl)) (fun _ _ _ _ _ => (pg_name (i := 4) nd rfl (by first | exact Or.inl rfl | exact Or.inr rfl))) (fun _ _ _ _ _ => (pv 4)) (fun _ _ _ _ _ => pe_bl)) pa_nil))) (pgT K (n := 2) rfl (pgs_cons (pg_name (i := 2) nd rfl (by first | exact Or.inl rfl | exact Or.inr rfl)) (pgs_cons (pg_name (i := 3) nd rfl (by first | exact Or.inl rfl | exact Or.inr rfl)) pgs_nil))))
  (pss_cons (ps_for PassesOwn.never rfl (piT K (pv 1)) (pg_name (i := 4) nd rfl (by first | exact Or.inl rfl | exact Or.inr rfl)) (pss_cons (ps_setLc (i := 5) (own := [("job", 6)]) (g := gName 6)  rfl nd rfl rfl (sw_true rfl rfl rfl (by decide +kernel)) (pi_range1 (by rfl) F.range (pa_cons (pe_callB (clLen K) (by rfl) F.len boot_len (pa_cons (pv 0) pa_nil)) pa_nil)) (blkOk_by (by kernel_rfl)) (fun _ _ _ _ _ => (pg_name (i := 6) nd rfl (by first | exact Or.inl rfl | exact Or.inr rfl))) (fun _ _ _ _ _ => (pts_one (pt_cmpR (opNi K hu5) (pv 6) (pv 4) rfl))) (fun _ _ _ _ _ => (pv 6)))
  (pss_one (ps_if (pt_not (pt_val (pe_callB (clAny K rfl) (by rfl) F.any boot_any (pa_cons (pe_lc (own := [("job", 6)]) (g := gName 6) (tt := tYes) rfl nd (piL K (pv 5)) (blkOk_by (by kernel_rfl)) (fun _ _ _ _ _ => (pg_name (i := 6) nd rfl (by first | exact Or.inl rfl | exact Or.inr rfl))) (fun _ _ _ _ _ => pts_nil) (fun _ _ _ _ _ => (pe_cmp (pc_din hu1 (pe_df G_together hr_together (by rfl) (pa_cons (pv 4) (pa_cons (pe_tup (pa_cons (pv 6) pa_nil)) pa_nil))) (pv 3))))) pa_nil)))) (pss_one (ps_expr (pe_bm PySem.F.plainAttrs_list PySem.F.slot_list_append PySem.F.type_list_append mt_append (pv 2) (pa_cons (pv 4) pa_nil)))) pss_nil))))
  (pss_one (ps_ret (pe_callTy (clTuple K) (by rfl) F.tuple boot_tuple (pa_cons (pv 2) pa_nil)))))), ?_⟩
  intro x vs Q rs hp q
  obtain ⟨js, done⟩ := x
  obtain ⟨v1, v2, rfl, r1, r2⟩ := rs.c2
  obtain ⟨hjl, hdo⟩ := hp
  simp only at hjl hdo
  have hdl : done.length ≤ 256 := Nat.le_trans (lots_len hdo) (pow_le8 hjl)
  have q' : ∀ v H', Same H H' → Rep H' v (frontD (greatest js done)) → Q v H' := q
  refine ⟨Nat.zero_le _, fun p hp => t_dcT (K := K) (done := done) (z := .bl true) (ed_var rfl (r2.mono (same_new hp))) hdo.1.nodup (by omega) (fun _ => rfl) (fun _ => rfl) fun D H2 hD s2 hH2 => ⟨by show (2 : Nat) ≤ sizeLine; decide, fun t ht => ⟨t, _, rfl, SqT.of upd_same, rfl, _, _, rfl, _, _, rfl, rfl, ?_⟩⟩⟩
  show tSeq _ _ _ _ _
  have s1 : Same H (upd H2 t (.tup [.ref p, .ref D])) := ((same_new hp).trans s2).trans (same_new ht)
  have hp1 : (upd H2 t (.tup [.ref p, .ref D])) p = some (.lst []) := same_new ht _ _ (s2 _ _ upd_same)
  have hD1 : (upd H2 t (.tup [.ref p, .ref D])) D = some (.dT (done.map fun l => (lk l, V.bl true))) := same_new ht _ _ hH2
  have hne : D ≠ p := fun e => by rw [e, upd_same] at hD; cases hD
  generalize upd H2 t (.tup [.ref p, .ref D]) = H1 at s1 hp1 hD1
  refine q_for (EI.to (G' := SB p) (ei_tup (K := K) (ds := done.map lotD) (ed_var rfl (r2.mono s1)) (noLs_map noL_lot _)) fun H2 H3 s g => SB.ts (SB.noT (s _ _ hp1)) g)
    (fun H2 i σ' H' => SB p H2 H' ∧ Same H1 H2 ∧ (∃ xs, H' p = some (.lst xs) ∧ Reps H' xs (((done.take i).filter fun lot => !(others js.length lot).any fun job => done.contains (together lot [job])).map lotD)) ∧ ∃ a b c, σ' = [some v1, some v2, some (.ref p), some (.ref D), a, b, c])
    (fun H2 s2 => ⟨SB.refl _ _, s2, ⟨[], s2 _ _ hp1, .nil⟩, none, none, none, rfl⟩) (fun H2 i σ' H' hi p => p.1) (fun H2 s2 i d v σ' H' H3 hd pv s3 rv => ?_) (fun H2 σ' H' s2 pv => ?_)
  · obtain ⟨p1, p2, ⟨xs, p3, p4⟩, a, b, c, rfl⟩ := pv
    rw [List.getElem?_map] at hd
    obtain ⟨lot, hl, rfl⟩ := Option.map_eq_some_iff.mp hd
    have hlot := hdo.2 lot (mem_at hl)
    have hl8 := lot_len hlot.1 hlot.2
    have ts : TS H H3 := (TS.of (s1.trans p2)).trans ((SB.ts (SB.noT (p2 _ _ hp1)) p1).trans (TS.of s3))
    have r1' : Rep H3 v1 (jobsD js) := r1.ts ts (noL_jobs _)
    have hD3 : H3 D = some (.dT (done.map fun l => (lk l, V.bl true))) := s3 _ _ (p1 D hne _ (p2 _ _ hD1))
    have hp3 := s3 _ _ p3
    have h4 := p4.mono s3
    refine q_asg (d := .list ((others js.length lot).map .int)) (ed_is (ed_lcI (items := rg js.length) (enc := .int) (fun j => !lot.contains j) (fun j => j) (ei_rng (n := (js.length : Int)) (ea_cons (ed_cb (ea_cons (ed_var rfl r1') ea_nil) cd_lenJobs) ea_nil) ⟨by omega, by omega⟩) (by rw [rg_len]; omega) fun k j hj v7 H4 s4 r7 => ⟨_, bd_name, rfl, eb_test (ed_op (ed_var rfl r7) (ed_var rfl (rv.mono s4)) rd_niI), fun _ => ed_var rfl r7⟩) (by rw [List.map_id']; rfl)) fun v6 H4 s4 r6 => ?_
    have hol : (others js.length lot).length ≤ 8 := Nat.le_trans (List.length_filter_le _ _) (by rw [rg_len]; exact hjl)
    have et : done.take (i + 1) = done.take i ++ [lot] := by rw [List.take_succ, hl]; rfl
    refine s_when (b := !(others js.length lot).any fun job => done.contains (together lot [job])) (eb_not (eb_B (ed_any (items := others js.length lot) (enc := .int) (fun job => done.contains (together lot [job])) (ei_list (ed_var rfl r6)) (by omega) fun k job hj v7 H5 s5 r7 => ⟨_, bd_name, rfl, ed_din rfl (s5 _ _ (s4 _ _ hD3)) (ed_call (lot, [job]) (ea_cons (ed_var rfl (rv.mono (s4.trans s5))) (ea_cons (ed_tup (ea_cons (ed_var rfl r7) ea_nil) (by show (1 : Nat) ≤ 100000; decide)) ea_nil)) (by show lot.length + 1 < 64; omega))⟩))) (fun ec H5 s5 => ?_) fun ec H5 s5 => ?_
    · have s45 := s4.trans s5
      have hxl : xs.length ≤ 256 := by
        have h1 := p4.length
        rw [List.length_map] at h1
        have h2 := List.length_filter_le (fun lot => !(others js.length lot).any fun job => done.contains (together lot [job])) (done.take i)
        rw [List.length_take] at h2
        omega
      refine s_app (K := K) (xs := xs) rfl (s45 _ _ hp3) (ed_var rfl (rv.mono s45)) (by omega) fun v5 H6 s6 r5 => ⟨(p1.trans (SB.of (s3.trans (s45.trans s6)))).upd, p2, ⟨xs ++ [v5], upd_same, ?_⟩, some v, some v6, c, rfl⟩
      have e : ((done.take (i + 1)).filter fun lot => !(others js.length lot).any fun job => done.contains (together lot [job])) = ((done.take i).filter fun lot => !(others js.length lot).any fun job => done.contains (together lot [job])) ++ [lot] := by
        rw [et, List.filter_append, List.filter_cons, if_pos ec]; rfl
      refine Reps.upd_lst (l := p) (xs := xs) ?_ (noLs_map noL_lot _) (s6 _ _ (s45 _ _ hp3))
      rw [e, List.map_append]
      exact (h4.mono (s45.trans s6)).snoc r5
    · refine ⟨p1.trans (SB.of (s3.trans (s4.trans s5))), p2, ⟨xs, s5 _ _ (s4 _ _ hp3), ?_⟩, some v, some v6, c, rfl⟩
      rw [et, List.filter_append, List.filter_cons, if_neg (by rw [ec]; decide), List.filter_nil, List.append_nil]
      exact h4.mono (s4.trans s5)
  · obtain ⟨p1, p2, ⟨xs, p3, p4⟩, a, b, c, rfl⟩ := pv
    rw [List.length_map, List.take_length] at p4
    refine s_ret (ed_cb (ea_cons (ed_var rfl (.lst p3 p4)) ea_nil) cd_tupleL) fun v H3 s3 r => q' v H3 ?_ r
    exact ((SB.same (s1.trans p2) hp p1)).trans s3
def spFronts : Sp := spP (α := Cal × Jobs × Nat) (fun x => [lotD x.1, jobsD x.2.1, .int (x.2.2 : Nat)]) DaysPre (fun x => frontsD (frontsOf x.1 x.2.1 x.2.2))
theorem scFronts : FnScope ["calendar", "jobs", "days", "done"] ["calendar", "jobs", "days"] (defScope sFronts) := ⟨rfl, rfl, rfl, by decide +kernel, rfl, by decide +kernel, by decide +kernel⟩
theorem df_fronts (F : Bl mg) (D : DefAt K mg "fronts" sFronts) (G_done_days : Df P w K mg base 3 "done_days" ["calendar", "jobs", "days"] spDoneDays) (G_greatest : Df P w K mg base 2 "greatest" ["jobs", "done"] spGreatest) : Df P w K mg base 4 "fronts" ["calendar", "jobs", "days"] spFronts := by
  have nd := scFronts.nd
  refine df_pure D scFronts (fun _ _ _ _ _ _ us hl => match us, hl with | [_, _, _], _ => rfl) (fun _ _ _ _ _ _ us hl => match us, hl with | [_, _, _], _ => rfl) (fun _ => rfl) fun f cdv A outer s H E hr =>
    have hr_done_days := hr
    have hr_greatest := hr.mono (j := 2) (by decide)
    ⟨_, PSs.nox (pss_one (ps_ret (pe_callTy (clTuple K) (by rfl) F.tuple boot_tuple (pa_cons (pe_lc (own := [("done", 3)]) (g := gName 3) (tt := tYes) rfl nd (piT K (pe_df G_done_days hr_done_days (by rfl) (pa_cons (pv 0) (pa_cons (pv 1) (pa_cons (pv 2) pa_nil))))) (blkOk_by (by kernel_rfl)) (fun _ _ _ _ _ => (pg_name (i := 3) nd rfl (by first | exact Or.inl rfl | exact Or.inr rfl))) (fun _ _ _ _ _ => pts_nil) (fun _ _ _ _ _ => (pe_df G_greatest hr_greatest (by rfl) (pa_cons (pv 1) (pa_cons (pv 3) pa_nil))))) pa_nil)))), ?_⟩
  intro x vs Q rs hp q
  obtain ⟨cal, js, days⟩ := x
  obtain ⟨v1, v2, v3, rfl, r1, r2, r3⟩ := rs.c3
  have hpr := hp.pr
  have hdays := hp.days
  simp only at hpr hdays
  have hcl := hpr.cl
  refine s_ret (ed_cb (ea_cons (ed_is (ed_lc (items := doneDays cal js days) (enc := frontD) (fun _ => true) (fun f => frontD (greatest js f)) (fun _ => noL_front _) (ei_tupS (ed_call (cal, js, days) (ea_cons (ed_var rfl r1) (ea_cons (ed_var rfl r2) (ea_cons (ed_var rfl r3) ea_nil))) hp)) (by rw [doneDays_len]; omega) fun i f hf v4 H1 s1 r4 => ⟨_, bd_name, rfl, eb_yes, fun _ => ed_call (js, f) (ea_cons (ed_var rfl (r2.mono s1)) (ea_cons (ed_var rfl r4) ea_nil)) ⟨hpr.jl, ?_⟩⟩) ?_) ea_nil) (cd_tupleL (ds := (frontsOf cal js days).map frontD))) q
  · have := mem_at hf
    unfold doneDays at this
    obtain ⟨k, hk, rfl⟩ := List.mem_map.mp this
    exact doneAt_lots hpr.ok k
  · rw [filter_yes]
    unfold frontsOf
    rw [List.map_map]; rfl
end K52
end
section
set_option Elab.async false
set_option linter.all false
set_option maxRecDepth 100000
/-! is_done_on, share_on, fewest_days. -/
namespace K52
open PySem PySem.Spec PyProof.Rows L2
variable {P : Program} {w : World} {K : PySem.W.Frag} {mg : Str → Option Value} {base : Heap}
structure OnPre (x : Cal × Jobs × Int × Lot) : Prop where
  pr : Pr x.1 x.2.1
  day : 0 ≤ x.2.2.1 ∧ x.2.2.1 < x.1.length
  inr : InR x.2.1.length x.2.2.2
  few : x.2.2.2.length ≤ 1000
def spIsDoneOn : Sp := spP (α := Cal × Jobs × Int × Lot) (fun x => [lotD x.1, jobsD x.2.1, .int x.2.2.1, lotD x.2.2.2]) OnPre (fun x => .bool (canB x.1 x.2.1 x.2.2.1 x.2.2.2))
theorem scIsDoneOn : FnScope ["calendar", "jobs", "day", "lot", "job"] ["calendar", "jobs", "day", "lot"] (defScope sIsDoneOn) := ⟨rfl, rfl, rfl, by decide +kernel, rfl, by decide +kernel, by decide +kernel⟩
theorem df_isDoneOn (F : Bl mg) (D : DefAt K mg "is_done_on" sIsDoneOn) : Df P w K mg base 1 "is_done_on" ["calendar", "jobs", "day", "lot"] spIsDoneOn := by
  have nd := scIsDoneOn.nd
  refine df_pure D scIsDoneOn (fun _ _ _ _ _ _ us hl => match us, hl with | [_, _, _, _], _ => rfl) (fun _ _ _ _ _ _ us hl => match us, hl with | [_, _, _, _], _ => rfl) (fun _ => rfl) fun f cdv A outer s H E hr =>
    have hu5 : (A.deeper (envOfC "is_done_on" (defScope sIsDoneOn) s.heap.objs.size f cdv)).units + 65 < cLine := by have := hr.un; omega
    ⟨_, PSs.nox (pss_one (ps_ret (pe_and (pe_callB (clAll K rfl) (by rfl) F.all boot_all (pa_cons (pe_lc (own := [("job", 4)]) (g := gName 4) (tt := tYes) rfl nd (piT K (pv 3)) (blkOk_by (by kernel_rfl)) (fun _ _ _ _ _ => (pg_name (i := 4) nd rfl (by first | exact Or.inl rfl | exact Or.inr rfl))) (fun _ _ _ _ _ => pts_nil) (fun _ _ _ _ _ => (pe_cmpR (opIn K hu5) (pv 2) (pe_ix (ixT K) (pe_ix (ixT K) (pv 1) (pv 4) (fun _ _ => rfl)) pe_int (fun _ _ => rfl)) rfl))) pa_nil)) (pe_one (pe_cmpR op_le (pe_callB (clSum K rfl) (by rfl) F.sum boot_sum (pa_cons (pe_lc (own := [("job", 4)]) (g := gName 4) (tt := tYes) rfl nd (piT K (pv 3)) (blkOk_by (by kernel_rfl)) (fun _ _ _ _ _ => (pg_name (i := 4) nd rfl (by first | exact Or.inl rfl | exact Or.inr rfl))) (fun _ _ _ _ _ => pts_nil) (fun _ _ _ _ _ => (pe_ix (ixT K) (pe_ix (ixT K) (pv 1) (pv 4) (fun _ _ => rfl)) pe_int (fun _ _ => rfl)))) pa_nil)) (pe_ix (ixT K) (pv 0) (pv 2) (fun _ _ => rfl)) (nomark _)))))), ?_⟩
  intro x vs Q rs hp q
  obtain ⟨cal, js, day, lot⟩ := x
  obtain ⟨v1, v2, v3, v4, rfl, r1, r2, r3, r4⟩ := rs.c4
  obtain ⟨hpr, hday, hinr, hfew⟩ := hp
  simp only at hpr hday hinr hfew
  exact s_ret (ed_andV (ed_all (items := lot) (enc := .int) (fun j => (dj js j).contains day) (ei_tupS (ed_var rfl r4)) (by omega) fun i j hj v5 H1 s1 r5 => ⟨_, bd_name, rfl, ed_op (ed_var rfl (r3.mono s1)) (ed_days (js := js) (ed_var rfl (r2.mono s1)) (ed_var rfl r5) (hinr j (mem_at hj))) rd_inI⟩)
    fun _ => ed_op (ed_sumG (js := js) (lot := lot) (ed_var rfl r4) hfew hinr (fun _ => rfl) fun k v9 H7 s7 r9 hk => ed_gift (ed_var rfl (r2.mono s7)) (ed_var rfl r9) hk) (ed_op (ed_var rfl r1) (ed_var rfl r3) (rd_cal hday)) rd_le) q
theorem find_at {α : Type} {p : α → Bool} {l : List α} {i : Nat} {a : α} (h : l[i]? = some a) (hn : ∀ x ∈ l.take i, p x = false) (ha : p a = true) : l.find? p = some a := by
  have e : l = l.take i ++ (a :: l.drop (i + 1)) := by
    obtain ⟨hi, rfl⟩ := List.getElem?_eq_some_iff.mp h
    rw [List.getElem_cons_drop, List.take_append_drop]
  rw [e, List.find?_append]
  have h1 : (l.take i).find? p = none := List.find?_eq_none.mpr fun x hx => by rw [hn x hx]; decide
  rw [h1, List.find?_cons, ha]
  rfl
structure SharePre2 (x : Cal × Jobs × Int × Lot × List Lot) : Prop where
  pr : Pr x.1 x.2.1
  day : 0 ≤ x.2.2.1 ∧ x.2.2.1 < x.1.length
  lot : Asc x.2.2.2.1 ∧ InR x.2.1.length x.2.2.2.1
  done : Lots x.2.1.length x.2.2.2.2
def spShareOn : Sp := spP (α := Cal × Jobs × Int × Lot × List Lot) (fun x => [lotD x.1, jobsD x.2.1, .int x.2.2.1, lotD x.2.2.2.1, frontD x.2.2.2.2]) SharePre2 (fun x => lotD (shareOn x.1 x.2.1 x.2.2.1 x.2.2.2.1 x.2.2.2.2))
theorem scShareOn : FnScope ["calendar", "jobs", "day", "lot", "done", "ahead", "rest", "job"] ["calendar", "jobs", "day", "lot", "done"] (defScope sShareOn) := ⟨rfl, rfl, rfl, by decide +kernel, rfl, by decide +kernel, by decide +kernel⟩
theorem df_shareOn (F : Bl mg) (D : DefAt K mg "share_on" sShareOn) (G_together : Df P w K mg base 1 "together" ["lot", "other"] spTogether) (G_is_done_on : Df P w K mg base 1 "is_done_on" ["calendar", "jobs", "day", "lot"] spIsDoneOn) : Df P w K mg base 2 "share_on" ["calendar", "jobs", "day", "lot", "done"] spShareOn := by
  have nd := scShareOn.nd
  refine df_pure D scShareOn (fun _ _ _ _ _ _ us hl => match us, hl with | [_, _, _, _, _], _ => rfl) (fun _ _ _ _ _ _ us hl => match us, hl with | [_, _, _, _, _], _ => rfl) (fun _ => rfl) fun f cdv A outer s H E hr =>
    have hu : (A.deeper (envOfC "share_on" (defScope sShareOn) s.heap.objs.size f cdv)).units + 64 < cLine := hr.units
    have hu5 : (A.deeper (envOfC "share_on" (defScope sShareOn) s.heap.objs.size f cdv)).units + 65 < cLine := by have := hr.un; omega
    have hr_together := hr
    have hr_is_done_on := hr
    ⟨_, PSs.nox (pss_cons (ps_for PassesOwn.never rfl (piT K (pv 4)) (pg_name (i := 5) nd rfl (by first | exact Or.inl rfl | exact Or.inr rfl)) (pss_cons (ps_set (i := 6) nd rfl (Or.inl rfl) (pe_callTy (clTuple K) (by rfl) F.tuple boot_tuple (pa_cons (pe_lc (own := [("job", 7)]) (g := gName 7)  rfl nd (piT K (pv 3)) (blkOk_by (by kernel_rfl)) (fun _ _ _ _ _ => (pg_name (i := 7) nd rfl (by first | exact Or.inl rfl | exact Or.inr rfl))) (fun _ _ _ _ _ => (pts_one (pt_cmpR (opNi K hu5) (pv 7) (pv 5) rfl))) (fun _ _ _ _ _ => (pv 7))) pa_nil)))
  (pss_one (ps_if (PW.pt (pw_and (pt_cmpR (opEq K hu) (pe_df G_together hr_together (by rfl) (pa_cons (pv 5) (pa_cons (pv 6) pa_nil))) (pv 3) (nomark _)) (pw_and1 (pt_val (pe_df G_is_done_on hr_is_done_on (by rfl) (pa_cons (pv 0) (pa_cons (pv 1) (pa_cons (pv 2) (pa_cons (pv 6) pa_nil))))))))) (pss_one (ps_ret (pv 5))) pss_nil))))
  (pss_one (ps_ret (pv 3)))), ?_⟩
  intro x vs Q rs hp q
  obtain ⟨cal, js, day, lot, done⟩ := x
  obtain ⟨v1, v2, v3, v4, v5, rfl, r1, r2, r3, r4, r5⟩ := rs.c5
  obtain ⟨hpr, hday, hlot, hdo⟩ := hp
  simp only at hpr hday hlot hdo
  have hl8 := hpr.lot hlot.1 hlot.2
  have q' : ∀ v H', Same H H' → Rep H' v (lotD (shareOn cal js day lot done)) → Q v H' := q
  refine q_for (ei_tupS (ds := done.map lotD) (ed_var rfl r5)) (fun H2 i σ' H' => Same H2 H' ∧ (∃ a b c, σ' = [some v1, some v2, some v3, some v4, some v5, a, b, c]) ∧ ∀ ahead ∈ done.take i, (decide (together ahead (rest lot ahead) = lot) && canB cal js day (rest lot ahead)) = false)
    (fun H2 s2 => ⟨Same.refl _, ⟨none, none, none, rfl⟩, fun lot h => absurd h (by simp)⟩) (fun H2 i σ' H' hi p => p.1) (fun H2 s2 i d v σ' H' H3 hd p s3 rv => ?_) (fun H2 σ' H' s2 p => ?_)
  · obtain ⟨p1, ⟨a, b, c, rfl⟩, p3⟩ := p
    rw [List.getElem?_map] at hd
    obtain ⟨ahead, hl, rfl⟩ := Option.map_eq_some_iff.mp hd
    have hah := hdo.2 ahead (mem_at hl)
    have ha8 := hpr.lot hah.1 hah.2
    have sH : Same H H3 := (s2.trans p1).trans s3
    have hrl : (rest lot ahead).length ≤ 8 := Nat.le_trans (List.length_filter_le _ _) hl8
    refine q_asg (d := lotD (rest lot ahead)) (ed_cb (ea_cons (ed_is (ed_lcI (items := lot) (enc := .int) (fun j => !ahead.contains j) (fun j => j) (ei_tupS (ed_var rfl (r4.mono sH))) (by omega) fun k j hj v7 H4 s4 r7 => ⟨_, bd_name, rfl, eb_test (ed_op (ed_var rfl r7) (ed_var rfl (rv.mono s4)) rd_niI), fun _ => ed_var rfl r7⟩) (by rw [List.map_id']; rfl)) ea_nil) (cd_tupleL (ds := (rest lot ahead).map .int))) fun v6 H4 s4 r6 => ?_
    have sH4 := sH.trans s4
    refine s_when (b := decide (together ahead (rest lot ahead) = lot) && canB cal js day (rest lot ahead)) (eb_and (eb_test (ed_op (ed_call (ahead, rest lot ahead) (ea_cons (ed_var rfl (rv.mono s4)) (ea_cons (ed_var rfl r6) ea_nil)) (by show ahead.length + (rest lot ahead).length < 64; omega)) (ed_var rfl (r4.mono sH4)) rd_eqLot)) fun _ => eb_B (ed_call (cal, js, day, rest lot ahead) (ea_cons (ed_var rfl (r1.mono sH4)) (ea_cons (ed_var rfl (r2.mono sH4)) (ea_cons (ed_var rfl (r3.mono sH4)) (ea_cons (ed_var rfl r6) ea_nil)))) ⟨hpr, hday, fun x hx => hlot.2 x (List.mem_filter.mp hx).1, by show (rest lot ahead).length ≤ 1000; omega⟩)) (fun ec H5 s5 => ?_) fun ec H5 s5 => ?_
    · refine s_ret (ed_var rfl (rv.mono (s4.trans s5))) fun v9 H8 s8 r9 => q' v9 H8 ((sH4.trans s5).trans s8) ?_
      have e : shareOn cal js day lot done = ahead := by
        unfold shareOn
        rw [find_at hl p3 ec]; rfl
      rw [e]; exact r9
    · refine ⟨((p1.trans s3).trans s4).trans s5, ⟨some v, some v6, c, rfl⟩, fun x hx => ?_⟩
      rcases mem_take_succ hl hx with z | z
      · exact p3 x z
      · rw [z]; exact ec
  · obtain ⟨p1, ⟨a, b, c, rfl⟩, p3⟩ := p
    rw [List.length_map, List.take_length] at p3
    have sH := s2.trans p1
    refine s_ret (ed_var rfl (r4.mono sH)) fun v9 H8 s8 r9 => q' v9 H8 (sH.trans s8) ?_
    have e : shareOn cal js day lot done = lot := by
      unfold shareOn
      rw [List.find?_eq_none.mpr fun x hx => by rw [p3 x hx]; decide]; rfl
    rw [e]; exact r9
def optN : Option Nat → PyData
  | none => .none
  | some d => .int (d : Int)
def spFewest : Sp := spP (α := Cal × Jobs) (fun x => [lotD x.1, jobsD x.2]) (fun x => Pr x.1 x.2) (fun x => optN (fewest x.1 x.2))
theorem scFewest : FnScope ["calendar", "jobs", "done", "day"] ["calendar", "jobs"] (defScope sFewestDays) := ⟨rfl, rfl, rfl, by decide +kernel, rfl, by decide +kernel, by decide +kernel⟩
theorem df_fewest (F : Bl mg) (D : DefAt K mg "fewest_days" sFewestDays) (G_all_jobs : Df P w K mg base 1 "all_jobs" ["jobs"] spAllJobs) (G_done_later : Df P w K mg base 2 "done_later" ["calendar", "jobs", "day", "done"] spDoneLater) : Df P w K mg base 3 "fewest_days" ["calendar", "jobs"] spFewest := by
  have nd := scFewest.nd
  refine df_pure D scFewest (fun _ _ _ _ _ _ us hl => match us, hl with | [_, _], _ => rfl) (fun _ _ _ _ _ _ us hl => match us, hl with | [_, _], _ => rfl) (fun _ => rfl) fun f cdv A outer s H E hr =>
    have hu5 : (A.deeper (envOfC "fewest_days" (defScope sFewestDays) s.heap.objs.size f cdv)).units + 65 < cLine := by have := hr.un; omega
    have hr_done_later := hr
    have hr_all_jobs := hr.mono (j := 1) (by decide)
    ⟨_, PSs.nox (pss_cons (ps_set (i := 2) nd rfl (Or.inl rfl) (pe_tup (pa_cons (pe_tup pa_nil) pa_nil)))
  (pss_cons (ps_for PassesOwn.never rfl (pi_range1 (by rfl) F.range (pa_cons (pe_callB (clLen K) (by rfl) F.len boot_len (pa_cons (pv 0) pa_nil)) pa_nil)) (pg_name (i := 3) nd rfl (by first | exact Or.inl rfl | exact Or.inr rfl)) (pss_cons (ps_if (pt_cmpR (opIn K hu5) (pe_df G_all_jobs hr_all_jobs (by rfl) (pa_cons (pv 1) pa_nil)) (pv 2) rfl) (pss_one (ps_ret (pv 3))) pss_nil)
  (pss_one (ps_set (i := 2) nd rfl (Or.inl rfl) (pe_df G_done_later hr_done_later (by rfl) (pa_cons (pv 0) (pa_cons (pv 1) (pa_cons (pv 3) (pa_cons (pv 2) pa_nil)))))))))
  (pss_one (ps_ret (pe_ifExp (pt_cmpR (opIn K hu5) (pe_df G_all_jobs hr_all_jobs (by rfl) (pa_cons (pv 1) pa_nil)) (pv 2) rfl) (pe_callB (clLen K) (by rfl) F.len boot_len (pa_cons (pv 0) pa_nil)) pe_non))))), ?_⟩
  intro x vs Q rs hp q
  obtain ⟨cal, js⟩ := x
  obtain ⟨v1, v2, rfl, r1, r2⟩ := rs.c2
  have hpr : Pr cal js := hp
  have hcl := hpr.cl
  have hjl := hpr.jl
  have q' : ∀ v H', Same H H' → Rep H' v (optN (fewest cal js)) → Q v H' := q
  refine q_asg (d := frontD [[]]) (ed_tup (ea_cons (ed_tup ea_nil (Nat.zero_le _)) ea_nil) (by show (1 : Nat) ≤ 100000; decide)) fun v3 H1 s1 r3 => ?_
  refine q_for (ei_rng (G := Same) (n := (cal.length : Int)) (ea_cons (ed_cb (ea_cons (ed_var rfl (r1.mono s1)) ea_nil) cd_lenLot) ea_nil) ⟨by omega, by omega⟩)
    (fun H2 i σ' H' => Same H2 H' ∧ (∃ a b, σ' = [some v1, some v2, some a, b] ∧ Rep H' a (frontD (doneAt cal js i))) ∧ ∀ k, k < i → (doneAt cal js k).contains (rg js.length) = false)
    (fun H2 s2 => ⟨Same.refl _, ⟨v3, none, rfl, r3.mono s2⟩, fun k hk => absurd hk (by omega)⟩) (fun H2 i σ' H' hi p => p.1) (fun H2 s2 i d v σ' H' H3 hd p s3 rv => ?_) (fun H2 σ' H' s2 p => ?_)
  · obtain ⟨p1, ⟨a, b, rfl, ra⟩, p3⟩ := p
    have hi : i < cal.length := by
      have := (List.getElem?_eq_some_iff.mp hd).1
      rw [List.length_map, rg_len, Int.toNat_natCast] at this
      exact this
    have hdi : d = .int (i : Int) := by
      unfold rg at hd
      rw [List.map_map, List.getElem?_map, List.getElem?_range (by rw [Int.toNat_natCast]; exact hi)] at hd
      cases hd; rfl
    subst hdi
    have sH : Same H H3 := ((s1.trans s2).trans p1).trans s3
    refine q_when (b := (doneAt cal js i).contains (rg js.length)) (eb_test (ed_op (ed_call js (ea_cons (ed_var rfl (r2.mono sH)) ea_nil) (by show js.length ≤ 1000; omega)) (ed_var rfl (ra.mono s3)) rd_inL)) (fun ec H4 s4 => ?_) fun ec H4 s4 => ?_
    · refine s_ret (ed_var rfl (rv.mono s4)) fun v9 H8 s8 r9 => q' v9 H8 ((sH.trans s4).trans s8) ?_
      have e : fewest cal js = some i := by
        unfold fewest
        refine find_at (i := i) (List.getElem?_range (by omega)) (fun x hx => ?_) ec
        rw [List.take_range] at hx
        exact p3 x (by have := List.mem_range.mp hx; omega)
      rw [e]; exact r9
    · refine s_asg (d := frontD (doneAt cal js (i + 1))) (ed_call (cal, js, (i : Int), doneAt cal js i) (ea_cons (ed_var rfl (r1.mono (sH.trans s4))) (ea_cons (ed_var rfl (r2.mono (sH.trans s4))) (ea_cons (ed_var rfl (rv.mono s4)) (ea_cons (ed_var rfl (ra.mono (s3.trans s4))) ea_nil)))) ⟨hpr, by show 0 ≤ (i : Int) ∧ (i : Int) < cal.length; omega, doneAt_lots hpr.ok i⟩) fun v5 H5 s5 r5 => ?_
      refine ⟨((p1.trans s3).trans s4).trans s5, ⟨v5, some v, rfl, r5⟩, fun k hk => ?_⟩
      by_cases c : k = i
      · rw [c]; exact ec
      · exact p3 k (by omega)
  · obtain ⟨p1, ⟨a, b, rfl, ra⟩, p3⟩ := p
    rw [List.length_map, rg_len, Int.toNat_natCast] at p3 ra
    have sH := (s1.trans s2).trans p1
    refine s_ret (ed_if (b := (doneAt cal js cal.length).contains (rg js.length)) (eb_test (ed_op (ed_call js (ea_cons (ed_var rfl (r2.mono sH)) ea_nil) (by show js.length ≤ 1000; omega)) (ed_var rfl ra) rd_inL)) (fun _ => ed_cb (ea_cons (ed_var rfl (r1.mono sH)) ea_nil) cd_lenLot) fun _ => ed_non) fun v9 H8 s8 r9 => q' v9 H8 (sH.trans s8) ?_
    cases hc : (doneAt cal js cal.length).contains (rg js.length) with
    | true =>
      rw [hc] at r9
      have e : fewest cal js = some cal.length := by
        unfold fewest
        refine find_at (i := cal.length) (List.getElem?_range (by omega)) (fun x hx => ?_) hc
        rw [List.take_range] at hx
        exact p3 x (by have := List.mem_range.mp hx; omega)
      rw [e]; exact r9
    | false =>
      rw [hc] at r9
      have e : fewest cal js = none := by
        unfold fewest
        rw [List.find?_eq_none]
        intro x hx
        have := List.mem_range.mp hx
        by_cases c : x = cal.length
        · rw [c, hc]; decide
        · rw [p3 x (by omega)]; decide
      rw [e]; exact r9
end K52
end
section
set_option Elab.async false
set_option linter.all false
set_option maxRecDepth 100000
/-! timetable_within. -/
namespace K52
open PySem PySem.Spec PyProof.Rows L2
variable {P : Program} {w : World} {K : PySem.W.Frag} {mg : Str → Option Value} {base : Heap}
section
variable {σ : L2.St} {H : Hp} {te : TE} {tt : TT} {wi : TI} {g : TG} {vs : List Nat} {D : Ends} {tz : L2.TS}
/-- a comprehension's list is new -/
theorem el_lc {α : Type} {items : List α} {enc : α → PyData} (f : α → Bool) (e : α → PyData) (hn : ∀ a, noL (e a) = true) (hi : EI Same wi σ H (items.map enc)) (hz : items.length ≤ 50000)
    (hb : ∀ (i : Nat) (a : α), items[i]? = some a → ∀ v H1, Same H H1 → Rep H1 v (enc a) → ∃ σ2, Bd g v (wipe σ vs) H1 σ2 ∧ wipe σ2 vs = wipe σ vs ∧ EB tt σ2 H1 (f a) ∧ (f a = true → ED te σ2 H1 (e a))) :
    EL (tLc wi g tt te vs) σ H ((items.filter f).map e) := fun H0 s Q q => hi H0 s _ fun J H1 s1 w D hD => by
  refine lc_it (te := te) (H1 := H1) (D := D) w (fun i H' => Same H1 H' ∧ ∃ acc, H' D = some (.lst acc) ∧ Reps H' acc (((items.take i).filter f).map e)) ?_ ?_ ?_ ?_
  · exact ⟨same_new hD, [], upd_same, .nil⟩
  · exact fun i H' hi p => p.1
  · rintro i v H' H2 hi ⟨p1, acc, p2, p3⟩ ⟨y1, d, y2, y3⟩
    rw [List.getElem?_map] at y2
    obtain ⟨a, ha, rfl⟩ := Option.map_eq_some_iff.mp y2
    have sH : Same H H2 := (s.trans s1).trans (p1.trans y1)
    obtain ⟨σ2, b1, b2, b3, b4⟩ := hb i a ha v H2 sH y3
    refine b1 _ ⟨b2, b3 H2 (Same.refl _) _ fun H3 s3 => ?_⟩
    have et : items.take (i + 1) = items.take i ++ [a] := by rw [List.take_succ, ha]; rfl
    have hl : acc.length ≤ 50000 := by
      have h1 := p3.length
      rw [List.length_map] at h1
      have h2 := List.length_filter_le f (items.take i)
      have h3 : (items.take i).length ≤ items.length := by rw [List.length_take]; omega
      omega
    cases hf : f a with
    | true =>
      rw [if_pos rfl]
      refine b4 hf H3 s3 _ fun y H4 s4 ry => ⟨acc, s4 _ _ (s3 _ _ (y1 _ _ p2)), Nat.lt_of_le_of_lt hl (by decide), same_mut (p1.trans (y1.trans (s3.trans s4))) hD, acc ++ [y], upd_same, ?_⟩
      have rr : Reps H4 (acc ++ [y]) (((items.take (i + 1)).filter f).map e) := by
        rw [et, List.filter_append, List.map_append, List.filter_cons, if_pos hf]
        exact (p3.mono (y1.trans (s3.trans s4))).snoc ry
      exact Reps.upd_lst rr (noLs_map hn _) (s4 _ _ (s3 _ _ (y1 _ _ p2)))
    | false =>
      rw [if_neg (by decide)]
      refine ⟨p1.trans (y1.trans s3), acc, s3 _ _ (y1 _ _ p2), ?_⟩
      rw [et, List.filter_append, List.filter_cons, if_neg (by rw [hf]; decide), List.filter_nil, List.append_nil]
      exact p3.mono (y1.trans s3)
  · rintro H' ⟨p1, acc, p2, p3⟩
    rw [List.length_map, List.take_length] at p3
    exact q D acc H' (none_back s1 hD) (s1.trans p1) p2 p3
/-- l[j] = e -/
theorem s_setL {d : PyData} {i : Nat} {l : Addr} {xs : List V} {ti : TE} {j : Nat} (hs : σ[i]? = some (some (.ref l))) (hl : H l = some (.lst xs)) (h : ED te σ H d) (hi : ED ti σ H (.int (j : Int))) (hj : j < xs.length) (k : ∀ v H1, Same H H1 → Rep H1 v d → D.nx σ (upd H1 l (.lst (xs.set j v)))) :
    tAsg te (gSub (tVar i) ti rSetL) D σ H := h H (Same.refl _) _ fun v H1 s r => ⟨_, hs, hi H1 s _ fun y H2 s2 ry => by
  cases ry
  refine ⟨l, xs, _, j, rfl, rfl, s2 _ _ (s _ _ hl), ?_, k v H2 (s.trans s2) (r.mono s2)⟩
  unfold ixN
  rw [if_pos (by omega), if_pos (by omega), Int.toNat_natCast]⟩
theorem q_setL {d : PyData} {i : Nat} {l : Addr} {xs : List V} {ti : TE} {j : Nat} (hs : σ[i]? = some (some (.ref l))) (hl : H l = some (.lst xs)) (h : ED te σ H d) (hi : ED ti σ H (.int (j : Int))) (hj : j < xs.length) (k : ∀ v H1, Same H H1 → Rep H1 v d → tz D σ (upd H1 l (.lst (xs.set j v)))) :
    tSeq (tAsg te (gSub (tVar i) ti rSetL)) tz D σ H := s_setL (D := { D with nx := tz D }) hs hl h hi hj k
theorem q_par {i j : Nat} {ta : TA} {d1 d2 : PyData} (h : EA ta σ H [d1, d2]) (k : ∀ v w H1, Same H H1 → Rep H1 v d1 → Rep H1 w d2 → tz D ((σ.set i (some v)).set j (some w)) H1) : tSeq (tPar i j ta) tz D σ H := h H (Same.refl _) _ fun vs H1 s rs => by
  obtain ⟨v, w, rfl, r1, r2⟩ := rs.c2
  exact ⟨v, w, rfl, k v w H1 s r1 r2⟩
theorem ed_neg1 : ED (tUn (rU fun i => .int (-i)) (tC (.int 1))) σ H (.int (-1)) := ed_un ed_int fun H x rx Q q => by
  cases rx
  exact ⟨1, rfl, q _ H (Same.refl _) (.int (-1))⟩
end
theorem el_rev {σ : L2.St} {H : Hp} {te : TE} {ds : List PyData} (h : ED te σ H (.list ds)) : EL (tRevL K te) σ H ds.reverse := fun H1 s Q q =>
  h H1 s _ fun v H2 s2 r => by
    cases r with
    | lst ha rs => exact ⟨_, _, rfl, SqL.of ha, fun p hp => q p _ _ (none_back s2 hp) (s2.trans (same_new hp)) upd_same (rs.reverse.mono (same_new hp))⟩
theorem ei_listN {σ : L2.St} {H : Hp} {te : TE} {ds : List PyData} {D : Addr} (h : EL te σ H ds) (hn : noLs ds = true) (hD : ∃ ys, H D = some (.lst ys)) : EI (SB D) (iList K te) σ H ds := fun H1 s R q => h H1 s _ fun a xs H2 hp s2 ha rs => by
  obtain ⟨ys, hD⟩ := hD
  have hD2 : H2 D = some (.lst ys) := s2 _ _ (s _ _ hD)
  have hne : a ≠ D := fun e => by rw [e, s _ _ hD] at hp; cases hp
  refine ⟨a, rfl, ⟨xs, SqL.of ha⟩, q _ H2 s2 ?_⟩
  rw [← rs.length]
  refine (walk_list (K := K) (a := a) (xs := xs)).mono (fun H3 g => SqL.of (g a hne _ ha)) fun i H3 v H4 hi g y => ?_
  obtain ⟨e1, e2⟩ := y
  subst e1
  obtain ⟨d, h1, h2⟩ := (Reps.ts (SB.ts (SB.noT hD2) g) hn rs).get e2
  exact ⟨Same.refl _, d, h1, h2⟩
theorem Reps.ints_set {H : Hp} {xs : List V} {t : List Int} {j : Nat} {x : Int} (r : Reps H xs (t.map .int)) : Reps H (xs.set j (.int x)) ((t.set j x).map .int) := by
  rw [List.map_set]
  exact Reps.set (.int x) j r
theorem noLs_ints (t : List Int) : noLs (t.map .int) = true := noLs_map (f := PyData.int) (fun _ => rfl) t
def optT : Option (List Int) → PyData
  | none => .none
  | some t => lotD t
def spTimetable : Sp := spP (α := Cal × Jobs × Nat) (fun x => [lotD x.1, jobsD x.2.1, .int (x.2.2 : Nat)]) DaysPre (fun x => optT (timetable x.1 x.2.1 x.2.2))
theorem scTimetable : FnScope ["calendar", "jobs", "days", "done", "lot", "table", "job", "day", "ahead"] ["calendar", "jobs", "days"] (defScope sTimetableWithin) := ⟨rfl, rfl, rfl, by decide +kernel, rfl, by decide +kernel, by decide +kernel⟩
theorem shareOn_lot {cal : Cal} {js : Jobs} {day : Int} {lot : Lot} {done : List Lot} (hl : Asc lot ∧ InR js.length lot) (hd : Lots js.length done) : Asc (shareOn cal js day lot done) ∧ InR js.length (shareOn cal js day lot done) := by
  unfold shareOn
  cases h : done.find? fun ahead => decide (together ahead (rest lot ahead) = lot) && canB cal js day (rest lot ahead) with
  | none => exact hl
  | some a => exact hd.2 a (List.mem_of_find?_eq_some h)
theorem df_timetable (F : Bl mg) (D : DefAt K mg "timetable_within" sTimetableWithin) (G_done_days : Df P w K mg base 3 "done_days" ["calendar", "jobs", "days"] spDoneDays) (G_all_jobs : Df P w K mg base 1 "all_jobs" ["jobs"] spAllJobs) (G_share_on : Df P w K mg base 2 "share_on" ["calendar", "jobs", "day", "lot", "done"] spShareOn) :
    Df P w K mg base 4 "timetable_within" ["calendar", "jobs", "days"] spTimetable := by
  have nd := scTimetable.nd
  refine df_pure D scTimetable (fun _ _ _ _ _ _ us hl => match us, hl with | [_, _, _], _ => rfl) (fun _ _ _ _ _ _ us hl => match us, hl with | [_, _, _], _ => rfl) (fun _ => rfl) fun f cdv A outer s H E hr =>
    have hu5 : (A.deeper (envOfC "timetable_within" (defScope sTimetableWithin) s.heap.objs.size f cdv)).units + 65 < cLine := by have := hr.un; omega
    have hr_done_days := hr
    have hr_all_jobs := hr.mono (j := 1) (by decide)
    have hr_share_on := hr.mono (j := 2) (by decide)
    ⟨_, PSs.nox (pss_cons (ps_par (i := 3) (j := 4) rfl nd rfl rfl (by decide) rfl rfl (pa_cons (pe_df G_done_days hr_done_days (by rfl) (pa_cons (pv 0) (pa_cons (pv 1) (pa_cons (pv 2) pa_nil)))) (pa_cons (pe_df G_all_jobs hr_all_jobs (by rfl) (pa_cons (pv 1) pa_nil)) pa_nil)) rfl)
  (pss_cons (ps_if (pt_cmpR (opNi K hu5) (pv 4) (pe_ix (ixT K) (pv 3) (pe_un un_neg pe_int) (fun _ _ => rfl)) rfl) (pss_one (ps_ret pe_non)) pss_nil)
  (pss_cons (ps_setLc (i := 5) (own := [("job", 6)]) (g := gName 6) (tt := tYes) rfl nd rfl rfl (sw_true rfl rfl rfl (by decide +kernel)) (piT K (pv 1)) (blkOk_by (by kernel_rfl)) (fun _ _ _ _ _ => (pg_name (i := 6) nd rfl (by first | exact Or.inl rfl | exact Or.inr rfl))) (fun _ _ _ _ _ => pts_nil) (fun _ _ _ _ _ => pe_int))
  (pss_cons (ps_for PassesOwn.never rfl (piL K (revL K (pe_listRg rfl (by rfl) F.list (prg_1 (by rfl) F.range (pv 2))))) (pg_name (i := 7) nd rfl (by first | exact Or.inl rfl | exact Or.inr rfl)) (pss_cons (ps_set (i := 8) nd rfl (Or.inl rfl) (pe_df G_share_on hr_share_on (by rfl) (pa_cons (pv 0) (pa_cons (pv 1) (pa_cons (pv 7) (pa_cons (pv 4) (pa_cons (pe_ix (ixT K) (pv 3) (pv 7) (fun _ _ => rfl)) pa_nil)))))))
  (pss_cons (ps_for PassesOwn.never rfl (piT K (pv 4)) (pg_name (i := 6) nd rfl (by first | exact Or.inl rfl | exact Or.inr rfl)) (pss_one (ps_if (pt_cmpR (opNi K hu5) (pv 6) (pv 8) rfl) (pss_one (ps_asg (pv 7) (pg_sub (pv 5) (pv 6) set_list))) pss_nil)))
  (pss_one (ps_set (i := 4) nd rfl (Or.inl rfl) (pv 8))))))
  (pss_one (ps_ret (pe_callTy (clTuple K) (by rfl) F.tuple boot_tuple (pa_cons (pv 5) pa_nil)))))))), ?_⟩
  intro x vs Q rs hp q
  obtain ⟨cal, js, days⟩ := x
  obtain ⟨v1, v2, v3, rfl, r1, r2, r3⟩ := rs.c3
  have hpr := hp.pr
  have hdays := hp.days
  simp only at hpr hdays
  have hcl := hpr.cl
  have hjl := hpr.jl
  have q' : ∀ v H', Same H H' → Rep H' v (optT (timetable cal js days)) → Q v H' := q
  refine q_par (d1 := frontsD (doneDays cal js days)) (d2 := lotD (rg js.length)) (ea_cons (ed_call (cal, js, days) (ea_cons (ed_var rfl r1) (ea_cons (ed_var rfl r2) (ea_cons (ed_var rfl r3) ea_nil))) hp) (ea_cons (ed_call js (ea_cons (ed_var rfl r2) ea_nil) (by show js.length ≤ 1000; omega)) ea_nil)) fun v4 v5 H1 s1 r4 r5 => ?_
  have hlast : atI ((doneDays cal js days).map frontD) (-1) = some (frontD (doneAt cal js days)) := by
    have e := atI_neg1 (f := frontD) (l := doneDays cal js days) (dflt := []) (fun z => by have := doneDays_len cal js days; rw [z] at this; cases this)
    rw [doneDays_len, doneDays_at (by omega)] at e
    exact e
  refine q_when (b := !(doneAt cal js days).contains (rg js.length)) (eb_test (ed_op (ed_var rfl r5) (ed_op (ed_var rfl r4) ed_neg1 (rd_ixT hlast)) rd_niL)) (fun ec H2 s2 => ?_) fun ec H2 s2 => ?_
  · refine s_ret ed_non fun v H3 s3 r => q' v H3 ((s1.trans s2).trans s3) ?_
    unfold timetable
    rw [if_neg (by rw [Bool.not_eq_true'] at ec; rw [ec]; decide)]
    exact r
  · rw [Bool.not_eq_false'] at ec
    have e0 : timetable cal js days = some (tableOf cal js days) := by unfold timetable; rw [if_pos ec]
    rw [e0] at q'
    have s12 := s1.trans s2
    refine q_asgL (ds := (List.replicate js.length (0 : Int)).map .int) (EL.is (el_lc (items := js) (enc := jobD) (fun _ => true) (fun _ => .int 0) (fun _ => rfl) (ei_tupS (ed_var rfl (r2.mono s12))) (by omega) fun k j hj v7 H3 s3 r7 => ⟨_, bd_name, rfl, eb_yes, fun _ => ed_int⟩) (by rw [filter_yes, List.map_const', List.map_replicate])) fun p ws H3 hp0 s3 hp3 rw3 => ?_
    have hpH : H p = none := none_back s12 hp0
    have s123 := s12.trans s3
    have hnoT := SB.noT hp3
    -- the days, from the last
    let st := fun k => ((((List.range days).reverse).take k).foldl (tableStep cal js) (rg js.length, List.replicate js.length 0))
    have hst : ∀ k, (Asc (st k).1 ∧ InR js.length (st k).1) ∧ (st k).2.length = js.length := fun k => by
      induction k with
      | zero => exact ⟨⟨rg_asc _, fun x hx => mem_rg.mp hx⟩, by show (List.replicate js.length (0 : Int)).length = _; rw [List.length_replicate]⟩
      | succ k ih =>
        cases h : (List.range days).reverse[k]? with
        | none =>
          have e : st (k + 1) = st k := by
            have e1 : ((List.range days).reverse).take (k + 1) = ((List.range days).reverse).take k := by rw [List.take_succ, h]; simp
            simp only [st]
            rw [e1]
          rw [e]
          exact ih
        | some d =>
          have e : st (k + 1) = tableStep cal js (st k) d := foldl_take h
          rw [e]
          refine ⟨shareOn_lot ih.1 (doneAt_lots hpr.ok d), ?_⟩
          show (setAll _ _ _ _).length = _
          rw [setAll_len]; exact ih.2
    have hds : (((rg ((days : Int)).toNat).map PyData.int).reverse) = ((List.range days).reverse).map fun k : Nat => PyData.int (k : Int) := by
      rw [Int.toNat_natCast]
      unfold rg
      rw [List.map_map, List.map_reverse]; rfl
    refine q_for (ds := ((List.range days).reverse).map fun k : Nat => PyData.int (k : Int)) (ei_listN (D := p) (EL.is (el_rev (ed_lstRg (n := (days : Int)) (ed_var rfl (r3.mono s123)) ⟨by omega, by omega⟩)) hds) (noLs_map (f := fun k : Nat => PyData.int (k : Int)) (fun _ => rfl) _) ⟨ws, hp3⟩)
      (fun H4 k σ' H' => SB p H4 H' ∧ Same H3 H4 ∧ (∃ xs, H' p = some (.lst xs) ∧ Reps H' xs ((st k).2.map .int)) ∧ ∃ l a b c, σ' = [some v1, some v2, some v3, some v4, some l, some (.ref p), a, b, c] ∧ Rep H' l (lotD (st k).1))
      (fun H4 s4 => ⟨SB.refl _ _, s4, ⟨ws, s4 _ _ hp3, rw3.mono s4⟩, v5, none, none, none, rfl, r5.mono ((s2.trans s3).trans s4)⟩) (fun H4 i σ' H' hi p => p.1) (fun H4 s4 k d v σ' H' H5 hd pv s5 rv => ?_) (fun H4 σ' H' s4 pv => ?_)
    · obtain ⟨p1, p2, ⟨xs, p3, p4⟩, l, a, b, c, rfl, rl⟩ := pv
      rw [List.getElem?_map] at hd
      obtain ⟨dn, hdn, rfl⟩ := Option.map_eq_some_iff.mp hd
      have hdlt : dn < days := List.mem_range.mp (List.mem_reverse.mp (mem_at hdn))
      have hstep : st (k + 1) = tableStep cal js (st k) dn := foldl_take hdn
      obtain ⟨hlot, htl⟩ := hst k
      generalize hstk : st k = sk at p4 rl hstep hlot htl
      obtain ⟨lot, t⟩ := sk
      simp only at p4 rl hlot htl
      have ts : TS H H5 := (TS.of (s123.trans p2)).trans ((SB.ts (SB.noT (p2 _ _ hp3)) p1).trans (TS.of s5))
      have ts4 : TS H1 H5 := (TS.of ((s2.trans s3).trans p2)).trans ((SB.ts (SB.noT (p2 _ _ hp3)) p1).trans (TS.of s5))
      have r1' : Rep H5 v1 (lotD cal) := r1.ts ts (noL_lot _)
      have r2' : Rep H5 v2 (jobsD js) := r2.ts ts (noL_jobs _)
      have r4' : Rep H5 v4 (frontsD (doneDays cal js days)) := r4.ts ts4 (noL_fronts _)
      have rl' := rl.mono s5
      have hat : atI ((doneDays cal js days).map frontD) (dn : Int) = some (frontD (doneAt cal js dn)) := by
        have e := atI_map (f := frontD) (l := doneDays cal js days) (i := (dn : Int)) (dflt := []) ⟨by omega, by rw [doneDays_len]; omega⟩
        rw [Int.toNat_natCast, doneDays_at (by omega)] at e
        exact e
      refine q_asg (d := lotD (shareOn cal js dn lot (doneAt cal js dn))) (ed_call (cal, js, (dn : Int), lot, doneAt cal js dn) (ea_cons (ed_var rfl r1') (ea_cons (ed_var rfl r2') (ea_cons (ed_var rfl rv) (ea_cons (ed_var rfl rl') (ea_cons (ed_op (ed_var rfl r4') (ed_var rfl rv) (rd_ixT hat)) ea_nil))))) ⟨hpr, by show 0 ≤ (dn : Int) ∧ (dn : Int) < cal.length; omega, hlot, doneAt_lots hpr.ok dn⟩) fun v8 H6 s6 r8 => ?_
      have hp5 := s5 _ _ p3
      have hp6 := s6 _ _ hp5
      generalize hah : shareOn cal js dn lot (doneAt cal js dn) = ahead at r8
      refine q_for (ds := lot.map .int) (EI.to (G' := SB p) (ei_tup (K := K) (ed_var rfl (rl'.mono s6)) (noLs_ints lot)) fun H7 H8 s g => SB.ts (SB.noT (s _ _ hp6)) g)
        (fun H7 m σ' H' => SB p H7 H' ∧ Same H6 H7 ∧ (∃ xs, H' p = some (.lst xs) ∧ Reps H' xs ((setAll t (lot.take m) ahead dn).map .int)) ∧ ∃ a, σ' = [some v1, some v2, some v3, some v4, some l, some (.ref p), a, some v, some v8])
        (fun H7 s7 => ⟨SB.refl _ _, s7, ⟨xs, s7 _ _ hp6, (p4.mono (s5.trans s6)).mono s7⟩, a, rfl⟩) (fun H7 i σ' H' hi p => p.1) (fun H7 s7 m d v9 σ' H' H8 hd2 pv s8 r9 => ?_) (fun H7 σ' H' s7 pv => ?_)
      · obtain ⟨m1, m2, ⟨ys, m3, m4⟩, a2, rfl⟩ := pv
        rw [List.getElem?_map] at hd2
        obtain ⟨job, hj, rfl⟩ := Option.map_eq_some_iff.mp hd2
        have hjr := hlot.2 job (mem_at hj)
        have hstep2 : setAll t (lot.take (m + 1)) ahead dn = setStep ahead dn (setAll t (lot.take m) ahead dn) job := foldl_take hj
        have hlen2 : (setAll t (lot.take m) ahead dn).length = js.length := by rw [setAll_len]; exact htl
        have ts8 : TS H6 H8 := (TS.of m2).trans ((SB.ts (SB.noT (m2 _ _ hp6)) m1).trans (TS.of s8))
        have m4' := m4.mono s8
        have m3' := s8 _ _ m3
        generalize setAll t (lot.take m) ahead dn = tt at m4' hstep2 hlen2
        show tIfS _ _ _ _ _ _
        refine s_when (b := !ahead.contains job) (eb_test (ed_op (ed_var rfl r9) (ed_var rfl (r8.ts ts8 (noL_lot _))) rd_niI)) (fun ec2 H9 s9 => ?_) fun ec2 H9 s9 => ?_
        · have ej : job = ((job.toNat : Nat) : Int) := by omega
          refine s_setL (l := p) (xs := ys) (j := job.toNat) (d := .int (dn : Int)) rfl (s9 _ _ m3') (ed_var rfl ((rv.mono s6).ts (ts8.trans (TS.of s9)) rfl)) (ed_is (ed_var rfl (r9.mono s9)) (by rw [← ej])) (by rw [m4'.length, List.length_map]; omega) fun vd H10 s10 rd => ?_
          cases rd
          refine ⟨(m1.trans (SB.of (s8.trans (s9.trans s10)))).upd, m2, ⟨_, upd_same, ?_⟩, some v9, rfl⟩
          rw [hstep2]
          unfold setStep
          rw [if_pos ec2]
          exact Reps.upd_lst (xs := ys) ((m4'.mono (s9.trans s10)).ints_set) (noLs_ints _) (s10 _ _ (s9 _ _ m3'))
        · refine ⟨m1.trans (SB.of (s8.trans s9)), m2, ⟨ys, s9 _ _ m3', ?_⟩, some v9, rfl⟩
          rw [hstep2]
          unfold setStep
          rw [if_neg (by rw [ec2]; decide)]
          exact m4'.mono s9
      · obtain ⟨m1, m2, ⟨ys, m3, m4⟩, a2, rfl⟩ := pv
        rw [List.length_map, List.take_length] at m4
        have ts8 : TS H6 H' := (TS.of m2).trans (SB.ts (SB.noT (m2 _ _ hp6)) m1)
        refine s_asg (d := lotD ahead) (ed_var rfl (r8.ts ts8 (noL_lot _))) fun v10 H9 s9 r10 => ?_
        refine ⟨((p1.trans (SB.of (s5.trans (s6.trans m2)))).trans m1).trans (SB.of s9), p2, ⟨ys, s9 _ _ m3, ?_⟩, v10, a2, some v, some v8, rfl, ?_⟩
        · rw [hstep]
          show Reps H9 ys ((setAll t lot (shareOn cal js dn lot (doneAt cal js dn)) dn).map .int)
          rw [hah]
          exact m4.mono s9
        · rw [hstep]
          show Rep H9 v10 (lotD (shareOn cal js dn lot (doneAt cal js dn)))
          rw [hah]
          exact r10
    · obtain ⟨p1, p2, ⟨xs, p3, p4⟩, l, a, b, c, rfl, rl⟩ := pv
      have e : (st ((List.range days).reverse.map fun k : Nat => PyData.int (k : Int)).length).2 = tableOf cal js days := by
        simp only [st]
        rw [List.length_map, List.take_length]
        rfl
      rw [e] at p4
      refine s_ret (ed_cb (ea_cons (ed_var rfl (.lst p3 p4)) ea_nil) cd_tupleL) fun v H3 s3 r => q' v H3 ?_ r
      exact (SB.same (s123.trans p2) hpH p1).trans s3
end K52
end
section
set_option Elab.async false
set_option linter.all false
set_option maxRecDepth 100000
/-! _law_is_lot, _law_shares. -/
namespace K52
open PySem PySem.Spec PyProof.Rows L2
variable {P : Program} {w : World} {K : PySem.W.Frag} {mg : Str → Option Value} {base : Heap}
/-- a datum of at most 60 items each to the depth k -/
def Sq : Nat → PyData → Prop
  | 0, _ => True
  | k + 1, d => (itemsOf d).length ≤ 60 ∧ ∀ e ∈ itemsOf d, Sq k e
theorem Sq.sm : ∀ {k : Nat} {d : PyData}, Sq k d → Sm k d
  | 0, _, _ => True.intro
  | k + 1, _, h => ⟨Nat.le_trans h.1 (by decide), fun e he => (h.2 e he).sm⟩
def Gd (k : Nat) (d : PyData) : Prop := Sq k d ∧ Sh 20 d
theorem sh_items {n : Nat} {ds : List PyData} (h : Sh n (.tuple ds)) : ∀ d ∈ ds, Sh n d := by
  obtain ⟨h1, h2⟩ := h
  have h1' : PyData.canLayAll0 ds = true := by simpa [PyData.canLay0] using h1
  have h2' : PyData.depthAll ds ≤ n := by simp only [PyData.depth] at h2; omega
  clear h1 h2
  induction ds with
  | nil => exact fun d hd => absurd hd (by simp)
  | cons a r ih =>
    intro d hd
    rw [PyData.canLayAll0, Bool.and_eq_true] at h1'
    simp only [PyData.depthAll] at h2'
    rcases List.mem_cons.mp hd with e | hd
    · rw [e]; exact ⟨h1'.1, by omega⟩
    · exact ih h1'.2 (by omega) d hd
theorem sh_filter {n : Nat} {ds : List PyData} (h : ∀ d ∈ ds, Sh n d) (f : PyData → Bool) : Sh (n + 1) (.list (ds.filter f)) := .lst fun d hd => h d (List.mem_filter.mp hd).1
theorem asc_eq (l : List Int) : decide (l = asc l) = decide (Asc l) := by
  rw [Bool.eq_iff_iff, decide_eq_true_eq, decide_eq_true_eq]
  exact ⟨fun h => by rw [h]; exact asc_asc l, fun h => (asc_of h).symm⟩
theorem lsort_eq (l : List Lot) : decide (l = lsort l) = decide (LAsc l) := by
  rw [Bool.eq_iff_iff, decide_eq_true_eq, decide_eq_true_eq]
  exact ⟨fun h => by rw [h]; exact lsort_asc l, fun h => (lsort_of h).symm⟩
def spLawIsLot : Sp := spP (α := PyData × Int) (fun x => [x.1, .int x.2]) (fun x => Gd 1 x.1) (fun x => .bool (isRising x.2 x.1))
theorem scLawIsLot : FnScope ["_law_value", "_law_many", "_law_odd", "_law_one"] ["_law_value", "_law_many"] (defScope sLawIsLot) := ⟨rfl, rfl, rfl, by decide +kernel, rfl, by decide +kernel, by decide +kernel⟩
theorem df_lawIsLot (F : Bl mg) (D : DefAt K mg "_law_is_lot" sLawIsLot) : Df P w K mg base 1 "_law_is_lot" ["_law_value", "_law_many"] spLawIsLot := by
  have nd := scLawIsLot.nd
  refine df_pure D scLawIsLot (fun _ _ _ _ _ _ us hl => match us, hl with | [_, _], _ => rfl) (fun _ _ _ _ _ _ us hl => match us, hl with | [_, _], _ => rfl) (fun _ => rfl) fun f cdv A outer s H E hr =>
    have hu : (A.deeper (envOfC "_law_is_lot" (defScope sLawIsLot) s.heap.objs.size f cdv)).units + 64 < cLine := hr.units
    ⟨_, PSs.nox (pss_cons (ps_if (pt_not (pt_val (pe_callB (clIsi K) (by rfl) F.isinstance boot_isinstance (pa_cons (pv 0) (pa_cons (pe_bltn (v := .ty "tuple") (by rfl) F.tuple boot_tuple rfl) pa_nil))))) (pss_one (ps_ret pe_bl)) pss_nil)
  (pss_cons (ps_setLc (i := 2) (own := [("_law_one", 3)]) (g := gName 3)  rfl nd rfl rfl (sw_true rfl rfl rfl (by decide +kernel)) (piT K (pv 0)) (blkOk_by (by kernel_rfl)) (fun _ _ _ _ _ => (pg_name (i := 3) nd rfl (by first | exact Or.inl rfl | exact Or.inr rfl))) (fun _ _ _ _ _ => (pts_one (PW.pt (pw_or (pt_not (pt_val (pe_callB (clIsi K) (by rfl) F.isinstance boot_isinstance (pa_cons (pv 3) (pa_cons (pe_bltn (v := .ty "int") (by rfl) F.int boot_int rfl) pa_nil))))) (pw_or (pt_val (pe_callB (clIsi K) (by rfl) F.isinstance boot_isinstance (pa_cons (pv 3) (pa_cons (pe_bltn (v := .ty "bool") (by rfl) F.bool boot_bool rfl) pa_nil)))) (pw_or (pt_cmpR op_lt (pv 3) pe_int (nomark _)) (pw_or1 (pt_cmpR op_ge (pv 3) (pv 1) (nomark _))))))))) (fun _ _ _ _ _ => (pv 3)))
  (pss_one (ps_ret (pe_and (pe_cmpR (opEq K hu) (pv 2) (pe_lst pa_nil) (nomark _)) (pe_one (pe_cmpR (opEq K hu) (pe_callTy (clList K) (by rfl) F.list boot_list (pa_cons (pv 0) pa_nil)) (pe_callB (clSortI w rfl) (by rfl) F.sorted boot_sorted (pa_cons (pe_callTy (clSetTI K w rfl) (by rfl) F.set boot_set (pa_cons (pv 0) pa_nil)) pa_nil)) (nomark _)))))))), ?_⟩
  intro x vs Q rs hp q
  obtain ⟨d, n⟩ := x
  obtain ⟨v, u, rfl, r, r2⟩ := rs.c2
  obtain ⟨hsm, hsh⟩ := (show Gd 1 d from hp)
  have q' : ∀ v H', Same H H' → Rep H' v (.bool (isRising n d)) → Q v H' := q
  cases ht : isTup d with
  | false =>
    refine q_when (b := true) (eb_is (eb_not (eb_B (ed_isi (ed_var rfl r) (kit_tup d)))) (by rw [ht]; rfl)) (fun _ H1 s1 => s_ret ed_bl fun v H2 s2 rv => q' v H2 (s1.trans s2) ?_) fun e => by cases e
    have e : isRising n d = false := by unfold isRising; rw [ht]; rfl
    rw [e]; exact rv
  | true =>
    have hd := tup_of ht
    generalize hds : itemsOf d = ds at hd
    have hz : ds.length ≤ 60 := by rw [← hds]; exact hsm.1
    subst hd
    have hshd := sh_items hsh
    refine q_when (b := false) (eb_is (eb_not (eb_B (ed_isi (ed_var rfl r) (kit_tup _)))) rfl) (fun e => by cases e) fun e H1 s1 => ?_
    refine q_asg (d := .list (ds.filter fun one => !isIndex n one)) (ed_lcId (fun one => !isIndex n one) (ed_var rfl (r.mono s1)) (by omega) (fun _ => rfl) (fun _ => rfl) fun one hone v1 H2 s2 r1 => ?_) fun v2 H2 s2 r2' => ?_
    · cases one with
      | int i =>
        refine eb_is (eb_or (eb_not (eb_B (ed_isi (ed_var rfl r1) (kit_int _)))) fun _ => eb_or (eb_B (ed_isi (ed_var rfl r1) (kit_bool _))) fun _ => eb_or (eb_test (ed_op (ed_var rfl r1) ed_int rd_lt)) fun _ => eb_test (ed_op (ed_var rfl r1) (ed_var rfl (r2.mono (s1.trans s2))) rd_ge)) ?_
        simp only [isInt, isBool, isIndex, Bool.not_true, Bool.false_or, Bool.not_and]
        rw [Bool.eq_iff_iff]
        simp
      | bool b => exact eb_is (eb_or (b := true) (eb_not (eb_B (ed_isi (ed_var rfl r1) (kit_int _)))) fun _ => eb_is (eb_or (b := true) (eb_B (ed_isi (ed_var rfl r1) (kit_bool _))) fun e => by cases e) rfl) rfl
      | _ => exact eb_is (eb_or (b := true) (eb_not (eb_B (ed_isi (ed_var rfl r1) (kit_int _)))) fun e => by cases e) rfl
    · have s12 := s1.trans s2
      have h1 : RD (rEqD K) (.list (ds.filter fun one => !isIndex n one)) (.list []) (.bool (ds.filter fun one => !isIndex n one).isEmpty) := by
        rw [← eqv_nil]
        exact rd_eqD (sh_filter hshd _).shaped (Sh.lst (n := 1) fun d hd => absurd hd (by simp)).shaped
      have hemp : (ds.filter fun one => !isIndex n one).isEmpty = ds.all (isIndex n) := by
        rw [Bool.eq_iff_iff, List.isEmpty_iff, List.filter_eq_nil_iff, List.all_eq_true]
        exact ⟨fun h a ha => by simpa using h a ha, fun h a ha => by simp [h a ha]⟩
      rw [hemp] at h1
      have hE : ED (tOp (rEqD K) (tVar 2) (tLst tNil)) [some v, some u, some v2, none] H2 (.bool (ds.all (isIndex n))) := ed_op (ed_var rfl r2') (ed_lst ea_nil (Nat.zero_le _)) h1
      cases ha : ds.all (isIndex n) with
      | false =>
        refine s_ret (ed_is (ed_andV (b := true) hE fun e => by rw [ha] at e; cases e) (by rw [ha] <;> rfl)) fun v H3 s3 rv => q' v H3 (s12.trans s3) ?_
        have e2 : isRising n (.tuple ds) = false := by
          unfold isRising
          have : (itemsOf (.tuple ds)).all (isIndex n) = false := ha
          rw [this, Bool.and_false, Bool.false_and]
        rw [e2]; exact rv
      | true =>
        obtain ⟨g1, g2⟩ := ints_of_idx ha
        generalize ds.map intOf = l at g1 g2
        subst g1
        rw [List.length_map] at hz
        have hR : isRising n (.tuple (l.map .int)) = decide (l = asc l) := by
          unfold isRising
          have e3 : lotOf (.tuple (l.map .int)) = l := items_lot l
          have e4 : (itemsOf (.tuple (l.map .int))).all (isIndex n) = true := ha
          rw [e3, e4, asc_eq]; rfl
        rw [hR] at q'
        have rT : Rep H2 v (lotD l) := r.mono s12
        have hE2 : RD (rEqD K) (.list (l.map .int)) (.list ((asc l).map .int)) (.bool (decide (l = asc l))) := by
          rw [← eqv_ints]
          exact rd_eqD (sh_ints _).shaped (sh_ints _).shaped
        refine s_ret (ed_is (ed_andV hE fun _ => ed_op (ed_cb (ea_cons (ed_var rfl rT) ea_nil) cd_listT) (ed_ssTI (ed_var rfl rT) (by omega)) hE2) (by rw [ha]; rfl)) fun v H3 s3 rv => q' v H3 (s12.trans s3) rv
/-- over a list that is not the one at D -/
theorem ei_varN {σ : L2.St} {H : Hp} {i : Nat} {a : Addr} {xs : List V} {ds : List PyData} {D : Addr} (hs : σ[i]? = some (some (.ref a))) (ha : H a = some (.lst xs)) (rs : Reps H xs ds) (hn : noLs ds = true) (hne : a ≠ D) (hD : ∀ ys, H D ≠ some (.tup ys)) (hD2 : H D ≠ none) : EI (SB D) (iList K (tVar i)) σ H ds := fun H1 s R q => by
  have ha1 := s _ _ ha
  refine ⟨_, hs, a, rfl, ⟨xs, SqL.of ha1⟩, q _ H1 (Same.refl _) ?_⟩
  rw [← rs.length]
  refine (walk_list (K := K) (a := a) (xs := xs)).mono (fun H3 g => SqL.of (g a hne _ ha1)) fun i H3 v H4 hi g y => ?_
  obtain ⟨e1, e2⟩ := y
  subst e1
  have hDt : ∀ ys, H1 D ≠ some (.tup ys) := fun ys z => by
    cases h : H D with
    | none => exact hD2 h
    | some o => rw [s _ _ h] at z; exact hD ys (by rw [h, z])
  obtain ⟨d, h1, h2⟩ := (Reps.ts (SB.ts hDt g) hn (rs.mono s)).get e2
  exact ⟨Same.refl _, d, h1, h2⟩
structure LawSharePre (x : Cal × Jobs × Int) : Prop where
  pr : Pr x.1 x.2.1
  day : 0 ≤ x.2.2 ∧ x.2.2 < x.1.length
def spLawShares : Sp := spP (α := Cal × Jobs × Int) (fun x => [lotD x.1, jobsD x.2.1, .int x.2.2]) LawSharePre (fun x => .list ((sharesOn x.1 x.2.1 x.2.2 (rg x.2.1.length)).map lotD))
theorem scLawShares : FnScope ["_law_calendar_here", "_law_jobs_here", "_law_day", "_law_found", "_law_at", "_law_job", "_law_more", "_law_lot", "_law_one"] ["_law_calendar_here", "_law_jobs_here", "_law_day"] (defScope sLawShares) := ⟨rfl, rfl, rfl, by decide +kernel, rfl, by decide +kernel, by decide +kernel⟩
theorem rg_take (n i : Nat) (h : i ≤ n) : (rg n).take i = rg i := by
  unfold rg
  rw [← List.map_take, List.take_range, Nat.min_eq_left h]
theorem rg_at {n i : Nat} {k : Int} (h : (rg n)[i]? = some k) : k = (i : Int) ∧ i < n := by
  have hi := (List.getElem?_eq_some_iff.mp h).1
  rw [rg_len] at hi
  unfold rg at h
  rw [List.getElem?_map, List.getElem?_range hi] at h
  cases h
  exact ⟨rfl, hi⟩
/-- as ed_sumG, the lot read off the slots -/
theorem df_lawShares (F : Bl mg) (D : DefAt K mg "_law_shares" sLawShares) : Df P w K mg base 1 "_law_shares" ["_law_calendar_here", "_law_jobs_here", "_law_day"] spLawShares := by
  have nd := scLawShares.nd
  refine df_pure D scLawShares (fun _ _ _ _ _ _ us hl => match us, hl with | [_, _, _], _ => rfl) (fun _ _ _ _ _ _ us hl => match us, hl with | [_, _, _], _ => rfl) (fun _ => rfl) fun f cdv A outer s H E hr =>
    have hu5 : (A.deeper (envOfC "_law_shares" (defScope sLawShares) s.heap.objs.size f cdv)).units + 65 < cLine := by have := hr.un; omega
    ⟨_, PSs.nox (pss_cons (ps_set (i := 3) nd rfl (Or.inl rfl) (pe_lst (pa_cons (pe_tup pa_nil) pa_nil)))
  (pss_cons (ps_for PassesOwn.never rfl (piE K (by rfl) F.enumerate (pa_cons (pv 1) pa_nil)) (pgT K (n := 2) rfl (pgs_cons (pg_name (i := 4) nd rfl (by first | exact Or.inl rfl | exact Or.inr rfl)) (pgs_cons (pg_name (i := 5) nd rfl (by first | exact Or.inl rfl | exact Or.inr rfl)) pgs_nil))) (pss_cons (ps_set (i := 6) nd rfl (Or.inl rfl) (pe_lst pa_nil))
  (pss_cons (ps_for PassesOwn.never rfl (piL K (pv 3)) (pg_name (i := 7) nd rfl (by first | exact Or.inl rfl | exact Or.inr rfl)) (pss_one (ps_if (PW.pt (pw_and (pt_cmpR (opIn K hu5) (pv 2) (pe_ix (ixT K) (pv 5) pe_int (fun _ _ => rfl)) rfl) (pw_and1 (pt_cmpR op_le (pe_op op_add (pe_callB (clSum K rfl) (by rfl) F.sum boot_sum (pa_cons (pe_lc (own := [("_law_one", 8)]) (g := gName 8) (tt := tYes) rfl nd (piT K (pv 7)) (blkOk_by (by kernel_rfl)) (fun _ _ _ _ _ => (pg_name (i := 8) nd rfl (by first | exact Or.inl rfl | exact Or.inr rfl))) (fun _ _ _ _ _ => pts_nil) (fun _ _ _ _ _ => (pe_ix (ixT K) (pe_ix (ixT K) (pv 1) (pv 8) (fun _ _ => rfl)) pe_int (fun _ _ => rfl)))) pa_nil)) (pe_ix (ixT K) (pv 5) pe_int (fun _ _ => rfl))) (pe_ix (ixT K) (pv 0) (pv 2) (fun _ _ => rfl)) (nomark _))))) (pss_one (ps_expr (pe_bm PySem.F.plainAttrs_list PySem.F.slot_list_append PySem.F.type_list_append mt_append (pv 6) (pa_cons (pe_op (opCatA K) (pv 7) (pe_tup (pa_cons (pv 4) pa_nil))) pa_nil)))) pss_nil)))
  (pss_one (ps_set (i := 3) nd rfl (Or.inl rfl) (pe_op op_cat (pv 3) (pv 6)))))))
  (pss_one (ps_ret (pv 3))))), ?_⟩
  intro x vs Q rs hp q
  obtain ⟨cal, js, day⟩ := x
  obtain ⟨v1, v2, v3, rfl, r1, r2, r3⟩ := rs.c3
  obtain ⟨hpr, hday⟩ := hp
  simp only at hpr hday
  have hjl := hpr.jl
  refine q_asg (ed_lst (ea_cons (ed_tup ea_nil (Nat.zero_le _)) ea_nil) (by decide)) fun v4 H1 s1 r4 => ?_
  refine q_for (EI.same (ei_en (K := K) (ea_cons (ed_var rfl (r2.mono s1)) ea_nil) (noLs_jobsP js))) (fun H2 i σ' H' => Same H2 H' ∧ ∃ fv a b c d e, σ' = [some v1, some v2, some v3, some fv, a, b, c, d, e] ∧ Rep H' fv (.list ((sharesOn cal js day (rg i)).map lotD))) (fun H2 s2 => ⟨Same.refl _, v4, none, none, none, none, none, rfl, r4.mono s2⟩) (fun H2 i σ' H' hi p => p.1) (fun H2 s2 i d v σ' H' H3 hd p s3 rv => ?_) (fun H2 σ' H' s2 p => ?_)
  · obtain ⟨p1, fv, a, b, c, e, g, rfl, p3⟩ := p
    rw [pairsD_map (f := jobD) (0, []), List.getElem?_map] at hd
    obtain ⟨job, hj, rfl⟩ := Option.map_eq_some_iff.mp hd
    obtain ⟨hji, hin⟩ := rg_at (n := js.length) hj
    have hjr : 0 ≤ job ∧ job < js.length := by omega
    have sH : Same H H3 := ((s1.trans s2).trans p1).trans s3
    have p3' := p3.mono s3
    have hstep : sharesOn cal js day (rg (i + 1)) = shareStep cal js day (sharesOn cal js day (rg i)) job := by
      unfold sharesOn
      rw [rg_succ, List.foldl_append, hji]; rfl
    have hmem : ∀ l ∈ sharesOn cal js day (rg i), InR js.length l ∧ l.length ≤ 8 := fun l hl => by
      have h1 := (mem_shares hpr.ok).mp hl
      have h2 := sub_rg h1.1
      have h3 := h1.1.length_le
      rw [rg_len] at h3
      exact ⟨fun x hx => by have := h2.2 x hx; omega, by omega⟩
    have hlen : (sharesOn cal js day (rg i)).length ≤ 256 := share_le (by rw [rg_len]; omega)
    generalize sharesOn cal js day (rg i) = found at p3' hstep hmem hlen
    obtain ⟨x, y, bd, rx, ry⟩ := bd_pair (K := K) (i := 4) (j := 5) (d1 := .int job) (d2 := jobD (js.getD job.toNat (0, []))) rv [some v1, some v2, some v3, some fv, a, b, c, e, g]
    refine bd _ ?_
    show tSeq _ _ _ _ _
    refine q_asgL (ds := []) (el_lst ea_nil (Nat.zero_le _)) fun p ws H4 hp0 s4 hp4 rw4 => ?_
    cases rw4
    obtain ⟨fa, fxs, rfl, hfa, rfx⟩ : ∃ fa fxs, fv = .ref fa ∧ H3 fa = some (.lst fxs) ∧ Reps H3 fxs (found.map lotD) := by
      cases p3' with
      | lst ha rs => exact ⟨_, _, rfl, ha, rs⟩
    have hne : fa ≠ p := ne_of_none hfa hp0
    refine q_for (ei_varN (D := p) rfl (s4 _ _ hfa) (rfx.mono s4) (noLs_map noL_lot _) hne (SB.noT hp4) (by rw [hp4]; exact fun z => by cases z))
      (fun H5 k σ' H' => SB p H5 H' ∧ Same H4 H5 ∧ (∃ xs, H' p = some (.lst xs) ∧ Reps H' xs (((found.take k).filter fun l => (dj js job).contains day && decide (sumG js l + gj js job ≤ ca cal day)).map fun l => lotD (l ++ [job]))) ∧ ∃ a b, σ' = [some v1, some v2, some v3, some (.ref fa), some x, some y, some (.ref p), a, b])
      (fun H5 s5 => ⟨SB.refl _ _, s5, ⟨[], s5 _ _ hp4, .nil⟩, e, g, rfl⟩) (fun H5 i σ' H' hi p => p.1) (fun H5 s5 k d v7 σ' H' H6 hd2 pv s6 r7 => ?_) (fun H5 σ' H' s5 pv => ?_)
    · obtain ⟨m1, m2, ⟨xs, m3, m4⟩, a2, b2, rfl⟩ := pv
      rw [List.getElem?_map] at hd2
      obtain ⟨l, hl, rfl⟩ := Option.map_eq_some_iff.mp hd2
      have hll := hmem l (mem_at hl)
      have ts6 : TS H3 H6 := (TS.of (s4.trans m2)).trans ((SB.ts (SB.noT (m2 _ _ hp4)) m1).trans (TS.of s6))
      have tsO : TS H H6 := (TS.of sH).trans ts6
      have q1 : Rep H6 v1 (lotD cal) := r1.ts tsO (noL_lot _)
      have q2 : Rep H6 v2 (jobsD js) := r2.ts tsO (noL_jobs _)
      have q3 : Rep H6 v3 (.int day) := r3.ts tsO rfl
      have qx : Rep H6 x (.int job) := rx.ts ts6 rfl
      have qy : Rep H6 y (jobD (js.getD job.toNat (0, []))) := ry.ts ts6 (noL_job _)
      have m3' := s6 _ _ m3
      have m4' := m4.mono s6
      have et : found.take (k + 1) = found.take k ++ [l] := by rw [List.take_succ, hl]; rfl
      show tIfS _ _ _ _ _ _
      refine s_when (b := (dj js job).contains day && decide (sumG js l + gj js job ≤ ca cal day)) (eb_and (eb_test (ed_op (ed_var rfl q3) (ed_op (ed_var rfl qy) ed_int rd_job1) rd_inI)) fun _ => eb_test (ed_op (ed_op (ed_sumG (js := js) (lot := l) (ed_var rfl r7) (by omega) hll.1 (fun _ => rfl) fun k2 v9 H7 s7 r9 hk2 => ed_gift (ed_var rfl (q2.mono s7)) (ed_var rfl r9) hk2) (ed_op (ed_var rfl qy) ed_int rd_job0) rd_add) (ed_op (ed_var rfl q1) (ed_var rfl q3) (rd_cal hday)) rd_le)) (fun ec H7 s7 => ?_) fun ec H7 s7 => ?_
      · have hxl : xs.length ≤ 256 := by
          have h1 := m4.length
          rw [List.length_map] at h1
          have h2 := List.length_filter_le (fun l => (dj js job).contains day && decide (sumG js l + gj js job ≤ ca cal day)) (found.take k)
          rw [List.length_take] at h2
          omega
        refine s_app (K := K) (xs := xs) (d := lotD (l ++ [job])) rfl (s7 _ _ m3') (ed_is (ed_op (ed_var rfl (r7.mono s7)) (ed_tup (ea_cons (ed_var rfl (qx.mono s7)) ea_nil) (by show (1 : Nat) ≤ 100000; decide)) (rd_catA (by rw [List.length_map]; show l.length + 1 ≤ 100000; omega))) (by simp [lotD])) (by omega) fun v5 H8 s8 r5 => ⟨(m1.trans (SB.of (s6.trans (s7.trans s8)))).upd, m2, ⟨xs ++ [v5], upd_same, ?_⟩, some v7, b2, rfl⟩
        refine Reps.upd_lst (l := p) (xs := xs) ?_ (noLs_map (f := fun l => lotD (l ++ [job])) (fun _ => noL_lot _) _) (s8 _ _ (s7 _ _ m3'))
        rw [et, List.filter_append, List.map_append, List.filter_cons, if_pos ec]
        exact (m4'.mono (s7.trans s8)).snoc r5
      · refine ⟨m1.trans (SB.of (s6.trans s7)), m2, ⟨xs, s7 _ _ m3', ?_⟩, some v7, b2, rfl⟩
        rw [et, List.filter_append, List.filter_cons, if_neg (by rw [ec]; decide), List.filter_nil, List.append_nil]
        exact m4'.mono s7
    · obtain ⟨m1, m2, ⟨xs, m3, m4⟩, a2, b2, rfl⟩ := pv
      rw [List.length_map, List.take_length] at m4
      have tsA : TS H3 H' := (TS.of (s4.trans m2)).trans (SB.ts (SB.noT (m2 _ _ hp4)) m1)
      have hS : Same H3 H' := SB.same (s4.trans m2) hp0 m1
      have e2 : found.map lotD ++ ((found.filter fun l => (dj js job).contains day && decide (sumG js l + gj js job ≤ ca cal day)).map fun l => lotD (l ++ [job])) = (shareStep cal js day found job).map lotD := by
        unfold shareStep
        cases hc : (dj js job).contains day with
        | false =>
          rw [if_neg (by decide)]
          simp
        | true =>
          rw [if_pos rfl, List.map_append, List.map_map]
          have : (fun l : Lot => true && decide (sumG js l + gj js job ≤ ca cal day)) = fun l : Lot => decide (sumG js l ≤ ca cal day - gj js job) := by
            funext l
            rw [Bool.true_and]
            exact decide_eq_decide.mpr (by omega)
          rw [this]; rfl
      refine s_asg (d := .list ((shareStep cal js day found job).map lotD)) (ed_is (ed_op (ed_var rfl (.lst (hS _ _ hfa) (rfx.ts tsA (noLs_map noL_lot _)))) (ed_var rfl (.lst m3 m4)) (rd_cat ?_)) (by rw [e2])) fun v8 H7 s7 r8 => ?_
      · rw [List.length_map, List.length_map]
        have := List.length_filter_le (fun l => (dj js job).contains day && decide (sumG js l + gj js job ≤ ca cal day)) found
        omega
      · refine ⟨((p1.trans s3).trans hS).trans s7, v8, some x, some y, some (.ref p), a2, b2, rfl, ?_⟩
        rw [hstep]; exact r8
  · obtain ⟨p1, fv, a, b, c, e, g, rfl, p3⟩ := p
    rw [pairsD_len, List.length_map] at p3
    exact s_ret (ed_var rfl p3) fun v H3 s3 r => q v H3 (((s1.trans s2).trans p1).trans s3) r
end K52
end
section
set_option Elab.async false
set_option linter.all false
set_option maxRecDepth 100000
/-! _law_are_fronts. -/
namespace K52
open PySem PySem.Spec PyProof.Rows L2
variable {P : Program} {w : World} {K : PySem.W.Frag} {mg : Str → Option Value} {base : Heap}
def spLawAreFronts : Sp := spP (α := Cal × Jobs × PyData) (fun x => [lotD x.1, jobsD x.2.1, x.2.2]) (fun x => Pr x.1 x.2.1 ∧ Gd 3 x.2.2) (fun x => .bool (areFronts x.1 x.2.1 x.2.2))
theorem scLawAreFronts : FnScope ["_law_calendar_here", "_law_jobs_here", "_law_value", "_law_front", "_law_lot", "_law_day", "_law_share", "_law_both", "_law_job", "_law_later"] ["_law_calendar_here", "_law_jobs_here", "_law_value"] (defScope sLawAreFronts) := ⟨rfl, rfl, rfl, by decide +kernel, rfl, by decide +kernel, by decide +kernel⟩
theorem emp_filter (ds : List PyData) (p : PyData → Bool) : (ds.filter fun d => !p d).isEmpty = ds.all p := by
  rw [Bool.eq_iff_iff, List.isEmpty_iff, List.filter_eq_nil_iff, List.all_eq_true]
  exact ⟨fun h a ha => by simpa using h a ha, fun h a ha => by simp [h a ha]⟩
theorem emp_filterL {α : Type} (ds : List α) (p : α → Bool) : (ds.filter p).isEmpty = !ds.any p := by
  rw [Bool.eq_iff_iff, List.isEmpty_iff, List.filter_eq_nil_iff, Bool.not_eq_true', List.any_eq_false]
theorem df_lawAreFronts (F : Bl mg) (D : DefAt K mg "_law_are_fronts" sLawAreFronts) (G__law_is_lot : Df P w K mg base 1 "_law_is_lot" ["_law_value", "_law_many"] spLawIsLot) (G__law_shares : Df P w K mg base 1 "_law_shares" ["_law_calendar_here", "_law_jobs_here", "_law_day"] spLawShares) :
    Df P w K mg base 2 "_law_are_fronts" ["_law_calendar_here", "_law_jobs_here", "_law_value"] spLawAreFronts := by
  have nd := scLawAreFronts.nd
  refine df_pure D scLawAreFronts (fun _ _ _ _ _ _ us hl => match us, hl with | [_, _, _], _ => rfl) (fun _ _ _ _ _ _ us hl => match us, hl with | [_, _, _], _ => rfl) (fun _ => rfl) fun f cdv A outer s H E hr =>
    have hu : (A.deeper (envOfC "_law_are_fronts" (defScope sLawAreFronts) s.heap.objs.size f cdv)).units + 64 < cLine := hr.units
    have hu5 : (A.deeper (envOfC "_law_are_fronts" (defScope sLawAreFronts) s.heap.objs.size f cdv)).units + 65 < cLine := by have := hr.un; omega
    have hr__law_is_lot := hr
    have hr__law_shares := hr
    ⟨_, PSs.nox (pss_cons (ps_if (PW.pt (pw_or (pt_not (pt_val (pe_callB (clIsi K) (by rfl) F.isinstance boot_isinstance (pa_cons (pv 2) (pa_cons (pe_bltn (v := .ty "tuple") (by rfl) F.tuple boot_tuple rfl) pa_nil))))) (pw_or (pt_cmpR op_lt (pe_callB (clLen K) (by rfl) F.len boot_len (pa_cons (pv 2) pa_nil)) pe_int (nomark _)) (pw_or1 (pt_cmpR op_gt (pe_callB (clLen K) (by rfl) F.len boot_len (pa_cons (pv 2) pa_nil)) (pe_op op_add (pe_callB (clLen K) (by rfl) F.len boot_len (pa_cons (pv 0) pa_nil)) pe_int) (nomark _)))))) (pss_one (ps_ret pe_bl)) pss_nil)
  (pss_cons (ps_for PassesOwn.never rfl (piT K (pv 2)) (pg_name (i := 3) nd rfl (by first | exact Or.inl rfl | exact Or.inr rfl)) (pss_cons (ps_if (PW.pt (pw_or (pt_not (pt_val (pe_callB (clIsi K) (by rfl) F.isinstance boot_isinstance (pa_cons (pv 3) (pa_cons (pe_bltn (v := .ty "tuple") (by rfl) F.tuple boot_tuple rfl) pa_nil))))) (pw_or (pt_cmpR (opEq K hu) (pv 3) (pe_tup pa_nil) (nomark _)) (pw_or1 (pt_cmpR (opNe K hu) (pe_lc (own := [("_law_lot", 4)]) (g := gName 4)  rfl nd (piT K (pv 3)) (blkOk_by (by kernel_rfl)) (fun _ _ _ _ _ => (pg_name (i := 4) nd rfl (by first | exact Or.inl rfl | exact Or.inr rfl))) (fun _ _ _ _ _ => (pts_one (pt_not (pt_val (pe_df G__law_is_lot hr__law_is_lot (by rfl) (pa_cons (pv 4) (pa_cons (pe_callB (clLen K) (by rfl) F.len boot_len (pa_cons (pv 1) pa_nil)) pa_nil))))))) (fun _ _ _ _ _ => (pv 4))) (pe_lst pa_nil) (nomark _)))))) (pss_one (ps_ret pe_bl)) pss_nil)
  (pss_one (ps_if (pt_cmpR (opNe K hu) (pe_callTy (clList K) (by rfl) F.list boot_list (pa_cons (pv 3) pa_nil)) (pe_callB (clSortT K P w rfl hu) (by rfl) F.sorted boot_sorted (pa_cons (pe_callTy (clSetTT K P w rfl hu) (by rfl) F.set boot_set (pa_cons (pv 3) pa_nil)) pa_nil)) (nomark _)) (pss_one (ps_ret pe_bl)) pss_nil))))
  (pss_cons (ps_for PassesOwn.never rfl (pi_range1 (by rfl) F.range (pa_cons (pe_op op_sub (pe_callB (clLen K) (by rfl) F.len boot_len (pa_cons (pv 2) pa_nil)) pe_int) pa_nil)) (pg_name (i := 5) nd rfl (by first | exact Or.inl rfl | exact Or.inr rfl)) (pss_one (ps_for PassesOwn.never rfl (piT K (pe_ix (ixT K) (pv 2) (pv 5) (fun _ _ => rfl))) (pg_name (i := 4) nd rfl (by first | exact Or.inl rfl | exact Or.inr rfl)) (pss_one (ps_for PassesOwn.never rfl (piL K (pe_df G__law_shares hr__law_shares (by rfl) (pa_cons (pv 0) (pa_cons (pv 1) (pa_cons (pv 5) pa_nil))))) (pg_name (i := 6) nd rfl (by first | exact Or.inl rfl | exact Or.inr rfl)) (pss_cons (ps_set (i := 7) nd rfl (Or.inr rfl) (pe_lc (own := [("_law_job", 8)]) (g := gName 8)  rfl nd (pi_range1 (by rfl) F.range (pa_cons (pe_callB (clLen K) (by rfl) F.len boot_len (pa_cons (pv 1) pa_nil)) pa_nil)) (blkOk_by (by kernel_rfl)) (fun _ _ _ _ _ => (pg_name (i := 8) nd rfl (by first | exact Or.inl rfl | exact Or.inr rfl))) (fun _ _ _ _ _ => (pts_one (PW.pt (pw_or (pt_cmpR (opIn K hu5) (pv 8) (pv 4) rfl) (pw_or1 (pt_cmpR (opIn K hu5) (pv 8) (pv 6) rfl)))))) (fun _ _ _ _ _ => (pv 8))))
  (pss_one (ps_if (pt_cmpR (opEq K hu) (pe_lc (own := [("_law_later", 9)]) (g := gName 9)  rfl nd (piT K (pe_ix (ixT K) (pv 2) (pe_op op_add (pv 5) pe_int) (fun _ _ => rfl))) (blkOk_by (by kernel_rfl)) (fun _ _ _ _ _ => (pg_name (i := 9) nd rfl (by first | exact Or.inl rfl | exact Or.inr rfl))) (fun _ _ _ _ _ => (pts_one (pt_cmpR (opEq K hu) (pe_lc (own := [("_law_job", 8)]) (g := gName 8)  rfl nd (piL K (pv 7)) (blkOk_by (by kernel_rfl)) (fun _ _ _ _ _ => (pg_name (i := 8) nd rfl (by first | exact Or.inl rfl | exact Or.inr rfl))) (fun _ _ _ _ _ => (pts_one (pt_cmpR (opNi K hu5) (pv 8) (pv 9) rfl))) (fun _ _ _ _ _ => (pv 8))) (pe_lst pa_nil) (nomark _)))) (fun _ _ _ _ _ => (pv 9))) (pe_lst pa_nil) (nomark _)) (pss_one (ps_ret pe_bl)) pss_nil))))))))
  (pss_one (ps_ret pe_bl))))), ?_⟩
  intro x vs Q rs hp q
  obtain ⟨cal, js, d⟩ := x
  obtain ⟨v1, v2, v, rfl, r1, r2, r⟩ := rs.c3
  obtain ⟨hpr, hsm, hsh⟩ := (show Pr cal js ∧ Gd 3 d from hp)
  have hcl := hpr.cl
  have hjl := hpr.jl
  have q' : ∀ v H', Same H H' → Rep H' v (.bool (areFronts cal js d)) → Q v H' := q
  cases ht : isTup d with
  | false =>
    refine q_when (b := true) (eb_is (eb_or (b := true) (eb_not (eb_B (ed_isi (ed_var rfl r) (kit_tup d)))) fun e => by rw [ht] at e; cases e) (by rw [ht]; rfl)) (fun _ H1 s1 => s_ret ed_bl fun v H2 s2 rv => q' v H2 (s1.trans s2) ?_) fun e => by cases e
    have e : areFronts cal js d = false := by unfold areFronts; rw [ht]; rfl
    rw [e]; exact rv
  | true =>
    have hd := tup_of ht
    generalize hds : itemsOf d = ds at hd
    have hz : ds.length ≤ 60 := by rw [← hds]; exact hsm.1
    have hse : ∀ e ∈ ds, Sq 2 e := by rw [← hds]; exact hsm.2
    subst hd
    have hshd := sh_items hsh
    have hfull : areFronts cal js (.tuple ds) = (decide (1 ≤ ds.length ∧ ds.length ≤ cal.length + 1) && ds.all (isFront js.length) && leadsAll cal js (frontsIn (.tuple ds))) := rfl
    refine q_when (b := decide ((ds.length : Int) < 1) || decide ((cal.length : Int) + 1 < ds.length)) (eb_is (eb_or (eb_not (eb_B (ed_isi (ed_var rfl r) (kit_tup _)))) fun e => eb_or (eb_test (ed_op (ed_cb (ea_cons (ed_var rfl r) ea_nil) cd_lenT) ed_int rd_lt)) fun _ => eb_test (ed_op (ed_cb (ea_cons (ed_var rfl r) ea_nil) cd_lenT) (ed_op (ed_cb (ea_cons (ed_var rfl r1) ea_nil) cd_lenLot) ed_int rd_add) rd_gt)) rfl) (fun e H1 s1 => s_ret ed_bl fun v H2 s2 rv => q' v H2 (s1.trans s2) ?_) fun e H1 s1 => ?_
    · have e2 : areFronts cal js (.tuple ds) = false := by
        rw [hfull]
        have : decide (1 ≤ ds.length ∧ ds.length ≤ cal.length + 1) = false := by
          refine decide_eq_false fun h => ?_
          rw [Bool.or_eq_true, decide_eq_true_eq, decide_eq_true_eq] at e
          omega
        rw [this]; rfl
      rw [e2]; exact rv
    · have hlen : 1 ≤ ds.length ∧ ds.length ≤ cal.length + 1 := by
        rw [Bool.or_eq_false_iff, decide_eq_false_iff_not, decide_eq_false_iff_not] at e
        omega
      have hno : ∀ {e : PyData}, e ∈ ds → isFront js.length e = false → areFronts cal js (.tuple ds) = false := fun {e} he h => by
        rw [hfull]
        have : ds.all (isFront js.length) = false := List.all_eq_false.mpr ⟨e, he, by rw [h]; decide⟩
        rw [this, Bool.and_false, Bool.false_and]
      refine q_for (ei_tupS (ds := ds) (ed_var rfl (r.mono s1))) (fun H2 i σ' H' => Same H2 H' ∧ (∃ a, σ' = [some v1, some v2, some v, a, none, none, none, none, none, none]) ∧ ∀ e ∈ ds.take i, isFront js.length e = true)
        (fun H2 s2 => ⟨Same.refl _, ⟨none, rfl⟩, fun lot h => absurd h (by simp)⟩) (fun H2 i σ' H' hi p => p.1) (fun H2 s2 i fr v3 σ' H' H3 hd p s3 rv => ?_) (fun H2 σ' H' s2 p => ?_)
      · obtain ⟨p1, ⟨a, rfl⟩, p3⟩ := p
        have hmem := mem_at hd
        have sH : Same H H3 := ((s1.trans s2).trans p1).trans s3
        have hfs := hse fr hmem
        have hfsh := hshd fr hmem
        have ret : ∀ {D : Ends} {σ : L2.St} {H4 : Hp}, D.rt = Q → Same H H4 → isFront js.length fr = false → tRet (tC (.bl false)) D σ H4 := fun {D σ H4} hD s4 hf => s_ret ed_bl fun v H5 s5 rv => by
          rw [hD]
          refine q' v H5 (s4.trans s5) ?_
          rw [hno hmem hf]; exact rv
        show tSeq _ _ _ _ _
        cases hft : isTup fr with
        | false =>
          refine q_when (b := true) (eb_is (eb_or (b := true) (eb_not (eb_B (ed_isi (ed_var rfl rv) (kit_tup fr)))) fun e => by rw [hft] at e; cases e) (by rw [hft]; rfl)) (fun _ H4 s4 => ret rfl (sH.trans s4) (by unfold isFront; rw [hft]; rfl)) fun e => by cases e
        | true =>
          have hfd := tup_of hft
          generalize hes : itemsOf fr = es at hfd
          have hez : es.length ≤ 60 := by rw [← hes]; exact hfs.1
          have hesm : ∀ e ∈ es, Sq 1 e := by rw [← hes]; exact hfs.2
          subst hfd
          have hesh := sh_items hfsh
          have hff : isFront js.length (.tuple es) = (!es.isEmpty && es.all (isRising js.length) && decide (LAsc (frontOf (.tuple es)))) := rfl
          have hRn : RD (rEqD K) (.tuple es) (.tuple []) (.bool es.isEmpty) := by
            rw [← eqv_nilT]
            exact rd_eqD hfsh.shaped (Sh.tup (n := 1) fun d hd => absurd hd (by simp)).shaped
          have hRc : RD (rNeD K) (.list (es.filter fun l => !isRising js.length l)) (.list []) (.bool (!es.all (isRising js.length))) := by
            rw [← emp_filter, ← eqv_nil]
            exact rd_neD (sh_filter hesh _).shaped (Sh.lst (n := 1) fun d hd => absurd hd (by simp)).shaped
          refine q_when (b := es.isEmpty || !es.all (isRising js.length)) (eb_is (eb_or (eb_not (eb_B (ed_isi (ed_var rfl rv) (kit_tup _)))) fun _ => eb_or (eb_test (ed_op (ed_var rfl rv) (ed_tup ea_nil (Nat.zero_le _)) hRn)) fun _ => eb_test (ed_op (ed_lcId (fun l => !isRising js.length l) (ed_var rfl rv) (by omega) (fun _ => rfl) (fun _ => rfl) fun one hone v4 H4 s4 r4 => eb_not (eb_B (ed_call (one, (js.length : Int)) (ea_cons (ed_var rfl r4) (ea_cons (ed_cb (ea_cons (ed_var rfl (r2.mono (sH.trans s4))) ea_nil) cd_lenJobs) ea_nil)) ⟨hesm one hone, hesh one hone⟩))) (ed_lst ea_nil (Nat.zero_le _)) hRc)) rfl) (fun ec H4 s4 => ret rfl (sH.trans s4) ?_) fun ec H4 s4 => ?_
          · rw [hff]
            rw [Bool.or_eq_true, Bool.not_eq_true'] at ec
            rcases ec with ec | ec
            · rw [ec]; rfl
            · rw [ec]; simp
          · rw [Bool.or_eq_false_iff, Bool.not_eq_false'] at ec
            obtain ⟨ec1, ec2⟩ := ec
            obtain ⟨g1, g2⟩ := front_of ec2
            have hfl : (frontOf (.tuple es)).length = es.length := by show (es.map lotOf).length = _; rw [List.length_map]
            have hf2 : isFront js.length (.tuple es) = decide (frontOf (.tuple es) = lsort (frontOf (.tuple es))) := by rw [hff, ec1, ec2, lsort_eq]; rfl
            have rf : Rep H4 v3 (frontD (frontOf (.tuple es))) := by rw [← g1]; exact rv.mono s4
            generalize frontOf (.tuple es) = fr at hfl hf2 rf
            have hR2 : RD (rNeD K) (.list (fr.map lotD)) (.list ((lsort fr).map lotD)) (.bool (!decide (fr = lsort fr))) := by
              rw [← eqv_lots]
              exact rd_neD (sh_lots _).shaped (sh_lots _).shaped
            refine s_when (b := !decide (fr = lsort fr)) (eb_test (ed_op (ed_cb (ea_cons (ed_var rfl rf) ea_nil) cd_listT) (ed_ssTT (ed_var rfl rf) (by omega)) hR2)) (fun ed H5 s5 => ret rfl ((sH.trans s4).trans s5) ?_) fun ed H5 s5 => ?_
            · rw [hf2]; rw [Bool.not_eq_true'] at ed; exact ed
            · refine ⟨((p1.trans s3).trans s4).trans s5, ⟨some v3, rfl⟩, fun x hx => ?_⟩
              rcases mem_take_succ hd hx with z | z
              · exact p3 x z
              · rw [z, hf2]; rw [Bool.not_eq_false'] at ed; exact ed
      · obtain ⟨p1, ⟨a, rfl⟩, p3⟩ := p
        rw [List.take_length] at p3
        have hall : ds.all (isFront js.length) = true := List.all_eq_true.mpr p3
        obtain ⟨h1, h2⟩ := fronts_of hall
        have hFl : (frontsIn (.tuple ds)).length = ds.length := by show (ds.map frontOf).length = _; rw [List.length_map]
        have e2 : areFronts cal js (.tuple ds) = lawLeadsAll cal js (frontsIn (.tuple ds)) := by rw [hfull, decide_eq_true hlen, hall, leadsAll_eq hpr.ok h2]; rfl
        rw [e2] at q'
        have sH := (s1.trans s2).trans p1
        have r' : Rep H' v (frontsD (frontsIn (.tuple ds))) := by rw [← h1]; exact r.mono sH
        rw [← hFl] at hlen
        generalize frontsIn (.tuple ds) = G at r' h2 q' hlen
        have hnoL : ∀ {k : Nat} {lot share : Lot}, k < G.length - 1 → lot ∈ G.getD k [] → share ∈ sharesOn cal js k (rg js.length) → isWithin (lawBoth js.length lot share) (G.getD (k + 1) []) = false → lawLeadsAll cal js G = false := fun {k lot share} hk hl hs h => by
          unfold lawLeadsAll
          refine List.all_eq_false.mpr ⟨k, List.mem_range.mpr hk, ?_⟩
          unfold lawLeads
          rw [Bool.not_eq_true]
          refine List.all_eq_false.mpr ⟨lot, hl, ?_⟩
          rw [Bool.not_eq_true]
          exact List.all_eq_false.mpr ⟨share, hs, by rw [h]; decide⟩
        refine q_for (ei_adj (n := G.length) (ed_cb (ea_cons (ed_var rfl r') ea_nil) cd_lenFronts) (by omega)) (fun H4 i σ' H5 => Same H4 H5 ∧ (∃ a b c d e f, σ' = [some v1, some v2, some v, a, b, c, d, e, none, f]) ∧ ∀ k, k < i → lawLeads cal js k (G.getD k []) (G.getD (k + 1) []) = true)
          (fun H4 s4 => ⟨Same.refl _, ⟨a, none, none, none, none, none, rfl⟩, fun k hk => absurd hk (by omega)⟩) (fun H4 i σ' H5 hi p => p.1) (fun H4 s4 i dd v5 σ' H5 H6 hd p s6 rv => ?_) (fun H4 σ' H5 s4 p => ?_)
        · obtain ⟨m1, ⟨a2, b2, c2, d2, e2, f2, rfl⟩, m3⟩ := p
          rw [List.getElem?_map] at hd
          obtain ⟨day, hday, rfl⟩ := Option.map_eq_some_iff.mp hd
          obtain ⟨hdi, hilt⟩ := rg_at hday
          have hk1 : 0 ≤ day ∧ day < (G.length : Int) := by omega
          have hk2 : 0 ≤ day + 1 ∧ day + 1 < (G.length : Int) := by omega
          have sH6 : Same H' H6 := (s4.trans m1).trans s6
          have sO6 := sH.trans sH6
          have eG : G.getD day.toNat [] = G.getD i [] := by rw [hdi, Int.toNat_natCast]
          have eG1 : G.getD (day + 1).toNat [] = G.getD (i + 1) [] := by congr 1; omega
          have hfrl := (getF h2 (k := i) (by omega)).2
          have hltl := (getF h2 (k := i + 1) (by omega)).2
          have hEd : ED (tOp (rIxT K) (tVar 2) (tVar 5)) [some v1, some v2, some v, a2, b2, some v5, d2, e2, none, f2] H6 (frontD (G.getD i [])) := by
            rw [← eG]
            exact ed_op (ed_var rfl (r'.mono sH6)) (ed_var rfl rv) (rd_ixT (atI_map (dflt := []) hk1))
          refine s_for (ei_tupS (ds := (G.getD i []).map lotD) hEd) (fun H7 k σ' H8 => Same H7 H8 ∧ (∃ a b d e f, σ' = [some v1, some v2, some v, a, b, some v5, d, e, none, f]) ∧ ∀ lot ∈ (G.getD i []).take k, ((sharesOn cal js i (rg js.length)).all fun share => isWithin (lawBoth js.length lot share) (G.getD (i + 1) [])) = true)
            (fun H7 s7 => ⟨Same.refl _, ⟨a2, b2, d2, e2, f2, rfl⟩, fun x h => absurd h (by simp)⟩) (fun H7 i σ' H8 hi p => p.1) (fun H7 s7 k dd v6 σ' H8 H9 hd2 p s9 r6 => ?_) (fun H7 σ' H8 s7 p => ?_)
          · obtain ⟨n1, ⟨a3, b3, d3, e3, f3, rfl⟩, n3⟩ := p
            rw [List.getElem?_map] at hd2
            obtain ⟨lot, hl, rfl⟩ := Option.map_eq_some_iff.mp hd2
            have sH9 : Same H6 H9 := (s7.trans n1).trans s9
            have sO9 := sO6.trans sH9
            have rv9 := rv.mono sH9
            refine s_for (ei_list (ds := (sharesOn cal js i (rg js.length)).map lotD) (ed_is (ed_call (cal, js, day) (ea_cons (ed_var rfl (r1.mono sO9)) (ea_cons (ed_var rfl (r2.mono sO9)) (ea_cons (ed_var rfl rv9) ea_nil))) ⟨hpr, by show 0 ≤ day ∧ day < cal.length; omega⟩) (by rw [hdi])))
              (fun H10 m σ' H11 => Same H10 H11 ∧ (∃ d e f, σ' = [some v1, some v2, some v, a3, some v6, some v5, d, e, none, f]) ∧ ∀ share ∈ (sharesOn cal js i (rg js.length)).take m, isWithin (lawBoth js.length lot share) (G.getD (i + 1) []) = true)
              (fun H10 s10 => ⟨Same.refl _, ⟨d3, e3, f3, rfl⟩, fun x h => absurd h (by simp)⟩) (fun H10 i σ' H11 hi p => p.1) (fun H10 s10 m dd v7 σ' H11 H12 hd3 p s12 r7 => ?_) (fun H10 σ' H11 s10 p => ?_)
            · obtain ⟨o1, ⟨d4, e4, f4, rfl⟩, o3⟩ := p
              rw [List.getElem?_map] at hd3
              obtain ⟨share, hsh3, rfl⟩ := Option.map_eq_some_iff.mp hd3
              have s9_12 : Same H9 H12 := (s10.trans o1).trans s12
              have sO12 := sO9.trans s9_12
              refine q_asg (d := .list ((lawBoth js.length lot share).map .int)) (ed_is (ed_lcI (items := rg js.length) (enc := .int) (fun j => lot.contains j || share.contains j) (fun j => j) (ei_rng (n := (js.length : Int)) (ea_cons (ed_cb (ea_cons (ed_var rfl (r2.mono sO12)) ea_nil) cd_lenJobs) ea_nil) ⟨by omega, by omega⟩) (by rw [rg_len]; omega) fun k j hj v8 H13 s13 r8 => ⟨_, bd_name, rfl, eb_or (eb_test (ed_op (ed_var rfl r8) (ed_var rfl (r6.mono (s9_12.trans s13))) rd_inI)) fun _ => eb_test (ed_op (ed_var rfl r8) (ed_var rfl (r7.mono s13)) rd_inI), fun _ => ed_var rfl r8⟩) (by rw [List.map_id']; rfl)) fun v8 H13 s13 r8 => ?_
              have hbl : (lawBoth js.length lot share).length ≤ 8 := Nat.le_trans (List.length_filter_le _ _) (by rw [rg_len]; exact hjl)
              generalize hbo : lawBoth js.length lot share = both at r8 hbl
              have sO13 := sO12.trans s13
              have hEl : ∀ {H14 : Hp}, Same H13 H14 → ED (tOp (rIxT K) (tVar 2) (tOp (rI0 fun i j => .int (i + j)) (tVar 5) (tC (.int 1)))) [some v1, some v2, some v, a3, some v6, some v5, some v7, some v8, none, f4] H14 (frontD (G.getD (i + 1) [])) := fun {H14} s14 => by
                rw [← eG1]
                exact ed_op (ed_var rfl (r'.mono (((sH6.trans sH9).trans s9_12).trans (s13.trans s14)))) (ed_op (ed_var rfl (rv9.mono (s9_12.trans (s13.trans s14)))) ed_int rd_add) (rd_ixT (atI_map (dflt := []) hk2))
              have hRe : RD (rEqD K) (.list (((G.getD (i + 1) []).filter fun later => both.all fun j => later.contains j).map lotD)) (.list []) (.bool (!isWithin both (G.getD (i + 1) []))) := by
                have e1 := eqv_nil (((G.getD (i + 1) []).filter fun later => both.all fun j => later.contains j).map lotD)
                rw [List.isEmpty_map, emp_filterL] at e1
                have e2 : isWithin both (G.getD (i + 1) []) = (G.getD (i + 1) []).any fun later => both.all fun j => later.contains j := rfl
                rw [e2, ← e1]
                exact rd_eqD (Sh.lst (sh_map sh_lot _)).shaped (Sh.lst (n := 1) fun d hd => absurd hd (by simp)).shaped
              refine s_when (b := !isWithin both (G.getD (i + 1) [])) (eb_test (ed_op (ed_lc (items := G.getD (i + 1) []) (enc := lotD) (fun later => both.all fun j => later.contains j) lotD noL_lot (ei_tupS (hEl (Same.refl _))) (by have := hpr.lots hltl; omega) fun k later hla v9 H14 s14 r9 => ⟨_, bd_name, rfl, ?_, fun _ => ed_var rfl r9⟩) (ed_lst ea_nil (Nat.zero_le _)) hRe)) (fun ec H14 s14 => ?_) fun ec H14 s14 => ?_
              · have hRi : RD (rEqD K) (.list ((both.filter fun j => !later.contains j).map .int)) (.list []) (.bool (both.all fun j => later.contains j)) := by
                  have e1 := eqv_nil ((both.filter fun j => !later.contains j).map .int)
                  rw [List.isEmpty_map, emp_filterL] at e1
                  have e3 : (!both.any fun j => !later.contains j) = both.all fun j => later.contains j := by rw [List.not_any_eq_all_not]; simp
                  rw [← e3, ← e1]
                  exact rd_eqD (sh_ints _).shaped (Sh.lst (n := 1) fun d hd => absurd hd (by simp)).shaped
                refine eb_test (ed_op (ed_is (ed_lcI (items := both) (enc := .int) (fun j => !later.contains j) (fun j => j) (ei_list (ed_var rfl (r8.mono s14))) (by omega) fun k j hj v10 H15 s15 r10 => ⟨_, bd_name, rfl, eb_test (ed_op (ed_var rfl r10) (ed_var rfl (r9.mono s15)) rd_niI), fun _ => ed_var rfl r10⟩) (by rw [List.map_id'])) (ed_lst ea_nil (Nat.zero_le _)) hRi)
              · refine s_ret ed_bl fun v9 H15 s15 r9 => q' v9 H15 ((sO13.trans s14).trans s15) ?_
                rw [Bool.not_eq_true'] at ec
                rw [hnoL (k := i) (lot := lot) (share := share) (by omega) (mem_at hl) (mem_at hsh3) (by rw [hbo]; exact ec)]
                exact r9
              · refine ⟨((o1.trans s12).trans s13).trans s14, ⟨some v7, some v8, f4, rfl⟩, fun x hx => ?_⟩
                rcases mem_take_succ hsh3 hx with z | z
                · exact o3 x z
                · rw [z, hbo]; rw [Bool.not_eq_false'] at ec; exact ec
            · obtain ⟨o1, ⟨d4, e4, f4, rfl⟩, o3⟩ := p
              rw [List.length_map, List.take_length] at o3
              refine ⟨((n1.trans s9).trans s10).trans o1, ⟨a3, some v6, d4, e4, f4, rfl⟩, fun x hx => ?_⟩
              rcases mem_take_succ hl hx with z | z
              · exact n3 x z
              · rw [z]; exact List.all_eq_true.mpr o3
          · obtain ⟨n1, ⟨a3, b3, d3, e3, f3, rfl⟩, n3⟩ := p
            rw [List.length_map, List.take_length] at n3
            refine ⟨((m1.trans s6).trans s7).trans n1, ⟨a3, b3, some v5, d3, e3, f3, rfl⟩, fun k hk => ?_⟩
            by_cases c : k = i
            · rw [c]; exact List.all_eq_true.mpr n3
            · exact m3 k (by omega)
        · obtain ⟨m1, ⟨a2, b2, c2, d2, e2, f2, rfl⟩, m3⟩ := p
          rw [List.length_map, rg_len] at m3
          refine s_ret ed_bl fun v9 H8 s8 r9 => q' v9 H8 ((sH.trans (s4.trans m1)).trans s8) ?_
          have et : lawLeadsAll cal js G = true := by
            unfold lawLeadsAll
            rw [List.all_eq_true]
            intro k hk
            have := List.mem_range.mp hk
            exact m3 k (by omega)
          rw [et]; exact r9
end K52
end
section
set_option Elab.async false
set_option linter.all false
set_option maxRecDepth 100000
/-! _law_shared. -/
namespace K52
open PySem PySem.Spec PyProof.Rows L2
variable {P : Program} {w : World} {K : PySem.W.Frag} {mg : Str → Option Value} {base : Heap}
structure PrS (cal : Cal) (js : Jobs) : Prop where
  ok : Ok cal js
  cl : cal.length ≤ 4
  jl : js.length ≤ 5
theorem PrS.pr {cal : Cal} {js : Jobs} (h : PrS cal js) : Pr cal js := ⟨h.ok, by have := h.cl; omega, by have := h.jl; omega⟩
def shareS (cal : Cal) (js : Jobs) (i : Int) (s : List (Option Int)) : List (List (Option Int)) := (s ++ [none]) :: ((dj js i).filter fun day => decide (load js s day + gj js i ≤ ca cal day)).map fun day => s ++ [some day]
theorem sharedK_succ (cal : Cal) (js : Jobs) (k : Nat) : sharedK cal js (k + 1) = (sharedK cal js k).flatMap (shareS cal js k) := by
  unfold sharedK
  rw [List.range_succ, List.foldl_append]
  rfl
theorem flat_len {α β : Type} {f : α → List β} {c : Nat} : ∀ l : List α, (∀ a ∈ l, (f a).length ≤ c) → (l.flatMap f).length ≤ l.length * c
  | [], _ => by simp
  | a :: l, h => by
    have h1 := h a List.mem_cons_self
    have h2 := flat_len l fun b hb => h b (List.mem_cons_of_mem _ hb)
    rw [List.flatMap_cons, List.length_append, List.length_cons, Nat.succ_mul]
    omega
theorem shareS_len {cal : Cal} {js : Jobs} (ok : Ok cal js) (i : Int) (s : List (Option Int)) : (shareS cal js i s).length ≤ cal.length + 1 := by
  unfold shareS
  rw [List.length_cons, List.length_map]
  have h1 := List.length_filter_le (fun day => decide (load js s day + gj js i ≤ ca cal day)) (dj js i)
  have h2 := lot_len (ok.djR i).1 (ok.djR i).2
  omega
theorem sharedK_len {cal : Cal} {js : Jobs} (h : PrS cal js) : ∀ k : Nat, (sharedK cal js k).length ≤ 5 ^ k
  | 0 => by show (1 : Nat) ≤ 1; decide
  | k + 1 => by
    rw [sharedK_succ]
    have h1 := flat_len (f := shareS cal js k) (c := 5) (sharedK cal js k) fun s _ => by have := shareS_len h.ok k s; have := h.cl; omega
    have h2 := sharedK_len h k
    rw [Nat.pow_succ]
    omega
theorem sharedK_few {cal : Cal} {js : Jobs} (h : PrS cal js) {k : Nat} (hk : k ≤ 5) : (sharedK cal js k).length ≤ 3125 := Nat.le_trans (sharedK_len h k) (Nat.le_trans (Nat.pow_le_pow_right (by decide) hk) (by decide))
def spLawShared : Sp := spP (α := Cal × Jobs) (fun x => [lotD x.1, jobsD x.2]) (fun x => PrS x.1 x.2) (fun x => .list ((sharedK x.1 x.2 x.2.length).map partD))
theorem scLawShared : FnScope ["_law_calendar_here", "_law_jobs_here", "_law_found", "_law_at", "_law_job", "_law_more", "_law_some", "_law_day", "_law_told", "_law_other"] ["_law_calendar_here", "_law_jobs_here"] (defScope sLawShared) := ⟨rfl, rfl, rfl, by decide +kernel, rfl, by decide +kernel, by decide +kernel⟩
theorem noLs_parts (l : List (List (Option Int))) : noLs (l.map partD) = true := noLs_map noL_part l
theorem df_lawShared (F : Bl mg) (D : DefAt K mg "_law_shared" sLawShared) : Df P w K mg base 1 "_law_shared" ["_law_calendar_here", "_law_jobs_here"] spLawShared := by
  have nd := scLawShared.nd
  refine df_pure D scLawShared (fun _ _ _ _ _ _ us hl => match us, hl with | [_, _], _ => rfl) (fun _ _ _ _ _ _ us hl => match us, hl with | [_, _], _ => rfl) (fun _ => rfl) fun f cdv A outer s H E hr =>
    have hu : (A.deeper (envOfC "_law_shared" (defScope sLawShared) s.heap.objs.size f cdv)).units + 64 < cLine := hr.units
    ⟨_, PSs.nox (pss_cons (ps_set (i := 2) nd rfl (Or.inl rfl) (pe_lst (pa_cons (pe_tup pa_nil) pa_nil)))
  (pss_cons (ps_for PassesOwn.never rfl (piE K (by rfl) F.enumerate (pa_cons (pv 1) pa_nil)) (pgT K (n := 2) rfl (pgs_cons (pg_name (i := 3) nd rfl (by first | exact Or.inl rfl | exact Or.inr rfl)) (pgs_cons (pg_name (i := 4) nd rfl (by first | exact Or.inl rfl | exact Or.inr rfl)) pgs_nil))) (pss_cons (ps_set (i := 5) nd rfl (Or.inl rfl) (pe_lst pa_nil))
  (pss_cons (ps_for PassesOwn.never rfl (piL K (pv 2)) (pg_name (i := 6) nd rfl (by first | exact Or.inl rfl | exact Or.inr rfl)) (pss_cons (ps_expr (pe_bm PySem.F.plainAttrs_list PySem.F.slot_list_append PySem.F.type_list_append mt_append (pv 5) (pa_cons (pe_op (opCatA K) (pv 6) (pe_tup (pa_cons pe_non pa_nil))) pa_nil)))
  (pss_one (ps_for PassesOwn.never rfl (piT K (pe_ix (ixT K) (pv 4) pe_int (fun _ _ => rfl))) (pg_name (i := 7) nd rfl (by first | exact Or.inl rfl | exact Or.inr rfl)) (pss_cons (ps_setLc (i := 8) (own := [("_law_other", 9)]) (g := gName 9)  rfl nd rfl rfl (sw_true rfl rfl rfl (by decide +kernel)) (pi_range1 (by rfl) F.range (pa_cons (pv 3) pa_nil)) (blkOk_by (by kernel_rfl)) (fun _ _ _ _ _ => (pg_name (i := 9) nd rfl (by first | exact Or.inl rfl | exact Or.inr rfl))) (fun _ _ _ _ _ => (pts_one (pt_cmpR (opEq K hu) (pe_ix (ixT K) (pv 6) (pv 9) (fun _ _ => rfl)) (pv 7) (nomark _)))) (fun _ _ _ _ _ => (pe_ix (ixT K) (pe_ix (ixT K) (pv 1) (pv 9) (fun _ _ => rfl)) pe_int (fun _ _ => rfl))))
  (pss_one (ps_if (pt_cmpR op_le (pe_op op_add (pe_callB (clSum K rfl) (by rfl) F.sum boot_sum (pa_cons (pv 8) pa_nil)) (pe_ix (ixT K) (pv 4) pe_int (fun _ _ => rfl))) (pe_ix (ixT K) (pv 0) (pv 7) (fun _ _ => rfl)) (nomark _)) (pss_one (ps_expr (pe_bm PySem.F.plainAttrs_list PySem.F.slot_list_append PySem.F.type_list_append mt_append (pv 5) (pa_cons (pe_op (opCatA K) (pv 6) (pe_tup (pa_cons (pv 7) pa_nil))) pa_nil)))) pss_nil)))))))
  (pss_one (ps_set (i := 2) nd rfl (Or.inl rfl) (pv 5))))))
  (pss_one (ps_ret (pv 2))))), ?_⟩
  intro x vs Q rs hp q
  obtain ⟨cal, js⟩ := x
  obtain ⟨v1, v2, rfl, r1, r2⟩ := rs.c2
  have hprs : PrS cal js := hp
  have hjl := hprs.jl
  have hok := hprs.ok
  refine q_asg (d := .list ((sharedK cal js 0).map partD)) (ed_lst (ea_cons (ed_tup ea_nil (Nat.zero_le _)) ea_nil) (by show (1 : Nat) ≤ 100000; decide)) fun v3 H1 s1 r3 => ?_
  refine q_for (EI.same (ei_en (K := K) (ea_cons (ed_var rfl (r2.mono s1)) ea_nil) (noLs_jobsP js))) (fun H2 i σ' H' => Same H2 H' ∧ ∃ fv a b c d e f g, σ' = [some v1, some v2, some fv, a, b, c, d, e, f, g] ∧ Rep H' fv (.list ((sharedK cal js i).map partD))) (fun H2 s2 => ⟨Same.refl _, v3, none, none, none, none, none, none, none, rfl, r3.mono s2⟩) (fun H2 i σ' H' hi p => p.1) (fun H2 s2 i d v σ' H' H3 hd p s3 rv => ?_) (fun H2 σ' H' s2 p => ?_)
  · obtain ⟨p1, fv, a, b, c, d, e, f, g, rfl, p3⟩ := p
    rw [pairsD_map (f := jobD) (0, []), List.getElem?_map] at hd
    obtain ⟨job, hj, rfl⟩ := Option.map_eq_some_iff.mp hd
    obtain ⟨hji, hin⟩ := rg_at (n := js.length) hj
    have sH : Same H H3 := ((s1.trans s2).trans p1).trans s3
    have p3' := p3.mono s3
    have hfew := sharedK_few hprs (k := i) (by omega)
    have hfew2 := sharedK_few hprs (k := i + 1) (by omega)
    have hpl : ∀ s ∈ sharedK cal js i, s.length = i := fun s hs => ((mem_sharedK hok i s).mp hs).len
    rw [sharedK_succ] at hfew2
    have hstep := sharedK_succ cal js i
    generalize sharedK cal js i = found at p3' hfew hfew2 hpl hstep
    obtain ⟨x, y, bd, rx, ry⟩ := bd_pair (K := K) (i := 3) (j := 4) (d1 := .int job) (d2 := jobD (js.getD job.toNat (0, []))) rv [some v1, some v2, some fv, a, b, c, d, e, f, g]
    refine bd _ ?_
    show tSeq _ _ _ _ _
    refine q_asgL (ds := []) (el_lst ea_nil (Nat.zero_le _)) fun p ws H4 hp0 s4 hp4 rw4 => ?_
    cases rw4
    obtain ⟨fa, fxs, rfl, hfa, rfx⟩ : ∃ fa fxs, fv = .ref fa ∧ H3 fa = some (.lst fxs) ∧ Reps H3 fxs (found.map partD) := by
      cases p3' with
      | lst ha rs => exact ⟨_, _, rfl, ha, rs⟩
    have hne : fa ≠ p := ne_of_none hfa hp0
    refine q_for (ei_varN (D := p) rfl (s4 _ _ hfa) (rfx.mono s4) (noLs_parts _) hne (SB.noT hp4) (by rw [hp4]; exact fun z => by cases z))
      (fun H5 k σ' H' => SB p H5 H' ∧ Same H4 H5 ∧ (∃ xs, H' p = some (.lst xs) ∧ Reps H' xs (((found.take k).flatMap (shareS cal js i)).map partD)) ∧ ∃ d e f g, σ' = [some v1, some v2, some (.ref fa), some x, some y, some (.ref p), d, e, f, g])
      (fun H5 s5 => ⟨SB.refl _ _, s5, ⟨[], s5 _ _ hp4, .nil⟩, d, e, f, g, rfl⟩) (fun H5 i σ' H' hi p => p.1) (fun H5 s5 k dd v7 σ' H' H6 hd2 pv s6 r7 => ?_) (fun H5 σ' H' s5 pv => ?_)
    · obtain ⟨m1, m2, ⟨xs, m3, m4⟩, d2, e2, f2, g2, rfl⟩ := pv
      rw [List.getElem?_map] at hd2
      obtain ⟨so, hl, rfl⟩ := Option.map_eq_some_iff.mp hd2
      have hsl : so.length = i := hpl so (mem_at hl)
      have ts6 : TS H3 H6 := (TS.of (s4.trans m2)).trans ((SB.ts (SB.noT (m2 _ _ hp4)) m1).trans (TS.of s6))
      have tsO : TS H H6 := (TS.of sH).trans ts6
      have q1 : Rep H6 v1 (lotD cal) := r1.ts tsO (noL_lot _)
      have q2 : Rep H6 v2 (jobsD js) := r2.ts tsO (noL_jobs _)
      have qx : Rep H6 x (.int job) := rx.ts ts6 rfl
      have qy : Rep H6 y (jobD (js.getD job.toNat (0, []))) := ry.ts ts6 (noL_job _)
      have m3' := s6 _ _ m3
      have m4' := m4.mono s6
      have et : found.take (k + 1) = found.take k ++ [so] := by rw [List.take_succ, hl]; rfl
      have hbound : ((found.take k).flatMap (shareS cal js i)).length + (shareS cal js i so).length ≤ 3125 := by
        have h1 : (found.take (k + 1)).flatMap (shareS cal js i) = (found.take k).flatMap (shareS cal js i) ++ shareS cal js i so := by rw [et, List.flatMap_append]; simp
        have h2 : ((found.take (k + 1)).flatMap (shareS cal js i)).length ≤ (found.flatMap (shareS cal js i)).length := by
          have h3 := congrArg (fun l => (List.flatMap (shareS cal js i) l).length) (List.take_append_drop (k + 1) found)
          simp only [List.flatMap_append, List.length_append] at h3
          omega
        rw [h1, List.length_append] at h2
        omega
      have hxl : xs.length = ((found.take k).flatMap (shareS cal js i)).length := by rw [m4.length, List.length_map]
      have hsS : (shareS cal js i so).length = 1 + ((dj js i).filter fun day => decide (load js so day + gj js i ≤ ca cal day)).length := by unfold shareS; rw [List.length_cons, List.length_map]; omega
      generalize hAcc : (found.take k).flatMap (shareS cal js i) = acc at m4' hbound hxl
      refine q_app (K := K) (xs := xs) (d := partD (so ++ [none])) rfl m3' (ed_is (ed_op (ed_var rfl r7) (ed_tup (ea_cons ed_non ea_nil) (by show (1 : Nat) ≤ 100000; decide)) (rd_catA (by rw [List.length_map]; show so.length + 1 ≤ 100000; omega))) (by simp [partD, optD])) (by omega) fun vn H7 s7 rn => ?_
      have hp7 : (upd H7 p (.lst (xs ++ [vn]))) p = some (.lst (xs ++ [vn])) := upd_same
      have rp7 : Reps (upd H7 p (.lst (xs ++ [vn]))) (xs ++ [vn]) ((acc ++ [so ++ [none]]).map partD) := by
        refine Reps.upd_lst (xs := xs) ?_ (noLs_parts _) (s7 _ _ m3')
        rw [List.map_append]
        exact (m4'.mono s7).snoc rn
      have sb7 : SB p H6 (upd H7 p (.lst (xs ++ [vn]))) := (SB.of s7).upd
      have ts7 : TS H6 (upd H7 p (.lst (xs ++ [vn]))) := SB.ts (SB.noT m3') sb7
      generalize upd H7 p (.lst (xs ++ [vn])) = H8 at hp7 rp7 sb7 ts7
      have w1 : Rep H8 v1 (lotD cal) := q1.ts ts7 (noL_lot _)
      have w2 : Rep H8 v2 (jobsD js) := q2.ts ts7 (noL_jobs _)
      have wx : Rep H8 x (.int job) := qx.ts ts7 rfl
      have wy : Rep H8 y (jobD (js.getD job.toNat (0, []))) := qy.ts ts7 (noL_job _)
      have w7 : Rep H8 v7 (partD so) := r7.ts ts7 (noL_part _)
      have hdji : (js.getD job.toNat (0, [])).2 = dj js i := by rw [hji]; rfl
      have hgji : (js.getD job.toNat (0, [])).1 = gj js i := by rw [hji]; rfl
      refine s_for (ds := (dj js i).map .int) (EI.to (G' := SB p) (ei_tup (K := K) (ed_is (ed_op (ed_var rfl wy) ed_int rd_job1) (by rw [hdji]; rfl)) (noLs_ints _)) fun H9 H10 s g => SB.ts (SB.noT (s _ _ hp7)) g)
        (fun H9 m σ' H' => SB p H9 H' ∧ Same H8 H9 ∧ (∃ xs, H' p = some (.lst xs) ∧ Reps H' xs ((acc ++ ((so ++ [none]) :: (((dj js i).take m).filter fun day => decide (load js so day + gj js i ≤ ca cal day)).map fun day => so ++ [some day])).map partD)) ∧ ∃ e f g, σ' = [some v1, some v2, some (.ref fa), some x, some y, some (.ref p), some v7, e, f, g])
        (fun H9 s9 => ⟨SB.refl _ _, s9, ⟨_, s9 _ _ hp7, rp7.mono s9⟩, e2, f2, g2, rfl⟩) (fun H9 i σ' H' hi p => p.1) (fun H9 s9 m dd v8 σ' H' H10 hd3 pv s10 r8 => ?_) (fun H9 σ' H' s9 pv => ?_)
      · obtain ⟨n1, n2, ⟨ys, n3, n4⟩, e3, f3, g3, rfl⟩ := pv
        rw [List.getElem?_map] at hd3
        obtain ⟨day, hdy, rfl⟩ := Option.map_eq_some_iff.mp hd3
        have hdr := (hok.djR i).2 day (mem_at hdy)
        have ts10 : TS H8 H10 := (TS.of n2).trans ((SB.ts (SB.noT (n2 _ _ hp7)) n1).trans (TS.of s10))
        have z1 : Rep H10 v1 (lotD cal) := w1.ts ts10 (noL_lot _)
        have z2 : Rep H10 v2 (jobsD js) := w2.ts ts10 (noL_jobs _)
        have zx : Rep H10 x (.int job) := wx.ts ts10 rfl
        have zy : Rep H10 y (jobD (js.getD job.toNat (0, []))) := wy.ts ts10 (noL_job _)
        have z7 : Rep H10 v7 (partD so) := w7.ts ts10 (noL_part _)
        have n3' := s10 _ _ n3
        have n4' := n4.mono s10
        have etd : (dj js i).take (m + 1) = (dj js i).take m ++ [day] := by rw [List.take_succ, hdy]; rfl
        show tSeq _ _ _ _ _
        refine q_asg (d := .list ((((rg so.length).filter fun j => decide (so.getD j.toNat none = some day)).map (gj js)).map .int)) (ed_lcI (items := rg so.length) (enc := .int) (fun j => decide (so.getD j.toNat none = some day)) (gj js) (by
            have e : (so.length : Int).toNat = so.length := Int.toNat_natCast _
            rw [← e]
            exact ei_rng (n := (so.length : Int)) (ea_cons (ed_var rfl (by rw [hsl, ← hji]; exact zx)) ea_nil) ⟨by omega, by omega⟩) (by rw [rg_len]; omega) fun k2 j hjj v9 H11 s11 r9 => ?_) fun v9 H11 s11 r9 => ?_
        · have hjr := mem_rg.mp (mem_at hjj)
          have hR : RD (rEqD K) (optD (so.getD j.toNat none)) (.int day) (.bool (decide (so.getD j.toNat none = some day))) := by
            rw [← eqv_opt]
            exact rd_eqD (sh_opt _).shaped (sh_int _).shaped
          exact ⟨_, bd_name, rfl, eb_test (ed_op (ed_op (ed_var rfl (z7.mono s11)) (ed_var rfl r9) (rd_ixT (atI_map (f := optD) (dflt := none) hjr))) (ed_var rfl (r8.mono s11)) hR), fun _ => ed_gift (js := js) (ed_var rfl (z2.mono s11)) (ed_var rfl r9) (by omega)⟩
        · have hload : (((rg so.length).filter fun j => decide (so.getD j.toNat none = some day)).map (gj js)).sum = load js so day := rfl
          have hyl : ys.length ≤ 3125 := by
            have h1 := n4.length
            rw [List.length_map, List.length_append, List.length_cons, List.length_map] at h1
            have h2 : (((dj js i).take m).filter fun day => decide (load js so day + gj js i ≤ ca cal day)).length ≤ ((dj js i).filter fun day => decide (load js so day + gj js i ≤ ca cal day)).length := ((List.take_sublist m (dj js i)).filter _).length_le
            omega
          refine s_when (b := decide (load js so day + gj js i ≤ ca cal day)) (eb_test (ed_op (ed_op (ed_is (ed_cb (ea_cons (ed_var rfl r9) ea_nil) cd_sum) (by rw [hload])) (ed_is (ed_op (ed_var rfl (zy.mono s11)) ed_int rd_job0) (by rw [hgji])) rd_add) (ed_op (ed_var rfl (z1.mono s11)) (ed_var rfl (r8.mono s11)) (rd_cal hdr)) rd_le)) (fun ec H12 s12 => ?_) fun ec H12 s12 => ?_
          · have s1112 := s11.trans s12
            refine s_app (K := K) (xs := ys) (d := partD (so ++ [some day])) rfl (s1112 _ _ n3') (ed_is (ed_op (ed_var rfl (z7.mono s1112)) (ed_tup (ea_cons (ed_var rfl (r8.mono s1112)) ea_nil) (by show (1 : Nat) ≤ 100000; decide)) (rd_catA (by rw [List.length_map]; show so.length + 1 ≤ 100000; omega))) (by simp [partD, optD])) (by omega) fun vd H13 s13 rd => ⟨(n1.trans (SB.of (s10.trans (s1112.trans s13)))).upd, n2, ⟨ys ++ [vd], upd_same, ?_⟩, some v8, some v9, g3, rfl⟩
            refine Reps.upd_lst (xs := ys) ?_ (noLs_parts _) (s13 _ _ (s1112 _ _ n3'))
            rw [etd, List.filter_append, List.map_append (f := fun day => so ++ [some day]), List.filter_cons, if_pos ec, ← List.cons_append, ← List.append_assoc, List.map_append]
            exact (n4'.mono (s1112.trans s13)).snoc rd
          · refine ⟨n1.trans (SB.of (s10.trans (s11.trans s12))), n2, ⟨ys, s12 _ _ (s11 _ _ n3'), ?_⟩, some v8, some v9, g3, rfl⟩
            rw [etd, List.filter_append, List.filter_cons, if_neg (by rw [ec]; decide), List.filter_nil, List.append_nil]
            exact n4'.mono (s11.trans s12)
      · obtain ⟨n1, n2, ⟨ys, n3, n4⟩, e3, f3, g3, rfl⟩ := pv
        rw [List.length_map, List.take_length] at n4
        refine ⟨(((m1.trans (SB.of s6)).trans sb7).trans (SB.of n2)).trans n1, m2, ⟨ys, n3, ?_⟩, some v7, e3, f3, g3, rfl⟩
        rw [et, List.flatMap_append, hAcc, List.flatMap_singleton]
        exact n4
    · obtain ⟨m1, m2, ⟨xs, m3, m4⟩, d2, e2, f2, g2, rfl⟩ := pv
      rw [List.length_map, List.take_length] at m4
      have hS : Same H3 H' := SB.same (s4.trans m2) hp0 m1
      refine s_asg (d := .list ((found.flatMap (shareS cal js i)).map partD)) (ed_var rfl (.lst m3 m4)) fun v8 H7 s7 r8 => ?_
      refine ⟨((p1.trans s3).trans hS).trans s7, v8, some x, some y, some (.ref p), d2, e2, f2, g2, rfl, ?_⟩
      rw [hstep]; exact r8
  · obtain ⟨p1, fv, a, b, c, d, e, f, g, rfl, p3⟩ := p
    rw [pairsD_len, List.length_map] at p3
    exact s_ret (ed_var rfl p3) fun v H3 s3 r => q v H3 (((s1.trans s2).trans p1).trans s3) r
end K52
end
section
set_option Elab.async false
set_option linter.all false
set_option maxRecDepth 100000
/-! _law_tabled. -/
namespace K52
open PySem PySem.Spec PyProof.Rows L2
variable {P : Program} {w : World} {K : PySem.W.Frag} {mg : Str → Option Value} {base : Heap}
theorem ed_callK {σ : L2.St} {H : Hp} {α : Type} {args : α → List PyData} {pre : α → Prop} {res : α → PyData} {E : XK} {tr : TA} {n : Nat} (x : α) (h : EA tr σ H (args x)) (p : pre x) (hn : (args x).length = n) : ED (tCallN 0 n (spP args pre res) (fun _ zs => zs) E tNil tr) σ H (res x) := fun H1 s Q q =>
  h H1 s _ fun vs H2 s2 rs => ⟨rfl, by rw [rs.length, hn], x, rs, p, fun v H3 s3 rv => q v H3 (s2.trans s3) rv⟩
def leftK (cal : Cal) (js : Jobs) (t : List Int) (i : Nat) : List Int := (rg cal.length).map fun d => ca cal d - sumG js ((rg i).filter fun j => decide (tj t j = d))
theorem leftK_len (cal : Cal) (js : Jobs) (t : List Int) (i : Nat) : (leftK cal js t i).length = cal.length := by unfold leftK; rw [List.length_map, rg_len]
theorem getD_rg {β : Type} {f : Int → β} {n k : Nat} {d : β} (h : k < n) : ((rg n).map f).getD k d = f (k : Int) := by
  unfold rg
  rw [List.map_map, List.getD_eq_getElem?_getD, List.getElem?_map, List.getElem?_range h]
  rfl
theorem leftK_zero (cal : Cal) (js : Jobs) (t : List Int) : leftK cal js t 0 = cal := by
  apply List.ext_getElem?
  intro k
  unfold leftK rg
  rw [List.map_map, List.getElem?_map]
  by_cases h : k < cal.length
  · rw [List.getElem?_range h, List.getElem?_eq_getElem h]
    show some (ca cal (k : Int) - sumG js []) = _
    rw [sumG_nil, Int.sub_zero]
    unfold ca
    rw [Int.toNat_natCast, List.getD_eq_getElem?_getD, List.getElem?_eq_getElem h]
    rfl
  · rw [List.getElem?_eq_none_iff.mpr (by rw [List.length_range]; omega), List.getElem?_eq_none_iff.mpr (by omega)]
    rfl
theorem leftK_succ (cal : Cal) (js : Jobs) (t : List Int) (i : Nat) {day : Nat} (hd : tj t (i : Int) = (day : Int)) (hdl : day < cal.length) : leftK cal js t (i + 1) = (leftK cal js t i).set day ((leftK cal js t i).getD day 0 - gj js (i : Int)) := by
  have hg : (leftK cal js t i).getD day 0 = ca cal day - sumG js ((rg i).filter fun j => decide (tj t j = (day : Int))) := by
    unfold leftK
    exact getD_rg hdl
  rw [hg]
  apply List.ext_getElem?
  intro k
  rw [List.getElem?_set]
  unfold leftK
  rw [List.length_map, rg_len]
  unfold rg
  rw [List.map_map, List.map_map, List.getElem?_map, List.getElem?_map]
  by_cases h : k < cal.length
  · rw [List.getElem?_range h]
    have hf : ∀ x : Int, sumG js (((List.range (i + 1)).map fun i : Nat => (i : Int)).filter fun j => decide (tj t j = x)) = sumG js (((List.range i).map fun i : Nat => (i : Int)).filter fun j => decide (tj t j = x)) + if tj t (i : Int) = x then gj js i else 0 := fun x => by
      rw [List.range_succ, List.map_append, List.filter_append, sumG_append]
      congr 1
      show sumG js ([(i : Int)].filter fun j => decide (tj t j = x)) = _
      rw [List.filter_cons]
      by_cases c : tj t (i : Int) = x
      · rw [if_pos (by rw [decide_eq_true c]), if_pos c, List.filter_nil, sumG_cons, sumG_nil, Int.add_zero]
      · rw [if_neg (by rw [decide_eq_false c]; decide), if_neg c, List.filter_nil, sumG_nil]
    show some (ca cal (k : Int) - sumG js (((List.range (i + 1)).map fun i : Nat => (i : Int)).filter fun j => decide (tj t j = (k : Int)))) = _
    rw [hf, hd]
    by_cases c : day = k
    · rw [if_pos c, if_pos (by omega), if_pos hdl]
      subst c
      congr 1
      omega
    · rw [if_neg c, if_neg (by omega), Int.add_zero]
      rfl
  · rw [List.getElem?_eq_none_iff.mpr (by rw [List.length_range]; omega)]
    by_cases c : day = k
    · omega
    · rw [if_neg c]; rfl
def tabledD : Option (List Int) → PyData
  | none => .none
  | some _ => .bool true
def spLawTabled : Sp := spP (α := Cal × Jobs × Nat) (fun x => [lotD x.1, jobsD x.2.1, .int (x.2.2 : Nat)]) DaysPre (fun x => tabledD (timetable x.1 x.2.1 x.2.2))
theorem scLawTabled : FnScope ["_law_calendar_here", "_law_jobs_here", "_law_days", "_law_table", "_law_left", "_law_at", "_law_day"] ["_law_calendar_here", "_law_jobs_here", "_law_days"] (defScope sLawTabled) := ⟨rfl, rfl, rfl, by decide +kernel, rfl, by decide +kernel, by decide +kernel⟩
theorem isTable_of {cal : Cal} {js : Jobs} {d : Nat} {t : List Int} (ok : Ok cal js) (T : Table cal js d t) : isTable cal js t = true := by
  unfold isTable
  rw [Bool.and_eq_true, Bool.and_eq_true, decide_eq_true_eq, List.all_eq_true, List.all_eq_true]
  refine ⟨⟨T.len, fun k hk => ?_⟩, fun x hx => ?_⟩
  · rw [T.len] at hk
    obtain ⟨h1, h2, h3⟩ := T.day k hk
    have h4 := (ok.djR k).2 _ h1
    rw [Bool.and_eq_true]
    refine ⟨?_, List.contains_iff_mem.mpr h1⟩
    simp only [isIndex, Bool.and_eq_true, decide_eq_true_eq]
    exact h4
  · rw [decide_eq_true_eq]
    exact T.room x (mem_rg.mp hx).1
theorem df_lawTabled (F : Bl mg) (D : DefAt K mg "_law_tabled" sLawTabled) (G_timetable_within : Df P w K mg base 4 "timetable_within" ["calendar", "jobs", "days"] spTimetable) (G_is_timetable : Df P w K mg base 4 "is_timetable" ["calendar", "jobs", "value"] spIsTimetable) : Df P w K mg base 5 "_law_tabled" ["_law_calendar_here", "_law_jobs_here", "_law_days"] spLawTabled := by
  have nd := scLawTabled.nd
  refine df_pure D scLawTabled (fun _ _ _ _ _ _ us hl => match us, hl with | [_, _, _], _ => rfl) (fun _ _ _ _ _ _ us hl => match us, hl with | [_, _, _], _ => rfl) (fun _ => rfl) fun f cdv A outer s H E hr =>
    have hu : (A.deeper (envOfC "_law_tabled" (defScope sLawTabled) s.heap.objs.size f cdv)).units + 64 < cLine := hr.units
    have hu5 : (A.deeper (envOfC "_law_tabled" (defScope sLawTabled) s.heap.objs.size f cdv)).units + 65 < cLine := by have := hr.un; omega
    have hr_timetable_within := hr
    have hr_is_timetable := hr
    ⟨_, PSs.nox (pss_cons (ps_set (i := 3) nd rfl (Or.inl rfl) (pe_dfK G_timetable_within hr_timetable_within (by rfl) (pk_cons (pv 0) (pk_cons (pv 1) (pk_cons (pv 2) pk_nil)))))
  (pss_cons (ps_if (pt_cmpR op_isN (pv 3) pe_non (nomark _)) (pss_one (ps_ret pe_non)) pss_nil)
  (pss_cons (ps_if (PW.pt (pw_or (pt_not (pt_val (pe_callB (clIsi K) (by rfl) F.isinstance boot_isinstance (pa_cons (pv 3) (pa_cons (pe_bltn (v := .ty "tuple") (by rfl) F.tuple boot_tuple rfl) pa_nil))))) (pw_or1 (pt_cmpR (opNe K hu) (pe_callB (clLen K) (by rfl) F.len boot_len (pa_cons (pv 3) pa_nil)) (pe_callB (clLen K) (by rfl) F.len boot_len (pa_cons (pv 1) pa_nil)) (nomark _))))) (pss_one (ps_ret pe_bl)) pss_nil)
  (pss_cons (ps_set (i := 4) nd rfl (Or.inl rfl) (pe_callTy (clList K) (by rfl) F.list boot_list (pa_cons (pv 0) pa_nil)))
  (pss_cons (ps_for PassesOwn.never rfl (piE K (by rfl) F.enumerate (pa_cons (pv 3) pa_nil)) (pgT K (n := 2) rfl (pgs_cons (pg_name (i := 5) nd rfl (by first | exact Or.inl rfl | exact Or.inr rfl)) (pgs_cons (pg_name (i := 6) nd rfl (by first | exact Or.inl rfl | exact Or.inr rfl)) pgs_nil))) (pss_cons (ps_if (PW.pt (pw_or (pt_not (pt_val (pe_callB (clIsi K) (by rfl) F.isinstance boot_isinstance (pa_cons (pv 6) (pa_cons (pe_bltn (v := .ty "int") (by rfl) F.int boot_int rfl) pa_nil))))) (pw_or (pt_val (pe_callB (clIsi K) (by rfl) F.isinstance boot_isinstance (pa_cons (pv 6) (pa_cons (pe_bltn (v := .ty "bool") (by rfl) F.bool boot_bool rfl) pa_nil)))) (pw_or (pt_cmpR (opNi K hu5) (pv 6) (pe_ix (ixT K) (pe_ix (ixT K) (pv 1) (pv 5) (fun _ _ => rfl)) pe_int (fun _ _ => rfl)) rfl) (pw_or1 (pt_cmpR op_ge (pv 6) (pv 2) (nomark _))))))) (pss_one (ps_ret pe_bl)) pss_nil)
  (pss_one (ps_asg (pe_op op_sub (pe_ix (ixL K) (pv 4) (pv 6) (fun _ _ => rfl)) (pe_ix (ixT K) (pe_ix (ixT K) (pv 1) (pv 5) (fun _ _ => rfl)) pe_int (fun _ _ => rfl))) (pg_sub (pv 4) (pv 6) set_list)))))
  (pss_one (ps_ret (pe_and (pe_cmpR (opEq K hu) (pe_callB (clMin K rfl) (by rfl) F.min boot_min (pa_cons (pe_op op_cat (pe_lst (pa_cons pe_int pa_nil)) (pv 4)) pa_nil)) pe_int (nomark _)) (pe_one (pe_cmpR op_isC (pe_df G_is_timetable hr_is_timetable (by rfl) (pa_cons (pv 0) (pa_cons (pv 1) (pa_cons (pv 3) pa_nil)))) pe_bl (nomark _))))))))))), ?_⟩
  intro x vs Q rs hp q
  obtain ⟨cal, js, days⟩ := x
  obtain ⟨v1, v2, v3, rfl, r1, r2, r3⟩ := rs.c3
  have hpr := hp.pr
  have hdays := hp.days
  simp only at hpr hdays
  have hcl := hpr.cl
  have hjl := hpr.jl
  have q' : ∀ v H', Same H H' → Rep H' v (tabledD (timetable cal js days)) → Q v H' := q
  refine q_asg (ed_callK (n := 3) (cal, js, days) (ea_cons (ed_var rfl r1) (ea_cons (ed_var rfl r2) (ea_cons (ed_var rfl r3) ea_nil))) hp rfl) fun v4 H1 s1 r4' => ?_
  have r4 : Rep H1 v4 (optT (timetable cal js days)) := r4'
  by_cases hD : Doable cal js days (rg js.length)
  · rw [timetable_some hpr.ok hD] at r4 q'
    have T := tableOf_ok hpr.ok hD
    generalize tableOf cal js days = t at r4 T
    have r4t : Rep H1 v4 (lotD t) := r4
    have htl := T.len
    refine q_when (b := false) (eb_test (ed_op (ed_var rfl r4t) ed_non rd_isN)) (fun e => by cases e) fun _ H2 s2 => ?_
    have r42 := r4t.mono s2
    refine q_when (b := false) (eb_is (eb_or (eb_not (eb_B (ed_isi (ed_var rfl r42) (kit_tup _)))) fun e => eb_test (ed_op (ed_cb (ea_cons (ed_var rfl r42) ea_nil) cd_lenLot) (ed_cb (ea_cons (ed_var rfl (r2.mono (s1.trans s2))) ea_nil) cd_lenJobs) rd_neI)) (by rw [htl]; simp [isTup, lotD])) (fun e => by cases e) fun _ H3 s3 => ?_
    have sH3 := (s1.trans s2).trans s3
    refine q_asgL (ds := (leftK cal js t 0).map .int) (EL.is (el_list (ds := cal.map .int) (ed_var rfl (r1.mono sH3))) (by rw [leftK_zero])) fun p ws H4 hp0 s4 hp4 rw4 => ?_
    have sH4 := sH3.trans s4
    refine q_for (EI.to (G' := SB p) (ei_en (K := K) (ea_cons (ed_var rfl (r42.mono (s3.trans s4))) ea_nil) (noLs_ints t)) fun H5 H6 s g => SB.ts (SB.noT (s _ _ hp4)) g)
      (fun H5 i σ' H' => SB p H5 H' ∧ Same H4 H5 ∧ (∃ xs, H' p = some (.lst xs) ∧ Reps H' xs ((leftK cal js t i).map .int)) ∧ ∃ a b, σ' = [some v1, some v2, some v3, some v4, some (.ref p), a, b])
      (fun H5 s5 => ⟨SB.refl _ _, s5, ⟨ws, s5 _ _ hp4, rw4.mono s5⟩, none, none, rfl⟩) (fun H5 i σ' H' hi p => p.1) (fun H5 s5 i d v σ' H' H6 hd pv s6 rv => ?_) (fun H5 σ' H' s5 pv => ?_)
    · obtain ⟨m1, m2, ⟨xs, m3, m4⟩, a, b, rfl⟩ := pv
      rw [pairsD_map (f := PyData.int) 0, List.getElem?_map] at hd
      obtain ⟨k, hk, rfl⟩ := Option.map_eq_some_iff.mp hd
      obtain ⟨hki, hin⟩ := rg_at hk
      obtain ⟨x, y, bd, rx, ry⟩ := bd_pair (K := K) (i := 5) (j := 6) (d1 := .int k) (d2 := .int (tj t k)) rv [some v1, some v2, some v3, some v4, some (.ref p), a, b]
      refine bd _ ?_
      show tSeq _ _ _ _ _
      have hT := T.day k (mem_rg.mpr (by omega))
      have hTr := (hpr.ok.djR k).2 _ hT.1
      have ts : TS H H6 := (TS.of (sH4.trans m2)).trans ((SB.ts (SB.noT (m2 _ _ hp4)) m1).trans (TS.of s6))
      have q2 : Rep H6 v2 (jobsD js) := r2.ts ts (noL_jobs _)
      have q3 : Rep H6 v3 (.int (days : Nat)) := r3.ts ts rfl
      have m3' := s6 _ _ m3
      have m4' := m4.mono s6
      refine q_when (b := false) (eb_is (eb_or (eb_not (eb_B (ed_isi (ed_var rfl ry) (kit_int _)))) fun _ => eb_or (eb_B (ed_isi (ed_var rfl ry) (kit_bool _))) fun _ => eb_or (eb_test (ed_op (ed_var rfl ry) (ed_days (js := js) (j := k) (ed_var rfl q2) (ed_var rfl rx) (by omega)) rd_niI)) fun _ => eb_test (ed_op (ed_var rfl ry) (ed_var rfl q3) rd_ge)) ?_) (fun e => by cases e) fun _ H7 s7 => ?_
      · have e1 : (dj js k).contains (tj t k) = true := List.contains_iff_mem.mpr hT.1
        have e2 : decide ((days : Int) ≤ tj t k) = false := decide_eq_false (by omega)
        rw [e1]
        show (false || (false || (false || decide ((days : Int) ≤ tj t k)))) = false
        rw [e2]; rfl
      · have ed : tj t k = (((tj t k).toNat : Nat) : Int) := by omega
        have hxl : xs.length = cal.length := by rw [m4.length, List.length_map, leftK_len]
        have hat : atI ((leftK cal js t i).map PyData.int) (tj t k) = some (PyData.int ((leftK cal js t i).getD (tj t k).toNat 0)) := atI_map (dflt := 0) ⟨hT.2.1, by rw [leftK_len]; omega⟩
        refine s_setL (l := p) (xs := xs) (j := (tj t k).toNat) (d := .int ((leftK cal js t i).getD (tj t k).toNat 0 - gj js k)) rfl (s7 _ _ m3') (ed_op (ed_op (ed_var rfl (.lst (s7 _ _ m3') (m4'.mono s7))) (ed_var rfl (ry.mono s7)) (rd_ixL hat)) (ed_gift (js := js) (ed_var rfl (q2.mono s7)) (ed_var rfl (rx.mono s7)) (by omega)) rd_sub) (ed_is (ed_var rfl (ry.mono s7)) (by rw [← ed])) (by rw [hxl]; omega) fun vd H8 s8 rd => ?_
        cases rd
        refine ⟨(m1.trans (SB.of (s6.trans (s7.trans s8)))).upd, m2, ⟨_, upd_same, ?_⟩, some x, some y, rfl⟩
        have hnx : leftK cal js t (i + 1) = (leftK cal js t i).set (tj t k).toNat ((leftK cal js t i).getD (tj t k).toNat 0 - gj js k) := by
          rw [hki] at ed hTr ⊢
          exact leftK_succ cal js t i ed (by omega)
        rw [hnx]
        exact Reps.upd_lst (xs := xs) ((m4'.mono (s7.trans s8)).ints_set) (noLs_ints _) (s8 _ _ (s7 _ _ m3'))
    · obtain ⟨m1, m2, ⟨xs, m3, m4⟩, a, b, rfl⟩ := pv
      rw [pairsD_len, List.length_map, htl] at m4
      have hS : Same H H' := SB.same (sH4.trans m2) (none_back sH3 hp0) m1
      have hS1 : Same H1 H' := SB.same (((s2.trans s3).trans s4).trans m2) (none_back (s2.trans s3) hp0) m1
      have hmin : ∀ x ∈ (0 : Int) :: leftK cal js t js.length, (∀ y ∈ (0 : Int) :: leftK cal js t js.length, x ≤ y) → x = 0 := fun x hx hle => by
        have h0 : x ≤ 0 := hle 0 List.mem_cons_self
        have h1 : 0 ≤ x := by
          rcases List.mem_cons.mp hx with e | hx
          · omega
          · unfold leftK at hx
            obtain ⟨d, hd, rfl⟩ := List.mem_map.mp hx
            have hroom := T.room d (mem_rg.mp hd).1
            unfold loadT at hroom
            rw [htl] at hroom
            omega
        omega
      have hlen : (leftK cal js t js.length).length ≤ 8 := by rw [leftK_len]; exact hcl
      have hm1 : ED (tOp rCat (tLst (tCons (tC (.int 0)) tNil)) (tVar 4)) [some v1, some v2, some v3, some v4, some (.ref p), a, b] H' (.list (((0 : Int) :: leftK cal js t js.length).map PyData.int)) := ed_op (ed_lst (ea_cons ed_int ea_nil) (by show (1 : Nat) ≤ 100000; decide)) (ed_var rfl (.lst m3 m4)) (rd_cat (by rw [List.length_map]; show 1 + _ ≤ 100000; omega))
      have hm2 : ED (tCB (rMin K) (tCons (tOp rCat (tLst (tCons (tC (.int 0)) tNil)) (tVar 4)) tNil)) [some v1, some v2, some v3, some v4, some (.ref p), a, b] H' (.int 0) := ed_cb (ea_cons hm1 ea_nil) (cd_minL (Nat.succ_pos _) hmin)
      have hm3 : ED (tOp (rEqD K) (tCB (rMin K) (tCons (tOp rCat (tLst (tCons (tC (.int 0)) tNil)) (tVar 4)) tNil)) (tC (.int 0))) [some v1, some v2, some v3, some v4, some (.ref p), a, b] H' (.bool true) := ed_op hm2 ed_int rd_eqI
      have hm4 : ED (tCall spIsTimetable [] E0 (tCons (tVar 0) (tCons (tVar 1) (tCons (tVar 3) tNil)))) [some v1, some v2, some v3, some v4, some (.ref p), a, b] H' (.bool true) := by
        rw [← isTable_of hpr.ok T]
        exact ed_call (cal, js, t) (ea_cons (ed_var rfl (r1.mono hS)) (ea_cons (ed_var rfl (r2.mono hS)) (ea_cons (ed_var rfl (r4t.mono hS1)) ea_nil))) ⟨by show cal.length ≤ 1000; omega, by show js.length ≤ 1000; omega, by show t.length ≤ 1000; omega⟩
      exact s_ret (ed_andV hm3 fun _ => ed_op hm4 ed_bl rd_isBB) fun v H8 s8 r8 => q' v H8 (hS.trans s8) r8
  · rw [timetable_none hpr.ok hD] at r4 q'
    have r4n : Rep H1 v4 .none := r4
    refine q_when (b := true) (eb_test (ed_op (ed_var rfl r4n) ed_non rd_isN)) (fun _ H2 s2 => s_ret ed_non fun v H3 s3 r => q' v H3 ((s1.trans s2).trans s3) r) fun e => by cases e
end K52
end
section
set_option Elab.async false
set_option linter.all false
set_option maxRecDepth 100000
/-! The deal: _law_any, _law_of. -/
namespace K52
open PySem PySem.Spec PyProof.Rows L2
variable {P : Program} {w : World} {K : PySem.W.Frag} {mg : Str → Option Value} {base : Heap}
/-- the deal at D, its cells at C -/
def Deal (H : Hp) (D C : Addr) : Prop := D ≠ C ∧ ∃ (cells : List Int) (b : Int), H D = some (.lst [.ref C, .int b]) ∧ H C = some (.lst (cells.map V.int)) ∧ cells.length ≤ 100
/-- the same but at D and C -/
def DB (D C : Addr) (H H' : Hp) : Prop := ∀ a o, a ≠ D → a ≠ C → H a = some o → H' a = some o
theorem DB.of {D C : Addr} {H H' : Hp} (e : Same H H') : DB D C H H' := fun a o _ _ h => e a o h
theorem DB.refl (D C : Addr) (H : Hp) : DB D C H H := fun _ _ _ _ h => h
theorem DB.trans {D C : Addr} {H H1 H2 : Hp} (a : DB D C H H1) (b : DB D C H1 H2) : DB D C H H2 := fun x o h1 h2 h => b x o h1 h2 (a x o h1 h2 h)
theorem DB.updD {D C : Addr} {H H' : Hp} {o : HO} (a : DB D C H H') : DB D C H (upd H' D o) := fun x u h1 h2 h => by rw [upd_ne h1]; exact a x u h1 h2 h
theorem DB.updC {D C : Addr} {H H' : Hp} {o : HO} (a : DB D C H H') : DB D C H (upd H' C o) := fun x u h1 h2 h => by rw [upd_ne h2]; exact a x u h1 h2 h
theorem DB.mut {D C p : Addr} {H H' : Hp} {o : HO} (a : DB D C H H') (h : H p = none) : DB D C H (upd H' p o) := fun x u h1 h2 hx => by rw [upd_ne (ne_of_none hx h)]; exact a x u h1 h2 hx
theorem Deal.same {H H' : Hp} {D C : Addr} (h : Deal H D C) (e : Same H H') : Deal H' D C := by
  obtain ⟨h0, cells, b, h1, h2, h3⟩ := h
  exact ⟨h0, cells, b, e _ _ h1, e _ _ h2, h3⟩
theorem Deal.upd {H : Hp} {D C p : Addr} {o : HO} (h : Deal H D C) (h1 : p ≠ D) (h2 : p ≠ C) : Deal (upd H p o) D C := by
  obtain ⟨h0, cells, b, q1, q2, h3⟩ := h
  exact ⟨h0, cells, b, by rw [upd_ne (Ne.symm h1)]; exact q1, by rw [upd_ne (Ne.symm h2)]; exact q2, h3⟩
theorem Deal.neD {H : Hp} {D C p : Addr} (h : Deal H D C) (hp : H p = none) : p ≠ D ∧ p ≠ C := by
  obtain ⟨h0, cells, b, q1, q2, h3⟩ := h
  exact ⟨(fun e => by rw [e, q1] at hp; cases hp), (fun e => by rw [e, q2] at hp; cases hp)⟩
theorem Deal.ts {H H' : Hp} {D C : Addr} (h : Deal H D C) (a : DB D C H H') : TS H H' := fun x xs hx => by
  obtain ⟨h0, cells, b, q1, q2, h3⟩ := h
  exact a x _ (fun e => by rw [e, q1] at hx; cases hx) (fun e => by rw [e, q2] at hx; cases hx) hx
theorem DB.at {D C p : Addr} {H H' : Hp} {o : HO} (a : DB D C H H') (h1 : p ≠ D) (h2 : p ≠ C) (h : H p = some o) : H' p = some o := a p o h1 h2 h
section
variable {σ : L2.St} {H : Hp} {i : Nat} {D C : Addr} {cells : List Int} {b : Int}
/-- deal[0], the cells' own place -/
theorem deal0 {Q : VK} (hs : σ[i]? = some (some (.ref D))) (hD : H D = some (.lst [.ref C, .int b])) (q : Q (.ref C) H) : tOp (rIxL K) (tVar i) (tC (.int 0)) σ H Q := ⟨_, hs, D, _, 0, .ref C, rfl, rfl, SqL.of hD, rfl, q⟩
theorem ed_deal0 (hs : σ[i]? = some (some (.ref D))) (hD : H D = some (.lst [.ref C, .int b])) (hC : H C = some (.lst (cells.map V.int))) : ED (tOp (rIxL K) (tVar i) (tC (.int 0))) σ H (.list (cells.map .int)) := fun H1 s Q q =>
  deal0 hs (s _ _ hD) (q _ H1 (Same.refl _) (.lst (s _ _ hC) (Reps.ints _)))
theorem ed_deal1 (hs : σ[i]? = some (some (.ref D))) (hD : H D = some (.lst [.ref C, .int b])) : ED (tOp (rIxL K) (tVar i) (tC (.int 1))) σ H (.int b) := fun H1 s Q q =>
  ⟨_, hs, D, _, 1, .int b, rfl, rfl, SqL.of (s _ _ hD), rfl, q _ H1 (Same.refl _) (.int b)⟩
end
abbrev rInt1Q : List V → Hp → VK → Prop := fun xs H Q => (∃ i, xs = [.int i] ∧ Q (.int i) H) ∨ ∃ k, xs = [.bl k] ∧ Q (.int (if k then 1 else 0)) H
theorem cd_int1 {i : Int} : CD rInt1Q [.int i] (.int i) := fun H vs rs Q q => by
  obtain ⟨v, rfl, r⟩ := rs.c1
  cases r
  exact .inl ⟨i, rfl, q _ H (Same.refl _) (.int i)⟩
theorem rd_mod {i j : Int} (h : 0 < j) : RD (rI (fun _ j => 0 < j) fun i j => .int (i % j)) (.int i) (.int j) (.int (i % j)) := rd_I h fun _ => .int _
theorem rd_mulS {i j : Int} (h : -(2 ^ 64) < j ∧ j < 2 ^ 64) : RD (rI CMul fun i j => .int (i * j)) (.int i) (.int j) (.int (i * j)) := rd_I (.inr h) fun _ => .int _
theorem rd_fdiv {i j : Int} (h : 0 < j ∧ j ≤ 100000) : RD (rI CDivW fun i j => .int (i / j)) (.int i) (.int j) (.int (i / j)) := rd_I (wide_div (b := 20) h.1 (by omega) (by decide) (by decide)) fun _ => .int _
theorem rd_neNil {ds : List PyData} (h : ∀ d ∈ ds, Sh 20 d) : RD (rNeD K) (.list ds) (.list []) (.bool (!ds.isEmpty)) := by
  rw [← eqv_nil]
  exact rd_neD (Sh.lst h).shaped (Sh.lst (n := 1) fun d hd => absurd hd (by simp)).shaped
theorem sh_intsM (l : List Int) : ∀ d ∈ l.map PyData.int, Sh 20 d := sh_map (fun i => (sh_int i).mono (by decide)) l
/-- the promise: some number below the bound; the deal stands on -/
def spAny : Sp := fun vs H Q _ => ∃ (D C : Addr) (n : Int), vs = [.ref D, .int n] ∧ Deal H D C ∧ 0 < n ∧ n ≤ 1000 ∧ ∀ (v : Int) (H' : Hp), DB D C H H' → Deal H' D C → 0 ≤ v ∧ v < n → Q (.int v) H'
theorem scAny : FnScope ["_law_deal", "_law_bound", "_law_rest"] ["_law_deal", "_law_bound"] (defScope sLawAny) := ⟨rfl, rfl, rfl, by decide +kernel, rfl, by decide +kernel, by decide +kernel⟩
theorem s_while {c : TT} {tb : L2.TS} {D : Ends} {σ : L2.St} {H : Hp} (W : Nat → L2.St → Hp → Prop) (m0 : Nat) (h0 : W m0 σ H)
    (hs : ∀ m σ' H', W m σ' H' → ∃ b, EB c σ' H' b ∧ (b = true → ∀ H1, Same H' H1 → ∃ N : L2.St → Hp → Prop, (∀ σ2 H2, N σ2 H2 → ∃ m', m' < m ∧ W m' σ2 H2) ∧ tb { D with nx := N, ct := N, bk := D.nx } σ' H1) ∧ (b = false → ∀ H1, Same H' H1 → D.nx σ' H1)) : tWhile c tb D σ H := by
  refine ⟨W, ⟨m0, h0⟩, fun m σ' H' p => ?_⟩
  obtain ⟨b, e, h1, h2⟩ := hs m σ' H' p
  refine e H' (Same.refl _) _ fun H1 s => ?_
  cases b with
  | true => exact h1 rfl H1 s
  | false => exact h2 rfl H1 s
theorem last_map {cells : List Int} (h : cells ≠ []) : (cells.map V.int)[(cells.map V.int).length - 1]? = some (.int (cells.getD (cells.length - 1) 0)) := by
  have hp := List.length_pos_iff.mpr h
  rw [List.length_map, List.getElem?_map, List.getD_eq_getElem?_getD, List.getElem?_eq_getElem (by omega)]
  rfl
theorem map_dropLast' (cells : List Int) : (cells.map V.int).dropLast = cells.dropLast.map V.int := by rw [List.map_dropLast]
theorem df_any (F : Bl mg) (D : DefAt K mg "_law_any" sLawAny) : Df P w K mg base 1 "_law_any" ["_law_deal", "_law_bound"] spAny := by
  have nd := scAny.nd
  refine df_ok D scAny (fun _ _ _ _ _ _ us hl => match us, hl with | [_, _], _ => rfl) (fun _ _ _ _ _ _ us hl => match us, hl with | [_, _], _ => rfl) (fun vs H Q E h => by obtain ⟨D, C, n, rfl, _⟩ := h; rfl) fun f cdv A outer s H vs Q E hr hsp =>
    have hu : (A.deeper (envOfC "_law_any" (defScope sLawAny) s.heap.objs.size f cdv)).units + 64 < cLine := hr.units
    ⟨_, PSs.nox (pss_cons (ps_while PassesOwn.never (PW.pt (pw_and (pt_cmpR (opNe K hu) (pe_ix (ixL K) (pv 0) pe_int (fun _ _ => rfl)) (pe_lst pa_nil) (nomark _)) (pw_and1 (pt_cmpR (opEq K hu) (pe_ix (ixL K) (pe_ix (ixL K) (pv 0) pe_int (fun _ _ => rfl)) (pe_un un_neg pe_int) (fun _ _ => rfl)) pe_int (nomark _))))) (pss_one (ps_expr (pe_bm0 PySem.F.plainAttrs_list PySem.F.slot_list_pop PySem.F.type_list_pop mt_pop (pe_ix (ixL K) (pv 0) pe_int (fun _ _ => rfl))))))
  (pss_cons (ps_if (pt_cmpR (opNe K hu) (pe_ix (ixL K) (pv 0) pe_int (fun _ _ => rfl)) (pe_lst pa_nil) (nomark _)) (pss_cons (ps_set (i := 2) nd rfl (Or.inl rfl) (pe_callTy call_int1 (by rfl) F.int boot_int (pa_cons (pe_bm0 PySem.F.plainAttrs_list PySem.F.slot_list_pop PySem.F.type_list_pop mt_pop (pe_ix (ixL K) (pv 0) pe_int (fun _ _ => rfl))) pa_nil)))
  (pss_cons (ps_expr (pe_bm PySem.F.plainAttrs_list PySem.F.slot_list_append PySem.F.type_list_append mt_append (pe_ix (ixL K) (pv 0) pe_int (fun _ _ => rfl)) (pa_cons (pe_op op_fdivW (pv 2) (pv 1)) pa_nil)))
  (pss_one (ps_ret (pe_op op_mod (pv 2) (pv 1)))))) pss_nil)
  (pss_cons (ps_asg (pe_op op_mod (pe_callTy call_int1 (by rfl) F.int boot_int (pa_cons (pe_op op_add (pe_op op_mul (pe_ix (ixL K) (pv 0) pe_int (fun _ _ => rfl)) pe_int) pe_int) pa_nil)) pe_int) (pg_sub (pv 0) pe_int set_list))
  (pss_one (ps_ret (pe_op op_mod (pe_callTy call_int1 (by rfl) F.int boot_int (pa_cons (pe_op op_fdivW (pe_ix (ixL K) (pv 0) pe_int (fun _ _ => rfl)) pe_int) pa_nil)) (pv 1))))))), ?_⟩
  obtain ⟨D, C, n, rfl, ⟨hne, cells, b, hD, hC, hl⟩, hn0, hn1, q⟩ := hsp
  have hneg : ∀ {σ : L2.St} {H : Hp}, ED (tUn (rU fun i => .int (-i)) (tC (.int 1))) σ H (.int (-1)) := ed_neg1
  refine s_while (fun m σ' H' => σ' = [some (.ref D), some (.int n), none] ∧ DB D C H H' ∧ H' D = some (.lst [.ref C, .int b]) ∧ ∃ cs : List Int, m = cs.length ∧ H' C = some (.lst (cs.map V.int)) ∧ cs.length ≤ 100) cells.length ⟨rfl, DB.refl _ _ _, hD, cells, rfl, hC, hl⟩ fun m σ' H' p => ?_
  obtain ⟨rfl, p1, p2, cs, rfl, p3, p4⟩ := p
  have hE0 : ED (tOp (rIxL K) (tVar 0) (tC (.int 0))) [some (.ref D), some (.int n), none] H' (.list (cs.map .int)) := ed_deal0 rfl p2 p3
  have hNe : EB (tTest (tOp (rNeD K) (tOp (rIxL K) (tVar 0) (tC (.int 0))) (tLst tNil))) [some (.ref D), some (.int n), none] H' (!(cs.map PyData.int).isEmpty) := eb_test (ed_op hE0 (ed_lst ea_nil (Nat.zero_le _)) (rd_neNil (sh_intsM cs)))
  refine ⟨!(cs.map PyData.int).isEmpty && decide (cs.getD (cs.length - 1) 0 = 0), eb_and hNe fun e => eb_test (ed_op (ed_op hE0 hneg (rd_ixL (atI_neg1 (f := PyData.int) (dflt := 0) ?_))) ed_int rd_eqI), fun e H1 s1 => ?_, fun e H1 s1 => ?_⟩
  · intro z
    rw [z] at e
    cases e
  · -- one more pop
    have hcs : cs ≠ [] := fun z => by rw [z] at e; cases e
    refine ⟨fun σ2 H2 => σ2 = [some (.ref D), some (.int n), none] ∧ DB D C H H2 ∧ H2 D = some (.lst [.ref C, .int b]) ∧ H2 C = some (.lst (cs.dropLast.map V.int)), fun σ2 H2 g => ⟨cs.dropLast.length, ?_, g.1, g.2.1, g.2.2.1, cs.dropLast, rfl, g.2.2.2, ?_⟩, ?_⟩
    · have := List.length_pos_iff.mpr hcs
      rw [List.length_dropLast]; omega
    · rw [List.length_dropLast]; omega
    · refine deal0 rfl (s1 _ _ p2) ⟨.inl ⟨rfl, _, SqL.of (s1 _ _ p3)⟩, C, _, _, rfl, rfl, s1 _ _ p3, last_map hcs, rfl, (p1.trans (DB.of s1)).updC, ?_, ?_⟩
      · rw [upd_ne hne]; exact s1 _ _ p2
      · rw [upd_same, map_dropLast']
  · -- the rest
    have p2' := s1 _ _ p2
    have p3' := s1 _ _ p3
    have p1' := p1.trans (DB.of (D := D) (C := C) s1)
    show tSeq _ _ _ _ _
    refine q_when (hNe.mono s1) (fun ec H2 s2 => ?_) fun ec H2 s2 => ?_
    · have hcs : cs ≠ [] := fun z => by rw [z] at ec; cases ec
      have hx2 := s2 _ _ p2'
      have hx3 := s2 _ _ p3'
      refine deal0 rfl hx2 ⟨.inl ⟨rfl, _, SqL.of hx3⟩, C, _, _, rfl, rfl, hx3, last_map hcs, .inl ⟨_, rfl, ?_⟩⟩
      have y2 : (upd H2 C (.lst (cs.map V.int).dropLast)) D = some (.lst [.ref C, .int b]) := by rw [upd_ne hne]; exact hx2
      have y3 : (upd H2 C (.lst (cs.map V.int).dropLast)) C = some (.lst (cs.dropLast.map V.int)) := by rw [upd_same, map_dropLast']
      have y1 : DB D C H (upd H2 C (.lst (cs.map V.int).dropLast)) := (p1'.trans (DB.of s2)).updC
      generalize upd H2 C (.lst (cs.map V.int).dropLast) = H3 at y1 y2 y3
      generalize cs.getD (cs.length - 1) 0 = z
      show tSeq _ _ _ _ _
      refine deal0 rfl y2 ⟨.inl ⟨rfl, _, SqL.of y3⟩, ?_⟩
      refine (ea_cons (ed_op (ed_var (σ := [some (.ref D), some (.int n), some (.int z)]) (i := 2) rfl (.int z)) (ed_var rfl (.int n)) (rd_fdiv ⟨hn0, by omega⟩)) ea_nil) H3 (Same.refl _) _ fun vs H4 s4 rs => ?_
      obtain ⟨v, rfl, rv⟩ := rs.c1
      cases rv
      refine ⟨C, _, _, rfl, rfl, s4 _ _ y3, ?_, ?_⟩
      · rw [List.length_map, List.length_dropLast]
        exact Nat.lt_of_le_of_lt (show cs.length - 1 ≤ 100 by omega) (by decide)
      · have z2 : (upd H4 C (.lst (cs.dropLast.map V.int ++ [.int (z / n)]))) D = some (.lst [.ref C, .int b]) := by rw [upd_ne hne]; exact s4 _ _ y2
        have z1 : DB D C H (upd H4 C (.lst (cs.dropLast.map V.int ++ [.int (z / n)]))) := (y1.trans (DB.of s4)).updC
        refine s_ret (ed_op (ed_var rfl (.int z)) (ed_var rfl (.int n)) (rd_mod hn0)) fun v H5 s5 r5 => ?_
        cases r5
        refine q _ H5 (z1.trans (DB.of s5)) (Deal.same ⟨hne, cs.dropLast ++ [z / n], b, z2, ?_, ?_⟩ s5) ⟨Int.emod_nonneg _ (by omega), Int.emod_lt_of_pos _ hn0⟩
        · rw [upd_same, List.map_append]; rfl
        · rw [List.length_append, List.length_dropLast, List.length_singleton]
          have := List.length_pos_iff.mpr hcs
          omega
    · have hx2 := s2 _ _ p2'
      have hx3 := s2 _ _ p3'
      -- the second number
      refine (ed_op (ed_cb (ea_cons (ed_op (ed_op (ed_deal1 (i := 0) (σ := [some (.ref D), some (.int n), none]) rfl hx2) ed_int (rd_mulS (by decide))) ed_int rd_add) ea_nil) cd_int1) ed_int (rd_mod (by decide))) H2 (Same.refl _) _ fun v H3 s3 r3 => ?_
      cases r3
      refine ⟨_, rfl, D, _, 1, 1, rfl, rfl, s3 _ _ hx2, rfl, ?_⟩
      generalize (b * 40693 + 71) % 2147483647 = b2
      have z2 : (upd H3 D (.lst ([V.ref C, V.int b].set 1 (.int b2)))) D = some (.lst [.ref C, .int b2]) := upd_same
      have z3 : (upd H3 D (.lst ([V.ref C, V.int b].set 1 (.int b2)))) C = some (.lst (cs.map V.int)) := by rw [upd_ne (Ne.symm hne)]; exact s3 _ _ hx3
      have z1 : DB D C H (upd H3 D (.lst ([V.ref C, V.int b].set 1 (.int b2)))) := (p1'.trans (DB.of (s2.trans s3))).updD
      generalize upd H3 D (.lst ([V.ref C, V.int b].set 1 (.int b2))) = H4 at z1 z2 z3
      refine s_ret (ed_op (ed_cb (ea_cons (ed_op (ed_deal1 (i := 0) (σ := [some (.ref D), some (.int n), none]) rfl z2) ed_int (rd_fdiv (by decide))) ea_nil) cd_int1) (ed_var rfl (.int n)) (rd_mod hn0)) fun v H5 s5 r5 => ?_
      cases r5
      exact q _ H5 (z1.trans (DB.of s5)) (Deal.same ⟨hne, cs, b2, z2, z3, p4⟩ s5) ⟨Int.emod_nonneg _ (by omega), Int.emod_lt_of_pos _ hn0⟩
end K52
end
section
set_option Elab.async false
set_option linter.all false
set_option maxRecDepth 100000
/-! _law_of, _law_calendar, _law_jobs. -/
namespace K52
open PySem PySem.Spec PyProof.Rows L2
variable {P : Program} {w : World} {K : PySem.W.Frag} {mg : Str → Option Value} {base : Heap}
def spOf : Sp := fun vs H Q _ => ∃ (D C L : Addr) (xs : List V), vs = [.ref D, .ref L] ∧ Deal H D C ∧ H L = some (.lst xs) ∧ L ≠ D ∧ L ≠ C ∧ xs ≠ [] ∧ xs.length ≤ 1000 ∧ ∀ v ∈ xs, ∀ (H' : Hp), DB D C H H' → Deal H' D C → Q v H'
theorem scOf : FnScope ["_law_deal", "_law_some"] ["_law_deal", "_law_some"] (defScope sLawOf) := ⟨rfl, rfl, rfl, by decide +kernel, rfl, by decide +kernel, by decide +kernel⟩
theorem df_of (F : Bl mg) (D : DefAt K mg "_law_of" sLawOf) (G__law_any : Df P w K mg base 1 "_law_any" ["_law_deal", "_law_bound"] spAny) : Df P w K mg base 2 "_law_of" ["_law_deal", "_law_some"] spOf := by
  have nd := scOf.nd
  refine df_ok D scOf (fun _ _ _ _ _ _ us hl => match us, hl with | [_, _], _ => rfl) (fun _ _ _ _ _ _ us hl => match us, hl with | [_, _], _ => rfl) (fun vs H Q E h => by obtain ⟨D, C, L, xs, rfl, _⟩ := h; rfl) fun f cdv A outer s H vs Q E hr hsp =>
    have hr__law_any := hr
    ⟨_, PSs.nox (pss_one (ps_ret (pe_ix (ixL K) (pv 1) (pe_df G__law_any hr__law_any (by rfl) (pa_cons (pv 0) (pa_cons (pe_callB (clLen K) (by rfl) F.len boot_len (pa_cons (pv 1) pa_nil)) pa_nil))) (fun _ _ => rfl)))), ?_⟩
  obtain ⟨D, C, L, xs, rfl, hd, hL, h1, h2, hx, hl, q⟩ := hsp
  refine ⟨_, rfl, _, rfl, _, rfl, L, xs, rfl, .inl (SqL.of hL), D, C, (xs.length : Int), rfl, hd, by have := List.length_pos_iff.mpr hx; omega, by omega, fun v H' db hd' hv => ?_⟩
  obtain ⟨n, rfl⟩ : ∃ n : Nat, v = (n : Int) := ⟨v.toNat, by omega⟩
  have hn : n < xs.length := by omega
  exact ⟨L, xs, _, xs[n], rfl, rfl, SqL.of (db.at h1 h2 hL), atI_nat (List.getElem?_eq_getElem hn), q _ (List.getElem_mem hn) H' db hd'⟩
/-- one of some written numbers -/
theorem t_ofInts {σ : L2.St} {H : Hp} {i : Nat} {D C : Addr} {tr : TA} {ns : List Int} {Q : VK} {E : XK} (hs : σ[i]? = some (some (.ref D))) (hd : Deal H D C) (h : EA tr σ H (ns.map .int)) (hne : ns ≠ []) (hl : ns.length ≤ 1000) (q : ∀ v ∈ ns, ∀ H', DB D C H H' → Deal H' D C → Q (.int v) H') :
    tCall spOf [] E (tCons (tVar i) (tCons (tLst tr) tNil)) σ H Q := ⟨_, hs, h H (Same.refl _) _ fun vs H1 s1 rs => by
  have e := Reps.of_ints rs
  subst e
  refine ⟨by rw [List.length_map]; exact Nat.le_trans hl (by decide), fun p hp => ?_⟩
  have hd1 := hd.same s1
  obtain ⟨n1, n2⟩ := hd1.neD hp
  refine ⟨D, C, p, ns.map V.int, rfl, hd1.upd n1 n2, upd_same, n1, n2, fun z => hne (List.map_eq_nil_iff.mp z), by rw [List.length_map]; exact hl, fun v hv H' db hd' => ?_⟩
  obtain ⟨z, hz, rfl⟩ := List.mem_map.mp hv
  exact q z hz H' (((DB.of s1).trans (DB.of (same_new hp))).trans db) hd'⟩
/-- _law_any(deal, n) -/
theorem t_any {σ : L2.St} {H : Hp} {i : Nat} {D C : Addr} {tr : TE} {n : Int} {Q : VK} {E : XK} (hs : σ[i]? = some (some (.ref D))) (hd : Deal H D C) (h : ED tr σ H (.int n)) (hn : 0 < n ∧ n ≤ 1000) (q : ∀ (v : Int) (H' : Hp), DB D C H H' → Deal H' D C → 0 ≤ v ∧ v < n → Q (.int v) H') :
    tCall spAny [] E (tCons (tVar i) (tCons tr tNil)) σ H Q := ⟨_, hs, h H (Same.refl _) _ fun v H1 s1 rs => by
  cases rs
  exact ⟨D, C, n, rfl, hd.same s1, hn.1, hn.2, fun v H' db hd' hv => q v H' ((DB.of s1).trans db) hd' hv⟩⟩
def spCal : Sp := fun vs H Q _ => ∃ (D C : Addr) (n : Int), vs = [.ref D, .int n] ∧ Deal H D C ∧ 0 ≤ n ∧ n ≤ 100 ∧ ∀ (cal : List Int) (v : V) (H' : Hp), DB D C H H' → Deal H' D C → Rep H' v (lotD cal) → (∀ x ∈ cal, 0 ≤ x ∧ x ≤ 1000) → (cal.length : Int) ≤ n → Q v H'
theorem scCal : FnScope ["_law_deal", "_law_most", "_law_top", "_law_turn"] ["_law_deal", "_law_most"] (defScope sLawCalendar) := ⟨rfl, rfl, rfl, by decide +kernel, rfl, by decide +kernel, by decide +kernel⟩
theorem df_cal (F : Bl mg) (D : DefAt K mg "_law_calendar" sLawCalendar) (G__law_any : Df P w K mg base 1 "_law_any" ["_law_deal", "_law_bound"] spAny) (G__law_of : Df P w K mg base 2 "_law_of" ["_law_deal", "_law_some"] spOf) : Df P w K mg base 3 "_law_calendar" ["_law_deal", "_law_most"] spCal := by
  have nd := scCal.nd
  refine df_ok D scCal (fun _ _ _ _ _ _ us hl => match us, hl with | [_, _], _ => rfl) (fun _ _ _ _ _ _ us hl => match us, hl with | [_, _], _ => rfl) (fun vs H Q E h => by obtain ⟨D, C, n, rfl, _⟩ := h; rfl) fun f cdv A outer s H vs Q E hr hsp =>
    have hr__law_of := hr
    have hr__law_any := hr.mono (j := 1) (by decide)
    ⟨_, PSs.nox (pss_cons (ps_set (i := 2) nd rfl (Or.inr rfl) (pe_df G__law_of hr__law_of (by rfl) (pa_cons (pv 0) (pa_cons (pe_lst (pa_cons pe_int (pa_cons pe_int (pa_cons pe_int pa_nil)))) pa_nil))))
  (pss_one (ps_ret (pe_callTy (clTuple K) (by rfl) F.tuple boot_tuple (pa_cons (pe_lc (own := [("_law_turn", 3)]) (g := gName 3) (tt := tYes) rfl nd (pi_range1 (by rfl) F.range (pa_cons (pe_df G__law_any hr__law_any (by rfl) (pa_cons (pv 0) (pa_cons (pe_op op_add (pv 1) pe_int) pa_nil))) pa_nil)) (blkOk_by (by kernel_rfl)) (fun _ _ _ _ _ => (pg_name (i := 3) nd rfl (by first | exact Or.inl rfl | exact Or.inr rfl))) (fun _ _ _ _ _ => pts_nil) (fun _ _ _ _ _ => (pe_df G__law_any hr__law_any (by rfl) (pa_cons (pv 0) (pa_cons (pv 2) pa_nil))))) pa_nil))))), ?_⟩
  obtain ⟨D, C, n, rfl, hd, hn0, hn1, q⟩ := hsp
  refine q_asgT (t_ofInts (ns := [3, 5, 9]) rfl hd (ea_cons ed_int (ea_cons ed_int (ea_cons ed_int ea_nil))) (by decide) (by decide) fun top ht H1 db1 hd1 => ?_)
  have htop : 0 < top ∧ top ≤ 1000 := by simp at ht; omega
  refine t_any (σ := [some (.ref D), some (.int n), some (.int top), none]) rfl hd1 (ed_op (ed_var rfl (.int n)) ed_int rd_add) ⟨by omega, by omega⟩ fun k H2 db2 hd2 hk => ?_
  refine ⟨k, rfl, by omega, by omega, fun p hp => ?_⟩
  obtain ⟨n1, n2⟩ := hd2.neD hp
  refine lc_it (walk_range (lo := 0) (n := k.toNat)) (fun i H' => DB D C H2 H' ∧ Deal H' D C ∧ ∃ cal : List Int, H' p = some (.lst (cal.map V.int)) ∧ cal.length = i ∧ ∀ x ∈ cal, 0 ≤ x ∧ x ≤ 1000) ⟨DB.of (same_new hp), hd2.upd n1 n2, [], upd_same, rfl, fun x hx => absurd hx (by simp)⟩ (fun i H' hi p => True.intro) (fun i v H' H3 hi pv y => ?_) (fun H' pv => ?_)
  · obtain ⟨m1, m2, cal, m3, m4, m5⟩ := pv
    obtain ⟨rfl, rfl⟩ := y
    refine ⟨rfl, ?_⟩
    refine eb_yes (H := H3) H3 (Same.refl _) _ fun H3' s3 => ?_
    rw [if_pos rfl]
    have m3 := s3 _ _ m3
    have m2 := m2.same s3
    have m1 := m1.trans (DB.of (D := D) (C := C) s3)
    refine t_any (σ := [some (.ref D), some (.int n), some (.int top), some (.int (0 + (i : Nat)))]) rfl m2 (ed_var rfl (.int top)) htop fun z H4 db4 hd4 hz => ?_
    have h4 := db4.at n1 n2 m3
    have hcl : cal.length < 1000 := by omega
    refine ⟨_, h4, by rw [List.length_map]; exact Nat.lt_of_le_of_lt (Nat.le_of_lt hcl) (by decide), DB.mut (m1.trans db4) hp, hd4.upd n1 n2, cal ++ [z], by rw [upd_same, List.map_append]; rfl, by simp [m4], fun x hx => ?_⟩
    rcases List.mem_append.mp hx with e | e
    · exact m5 x e
    · rw [List.mem_singleton.mp e]; exact ⟨hz.1, by omega⟩
  · obtain ⟨m1, m2, cal, m3, m4, m5⟩ := pv
    refine ⟨p, _, rfl, .inl ⟨SqL.of m3, fun l hl => ?_⟩⟩
    obtain ⟨l1, l2⟩ := m2.neD hl
    exact q cal _ _ ((db1.trans (db2.trans m1)).trans (DB.of (same_new hl))) (m2.upd l1 l2) (.tup upd_same (Reps.ints cal)) m5 (by omega)
/-- what the drawn jobs are -/
structure JobsOk (n : Nat) (js : Jobs) : Prop where
  gift : ∀ j ∈ js, 0 < j.1 ∧ j.1 ≤ 1000
  days : ∀ j ∈ js, Asc j.2 ∧ InR n j.2
def spJobs : Sp := fun vs H Q _ => ∃ (D C : Addr) (c : V) (cal : List Int) (n : Int), vs = [.ref D, c, .int n] ∧ Deal H D C ∧ Rep H c (lotD cal) ∧ cal.length ≤ 100 ∧ 0 ≤ n ∧ n ≤ 100 ∧ ∀ (js : Jobs) (v : V) (H' : Hp), DB D C H H' → Deal H' D C → Rep H' v (jobsD js) → JobsOk cal.length js → (js.length : Int) ≤ n → Q v H'
theorem scJobs : FnScope ["_law_deal", "_law_calendar_here", "_law_most", "_law_found", "_law_form", "_law_turn", "_law_days", "_law_day"] ["_law_deal", "_law_calendar_here", "_law_most"] (defScope sLawJobs) := ⟨rfl, rfl, rfl, by decide +kernel, rfl, by decide +kernel, by decide +kernel⟩
theorem df_jobs (F : Bl mg) (D : DefAt K mg "_law_jobs" sLawJobs) (G__law_any : Df P w K mg base 1 "_law_any" ["_law_deal", "_law_bound"] spAny) (G__law_of : Df P w K mg base 2 "_law_of" ["_law_deal", "_law_some"] spOf) : Df P w K mg base 3 "_law_jobs" ["_law_deal", "_law_calendar_here", "_law_most"] spJobs := by
  have nd := scJobs.nd
  refine df_ok D scJobs (fun _ _ _ _ _ _ us hl => match us, hl with | [_, _, _], _ => rfl) (fun _ _ _ _ _ _ us hl => match us, hl with | [_, _, _], _ => rfl) (fun vs H Q E h => by obtain ⟨D, C, c, cal, n, rfl, _⟩ := h; rfl) fun f cdv A outer s H vs Q E hr hsp =>
    have hu : (A.deeper (envOfC "_law_jobs" (defScope sLawJobs) s.heap.objs.size f cdv)).units + 64 < cLine := hr.units
    have hr__law_of := hr
    have hr__law_any := hr.mono (j := 1) (by decide)
    ⟨_, PSs.nox (pss_cons (ps_asg (pe_tup (pa_cons (pe_lst pa_nil) (pa_cons (pe_df G__law_any hr__law_any (by rfl) (pa_cons (pv 0) (pa_cons pe_int pa_nil))) pa_nil))) (pgT K (n := 2) rfl (pgs_cons (pg_name (i := 3) nd rfl (by first | exact Or.inl rfl | exact Or.inr rfl)) (pgs_cons (pg_name (i := 4) nd rfl (by first | exact Or.inl rfl | exact Or.inr rfl)) pgs_nil))))
  (pss_cons (ps_for PassesOwn.never rfl (pi_range1 (by rfl) F.range (pa_cons (pe_df G__law_any hr__law_any (by rfl) (pa_cons (pv 0) (pa_cons (pe_op op_add (pv 2) pe_int) pa_nil))) pa_nil)) (pg_name (i := 5) nd rfl (by first | exact Or.inl rfl | exact Or.inr rfl)) (pss_cons (ps_setLc (i := 6) (own := [("_law_day", 7)]) (g := gName 7)  rfl nd rfl rfl (sw_true rfl rfl rfl (by decide +kernel)) (pi_range1 (by rfl) F.range (pa_cons (pe_callB (clLen K) (by rfl) F.len boot_len (pa_cons (pv 1) pa_nil)) pa_nil)) (blkOk_by (by kernel_rfl)) (fun _ _ _ _ _ => (pg_name (i := 7) nd rfl (by first | exact Or.inl rfl | exact Or.inr rfl))) (fun _ _ _ _ _ => (pts_one (PW.pt (pw_or (pt_cmpR (opEq K hu) (pv 4) pe_int (nomark _)) (pw_or1 (pt_cmpR op_gt (pe_df G__law_any hr__law_any (by rfl) (pa_cons (pv 0) (pa_cons pe_int pa_nil))) pe_int (nomark _))))))) (fun _ _ _ _ _ => (pv 7)))
  (pss_one (ps_expr (pe_bm PySem.F.plainAttrs_list PySem.F.slot_list_append PySem.F.type_list_append mt_append (pv 3) (pa_cons (pe_tup (pa_cons (pe_df G__law_of hr__law_of (by rfl) (pa_cons (pv 0) (pa_cons (pe_lst (pa_cons pe_int (pa_cons pe_int (pa_cons pe_int (pa_cons pe_int (pa_cons pe_int pa_nil)))))) pa_nil))) (pa_cons (pe_callTy (clTuple K) (by rfl) F.tuple boot_tuple (pa_cons (pv 6) pa_nil)) pa_nil))) pa_nil))))))
  (pss_one (ps_ret (pe_callTy (clTuple K) (by rfl) F.tuple boot_tuple (pa_cons (pv 3) pa_nil)))))), ?_⟩
  obtain ⟨D, C, vc, cal, n, rfl, hd, rc, hcl, hn0, hn1, q⟩ := hsp
  -- found, form
  refine ⟨Nat.zero_le _, fun p hp => ?_⟩
  obtain ⟨n1, n2⟩ := hd.neD hp
  refine t_any (σ := [some (.ref D), some vc, some (.int n), none, none, none, none, none]) rfl (hd.upd n1 n2) ed_int (by decide) fun fm H1 db1 hd1 hfm => ⟨by show (2 : Nat) ≤ sizeLine; decide, fun t ht => ⟨t, _, rfl, SqT.of upd_same, rfl, _, _, rfl, _, _, rfl, rfl, ?_⟩⟩
  show tSeq _ _ _ _ _
  have dbH : DB D C H (upd H1 t (.tup [.ref p, .int fm])) := ((DB.of (same_new hp)).trans db1).trans (DB.of (same_new ht))
  have hp1 : (upd H1 t (.tup [.ref p, .int fm])) p = some (.lst []) := same_new ht _ _ (db1.at n1 n2 upd_same)
  have hd2 : Deal (upd H1 t (.tup [.ref p, .int fm])) D C := hd1.same (same_new ht)
  generalize upd H1 t (.tup [.ref p, .int fm]) = H2 at dbH hp1 hd2
  refine t_any (σ := [some (.ref D), some vc, some (.int n), some (.ref p), some (.int fm), none, none, none]) rfl hd2 (ed_op (ed_var rfl (.int n)) ed_int rd_add) ⟨by omega, by omega⟩ fun k H3 db3 hd3 hk => ?_
  have hp3 := db3.at n1 n2 hp1
  refine ⟨k, rfl, by omega, by omega, ?_⟩
  refine for_it (walk_range (lo := 0) (n := k.toNat)) (fun i σ' H' => DB D C H H' ∧ Deal H' D C ∧ (∃ xs js, H' p = some (.lst xs) ∧ Reps H' xs (js.map jobD) ∧ js.length = i ∧ JobsOk cal.length js) ∧ ∃ a b c, σ' = [some (.ref D), some vc, some (.int n), some (.ref p), some (.int fm), a, b, c]) ⟨dbH.trans db3, hd3, ⟨[], [], hp3, .nil, rfl, fun j hj => absurd hj (by simp), fun j hj => absurd hj (by simp)⟩, none, none, none, rfl⟩ (fun i σ' H' hi pv => True.intro) (fun i v σ' H' H4 hi pv y => ?_) (fun σ' H' pv => ?_)
  · obtain ⟨m1, m2, ⟨xs, js, m3, m4, m5, m6⟩, a, b, c, rfl⟩ := pv
    obtain ⟨rfl, rfl⟩ := y
    show tSeq _ _ _ _ _
    have rc4 : Rep H4 vc (lotD cal) := rc.ts (hd.ts m1) (noL_lot _)
    -- the days
    refine q_asgT ?_
    refine ei_rng (G := fun _ _ => True) (n := (cal.length : Int)) (ea_cons (ed_cb (ea_cons (ed_var (σ := [some (.ref D), some vc, some (.int n), some (.ref p), some (.int fm), some (.int (0 + (i : Nat))), b, c]) (i := 1) rfl rc4) ea_nil) cd_lenLot) ea_nil) ⟨by omega, by omega⟩ H4 (Same.refl _) _ fun J H5 s5 wk l hl => ?_
    have hd5 := m2.same s5
    obtain ⟨l1, l2⟩ := hd5.neD hl
    have hp5 := s5 _ _ m3
    have hlp : l ≠ p := fun e => by rw [e, hp5] at hl; cases hl
    rw [List.length_map, rg_len, Int.toNat_natCast] at wk
    refine lc_it wk (fun j H' => DB D C H5 H' ∧ Deal H' D C ∧ ∃ ds : List Int, H' l = some (.lst (ds.map V.int)) ∧ ds.Sublist (rg j) ∧ j ≤ cal.length) ⟨DB.of (same_new hl), hd5.upd l1 l2, [], upd_same, List.nil_sublist _, Nat.zero_le _⟩ (fun j H' hj pv => True.intro) (fun j v2 H' H6 hj pv y => ?_) (fun H' pv => ?_)
    · obtain ⟨o1, o2, ds, o3, o4, o5⟩ := pv
      obtain ⟨y1, d, y2, y3⟩ := y
      rw [List.getElem?_map] at y2
      obtain ⟨day, hday, rfl⟩ := Option.map_eq_some_iff.mp y2
      obtain ⟨hdj, hjl⟩ := rg_at (n := cal.length) hday
      have o1' := o1.trans (DB.of y1)
      have o2' := o2.same y1
      have o3' := y1 _ _ o3
      have hsub : ds.Sublist (rg (j + 1)) := by rw [rg_succ]; exact o4.trans (List.sublist_append_left _ _)
      have hsub1 : (ds ++ [day]).Sublist (rg (j + 1)) := by rw [rg_succ, hdj]; exact o4.append_right _
      have hdsl : ds.length ≤ 100 := by have := o4.length_le; rw [rg_len] at this; omega
      refine ⟨rfl, ?_⟩
      -- the test
      show tOr _ _ _ _ _
      have fin : ∀ (bb : Bool) (H7 : Hp), DB D C H6 H7 → Deal H7 D C → (if bb = true then (tVar 7 : TE) [some (.ref D), some vc, some (.int n), some (.ref p), some (.int fm), some (.int (0 + (i : Nat))), b, some v2] H7 (fun y H4 => ∃ acc, H4 l = some (.lst acc) ∧ acc.length < sizeLine ∧ (DB D C H5 (upd H4 l (.lst (acc ++ [y]))) ∧ Deal (upd H4 l (.lst (acc ++ [y]))) D C ∧ ∃ ds : List Int, (upd H4 l (.lst (acc ++ [y]))) l = some (.lst (ds.map V.int)) ∧ ds.Sublist (rg (j + 1)) ∧ j + 1 ≤ cal.length)) else (DB D C H5 H7 ∧ Deal H7 D C ∧ ∃ ds : List Int, H7 l = some (.lst (ds.map V.int)) ∧ ds.Sublist (rg (j + 1)) ∧ j + 1 ≤ cal.length)) := fun bb H7 db7 hd7 => by
        have h7 := db7.at l1 l2 o3'
        cases bb with
        | true =>
          rw [if_pos rfl]
          cases y3
          refine ⟨_, rfl, _, h7, by rw [List.length_map]; exact Nat.lt_of_le_of_lt hdsl (by decide), DB.mut (o1'.trans db7) hl, hd7.upd l1 l2, ds ++ [day], by rw [upd_same, List.map_append]; rfl, hsub1, by omega⟩
        | false =>
          rw [if_neg (by decide)]
          exact ⟨o1'.trans db7, hd7, ds, h7, hsub, by omega⟩
      refine (eb_test (ed_op (ed_var (σ := [some (.ref D), some vc, some (.int n), some (.ref p), some (.int fm), some (.int (0 + (i : Nat))), b, some v2]) (i := 4) rfl (.int fm)) ed_int rd_eqI)) H6 (Same.refl _) _ fun H7 s7 => ?_
      cases hfz : decide (fm = 0) with
      | true =>
        rw [if_pos rfl]
        exact fin true H7 (DB.of s7) (o2'.same s7)
      | false =>
        rw [if_neg (by decide)]
        refine t_any (σ := [some (.ref D), some vc, some (.int n), some (.ref p), some (.int fm), some (.int (0 + (i : Nat))), b, some v2]) rfl (o2'.same s7) ed_int (by decide) fun z H8 db8 hd8 hz => ?_
        exact ⟨z, 0, rfl, rfl, _, rfl, fin _ H8 ((DB.of s7).trans db8) hd8⟩
    · obtain ⟨o1, o2, ds, o3, o4, o5⟩ := pv
      have dsr := sub_rg o4
      have hp6 : H' p = some (.lst xs) := o1.at n1 n2 hp5
      have ts : TS H4 H' := (TS.of s5).trans (hd5.ts o1)
      have m4' : Reps H' xs (js.map jobD) := m4.ts ts (noLs_map noL_job _)
      -- the append
      refine ⟨_, rfl, .inl ⟨rfl, _, SqL.of hp6⟩, ?_⟩
      refine t_ofInts (ns := [1, 2, 2, 3, 4]) (σ := [some (.ref D), some vc, some (.int n), some (.ref p), some (.int fm), some (.int (0 + (i : Nat))), some (.ref l), c]) rfl o2 (ea_cons ed_int (ea_cons ed_int (ea_cons ed_int (ea_cons ed_int (ea_cons ed_int ea_nil))))) (by decide) (by decide) fun g hg H7 db7 hd7 => ?_
      have hl7 := db7.at l1 l2 o3
      have hp7 := db7.at n1 n2 hp6
      have m47 : Reps H7 xs (js.map jobD) := m4'.ts (o2.ts db7) (noLs_map noL_job _)
      refine ⟨_, rfl, l, _, rfl, .inl ⟨SqL.of hl7, fun u hu => ⟨by show (2 : Nat) ≤ sizeLine; decide, fun u2 hu2 => ?_⟩⟩⟩
      obtain ⟨w1, w2⟩ := hd7.neD hu
      obtain ⟨w3, w4⟩ := (hd7.upd (o := .tup (ds.map V.int)) w1 w2).neD hu2
      have s78 : Same H7 (upd (upd H7 u (.tup (ds.map V.int))) u2 (.tup [.int g, .ref u])) := (same_new hu).trans (same_new hu2)
      have hrj : Rep (upd (upd H7 u (.tup (ds.map V.int))) u2 (.tup [.int g, .ref u])) (.ref u2) (jobD (g, ds)) := .tup upd_same (.cons (.int g) (.cons (.tup (same_new hu2 _ _ upd_same) (Reps.ints ds)) .nil))
      have hd8 := (hd7.upd (o := .tup (ds.map V.int)) w1 w2).upd (o := .tup [.int g, .ref u]) w3 w4
      generalize upd (upd H7 u (.tup (ds.map V.int))) u2 (.tup [.int g, .ref u]) = H8 at s78 hrj hd8
      have hxl : xs.length ≤ 1000 := by rw [m4.length, List.length_map, m5]; omega
      have hp8 := s78 _ _ hp7
      refine ⟨p, xs, _, rfl, rfl, hp8, Nat.lt_of_le_of_lt hxl (by decide), ?_⟩
      have hpH : DB D C H H8 := ((m1.trans (DB.of s5)).trans (o1.trans db7)).trans (DB.of s78)
      refine ⟨DB.mut hpH hp, hd8.upd n1 n2, ⟨xs ++ [.ref u2], js ++ [(g, ds)], upd_same, ?_, by simp [m5], ?_, ?_⟩, some (.int (0 + (i : Nat))), some (.ref l), c, rfl⟩
      · refine Reps.upd_lst (xs := xs) ?_ (noLs_map noL_job _) hp8
        rw [List.map_append]
        exact (m47.mono s78).snoc hrj
      · intro j hj
        rcases List.mem_append.mp hj with e | e
        · exact m6.gift j e
        · rw [List.mem_singleton.mp e]; simp at hg; show 0 < g ∧ g ≤ 1000; omega
      · intro j hj
        rcases List.mem_append.mp hj with e | e
        · exact m6.days j e
        · rw [List.mem_singleton.mp e]
          exact ⟨dsr.1, fun x hx => by have := dsr.2 x hx; omega⟩
  · obtain ⟨m1, m2, ⟨xs, js, m3, m4, m5, m6⟩, a, b, c, rfl⟩ := pv
    refine ⟨_, rfl, p, _, rfl, .inl ⟨SqL.of m3, fun l hl => ?_⟩⟩
    obtain ⟨l1, l2⟩ := m2.neD hl
    exact q js _ _ (m1.trans (DB.of (same_new hl))) (m2.upd l1 l2) (.tup upd_same (m4.mono (same_new hl))) m6 (by omega)
end K52
end
section
set_option Elab.async false
set_option linter.all false
set_option maxRecDepth 100000
/-! _law_draw. -/
namespace K52
open PySem PySem.Spec PyProof.Rows L2
variable {P : Program} {w : World} {K : PySem.W.Frag} {mg : Str → Option Value} {base : Heap}
def spDraw (K : PySem.W.Frag) : Sp := fun vs H Q _ => ∃ (a : Addr) (ns : List Int) (salt : Int), vs = [.ref a, .int salt] ∧ SqL K H a (ns.map V.int) ∧ -(2 ^ 64) < salt ∧ salt < 2 ^ 64 ∧ ∀ (D C : Addr) (H' : Hp), Same H H' → Deal H' D C → H D = none → H C = none → Q (.ref D) H'
theorem scDraw : FnScope ["_law_script", "_law_salt", "_law_cells", "_law_cell", "_law_blend"] ["_law_script", "_law_salt"] (defScope sLawDraw) := ⟨rfl, rfl, rfl, by decide +kernel, rfl, by decide +kernel, by decide +kernel⟩
theorem cutV_ints (ns : List Int) (lo hi : Option Int) : ∃ ms : List Int, cutV (ns.map V.int) lo hi = ms.map V.int ∧ ms = (ns.drop (HT.sIx ns.length 0 lo)).take (HT.sIx ns.length ns.length hi - HT.sIx ns.length 0 lo) := by
  refine ⟨_, ?_, rfl⟩
  unfold cutV
  rw [List.length_map, List.map_take, List.map_drop]
abbrev rAbsQ : List V → Hp → VK → Prop := fun xs H Q => ∃ i, xs = [.int i] ∧ Q (.int (if i < 0 then -i else i)) H
theorem cd_abs {i : Int} : CD rAbsQ [.int i] (.int (if i < 0 then -i else i)) := fun H vs rs Q q => by
  obtain ⟨v, rfl, r⟩ := rs.c1
  cases r
  exact ⟨i, rfl, q _ H (Same.refl _) (.int _)⟩
theorem rd_pow {i j : Int} (h : CPow i j) : RD (rI CPow fun i j => .int (i ^ j.toNat)) (.int i) (.int j) (.int (i ^ j.toNat)) := rd_I h fun _ => .int _
theorem t_lst2 {ta tb : TE} {D : Ends} {σ : L2.St} {H : Hp} (h : ta σ H fun x H1 => tb σ H1 fun y H2 => [x, y].length ≤ sizeLine ∧ ∀ p, H2 p = none → D.rt (.ref p) (upd H2 p (.lst [x, y]))) : tRet (tLst (tCons ta (tCons tb tNil))) D σ H := h
theorem df_draw (F : Bl mg) (D : DefAt K mg "_law_draw" sLawDraw) : Df P w K mg base 1 "_law_draw" ["_law_script", "_law_salt"] (spDraw K) := by
  have nd := scDraw.nd
  refine df_ok D scDraw (fun _ _ _ _ _ _ us hl => match us, hl with | [_, _], _ => rfl) (fun _ _ _ _ _ _ us hl => match us, hl with | [_, _], _ => rfl) (fun vs H Q E h => by obtain ⟨a, ns, salt, rfl, _⟩ := h; rfl) fun f cdv A outer s H vs Q E hr hsp =>
    ⟨_, PSs.nox (pss_cons (ps_setLc (i := 2) (own := [("_law_cell", 3)]) (g := gName 3) (tt := tYes) rfl nd rfl rfl (sw_true rfl rfl rfl (by decide +kernel)) (piL K (pe_slice (slL K) (pv 0) po_none (po_some pe_int))) (blkOk_by (by kernel_rfl)) (fun _ _ _ _ _ => (pg_name (i := 3) nd rfl (by first | exact Or.inl rfl | exact Or.inr rfl))) (fun _ _ _ _ _ => pts_nil) (fun _ _ _ _ _ => (pe_callB call_abs (by rfl) F.abs boot_abs (pa_cons (pe_callTy call_int1 (by rfl) F.int boot_int (pa_cons (pv 3) pa_nil)) pa_nil))))
  (pss_cons (ps_set (i := 4) nd rfl (Or.inl rfl) (pe_op op_add pe_int (pe_op op_mul pe_int (pv 1))))
  (pss_cons (ps_for PassesOwn.never rfl (piL K (pv 2)) (pg_name (i := 3) nd rfl (by first | exact Or.inl rfl | exact Or.inr rfl)) (pss_one (ps_set (i := 4) nd rfl (Or.inl rfl) (pe_op op_mod (pe_callTy call_int1 (by rfl) F.int boot_int (pa_cons (pe_op op_add (pe_op op_add (pe_op op_mul (pv 4) pe_int) (pe_op op_mod (pv 3) pe_int)) pe_int) pa_nil)) pe_int))))
  (pss_one (ps_ret (pe_lst (pa_cons (revL K (pe_lc (own := [("_law_cell", 3)]) (g := gName 3)  rfl nd (piL K (pv 2)) (blkOk_by (by kernel_rfl)) (fun _ _ _ _ _ => (pg_name (i := 3) nd rfl (by first | exact Or.inl rfl | exact Or.inr rfl))) (fun _ _ _ _ _ => (pts_one (pt_cmpR op_ge (pv 3) (pe_op op_pow pe_int pe_int) (nomark _)))) (fun _ _ _ _ _ => (pv 3)))) (pa_cons (pv 4) pa_nil)))))))), ?_⟩
  obtain ⟨a, ns, salt, rfl, hs, hs1, hs2, q⟩ := hsp
  obtain ⟨ms, hms, hms2⟩ := cutV_ints ns none (some 48)
  have hml : ms.length ≤ 48 := by
    rw [hms2, List.length_take]
    have : HT.sIx ns.length ns.length (some 48) ≤ 48 := by
      show (if (48 : Int) < 0 then ((48 : Int) + (ns.length : Int)).toNat else min (48 : Int).toNat ns.length) ≤ 48
      rw [if_neg (by decide)]
      exact Nat.min_le_left _ _
    omega
  have hsl : ED (tSl (rSlL K) (tVar 0) tNoPart (tPart (tC (.int 48)))) [some (.ref a), some (.int salt), none, none, none] H (.list (ms.map .int)) := fun H1 s1 Q q => by
    refine ⟨_, rfl, ⟨48, rfl, a, ns.map V.int, rfl, Evl.ex_l s1 hs, fun p hp => ?_⟩⟩
    rw [hms]
    exact q _ _ (same_new hp) (.lst upd_same (Reps.ints ms))
  refine q_asg (ed_lcI1 (items := ms) (enc := .int) (fun i => if i < 0 then -i else i) (ei_list hsl) (by omega) fun i m hm v H1 s1 r1 => ⟨_, bd_name, rfl, ed_cb (ea_cons (ed_cb (ea_cons (ed_var rfl r1) ea_nil) cd_int1) ea_nil) cd_abs⟩) fun v2 H1 s1 r2 => ?_
  have hcs : (ms.map fun i : Int => if i < 0 then -i else i).length ≤ 48 := by rw [List.length_map]; exact hml
  generalize (ms.map fun i : Int => if i < 0 then -i else i) = cs at r2 hcs
  refine q_asg (ed_op ed_int (ed_op ed_int (ed_var rfl (.int salt)) (rd_mulS ⟨hs1, hs2⟩)) rd_add) fun v4 H2 s2 r4 => ?_
  have s12 := s1.trans s2
  refine q_for (ei_list (ds := cs.map .int) (ed_var rfl (r2.mono s2))) (fun H3 i σ' H' => Same H3 H' ∧ ∃ c b, σ' = [some (.ref a), some (.int salt), some v2, c, some (.int b)]) (fun H3 s3 => ⟨Same.refl _, none, by cases r4; exact ⟨_, rfl⟩⟩) (fun H3 i σ' H' hi p => p.1) (fun H3 s3 i d v σ' H' H4 hd p s4 rv => ?_) (fun H3 σ' H' s3 p => ?_)
  · obtain ⟨p1, c, b, rfl⟩ := p
    rw [List.getElem?_map] at hd
    obtain ⟨x, hx, rfl⟩ := Option.map_eq_some_iff.mp hd
    refine s_asg (ed_op (ed_cb (ea_cons (ed_op (ed_op (ed_op (ed_var rfl (.int b)) ed_int (rd_mulS (by decide))) (ed_op (ed_var rfl rv) ed_int (rd_mod (by decide))) rd_add) ed_int rd_add) ea_nil) cd_int1) ed_int (rd_mod (by decide))) fun v5 H5 s5 r5 => ?_
    cases r5
    exact ⟨(p1.trans s4).trans s5, some v, _, rfl⟩
  · obtain ⟨p1, c, b, rfl⟩ := p
    have sH := s12.trans (s3.trans p1)
    -- the new cells, the new deal
    have hcells : EL (tRevL K (tLc (iList K (tVar 2)) (gName 3) (tTest (tOp (rI0 fun i j => .bl (decide (j ≤ i))) (tVar 3) (tOp (rI CPow fun i j => .int (i ^ j.toNat)) (tC (.int 10)) (tC (.int 18))))) (tVar 3) [3])) [some (.ref a), some (.int salt), some v2, c, some (.int b)] H' (((cs.filter fun x => decide ((10 : Int) ^ (18 : Int).toNat ≤ x)).map PyData.int).reverse) := by
      have h := ed_lcI (te := tVar 3) (tt := tTest (tOp (rI0 fun i j => .bl (decide (j ≤ i))) (tVar 3) (tOp (rI CPow fun i j => .int (i ^ j.toNat)) (tC (.int 10)) (tC (.int 18))))) (wi := iList K (tVar 2)) (g := gName 3) (vs := [3]) (σ := [some (.ref a), some (.int salt), some v2, c, some (.int b)]) (H := H') (items := cs) (enc := .int) (fun x => decide ((10 : Int) ^ (18 : Int).toNat ≤ x)) (fun x => x) (ei_list (ed_var rfl (r2.mono (s2.trans (s3.trans p1))))) (by omega) fun k x hx v6 H6 s6 r6 => ⟨_, bd_name, rfl, eb_test (ed_op (ed_var rfl r6) (ed_op ed_int ed_int (rd_pow ⟨by decide, by decide, by decide⟩)) rd_ge), fun _ => ed_var rfl r6⟩
      rw [List.map_id'] at h
      exact el_rev h
    refine t_lst2 (hcells H' (Same.refl _) _ fun C xs H5 hC0 s5 hC5 rC => ?_)
    refine ⟨_, rfl, by show (2 : Nat) ≤ sizeLine; decide, fun D hD => ?_⟩
    have hne : D ≠ C := fun e => by rw [e, hC5] at hD; cases hD
    have e1 : ((cs.filter fun x => decide ((10 : Int) ^ (18 : Int).toNat ≤ x)).map PyData.int).reverse = ((cs.filter fun x => decide ((10 : Int) ^ (18 : Int).toNat ≤ x)).reverse).map PyData.int := by rw [List.map_reverse]
    rw [e1] at rC
    have hx := Reps.of_ints rC
    subst hx
    have hcl : cs.length ≤ 48 := hcs
    refine q D C _ ((sH.trans s5).trans (same_new hD)) ⟨hne, _, b, upd_same, same_new hD _ _ hC5, ?_⟩ (none_back (sH.trans s5) hD) (none_back sH hC0)
    rw [List.length_reverse]
    have := List.length_filter_le (fun x => decide ((10 : Int) ^ (18 : Int).toNat ≤ x)) cs
    omega
end K52
end
section
set_option Elab.async false
set_option linter.all false
set_option maxRecDepth 100000
/-! Values apart from some lists. -/
namespace K52
open PySem PySem.Spec PyProof.Rows L2
variable {P : Program} {w : World} {K : PySem.W.Frag} {mg : Str → Option Value} {base : Heap}
/-- the heap without S -/
def hid (S : List Addr) (H : Hp) : Hp := fun a => if a ∈ S then none else H a
theorem hid_at {S : List Addr} {H : Hp} {a : Addr} {o : HO} (h : hid S H a = some o) : a ∉ S ∧ H a = some o := by
  unfold hid at h
  by_cases c : a ∈ S
  · rw [if_pos c] at h; cases h
  · rw [if_neg c] at h; exact ⟨c, h⟩
theorem hid_of {S : List Addr} {H : Hp} {a : Addr} {o : HO} (h : a ∉ S) (e : H a = some o) : hid S H a = some o := by unfold hid; rw [if_neg h]; exact e
theorem hid_same {S : List Addr} {H H' : Hp} (e : Same H H') : Same (hid S H) (hid S H') := fun a o h => by
  obtain ⟨h1, h2⟩ := hid_at h
  exact hid_of h1 (e _ _ h2)
theorem hid_sub {S : List Addr} {H : Hp} : Same (hid S H) H := fun a o h => (hid_at h).2
theorem hid_upd {S : List Addr} {H : Hp} {a : Addr} {o : HO} (h : a ∈ S) : Same (hid S H) (hid S (upd H a o)) := fun b u hb => by
  obtain ⟨h1, h2⟩ := hid_at hb
  exact hid_of h1 (by rw [upd_ne (fun e => h1 (by rw [e]; exact h))]; exact h2)
theorem hid_db {S : List Addr} {D C : Addr} {H H' : Hp} (h : DB D C H H') (h1 : D ∈ S) (h2 : C ∈ S) : Same (hid S H) (hid S H') := fun b u hb => by
  obtain ⟨q1, q2⟩ := hid_at hb
  exact hid_of q1 (h b u (fun e => q1 (e ▸ h1)) (fun e => q1 (e ▸ h2)) q2)
/-- S are lists -/
def LS (S : List Addr) (H : Hp) : Prop := ∀ a ∈ S, ∃ xs, H a = some (.lst xs)
theorem LS.same {S : List Addr} {H H' : Hp} (h : LS S H) (e : Same H H') : LS S H' := fun a ha => by
  obtain ⟨xs, hx⟩ := h a ha
  exact ⟨xs, e _ _ hx⟩
theorem LS.ts {S : List Addr} {H : Hp} (h : LS S H) : TS H (hid S H) := fun a xs hx => hid_of (fun c => by
  obtain ⟨ys, hy⟩ := h a c
  rw [hx] at hy; cases hy) hx
theorem LS.out {S : List Addr} {H : Hp} {p : Addr} (h : LS S H) (hp : H p = none) : p ∉ S := fun c => by
  obtain ⟨ys, hy⟩ := h p c
  rw [hp] at hy; cases hy
def EH (S : List Addr) (te : TE) (σ : L2.St) (H : Hp) (d : PyData) : Prop := ∀ H1, Same H H1 → ∀ Q : VK, (∀ v H2, Same H1 H2 → Rep (hid S H2) v d → Q v H2) → te σ H1 Q
def EHA (S : List Addr) (ta : TA) (σ : L2.St) (H : Hp) (ds : List PyData) : Prop := ∀ H1, Same H H1 → ∀ Q : List V → Hp → Prop, (∀ vs H2, Same H1 H2 → Reps (hid S H2) vs ds → Q vs H2) → ta σ H1 Q
section
variable {S : List Addr} {σ : L2.St} {H : Hp} {te : TE} {tr : TA} {d : PyData} {ds : List PyData}
theorem eh_noL (hS : LS S H) (h : ED te σ H d) (hn : noL d = true) : EH S te σ H d := fun H1 s Q q => h H1 s _ fun v H2 s2 r => q v H2 s2 (r.ts (hS.same (s.trans s2)).ts hn)
theorem eh_new (hS : LS S H) (h : EL te σ H ds) (hn : noLs ds = true) : EH S te σ H (.list ds) := fun H1 s Q q => h H1 s _ fun p xs H2 hp s2 hx rs =>
  q _ H2 s2 (.lst (hid_of ((hS.same s).out hp) hx) (Reps.ts (hS.same (s.trans s2)).ts hn rs))
theorem eh_var {i : Nat} {v : V} (hs : σ[i]? = some (some v)) (r : Rep (hid S H) v d) : EH S (tVar i) σ H d := fun H1 s Q q => ⟨v, hs, q v H1 (Same.refl _) (r.mono (hid_same s))⟩
theorem eha_nil : EHA S tNil σ H [] := fun H1 _ Q q => q [] H1 (Same.refl _) .nil
theorem eha_cons (h : EH S te σ H d) (hr : EHA S tr σ H ds) : EHA S (tCons te tr) σ H (d :: ds) := fun H1 s Q q =>
  h H1 s _ fun x H2 s2 rx => hr H2 (s.trans s2) _ fun vs H3 s3 rs => q _ H3 (s2.trans s3) (.cons (rx.mono (hid_same s3)) rs)
theorem eh_lst (hS : LS S H) (h : EHA S tr σ H ds) (hl : ds.length ≤ 1000) : EH S (tLst tr) σ H (.list ds) := fun H1 s Q q =>
  h H1 s _ fun vs H2 s2 rs => ⟨by rw [rs.length]; exact Nat.le_trans hl (by decide), fun p hp => q _ _ (s2.trans (same_new hp)) (.lst (hid_of ((hS.same (s.trans s2)).out hp) upd_same) (rs.mono (hid_same (same_new hp))))⟩
theorem eh_tup (hS : LS S H) (h : EHA S tr σ H ds) (hl : ds.length ≤ 1000) : EH S (tTup tr) σ H (.tuple ds) := fun H1 s Q q =>
  h H1 s _ fun vs H2 s2 rs => ⟨by rw [rs.length]; exact Nat.le_trans hl (by decide), fun p hp => q _ _ (s2.trans (same_new hp)) (.tup (hid_of ((hS.same (s.trans s2)).out hp) upd_same) (rs.mono (hid_same (same_new hp))))⟩
theorem Reps.mem {H : Hp} : ∀ {vs : List V} {ds : List PyData} {v : V}, Reps H vs ds → v ∈ vs → ∃ d ∈ ds, Rep H v d
  | _, _, _, .nil, h => absurd h (by simp)
  | _, _, v, .cons (v := u) r t, h => by
    rcases List.mem_cons.mp h with e | h
    · subst e; exact ⟨_, List.mem_cons_self, r⟩
    · obtain ⟨d, hd, rd⟩ := Reps.mem t h
      exact ⟨d, List.mem_cons_of_mem _ hd, rd⟩
/-- _law_of(deal, [..]) -/
theorem t_c18 {v : V} {σ : L2.St} {H : Hp} {Q : VK} (h : Q v H) : tC v σ H Q := h
theorem t_ofH {i : Nat} {D C : Addr} {Q : VK} {E : XK} (hs : σ[i]? = some (some (.ref D))) (hd : Deal H D C) (hS : LS S H) (h1 : D ∈ S) (h2 : C ∈ S) (h : EHA S tr σ H ds) (hne : ds ≠ []) (hl : ds.length ≤ 1000) (q : ∀ v, ∀ d ∈ ds, ∀ H', DB D C H H' → Deal H' D C → Rep (hid S H') v d → Q v H') :
    tCall spOf [] E (tCons (tVar i) (tCons (tLst tr) tNil)) σ H Q := ⟨_, hs, h H (Same.refl _) _ fun vs H1 s1 rs => by
  refine ⟨by rw [rs.length]; exact Nat.le_trans hl (by decide), fun p hp => ?_⟩
  have hd1 := hd.same s1
  obtain ⟨n1, n2⟩ := hd1.neD hp
  refine ⟨D, C, p, vs, rfl, hd1.upd n1 n2, upd_same, n1, n2, fun z => ?_, by rw [rs.length]; exact hl, fun v hv H' db hd' => ?_⟩
  · have := rs.length
    rw [z] at this
    exact hne (List.eq_nil_of_length_eq_zero this.symm)
  · obtain ⟨d, hdm, rd⟩ := rs.mem hv
    exact q v d hdm H' (((DB.of s1).trans (DB.of (same_new hp))).trans db) hd' ((rd.mono (hid_same (same_new hp))).mono (hid_db db h1 h2))⟩
end
section
variable {σ : L2.St} {H : Hp} {ta tb : TE} {ds es : List PyData}
theorem el_cat (ha : ED ta σ H (.list ds)) (hb : ED tb σ H (.list es)) (h : ds.length + es.length ≤ 100000) : EL (tOp rCat ta tb) σ H (ds ++ es) := fun H1 s Q q =>
  ha H1 s _ fun v H2 s2 r => hb H2 (s.trans s2) _ fun u H3 s3 r2 => by
    cases r.mono s3 with
    | lst hx r1 =>
      cases r2 with
      | lst hy r2 =>
        exact ⟨_, _, _, _, rfl, rfl, hx, hy, by rw [r1.length, r2.length]; exact Nat.le_trans h (by decide), fun p hp => q p _ _ (none_back (s2.trans s3) hp) ((s2.trans s3).trans (same_new hp)) upd_same ((Reps.append r2 r1).mono (same_new hp))⟩
end
structure GI (es : List PyData) : Prop where
  len : es.length ≤ 60
  sm : ∀ e ∈ es, Sq 1 e
  sh : ∀ e ∈ es, Sh 5 e
theorem GI.map {l : List Lot} (h : l.length ≤ 60) (h2 : ∀ x ∈ l, x.length ≤ 60) : GI (l.map lotD) :=
  ⟨by rw [List.length_map]; exact h, fun e he => by
    obtain ⟨x, hx, rfl⟩ := List.mem_map.mp he
    exact ⟨by show (x.map PyData.int).length ≤ 60; rw [List.length_map]; exact h2 x hx, fun _ _ => True.intro⟩, fun e he => by
    obtain ⟨x, hx, rfl⟩ := List.mem_map.mp he
    exact (sh_lot x).mono (by decide)⟩
theorem GI.sub {es fs : List PyData} (h : GI es) (hl : fs.length ≤ 60) (hs : ∀ f ∈ fs, f ∈ es) : GI fs := ⟨hl, fun f hf => h.sm f (hs f hf), fun f hf => h.sh f (hs f hf)⟩
structure RI (rs : List PyData) : Prop where
  len : rs.length ≤ 60
  sm : ∀ e ∈ rs, Sq 2 e
  sh : ∀ e ∈ rs, Sh 10 e
theorem RI.gd {rs : List PyData} (h : RI rs) : Gd 3 (.tuple rs) := ⟨⟨h.len, h.sm⟩, (Sh.tup h.sh).mono (by decide)⟩
theorem RI.set {rs : List PyData} (h : RI rs) {d : PyData} {j : Nat} (h1 : Sq 2 d) (h2 : Sh 10 d) : RI (rs.set j d) :=
  ⟨by rw [List.length_set]; exact h.len, fun e he => by
    rcases List.mem_or_eq_of_mem_set he with q | q
    · exact h.sm e q
    · rw [q]; exact h1, fun e he => by
    rcases List.mem_or_eq_of_mem_set he with q | q
    · exact h.sh e q
    · rw [q]; exact h2⟩
abbrev rdFin (K : PySem.W.Frag) : L2.TS := tSeq (tAsg (tIf (tOr (tTest (tOp (rI0 fun i j => .bl (decide (i < j))) (tVar 3) (tC (.int 7)))) (tTest (tOp (rI0 fun i j => .bl (decide (j < i))) (tCall spAny [] E0 (tCons (tVar 0) (tCons (tC (.int 4)) tNil))) (tC (.int 0))))) (tCB (rTupleQ K) (tCons (tVar 6) tNil)) (tVar 6)) (gSub (tVar 4) (tVar 5) rSetL)) (tRet (tCB (rTupleQ K) (tCons (tVar 4) tNil)))
theorem t_fin {D C ra fa : Addr} {v1 : V} {n form : Int} {at_ : Nat} {p7 p8 : Option V} {H0 H : Hp} {rxs fxs : List V} {rs es : List PyData} {N : L2.St → Hp → Prop} {B1 B2 : L2.St → Hp → Prop} {Q : VK} (db : DB D C H0 H) (hd : Deal H D C) (hr0 : H0 ra = none) (hra : H ra = some (.lst rxs)) (rr : Reps (hid [D, C, ra] H) rxs rs) (hri : RI rs) (n1 : ra ≠ D) (n2 : ra ≠ C)
    (hf : fa ∉ [D, C, ra]) (hfa : H fa = some (.lst fxs)) (rf : Reps (hid [D, C, ra] H) fxs es) (ge : GI es) (hat : at_ < rs.length) (q : ∀ (u : V) (d : PyData) (H' : Hp), DB D C H0 H' → Deal H' D C → Rep H' u d → Gd 3 d → Q u H') :
    rdFin K { nx := N, rt := Q, bk := B1, ct := B2 } [some (.ref D), some v1, some (.int n), some (.int form), some (.ref ra), some (.int (at_ : Int)), some (.ref fa), p7, p8] H := by
  have hf' : fa ≠ D ∧ fa ≠ C ∧ fa ≠ ra := by simp at hf; exact hf
  have inD : D ∈ [D, C, ra] := by simp
  have inC : C ∈ [D, C, ra] := by simp
  have inR : ra ∈ [D, C, ra] := by simp
  -- the store, the end
  have st : ∀ (u : V) (d : PyData) (H3 : Hp), DB D C H H3 → Deal H3 D C → Rep (hid [D, C, ra] H3) u d → Sq 2 d → Sh 10 d → gSub (tVar 4) (tVar 5) rSetL u [some (.ref D), some v1, some (.int n), some (.int form), some (.ref ra), some (.int (at_ : Int)), some (.ref fa), p7, p8] H3 (fun σ H4 => tRet (tCB (rTupleQ K) (tCons (tVar 4) tNil)) { nx := N, rt := Q, bk := B1, ct := B2 } σ H4) := fun u d H3 db3 hd3 ru hsm hsh => by
    have hr3 := db3.at n1 n2 hra
    refine ⟨_, rfl, _, rfl, ra, rxs, _, at_, rfl, rfl, hr3, ?_, ?_⟩
    · unfold ixN
      rw [if_pos (by omega), rr.length, if_pos (by omega), Int.toNat_natCast]
    · have rr3 : Reps (hid [D, C, ra] (upd H3 ra (.lst (rxs.set at_ u)))) (rxs.set at_ u) (rs.set at_ d) := (Reps.set ru at_ (rr.mono (hid_db db3 inD inC))).mono (hid_upd inR)
      have hd4 : Deal (upd H3 ra (.lst (rxs.set at_ u))) D C := hd3.upd n1 n2
      have db4 : DB D C H0 (upd H3 ra (.lst (rxs.set at_ u))) := DB.mut (db.trans db3) hr0
      refine ⟨_, rfl, ra, _, rfl, .inl ⟨SqL.of upd_same, fun l hl => ?_⟩⟩
      obtain ⟨l1, l2⟩ := hd4.neD hl
      exact q _ _ _ (db4.trans (DB.of (same_new hl))) (hd4.upd l1 l2) (.tup upd_same ((rr3.mono hid_sub).mono (same_new hl))) (hri.set hsm hsh).gd
  have b1 : ∀ H2, DB D C H H2 → Deal H2 D C → tCB (rTupleQ K) (tCons (tVar 6) tNil) [some (.ref D), some v1, some (.int n), some (.int form), some (.ref ra), some (.int (at_ : Int)), some (.ref fa), p7, p8] H2 (fun x H1 => gSub (tVar 4) (tVar 5) rSetL x [some (.ref D), some v1, some (.int n), some (.int form), some (.ref ra), some (.int (at_ : Int)), some (.ref fa), p7, p8] H1 (fun σ H4 => tRet (tCB (rTupleQ K) (tCons (tVar 4) tNil)) { nx := N, rt := Q, bk := B1, ct := B2 } σ H4)) := fun H2 db2 hd2 => by
    refine ⟨_, rfl, fa, fxs, rfl, .inl ⟨SqL.of (db2.at hf'.1 hf'.2.1 hfa), fun l hl => ?_⟩⟩
    obtain ⟨l1, l2⟩ := hd2.neD hl
    have hlr : l ≠ ra := fun e => by rw [e, db2.at n1 n2 hra] at hl; cases hl
    exact st _ (.tuple es) _ (db2.trans (DB.of (same_new hl))) (hd2.upd l1 l2) (.tup (hid_of (by simp; exact ⟨l1, l2, hlr⟩) upd_same) ((rf.mono (hid_db db2 inD inC)).mono (hid_same (same_new hl)))) ⟨ge.len, ge.sm⟩ ((Sh.tup ge.sh).mono (by decide))
  have b2 : ∀ H2, DB D C H H2 → Deal H2 D C → (tVar 6 : TE) [some (.ref D), some v1, some (.int n), some (.int form), some (.ref ra), some (.int (at_ : Int)), some (.ref fa), p7, p8] H2 (fun x H1 => gSub (tVar 4) (tVar 5) rSetL x [some (.ref D), some v1, some (.int n), some (.int form), some (.ref ra), some (.int (at_ : Int)), some (.ref fa), p7, p8] H1 (fun σ H4 => tRet (tCB (rTupleQ K) (tCons (tVar 4) tNil)) { nx := N, rt := Q, bk := B1, ct := B2 } σ H4)) := fun H2 db2 hd2 =>
    ⟨_, rfl, st _ (.list es) H2 db2 hd2 (.lst (hid_of hf (db2.at hf'.1 hf'.2.1 hfa)) (rf.mono (hid_db db2 inD inC))) ⟨Nat.zero_le _, fun e he => absurd he (by simp [itemsOf])⟩ ((Sh.lst ge.sh).mono (by decide))⟩
  refine (eb_test (ed_op (ed_var (σ := [some (.ref D), some v1, some (.int n), some (.int form), some (.ref ra), some (.int (at_ : Int)), some (.ref fa), p7, p8]) (i := 3) rfl (.int form)) ed_int rd_lt)) H (Same.refl _) _ fun H1 s1 => ?_
  cases hfm : decide (form < 7) with
  | true => exact b1 H1 (DB.of s1) (hd.same s1)
  | false =>
    refine t_any (σ := [some (.ref D), some v1, some (.int n), some (.int form), some (.ref ra), some (.int (at_ : Int)), some (.ref fa), p7, p8]) rfl (hd.same s1) ed_int (by decide) fun z H2 db2 hd2 hz => ?_
    refine ⟨z, 0, rfl, rfl, _, rfl, ?_⟩
    cases hz0 : decide ((0 : Int) < z) with
    | true => exact b1 H2 ((DB.of s1).trans db2) hd2
    | false => exact b2 H2 ((DB.of s1).trans db2) hd2
theorem q_parT {i j : Nat} {ta tb : TE} {D : Ends} {tz : L2.TS} {σ : L2.St} {H : Hp} (h : ta σ H fun x H1 => tb σ H1 fun y H2 => ∃ v w, [x, y] = [v, w] ∧ tz D ((σ.set i (some v)).set j (some w)) H2) : tSeq (tPar i j (tCons ta (tCons tb tNil))) tz D σ H := h
theorem s_asgL {te : TE} {D : Ends} {σ : L2.St} {H : Hp} {ds : List PyData} {i : Nat} (h : EL te σ H ds) (k : ∀ p xs H1, H p = none → Same H H1 → H1 p = some (.lst xs) → Reps H1 xs ds → D.nx (σ.set i (some (.ref p))) H1) : tAsg te (gName i) D σ H := h H (Same.refl _) _ fun p xs H1 a b c d => k p xs H1 a b c d
theorem s_asgT {te : TE} {i : Nat} {D : Ends} {σ : L2.St} {H : Hp} (h : te σ H fun v H1 => D.nx (σ.set i (some v)) H1) : tAsg te (gName i) D σ H := h
theorem s_asgG {te : TE} {g : TG} {D : Ends} {σ : L2.St} {H : Hp} (h : te σ H fun v H1 => g v σ H1 D.nx) : tAsg te g D σ H := h
theorem t_cb1 {ta : TE} {r : List V → Hp → VK → Prop} {σ : L2.St} {H : Hp} {Q : VK} (h : ta σ H fun x H1 => r [x] H1 Q) : tCB r (tCons ta tNil) σ H Q := h
theorem gd_none : Gd 3 .none := ⟨⟨Nat.zero_le _, fun e he => absurd he (by simp [itemsOf])⟩, sh_none.mono (by decide)⟩
theorem gi_one {d : PyData} (h : Sq 1 d) (h2 : Sh 5 d) : GI [d] := ⟨by show (1 : Nat) ≤ 60; decide, fun e he => by rw [List.mem_singleton.mp he]; exact h, fun e he => by rw [List.mem_singleton.mp he]; exact h2⟩
theorem s_retT {te : TE} {D : Ends} {σ : L2.St} {H : Hp} (h : te σ H D.rt) : tRet te D σ H := h
theorem cutD_map {α : Type} (f : α → PyData) (l : List α) (lo hi : Option Int) : cutD (l.map f) lo hi = ((l.drop (HT.sIx l.length 0 lo)).take (HT.sIx l.length l.length hi - HT.sIx l.length 0 lo)).map f := by
  unfold cutD
  rw [List.length_map, ← List.map_drop, ← List.map_take]
theorem cut_mem {α : Type} {l : List α} {a b : Nat} {x : α} (h : x ∈ (l.drop a).take b) : x ∈ l := List.mem_of_mem_drop (List.mem_of_mem_take h)
theorem cut_len {α : Type} {l : List α} {a b : Nat} : ((l.drop a).take b).length ≤ l.length := by rw [List.length_take, List.length_drop]; omega
theorem RI.fronts {n : Nat} {F : List (List Lot)} (h : FrontsOk n F) (hn : n ≤ 5) (hl : F.length ≤ 60) : RI (F.map frontD) :=
  ⟨by rw [List.length_map]; exact hl, fun e he => by
    obtain ⟨f, hf, rfl⟩ := List.mem_map.mp he
    have hL := (h f hf).2
    have h1 := lots_len hL
    have h2 : 2 ^ n ≤ 2 ^ 5 := Nat.pow_le_pow_right (by decide) hn
    refine ⟨by show (f.map lotD).length ≤ 60; rw [List.length_map]; omega, fun x hx => ?_⟩
    obtain ⟨l, hl, rfl⟩ := List.mem_map.mp hx
    have := lot_len (hL.2 l hl).1 (hL.2 l hl).2
    exact ⟨by show (l.map PyData.int).length ≤ 60; rw [List.length_map]; omega, fun _ _ => True.intro⟩, fun e he => by
    obtain ⟨f, hf, rfl⟩ := List.mem_map.mp he
    exact (sh_front f).mono (by decide)⟩
theorem RI.sub {es fs : List PyData} (h : RI es) (hl : fs.length ≤ 60) (hs : ∀ f ∈ fs, f ∈ es) : RI fs := ⟨hl, fun f hf => h.sm f (hs f hf), fun f hf => h.sh f (hs f hf)⟩
theorem noLs_iff : ∀ {ds : List PyData}, noLs ds = true ↔ ∀ d ∈ ds, noL d = true
  | [] => ⟨fun _ d hd => absurd hd (by simp), fun _ => rfl⟩
  | a :: r => by
    simp only [noLs, Bool.and_eq_true, noLs_iff (ds := r), List.mem_cons]
    exact ⟨fun ⟨h1, h2⟩ d hd => hd.elim (fun e => e ▸ h1) (h2 d), fun h => ⟨h a (.inl rfl), fun d hd => h d (.inr hd)⟩⟩
theorem noLs_sub {es fs : List PyData} (h : noLs es = true) (hs : ∀ f ∈ fs, f ∈ es) : noLs fs = true := noLs_iff.mpr fun f hf => noLs_iff.mp h f (hs f hf)
theorem reps_hid {S : List Addr} {H : Hp} {xs : List V} {ds : List PyData} (hS : LS S H) (hn : noLs ds = true) (r : Reps H xs ds) : Reps (hid S H) xs ds := Reps.ts hS.ts hn r
def spSpoilt : Sp := fun vs H Q _ => ∃ (D C : Addr) (v : V) (F : List (List Lot)) (n : Nat), vs = [.ref D, v, .int (n : Int)] ∧ Deal H D C ∧ Rep H v (frontsD F) ∧ F ≠ [] ∧ FrontsOk n F ∧ F.length ≤ 9 ∧ n ≤ 5 ∧ ∀ (u : V) (d : PyData) (H' : Hp), DB D C H H' → Deal H' D C → Rep H' u d → Gd 3 d → Q u H'
theorem scSpoilt : FnScope ["_law_deal", "_law_value", "_law_many", "_law_form", "_law_row", "_law_at", "_law_front", "_law_place", "_law_job"] ["_law_deal", "_law_value", "_law_many"] (defScope sLawSpoilt) := ⟨rfl, rfl, rfl, by decide +kernel, rfl, by decide +kernel, by decide +kernel⟩
theorem df_spoilt (F : Bl mg) (D : DefAt K mg "_law_spoilt" sLawSpoilt) (G__law_any : Df P w K mg base 1 "_law_any" ["_law_deal", "_law_bound"] spAny) (G__law_of : Df P w K mg base 2 "_law_of" ["_law_deal", "_law_some"] spOf) : Df P w K mg base 3 "_law_spoilt" ["_law_deal", "_law_value", "_law_many"] spSpoilt := by
  have nd := scSpoilt.nd
  refine df_ok D scSpoilt (fun _ _ _ _ _ _ us hl => match us, hl with | [_, _, _], _ => rfl) (fun _ _ _ _ _ _ us hl => match us, hl with | [_, _, _], _ => rfl) (fun vs H Q E h => by obtain ⟨D, C, v, G, n, rfl, _⟩ := h; rfl) fun f cdv A outer s H vs Q E hr hsp =>
    have hu : (A.deeper (envOfC "_law_spoilt" (defScope sLawSpoilt) s.heap.objs.size f cdv)).units + 64 < cLine := hr.units
    have hu5 : (A.deeper (envOfC "_law_spoilt" (defScope sLawSpoilt) s.heap.objs.size f cdv)).units + 65 < cLine := by have := hr.un; omega
    have hr__law_of := hr
    have hr__law_any := hr.mono (j := 1) (by decide)
    ⟨_, PSs.nox (pss_cons (ps_par (i := 3) (j := 4) rfl nd rfl rfl (by decide) rfl rfl (pa_cons (pe_df G__law_any hr__law_any (by rfl) (pa_cons (pv 0) (pa_cons pe_int pa_nil))) (pa_cons (pe_callTy (clList K) (by rfl) F.list boot_list (pa_cons (pv 1) pa_nil)) pa_nil)) rfl)
  (pss_cons (ps_set (i := 5) nd rfl (Or.inl rfl) (pe_df G__law_any hr__law_any (by rfl) (pa_cons (pv 0) (pa_cons (pe_callB (clLen K) (by rfl) F.len boot_len (pa_cons (pv 4) pa_nil)) pa_nil))))
  (pss_cons (ps_set (i := 6) nd rfl (Or.inr rfl) (pe_callTy (clList K) (by rfl) F.list boot_list (pa_cons (pe_ix (ixL K) (pv 4) (pv 5) (fun _ _ => rfl)) pa_nil)))
  (pss_cons (ps_set (i := 7) nd rfl (Or.inr rfl) (pe_df G__law_any hr__law_any (by rfl) (pa_cons (pv 0) (pa_cons (pe_callB (clLen K) (by rfl) F.len boot_len (pa_cons (pv 6) pa_nil)) pa_nil))))
  (pss_cons (ps_if (pt_cmpR (opEq K hu) (pv 3) pe_int (nomark _)) (pss_one (ps_ret (pe_callTy (clTuple K) (by rfl) F.tuple boot_tuple (pa_cons (pe_op op_cat (pe_slice (slL K) (pv 4) po_none (po_some (pv 5))) (pe_slice (slL K) (pv 4) (po_some (pe_op op_add (pv 5) pe_int)) po_none)) pa_nil)))) pss_nil)
  (pss_cons (ps_if (pt_cmpR (opEq K hu) (pv 3) pe_int (nomark _)) (pss_one (ps_ret (pe_callTy (clTuple K) (by rfl) F.tuple boot_tuple (pa_cons (pe_op op_cat (pv 4) (pe_lst (pa_cons (pe_df G__law_of hr__law_of (by rfl) (pa_cons (pv 0) (pa_cons (pv 4) pa_nil))) pa_nil))) pa_nil)))) pss_nil)
  (pss_cons (ps_if (pt_cmpR op_lt (pv 3) pe_int (nomark _)) (pss_one (ps_set (i := 6) nd rfl (Or.inr rfl) (pe_op op_cat (pe_slice (slL K) (pv 6) po_none (po_some (pv 7))) (pe_slice (slL K) (pv 6) (po_some (pe_op op_add (pv 7) pe_int)) po_none)))) (pss_one (ps_if (pt_cmpR (opEq K hu) (pv 3) pe_int (nomark _)) (pss_one (ps_asg (pe_slice (slT K) (pe_ix (ixL K) (pv 6) (pv 7) (fun _ _ => rfl)) po_none (po_some (pe_un un_neg pe_int))) (pg_sub (pv 6) (pv 7) set_list))) (pss_one (ps_if (pt_cmpR (opEq K hu) (pv 3) pe_int (nomark _)) (pss_one (ps_asg (pe_callTy (clTuple K) (by rfl) F.tuple boot_tuple (pa_cons (pe_lc (own := [("_law_job", 8)]) (g := gName 8)  rfl nd (pi_range1 (by rfl) F.range (pa_cons (pv 2) pa_nil)) (blkOk_by (by kernel_rfl)) (fun _ _ _ _ _ => (pg_name (i := 8) nd rfl (by first | exact Or.inl rfl | exact Or.inr rfl))) (fun _ _ _ _ _ => (pts_one (PW.pt (pw_or (pt_cmpR (opIn K hu5) (pv 8) (pe_ix (ixL K) (pv 6) (pv 7) (fun _ _ => rfl)) rfl) (pw_or1 (pt_cmpR (opEq K hu) (pe_df G__law_any hr__law_any (by rfl) (pa_cons (pv 0) (pa_cons pe_int pa_nil))) pe_int (nomark _))))))) (fun _ _ _ _ _ => (pv 8))) pa_nil)) (pg_sub (pv 6) (pv 7) set_list))) (pss_one (ps_if (pt_cmpR (opEq K hu) (pv 3) pe_int (nomark _)) (pss_one (ps_set (i := 6) nd rfl (Or.inr rfl) (pe_lst (pa_cons (pe_tupRg rfl (by rfl) F.tuple (prg_1 (by rfl) F.range (pv 2))) pa_nil)))) (pss_one (ps_if (pt_cmpR (opEq K hu) (pv 3) pe_int (nomark _)) (pss_one (ps_set (i := 6) nd rfl (Or.inr rfl) (pe_df G__law_of hr__law_of (by rfl) (pa_cons (pv 0) (pa_cons (pe_lst (pa_cons (pe_op op_cat (pv 6) (pe_lst (pa_cons (pe_tup pa_nil) pa_nil))) (pa_cons (revL K (pv 6)) (pa_cons (pe_op op_cat (pv 6) (pe_slice (slL K) (pv 6) po_none (po_some pe_int))) (pa_cons (pe_lst (pa_cons (pe_callTy (clList K) (by rfl) F.list boot_list (pa_cons (pe_ix (ixL K) (pv 6) pe_int (fun _ _ => rfl)) pa_nil)) pa_nil)) (pa_cons (pe_lst (pa_cons (pe_tup (pa_cons pe_bl pa_nil)) pa_nil)) (pa_cons (pe_lst (pa_cons (pe_tup (pa_cons (pv 2) pa_nil)) pa_nil)) (pa_cons (pe_lst (pa_cons (pe_tup (pa_cons (pe_un un_neg pe_int) pa_nil)) pa_nil)) (pa_cons (pe_lst (pa_cons pe_non pa_nil)) pa_nil))))))))) pa_nil))))) (pss_one (ps_ret (pe_df G__law_of hr__law_of (by rfl) (pa_cons (pv 0) (pa_cons (pe_lst (pa_cons pe_non (pa_cons pe_int (pa_cons (pv 4) (pa_cons (pe_tup pa_nil) (pa_cons (pe_tup (pa_cons pe_non pa_nil)) (pa_cons (pe_tup (pa_cons (pv 4) pa_nil)) (pa_cons (pe_tup (pa_cons (pe_tup pa_nil) pa_nil)) (pa_cons (pe_tup (pa_cons (pe_tup (pa_cons (pe_tup pa_nil) pa_nil)) pa_nil)) (pa_cons (pv 1) pa_nil)))))))))) pa_nil))))))))))))))
  (pss_cons (ps_asg (pe_ifExp (PW.pt (pw_or (pt_cmpR op_lt (pv 3) pe_int (nomark _)) (pw_or1 (pt_cmpR op_gt (pe_df G__law_any hr__law_any (by rfl) (pa_cons (pv 0) (pa_cons pe_int pa_nil))) pe_int (nomark _))))) (pe_callTy (clTuple K) (by rfl) F.tuple boot_tuple (pa_cons (pv 6) pa_nil)) (pv 6)) (pg_sub (pv 4) (pv 5) set_list))
  (pss_one (ps_ret (pe_callTy (clTuple K) (by rfl) F.tuple boot_tuple (pa_cons (pv 4) pa_nil)))))))))))), ?_⟩
  obtain ⟨D, C, v, F, n, rfl, hd, rv, hF, hFo, hFl, hn, q⟩ := hsp
  have hRI := RI.fronts hFo hn (by omega)
  have hnoF : noLs (F.map frontD) = true := noLs_map noL_front F
  refine q_parT (t_any (σ := [some (.ref D), some v, some (.int (n : Int)), none, none, none, none, none, none]) rfl hd ed_int (by decide) fun form H1 db1 hd1 hform => ?_)
  have rv1 : Rep H1 v (frontsD F) := rv.ts (hd.ts db1) (noL_fronts F)
  refine el_list (K := K) (ds := F.map frontD) (ed_var (σ := [some (.ref D), some v, some (.int (n : Int)), none, none, none, none, none, none]) (i := 1) rfl rv1) H1 (Same.refl _) _ fun ra rxs H2 hr0 s2 hra rr => ⟨_, _, rfl, ?_⟩
  have hd2 := hd1.same s2
  obtain ⟨n1, n2⟩ := hd1.neD hr0
  have db2 : DB D C H H2 := db1.trans (DB.of s2)
  have hr00 : H ra = none := by
    cases h0 : H ra with
    | none => rfl
    | some o => have := db1.at n1 n2 h0; rw [hr0] at this; cases this
  -- at
  refine q_asgT (t_any (n := ((F.map frontD).length : Int)) (σ := [some (.ref D), some v, some (.int (n : Int)), some (.int form), some (.ref ra), none, none, none, none]) rfl hd2 (ed_cb (ea_cons (ed_var rfl (.lst hra rr)) ea_nil) cd_lenL) (by rw [List.length_map]; have := List.length_pos_iff.mpr hF; omega) fun at0 H3 db3 hd3 hat0 => ?_)
  rw [List.length_map] at hat0
  obtain ⟨at_, rfl⟩ : ∃ k : Nat, at0 = (k : Int) := ⟨at0.toNat, by omega⟩
  have hra3 := db3.at n1 n2 hra
  have rr3 : Reps H3 rxs (F.map frontD) := Reps.ts (hd2.ts db3) hnoF rr
  have hfk := hFo (F.getD at_ []) (getD_mem (by omega))
  -- front
  have hatd : atI (F.map frontD) (at_ : Int) = some (frontD (F.getD at_ [])) := by
    have := atI_map (f := frontD) (l := F) (i := (at_ : Int)) (dflt := []) (by omega)
    rw [Int.toNat_natCast] at this
    exact this
  generalize hfr : F.getD at_ [] = fr at hfk hatd
  have hfrl : fr.length ≤ 32 := by
    have h1 := lots_len hfk.2
    have h2 : 2 ^ n ≤ 2 ^ 5 := Nat.pow_le_pow_right (by decide) hn
    omega
  have hfll : ∀ l ∈ fr, l.length ≤ 5 := fun l hl => Nat.le_trans (lot_len (hfk.2.2 l hl).1 (hfk.2.2 l hl).2) hn
  have hGI : GI (fr.map lotD) := GI.map (by omega) fun x hx => by have := hfll x hx; omega
  have hnofr : noLs (fr.map lotD) = true := noLs_map noL_lot fr
  refine q_asgL (ds := fr.map lotD) (el_list (K := K) (ed_op (ed_var rfl (.lst hra3 rr3)) (ed_var rfl (.int (at_ : Int))) (rd_ixL hatd))) fun fa fxs H4 hf0 s4 hfa rf => ?_
  have hd4 := hd3.same s4
  obtain ⟨f1, f2⟩ := hd3.neD hf0
  have hfar : fa ≠ ra := fun e => by rw [e, hra3] at hf0; cases hf0
  have hra4 := s4 _ _ hra3
  have hf00 : ∀ {o : HO}, H fa = some o → (none : Option HO) = some o := fun {o} h0 => by
    have := s2 _ _ (db1.at f1 f2 h0)
    rw [← hf0]
    exact db3.at f1 f2 this
  -- place
  refine q_asgT (t_any (n := ((fr.map lotD).length : Int)) (σ := [some (.ref D), some v, some (.int (n : Int)), some (.int form), some (.ref ra), some (.int (at_ : Int)), some (.ref fa), none, none]) rfl hd4 (ed_cb (ea_cons (ed_var rfl (.lst hfa rf)) ea_nil) cd_lenL) (by rw [List.length_map]; have := List.length_pos_iff.mpr hfk.1; omega) fun pl0 H5 db5 hd5 hpl0 => ?_)
  rw [List.length_map] at hpl0
  obtain ⟨pl, rfl⟩ : ∃ k : Nat, pl0 = (k : Int) := ⟨pl0.toNat, by omega⟩
  have hra5 := db5.at n1 n2 hra4
  have hfa5 := db5.at f1 f2 hfa
  have rr5 : Reps H5 rxs (F.map frontD) := Reps.ts (hd4.ts db5) hnoF (rr3.mono s4)
  have rf5 : Reps H5 fxs (fr.map lotD) := Reps.ts (hd4.ts db5) hnofr rf
  have dbA : DB D C H H5 := ((db2.trans db3).trans (DB.of s4)).trans db5
  have rv5 : Rep H5 v (frontsD F) := rv.ts (hd.ts dbA) (noL_fronts F)
  have hLS : LS [D, C, ra] H5 := fun a ha => by
    obtain ⟨_, cells, b, g1, g2, _⟩ := hd5
    rcases List.mem_cons.mp ha with e | ha
    · exact ⟨_, by rw [e]; exact g1⟩
    · rcases List.mem_cons.mp ha with e | ha
      · exact ⟨_, by rw [e]; exact g2⟩
      · exact ⟨_, by rw [List.mem_singleton.mp ha]; exact hra5⟩
  have hLS2 : LS [D, C] H5 := fun a ha => hLS a (by simp at ha ⊢; rcases ha with e | e <;> simp [e])
  have hatF : at_ < (F.map frontD).length := by rw [List.length_map]; omega
  have inD : D ∈ [D, C, ra] := by simp
  have inC : C ∈ [D, C, ra] := by simp
  clear hfa rf hra4 hra3 rr3 hra rr db1 db2 db3 db5 hd1 hd2 hd3 hd4 rv1 hr0
  have hplr : 0 ≤ (pl : Int) ∧ (pl : Int) < fr.length := by omega
  -- form 0
  refine q_when (b := decide (form = 0)) (eb_test (ed_op (ed_var (σ := [some (.ref D), some v, some (.int (n : Int)), some (.int form), some (.ref ra), some (.int (at_ : Int)), some (.ref fa), some (.int (pl : Int)), none]) (i := 3) rfl (.int form)) ed_int rd_eqI)) (fun _ H6 s6 => ?_) fun _ H6 s6 => ?_
  · have rr6 := rr5.mono s6
    have hra6 := s6 _ _ hra5
    refine s_ret (ed_cb (ea_cons (ed_op (ed_slL (ed_var rfl (.lst hra6 rr6)) eo_none (eo_some (ed_var rfl (.int (at_ : Int))))) (ed_slL (ed_var rfl (.lst hra6 rr6)) (eo_some (ed_op (ed_var rfl (.int (at_ : Int))) ed_int rd_add)) eo_none) (rd_cat ?_)) ea_nil) cd_tupleL) fun u H7 s7 r7 => q u _ H7 (dbA.trans (DB.of (s6.trans s7))) (hd5.same (s6.trans s7)) r7 (RI.gd (RI.sub hRI ?_ fun e he => ?_))
    · unfold cutD
      have := @cut_len _ (F.map frontD) (HT.sIx (F.map frontD).length 0 none) (HT.sIx (F.map frontD).length (F.map frontD).length (some (at_ : Int)) - HT.sIx (F.map frontD).length 0 none)
      have := @cut_len _ (F.map frontD) (HT.sIx (F.map frontD).length 0 (some ((at_ : Int) + 1))) (HT.sIx (F.map frontD).length (F.map frontD).length none - HT.sIx (F.map frontD).length 0 (some ((at_ : Int) + 1)))
      have := List.length_map (f := frontD) (as := F)
      omega
    · rw [List.length_append]
      unfold cutD
      have := @cut_len _ (F.map frontD) (HT.sIx (F.map frontD).length 0 none) (HT.sIx (F.map frontD).length (F.map frontD).length (some (at_ : Int)) - HT.sIx (F.map frontD).length 0 none)
      have := @cut_len _ (F.map frontD) (HT.sIx (F.map frontD).length 0 (some ((at_ : Int) + 1))) (HT.sIx (F.map frontD).length (F.map frontD).length none - HT.sIx (F.map frontD).length 0 (some ((at_ : Int) + 1)))
      have := List.length_map (f := frontD) (as := F)
      omega
    · rcases List.mem_append.mp he with z | z
      · exact cut_mem z
      · exact cut_mem z
  -- form 1
  refine q_when (b := decide (form = 1)) (eb_test (ed_op (ed_var (σ := [some (.ref D), some v, some (.int (n : Int)), some (.int form), some (.ref ra), some (.int (at_ : Int)), some (.ref fa), some (.int (pl : Int)), none]) (i := 3) rfl (.int form)) ed_int rd_eqI)) (fun _ H7 s7 => ?_) fun _ H7 s7 => ?_
  · have s67 := s6.trans s7
    have hra7 := s67 _ _ hra5
    have rr7 := rr5.mono s67
    have hdr : (F.map frontD).length ≤ 9 := by rw [List.length_map]; exact hFl
    refine s_retT ⟨_, rfl, _, rfl, _, rfl, D, C, ra, rxs, rfl, hd5.same s67, hra7, n1, n2, fun z => ?_, by rw [rr7.length]; omega, fun u hu H8 db8 hd8 => ⟨by show (1 : Nat) ≤ sizeLine; decide, fun p hp => ?_⟩⟩
    · have := rr7.length
      rw [z, List.length_map] at this
      exact hF (List.eq_nil_of_length_eq_zero this.symm)
    · obtain ⟨d, hdm, rd⟩ := rr7.mem hu
      have hdn : noL d = true := by obtain ⟨g, _, rfl⟩ := List.mem_map.mp hdm; exact noL_front g
      have ts8 := (hd5.same s67).ts db8
      have rr8 : Reps H8 rxs (F.map frontD) := Reps.ts ts8 hnoF rr7
      have rd8 := rd.ts ts8 hdn
      have hra8 := db8.at n1 n2 hra7
      obtain ⟨w1, w2⟩ := hd8.neD hp
      have hrp := same_new (o := .lst [u]) hp _ _ hra8
      refine ⟨ra, p, rxs, [u], rfl, rfl, hrp, upd_same, by rw [rr8.length, List.length_singleton]; exact Nat.le_trans (show (F.map frontD).length + 1 ≤ 100 by omega) (by decide), fun l hl => ?_⟩
      obtain ⟨l1, l2⟩ := (hd8.upd (o := .lst [u]) w1 w2).neD hl
      refine ⟨l, _, rfl, .inl ⟨SqL.of upd_same, fun t ht => ?_⟩⟩
      obtain ⟨t1, t2⟩ := ((hd8.upd (o := .lst [u]) w1 w2).upd (o := .lst (rxs ++ [u])) l1 l2).neD ht
      have sA := ((same_new (o := .lst [u]) hp).trans (same_new (o := .lst (rxs ++ [u])) hl)).trans (same_new (o := .tup (rxs ++ [u])) ht)
      refine q _ (.tuple (F.map frontD ++ [d])) _ ((dbA.trans (DB.of s67)).trans (db8.trans (DB.of sA))) (((hd8.upd w1 w2).upd l1 l2).upd t1 t2) (.tup upd_same ((rr8.mono sA).snoc (rd8.mono sA))) (RI.gd (RI.sub hRI ?_ fun e he => ?_))
      · rw [List.length_append, List.length_singleton]; omega
      · rcases List.mem_append.mp he with z | z
        · exact z
        · rw [List.mem_singleton.mp z]; exact hdm
  have s67 := s6.trans s7
  have hra7 := s67 _ _ hra5
  have hfa7 := s67 _ _ hfa5
  have rf7 := rf5.mono s67
  have rr7 : Reps (hid [D, C, ra] H7) rxs (F.map frontD) := reps_hid (hLS.same s67) hnoF (rr5.mono s67)
  have dbB := dbA.trans (DB.of (D := D) (C := C) s67)
  have hd7 := hd5.same s67
  have hL7 := hLS.same s67
  have hout : fa ∉ [D, C, ra] := by simp; exact ⟨f1, f2, hfar⟩
  -- the new front at a new list
  have done : ∀ (g : Addr) (gxs : List V) (es : List PyData) (H8 : Hp) (N B1 B2 : L2.St → Hp → Prop) (p8 : Option V), Same H7 H8 → H7 g = none → H8 g = some (.lst gxs) → Reps H8 gxs es → noLs es = true → GI es → rdFin K { nx := N, rt := Q, bk := B1, ct := B2 } [some (.ref D), some v, some (.int (n : Int)), some (.int form), some (.ref ra), some (.int (at_ : Int)), some (.ref g), some (.int (pl : Int)), p8] H8 := fun g gxs es H8 N B1 B2 p8 s8 hg0 hg rg hno hgi =>
    t_fin (dbB.trans (DB.of s8)) (hd7.same s8) hr00 (s8 _ _ hra7) (rr7.mono (hid_same s8)) hRI n1 n2 (hL7.out hg0) hg (reps_hid (hL7.same s8) hno rg) hgi hatF q
  have cond : ∀ (k : Int) (H8 : Hp), Same H7 H8 → EB (tTest (tOp (rEqD K) (tVar 3) (tC (.int k)))) [some (.ref D), some v, some (.int (n : Int)), some (.int form), some (.ref ra), some (.int (at_ : Int)), some (.ref fa), some (.int (pl : Int)), none] H8 (decide (form = k)) := fun k H8 _ => eb_test (ed_op (ed_var rfl (.int form)) ed_int rd_eqI)
  refine q_if (b := decide (form < 4)) (eb_test (ed_op (ed_var (σ := [some (.ref D), some v, some (.int (n : Int)), some (.int form), some (.ref ra), some (.int (at_ : Int)), some (.ref fa), some (.int (pl : Int)), none]) (i := 3) rfl (.int form)) ed_int rd_lt)) (fun _ H8 s8 => ?_) fun _ H8 s8 => ?_
  · have hfa8 := s8 _ _ hfa7
    have rf8 := rf7.mono s8
    have hl3 := List.length_map (f := lotD) (as := fr)
    have hl1 : (cutD (fr.map lotD) none (some (pl : Int))).length ≤ pl := by
      unfold cutD
      rw [HT.sIx_none, HT.sIx_nat, List.length_take]
      omega
    have hl2 : (cutD (fr.map lotD) (some ((pl : Int) + 1)) none).length ≤ fr.length - pl := by
      unfold cutD
      have e1 : ((pl : Int) + 1) = ((pl + 1 : Nat) : Int) := by omega
      rw [e1, HT.sIx_none, HT.sIx_nat, List.length_take, List.length_drop]
      omega
    have hmem : ∀ e ∈ cutD (fr.map lotD) none (some (pl : Int)) ++ cutD (fr.map lotD) (some ((pl : Int) + 1)) none, e ∈ fr.map lotD := fun e he => by
      rcases List.mem_append.mp he with z | z
      · exact cut_mem z
      · exact cut_mem z
    refine s_asgL (el_cat (ed_slL (ed_var rfl (.lst hfa8 rf8)) eo_none (eo_some (ed_var rfl (.int (pl : Int))))) (ed_slL (ed_var rfl (.lst hfa8 rf8)) (eo_some (ed_op (ed_var rfl (.int (pl : Int))) ed_int rd_add)) eo_none) ?_) fun p xs H9 hp s9 hx rx => done p xs _ H9 _ _ _ _ (s8.trans s9) (none_back s8 hp) hx rx (noLs_sub hnofr hmem) (GI.sub hGI ?_ hmem)
    · omega
    · rw [List.length_append]; omega
  -- a changed item of the front
  have chg : ∀ (l' : Lot) (u : V) (H9 : Hp) (N B1 B2 : L2.St → Hp → Prop) (p8 : Option V), DB D C H7 H9 → Deal H9 D C → Rep H9 u (lotD l') → l'.length ≤ 60 → rdFin K { nx := N, rt := Q, bk := B1, ct := B2 } [some (.ref D), some v, some (.int (n : Int)), some (.int form), some (.ref ra), some (.int (at_ : Int)), some (.ref fa), some (.int (pl : Int)), p8] (upd H9 fa (.lst (fxs.set pl u))) := fun l' u H9 N B1 B2 p8 db9 hd9 ru hl' => by
    have hfa9 := db9.at f1 f2 hfa7
    have hra9 := db9.at n1 n2 hra7
    have ts9 := hd7.ts db9
    have hL9 : LS [D, C, ra] H9 := fun a ha => by
      obtain ⟨_, cells, b, g1, g2, _⟩ := hd9
      rcases List.mem_cons.mp ha with e | ha
      · exact ⟨_, by rw [e]; exact g1⟩
      · rcases List.mem_cons.mp ha with e | ha
        · exact ⟨_, by rw [e]; exact g2⟩
        · exact ⟨_, by rw [List.mem_singleton.mp ha]; exact hra9⟩
    have hL10 : LS [D, C, ra] (upd H9 fa (.lst (fxs.set pl u))) := fun a ha => by
      obtain ⟨ys, hy⟩ := hL9 a ha
      exact ⟨ys, by rw [upd_ne (fun e => hout (by rw [← e]; exact ha))]; exact hy⟩
    have rf9 : Reps H9 (fxs.set pl u) ((fr.set pl l').map lotD) := by
      rw [List.map_set]
      exact Reps.set ru pl (Reps.ts ts9 hnofr rf7)
    have rr9 : Reps H9 rxs (F.map frontD) := Reps.ts ts9 hnoF (rr5.mono s67)
    have hno' : noLs ((fr.set pl l').map lotD) = true := noLs_map noL_lot _
    refine t_fin (DB.mut (dbB.trans db9) (?_ : H fa = none)) (hd9.upd f1 f2) hr00 (by rw [upd_ne (Ne.symm hfar)]; exact hra9) (reps_hid hL10 hnoF (Reps.upd_lst rr9 hnoF hfa9)) hRI n1 n2 hout upd_same (reps_hid hL10 hno' (Reps.upd_lst rf9 hno' hfa9)) (GI.map (by rw [List.length_set]; omega) fun x hx => ?_) hatF q
    · cases h0 : H fa with
      | none => rfl
      | some o =>
        have := hf00 h0
        cases this
    · rcases List.mem_or_eq_of_mem_set hx with z | z
      · have := hfll x z; omega
      · rw [z]; exact hl'
  have hlotAt : atI (fr.map lotD) (pl : Int) = some (lotD (fr.getD pl [])) := by
    have := atI_map (f := lotD) (l := fr) (i := (pl : Int)) (dflt := []) hplr
    rw [Int.toNat_natCast] at this
    exact this
  have hlot5 : (fr.getD pl []).length ≤ 5 := hfll _ (getD_mem (by omega))
  refine s_if (b := decide (form = 4)) (cond 4 H8 s8) (fun _ H9 s9 => ?_) fun _ H9 s9 => ?_
  · have s89 := s8.trans s9
    have hfa9 := s89 _ _ hfa7
    have rf9 := rf7.mono s89
    refine s_setL (l := fa) (xs := fxs) (j := pl) (d := lotD (((fr.getD pl []).drop (HT.sIx (fr.getD pl []).length 0 none)).take (HT.sIx (fr.getD pl []).length (fr.getD pl []).length (some (-1)) - HT.sIx (fr.getD pl []).length 0 none))) rfl hfa9 (ed_is (ed_slT (ds := (fr.getD pl []).map .int) (ed_op (ed_var rfl (.lst hfa9 rf9)) (ed_var rfl (.int (pl : Int))) (rd_ixL hlotAt)) eo_none (eo_some ed_neg1)) (by rw [cutD_map]; rfl)) (ed_var rfl (.int (pl : Int))) (by rw [rf9.length, List.length_map]; omega) fun u H10 s10 ru => chg _ u H10 _ _ _ _ (DB.of (s89.trans s10)) (hd7.same (s89.trans s10)) ru (Nat.le_trans cut_len (by omega))
  refine s_if (b := decide (form = 5)) (cond 5 H9 (s8.trans s9)) (fun _ H10 s10 => ?_) fun _ H10 s10 => ?_
  · have s10' := (s8.trans s9).trans s10
    have hfa10 := s10' _ _ hfa7
    have rf10 := rf7.mono s10'
    refine s_asgG (t_cb1 ?_)
    refine ei_rng (G := fun _ _ => True) (n := (n : Int)) (ea_cons (ed_var (σ := [some (.ref D), some v, some (.int (n : Int)), some (.int form), some (.ref ra), some (.int (at_ : Int)), some (.ref fa), some (.int (pl : Int)), none]) (i := 2) rfl (.int (n : Int))) ea_nil) ⟨by omega, by omega⟩ H10 (Same.refl _) _ fun J H11 s11 wk l hl => ?_
    have hd11 := (hd7.same s10').same s11
    obtain ⟨l1, l2⟩ := hd11.neD hl
    have hfa11 := s11 _ _ hfa10
    have hlf : l ≠ fa := fun e => by rw [e, hfa11] at hl; cases hl
    rw [List.length_map, rg_len, Int.toNat_natCast] at wk
    refine lc_it wk (fun j H' => DB D C H11 H' ∧ Deal H' D C ∧ ∃ ds : List Int, H' l = some (.lst (ds.map V.int)) ∧ ds.Sublist (rg j) ∧ j ≤ n) ⟨DB.of (same_new hl), hd11.upd l1 l2, [], upd_same, List.nil_sublist _, Nat.zero_le _⟩ (fun j H' hj pv => True.intro) (fun j v2 H' H12 hj pv y => ?_) (fun H' pv => ?_)
    · obtain ⟨o1, o2, ds, o3, o4, o5⟩ := pv
      obtain ⟨y1, d, y2, y3⟩ := y
      rw [List.getElem?_map] at y2
      obtain ⟨day, hday, rfl⟩ := Option.map_eq_some_iff.mp y2
      obtain ⟨hdj, hjl⟩ := rg_at (n := n) hday
      have o1' := o1.trans (DB.of y1)
      have o2' := o2.same y1
      have o3' := y1 _ _ o3
      have hsub : ds.Sublist (rg (j + 1)) := by rw [rg_succ]; exact o4.trans (List.sublist_append_left _ _)
      have hsub1 : (ds ++ [day]).Sublist (rg (j + 1)) := by rw [rg_succ, hdj]; exact o4.append_right _
      have hdsl : ds.length ≤ 100 := by have := o4.length_le; rw [rg_len] at this; omega
      have hfa12 := o1'.at f1 f2 hfa11
      have rf12 : Reps H12 fxs (fr.map lotD) := Reps.ts (hd11.ts o1') hnofr (rf10.mono s11)
      refine ⟨rfl, ?_⟩
      show tOr _ _ _ _ _
      have fin : ∀ (bb : Bool) (H13 : Hp), DB D C H12 H13 → Deal H13 D C → (if bb = true then (tVar 8 : TE) [some (.ref D), some v, some (.int (n : Int)), some (.int form), some (.ref ra), some (.int (at_ : Int)), some (.ref fa), some (.int (pl : Int)), some v2] H13 (fun y H4 => ∃ acc, H4 l = some (.lst acc) ∧ acc.length < sizeLine ∧ (DB D C H11 (upd H4 l (.lst (acc ++ [y]))) ∧ Deal (upd H4 l (.lst (acc ++ [y]))) D C ∧ ∃ ds : List Int, (upd H4 l (.lst (acc ++ [y]))) l = some (.lst (ds.map V.int)) ∧ ds.Sublist (rg (j + 1)) ∧ j + 1 ≤ n)) else (DB D C H11 H13 ∧ Deal H13 D C ∧ ∃ ds : List Int, H13 l = some (.lst (ds.map V.int)) ∧ ds.Sublist (rg (j + 1)) ∧ j + 1 ≤ n)) := fun bb H13 db13 hd13 => by
        have h13 := db13.at l1 l2 o3'
        cases bb with
        | true =>
          rw [if_pos rfl]
          cases y3
          refine ⟨_, rfl, _, h13, by rw [List.length_map]; exact Nat.lt_of_le_of_lt hdsl (by decide), DB.mut (o1'.trans db13) hl, hd13.upd l1 l2, ds ++ [day], by rw [upd_same, List.map_append]; rfl, hsub1, by omega⟩
        | false =>
          rw [if_neg (by decide)]
          exact ⟨o1'.trans db13, hd13, ds, h13, hsub, by omega⟩
      refine (eb_test (ed_op (ed_var (σ := [some (.ref D), some v, some (.int (n : Int)), some (.int form), some (.ref ra), some (.int (at_ : Int)), some (.ref fa), some (.int (pl : Int)), some v2]) (i := 8) rfl y3) (ed_op (ed_var rfl (.lst hfa12 rf12)) (ed_var rfl (.int (pl : Int))) (rd_ixL hlotAt)) rd_inI)) H12 (Same.refl _) _ fun H13 s13 => ?_
      cases hcz : (fr.getD pl []).contains day with
      | true =>
        rw [if_pos rfl]
        exact fin true H13 (DB.of s13) (o2'.same s13)
      | false =>
        rw [if_neg (by decide)]
        refine t_any (σ := [some (.ref D), some v, some (.int (n : Int)), some (.int form), some (.ref ra), some (.int (at_ : Int)), some (.ref fa), some (.int (pl : Int)), some v2]) rfl (o2'.same s13) ed_int (by decide) fun z H14 db14 hd14 hz => ?_
        refine t_c18 ?_
        refine rd_eqI (K := K) H14 (.int z) (.int 0) (.int z) (.int 0) _ fun vb H15 s15 rb => ?_
        cases rb
        exact ⟨_, rfl, fin _ H15 (((DB.of s13).trans db14).trans (DB.of s15)) (hd14.same s15)⟩
    · obtain ⟨o1, o2, ds, o3, o4, o5⟩ := pv
      have hdsl : ds.length ≤ 5 := by have := o4.length_le; rw [rg_len] at this; omega
      refine ⟨l, _, rfl, .inl ⟨SqL.of o3, fun t ht => ?_⟩⟩
      obtain ⟨t1, t2⟩ := o2.neD ht
      have hfaZ := same_new (o := .tup (ds.map V.int)) ht _ _ (o1.at f1 f2 hfa11)
      have hrt : Rep (upd H' t (.tup (ds.map V.int))) (.ref t) (lotD ds) := .tup upd_same (Reps.ints ds)
      refine ⟨_, rfl, _, rfl, fa, fxs, _, pl, rfl, rfl, hfaZ, ?_, chg ds (.ref t) _ _ _ _ _ ((DB.of (s10'.trans s11)).trans (o1.trans (DB.of (same_new ht)))) (o2.upd t1 t2) hrt (by omega)⟩
      unfold ixN
      rw [if_pos (by omega), rf10.length, List.length_map, if_pos (by omega), Int.toNat_natCast]
  refine s_if (b := decide (form = 6)) (cond 6 H10 ((s8.trans s9).trans s10)) (fun _ H11 s11 => ?_) fun _ H11 s11 => ?_
  · have sX := ((s8.trans s9).trans s10).trans s11
    refine s_asgL (ds := [lotD (rg n)]) (el_lst (ea_cons (ed_is (ed_tupRg (n := (n : Int)) (ed_var rfl (.int (n : Int))) ⟨by omega, by omega⟩) (by rw [Int.toNat_natCast])) ea_nil) (by show (1 : Nat) ≤ 100000; decide)) fun p xs H12 hp s12 hx rx => done p xs _ H12 _ _ _ _ (sX.trans s12) (none_back sX hp) hx rx (by show (noL (lotD (rg n)) && true) = true; rw [noL_lot]; rfl) (GI.map (l := [rg n]) (by show (1 : Nat) ≤ 60; decide) fun x hx => by rw [List.mem_singleton.mp hx, rg_len]; omega)
  have sX := ((s8.trans s9).trans s10).trans s11
  refine s_if (b := decide (form = 7)) (cond 7 H11 sX) (fun _ H12 s12 => ?_) fun _ H12 s12 => ?_
  · have sY := sX.trans s12
    have hfaY := sY _ _ hfa7
    have rfY := rf7.mono sY
    have hLY := hL7.same sY
    have hd12 := hd7.same sY
    have eF : ED (tVar 6) [some (.ref D), some v, some (.int (n : Int)), some (.int form), some (.ref ra), some (.int (at_ : Int)), some (.ref fa), some (.int (pl : Int)), none] H12 (.list (fr.map lotD)) := ed_var rfl (.lst hfaY rfY)
    have hl3 := List.length_map (f := lotD) (as := fr)
    have hcut1 : (cutD (fr.map lotD) none (some 1)).length ≤ 1 := by
      unfold cutD
      have e1 : (1 : Int) = ((1 : Nat) : Int) := rfl
      rw [e1, HT.sIx_none, HT.sIx_nat, List.length_take]
      omega
    have hcm : ∀ e ∈ cutD (fr.map lotD) none (some 1), e ∈ fr.map lotD := fun e he => cut_mem he
    have hl0 : atI (fr.map lotD) 0 = some (lotD (fr.getD 0 [])) := atI_map (f := lotD) (l := fr) (i := 0) (dflt := []) ⟨by decide, by omega⟩
    have hno1 : noLs (fr.map lotD ++ [.tuple []]) = true := noLs_iff.mpr fun e he => by
      rcases List.mem_append.mp he with z | z
      · exact noLs_iff.mp hnofr e z
      · rw [List.mem_singleton.mp z]; rfl
    have hno3 : noLs (fr.map lotD ++ cutD (fr.map lotD) none (some 1)) = true := noLs_iff.mpr fun e he => by
      rcases List.mem_append.mp he with z | z
      · exact noLs_iff.mp hnofr e z
      · exact noLs_iff.mp hnofr e (hcm e z)
    have hsm0 : ∀ d : PyData, (itemsOf d).length ≤ 1 → Sq 1 d := fun d h => ⟨by omega, fun _ _ => True.intro⟩
    refine s_asgT (t_ofH (S := [D, C, ra]) (ds := [.list (fr.map lotD ++ [.tuple []]), .list (fr.map lotD).reverse, .list (fr.map lotD ++ cutD (fr.map lotD) none (some 1)), .list [.list ((fr.getD 0 []).map .int)], .list [.tuple [.bool true]], .list [.tuple [.int (n : Int)]], .list [.tuple [.int (-1)]], .list [.none]]) rfl hd12 hLY inD inC
      (eha_cons (eh_new hLY (el_cat eF (ed_lst (ea_cons (ed_tup ea_nil (Nat.zero_le _)) ea_nil) (by show (1 : Nat) ≤ 100000; decide)) (by show (fr.map lotD).length + 1 ≤ 100000; omega)) hno1)
      (eha_cons (eh_new hLY (el_rev eF) (noLs_sub hnofr fun e he => List.mem_reverse.mp he))
      (eha_cons (eh_new hLY (el_cat eF (ed_slL eF eo_none (eo_some ed_int)) (by omega)) hno3)
      (eha_cons (eh_lst hLY (eha_cons (eh_new hLY (el_list (ds := (fr.getD 0 []).map .int) (ed_op eF ed_int (rd_ixL hl0))) (noLs_ints _)) eha_nil) (by show (1 : Nat) ≤ 1000; decide))
      (eha_cons (eh_new hLY (el_lst (ea_cons (ed_tup (ea_cons ed_bl ea_nil) (by show (1 : Nat) ≤ 100000; decide)) ea_nil) (by show (1 : Nat) ≤ 100000; decide)) rfl)
      (eha_cons (eh_new hLY (el_lst (ea_cons (ed_tup (ea_cons (ed_var rfl (.int (n : Int))) ea_nil) (by show (1 : Nat) ≤ 100000; decide)) ea_nil) (by show (1 : Nat) ≤ 100000; decide)) rfl)
      (eha_cons (eh_new hLY (el_lst (ea_cons (ed_tup (ea_cons ed_neg1 ea_nil) (by show (1 : Nat) ≤ 100000; decide)) ea_nil) (by show (1 : Nat) ≤ 100000; decide)) rfl)
      (eha_cons (eh_new hLY (el_lst (ea_cons ed_non ea_nil) (by show (1 : Nat) ≤ 100000; decide)) rfl) eha_nil))))))))
      (by simp) (by show (8 : Nat) ≤ 1000; decide) fun u d hdm H13 db13 hd13 ru => ?_)
    have hes : ∃ es, d = .list es ∧ GI es := by
      simp only [List.mem_cons, List.not_mem_nil, or_false] at hdm
      rcases hdm with e | e | e | e | e | e | e | e
      · exact ⟨_, e, by rw [List.length_append, List.length_singleton]; omega, fun x hx => by
          rcases List.mem_append.mp hx with z | z
          · exact hGI.sm x z
          · rw [List.mem_singleton.mp z]; exact hsm0 _ (Nat.zero_le _), fun x hx => by
          rcases List.mem_append.mp hx with z | z
          · exact hGI.sh x z
          · rw [List.mem_singleton.mp z]; exact Sh.mono (Sh.tup (n := 1) fun d hd => absurd hd (by simp)) (by decide)⟩
      · exact ⟨_, e, GI.sub hGI (by rw [List.length_reverse]; omega) fun x hx => List.mem_reverse.mp hx⟩
      · exact ⟨_, e, GI.sub hGI (by rw [List.length_append]; omega) fun x hx => by
          rcases List.mem_append.mp hx with z | z
          · exact z
          · exact hcm x z⟩
      · exact ⟨_, e, gi_one (hsm0 _ (Nat.zero_le _)) ((sh_ints _).mono (by decide))⟩
      · exact ⟨_, e, gi_one (hsm0 _ (Nat.le_refl _)) (Sh.mono (Sh.tup (n := 1) fun d hd => by rw [List.mem_singleton.mp hd]; exact sh_bool _) (by decide))⟩
      · exact ⟨_, e, gi_one (hsm0 _ (Nat.le_refl _)) (Sh.mono (Sh.tup (n := 1) fun d hd => by rw [List.mem_singleton.mp hd]; exact sh_int _) (by decide))⟩
      · exact ⟨_, e, gi_one (hsm0 _ (Nat.le_refl _)) (Sh.mono (Sh.tup (n := 1) fun d hd => by rw [List.mem_singleton.mp hd]; exact sh_int _) (by decide))⟩
      · exact ⟨_, e, gi_one (hsm0 _ (Nat.zero_le _)) (sh_none.mono (by decide))⟩
    obtain ⟨es, rfl, hgi⟩ := hes
    cases ru with
    | lst hx rx =>
      obtain ⟨w1, w2⟩ := hid_at hx
      exact t_fin (dbB.trans ((DB.of sY).trans db13)) hd13 hr00 (db13.at n1 n2 (sY _ _ hra7)) ((rr7.mono (hid_same sY)).mono (hid_db db13 inD inC)) hRI n1 n2 w1 w2 rx hgi hatF q
  · have sY := sX.trans s12
    have hS2 := hLS2.same (s67.trans sY)
    have hd12 := hd7.same sY
    have inD2 : D ∈ [D, C] := by simp
    have inC2 : C ∈ [D, C] := by simp
    have hra12 := sY _ _ hra7
    have rrow : Rep (hid [D, C] H12) (.ref ra) (.list (F.map frontD)) := .lst (hid_of (by simp; exact ⟨n1, n2⟩) hra12) (reps_hid hS2 hnoF (rr5.mono (s67.trans sY)))
    have rv12 : Rep H12 v (frontsD F) := rv5.mono (s67.trans sY)
    have one : ∀ d : PyData, (itemsOf d).length ≤ 1 → (∀ e ∈ itemsOf d, (itemsOf e).length ≤ 1 ∧ ∀ g ∈ itemsOf e, (itemsOf g).length ≤ 1) → Sq 3 d := fun d h1 h2 => ⟨by omega, fun e he => ⟨by have := (h2 e he).1; omega, fun g hg => ⟨by have := (h2 e he).2 g hg; omega, fun _ _ => True.intro⟩⟩⟩
    have shT : ∀ {n : Nat} {d : PyData}, Sh n d → Sh (n + 1) (.tuple [d]) := fun {n d} h => Sh.tup fun e he => by rw [List.mem_singleton.mp he]; exact h
    have shE : Sh 2 (.tuple []) := Sh.tup (n := 1) fun d hd => absurd hd (by simp)
    refine s_retT (t_ofH (S := [D, C]) (ds := [.none, .int 0, .list (F.map frontD), .tuple [], .tuple [.none], .tuple [.list (F.map frontD)], .tuple [.tuple []], .tuple [.tuple [.tuple []]], frontsD F]) rfl hd12 hS2 inD2 inC2
      (eha_cons (eh_noL hS2 ed_non rfl) (eha_cons (eh_noL hS2 ed_int rfl) (eha_cons (eh_var rfl rrow) (eha_cons (eh_noL hS2 (ed_tup ea_nil (Nat.zero_le _)) rfl)
      (eha_cons (eh_noL hS2 (ed_tup (ea_cons ed_non ea_nil) (by show (1 : Nat) ≤ 100000; decide)) rfl) (eha_cons (eh_tup hS2 (eha_cons (eh_var rfl rrow) eha_nil) (by show (1 : Nat) ≤ 1000; decide))
      (eha_cons (eh_noL hS2 (ed_tup (ea_cons (ed_tup ea_nil (Nat.zero_le _)) ea_nil) (by show (1 : Nat) ≤ 100000; decide)) rfl)
      (eha_cons (eh_noL hS2 (ed_tup (ea_cons (ed_tup (ea_cons (ed_tup ea_nil (Nat.zero_le _)) ea_nil) (by show (1 : Nat) ≤ 100000; decide)) ea_nil) (by show (1 : Nat) ≤ 100000; decide)) rfl)
      (eha_cons (eh_noL hS2 (ed_var rfl rv12) (noL_fronts F)) eha_nil)))))))))
      (by simp) (by show (9 : Nat) ≤ 1000; decide) fun u d hdm H13 db13 hd13 ru => q u d H13 (dbB.trans ((DB.of sY).trans db13)) hd13 (ru.mono hid_sub) ?_)
    simp only [List.mem_cons, List.not_mem_nil, or_false] at hdm
    have e1 : ∀ (d : PyData), itemsOf d = [] → Sq 3 d := fun d h => one d (by rw [h]; exact Nat.zero_le _) fun e he => by rw [h] at he; cases he
    rcases hdm with e | e | e | e | e | e | e | e | e
    · rw [e]; exact gd_none
    · rw [e]; exact ⟨e1 _ rfl, (sh_int _).mono (by decide)⟩
    · rw [e]; exact ⟨e1 _ rfl, (Sh.lst hRI.sh).mono (by decide)⟩
    · rw [e]; exact ⟨e1 _ rfl, shE.mono (by decide)⟩
    · rw [e]; exact ⟨one _ (Nat.le_refl _) fun x hx => by rw [List.mem_singleton.mp hx]; exact ⟨Nat.zero_le _, fun g hg => absurd hg (by simp [itemsOf])⟩, (shT sh_none).mono (by decide)⟩
    · rw [e]; exact ⟨one _ (Nat.le_refl _) fun x hx => by rw [List.mem_singleton.mp hx]; exact ⟨Nat.zero_le _, fun g hg => absurd hg (by simp [itemsOf])⟩, (shT (Sh.lst hRI.sh)).mono (by decide)⟩
    · rw [e]; exact ⟨one _ (Nat.le_refl _) fun x hx => by rw [List.mem_singleton.mp hx]; exact ⟨Nat.zero_le _, fun g hg => absurd hg (by simp [itemsOf])⟩, (shT shE).mono (by decide)⟩
    · rw [e]; exact ⟨one _ (Nat.le_refl _) fun x hx => by rw [List.mem_singleton.mp hx]; exact ⟨Nat.le_refl _, fun g hg => by rw [List.mem_singleton.mp hg]; exact Nat.zero_le _⟩, (shT (shT shE)).mono (by decide)⟩
    · rw [e]; exact hRI.gd
end K52
end
section
set_option Elab.async false
set_option linter.all false
set_option maxRecDepth 100000
/-! What the last defs need: calls where no repr is under way, repr, lists apart from the deal. -/
namespace K52
open PySem PySem.Spec PyProof.Rows L2
section
/-- as Df, where no repr is under way -/
def Dg (P : Program) (w : World) (K : PySem.W.Frag) (mg : Str → Option Value) (base : Heap) (k : Nat) (x : Str) (ps : List Str) (sp : Sp) : Prop :=
  ∃ (f : Addr) (fd : FuncData), FnG P w K mg base CX0 k f fd ps sp ∧ mg x = some (.ref f) ∧ PySem.W.keepIn K (.ref f) = true ∧ Binds K fd ps []
variable {X : Cx} {k : Nat} {x : Str} {ps : List Str} {sp : Sp} {p pos : Pos} {e : Expr} {es : List Expr} {t : TA}
theorem pe_dg (hG : X.A.guards = some []) (G : Dg X.prog X.w X.K X.mg X.base k x ps sp) (hr : Room k X.A) (hg : Gl X x) (ha : PA X (e :: es) t) (hdb : (x == ("__debug__" : Str)) = false := by decide) (he : starEach (e :: es) X.env = (false, eval e X.env) :: starEach es X.env := by rfl) (hpl : (backTo pos (starEach es X.env)).any (·.1) = false := by rfl) :
    PE X (.Call (.Name x p) (e :: es) [] pos) (tCall sp [] E0 t) := by
  obtain ⟨f, fd, F, hm, hk, hb⟩ := G
  exact pe_callG hG F hr hg hm hk hb pass0 ha hdb he hpl
end
section
variable {P : Program} {w : World} {K : PySem.W.Frag} {mg : Str → Option Value} {base : Heap} {x : Str} {st : Stmt}
theorem dg_ok {N ps : List Str} {k : Nat} {sp : Sp} (D : DefAt K mg x st) (S : FnScope N ps (defScope st))
    (hb : ∀ (kV doc pm : Value) (an : Option Addr) (cdv ct : Value) (us : List Value), us.length = ps.length → bindArgs (PySem.W.fnOf x x (defArgs st) (defBody st) (defScope st) .none kV doc pm an cdv ct) ⟨us, []⟩ = pure (ps.zip us))
    (len : ∀ vs H Q E, sp vs H Q E → vs.length = ps.length)
    (hbody : ∀ (f : Addr) (cdv : Value) (A : Around) (outer : List Env) (s : Shared) (H : Hp) (vs : List V) (Q : VK) (E : XK), A.guards = some [] → Room k (A.deeper (envOfC x (defScope st) s.heap.objs.size f cdv)) → sp vs H Q E →
      ∃ t, PSs (cxOf CX0 P w K mg base N x (defScope st) f cdv A outer s H E) (defBody st) t ∧ t { nx := fun _ H' => Q .non H', rt := Q } (start N vs) H) : Dg P w K mg base (k + 1) x ps sp := by
  obtain ⟨f, fd, F, hm⟩ := D
  exact ⟨f, fd, okG F S len fun cdv A outer s H vs Q E hG hr h => hbody f cdv A outer s H vs Q E hG hr h, hm, F.kp, F.bindsN hb⟩
end
/-! ### repr of data -/
structure Shw (d : PyData) : Prop where
  sh : d.showable = true
  nd : d.hasDict = false
  dp : d.depth ≤ 20
  le : d.shown.length ≤ sizeLine
structure Shb (n b : Nat) (d : PyData) : Prop where
  sh : d.showable = true
  nd : d.hasDict = false
  dp : d.depth ≤ n
  le : d.leavesShort 13 = true
  bk : d.bulk ≤ b
theorem Shb.mono {n b n' b' : Nat} {d : PyData} (h : Shb n b d) (h1 : n ≤ n') (h2 : b ≤ b') : Shb n' b' d := ⟨h.sh, h.nd, Nat.le_trans h.dp h1, h.le, Nat.le_trans h.bk h2⟩
theorem Shb.shw {n b : Nat} {d : PyData} (h : Shb n b d) (h1 : n ≤ 20) (h2 : b ≤ 2 ^ 20) : Shw d := ⟨h.sh, h.nd, Nat.le_trans h.dp h1, PyData.shown_fits_bulk (B := 13) (by decide) (by decide) h.le (Nat.le_trans h.bk h2)⟩
theorem shb_int {i : Int} (h : -1000000 ≤ i ∧ i ≤ 1000000) : Shb 0 0 (.int i) := ⟨by
  simp only [PyData.showable, decide_eq_true_eq]
  by_cases h0 : i.natAbs = 0
  · rw [h0]; decide
  · have this : i.natAbs < 2 ^ 20 := by
      have e : (2 : Nat) ^ 20 = 1048576 := by decide
      omega
    exact Nat.lt_of_lt_of_le ((Nat.log2_lt h0).mpr this) (by decide), by simp [PyData.hasDict], by simp [PyData.depth], by
  simp only [PyData.leavesShort, decide_eq_true_eq]
  exact PyData.shown_int_le2 (by omega) (by omega), by simp [PyData.bulk]⟩
theorem shb_bool (b : Bool) : Shb 0 0 (.bool b) := ⟨by simp [PyData.showable], by simp [PyData.hasDict], by simp [PyData.depth], by simp [PyData.leavesShort], by simp [PyData.bulk]⟩
theorem shb_none : Shb 0 0 .none := ⟨by simp [PyData.showable], by simp [PyData.hasDict], by simp [PyData.depth], by simp [PyData.leavesShort], by simp [PyData.bulk]⟩
theorem shb_all {n b : Nat} : ∀ xs : List PyData, (∀ x ∈ xs, Shb n b x) → PyData.showableAll xs = true ∧ PyData.hasDictAll xs = false ∧ PyData.depthAll xs ≤ n ∧ PyData.leavesShortAll 13 xs = true ∧ PyData.bulkAll xs ≤ (b + 1) * xs.length
  | [], _ => ⟨by simp [PyData.showableAll], by simp [PyData.hasDictAll], by simp [PyData.depthAll], by simp [PyData.leavesShortAll], by simp [PyData.bulkAll]⟩
  | x :: xs, h => by
    obtain ⟨h1, h2, h3, h4, h5⟩ := shb_all xs fun y hy => h y (List.mem_cons_of_mem _ hy)
    obtain ⟨a1, a2, a3, a4, a5⟩ := h x (List.mem_cons_self ..)
    refine ⟨by simp [PyData.showableAll, h1, a1], by simp [PyData.hasDictAll, h2, a2], by simp only [PyData.depthAll]; omega, by simp [PyData.leavesShortAll, h4, a4], ?_⟩
    simp only [PyData.bulkAll, List.length_cons]
    rw [Nat.mul_add]
    omega
theorem shb_tup {n b : Nat} {xs : List PyData} (h : ∀ x ∈ xs, Shb n b x) : Shb (n + 1) ((b + 1) * xs.length) (.tuple xs) := by
  obtain ⟨h1, h2, h3, h4, h5⟩ := shb_all xs h
  exact ⟨by simp [PyData.showable, h1], by simp [PyData.hasDict, h2], by simp only [PyData.depth]; omega, by simp [PyData.leavesShort, h4], by simpa [PyData.bulk] using h5⟩
theorem shb_lot {l : List Int} (h : ∀ x ∈ l, -1000000 ≤ x ∧ x ≤ 1000000) : Shb 1 l.length (lotD l) := by
  refine (shb_tup (n := 0) (b := 0) (xs := l.map .int) fun d hd => ?_).mono (Nat.le_refl _) (by rw [List.length_map]; omega)
  obtain ⟨x, hx, rfl⟩ := List.mem_map.mp hd
  exact shb_int (h x hx)
theorem shw_deal {cal : Cal} {js : Jobs} (h1 : ∀ x ∈ cal, 0 ≤ x ∧ x ≤ 1000) (h2 : ∀ j ∈ js, 0 < j.1 ∧ j.1 ≤ 1000) (h3 : ∀ j ∈ js, InR cal.length j.2 ∧ j.2.length ≤ 20) (hc : cal.length ≤ 20) (hj : js.length ≤ 20) : Shw (.tuple [lotD cal, jobsD js]) := by
  have e1 : Shb 4 1000 (lotD cal) := (shb_lot fun x hx => by have := h1 x hx; omega).mono (by decide) (by omega)
  have e2 : ∀ j ∈ js, Shb 2 42 (jobD j) := fun j hj => (shb_tup (n := 1) (b := 20) fun d hd => by
    simp only [List.mem_cons, List.not_mem_nil, or_false] at hd
    rcases hd with e | e
    · rw [e]; exact (shb_int (by have := h2 j hj; omega)).mono (by decide) (by decide)
    · rw [e]; exact (shb_lot fun x hx => by have := (h3 j hj).1 x hx; omega).mono (Nat.le_refl _) (h3 j hj).2).mono (by decide) (by show (20 + 1) * 2 ≤ 42; decide)
  have e3 : Shb 4 1000 (jobsD js) := (shb_tup (n := 2) (b := 42) (xs := js.map jobD) fun d hd => by
    obtain ⟨j, hj, rfl⟩ := List.mem_map.mp hd
    exact e2 j hj).mono (by decide) (by rw [List.length_map]; omega)
  exact (shb_tup (n := 4) (b := 1000) fun d hd => by
    simp only [List.mem_cons, List.not_mem_nil, or_false] at hd
    rcases hd with e | e
    · rw [e]; exact e1
    · rw [e]; exact e3).shw (by decide) (by show (1000 + 1) * 2 ≤ 2 ^ 20; decide)
theorem shw_bool (b : Bool) : Shw (.bool b) := (shb_bool b).shw (by decide) (by decide)
theorem shw_optN {o : Option Nat} (h : ∀ d, o = some d → d ≤ 1000) : Shw (optN o) := by
  cases o with
  | none => exact shb_none.shw (by decide) (by decide)
  | some d => exact (shb_int (i := (d : Int)) (by have := h d rfl; omega)).shw (by decide) (by decide)
section
variable {K : PySem.W.Frag} {σ : L2.St} {H H' : Hp} {te te2 ta tb : TE} {d : PyData} {tt : TT} {D : Ends} {tz : L2.TS}
theorem cd_repr (h : Shw d) : CD (rRepr K) [d] (.str d.shown) := fun H vs rs Q q => by
  obtain ⟨v, rfl, r⟩ := rs.c1
  exact ⟨v, d, rfl, r.dp, h.sh, h.nd, h.dp, h.le, q _ H (Same.refl _) (.str _)⟩
theorem ed_repr (h : ED te σ H d) (hs : Shw d) : ED (tCB (rRepr K) (tCons te tNil)) σ H (.str d.shown) := ed_cb (ea_cons h ea_nil) (cd_repr hs)
theorem rd_neS {a b : Str} : RD rNe (.str a) (.str b) (.bool (!decide (a = b))) := fun H x y rx ry Q q => by
  cases rx; cases ry
  refine ⟨rfl, ?_⟩
  have e : decide (V.str a = V.str b) = decide (a = b) := by rw [Bool.eq_iff_iff]; simp
  rw [e]
  exact q _ H (Same.refl _) (.bl _)
theorem rd_eqS {a b : Str} : RD rEq (.str a) (.str b) (.bool (decide (a = b))) := fun H x y rx ry Q q => by
  cases rx; cases ry
  refine ⟨rfl, ?_⟩
  have e : decide (V.str a = V.str b) = decide (a = b) := by rw [Bool.eq_iff_iff]; simp
  rw [e]
  exact q _ H (Same.refl _) (.bl _)
theorem rd_neB {a b : Bool} : RD rNe (.bool a) (.bool b) (.bool (!decide (a = b))) := fun H x y rx ry Q q => by
  cases rx; cases ry
  refine ⟨rfl, ?_⟩
  have e : decide (V.bl a = V.bl b) = decide (a = b) := by rw [Bool.eq_iff_iff]; simp
  rw [e]
  exact q _ H (Same.refl _) (.bl _)
theorem ed_neRepr (h1 : ED ta σ H d) (h2 : ED tb σ H d) (hs : Shw d) : ED (tOp rNe (tCB (rRepr K) (tCons ta tNil)) (tCB (rRepr K) (tCons tb tNil))) σ H (.bool false) := ed_is (ed_op (ed_repr h1 hs) (ed_repr h2 hs) rd_neS) (by rw [decide_eq_true rfl]; rfl)
theorem ed_eqRepr (h1 : ED ta σ H d) (h2 : ED tb σ H d) (hs : Shw d) : ED (tOp rEq (tCB (rRepr K) (tCons ta tNil)) (tCB (rRepr K) (tCons tb tNil))) σ H (.bool true) := ed_is (ed_op (ed_repr h1 hs) (ed_repr h2 hs) rd_eqS) (by rw [decide_eq_true rfl])
theorem rd_eqNil0 {ds : List PyData} (h : ∀ d ∈ ds, Sh 20 d) : RD (rEqD K) (.list ds) (.list []) (.bool ds.isEmpty) := by
  rw [← eqv_nil]
  exact rd_eqD (Sh.lst h).shaped (Sh.lst (n := 1) fun d hd => absurd hd (by simp)).shaped
/-- if t: x = e -/
theorem q_whenA {i : Nat} {b : Bool} {u : V} (hs : σ[i]? = some (some u)) (h : EB tt σ H b) (h1 : b = true → ∀ H1, Same H H1 → ED te σ H1 d) (h2 : b = false → Rep H u d) (k : ∀ v H1, Same H H1 → Rep H1 v d → tz D (σ.set i (some v)) H1) : tSeq (tIfS tt (tAsg te (gName i)) tNext) tz D σ H := by
  refine q_when h (fun e H1 s1 => s_asg (h1 e H1 s1) fun v H2 s2 r => k v H2 (s1.trans s2) r) fun e H1 s1 => ?_
  have e2 : σ.set i (some u) = σ := by
    apply List.ext_getElem?
    intro j
    rw [List.getElem?_set]
    by_cases c : i = j
    · subst c
      obtain ⟨hl, _⟩ := List.getElem?_eq_some_iff.mp hs
      rw [if_pos rfl, if_pos hl, hs]
    · rw [if_neg c]
  have := k u H1 s1 ((h2 e).mono s1)
  rw [e2] at this
  exact this
theorem s_whenA {i : Nat} {b : Bool} {u : V} (hs : σ[i]? = some (some u)) (h : EB tt σ H b) (h1 : b = true → ∀ H1, Same H H1 → ED te σ H1 d) (h2 : b = false → Rep H u d) (k : ∀ v H1, Same H H1 → Rep H1 v d → D.nx (σ.set i (some v)) H1) : tIfS tt (tAsg te (gName i)) tNext D σ H := q_whenA (tz := fun D σ H => D.nx σ H) (D := D) hs h h1 h2 k
theorem q_par3 {i j l : Nat} {ta : TA} {d1 d2 d3 : PyData} (h : EA ta σ H [d1, d2, d3]) (k : ∀ u v w H1, Same H H1 → Rep H1 u d1 → Rep H1 v d2 → Rep H1 w d3 → tz D (((σ.set i (some u)).set j (some v)).set l (some w)) H1) : tSeq (tPar3 i j l ta) tz D σ H := h H (Same.refl _) _ fun vs H1 s rs => by
  obtain ⟨u, v, w, rfl, r1, r2, r3⟩ := rs.c3
  exact ⟨u, v, w, rfl, k u v w H1 s r1 r2 r3⟩
/-- a list apart from the deal's -/
structure LAt (D C : Addr) (H : Hp) (p : Addr) (ds : List PyData) : Prop where
  nD : p ≠ D
  nC : p ≠ C
  ex : ∃ xs, H p = some (.lst xs) ∧ Reps H xs ds
theorem LAt.rep {D C p : Addr} {ds : List PyData} (h : LAt D C H p ds) : Rep H (.ref p) (.list ds) := by
  obtain ⟨xs, h1, h2⟩ := h.ex
  exact .lst h1 h2
theorem LAt.db {D C p : Addr} {ds : List PyData} (h : LAt D C H p ds) (hn : noLs ds = true) (hd : Deal H D C) (b : DB D C H H') : LAt D C H' p ds := by
  obtain ⟨xs, h1, h2⟩ := h.ex
  exact ⟨h.nD, h.nC, xs, b.at h.nD h.nC h1, h2.ts (hd.ts b) hn⟩
theorem LAt.same {D C p : Addr} {ds : List PyData} (h : LAt D C H p ds) (s : Same H H') : LAt D C H' p ds := by
  obtain ⟨xs, h1, h2⟩ := h.ex
  exact ⟨h.nD, h.nC, xs, s _ _ h1, h2.mono s⟩
theorem t_cal {i : Nat} {D C : Addr} {n : Int} {Q : VK} {E : XK} (hs : σ[i]? = some (some (.ref D))) (hd : Deal H D C) (hn : 0 ≤ n ∧ n ≤ 100) (q : ∀ (cal : List Int) (v : V) (H' : Hp), DB D C H H' → Deal H' D C → Rep H' v (lotD cal) → (∀ x ∈ cal, 0 ≤ x ∧ x ≤ 1000) → (cal.length : Int) ≤ n → Q v H') :
    tCall spCal [] E (tCons (tVar i) (tCons (tC (.int n)) tNil)) σ H Q := ⟨_, hs, D, C, n, rfl, hd, hn.1, hn.2, q⟩
theorem t_jobs {i j : Nat} {D C : Addr} {c : V} {cal : List Int} {tr : TE} {n : Int} {Q : VK} {E : XK} (hs : σ[i]? = some (some (.ref D))) (hc : σ[j]? = some (some c)) (hd : Deal H D C) (rc : Rep H c (lotD cal)) (hl : cal.length ≤ 100) (h : ED tr σ H (.int n)) (hn : 0 ≤ n ∧ n ≤ 100)
    (q : ∀ (js : Jobs) (v : V) (H' : Hp), DB D C H H' → Deal H' D C → Rep H' v (jobsD js) → JobsOk cal.length js → (js.length : Int) ≤ n → Q v H') :
    tCall spJobs [] E (tCons (tVar i) (tCons (tVar j) (tCons tr tNil))) σ H Q := ⟨_, hs, _, hc, h H (Same.refl _) _ fun v H1 s1 rs => by
  cases rs
  exact ⟨D, C, c, cal, n, rfl, hd.same s1, rc.mono s1, hl, hn.1, hn.2, fun js v H' db hd' r a b => q js v H' ((DB.of s1).trans db) hd' r a b⟩⟩
theorem t_spoilt {i j : Nat} {D C : Addr} {c : V} {F : List (List Lot)} {tr : TE} {n : Nat} {Q : VK} {E : XK} (hs : σ[i]? = some (some (.ref D))) (hc : σ[j]? = some (some c)) (hd : Deal H D C) (rc : Rep H c (frontsD F)) (h : ED tr σ H (.int (n : Int))) (h1 : F ≠ []) (h2 : FrontsOk n F) (h3 : F.length ≤ 9) (h4 : n ≤ 5)
    (q : ∀ (u : V) (d : PyData) (H' : Hp), DB D C H H' → Deal H' D C → Rep H' u d → Gd 3 d → Q u H') :
    tCall spSpoilt [] E (tCons (tVar i) (tCons (tVar j) (tCons tr tNil))) σ H Q := ⟨_, hs, _, hc, h H (Same.refl _) _ fun v H1 s1 rs => by
  cases rs
  exact ⟨D, C, c, F, n, rfl, hd.same s1, rc.mono s1, h1, h2, h3, h4, fun u d H' db hd' r a => q u d H' ((DB.of s1).trans db) hd' r a⟩⟩
end
/-! ### what the small law counts -/
section
variable {cal : Cal} {js : Jobs}
def tabsI (cal : Cal) (js : Jobs) : List (List Int) := (tables cal js).map fun s => s.map fun o => o.getD 0
theorem tabs_eq : (tables cal js).map partD = (tabsI cal js).map lotD := by
  unfold tabsI
  rw [List.map_map]
  refine List.map_congr_left fun s hs => ?_
  have hn : none ∉ s := by
    have := (List.mem_filter.mp hs).2
    simpa using this
  show PyData.tuple _ = PyData.tuple _
  rw [List.map_map]
  congr 1
  refine List.map_congr_left fun o ho => ?_
  cases o with
  | none => exact absurd ho hn
  | some x => rfl
theorem tabs_len (ok : Ok cal js) {l : List Int} (h : l ∈ tabsI cal js) : l.length = js.length := by
  obtain ⟨s, hs, rfl⟩ := List.mem_map.mp h
  rw [List.length_map]
  exact ((mem_sharedK ok _ _).mp (List.mem_filter.mp hs).1).len
def withinI (cal : Cal) (js : Jobs) (d : Int) : List (List Int) := (tabsI cal js).filter fun l => (l.filter fun x => decide (d ≤ x)).isEmpty
theorem withinI_eq (d : Int) : (withinI cal js d).isEmpty = (within cal js d).isEmpty := by
  unfold withinI tabsI
  rw [List.filter_map]
  have e : within cal js d = (tables cal js).filter ((fun l : List Int => (l.filter fun x => decide (d ≤ x)).isEmpty) ∘ fun s : List (Option Int) => s.map fun o => o.getD 0) := by
    unfold within
    refine List.filter_congr fun s _ => ?_
    show _ = ((s.map fun o => o.getD 0).filter fun x => decide (d ≤ x)).isEmpty
    rw [Bool.eq_iff_iff, List.isEmpty_iff, List.filter_eq_nil_iff, List.all_eq_true]
    simp only [List.mem_map, decide_eq_true_eq]
    constructor
    · rintro h x ⟨o, ho, rfl⟩ hx
      have := h o ho
      omega
    · intro h o ho
      have := h _ ⟨o, ho, rfl⟩
      omega
  rw [e]
  generalize (tables cal js).filter _ = L
  cases L <;> rfl
def doneB (cal : Cal) (js : Jobs) (d : Nat) : Bool := (doneAt cal js d).contains (rg js.length)
theorem doneB_iff (ok : Ok cal js) {d : Nat} : doneB cal js d = true ↔ Doable cal js d (rg js.length) := done_iff ok d
theorem withinI_done (ok : Ok cal js) (d : Nat) : (withinI cal js (d : Int)).isEmpty = !doneB cal js d := by
  rw [withinI_eq]
  have h1 := within_doable ok (d := d)
  have h2 := doneB_iff ok (d := d)
  cases hb : doneB cal js d with
  | true =>
    have := h1.mpr (h2.mp hb)
    cases hw : within cal js (d : Int) with
    | nil => exact absurd hw this
    | cons a l => rfl
  | false =>
    have : ¬ within cal js (d : Int) ≠ [] := fun h => by
      have := h2.mpr (h1.mp h)
      rw [hb] at this; cases this
    have e : within cal js (d : Int) = [] := Classical.byContradiction this
    rw [e]; rfl
def fewUp (cal : Cal) (js : Jobs) (i : Nat) : Option Nat := (List.range i).find? (doneB cal js)
theorem fewUp_succ (i : Nat) : fewUp cal js (i + 1) = match fewUp cal js i with
    | none => if doneB cal js i = true then some i else none
    | some d => some d := by
  unfold fewUp
  rw [List.range_succ, List.find?_append]
  cases (List.range i).find? (doneB cal js) with
  | none =>
    show ([i].find? (doneB cal js)) = _
    cases h : doneB cal js i with
    | true => simp [List.find?_cons, h]
    | false => simp [List.find?_cons, h]
  | some d => rfl
theorem fewUp_all : fewUp cal js (cal.length + 1) = fewest cal js := rfl
theorem fewest_le {d : Nat} (h : fewest cal js = some d) : d ≤ cal.length := by
  have := List.mem_of_find?_eq_some h
  rw [List.mem_range] at this
  omega
theorem tabled_done (ok : Ok cal js) (d : Nat) : tabledD (timetable cal js d) = if doneB cal js d = true then .bool true else .none := by
  by_cases h : Doable cal js d (rg js.length)
  · rw [timetable_some ok h, if_pos ((doneB_iff ok).mpr h)]; rfl
  · rw [timetable_none ok h, if_neg fun z => h ((doneB_iff ok).mp z)]; rfl
theorem delay_done (ok : Ok cal js) {d : Nat} (hd : d ≤ cal.length) : isDelay cal js d (frontsD (frontsOf cal js d)) = !doneB cal js d := by
  rw [isDelay_fronts (frontsOf_ok ok d)]
  have h1 := delay_fronts ok hd
  have h2 := doneB_iff ok (d := d)
  cases hb : doneB cal js d with
  | true =>
    cases hq : delayT cal js d (frontsOf cal js d) with
    | true => exact absurd (h2.mp hb) (h1.mp hq)
    | false => rfl
  | false =>
    rw [h1.mpr fun z => by rw [h2.mpr z] at hb; cases hb]
    rfl
theorem delay_sound (ok : Ok cal js) {n : Nat} {d : PyData} (h : isDelay cal js (n : Int) d = true) : doneB cal js n = false := by
  have h2 := doneB_iff ok (d := n)
  have ha : areFronts cal js d = true := by
    unfold isDelay at h
    rw [Bool.and_eq_true, Bool.and_eq_true] at h
    exact h.1.1
  obtain ⟨h1, hF, hne, hl, hL⟩ := areFronts_in ha
  have hll : (itemsOf d).length = (frontsIn d).length := by unfold frontsIn; rw [List.length_map]
  unfold isDelay at h
  rw [ha, hll] at h
  simp only [Bool.true_and, Bool.and_eq_true, decide_eq_true_eq, Bool.not_eq_true'] at h
  cases hb : doneB cal js n with
  | false => rfl
  | true =>
    refine absurd (h2.mp hb) (due_sound ok hF hL (by omega) fun z => ?_)
    have := h.2
    rw [List.contains_iff_mem.mpr z] at this
    cases this
end
end K52
end
section
set_option Elab.async false
set_option linter.all false
set_option maxRecDepth 100000
set_option maxHeartbeats 0
/-! _law_small. -/
namespace K52
open PySem PySem.Spec PyProof.Rows L2
variable {P : Program} {w : World} {K : PySem.W.Frag} {mg : Str → Option Value} {base : Heap}
def spSmall : Sp := fun vs H Q _ => ∃ (D C : Addr), vs = [.ref D] ∧ Deal H D C ∧ ∀ H', Q (.bl true) H'
theorem scSmall : FnScope ["_law_deal", "_law_calendar_here", "_law_jobs_here", "_law_held", "_law_shared_here", "_law_fewest", "_law_tables", "_law_some", "_law_days", "_law_within", "_law_table", "_law_day", "_law_told", "_law_paper", "_law_turn", "_law_value", "_law_due"] ["_law_deal"] (defScope sLawSmall) := ⟨rfl, rfl, rfl, by decide +kernel, rfl, by decide +kernel, by decide +kernel⟩
def optV : Option Nat → V
  | none => .non
  | some d => .int (d : Int)
theorem rep_optV (H : Hp) (o : Option Nat) : Rep H (optV o) (optN o) := by
  cases o with
  | none => exact .non
  | some d => exact .int _
theorem optV_of {H : Hp} {v : V} {o : Option Nat} (r : Rep H v (optN o)) : v = optV o := by
  cases o with
  | none => cases r; rfl
  | some d => cases r; rfl
theorem told_isF {t : Bool} : RD (fun x y H Q => cst x = true ∧ cst y = true ∧ Q (.bl (decide (x = y))) H) (if t = true then .bool true else .none) (.bool false) (.bool false) := by
  cases t with
  | true => exact rd_isBB
  | false => exact rd_isNB
theorem df_small (F : Bl mg) (D : DefAt K mg "_law_small" sLawSmall) (G__law_calendar : Df P w K mg base 3 "_law_calendar" ["_law_deal", "_law_most"] spCal) (G__law_jobs : Df P w K mg base 3 "_law_jobs" ["_law_deal", "_law_calendar_here", "_law_most"] spJobs)
    (G__law_shared : Df P w K mg base 1 "_law_shared" ["_law_calendar_here", "_law_jobs_here"] spLawShared) (G__law_tabled : Df P w K mg base 5 "_law_tabled" ["_law_calendar_here", "_law_jobs_here", "_law_days"] spLawTabled) (G_fronts : Df P w K mg base 4 "fronts" ["calendar", "jobs", "days"] spFronts)
    (G_is_delay_paper : Df P w K mg base 7 "is_delay_paper" ["calendar", "jobs", "days", "value"] spIsDelay) (G__law_spoilt : Df P w K mg base 3 "_law_spoilt" ["_law_deal", "_law_value", "_law_many"] spSpoilt) (G__law_are_fronts : Df P w K mg base 2 "_law_are_fronts" ["_law_calendar_here", "_law_jobs_here", "_law_value"] spLawAreFronts)
    (G_fewest_days : Df P w K mg base 3 "fewest_days" ["calendar", "jobs"] spFewest) : Dg P w K mg base 8 "_law_small" ["_law_deal"] spSmall := by
  have nd := scSmall.nd
  refine dg_ok D scSmall (fun _ _ _ _ _ _ us hl => match us, hl with | [_], _ => rfl) (fun vs H Q E h => by obtain ⟨D, C, rfl, _⟩ := h; rfl) fun f cdv A outer s H vs Q E hG0 hr hsp =>
    have hG : (A.deeper (envOfC "_law_small" (defScope sLawSmall) s.heap.objs.size f cdv)).guards = some [] := hG0
    have hu : (A.deeper (envOfC "_law_small" (defScope sLawSmall) s.heap.objs.size f cdv)).units + 64 < cLine := hr.units
    have hu5 : (A.deeper (envOfC "_law_small" (defScope sLawSmall) s.heap.objs.size f cdv)).units + 65 < cLine := by have := hr.un; omega
    have hr__law_calendar := hr.mono (j := 3) (by decide)
    have hr__law_jobs := hr.mono (j := 3) (by decide)
    have hr__law_shared := hr.mono (j := 1) (by decide)
    have hr__law_tabled := hr.mono (j := 5) (by decide)
    have hr_fronts := hr.mono (j := 4) (by decide)
    have hr_is_delay_paper := hr
    have hr__law_spoilt := hr.mono (j := 3) (by decide)
    have hr__law_are_fronts := hr.mono (j := 2) (by decide)
    have hr_fewest_days := hr.mono (j := 3) (by decide)
    ⟨_, PSs.nox (pss_cons (ps_set (i := 1) nd rfl (Or.inl rfl) (pe_df G__law_calendar hr__law_calendar (by rfl) (pa_cons (pv 0) (pa_cons pe_int pa_nil))))
  (pss_cons (ps_set (i := 2) nd rfl (Or.inl rfl) (pe_df G__law_jobs hr__law_jobs (by rfl) (pa_cons (pv 0) (pa_cons (pv 1) (pa_cons (pe_ifExp (pt_cmpR op_lt (pe_callB (clLen K) (by rfl) F.len boot_len (pa_cons (pv 1) pa_nil)) pe_int (nomark _)) pe_int pe_int) pa_nil)))))
  (pss_cons (ps_par3 (i := 3) (j := 4) (l := 5) rfl nd rfl rfl rfl (by decide) (by decide) (by decide) rfl rfl rfl (pa_cons (pe_callB (clRepr K hG hu) (by rfl) F.repr boot_repr (pa_cons (pe_tup (pa_cons (pv 1) (pa_cons (pv 2) pa_nil))) pa_nil)) (pa_cons (pe_df G__law_shared hr__law_shared (by rfl) (pa_cons (pv 1) (pa_cons (pv 2) pa_nil))) (pa_cons pe_non pa_nil))) rfl)
  (pss_cons (ps_setLc (i := 6) (own := [("_law_some", 7)]) (g := gName 7)  rfl nd rfl rfl (sw_true rfl rfl rfl (by decide +kernel)) (piL K (pv 4)) (blkOk_by (by kernel_rfl)) (fun _ _ _ _ _ => (pg_name (i := 7) nd rfl (by first | exact Or.inl rfl | exact Or.inr rfl))) (fun _ _ _ _ _ => (pts_one (pt_cmpR (opNi K hu5) pe_non (pv 7) rfl))) (fun _ _ _ _ _ => (pv 7)))
  (pss_cons (ps_for PassesOwn.never rfl (pi_range1 (by rfl) F.range (pa_cons (pe_op op_add (pe_callB (clLen K) (by rfl) F.len boot_len (pa_cons (pv 1) pa_nil)) pe_int) pa_nil)) (pg_name (i := 8) nd rfl (by first | exact Or.inl rfl | exact Or.inr rfl)) (pss_cons (ps_setLc (i := 9) (own := [("_law_table", 10)]) (g := gName 10)  rfl nd rfl rfl (sw_true rfl rfl rfl (by decide +kernel)) (piL K (pv 6)) (blkOk_by (by kernel_rfl)) (fun _ _ _ _ _ => (pg_name (i := 10) nd rfl (by first | exact Or.inl rfl | exact Or.inr rfl))) (fun _ _ _ _ _ => (pts_one (pt_cmpR (opEq K hu) (pe_lc (own := [("_law_day", 11)]) (g := gName 11)  rfl nd (piT K (pv 10)) (blkOk_by (by kernel_rfl)) (fun _ _ _ _ _ => (pg_name (i := 11) nd rfl (by first | exact Or.inl rfl | exact Or.inr rfl))) (fun _ _ _ _ _ => (pts_one (pt_cmpR op_ge (pv 11) (pv 8) (nomark _)))) (fun _ _ _ _ _ => (pv 11))) (pe_lst pa_nil) (nomark _)))) (fun _ _ _ _ _ => (pv 10)))
  (pss_cons (ps_if (PW.pt (pw_and (pt_cmpR op_isN (pv 5) pe_non (nomark _)) (pw_and1 (pt_cmpR (opNe K hu) (pv 9) (pe_lst pa_nil) (nomark _))))) (pss_one (ps_set (i := 5) nd rfl (Or.inl rfl) (pv 8))) pss_nil)
  (pss_cons (ps_set (i := 12) nd rfl (Or.inl rfl) (pe_df G__law_tabled hr__law_tabled (by rfl) (pa_cons (pv 1) (pa_cons (pv 2) (pa_cons (pv 8) pa_nil)))))
  (pss_cons (ps_set (i := 13) nd rfl (Or.inl rfl) (pe_df G_fronts hr_fronts (by rfl) (pa_cons (pv 1) (pa_cons (pv 2) (pa_cons (pv 8) pa_nil)))))
  (pss_cons (ps_if (PW.pt (pw_or (pt_cmpR op_isC (pv 12) pe_bl (nomark _)) (pw_or1 (pt_cmpR op_ne (pe_cmpR op_isN (pv 12) pe_non (nomark _)) (pe_cmpR (opEq K hu) (pv 9) (pe_lst pa_nil) (nomark _)) (nomark _))))) (pss_one (ps_ret pe_bl)) pss_nil)
  (pss_cons (ps_if (pt_cmpR op_ne (pe_callB (clRepr K hG hu) (by rfl) F.repr boot_repr (pa_cons (pe_dfK G_is_delay_paper hr_is_delay_paper (by rfl) (pk_cons (pv 1) (pk_cons (pv 2) (pk_cons (pv 8) (pk_cons (pv 13) pk_nil))))) pa_nil)) (pe_callB (clRepr K hG hu) (by rfl) F.repr boot_repr (pa_cons (pe_cmpR (opEq K hu) (pv 9) (pe_lst pa_nil) (nomark _)) pa_nil)) (nomark _)) (pss_one (ps_ret pe_bl)) pss_nil)
  (pss_one (ps_for PassesOwn.never rfl (pi_range1 (by rfl) F.range (pa_cons pe_int pa_nil)) (pg_name (i := 14) nd rfl (by first | exact Or.inl rfl | exact Or.inr rfl)) (pss_cons (ps_set (i := 15) nd rfl (Or.inl rfl) (pe_df G__law_spoilt hr__law_spoilt (by rfl) (pa_cons (pv 0) (pa_cons (pv 13) (pa_cons (pe_callB (clLen K) (by rfl) F.len boot_len (pa_cons (pv 2) pa_nil)) pa_nil)))))
  (pss_cons (ps_set (i := 16) nd rfl (Or.inl rfl) (pe_and (pe_df G__law_are_fronts hr__law_are_fronts (by rfl) (pa_cons (pv 1) (pa_cons (pv 2) (pa_cons (pv 15) pa_nil)))) (pe_and (pe_cmpR (opEq K hu) (pe_callB (clLen K) (by rfl) F.len boot_len (pa_cons (pv 15) pa_nil)) (pe_op op_add (pv 8) pe_int) (nomark _)) (pe_one (pe_cmpR (opNi K hu5) (pe_tupRg rfl (by rfl) F.tuple (prg_1 (by rfl) F.range (pe_callB (clLen K) (by rfl) F.len boot_len (pa_cons (pv 2) pa_nil)))) (pe_ix (ixT K) (pv 15) (pe_un un_neg pe_int) (fun _ _ => rfl)) rfl)))))
  (pss_one (ps_if (PW.pt (pw_or (pt_cmpR op_ne (pe_callB (clRepr K hG hu) (by rfl) F.repr boot_repr (pa_cons (pe_df G_is_delay_paper hr_is_delay_paper (by rfl) (pa_cons (pv 1) (pa_cons (pv 2) (pa_cons (pv 8) (pa_cons (pv 15) pa_nil))))) pa_nil)) (pe_callB (clRepr K hG hu) (by rfl) F.repr boot_repr (pa_cons (pv 16) pa_nil)) (nomark _)) (pw_or1 (PW.pt (pw_and (pt_val (pv 16)) (pw_and1 (pt_cmpR (opNe K hu) (pv 9) (pe_lst pa_nil) (nomark _)))))))) (pss_one (ps_ret pe_bl)) pss_nil)))))))))))))
  (pss_one (ps_ret (pe_and (pe_cmpR op_eq (pe_callB (clRepr K hG hu) (by rfl) F.repr boot_repr (pa_cons (pe_dfK G_fewest_days hr_fewest_days (by rfl) (pk_cons (pv 1) (pk_cons (pv 2) pk_nil))) pa_nil)) (pe_callB (clRepr K hG hu) (by rfl) F.repr boot_repr (pa_cons (pv 5) pa_nil)) (nomark _)) (pe_one (pe_cmpR op_eq (pe_callB (clRepr K hG hu) (by rfl) F.repr boot_repr (pa_cons (pe_tup (pa_cons (pv 1) (pa_cons (pv 2) pa_nil))) pa_nil)) (pv 3) (nomark _))))))))))), ?_⟩
  obtain ⟨D, C, rfl, hd0, q⟩ := hsp
  refine q_asgT (t_cal rfl hd0 (by decide) fun cal vc H1 db1 hd1 rc1 hc0 hcl => ?_)
  refine q_asgT (t_jobs (n := if decide ((cal.length : Int) < 4) = true then 5 else 4) (σ := [some (.ref D), some vc, none, none, none, none, none, none, none, none, none, none, none, none, none, none, none]) (i := 0) (j := 1) rfl rfl hd1 rc1 (by omega)
    (ed_is (ed_if (eb_test (ed_op (ed_cb (ea_cons (ed_var (σ := [some (.ref D), some vc, none, none, none, none, none, none, none, none, none, none, none, none, none, none, none]) (i := 1) rfl rc1) ea_nil) cd_lenLot) ed_int rd_lt)) (fun _ => ed_int (i := 5)) (fun _ => ed_int (i := 4))) (by cases decide ((cal.length : Int) < 4) <;> rfl)) (by cases decide ((cal.length : Int) < 4) <;> decide) fun js vj H2 db2 hd2 rj2 hjs hjl0 => ?_)
  have hjl : js.length ≤ 5 := by
    revert hjl0
    cases decide ((cal.length : Int) < 4) with
    | true => intro h; have h : (js.length : Int) ≤ 5 := h; omega
    | false => intro h; have h : (js.length : Int) ≤ 4 := h; omega
  have ok : Ok cal js := ⟨fun x hx => (hc0 x hx).1, fun j hj => (hjs.gift j hj).1, hjs.days⟩
  have hps : PrS cal js := ⟨ok, by omega, hjl⟩
  have hpr : Pr cal js := hps.pr
  have hcl' : cal.length ≤ 4 := hps.cl
  have hshw : Shw (.tuple [lotD cal, jobsD js]) := shw_deal hc0 hjs.gift (fun j hj => ⟨(hjs.days j hj).2, by have := lot_len (hjs.days j hj).1 (hjs.days j hj).2; omega⟩) (by omega) (by omega)
  have rc2 : Rep H2 vc (lotD cal) := rc1.ts (hd1.ts db2) (noL_lot _)
  clear hjl0 rc1 hc0 hcl
  have eHeld : ∀ {σ : L2.St} {H' : Hp}, σ[1]? = some (some vc) → σ[2]? = some (some vj) → Rep H' vc (lotD cal) → Rep H' vj (jobsD js) → ED (tCB (rRepr K) (tCons (tTup (tCons (tVar 1) (tCons (tVar 2) tNil))) tNil)) σ H' (.str (PyData.tuple [lotD cal, jobsD js]).shown) := fun h1 h2 r1 r2 => ed_repr (ed_tup (ea_cons (ed_var h1 r1) (ea_cons (ed_var h2 r2) ea_nil)) (by show (2 : Nat) ≤ 100000; decide)) hshw
  refine q_par3 (ea_cons (eHeld rfl rfl rc2 rj2) (ea_cons (ed_call (cal, js) (ea_cons (ed_var rfl rc2) (ea_cons (ed_var rfl rj2) ea_nil)) hps) (ea_cons ed_non ea_nil))) fun vh v4 v5 H3 s3 rh r4 r5 => ?_
  cases rh
  cases r5
  have hd3 := hd2.same s3
  have r4 : Rep H3 v4 (.list ((sharedK cal js js.length).map partD)) := r4
  have hlen5 : (sharedK cal js js.length).length ≤ 3125 := Nat.le_trans (sharedK_len hps _) (Nat.le_trans (Nat.pow_le_pow_right (by decide) hjl) (by decide))
  refine q_asgL (EL.is (el_lc (enc := partD) (fun s => !s.contains none) partD noL_part (ei_list (ed_var rfl r4)) (by omega) fun k a hk v H4 s4 r => ⟨_, bd_name, rfl, eb_test (ed_op ed_non (ed_var rfl r) rd_niO), fun _ => ed_var rfl r⟩) tabs_eq) fun p6 xs6 H4 hp0 s4 hp6 r6 => ?_
  have hd4 := hd3.same s4
  have hT4 : LAt D C H4 p6 ((tabsI cal js).map lotD) := ⟨(hd3.neD hp0).1, (hd3.neD hp0).2, xs6, hp6, r6⟩
  have hnT : noLs ((tabsI cal js).map lotD) = true := noLs_map noL_lot _
  have hTl : (tabsI cal js).length ≤ 3125 := by
    unfold tabsI tables
    rw [List.length_map]
    exact Nat.le_trans (List.length_filter_le _ _) hlen5
  have rc4 := rc2.mono (s3.trans s4)
  have rj4 := rj2.mono (s3.trans s4)
  refine q_for (ei_rng (G := fun _ _ => True) (n := (cal.length : Int) + 1) (ea_cons (ed_op (ed_cb (ea_cons (ed_var rfl rc4) ea_nil) cd_lenLot) ed_int rd_add) ea_nil) ⟨by omega, by omega⟩)
    (fun _ i σ' H' => Deal H' D C ∧ LAt D C H' p6 ((tabsI cal js).map lotD) ∧ Rep H' vc (lotD cal) ∧ Rep H' vj (jobsD js) ∧ ∃ a7 a8 a9 a10 a11 a12 a13 a14 a15 a16, σ' = [some (.ref D), some vc, some vj, some (.str (PyData.tuple [lotD cal, jobsD js]).shown), some v4, some (optV (fewUp cal js i)), some (.ref p6), a7, a8, a9, a10, a11, a12, a13, a14, a15, a16])
    (fun H5 s5 => ⟨hd4.same s5, hT4.same s5, rc4.mono s5, rj4.mono s5, none, none, none, none, none, none, none, none, none, none, rfl⟩) (fun _ _ _ _ _ _ => True.intro) (fun _ _ i d v σ' H5 H6 hdd pv s6 rv => ?_) (fun _ σ' H5 _ pv => ?_)
  · obtain ⟨hd5, hT5, rc5, rj5, a7, a8, a9, a10, a11, a12, a13, a14, a15, a16, rfl⟩ := pv
    rw [List.getElem?_map] at hdd
    obtain ⟨k, hk, rfl⟩ := Option.map_eq_some_iff.mp hdd
    obtain ⟨rfl, hin⟩ := rg_at hk
    cases rv
    have hic : i ≤ cal.length := by omega
    have hd6 := hd5.same s6
    have hT6 := hT5.same s6
    have rc6 := rc5.mono s6
    have rj6 := rj5.mono s6
    clear hd5 hT5 rc5 rj5 hdd hk
    have hW := withinI_done ok i
    have hmemT : ∀ {k : Nat} {l : List Int}, (tabsI cal js)[k]? = some l → l.length ≤ 5 := fun h => by rw [tabs_len ok (List.mem_of_getElem? h)]; exact hjl
    show tSeq _ _ _ _ _
    -- within
    refine q_asgL (EL.is (es := (withinI cal js (i : Int)).map lotD) (el_lc (enc := lotD) (fun l => (l.filter fun x => decide ((i : Int) ≤ x)).isEmpty) lotD noL_lot (ei_list (ed_var rfl hT6.rep)) (by omega) fun k l hk v H7 s7 r => ⟨_, bd_name, rfl, eb_test (ed_is (ed_op (ed_lcI (enc := PyData.int) (fun x => decide ((i : Int) ≤ x)) (fun x => x) (ei_tupS (ed_var rfl r)) (by have := hmemT hk; omega) fun k2 x hk2 v2 H8 s8 r2 => ⟨_, bd_name, rfl, eb_test (ed_op (ed_var rfl r2) (ed_var rfl (.int (i : Int))) rd_ge), fun _ => ed_var rfl r2⟩) (ed_lst ea_nil (Nat.zero_le _)) (rd_eqNil0 (sh_intsM _))) (by rw [List.map_id']; cases l.filter (fun x => decide ((i : Int) ≤ x)) <;> rfl)), fun _ => ed_var rfl r⟩) rfl) fun p9 xs9 H7 hp9 s7 hp9' r9 => ?_
    have hd7 := hd6.same s7
    have hT7 := hT6.same s7
    have rc7 := rc6.mono s7
    have rj7 := rj6.mono s7
    have hW7 : LAt D C H7 p9 ((withinI cal js (i : Int)).map lotD) := ⟨(hd6.neD hp9).1, (hd6.neD hp9).2, xs9, hp9', r9⟩
    have hnW : noLs ((withinI cal js (i : Int)).map lotD) = true := noLs_map noL_lot _
    have hshW : ∀ d ∈ (withinI cal js (i : Int)).map lotD, Sh 20 d := sh_map (fun l => (sh_lot l).mono (by decide)) _
    have hWe : ((withinI cal js (i : Int)).map lotD).isEmpty = !doneB cal js i := by
      rw [← hW]
      cases withinI cal js (i : Int) <;> rfl
    generalize (withinI cal js (i : Int)).map lotD = W at hW7 hnW hshW hWe
    clear hW hT6 rc6 rj6 hd6 hp9' r9 hp9
    -- fewest
    refine q_whenA (d := optN (fewUp cal js (i + 1))) (b := (match optN (fewUp cal js i) with | .none => true | _ => false) && !W.isEmpty) (u := optV (fewUp cal js i)) rfl
      (eb_and (eb_test (ed_op (ed_var rfl (rep_optV _ _)) ed_non rd_isN)) fun _ => eb_test (ed_op (ed_var rfl hW7.rep) (ed_lst ea_nil (Nat.zero_le _)) (rd_neNil hshW)))
      (fun e H8 s8 => ?_) (fun e => ?_) fun fv H8 s8 rf => ?_
    · rw [hWe, Bool.not_not, Bool.and_eq_true] at e
      have e1 : fewUp cal js i = none := by
        cases hz : fewUp cal js i with
        | none => rfl
        | some d => rw [hz] at e; exact absurd (show false = true from e.1) (by decide)
      rw [fewUp_succ, e1]
      show ED _ _ _ (optN (if doneB cal js i = true then some i else none))
      rw [if_pos e.2]
      exact ed_var rfl (.int (i : Int))
    · rw [hWe, Bool.not_not] at e
      rw [fewUp_succ]
      cases hz : fewUp cal js i with
      | some d => exact rep_optV _ _
      | none =>
        rw [hz] at e
        have e2 : doneB cal js i = false := by simpa [optN] using e
        show Rep H7 .non (optN (if doneB cal js i = true then some i else none))
        rw [e2]
        exact .non
    obtain rfl := optV_of rf
    clear rf
    have hdp : DaysPre (cal, js, i) := ⟨hpr, hic⟩
    -- told
    refine q_asg (ed_call (cal, js, i) (ea_cons (ed_var rfl (rc7.mono s8)) (ea_cons (ed_var rfl (rj7.mono s8)) (ea_cons (ed_var rfl (.int (i : Int))) ea_nil))) hdp) fun v12 H9 s9 rt0 => ?_
    have rt : Rep H9 v12 (if doneB cal js i = true then .bool true else .none) := by
      have z : Rep H9 v12 (tabledD (timetable cal js i)) := rt0
      rw [tabled_done ok] at z
      exact z
    clear rt0
    -- the paper
    have s79 := s8.trans s9
    refine q_asg (ed_call (cal, js, i) (ea_cons (ed_var rfl (rc7.mono s79)) (ea_cons (ed_var rfl (rj7.mono s79)) (ea_cons (ed_var rfl (.int (i : Int))) ea_nil))) hdp) fun v13 H10 s10 rp0 => ?_
    have rp : Rep H10 v13 (frontsD (frontsOf cal js i)) := rp0
    have s7A := s79.trans s10
    have hdA := hd7.same s7A
    have hTA := hT7.same s7A
    have hWA := hW7.same s7A
    have rcA := rc7.mono s7A
    have rjA := rj7.mono s7A
    have rtA := rt.mono s10
    clear rp0 s79 s7A hd7 hT7 hW7 rc7 rj7 rt s8 s9 s10 s7
    -- the timetable is told rightly
    refine q_when (b := false) (eb_is (eb_or (eb_test (ed_op (ed_var rfl rtA) ed_bl told_isF)) fun _ => eb_test (ed_op (ed_op (ed_var rfl rtA) ed_non rd_isN) (ed_op (ed_var rfl hWA.rep) (ed_lst ea_nil (Nat.zero_le _)) (rd_eqNil0 hshW)) rd_neB)) ?_) (fun e => by cases e) fun _ H11 s11 => ?_
    · rw [hWe]
      cases doneB cal js i <;> rfl
    have hF := frontsOf_ok ok i
    have hFl : (frontsOf cal js i).length = i + 1 := frontsOf_len i
    have hRI : RI ((frontsOf cal js i).map frontD) := RI.fronts hF hjl (by omega)
    have hdA := hdA.same s11
    have hTA := hTA.same s11
    have hWA := hWA.same s11
    have rcA := rcA.mono s11
    have rjA := rjA.mono s11
    have rp := rp.mono s11
    clear rtA s11
    -- the paper's answer
    refine q_when (b := false) (eb_test (ed_neRepr (d := .bool (!doneB cal js i)) (ed_is (ed_callK (n := 4) (cal, js, (i : Int), frontsD (frontsOf cal js i)) (ea_cons (ed_var rfl rcA) (ea_cons (ed_var rfl rjA) (ea_cons (ed_var rfl (.int (i : Int))) (ea_cons (ed_var rfl rp) ea_nil)))) ⟨hpr, hRI.gd.1.sm⟩ rfl) (by rw [← delay_done ok hic])) (ed_is (ed_op (ed_var rfl hWA.rep) (ed_lst ea_nil (Nat.zero_le _)) (rd_eqNil0 hshW)) (by rw [hWe])) (shw_bool _))) (fun e => by cases e) fun _ H12 s12 => ?_
    -- three papers
    have hdB := hdA.same s12
    have hTB := hTA.same s12
    have hWB := hWA.same s12
    have rcB := rcA.mono s12
    have rjB := rjA.mono s12
    have rpB := rp.mono s12
    clear hdA hTA hWA rcA rjA rp s12
    refine s_for (ei_rng (G := fun _ _ => True) (n := 3) (ea_cons ed_int ea_nil) ⟨by decide, by decide⟩)
      (fun _ t σ' H' => Deal H' D C ∧ LAt D C H' p6 ((tabsI cal js).map lotD) ∧ LAt D C H' p9 W ∧ Rep H' vc (lotD cal) ∧ Rep H' vj (jobsD js) ∧ Rep H' v13 (frontsD (frontsOf cal js i)) ∧ ∃ a14 a15 a16, σ' = [some (.ref D), some vc, some vj, some (.str (PyData.tuple [lotD cal, jobsD js]).shown), some v4, some (optV (fewUp cal js (i + 1))), some (.ref p6), a7, some (.int (i : Int)), some (.ref p9), a10, a11, some v12, some v13, a14, a15, a16])
      (fun H5 s5 => ⟨hdB.same s5, hTB.same s5, hWB.same s5, rcB.mono s5, rjB.mono s5, rpB.mono s5, a14, a15, a16, rfl⟩) (fun _ _ _ _ _ _ => True.intro) (fun _ _ t d v σ' H5 H6 hdd pv s6 rv => ?_) (fun _ σ' H5 _ pv => ?_)
    · obtain ⟨hd5, hT5, hW5, rc5, rj5, rp5, b14, b15, b16, rfl⟩ := pv
      have hd6 := hd5.same s6
      have hT6 := hT5.same s6
      have hW6 := hW5.same s6
      have rc6 := rc5.mono s6
      have rj6 := rj5.mono s6
      have rp6 := rp5.mono s6
      clear hd5 hT5 hW5 rc5 rj5 rp5 hdB hTB hWB rcB rjB rpB hdd rv
      show tSeq _ _ _ _ _
      refine q_asgT (t_spoilt (n := js.length) (σ := [some (.ref D), some vc, some vj, some (.str (PyData.tuple [lotD cal, jobsD js]).shown), some v4, some (optV (fewUp cal js (i + 1))), some (.ref p6), a7, some (.int (i : Int)), some (.ref p9), a10, a11, some v12, some v13, some v, b15, b16]) (i := 0) (j := 13) rfl rfl hd6 rp6 (ed_cb (ea_cons (ed_var rfl rj6) ea_nil) cd_lenJobs) (fun z => by rw [z] at hFl; cases hFl) hF (by omega) hjl fun u d H7 db7 hd7 ru hgd => ?_)
      have ts := hd6.ts db7
      have hT7 := hT6.db hnT hd6 db7
      have hW7 := hW6.db hnW hd6 db7
      have rc7 := rc6.ts ts (noL_lot _)
      have rj7 := rj6.ts ts (noL_jobs _)
      have rp7 := rp6.ts ts (noL_fronts _)
      clear ts hT6 hW6 rc6 rj6 rp6 hd6 db7 s6
      have eD : (isDelay cal js (i : Int) d) = (areFronts cal js d && (decide (((itemsOf d).length : Int) = (i : Int) + 1) && !(lastF (frontsIn d)).contains (rg js.length))) := by
        unfold isDelay
        rw [Bool.and_assoc]
      refine q_asg (d := .bool (isDelay cal js (i : Int) d)) (ed_is (ed_andV (b := decide (((itemsOf d).length : Int) = (i : Int) + 1) && !(lastF (frontsIn d)).contains (rg js.length)) (ed_call (cal, js, d) (ea_cons (ed_var rfl rc7) (ea_cons (ed_var rfl rj7) (ea_cons (ed_var rfl ru) ea_nil))) ⟨hpr, hgd⟩) fun ha => ?_) (by rw [eD])) fun v16 H8 s8 rdu => ?_
      · obtain ⟨h1, h2, h3, h4, h5⟩ := areFronts_in ha
        have hll : (itemsOf d).length = (frontsIn d).length := by unfold frontsIn; rw [List.length_map]
        rw [hll]
        have ru' : Rep H7 u (frontsD (frontsIn d)) := by rw [← h1]; exact ru
        refine ed_andV (ed_op (ed_cb (ea_cons (ed_var rfl ru') ea_nil) cd_lenFronts) (ed_op (ed_var rfl (.int (i : Int))) ed_int rd_add) rd_eqI) fun _ => ?_
        refine ed_op (ed_is (ed_tupRg (n := (js.length : Int)) (ed_cb (ea_cons (ed_var rfl rj7) ea_nil) cd_lenJobs) ⟨by omega, by omega⟩) (by rw [Int.toNat_natCast])) (ed_op (ed_var rfl ru') ed_neg1 (rd_ixT (atI_neg1 (f := frontD) (dflt := []) h3))) rd_niL
      refine s_when (b := false) (eb_is (eb_or (eb_test (ed_neRepr (d := .bool (isDelay cal js (i : Int) d)) (ed_call (cal, js, (i : Int), d) (ea_cons (ed_var rfl (rc7.mono s8)) (ea_cons (ed_var rfl (rj7.mono s8)) (ea_cons (ed_var rfl (.int (i : Int))) (ea_cons (ed_var rfl (ru.mono s8)) ea_nil)))) ⟨hpr, hgd.1.sm⟩) (ed_var rfl rdu) (shw_bool _))) fun _ => eb_and (eb_test (ed_var rfl rdu)) fun _ => eb_test (ed_op (ed_var rfl (hW7.same s8).rep) (ed_lst ea_nil (Nat.zero_le _)) (rd_neNil hshW))) ?_) (fun e => by cases e) fun _ H9 s9 => ?_
      · rw [hWe]
        cases hz : isDelay cal js (i : Int) d with
        | false => rfl
        | true => rw [delay_sound ok hz]; rfl
      · have sZ := s8.trans s9
        exact ⟨hd7.same sZ, hT7.same sZ, hW7.same sZ, rc7.mono sZ, rj7.mono sZ, rp7.mono sZ, some v, some u, some v16, rfl⟩
    · obtain ⟨hd5, hT5, hW5, rc5, rj5, rp5, b14, b15, b16, rfl⟩ := pv
      exact ⟨hd5, hT5, rc5, rj5, a7, some (.int (i : Int)), some (.ref p9), a10, a11, some v12, some v13, b14, b15, b16, rfl⟩
  · obtain ⟨hd5, hT5, rc5, rj5, a7, a8, a9, a10, a11, a12, a13, a14, a15, a16, rfl⟩ := pv
    have e : ((rg ((cal.length : Int) + 1).toNat).map PyData.int).length = cal.length + 1 := by rw [List.length_map, rg_len]; omega
    rw [e, fewUp_all]
    refine s_ret (d := .bool true) (ed_is (ed_andV (ed_eqRepr (d := optN (fewest cal js)) (ed_callK (n := 2) (cal, js) (ea_cons (ed_var rfl rc5) (ea_cons (ed_var rfl rj5) ea_nil)) hpr rfl) (ed_var rfl (rep_optV _ _)) (shw_optN fun d hd => by have := fewest_le hd; omega)) fun _ => ed_is (ed_op (eHeld rfl rfl rc5 rj5) (ed_var rfl (.str _)) rd_eqS) (congrArg PyData.bool (decide_eq_true rfl))) rfl) fun v H6 s6 r => ?_
    cases r
    exact q H6
end K52
end
section
set_option Elab.async false
set_option linter.all false
set_option maxRecDepth 100000
set_option maxHeartbeats 0
/-! _law_counted. -/
namespace K52
open PySem PySem.Spec PyProof.Rows L2
variable {P : Program} {w : World} {K : PySem.W.Frag} {mg : Str → Option Value} {base : Heap}
theorem scCounted : FnScope ["_law_deal", "_law_sizes", "_law_calendar_here", "_law_turn", "_law_free", "_law_jobs_here", "_law_fewest", "_law_days", "_law_lacks", "_law_size", "_law_gifts", "_law_told", "_law_blocks", "_law_rooms"] ["_law_deal"] (defScope sLawCounted) := ⟨rfl, rfl, rfl, by decide +kernel, rfl, by decide +kernel, by decide +kernel⟩
/-- the sizes that the law writes -/
def SizesOk (ns : List Int) : Prop := ns ≠ [] ∧ ns.length ≤ 3 ∧ (∀ x ∈ ns, 0 < x ∧ x ≤ 6) ∧ ∀ x ∈ ns, ∀ y ∈ ns, x ≤ y → x ∣ y
theorem sz1 : SizesOk [1, 2, 4] := by unfold SizesOk; decide
theorem sz2 : SizesOk [2, 4] := by unfold SizesOk; decide
theorem sz3 : SizesOk [2] := by unfold SizesOk; decide
theorem sz4 : SizesOk [3] := by unfold SizesOk; decide
theorem sz5 : SizesOk [1, 3] := by unfold SizesOk; decide
theorem sz6 : SizesOk [2, 6] := by unfold SizesOk; decide
theorem sz7 : SizesOk [1, 2, 6] := by unfold SizesOk; decide
section
variable {H : Hp} {D C : Addr} {a1 a2 a3 a4 a5 a6 a7 a8 a9 a10 a11 a12 a13 : Option V} {Q : VK}
theorem t_calN (hd : Deal H D C) (q : ∀ (cal : List Int) (v : V) (H' : Hp), DB D C H H' → Deal H' D C → Rep H' v (lotD cal) → (∀ x ∈ cal, 0 ≤ x) → cal.length ≤ 7 → Q v H') :
    tCB (rTupleQ K) (tCons (tLc (iRng1 (tCons (tCall spAny [] E0 (tCons (tVar 0) (tCons (tC (.int 8)) tNil))) tNil)) (gName 3) tYes (tCall spAny [] E0 (tCons (tVar 0) (tCons (tC (.int 11)) tNil))) [3]) tNil) [some (.ref D), a1, a2, a3, a4, a5, a6, a7, a8, a9, a10, a11, a12, a13] H Q := by
  refine t_any (σ := [some (.ref D), a1, a2, a3, a4, a5, a6, a7, a8, a9, a10, a11, a12, a13]) (n := 8) rfl hd ed_int (by decide) fun k H2 db2 hd2 hk => ?_
  refine ⟨k, rfl, by omega, by omega, fun p hp => ?_⟩
  obtain ⟨n1, n2⟩ := hd2.neD hp
  refine lc_it (walk_range (lo := 0) (n := k.toNat)) (fun i H' => DB D C H2 H' ∧ Deal H' D C ∧ ∃ cal : List Int, H' p = some (.lst (cal.map V.int)) ∧ cal.length = i ∧ ∀ x ∈ cal, 0 ≤ x) ⟨DB.of (same_new hp), hd2.upd n1 n2, [], upd_same, rfl, fun x hx => absurd hx (by simp)⟩ (fun i H' hi p => True.intro) (fun i v H' H3 hi pv y => ?_) (fun H' pv => ?_)
  · obtain ⟨m1, m2, cal, m3, m4, m5⟩ := pv
    obtain ⟨rfl, rfl⟩ := y
    refine ⟨rfl, ?_⟩
    refine eb_yes (H := H3) H3 (Same.refl _) _ fun H3' s3 => ?_
    rw [if_pos rfl]
    have m3 := s3 _ _ m3
    have m2 := m2.same s3
    have m1 := m1.trans (DB.of (D := D) (C := C) s3)
    refine t_any (σ := [some (.ref D), a1, a2, some (.int (0 + (i : Nat))), a4, a5, a6, a7, a8, a9, a10, a11, a12, a13]) (n := 11) rfl m2 ed_int (by decide) fun z H4 db4 hd4 hz => ?_
    have h4 := db4.at n1 n2 m3
    have hcl : cal.length < 1000 := by omega
    refine ⟨_, h4, by rw [List.length_map]; exact Nat.lt_of_le_of_lt (Nat.le_of_lt hcl) (by decide), DB.mut (m1.trans db4) hp, hd4.upd n1 n2, cal ++ [z], by rw [upd_same, List.map_append]; rfl, by simp [m4], fun x hx => ?_⟩
    rcases List.mem_append.mp hx with e | e
    · exact m5 x e
    · rw [List.mem_singleton.mp e]; exact hz.1
  · obtain ⟨m1, m2, cal, m3, m4, m5⟩ := pv
    refine ⟨p, _, rfl, .inl ⟨SqL.of m3, fun l hl => ?_⟩⟩
    obtain ⟨l1, l2⟩ := m2.neD hl
    exact q cal _ _ ((db2.trans m1).trans (DB.of (same_new hl))) (m2.upd l1 l2) (.tup upd_same (Reps.ints cal)) m5 (by omega)
theorem t_jobsN {p1 : Addr} {v4 : V} {ns fr : List Int} (hd : Deal H D C) (hp1 : H p1 = some (.lst (ns.map V.int))) (hD : p1 ≠ D) (hC : p1 ≠ C) (hne : ns ≠ []) (hnl : ns.length ≤ 3) (r4 : Rep H v4 (lotD fr))
    (q : ∀ (gs : List Int) (v : V) (H' : Hp), DB D C H H' → Deal H' D C → Rep H' v (jobsD (gs.map fun g => (g, fr))) → (∀ g ∈ gs, g ∈ ns) → gs.length ≤ 8 → Q v H') :
    tCB (rTupleQ K) (tCons (tLc (iRng1 (tCons (tCall spAny [] E0 (tCons (tVar 0) (tCons (tC (.int 9)) tNil))) tNil)) (gName 3) tYes (tTup (tCons (tCall spOf [] E0 (tCons (tVar 0) (tCons (tVar 1) tNil))) (tCons (tVar 4) tNil))) [3]) tNil) [some (.ref D), some (.ref p1), a2, a3, some v4, a5, a6, a7, a8, a9, a10, a11, a12, a13] H Q := by
  refine t_any (σ := [some (.ref D), some (.ref p1), a2, a3, some v4, a5, a6, a7, a8, a9, a10, a11, a12, a13]) (n := 9) rfl hd ed_int (by decide) fun k H2 db2 hd2 hk => ?_
  refine ⟨k, rfl, by omega, by omega, fun p hp => ?_⟩
  obtain ⟨n1, n2⟩ := hd2.neD hp
  have hp12 := db2.at hD hC hp1
  have r42 : Rep H2 v4 (lotD fr) := r4.ts (hd.ts db2) (noL_lot _)
  refine lc_it (walk_range (lo := 0) (n := k.toNat)) (fun i H' => DB D C H2 H' ∧ Deal H' D C ∧ ∃ (xs : List V) (gs : List Int), H' p = some (.lst xs) ∧ Reps H' xs ((gs.map fun g => (g, fr)).map jobD) ∧ gs.length = i ∧ ∀ g ∈ gs, g ∈ ns) ⟨DB.of (same_new hp), hd2.upd n1 n2, [], [], upd_same, .nil, rfl, fun x hx => absurd hx (by simp)⟩ (fun i H' hi p => True.intro) (fun i v H' H3 hi pv y => ?_) (fun H' pv => ?_)
  · obtain ⟨m1, m2, xs, gs, m3, m4, m5, m6⟩ := pv
    obtain ⟨rfl, rfl⟩ := y
    refine ⟨rfl, ?_⟩
    refine eb_yes (H := H3) H3 (Same.refl _) _ fun H3' s3 => ?_
    rw [if_pos rfl]
    have m3 := s3 _ _ m3
    have m4 := m4.mono s3
    have m2 := m2.same s3
    have m1 := m1.trans (DB.of (D := D) (C := C) s3)
    have hp13 := m1.at hD hC hp12
    refine ⟨_, rfl, _, rfl, D, C, p1, ns.map V.int, rfl, m2, hp13, hD, hC, fun z => hne (List.map_eq_nil_iff.mp z), by rw [List.length_map]; omega, fun vg hv H4 db4 hd4 => ?_⟩
    obtain ⟨g, hg, rfl⟩ := List.mem_map.mp hv
    refine ⟨_, rfl, by show (2 : Nat) ≤ sizeLine; decide, fun u hu => ?_⟩
    obtain ⟨u1, u2⟩ := hd4.neD hu
    have h4 := db4.at n1 n2 m3
    have m44 : Reps H4 xs ((gs.map fun g => (g, fr)).map jobD) := m4.ts (m2.ts db4) (noLs_map noL_job _)
    have r44 : Rep H4 v4 (lotD fr) := (r42.ts (hd2.ts m1) (noL_lot _)).ts (m2.ts db4) (noL_lot _)
    have s45 : Same H4 (upd H4 u (.tup [.int g, v4])) := same_new hu
    have hrj : Rep (upd H4 u (.tup [.int g, v4])) (.ref u) (jobD (g, fr)) := .tup upd_same (.cons (.int g) (.cons (r44.mono s45) .nil))
    have hd5 := hd4.upd (o := .tup [.int g, v4]) u1 u2
    have h5 := s45 _ _ h4
    have m45 := m44.mono s45
    generalize upd H4 u (.tup [.int g, v4]) = H5 at s45 hrj hd5 h5 m45
    have hxl : xs.length ≤ 1000 := by rw [m4.length, List.length_map, List.length_map, m5]; omega
    refine ⟨xs, h5, Nat.lt_of_le_of_lt hxl (by decide), DB.mut ((m1.trans db4).trans (DB.of s45)) hp, hd5.upd n1 n2, xs ++ [.ref u], gs ++ [g], upd_same, ?_, by simp [m5], fun x hx => ?_⟩
    · refine Reps.upd_lst (xs := xs) ?_ (noLs_map noL_job _) h5
      rw [List.map_append, List.map_append]
      exact m45.snoc hrj
    · rcases List.mem_append.mp hx with e | e
      · exact m6 x e
      · rw [List.mem_singleton.mp e]; exact hg
  · obtain ⟨m1, m2, xs, gs, m3, m4, m5, m6⟩ := pv
    refine ⟨p, _, rfl, .inl ⟨SqL.of m3, fun l hl => ?_⟩⟩
    obtain ⟨l1, l2⟩ := m2.neD hl
    exact q gs _ _ ((db2.trans m1).trans (DB.of (same_new hl))) (m2.upd l1 l2) (.tup upd_same (m4.mono (same_new hl))) m6 (by omega)
end
/-! the count -/
section
variable {cal : Cal} {js : Jobs}
def fewDn (cal : Cal) (js : Jobs) (i : Nat) : Option Nat := (List.range' (cal.length + 1 - i) i).find? (doneB cal js)
theorem fewDn_succ {i : Nat} (h : i ≤ cal.length) : fewDn cal js (i + 1) = if doneB cal js (cal.length - i) = true then some (cal.length - i) else fewDn cal js i := by
  unfold fewDn
  have e : cal.length + 1 - (i + 1) = cal.length - i := by omega
  have e2 : cal.length + 1 - i = cal.length - i + 1 := by omega
  rw [e, e2, List.range'_succ, List.find?_cons]
  cases doneB cal js (cal.length - i) <;> rfl
theorem fewDn_all : fewDn cal js (cal.length + 1) = fewest cal js := by
  unfold fewDn fewest
  rw [Nat.sub_self, ← List.range_eq_range']
  rfl
theorem fewest_some {d : Nat} (h : fewest cal js = some d) : doneB cal js d = true := List.find?_some (p := doneB cal js) h
theorem fewest_none (h : fewest cal js = none) : doneB cal js cal.length = false := by
  have := List.find?_eq_none.mp h cal.length (List.mem_range.mpr (by omega))
  simpa [doneB] using this
theorem fewest_first {d : Nat} (h : fewest cal js = some d) (hd : 0 < d) : doneB cal js (d - 1) = false := by
  have h' : (List.range (cal.length + 1)).find? (doneB cal js) = some d := h
  have := (List.find?_range_eq_some.mp h').2.2 (d - 1) (by omega)
  simpa using this
theorem big_map (js : Jobs) (g : Int) : ((js.filter fun j => decide (g ≤ j.1)).map (·.1)).sum = big js g := by
  unfold big
  rw [List.filter_map]
  rfl
variable {gs ns : List Int} {n : Nat}
def jsN (gs : List Int) (n : Nat) : Jobs := gs.map fun g => (g, rg n)
theorem jsN_len : (jsN gs n).length = gs.length := by unfold jsN; rw [List.length_map]
theorem jsN_at (h : ∀ g ∈ gs, g ∈ ns) {a : Int} (ha : 0 ≤ a ∧ a < (jsN gs n).length) : gj (jsN gs n) a ∈ ns ∧ dj (jsN gs n) a = rg n := by
  have hm : (jsN gs n).getD a.toNat (0, []) ∈ jsN gs n := getD_mem (by omega)
  obtain ⟨g, hg, e⟩ := List.mem_map.mp hm
  unfold gj dj
  rw [← e]
  exact ⟨h g hg, rfl⟩
theorem jsN_ok (hs : SizesOk ns) (h : ∀ g ∈ gs, g ∈ ns) (hc : ∀ x ∈ cal, 0 ≤ x) : Ok cal (jsN gs cal.length) :=
  ⟨hc, fun j hj => by
    obtain ⟨g, hg, rfl⟩ := List.mem_map.mp hj
    exact (hs.2.2.1 g (h g hg)).1, fun j hj => by
    obtain ⟨g, hg, rfl⟩ := List.mem_map.mp hj
    exact ⟨rg_asc _, fun x hx => mem_rg.mp hx⟩⟩
theorem jsN_iff (hs : SizesOk ns) (h : ∀ g ∈ gs, g ∈ ns) (hc : ∀ x ∈ cal, 0 ≤ x) {d : Nat} (hd : d ≤ cal.length) : (gs.filter fun g => decide (g * blocks cal d g < big (jsN gs cal.length) g)).isEmpty = doneB cal (jsN gs cal.length) d := by
  have ok := jsN_ok hs h hc
  have h1 := count_iff ok (fun a b ha hb hab => hs.2.2.2 _ (jsN_at h ha).1 _ (jsN_at h hb).1 hab) (fun j hj => (jsN_at h hj).2) hd
  rw [← doneB_iff ok] at h1
  rw [Bool.eq_iff_iff, ← h1, List.isEmpty_iff, List.filter_eq_nil_iff]
  have e : (jsN gs cal.length).map (·.1) = gs := by
    unfold jsN
    rw [List.map_map]
    exact List.map_id' gs
  rw [e]
  constructor
  · intro z g hg
    have := z g hg
    rw [decide_eq_true_eq] at this
    omega
  · intro z g hg
    have := z g hg
    rw [decide_eq_true_eq]
    omega
theorem rev_at {m i : Nat} {d : PyData} (h : ((rg m).map PyData.int).reverse[i]? = some d) : i < m ∧ d = .int ((m - 1 - i : Nat) : Int) := by
  have hi := (List.getElem?_eq_some_iff.mp h).1
  rw [List.length_reverse, List.length_map, rg_len] at hi
  refine ⟨hi, ?_⟩
  rw [List.getElem?_reverse (by rw [List.length_map, rg_len]; exact hi), List.length_map, rg_len] at h
  unfold rg at h
  rw [List.map_map, List.getElem?_map, List.getElem?_range (by omega)] at h
  exact (Option.some.inj h).symm
theorem cut_take (l : List Int) {d : Nat} (h : d ≤ l.length) : PyData.tuple (cutD (l.map .int) none (some (d : Int))) = lotD (l.take d) := by
  rw [cutD_map, HT.sIx_none, HT.sIx_nat, List.drop_zero, Nat.sub_zero, Nat.min_eq_left h]
  rfl
end
theorem rd_isNotTT : RD (fun x y H Q => cst x = true ∧ cst y = true ∧ Q (.bl (!decide (x = y))) H) (.bool true) (.bool true) (.bool false) := fun H x y rx ry Q q => by
  cases rx; cases ry; exact ⟨rfl, rfl, q _ H (Same.refl _) (.bl _)⟩
theorem df_counted (F : Bl mg) (D : DefAt K mg "_law_counted" sLawCounted) (G__law_any : Df P w K mg base 1 "_law_any" ["_law_deal", "_law_bound"] spAny) (G__law_of : Df P w K mg base 2 "_law_of" ["_law_deal", "_law_some"] spOf)
    (G__law_tabled : Df P w K mg base 5 "_law_tabled" ["_law_calendar_here", "_law_jobs_here", "_law_days"] spLawTabled) (G_fronts : Df P w K mg base 4 "fronts" ["calendar", "jobs", "days"] spFronts)
    (G_is_delay_paper : Df P w K mg base 7 "is_delay_paper" ["calendar", "jobs", "days", "value"] spIsDelay) (G_fewest_days : Df P w K mg base 3 "fewest_days" ["calendar", "jobs"] spFewest) : Dg P w K mg base 8 "_law_counted" ["_law_deal"] spSmall := by
  have nd := scCounted.nd
  refine dg_ok D scCounted (fun _ _ _ _ _ _ us hl => match us, hl with | [_], _ => rfl) (fun vs H Q E h => by obtain ⟨D, C, rfl, _⟩ := h; rfl) fun f cdv A outer s H vs Q E hG0 hr hsp =>
    have hG : (A.deeper (envOfC "_law_counted" (defScope sLawCounted) s.heap.objs.size f cdv)).guards = some [] := hG0
    have hu : (A.deeper (envOfC "_law_counted" (defScope sLawCounted) s.heap.objs.size f cdv)).units + 64 < cLine := hr.units
    have hr__law_any := hr.mono (j := 1) (by decide)
    have hr__law_of := hr.mono (j := 2) (by decide)
    have hr__law_tabled := hr.mono (j := 5) (by decide)
    have hr_fronts := hr.mono (j := 4) (by decide)
    have hr_is_delay_paper := hr
    have hr_fewest_days := hr.mono (j := 3) (by decide)
    ⟨_, PSs.nox (pss_cons (ps_set (i := 1) nd rfl (Or.inr rfl) (pe_df G__law_of hr__law_of (by rfl) (pa_cons (pv 0) (pa_cons (pe_lst (pa_cons (pe_lst (pa_cons pe_int (pa_cons pe_int (pa_cons pe_int pa_nil)))) (pa_cons (pe_lst (pa_cons pe_int (pa_cons pe_int pa_nil))) (pa_cons (pe_lst (pa_cons pe_int pa_nil)) (pa_cons (pe_lst (pa_cons pe_int pa_nil)) (pa_cons (pe_lst (pa_cons pe_int (pa_cons pe_int pa_nil))) (pa_cons (pe_lst (pa_cons pe_int (pa_cons pe_int pa_nil))) (pa_cons (pe_lst (pa_cons pe_int (pa_cons pe_int (pa_cons pe_int pa_nil)))) pa_nil)))))))) pa_nil))))
  (pss_cons (ps_set (i := 2) nd rfl (Or.inl rfl) (pe_callTy (clTuple K) (by rfl) F.tuple boot_tuple (pa_cons (pe_lc (own := [("_law_turn", 3)]) (g := gName 3) (tt := tYes) rfl nd (pi_range1 (by rfl) F.range (pa_cons (pe_df G__law_any hr__law_any (by rfl) (pa_cons (pv 0) (pa_cons pe_int pa_nil))) pa_nil)) (blkOk_by (by kernel_rfl)) (fun _ _ _ _ _ => (pg_name (i := 3) nd rfl (by first | exact Or.inl rfl | exact Or.inr rfl))) (fun _ _ _ _ _ => pts_nil) (fun _ _ _ _ _ => (pe_df G__law_any hr__law_any (by rfl) (pa_cons (pv 0) (pa_cons pe_int pa_nil))))) pa_nil)))
  (pss_cons (ps_set (i := 4) nd rfl (Or.inr rfl) (pe_tupRg rfl (by rfl) F.tuple (prg_1 (by rfl) F.range (pe_callB (clLen K) (by rfl) F.len boot_len (pa_cons (pv 2) pa_nil)))))
  (pss_cons (ps_set (i := 5) nd rfl (Or.inl rfl) (pe_callTy (clTuple K) (by rfl) F.tuple boot_tuple (pa_cons (pe_lc (own := [("_law_turn", 3)]) (g := gName 3) (tt := tYes) rfl nd (pi_range1 (by rfl) F.range (pa_cons (pe_df G__law_any hr__law_any (by rfl) (pa_cons (pv 0) (pa_cons pe_int pa_nil))) pa_nil)) (blkOk_by (by kernel_rfl)) (fun _ _ _ _ _ => (pg_name (i := 3) nd rfl (by first | exact Or.inl rfl | exact Or.inr rfl))) (fun _ _ _ _ _ => pts_nil) (fun _ _ _ _ _ => (pe_tup (pa_cons (pe_df G__law_of hr__law_of (by rfl) (pa_cons (pv 0) (pa_cons (pv 1) pa_nil))) (pa_cons (pv 4) pa_nil))))) pa_nil)))
  (pss_cons (ps_set (i := 6) nd rfl (Or.inl rfl) pe_non)
  (pss_cons (ps_for PassesOwn.never rfl (piL K (revL K (pe_listRg rfl (by rfl) F.list (prg_1 (by rfl) F.range (pe_op op_add (pe_callB (clLen K) (by rfl) F.len boot_len (pa_cons (pv 2) pa_nil)) pe_int))))) (pg_name (i := 7) nd rfl (by first | exact Or.inl rfl | exact Or.inr rfl)) (pss_cons (ps_set (i := 8) nd rfl (Or.inl rfl) (pe_lst pa_nil))
  (pss_cons (ps_for PassesOwn.never rfl (piL K (pe_lc (own := [("_law_gifts", 10), ("_law_told", 11)]) (g := (gTup K 2 (gCons (gName 10) ((gCons (gName 11) (gNil)))))) (tt := tYes) rfl nd (piT K (pv 5)) (blkOk_by (by kernel_rfl)) (fun _ _ _ _ _ => (pgT K (n := 2) rfl (pgs_cons (pg_name (i := 10) nd rfl (by first | exact Or.inl rfl | exact Or.inr rfl)) (pgs_cons (pg_name (i := 11) nd rfl (by first | exact Or.inl rfl | exact Or.inr rfl)) pgs_nil)))) (fun _ _ _ _ _ => pts_nil) (fun _ _ _ _ _ => (pv 10)))) (pg_name (i := 9) nd rfl (by first | exact Or.inl rfl | exact Or.inr rfl)) (pss_cons (ps_set (i := 12) nd rfl (Or.inl rfl) (pe_callB (clSum K rfl) (by rfl) F.sum boot_sum (pa_cons (pe_lc (own := [("_law_rooms", 13)]) (g := gName 13) (tt := tYes) rfl nd (piT K (pe_slice (slT K) (pv 2) po_none (po_some (pv 7)))) (blkOk_by (by kernel_rfl)) (fun _ _ _ _ _ => (pg_name (i := 13) nd rfl (by first | exact Or.inl rfl | exact Or.inr rfl))) (fun _ _ _ _ _ => pts_nil) (fun _ _ _ _ _ => (pe_op op_fdivW (pv 13) (pv 9)))) pa_nil)))
  (pss_one (ps_if (pt_cmpR op_gt (pe_callB (clSum K rfl) (by rfl) F.sum boot_sum (pa_cons (pe_lc (own := [("_law_gifts", 10), ("_law_told", 11)]) (g := (gTup K 2 (gCons (gName 10) ((gCons (gName 11) (gNil))))))  rfl nd (piT K (pv 5)) (blkOk_by (by kernel_rfl)) (fun _ _ _ _ _ => (pgT K (n := 2) rfl (pgs_cons (pg_name (i := 10) nd rfl (by first | exact Or.inl rfl | exact Or.inr rfl)) (pgs_cons (pg_name (i := 11) nd rfl (by first | exact Or.inl rfl | exact Or.inr rfl)) pgs_nil)))) (fun _ _ _ _ _ => (pts_one (pt_cmpR op_ge (pv 10) (pv 9) (nomark _)))) (fun _ _ _ _ _ => (pv 10))) pa_nil)) (pe_op op_mul (pv 9) (pv 12)) (nomark _)) (pss_one (ps_expr (pe_bm PySem.F.plainAttrs_list PySem.F.slot_list_append PySem.F.type_list_append mt_append (pv 8) (pa_cons (pv 9) pa_nil)))) pss_nil))))
  (pss_one (ps_if (pt_cmpR (opEq K hu) (pv 8) (pe_lst pa_nil) (nomark _)) (pss_one (ps_set (i := 6) nd rfl (Or.inl rfl) (pv 7))) pss_nil)))))
  (pss_cons (ps_if (pt_cmpR op_ne (pe_callB (clRepr K hG hu) (by rfl) F.repr boot_repr (pa_cons (pe_df G_fewest_days hr_fewest_days (by rfl) (pa_cons (pv 2) (pa_cons (pv 5) pa_nil))) pa_nil)) (pe_callB (clRepr K hG hu) (by rfl) F.repr boot_repr (pa_cons (pv 6) pa_nil)) (nomark _)) (pss_one (ps_ret pe_bl)) pss_nil)
  (pss_cons (ps_if (pt_cmpR op_isN (pv 6) pe_non (nomark _)) (pss_one (ps_ret (pe_cmpR op_isN (pe_df G__law_tabled hr__law_tabled (by rfl) (pa_cons (pv 2) (pa_cons (pv 5) (pa_cons (pe_callB (clLen K) (by rfl) F.len boot_len (pa_cons (pv 2) pa_nil)) pa_nil)))) pe_non (nomark _)))) pss_nil)
  (pss_cons (ps_if (PW.pt (pw_and (pt_cmpR op_gt (pv 6) pe_int (nomark _)) (pw_and1 (pt_cmpR op_isNotC (pe_df G_is_delay_paper hr_is_delay_paper (by rfl) (pa_cons (pv 2) (pa_cons (pv 5) (pa_cons (pe_op op_sub (pv 6) pe_int) (pa_cons (pe_df G_fronts hr_fronts (by rfl) (pa_cons (pv 2) (pa_cons (pv 5) (pa_cons (pe_op op_sub (pv 6) pe_int) pa_nil)))) pa_nil))))) pe_bl (nomark _))))) (pss_one (ps_ret pe_bl)) pss_nil)
  (pss_one (ps_ret (pe_cmpR op_isC (pe_df G__law_tabled hr__law_tabled (by rfl) (pa_cons (pv 2) (pa_cons (pv 5) (pa_cons (pv 6) pa_nil)))) pe_bl (nomark _))))))))))))), ?_⟩
  obtain ⟨D, C, rfl, hd0, q⟩ := hsp
  have hLS : LS [D, C] H := fun a ha => by
    obtain ⟨_, cells, b, g1, g2, _⟩ := hd0
    rcases List.mem_cons.mp ha with e | ha
    · exact ⟨_, by rw [e]; exact g1⟩
    · exact ⟨_, by rw [List.mem_singleton.mp ha]; exact g2⟩
  -- the sizes
  refine q_asgT (t_ofH (S := [D, C]) (σ := [some (.ref D), none, none, none, none, none, none, none, none, none, none, none, none, none]) (ds := [.list [.int 1, .int 2, .int 4], .list [.int 2, .int 4], .list [.int 2], .list [.int 3], .list [.int 1, .int 3], .list [.int 2, .int 6], .list [.int 1, .int 2, .int 6]]) rfl hd0 hLS (by simp) (by simp)
    (eha_cons (eh_new hLS (el_lst (ea_cons ed_int (ea_cons ed_int (ea_cons ed_int ea_nil))) (by show (3 : Nat) ≤ 100000; decide)) rfl)
    (eha_cons (eh_new hLS (el_lst (ea_cons ed_int (ea_cons ed_int ea_nil)) (by show (2 : Nat) ≤ 100000; decide)) rfl)
    (eha_cons (eh_new hLS (el_lst (ea_cons ed_int ea_nil) (by show (1 : Nat) ≤ 100000; decide)) rfl)
    (eha_cons (eh_new hLS (el_lst (ea_cons ed_int ea_nil) (by show (1 : Nat) ≤ 100000; decide)) rfl)
    (eha_cons (eh_new hLS (el_lst (ea_cons ed_int (ea_cons ed_int ea_nil)) (by show (2 : Nat) ≤ 100000; decide)) rfl)
    (eha_cons (eh_new hLS (el_lst (ea_cons ed_int (ea_cons ed_int ea_nil)) (by show (2 : Nat) ≤ 100000; decide)) rfl)
    (eha_cons (eh_new hLS (el_lst (ea_cons ed_int (ea_cons ed_int (ea_cons ed_int ea_nil))) (by show (3 : Nat) ≤ 100000; decide)) rfl) eha_nil)))))))
    (by simp) (by show (7 : Nat) ≤ 1000; decide) fun u d hdm H1 db1 hd1 ru => ?_)
  have hes : ∃ ns : List Int, d = .list (ns.map .int) ∧ SizesOk ns := by
    simp only [List.mem_cons, List.not_mem_nil, or_false] at hdm
    rcases hdm with e | e | e | e | e | e | e
    · exact ⟨[1, 2, 4], e, sz1⟩
    · exact ⟨[2, 4], e, sz2⟩
    · exact ⟨[2], e, sz3⟩
    · exact ⟨[3], e, sz4⟩
    · exact ⟨[1, 3], e, sz5⟩
    · exact ⟨[2, 6], e, sz6⟩
    · exact ⟨[1, 2, 6], e, sz7⟩
  obtain ⟨ns, rfl, hsz⟩ := hes
  clear hdm
  obtain ⟨p1, rfl, hpD, hpC, hp1⟩ : ∃ p1, u = .ref p1 ∧ p1 ≠ D ∧ p1 ≠ C ∧ H1 p1 = some (.lst (ns.map V.int)) := by
    cases ru with
    | @lst a xs _ hx rx =>
      obtain ⟨w1, w2⟩ := hid_at hx
      have e := Reps.of_ints rx
      subst e
      simp only [List.mem_cons, List.not_mem_nil, or_false, not_or] at w1
      exact ⟨a, rfl, w1.1, w1.2, w2⟩
  clear ru hLS
  -- the calendar, the days, the jobs
  refine q_asgT (t_calN hd1 fun cal vc H2 db2 hd2 rc2 hc0 hcl => ?_)
  refine q_asg (d := lotD (rg cal.length)) (ed_is (ed_tupRg (n := (cal.length : Int)) (ed_cb (ea_cons (ed_var rfl rc2) ea_nil) cd_lenLot) ⟨by omega, by omega⟩) (by rw [Int.toNat_natCast])) fun v4 H3 s3 r4 => ?_
  have hd3 := hd2.same s3
  refine q_asgT (t_jobsN hd3 (s3 _ _ (db2.at hpD hpC hp1)) hpD hpC hsz.1 hsz.2.1 r4 fun gs vj H4 db4 hd4 rj4 hgs hgl => ?_)
  have rj : Rep H4 vj (jobsD (jsN gs cal.length)) := rj4
  have rc : Rep H4 vc (lotD cal) := (rc2.mono s3).ts (hd3.ts db4) (noL_lot _)
  have ok := jsN_ok hsz hgs hc0
  have hjl : (jsN gs cal.length).length ≤ 8 := by rw [jsN_len]; exact hgl
  have hpr : Pr cal (jsN gs cal.length) := ⟨ok, by omega, hjl⟩
  have hiff : ∀ {d : Nat}, d ≤ cal.length → (gs.filter fun g => decide (g * blocks cal d g < big (jsN gs cal.length) g)).isEmpty = doneB cal (jsN gs cal.length) d := fun h => jsN_iff hsz hgs hc0 h
  have hgp : ∀ g ∈ gs, 0 < g ∧ g ≤ 6 := fun g hg => hsz.2.2.1 g (hgs g hg)
  have hmap : (jsN gs cal.length).map (fun j => PyData.int j.1) = gs.map PyData.int := by unfold jsN; rw [List.map_map]; rfl
  generalize jsN gs cal.length = js at rj ok hjl hpr hiff hmap
  clear rj4 db4 hd4 hd3 r4 s3 rc2 hd2 db2 hp1 hd1 db1 hd0 hgs
  -- the count
  refine q_asg (d := .none) ed_non fun v6 H5 s5 r6 => ?_
  cases r6
  have rj := rj.mono s5
  have rc := rc.mono s5
  refine q_for (ei_list (ed_rev (ed_lstRg (n := (cal.length : Int) + 1) (ed_op (ed_cb (ea_cons (ed_var rfl rc) ea_nil) cd_lenLot) ed_int rd_add) ⟨by omega, by omega⟩)))
    (fun H1 i σ' H' => Same H1 H' ∧ Same H5 H1 ∧ ∃ a7 a8 a9 a10 a11 a12 a13, σ' = [some (.ref D), some (.ref p1), some vc, none, some v4, some vj, some (optV (fewDn cal js i)), a7, a8, a9, a10, a11, a12, a13])
    (fun H6 s6 => ⟨Same.refl _, s6, none, none, none, none, none, none, none, rfl⟩) (fun _ _ _ _ _ p => p.1) (fun H6 s6 i d v σ' H7 H8 hdd pv s8 rv => ?_) (fun H6 σ' H7 s6 pv => ?_)
  · obtain ⟨p1', p2', a7, a8, a9, a10, a11, a12, a13, rfl⟩ := pv
    obtain ⟨him, rfl⟩ := rev_at hdd
    have hic : i ≤ cal.length := by omega
    have hday : (((cal.length : Int) + 1).toNat - 1 - i) = cal.length - i := by omega
    rw [hday] at rv
    cases rv
    have hdl : cal.length - i ≤ cal.length := by omega
    have hfew := fewDn_succ (js := js) hic
    have hdone := hiff hdl
    generalize cal.length - i = day at hdl hfew hdone
    have s58 := (p2'.trans p1').trans s8
    have rc8 := rc.mono s58
    have rj8 := rj.mono s58
    have s68 := p1'.trans s8
    show tSeq _ _ _ _ _
    refine q_asgL (el_lst ea_nil (Nat.zero_le _)) fun p8 xs8 H9 hp0 s9 hp8 r8 => ?_
    cases r8
    have rc9 := rc8.mono s9
    have rj9 := rj8.mono s9
    have hj5 : js.length ≤ 50000 := by omega
    refine q_for (ei_listN (D := p8) (EL.is (el_lc (enc := jobD) (fun _ => true) (fun j => .int j.1) (fun _ => rfl) (ei_tupS (ed_var rfl rj9)) hj5 fun k j hk v H10 s10 r => by
        obtain ⟨x, y, bd, rx, ry⟩ := bd_pair (K := K) (i := 10) (j := 11) (d1 := .int j.1) (d2 := lotD j.2) r [some (.ref D), some (.ref p1), some vc, none, some v4, some vj, some (optV (fewDn cal js i)), some (.int (day : Int)), some (.ref p8), a9, none, none, a12, a13]
        exact ⟨_, bd, rfl, eb_yes, fun _ => ed_var rfl rx⟩) (by rw [filter_yes]; exact hmap)) (noLs_ints _) ⟨_, hp8⟩)
      (fun H10 t σ' H' => SB p8 H10 H' ∧ Same H9 H10 ∧ H' p8 = some (.lst (((gs.take t).filter fun g => decide (g * blocks cal day g < big js g)).map V.int)) ∧ ∃ b9 b10 b11 b12 b13, σ' = [some (.ref D), some (.ref p1), some vc, none, some v4, some vj, some (optV (fewDn cal js i)), some (.int (day : Int)), some (.ref p8), b9, b10, b11, b12, b13])
      (fun H10 s10 => ⟨SB.refl _ _, s10, s10 _ _ hp8, a9, a10, a11, a12, a13, rfl⟩) (fun _ _ _ _ _ p => p.1) (fun H10 s10 t d v σ' H11 H12 hdd2 pv s12 rv => ?_) (fun H10 σ' H11 s10 pv => ?_)
    · obtain ⟨m1, m2, m3, b9, b10, b11, b12, b13, rfl⟩ := pv
      rw [List.getElem?_map] at hdd2
      obtain ⟨g, hg, rfl⟩ := Option.map_eq_some_iff.mp hdd2
      cases rv
      have hgm := hgp g (List.mem_of_getElem? hg)
      have ts : TS H9 H12 := (TS.of m2).trans ((SB.ts (SB.noT (m2 _ _ hp8)) m1).trans (TS.of s12))
      have rcA := rc9.ts ts (noL_lot _)
      have rjA := rj9.ts ts (noL_jobs _)
      have m3 := s12 _ _ m3
      have m1 := m1.trans (SB.of (D := p8) s12)
      have et : gs.take (t + 1) = gs.take t ++ [g] := by rw [List.take_succ, hg]; rfl
      show tSeq _ _ _ _ _
      refine q_asg (d := .int (blocks cal day g)) (ed_cb (ea_cons (ed_lcI1 (enc := PyData.int) (items := cal.take day) (fun x => x / g) (ei_tupS (ed_is (ed_slT (ed_var rfl rcA) eo_none (eo_some (ed_var rfl (.int (day : Int))))) (cut_take cal hdl))) (by rw [List.length_take]; omega) fun k x hk v H13 s13 r => ⟨_, bd_name, rfl, ed_op (ed_var rfl r) (ed_var rfl (.int g)) (rd_fdiv ⟨hgm.1, by omega⟩)⟩) ea_nil) cd_sum) fun v12 H13 s13 r12 => ?_
      cases r12
      have hn13 : ∀ {j : Int × List Int} {v : V} {H14 : Hp}, Rep H14 v (jobD j) → ∃ x y, Bd (gTup K 2 (gCons (gName 10) (gCons (gName 11) gNil))) v [some (.ref D), some (.ref p1), some vc, none, some v4, some vj, some (optV (fewDn cal js i)), some (.int (day : Int)), some (.ref p8), some (.int g), none, none, some (.int (blocks cal day g)), b13] H14 [some (.ref D), some (.ref p1), some vc, none, some v4, some vj, some (optV (fewDn cal js i)), some (.int (day : Int)), some (.ref p8), some (.int g), some x, some y, some (.int (blocks cal day g)), b13] ∧ Rep H14 x (.int j.1) := fun {j v H14} r => by
        obtain ⟨x, y, bd, rx, ry⟩ := bd_pair (K := K) (i := 10) (j := 11) (d1 := .int j.1) (d2 := lotD j.2) r [some (.ref D), some (.ref p1), some vc, none, some v4, some vj, some (optV (fewDn cal js i)), some (.int (day : Int)), some (.ref p8), some (.int g), none, none, some (.int (blocks cal day g)), b13]
        exact ⟨x, y, bd, rx⟩
      refine s_when (b := decide (g * blocks cal day g < big js g)) (eb_test (ed_op (ed_is (ed_cb (ea_cons (ed_lcI (enc := jobD) (items := js) (fun j => decide (g ≤ j.1)) (fun j => j.1) (ei_tupS (ed_var rfl (rjA.mono s13))) hj5 fun k j hk v H14 s14 r => by
          obtain ⟨x, y, bd, rx⟩ := hn13 r
          exact ⟨_, bd, rfl, eb_test (ed_op (ed_var rfl rx) (ed_var rfl (.int g)) rd_ge), fun _ => ed_var rfl rx⟩) ea_nil) cd_sum) (congrArg PyData.int (big_map js g))) (ed_op (ed_var rfl (.int g)) (ed_var rfl (.int (blocks cal day g))) (rd_I (.inl ⟨by omega, by omega⟩) fun _ => .int _)) rd_gt)) (fun e H14 s14 => ?_) (fun e H14 s14 => ?_)
      · refine s_app (K := K) (d := .int g) rfl (s14 _ _ (s13 _ _ m3)) (ed_var rfl (.int g)) ?_ fun v15 H15 s15 r15 => ?_
        · rw [List.length_map]
          have h1 := List.length_filter_le (fun g => decide (g * blocks cal day g < big js g)) (gs.take t)
          have h2 : (gs.take t).length ≤ gs.length := by rw [List.length_take]; omega
          omega
        · cases r15
          refine ⟨(m1.trans (SB.of ((s13.trans s14).trans s15))).upd, m2, ?_, _, _, _, _, _, rfl⟩
          rw [upd_same, et, List.filter_append, List.filter_cons, if_pos e, List.map_append]
          rfl
      · refine ⟨m1.trans (SB.of (s13.trans s14)), m2, ?_, _, _, _, _, _, rfl⟩
        rw [et, List.filter_append, List.filter_cons, if_neg (by rw [e]; decide), List.filter_nil, List.append_nil]
        exact s14 _ _ (s13 _ _ m3)
    · obtain ⟨m1, m2, m3, b9, b10, b11, b12, b13, rfl⟩ := pv
      have el : gs.take ((gs.map PyData.int).length) = gs := by rw [List.length_map, List.take_length]
      rw [el] at m3
      have hS : Same H6 H11 := SB.same ((s68.trans s9).trans m2) (none_back s68 hp0) m1
      have rl : Rep H11 (.ref p8) (.list ((gs.filter fun g => decide (g * blocks cal day g < big js g)).map .int)) := .lst m3 (Reps.ints _)
      have hemp : ((gs.filter fun g => decide (g * blocks cal day g < big js g)).map PyData.int).isEmpty = doneB cal js day := by
        rw [← hdone]
        cases gs.filter (fun g => decide (g * blocks cal day g < big js g)) <;> rfl
      refine s_whenA (d := optN (fewDn cal js (i + 1))) (b := doneB cal js day) (u := optV (fewDn cal js i)) rfl (eb_test (ed_is (ed_op (ed_var rfl rl) (ed_lst ea_nil (Nat.zero_le _)) (rd_eqNil0 (sh_intsM _))) (by rw [hemp]))) (fun e H12 s12 => ?_) (fun e => ?_) fun fv H12 s12 rf => ?_
      · rw [hfew, if_pos e]
        exact ed_var rfl (.int (day : Int))
      · rw [hfew, if_neg (by rw [e]; decide)]
        exact rep_optV _ _
      · obtain rfl := optV_of rf
        exact ⟨hS.trans s12, p2', some (.int (day : Int)), some (.ref p8), b9, b10, b11, b12, b13, rfl⟩
  · obtain ⟨p1', p2', a7, a8, a9, a10, a11, a12, a13, rfl⟩ := pv
    have e : (((rg ((cal.length : Int) + 1).toNat).map PyData.int).reverse).length = cal.length + 1 := by rw [List.length_reverse, List.length_map, rg_len]; omega
    rw [e, fewDn_all]
    have rcB := rc.mono (p2'.trans p1')
    have rjB := rj.mono (p2'.trans p1')
    have hshw : Shw (optN (fewest cal js)) := shw_optN fun d hd => by have := fewest_le hd; omega
    -- the fewest days
    refine q_when (b := false) (eb_test (ed_neRepr (d := optN (fewest cal js)) (ed_call (cal, js) (ea_cons (ed_var rfl rcB) (ea_cons (ed_var rfl rjB) ea_nil)) hpr) (ed_var rfl (rep_optV _ _)) hshw)) (fun e => by cases e) fun _ H8 s8 => ?_
    have rcB := rcB.mono s8
    have rjB := rjB.mono s8
    have fin : ∀ {te : TE} {σ : L2.St} {H9 : Hp}, ED te σ H9 (.bool true) → tRet te { nx := fun _ H' => Q .non H', rt := Q } σ H9 := fun h => s_ret h fun v H10 s10 r => by
      cases r
      exact q H10
    cases hfz : fewest cal js with
    | none =>
      refine q_when (b := true) (eb_test (ed_op (ed_var rfl .non) ed_non rd_isN)) (fun _ H9 s9 => ?_) (fun e => by cases e)
      refine s_ret (d := .bool true) (ed_is (ed_op (ed_is (ed_call (cal, js, cal.length) (ea_cons (ed_var rfl (rcB.mono s9)) (ea_cons (ed_var rfl (rjB.mono s9)) (ea_cons (ed_cb (ea_cons (ed_var rfl (rcB.mono s9)) ea_nil) cd_lenLot) ea_nil))) ⟨hpr, Nat.le_refl _⟩) (tabled_done ok _)) ed_non rd_isN) (by rw [fewest_none hfz]; rfl)) fun v H10 s10 r => ?_
      cases r
      exact q H10
    | some m =>
      have hm := fewest_le hfz
      refine q_when (b := false) (eb_test (ed_op (ed_var rfl (.int (m : Int))) ed_non rd_isN)) (fun e => by cases e) fun _ H9 s9 => ?_
      have rcB := rcB.mono s9
      have rjB := rjB.mono s9
      refine q_when (b := false) ?_ (fun e => by cases e) fun _ H10 s10 => ?_
      · by_cases hm0 : 0 < m
        · have em : (m : Int) - 1 = ((m - 1 : Nat) : Int) := by omega
          have eM : ∀ {H11 : Hp}, ED (tOp (rI0 fun i j => .int (i - j)) (tVar 6) (tC (.int 1))) [some (.ref D), some (.ref p1), some vc, none, some v4, some vj, some (.int (m : Int)), a7, a8, a9, a10, a11, a12, a13] H11 (.int ((m - 1 : Nat) : Int)) := ed_is (ed_op (ed_var rfl (.int (m : Int))) ed_int rd_sub) (by rw [em])
          have hF := frontsOf_ok ok (m - 1)
          have hFl : (frontsOf cal js (m - 1)).length = m - 1 + 1 := frontsOf_len (m - 1)
          have hsm : Sm 3 (frontsD (frontsOf cal js (m - 1))) := ⟨by show ((frontsOf cal js (m - 1)).map frontD).length ≤ 300; rw [List.length_map, hFl]; omega, fun e he => by
            obtain ⟨f, hf, rfl⟩ := List.mem_map.mp he
            have hL := (hF f hf).2
            exact ⟨by show (f.map lotD).length ≤ 300; rw [List.length_map]; have := hpr.lots hL; omega, fun x hx => by
              obtain ⟨l, hl, rfl⟩ := List.mem_map.mp hx
              have h2 := hL.2 l hl
              exact ⟨by show (l.map PyData.int).length ≤ 300; rw [List.length_map]; have := hpr.lot h2.1 h2.2; omega, fun _ _ => True.intro⟩⟩⟩
          have hdl : isDelay cal js ((m - 1 : Nat) : Int) (frontsD (frontsOf cal js (m - 1))) = true := by rw [delay_done ok (by omega), fewest_first hfz hm0]; rfl
          refine eb_is (eb_and (b := false) (eb_test (ed_op (ed_var rfl (.int (m : Int))) ed_int rd_gt)) fun _ => eb_test (ed_op (ed_is (ed_call (cal, js, ((m - 1 : Nat) : Int), frontsD (frontsOf cal js (m - 1))) (ea_cons (ed_var rfl rcB) (ea_cons (ed_var rfl rjB) (ea_cons eM (ea_cons (ed_call (cal, js, m - 1) (ea_cons (ed_var rfl rcB) (ea_cons (ed_var rfl rjB) (ea_cons eM ea_nil))) ⟨hpr, by show m - 1 ≤ cal.length; omega⟩) ea_nil)))) ⟨hpr, hsm⟩) (congrArg PyData.bool hdl)) ed_bl rd_isNotTT)) (by rw [Bool.and_false])
        · refine eb_is (eb_and (b := false) (eb_test (ed_op (ed_var rfl (.int (m : Int))) ed_int rd_gt)) fun e => ?_) (by rw [Bool.and_false])
          rw [decide_eq_true_eq] at e
          omega
      · refine s_ret (d := .bool true) (ed_op (ed_is (ed_call (cal, js, m) (ea_cons (ed_var rfl (rcB.mono s10)) (ea_cons (ed_var rfl (rjB.mono s10)) (ea_cons (ed_var rfl (.int (m : Int))) ea_nil))) ⟨hpr, hm⟩) ((tabled_done ok _).trans (by rw [fewest_some hfz]))) ed_bl rd_isBB) fun v H11 s11 r => ?_
        cases r
        exact q H11
end K52
end
section
set_option Elab.async false
set_option linter.all false
set_option maxRecDepth 100000
/-! law. -/
namespace K52
open PySem PySem.Spec PyProof.Rows L2
variable {P : Program} {w : World} {K : PySem.W.Frag} {mg : Str → Option Value} {base : Heap}
def spTop (K : PySem.W.Frag) : Sp := fun vs H Q _ => ∃ (a : Addr) (ns : List Int), vs = [.ref a] ∧ SqL K H a (ns.map V.int) ∧ ∀ H', Q (.bl true) H'
theorem scTop : FnScope ["_law_script", "_law_deal"] ["_law_script"] (defScope sLaw) := ⟨rfl, rfl, rfl, by decide +kernel, rfl, by decide +kernel, by decide +kernel⟩
theorem g_law {f : Addr} {fd : FuncData} (FF : FunD K "law" "law" (defArgs sLaw) (defBody sLaw) (defScope sLaw) [] [] f fd) (F : Bl mg) (G__law_draw : Df P w K mg base 1 "_law_draw" ["_law_script", "_law_salt"] (spDraw K)) (G__law_any : Df P w K mg base 1 "_law_any" ["_law_deal", "_law_bound"] spAny)
    (G__law_small : Dg P w K mg base 8 "_law_small" ["_law_deal"] spSmall) (G__law_counted : Dg P w K mg base 8 "_law_counted" ["_law_deal"] spSmall) : FnG P w K mg base CX0 9 f fd ["_law_script"] (spTop K) := by
  have nd := scTop.nd
  refine okG FF scTop (fun vs H Q E h => by obtain ⟨a, ns, rfl, _⟩ := h; rfl) fun cdv A outer s H vs Q E hG0 hr hsp =>
    have hG : (A.deeper (envOfC "law" (defScope sLaw) s.heap.objs.size f cdv)).guards = some [] := hG0
    have hr__law_draw := hr.mono (j := 1) (by decide)
    have hr__law_any := hr.mono (j := 1) (by decide)
    have hr__law_small := hr
    have hr__law_counted := hr
    ⟨_, PSs.nox (pss_cons (ps_set (i := 1) nd rfl (Or.inl rfl) (pe_df G__law_draw hr__law_draw (by rfl) (pa_cons (pv 0) (pa_cons pe_int pa_nil))))
  (pss_one (ps_ret (pe_ifExp (pt_cmpR op_gt (pe_df G__law_any hr__law_any (by rfl) (pa_cons (pv 1) (pa_cons pe_int pa_nil))) pe_int (nomark _)) (pe_dg hG G__law_small hr__law_small (by rfl) (pa_cons (pv 1) pa_nil)) (pe_dg hG G__law_counted hr__law_counted (by rfl) (pa_cons (pv 1) pa_nil)))))), ?_⟩
  obtain ⟨a, ns, rfl, hS, q⟩ := hsp
  refine ⟨_, rfl, a, ns, 52, rfl, hS, by decide, by decide, fun D C H1 s1 hd _ _ => ?_⟩
  refine t_any (σ := [some (.ref a), some (.ref D)]) (i := 1) (n := 3) rfl hd ed_int (by decide) fun z H2 db2 hd2 hz => ?_
  refine ⟨z, 0, rfl, rfl, _, rfl, ?_⟩
  cases decide ((0 : Int) < z) with
  | true => exact ⟨_, rfl, D, C, rfl, hd2, q⟩
  | false => exact ⟨_, rfl, D, C, rfl, hd2, q⟩
end K52
end
set_option Elab.async false
set_option linter.all false
set_option maxRecDepth 100000
set_option maxHeartbeats 0
/-! The law's end. -/
namespace K52
open PySem PySem.Spec PyProof.Rows L2
theorem bl_of {K : PySem.W.Frag} {h : Heap} {mg : Str → Option Value} (X : K.In h) (G : h.Ns mainGlobals mg) (c : He.SaysD faL fnL K) : Bl mg :=
  ⟨He.free_ok X G (c.fact 36 (f := .free "isinstance") rfl),
    He.free_ok X G (c.fact 37 (f := .free "int") rfl),
    He.free_ok X G (c.fact 38 (f := .free "bool") rfl),
    He.free_ok X G (c.fact 39 (f := .free "tuple") rfl),
    He.free_ok X G (c.fact 40 (f := .free "list") rfl),
    He.free_ok X G (c.fact 41 (f := .free "len") rfl),
    He.free_ok X G (c.fact 42 (f := .free "all") rfl),
    He.free_ok X G (c.fact 43 (f := .free "any") rfl),
    He.free_ok X G (c.fact 44 (f := .free "range") rfl),
    He.free_ok X G (c.fact 45 (f := .free "sum") rfl),
    He.free_ok X G (c.fact 46 (f := .free "enumerate") rfl),
    He.free_ok X G (c.fact 47 (f := .free "sorted") rfl),
    He.free_ok X G (c.fact 48 (f := .free "set") rfl),
    He.free_ok X G (c.fact 49 (f := .free "min") rfl),
    He.free_ok X G (c.fact 50 (f := .free "abs") rfl),
    He.free_ok X G (c.fact 51 (f := .free "repr") rfl)⟩
theorem at_IsInteger {K : PySem.W.Frag} {h : Heap} {mg : Str → Option Value} (X : K.In h) (G : h.Ns mainGlobals mg) (c : He.SaysD faL fnL K) : DefAt K mg "is_integer" sIsInteger := by
  obtain ⟨fd, F⟩ := c.def_ 0 (d := dIsInteger) rfl
  exact ⟨_, fd, F, He.glo_ok X G (c.fact 0 (f := .glo "is_integer") rfl)⟩
theorem at_IsNumber {K : PySem.W.Frag} {h : Heap} {mg : Str → Option Value} (X : K.In h) (G : h.Ns mainGlobals mg) (c : He.SaysD faL fnL K) : DefAt K mg "is_number" sIsNumber := by
  obtain ⟨fd, F⟩ := c.def_ 1 (d := dIsNumber) rfl
  exact ⟨_, fd, F, He.glo_ok X G (c.fact 1 (f := .glo "is_number") rfl)⟩
theorem at_IsIndex {K : PySem.W.Frag} {h : Heap} {mg : Str → Option Value} (X : K.In h) (G : h.Ns mainGlobals mg) (c : He.SaysD faL fnL K) : DefAt K mg "is_index" sIsIndex := by
  obtain ⟨fd, F⟩ := c.def_ 2 (d := dIsIndex) rfl
  exact ⟨_, fd, F, He.glo_ok X G (c.fact 2 (f := .glo "is_index") rfl)⟩
theorem at_IsRising {K : PySem.W.Frag} {h : Heap} {mg : Str → Option Value} (X : K.In h) (G : h.Ns mainGlobals mg) (c : He.SaysD faL fnL K) : DefAt K mg "is_rising" sIsRising := by
  obtain ⟨fd, F⟩ := c.def_ 3 (d := dIsRising) rfl
  exact ⟨_, fd, F, He.glo_ok X G (c.fact 3 (f := .glo "is_rising") rfl)⟩
theorem at_GiftsOn {K : PySem.W.Frag} {h : Heap} {mg : Str → Option Value} (X : K.In h) (G : h.Ns mainGlobals mg) (c : He.SaysD faL fnL K) : DefAt K mg "gifts_on" sGiftsOn := by
  obtain ⟨fd, F⟩ := c.def_ 4 (d := dGiftsOn) rfl
  exact ⟨_, fd, F, He.glo_ok X G (c.fact 4 (f := .glo "gifts_on") rfl)⟩
theorem at_IsTimetable {K : PySem.W.Frag} {h : Heap} {mg : Str → Option Value} (X : K.In h) (G : h.Ns mainGlobals mg) (c : He.SaysD faL fnL K) : DefAt K mg "is_timetable" sIsTimetable := by
  obtain ⟨fd, F⟩ := c.def_ 5 (d := dIsTimetable) rfl
  exact ⟨_, fd, F, He.glo_ok X G (c.fact 5 (f := .glo "is_timetable") rfl)⟩
theorem at_Together {K : PySem.W.Frag} {h : Heap} {mg : Str → Option Value} (X : K.In h) (G : h.Ns mainGlobals mg) (c : He.SaysD faL fnL K) : DefAt K mg "together" sTogether := by
  obtain ⟨fd, F⟩ := c.def_ 6 (d := dTogether) rfl
  exact ⟨_, fd, F, He.glo_ok X G (c.fact 6 (f := .glo "together") rfl)⟩
theorem at_IsFront {K : PySem.W.Frag} {h : Heap} {mg : Str → Option Value} (X : K.In h) (G : h.Ns mainGlobals mg) (c : He.SaysD faL fnL K) : DefAt K mg "is_front" sIsFront := by
  obtain ⟨fd, F⟩ := c.def_ 7 (d := dIsFront) rfl
  exact ⟨_, fd, F, He.glo_ok X G (c.fact 7 (f := .glo "is_front") rfl)⟩
theorem at_SharesOn {K : PySem.W.Frag} {h : Heap} {mg : Str → Option Value} (X : K.In h) (G : h.Ns mainGlobals mg) (c : He.SaysD faL fnL K) : DefAt K mg "shares_on" sSharesOn := by
  obtain ⟨fd, F⟩ := c.def_ 8 (d := dSharesOn) rfl
  exact ⟨_, fd, F, He.glo_ok X G (c.fact 8 (f := .glo "shares_on") rfl)⟩
theorem at_IsWithin {K : PySem.W.Frag} {h : Heap} {mg : Str → Option Value} (X : K.In h) (G : h.Ns mainGlobals mg) (c : He.SaysD faL fnL K) : DefAt K mg "is_within" sIsWithin := by
  obtain ⟨fd, F⟩ := c.def_ 9 (d := dIsWithin) rfl
  exact ⟨_, fd, F, He.glo_ok X G (c.fact 9 (f := .glo "is_within") rfl)⟩
theorem at_LeadsOn {K : PySem.W.Frag} {h : Heap} {mg : Str → Option Value} (X : K.In h) (G : h.Ns mainGlobals mg) (c : He.SaysD faL fnL K) : DefAt K mg "leads_on" sLeadsOn := by
  obtain ⟨fd, F⟩ := c.def_ 10 (d := dLeadsOn) rfl
  exact ⟨_, fd, F, He.glo_ok X G (c.fact 10 (f := .glo "leads_on") rfl)⟩
theorem at_AreFronts {K : PySem.W.Frag} {h : Heap} {mg : Str → Option Value} (X : K.In h) (G : h.Ns mainGlobals mg) (c : He.SaysD faL fnL K) : DefAt K mg "are_fronts" sAreFronts := by
  obtain ⟨fd, F⟩ := c.def_ 11 (d := dAreFronts) rfl
  exact ⟨_, fd, F, He.glo_ok X G (c.fact 11 (f := .glo "are_fronts") rfl)⟩
theorem at_DoneLater {K : PySem.W.Frag} {h : Heap} {mg : Str → Option Value} (X : K.In h) (G : h.Ns mainGlobals mg) (c : He.SaysD faL fnL K) : DefAt K mg "done_later" sDoneLater := by
  obtain ⟨fd, F⟩ := c.def_ 12 (d := dDoneLater) rfl
  exact ⟨_, fd, F, He.glo_ok X G (c.fact 12 (f := .glo "done_later") rfl)⟩
theorem at_DoneDays {K : PySem.W.Frag} {h : Heap} {mg : Str → Option Value} (X : K.In h) (G : h.Ns mainGlobals mg) (c : He.SaysD faL fnL K) : DefAt K mg "done_days" sDoneDays := by
  obtain ⟨fd, F⟩ := c.def_ 13 (d := dDoneDays) rfl
  exact ⟨_, fd, F, He.glo_ok X G (c.fact 13 (f := .glo "done_days") rfl)⟩
theorem at_Greatest {K : PySem.W.Frag} {h : Heap} {mg : Str → Option Value} (X : K.In h) (G : h.Ns mainGlobals mg) (c : He.SaysD faL fnL K) : DefAt K mg "greatest" sGreatest := by
  obtain ⟨fd, F⟩ := c.def_ 14 (d := dGreatest) rfl
  exact ⟨_, fd, F, He.glo_ok X G (c.fact 14 (f := .glo "greatest") rfl)⟩
theorem at_Fronts {K : PySem.W.Frag} {h : Heap} {mg : Str → Option Value} (X : K.In h) (G : h.Ns mainGlobals mg) (c : He.SaysD faL fnL K) : DefAt K mg "fronts" sFronts := by
  obtain ⟨fd, F⟩ := c.def_ 15 (d := dFronts) rfl
  exact ⟨_, fd, F, He.glo_ok X G (c.fact 15 (f := .glo "fronts") rfl)⟩
theorem at_AllJobs {K : PySem.W.Frag} {h : Heap} {mg : Str → Option Value} (X : K.In h) (G : h.Ns mainGlobals mg) (c : He.SaysD faL fnL K) : DefAt K mg "all_jobs" sAllJobs := by
  obtain ⟨fd, F⟩ := c.def_ 16 (d := dAllJobs) rfl
  exact ⟨_, fd, F, He.glo_ok X G (c.fact 16 (f := .glo "all_jobs") rfl)⟩
theorem at_IsDoneOn {K : PySem.W.Frag} {h : Heap} {mg : Str → Option Value} (X : K.In h) (G : h.Ns mainGlobals mg) (c : He.SaysD faL fnL K) : DefAt K mg "is_done_on" sIsDoneOn := by
  obtain ⟨fd, F⟩ := c.def_ 17 (d := dIsDoneOn) rfl
  exact ⟨_, fd, F, He.glo_ok X G (c.fact 17 (f := .glo "is_done_on") rfl)⟩
theorem at_ShareOn {K : PySem.W.Frag} {h : Heap} {mg : Str → Option Value} (X : K.In h) (G : h.Ns mainGlobals mg) (c : He.SaysD faL fnL K) : DefAt K mg "share_on" sShareOn := by
  obtain ⟨fd, F⟩ := c.def_ 18 (d := dShareOn) rfl
  exact ⟨_, fd, F, He.glo_ok X G (c.fact 18 (f := .glo "share_on") rfl)⟩
theorem at_TimetableWithin {K : PySem.W.Frag} {h : Heap} {mg : Str → Option Value} (X : K.In h) (G : h.Ns mainGlobals mg) (c : He.SaysD faL fnL K) : DefAt K mg "timetable_within" sTimetableWithin := by
  obtain ⟨fd, F⟩ := c.def_ 19 (d := dTimetableWithin) rfl
  exact ⟨_, fd, F, He.glo_ok X G (c.fact 19 (f := .glo "timetable_within") rfl)⟩
theorem at_IsDelayPaper {K : PySem.W.Frag} {h : Heap} {mg : Str → Option Value} (X : K.In h) (G : h.Ns mainGlobals mg) (c : He.SaysD faL fnL K) : DefAt K mg "is_delay_paper" sIsDelayPaper := by
  obtain ⟨fd, F⟩ := c.def_ 20 (d := dIsDelayPaper) rfl
  exact ⟨_, fd, F, He.glo_ok X G (c.fact 20 (f := .glo "is_delay_paper") rfl)⟩
theorem at_FewestDays {K : PySem.W.Frag} {h : Heap} {mg : Str → Option Value} (X : K.In h) (G : h.Ns mainGlobals mg) (c : He.SaysD faL fnL K) : DefAt K mg "fewest_days" sFewestDays := by
  obtain ⟨fd, F⟩ := c.def_ 21 (d := dFewestDays) rfl
  exact ⟨_, fd, F, He.glo_ok X G (c.fact 21 (f := .glo "fewest_days") rfl)⟩
theorem at_LawDraw {K : PySem.W.Frag} {h : Heap} {mg : Str → Option Value} (X : K.In h) (G : h.Ns mainGlobals mg) (c : He.SaysD faL fnL K) : DefAt K mg "_law_draw" sLawDraw := by
  obtain ⟨fd, F⟩ := c.def_ 22 (d := dLawDraw) rfl
  exact ⟨_, fd, F, He.glo_ok X G (c.fact 22 (f := .glo "_law_draw") rfl)⟩
theorem at_LawAny {K : PySem.W.Frag} {h : Heap} {mg : Str → Option Value} (X : K.In h) (G : h.Ns mainGlobals mg) (c : He.SaysD faL fnL K) : DefAt K mg "_law_any" sLawAny := by
  obtain ⟨fd, F⟩ := c.def_ 23 (d := dLawAny) rfl
  exact ⟨_, fd, F, He.glo_ok X G (c.fact 23 (f := .glo "_law_any") rfl)⟩
theorem at_LawOf {K : PySem.W.Frag} {h : Heap} {mg : Str → Option Value} (X : K.In h) (G : h.Ns mainGlobals mg) (c : He.SaysD faL fnL K) : DefAt K mg "_law_of" sLawOf := by
  obtain ⟨fd, F⟩ := c.def_ 24 (d := dLawOf) rfl
  exact ⟨_, fd, F, He.glo_ok X G (c.fact 24 (f := .glo "_law_of") rfl)⟩
theorem at_LawCalendar {K : PySem.W.Frag} {h : Heap} {mg : Str → Option Value} (X : K.In h) (G : h.Ns mainGlobals mg) (c : He.SaysD faL fnL K) : DefAt K mg "_law_calendar" sLawCalendar := by
  obtain ⟨fd, F⟩ := c.def_ 25 (d := dLawCalendar) rfl
  exact ⟨_, fd, F, He.glo_ok X G (c.fact 25 (f := .glo "_law_calendar") rfl)⟩
theorem at_LawJobs {K : PySem.W.Frag} {h : Heap} {mg : Str → Option Value} (X : K.In h) (G : h.Ns mainGlobals mg) (c : He.SaysD faL fnL K) : DefAt K mg "_law_jobs" sLawJobs := by
  obtain ⟨fd, F⟩ := c.def_ 26 (d := dLawJobs) rfl
  exact ⟨_, fd, F, He.glo_ok X G (c.fact 26 (f := .glo "_law_jobs") rfl)⟩
theorem at_LawShared {K : PySem.W.Frag} {h : Heap} {mg : Str → Option Value} (X : K.In h) (G : h.Ns mainGlobals mg) (c : He.SaysD faL fnL K) : DefAt K mg "_law_shared" sLawShared := by
  obtain ⟨fd, F⟩ := c.def_ 27 (d := dLawShared) rfl
  exact ⟨_, fd, F, He.glo_ok X G (c.fact 27 (f := .glo "_law_shared") rfl)⟩
theorem at_LawShares {K : PySem.W.Frag} {h : Heap} {mg : Str → Option Value} (X : K.In h) (G : h.Ns mainGlobals mg) (c : He.SaysD faL fnL K) : DefAt K mg "_law_shares" sLawShares := by
  obtain ⟨fd, F⟩ := c.def_ 28 (d := dLawShares) rfl
  exact ⟨_, fd, F, He.glo_ok X G (c.fact 28 (f := .glo "_law_shares") rfl)⟩
theorem at_LawIsLot {K : PySem.W.Frag} {h : Heap} {mg : Str → Option Value} (X : K.In h) (G : h.Ns mainGlobals mg) (c : He.SaysD faL fnL K) : DefAt K mg "_law_is_lot" sLawIsLot := by
  obtain ⟨fd, F⟩ := c.def_ 29 (d := dLawIsLot) rfl
  exact ⟨_, fd, F, He.glo_ok X G (c.fact 29 (f := .glo "_law_is_lot") rfl)⟩
theorem at_LawAreFronts {K : PySem.W.Frag} {h : Heap} {mg : Str → Option Value} (X : K.In h) (G : h.Ns mainGlobals mg) (c : He.SaysD faL fnL K) : DefAt K mg "_law_are_fronts" sLawAreFronts := by
  obtain ⟨fd, F⟩ := c.def_ 30 (d := dLawAreFronts) rfl
  exact ⟨_, fd, F, He.glo_ok X G (c.fact 30 (f := .glo "_law_are_fronts") rfl)⟩
theorem at_LawSpoilt {K : PySem.W.Frag} {h : Heap} {mg : Str → Option Value} (X : K.In h) (G : h.Ns mainGlobals mg) (c : He.SaysD faL fnL K) : DefAt K mg "_law_spoilt" sLawSpoilt := by
  obtain ⟨fd, F⟩ := c.def_ 31 (d := dLawSpoilt) rfl
  exact ⟨_, fd, F, He.glo_ok X G (c.fact 31 (f := .glo "_law_spoilt") rfl)⟩
theorem at_LawTabled {K : PySem.W.Frag} {h : Heap} {mg : Str → Option Value} (X : K.In h) (G : h.Ns mainGlobals mg) (c : He.SaysD faL fnL K) : DefAt K mg "_law_tabled" sLawTabled := by
  obtain ⟨fd, F⟩ := c.def_ 32 (d := dLawTabled) rfl
  exact ⟨_, fd, F, He.glo_ok X G (c.fact 32 (f := .glo "_law_tabled") rfl)⟩
theorem at_LawSmall {K : PySem.W.Frag} {h : Heap} {mg : Str → Option Value} (X : K.In h) (G : h.Ns mainGlobals mg) (c : He.SaysD faL fnL K) : DefAt K mg "_law_small" sLawSmall := by
  obtain ⟨fd, F⟩ := c.def_ 33 (d := dLawSmall) rfl
  exact ⟨_, fd, F, He.glo_ok X G (c.fact 33 (f := .glo "_law_small") rfl)⟩
theorem at_LawCounted {K : PySem.W.Frag} {h : Heap} {mg : Str → Option Value} (X : K.In h) (G : h.Ns mainGlobals mg) (c : He.SaysD faL fnL K) : DefAt K mg "_law_counted" sLawCounted := by
  obtain ⟨fd, F⟩ := c.def_ 34 (d := dLawCounted) rfl
  exact ⟨_, fd, F, He.glo_ok X G (c.fact 34 (f := .glo "_law_counted") rfl)⟩
theorem facts {P : Program} {w : World} {K : PySem.W.Frag} {h : Heap} {mg : Str → Option Value} {f : Addr} (X : K.In h) (G : h.Ns mainGlobals mg) (hfa : mg ("law" : Str) = some (.ref f)) (c : He.SaysD faL fnL K) :
    ∃ fd : FuncData, (∀ (s : Shared) (v : Value), BindsTo s fd ⟨[v], []⟩ [("_law_script", v)]) ∧ ∀ base : Heap, K.In base → base.Ns mainGlobals mg → FnG P w K mg base CX0 9 f fd ["_law_script"] (spTop K) := by
  obtain ⟨fd, FF⟩ := c.def_ 35 (d := dLaw) rfl
  have e := hfa.symm.trans (He.glo_ok X G (c.fact 35 (f := .glo "law") rfl))
  cases e
  have b := FunD.bindsA (ps := ["_law_script"]) FF fun _ _ _ _ _ _ us hl => match us, hl with | [_], _ => rfl
  have F := bl_of X G c
  refine ⟨fd, fun s v => b s [v] rfl, fun base _ _ => ?_⟩
  have G_is_integer := df_isInteger (P := P) (w := w) (base := base) F (at_IsInteger X G c)
  have G_is_number := df_isNumber (P := P) (w := w) (base := base) F (at_IsNumber X G c) G_is_integer
  have G_is_index := df_isIndex (P := P) (w := w) (base := base) F (at_IsIndex X G c) G_is_number
  have G_is_rising := df_isRising (P := P) (w := w) (base := base) F (at_IsRising X G c) G_is_index
  have G_gifts_on := df_giftsOn (P := P) (w := w) (base := base) F (at_GiftsOn X G c)
  have G_is_timetable := df_isTimetable (P := P) (w := w) (base := base) F (at_IsTimetable X G c) G_is_index G_gifts_on
  have G_together := df_together (P := P) (w := w) (base := base) F (at_Together X G c)
  have G_is_front := df_isFront (P := P) (w := w) (base := base) F (at_IsFront X G c) G_is_rising
  have G_shares_on := df_sharesOn (P := P) (w := w) (base := base) F (at_SharesOn X G c)
  have G_is_within := df_isWithin (P := P) (w := w) (base := base) F (at_IsWithin X G c)
  have G_leads_on := df_leadsOn (P := P) (w := w) (base := base) F (at_LeadsOn X G c) G_shares_on G_together G_is_within
  have G_are_fronts := df_areFronts (P := P) (w := w) (base := base) F (at_AreFronts X G c) G_is_front G_leads_on
  have G_done_later := df_doneLater (P := P) (w := w) (base := base) F (at_DoneLater X G c) G_together
  have G_done_days := df_doneDays (P := P) (w := w) (base := base) F (at_DoneDays X G c) G_done_later
  have G_greatest := df_greatest (P := P) (w := w) (base := base) F (at_Greatest X G c) G_together
  have G_fronts := df_fronts (P := P) (w := w) (base := base) F (at_Fronts X G c) G_done_days G_greatest
  have G_all_jobs := df_allJobs (P := P) (w := w) (base := base) F (at_AllJobs X G c)
  have G_is_done_on := df_isDoneOn (P := P) (w := w) (base := base) F (at_IsDoneOn X G c)
  have G_share_on := df_shareOn (P := P) (w := w) (base := base) F (at_ShareOn X G c) G_together G_is_done_on
  have G_timetable_within := df_timetable (P := P) (w := w) (base := base) F (at_TimetableWithin X G c) G_done_days G_all_jobs G_share_on
  have G_is_delay_paper := df_isDelay (P := P) (w := w) (base := base) F (at_IsDelayPaper X G c) G_are_fronts G_all_jobs
  have G_fewest_days := df_fewest (P := P) (w := w) (base := base) F (at_FewestDays X G c) G_all_jobs G_done_later
  have G__law_draw := df_draw (P := P) (w := w) (base := base) F (at_LawDraw X G c)
  have G__law_any := df_any (P := P) (w := w) (base := base) F (at_LawAny X G c)
  have G__law_of := df_of (P := P) (w := w) (base := base) F (at_LawOf X G c) G__law_any
  have G__law_calendar := df_cal (P := P) (w := w) (base := base) F (at_LawCalendar X G c) G__law_any G__law_of
  have G__law_jobs := df_jobs (P := P) (w := w) (base := base) F (at_LawJobs X G c) G__law_any G__law_of
  have G__law_shared := df_lawShared (P := P) (w := w) (base := base) F (at_LawShared X G c)
  have G__law_shares := df_lawShares (P := P) (w := w) (base := base) F (at_LawShares X G c)
  have G__law_is_lot := df_lawIsLot (P := P) (w := w) (base := base) F (at_LawIsLot X G c)
  have G__law_are_fronts := df_lawAreFronts (P := P) (w := w) (base := base) F (at_LawAreFronts X G c) G__law_is_lot G__law_shares
  have G__law_spoilt := df_spoilt (P := P) (w := w) (base := base) F (at_LawSpoilt X G c) G__law_any G__law_of
  have G__law_tabled := df_lawTabled (P := P) (w := w) (base := base) F (at_LawTabled X G c) G_timetable_within G_is_timetable
  have G__law_small := df_small (P := P) (w := w) (base := base) F (at_LawSmall X G c) G__law_calendar G__law_jobs G__law_shared G__law_tabled G_fronts G_is_delay_paper G__law_spoilt G__law_are_fronts G_fewest_days
  have G__law_counted := df_counted (P := P) (w := w) (base := base) F (at_LawCounted X G c) G__law_any G__law_of G__law_tabled G_fronts G_is_delay_paper G_fewest_days
  exact g_law FF F G__law_draw G__law_any G__law_small G__law_counted
end K52
open PySem PySem.W PySem.Calls PyProof.Rows
theorem PySem.Challenge.cw_givesifgets_k52_whole_timetable_or_paper_holds : PySem.Challenge.rw_givesifgets_k52_whole_timetable_or_paper.Holds := by
  w_on; o_law
  refine HandSHeadRun.head_any (r := OpenLaw.row PySem.Challenge.rw_givesifgets_k52_whole_timetable_or_paper) (q := view (OpenLaw.row PySem.Challenge.rw_givesifgets_k52_whole_timetable_or_paper).prog [43]) (H := K52.hkL) (ob := K52.obL) (M := 2000) (loose := K52.nmL) (d := HandSHeadRun.topDef (OpenLaw.row PySem.Challenge.rw_givesifgets_k52_whole_timetable_or_paper).prog 43) (kwd := []) K52.ob_eqL
    (by kernel_rfl) (fun s => by kernel_rfl) K52.runL (by kernel_rfl) (by kernel_rfl) (by kernel_rfl) (by rfl) (by first | assumption | decide +kernel) (by decide +kernel) ⟨rfl, rfl, rfl, rfl, rfl, by decide +kernel⟩ ?hw ?hc
  case hw => w_witness2
  case hc =>
    refine K52.walk_ofG (l := PySem.Challenge.rw_givesifgets_k52_whole_timetable_or_paper) (n := 63) (k := 9) (x := "_law_script") rfl (by decide) (by kernel_rfl) ⟨rfl, by decide, by decide⟩ ?F
    intro w mg fa h Y G hmg0
    obtain ⟨K, KX, c⟩ := Y
    have hmg : mg ("law" : PySem.Str) = some (.ref fa) := by
      have e : (HandSHeadRun.topDef (OpenLaw.row PySem.Challenge.rw_givesifgets_k52_whole_timetable_or_paper).prog 43).name = ("law" : PySem.Str) := by kernel_rfl
      rw [← e]
      exact hmg0
    obtain ⟨fd, hb, hF⟩ := K52.facts (P := (PySem.Challenge.rw_givesifgets_k52_whole_timetable_or_paper).prog) (w := w) KX G hmg c
    exact ⟨K, fd, K52.spTop K, KX, hb, fun H a ns hl hS => ⟨a, ns, rfl, hS, fun _ => rfl⟩, hF⟩
