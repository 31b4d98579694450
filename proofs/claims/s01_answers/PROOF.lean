import PyProof.Rows.All
import Wide.All
import OpenK.AllK
import Wide.FinOn
import Open.SpecLaws
import KE.OsGo
import PySem.Challenge.RW_stepfolk_s01_answers
import HandS.ForSpec
import HandS.Comp
import HandS.ExcInit
import HandS.ExcField
import HandS.TupAny
import HandS.SetFor
import HandS.Dict
import HandS.Zip
import KE.KDictKeyed
import KE.KDictLaw
set_option Elab.async false
set_option linter.all false
set_option maxRecDepth 100000
set_option maxHeartbeats 4000000
/-! SfMath: the mirror of stepfolk's loops in plain Lean, and that it answers as the specification does. No program in sight. -/
namespace Sf
abbrev Wk := Wm05.Work
abbrev ppl : List Nat := Wm05.people

/-! ### who is there, all ways to go on -/
def In6 (s : List Nat) : Prop := ∀ p ∈ s, p ∈ ppl
/-- those of s that aren't in g -/
def here (g s : List Nat) : List Nat := s.filter fun p => !g.contains p
theorem less_contains {g : List Nat} {p : Nat} (h : p ∈ ppl) : (Wm05.less ppl g).contains p = !g.contains p := by
  have e : p ∈ Wm05.less ppl g ↔ (!g.contains p) = true := by
    unfold Wm05.less
    rw [List.mem_filter]
    exact ⟨fun x => x.2, fun x => ⟨h, x⟩⟩
  cases c : (!g.contains p) with
  | true => exact List.contains_iff_mem.mpr (e.mpr c)
  | false =>
    cases d : (Wm05.less ppl g).contains p with
    | false => rfl
    | true =>
      have := e.mp (List.contains_iff_mem.mp d)
      rw [c] at this
      cases this
theorem here_eq {g s : List Nat} (h : In6 s) : (s.filter fun p => (Wm05.less ppl g).contains p) = here g s :=
  List.filter_congr fun p hp => less_contains (h p hp)
theorem here_length (g s : List Nat) : (here g s).length ≤ s.length := List.length_filter_le _ _
theorem here_sub {g s : List Nat} {p : Nat} (h : p ∈ here g s) : p ∈ s := (List.mem_filter.mp h).1
/-- one step more, in all ways -/
def ext (g : List Nat) (out : List (List Nat)) (s : List Nat) : List (List Nat) := out.flatMap fun pl => (here g s).map fun p => pl ++ [p]
/-- all ways through some steps, behind those of out -/
def allsFrom (g : List Nat) (out l : List (List Nat)) : List (List Nat) := l.foldl (ext g) out
def alls (g d : List Nat) (l : List (List Nat)) : List (List Nat) := allsFrom g [d] l
theorem flatMap_single {α : Type} : ∀ l : List α, (l.flatMap fun x => [x]) = l
  | [] => rfl
  | x :: l => by rw [List.flatMap_cons, flatMap_single l]; rfl
theorem allsFrom_rows {g : List Nat} : ∀ (l out : List (List Nat)), (∀ s ∈ l, In6 s) →
    allsFrom g out l = out.flatMap fun pl => (Wm05.rows (Wm05.less ppl g) l).map fun r => pl ++ r
  | [], out, _ => by
    have e : (fun pl : List Nat => (Wm05.rows (Wm05.less ppl g) []).map fun r => pl ++ r) = fun pl => [pl] := by
      funext pl
      show [pl ++ []] = [pl]
      rw [List.append_nil]
    rw [e, flatMap_single]
    rfl
  | s :: l, out, h => by
    show allsFrom g (ext g out s) l = _
    rw [allsFrom_rows l _ (fun x hx => h x (List.mem_cons_of_mem _ hx))]
    unfold ext
    rw [List.flatMap_assoc]
    congr 1
    funext pl
    show _ = ((s.filter fun p => (Wm05.less ppl g).contains p).flatMap fun p => (Wm05.rows (Wm05.less ppl g) l).map fun r => p :: r).map fun r => pl ++ r
    rw [here_eq (h s List.mem_cons_self), List.flatMap_map, List.map_flatMap]
    congr 1
    funext p
    rw [List.map_map]
    congr 1
    funext r
    show (pl ++ [p]) ++ r = pl ++ (p :: r)
    rw [List.append_assoc]
    rfl
theorem alls_rows {g d : List Nat} {l : List (List Nat)} (h : ∀ s ∈ l, In6 s) : alls g d l = (Wm05.rows (Wm05.less ppl g) l).map fun r => d ++ r := by
  unfold alls
  rw [allsFrom_rows l [d] h]
  simp
theorem alls_snoc (g d : List Nat) (l : List (List Nat)) (s : List Nat) : alls g d (l ++ [s]) = ext g (alls g d l) s := by
  unfold alls allsFrom
  rw [List.foldl_append]
  rfl
theorem ext_length {g s : List Nat} (hs : s.length ≤ 6) : ∀ out : List (List Nat), (ext g out s).length ≤ out.length * 6
  | [] => Nat.zero_le _
  | o :: out => by
    have ih := ext_length (g := g) hs out
    have h1 := here_length g s
    unfold ext at ih ⊢
    rw [List.flatMap_cons, List.length_append, List.length_map, List.length_cons]
    omega
theorem allsFrom_length {g : List Nat} : ∀ (l out : List (List Nat)), (∀ s ∈ l, s.length ≤ 6) → (allsFrom g out l).length ≤ out.length * 6 ^ l.length
  | [], out, _ => by
    show out.length ≤ out.length * 6 ^ 0
    omega
  | s :: l, out, h => by
    have ih := allsFrom_length (g := g) l (ext g out s) fun x hx => h x (List.mem_cons_of_mem _ hx)
    have h1 := ext_length (g := g) (h s List.mem_cons_self) out
    have h2 : (ext g out s).length * 6 ^ l.length ≤ (out.length * 6) * 6 ^ l.length := Nat.mul_le_mul_right _ h1
    have e : (out.length * 6) * 6 ^ l.length = out.length * 6 ^ (s :: l).length := by
      rw [List.length_cons, Nat.pow_succ, Nat.mul_assoc, Nat.mul_comm 6]
    show (allsFrom g (ext g out s) l).length ≤ _
    omega
/-- at most 7776 -/
theorem alls_length {g d : List Nat} {l : List (List Nat)} (h : ∀ s ∈ l, s.length ≤ 6) (h5 : l.length ≤ 5) : (alls g d l).length ≤ 7776 := by
  have a := allsFrom_length (g := g) l [d] h
  have b : 6 ^ l.length ≤ 6 ^ 5 := Nat.pow_le_pow_right (by decide) h5
  have e : [d].length * 6 ^ l.length = 6 ^ l.length := by simp
  have f : (6 : Nat) ^ 5 = 7776 := by decide
  show (allsFrom g [d] l).length ≤ 7776
  omega
theorem rows_mem {t : List Nat} : ∀ {l : List (List Nat)} {r : List Nat}, r ∈ Wm05.rows t l → r.length = l.length ∧ ∀ p ∈ r, p ∈ t
  | [], r, h => by
    have e : r = [] := by
      have h' : r ∈ [([] : List Nat)] := h
      simpa using h'
    subst e
    exact ⟨rfl, fun p hp => (nomatch hp)⟩
  | s :: l, r, h => by
    have h' : r ∈ (s.filter fun p => t.contains p).flatMap fun p => (Wm05.rows t l).map fun r => p :: r := h
    obtain ⟨p, hp, hr⟩ := List.mem_flatMap.mp h'
    obtain ⟨r', hr', e⟩ := List.mem_map.mp hr
    subst e
    obtain ⟨h1, h2⟩ := rows_mem hr'
    refine ⟨by rw [List.length_cons, List.length_cons, h1], fun q hq => ?_⟩
    rcases List.mem_cons.mp hq with e | hq
    · subst e
      exact List.contains_iff_mem.mp (List.mem_filter.mp hp).2
    · exact h2 q hq
theorem less_in6 (g : List Nat) : In6 (Wm05.less ppl g) := fun p hp => (List.mem_filter.mp hp).1
theorem alls_mem {g d : List Nat} {l : List (List Nat)} (h : ∀ s ∈ l, In6 s) (hd : In6 d) {pl : List Nat} (hp : pl ∈ alls g d l) : pl.length = d.length + l.length ∧ In6 pl ∧ ∃ r, pl = d ++ r := by
  rw [alls_rows h] at hp
  obtain ⟨r, hr, e⟩ := List.mem_map.mp hp
  subst e
  obtain ⟨h1, h2⟩ := rows_mem hr
  refine ⟨by rw [List.length_append, h1], fun p hq => ?_, r, rfl⟩
  rcases List.mem_append.mp hq with hq | hq
  · exact hd p hq
  · exact less_in6 g p (h2 p hq)

/-! ### plans -/
def rest (w : Wk) : List (List Nat) := w.steps.drop w.done.length
/-- all plans without g -/
def pls (w : Wk) (g : List Nat) : List (List Nat) := (alls g w.done (rest w)).filter (Wm05.fine w)
theorem less_nil : Wm05.less ppl [] = ppl := by decide
theorem rest_in {w : Wk} {P : List Nat → Prop} (h : ∀ s ∈ w.steps, P s) : ∀ s ∈ rest w, P s := fun s hs => h s (List.mem_of_mem_drop hs)
theorem plans_pls {w : Wk} (h : ∀ s ∈ w.steps, In6 s) (g : List Nat) : Wm05.plans w (Wm05.less ppl g) = pls w g := by
  unfold pls
  rw [alls_rows (rest_in h)]
  rfl
theorem plans_all {w : Wk} (h : ∀ s ∈ w.steps, In6 s) : Wm05.plans w ppl = pls w [] := by
  have e := plans_pls h []
  rw [less_nil] at e
  exact e

/-! ### rising lists -/
theorem rises_tail {a : Nat} : ∀ {l : List Nat}, Wm05.rises (a :: l) = true → Wm05.rises l = true ∧ ∀ x ∈ l, a < x
  | [], _ => ⟨rfl, fun x hx => nomatch hx⟩
  | b :: l, h => by
    have h' : (decide (a < b) && Wm05.rises (b :: l)) = true := h
    rw [Bool.and_eq_true, decide_eq_true_eq] at h'
    obtain ⟨_, h2⟩ := rises_tail h'.2
    refine ⟨h'.2, fun x hx => ?_⟩
    rcases List.mem_cons.mp hx with e | hx
    · rw [e]; exact h'.1
    · exact Nat.lt_trans h'.1 (h2 x hx)
theorem rises_length : ∀ {l : List Nat} {lo hi : Nat}, Wm05.rises l = true → (∀ x ∈ l, lo ≤ x ∧ x < hi) → lo ≤ hi → l.length ≤ hi - lo
  | [], _, _, _, _, _ => Nat.zero_le _
  | a :: l, lo, hi, h, hb, hl => by
    obtain ⟨h1, h2⟩ := rises_tail h
    have ha := hb a List.mem_cons_self
    have ih := rises_length (l := l) (lo := a + 1) (hi := hi) h1 (fun x hx => ⟨h2 x hx, (hb x (List.mem_cons_of_mem _ hx)).2⟩) ha.2
    rw [List.length_cons]
    omega
theorem mem_ppl {p : Nat} : p ∈ ppl ↔ 1 ≤ p ∧ p ≤ 6 := by
  constructor
  · intro h
    have : p = 1 ∨ p = 2 ∨ p = 3 ∨ p = 4 ∨ p = 5 ∨ p = 6 := by simpa [ppl, Wm05.people] using h
    omega
  · intro h
    have : p = 1 ∨ p = 2 ∨ p = 3 ∨ p = 4 ∨ p = 5 ∨ p = 6 := by omega
    simpa [ppl, Wm05.people] using this
theorem isPeople_iff {l : List Nat} : Wm05.isPeople l = true ↔ Wm05.rises l = true ∧ In6 l := by
  unfold Wm05.isPeople
  rw [Bool.and_eq_true, List.all_eq_true]
  constructor
  · intro h
    refine ⟨h.1, fun p hp => ?_⟩
    have := h.2 p hp
    rw [Bool.and_eq_true, decide_eq_true_eq, decide_eq_true_eq] at this
    exact mem_ppl.mpr this
  · intro h
    refine ⟨h.1, fun p hp => ?_⟩
    rw [Bool.and_eq_true, decide_eq_true_eq, decide_eq_true_eq]
    exact mem_ppl.mp (h.2 p hp)
theorem people_length {l : List Nat} (h : Wm05.isPeople l = true) : l.length ≤ 6 := by
  obtain ⟨h1, h2⟩ := isPeople_iff.mp h
  exact rises_length (lo := 1) (hi := 7) h1 (fun x hx => by have := mem_ppl.mp (h2 x hx); omega) (by decide)
theorem isStep_iff {w : Wk} {i : Nat} : Wm05.isStep w i = true ↔ 1 ≤ i ∧ i ≤ w.steps.length := by
  unfold Wm05.isStep
  rw [Bool.and_eq_true, decide_eq_true_eq, decide_eq_true_eq]
theorem isSteps_iff {w : Wk} {l : List Nat} : Wm05.isSteps w l = true ↔ Wm05.rises l = true ∧ ∀ i ∈ l, 1 ≤ i ∧ i ≤ w.steps.length := by
  unfold Wm05.isSteps
  rw [Bool.and_eq_true, List.all_eq_true]
  exact ⟨fun h => ⟨h.1, fun i hi => isStep_iff.mp (h.2 i hi)⟩, fun h => ⟨h.1, fun i hi => isStep_iff.mpr (h.2 i hi)⟩⟩
/-- the program's own look: from before on they rise, and none is above most -/
def rise (most : Nat) : Nat → List Nat → Bool
  | _, [] => true
  | b, n :: l => if n ≤ b ∨ n > most then false else rise most n l
theorem rise_from {most : Nat} : ∀ {l : List Nat} {b : Nat}, rise most b l = true ↔ Wm05.rises l = true ∧ ∀ x ∈ l, b < x ∧ x ≤ most
  | [], b => ⟨fun _ => ⟨rfl, fun x hx => nomatch hx⟩, fun _ => rfl⟩
  | a :: l, b => by
    unfold rise
    by_cases c : a ≤ b ∨ a > most
    · rw [if_pos c]
      refine ⟨fun h => Bool.noConfusion h, fun h => ?_⟩
      have := h.2 a List.mem_cons_self
      omega
    · rw [if_neg c, rise_from (l := l) (b := a)]
      constructor
      · intro h
        refine ⟨?_, fun x hx => ?_⟩
        · cases l with
          | nil => rfl
          | cons y l =>
            show (decide (a < y) && Wm05.rises (y :: l)) = true
            rw [h.1, Bool.and_true, decide_eq_true_eq]
            exact (h.2 y List.mem_cons_self).1
        · rcases List.mem_cons.mp hx with e | hx
          · rw [e]; omega
          · have := h.2 x hx; omega
      · intro h
        obtain ⟨h1, h2⟩ := rises_tail h.1
        exact ⟨h1, fun x hx => ⟨h2 x hx, (h.2 x (List.mem_cons_of_mem _ hx)).2⟩⟩
theorem rise_people {l : List Nat} : rise 6 0 l = Wm05.isPeople l := by
  cases h : Wm05.isPeople l with
  | true =>
    obtain ⟨h1, h2⟩ := isPeople_iff.mp h
    exact rise_from.mpr ⟨h1, fun x hx => by have := mem_ppl.mp (h2 x hx); omega⟩
  | false =>
    cases c : rise 6 0 l with
    | false => rfl
    | true =>
      obtain ⟨h1, h2⟩ := rise_from.mp c
      have : Wm05.isPeople l = true := isPeople_iff.mpr ⟨h1, fun x hx => mem_ppl.mpr (by have := h2 x hx; omega)⟩
      rw [h] at this
      cases this
theorem rise_steps {w : Wk} {l : List Nat} : rise w.steps.length 0 l = Wm05.isSteps w l := by
  cases h : Wm05.isSteps w l with
  | true =>
    obtain ⟨h1, h2⟩ := isSteps_iff.mp h
    exact rise_from.mpr ⟨h1, fun x hx => by have := h2 x hx; omega⟩
  | false =>
    cases c : rise w.steps.length 0 l with
    | false => rfl
    | true =>
      obtain ⟨h1, h2⟩ := rise_from.mp c
      have : Wm05.isSteps w l = true := isSteps_iff.mpr ⟨h1, fun x hx => by have := h2 x hx; omega⟩
      rw [h] at this
      cases this

/-! ### what holds of the work between two calls -/
def RuleOk (n : Nat) : Wm05.Rule → Prop
  | .same i j => (1 ≤ i ∧ i ≤ n) ∧ 1 ≤ j ∧ j ≤ n
  | .apart i j => (1 ≤ i ∧ i ≤ n) ∧ 1 ≤ j ∧ j ≤ n
  | .least _ l => l.length ≤ 5 ∧ ∀ i ∈ l, 1 ≤ i ∧ i ≤ n
  | .most _ l => l.length ≤ 5 ∧ ∀ i ∈ l, 1 ≤ i ∧ i ≤ n
theorem RuleOk.more {n m : Nat} {r : Wm05.Rule} (h : RuleOk n r) (hm : n ≤ m) : RuleOk m r := by
  cases r with
  | same i j => exact ⟨⟨h.1.1, Nat.le_trans h.1.2 hm⟩, h.2.1, Nat.le_trans h.2.2 hm⟩
  | apart i j => exact ⟨⟨h.1.1, Nat.le_trans h.1.2 hm⟩, h.2.1, Nat.le_trans h.2.2 hm⟩
  | least k l => exact ⟨h.1, fun i hi => ⟨(h.2 i hi).1, Nat.le_trans (h.2 i hi).2 hm⟩⟩
  | most k l => exact ⟨h.1, fun i hi => ⟨(h.2 i hi).1, Nat.le_trans (h.2 i hi).2 hm⟩⟩
structure WF (w : Wk) : Prop where
  few : w.steps.length ≤ 5
  ppl : ∀ s ∈ w.steps, Wm05.isPeople s = true
  rul : ∀ r ∈ w.rules, RuleOk w.steps.length r
  nr : w.rules.length ≤ 8
  dn : w.done.length ≤ w.steps.length
  dp : In6 w.done
theorem WF.in6 {w : Wk} (h : WF w) : ∀ s ∈ w.steps, In6 s := fun s hs => (isPeople_iff.mp (h.ppl s hs)).2
theorem WF.six {w : Wk} (h : WF w) : ∀ s ∈ w.steps, s.length ≤ 6 := fun s hs => people_length (h.ppl s hs)
theorem WF.start : WF Wm05.init := ⟨by decide, fun s hs => (nomatch hs), fun s hs => (nomatch hs), by decide, by decide, fun s hs => (nomatch hs)⟩
theorem rest_length {w : Wk} (h : WF w) : (rest w).length = w.steps.length - w.done.length := List.length_drop
theorem WF.plan {w : Wk} (h : WF w) {g pl : List Nat} (hp : pl ∈ alls g w.done (rest w)) : pl.length = w.steps.length ∧ In6 pl ∧ ∃ r, pl = w.done ++ r := by
  obtain ⟨h1, h2, h3⟩ := alls_mem (rest_in h.in6) h.dp hp
  refine ⟨?_, h2, h3⟩
  rw [h1, rest_length h]
  have := h.dn
  omega
theorem WF.alls_length {w : Wk} (h : WF w) (g : List Nat) (k : Nat) : (alls g w.done ((rest w).take k)).length ≤ 7776 := by
  refine Sf.alls_length (fun s hs => rest_in h.six s (List.mem_of_mem_take hs)) ?_
  rw [List.length_take, rest_length h]
  have := h.few
  omega
end Sf

/-! SfMath2: rules kept, groups, who may go on, who is away. -/
namespace Sf
/-! ### rules, as the program asks them -/
/-- the different ones of a row of whole numbers, as they are met -/
def diff (l : List Int) : List Int := l.foldl (fun a k => if a.any (· == k) then a else a ++ [k]) []
def zs (l : List Nat) : List Int := l.map fun (n : Nat) => (n : Int)
theorem zs_nil : zs [] = [] := rfl
theorem zs_cons (a : Nat) (l : List Nat) : zs (a :: l) = (a : Int) :: zs l := rfl
theorem zs_length (l : List Nat) : (zs l).length = l.length := List.length_map ..
theorem zs_append (a b : List Nat) : zs (a ++ b) = zs a ++ zs b := List.map_append
theorem mem_zs {k : Nat} {l : List Nat} : (k : Int) ∈ zs l ↔ k ∈ l := by
  unfold zs
  rw [List.mem_map]
  constructor
  · rintro ⟨a, ha, e⟩
    have : a = k := by omega
    rw [← this]; exact ha
  · exact fun h => ⟨k, h, rfl⟩
theorem once_mem {a k : Nat} : ∀ {l : List Nat}, k ∈ Wm05.once a l ↔ k = a ∨ k ∈ l
  | [] => by
    show k ∈ [a] ↔ _
    simp
  | x :: l => by
    unfold Wm05.once
    by_cases c : a < x
    · rw [if_pos c, List.mem_cons]
    · rw [if_neg c]
      by_cases d : x = a
      · rw [if_pos d, d, List.mem_cons]
        constructor
        · intro h; rcases h with h | h
          · exact .inl h
          · exact .inr (.inr h)
        · intro h; rcases h with h | h | h
          · exact .inl h
          · exact .inl h
          · exact .inr h
      · rw [if_neg d, List.mem_cons, once_mem (l := l), List.mem_cons]
        constructor
        · intro h; rcases h with h | h | h
          · exact .inr (.inl h)
          · exact .inl h
          · exact .inr (.inr h)
        · intro h; rcases h with h | h | h
          · exact .inr (.inl h)
          · exact .inl h
          · exact .inr (.inr h)
theorem once_sorted {a : Nat} : ∀ {l : List Nat}, l.Pairwise (· < ·) → (Wm05.once a l).Pairwise (· < ·)
  | [], _ => List.pairwise_singleton _ _
  | x :: l, h => by
    rw [List.pairwise_cons] at h
    unfold Wm05.once
    by_cases c : a < x
    · rw [if_pos c, List.pairwise_cons, List.pairwise_cons]
      refine ⟨fun y hy => ?_, h.1, h.2⟩
      rcases List.mem_cons.mp hy with e | hy
      · rw [e]; exact c
      · exact Nat.lt_trans c (h.1 y hy)
    · rw [if_neg c]
      by_cases d : x = a
      · rw [if_pos d, List.pairwise_cons]; exact h
      · rw [if_neg d, List.pairwise_cons]
        refine ⟨fun y hy => ?_, once_sorted h.2⟩
        rcases once_mem.mp hy with e | hy
        · rw [e]; omega
        · exact h.1 y hy
theorem once_length {a : Nat} : ∀ {l : List Nat}, l.Pairwise (· < ·) → (Wm05.once a l).length = if a ∈ l then l.length else l.length + 1
  | [], _ => rfl
  | x :: l, h => by
    rw [List.pairwise_cons] at h
    unfold Wm05.once
    by_cases c : a < x
    · have no : ¬ a ∈ x :: l := by
        intro hm
        rcases List.mem_cons.mp hm with e | hm
        · omega
        · have := h.1 a hm; omega
      rw [if_pos c, if_neg no]
      rfl
    · rw [if_neg c]
      by_cases d : x = a
      · rw [if_pos d, if_pos (by rw [d]; exact List.mem_cons_self)]
      · rw [if_neg d, List.length_cons, once_length h.2]
        have e : a ∈ x :: l ↔ a ∈ l := by
          rw [List.mem_cons]
          exact ⟨fun z => z.elim (fun q => absurd q.symm d) id, .inr⟩
        by_cases m : a ∈ l
        · rw [if_pos m, if_pos (e.mpr m)]; rfl
        · rw [if_neg m, if_neg (fun z => m (e.mp z))]; rfl
theorem any_beq {k : Int} : ∀ {l : List Int}, (l.any (· == k)) = true ↔ k ∈ l := by
  intro l
  rw [List.any_eq_true]
  constructor
  · rintro ⟨x, hx, e⟩
    have : x = k := eq_of_beq e
    rw [← this]; exact hx
  · exact fun h => ⟨k, h, beq_self_eq_true k⟩
theorem diff_go : ∀ (l : List Nat) (σ : List Int) (r : List Nat), r.Pairwise (· < ·) → (∀ k : Nat, (k : Int) ∈ σ ↔ k ∈ r) → σ.length = r.length →
    ((zs l).foldl (fun a k => if a.any (· == k) then a else a ++ [k]) σ).length = (l.foldl (fun r a => Wm05.once a r) r).length
  | [], σ, r, _, _, hl => hl
  | n :: l, σ, r, hs, hm, hl => by
    show ((zs l).foldl _ (if σ.any (· == (n : Int)) then σ else σ ++ [(n : Int)])).length = (l.foldl _ (Wm05.once n r)).length
    refine diff_go l _ _ (once_sorted hs) (fun k => ?_) ?_
    · by_cases c : (σ.any (· == (n : Int))) = true
      · rw [if_pos c, once_mem, hm k]
        have : n ∈ r := (hm n).mp (any_beq.mp c)
        exact ⟨.inr, fun z => z.elim (fun q => by rw [q]; exact this) id⟩
      · rw [if_neg c, once_mem, List.mem_append, hm k]
        constructor
        · rintro (h | h)
          · exact .inr h
          · have : (k : Int) = n := by simpa using h
            exact .inl (by omega)
        · rintro (h | h)
          · exact .inr (by rw [h]; exact List.mem_cons_self)
          · exact .inl h
    · rw [once_length hs]
      by_cases c : (σ.any (· == (n : Int))) = true
      · rw [if_pos c, if_pos ((hm n).mp (any_beq.mp c)), hl]
      · rw [if_neg c, if_neg (fun z => c (any_beq.mpr ((hm n).mpr z))), List.length_append, hl]
        rfl
theorem diff_length (l : List Nat) : (diff (zs l)).length = (Wm05.setOf l).length :=
  diff_go l [] [] .nil (fun k => ⟨fun h => (nomatch h), fun h => (nomatch h)⟩) rfl
theorem zs_count (l : List Nat) (k : Nat) : (zs l).count (k : Int) = l.count k := by
  induction l with
  | nil => rfl
  | cons a l ih =>
    rw [zs_cons, List.count_cons, List.count_cons, ih]
    congr 1
    by_cases c : a = k
    · rw [c]; simp
    · have : ¬ ((a : Int) = (k : Int)) := by omega
      simp [c, this]
/-- a rule's kind, its number, its steps, as the program holds them -/
def rKind : Wm05.Rule → Nat
  | .same _ _ => 0
  | .apart _ _ => 1
  | .least _ _ => 2
  | .most _ _ => 3
def rNum : Wm05.Rule → Nat
  | .same _ _ => 0
  | .apart _ _ => 0
  | .least k _ => k
  | .most k _ => k
def rSteps : Wm05.Rule → List Nat
  | .same i j => [i, j]
  | .apart i j => [i, j]
  | .least _ l => l
  | .most _ l => l
theorem RuleOk.steps {n : Nat} {r : Wm05.Rule} (h : RuleOk n r) : (rSteps r).length ≤ 5 ∧ ∀ i ∈ rSteps r, 1 ≤ i ∧ i ≤ n := by
  cases r with
  | same i j =>
    refine ⟨(show 2 ≤ 5 by decide), fun x hx => ?_⟩
    rcases List.mem_cons.mp hx with e | hx
    · rw [e]; exact h.1
    · rcases List.mem_cons.mp hx with e | hx
      · rw [e]; exact h.2
      · exact nomatch hx
  | apart i j =>
    refine ⟨(show 2 ≤ 5 by decide), fun x hx => ?_⟩
    rcases List.mem_cons.mp hx with e | hx
    · rw [e]; exact h.1
    · rcases List.mem_cons.mp hx with e | hx
      · rw [e]; exact h.2
      · exact nomatch hx
  | least k l => exact h
  | most k l => exact h
/-- who does the steps of a rule -/
def whoDo (a : List Nat) (l : List Nat) : List Nat := l.map (Wm05.doer a)
theorem doer_at {a : List Nat} {i : Nat} (h1 : 1 ≤ i) (h2 : i ≤ a.length) : a[i - 1]? = some (Wm05.doer a i) := by
  unfold Wm05.doer
  rw [List.getD_eq_getElem?_getD, List.getElem?_eq_getElem (by omega)]
  rfl
theorem doer_in6 {a : List Nat} (ha : In6 a) {i : Nat} (h1 : 1 ≤ i) (h2 : i ≤ a.length) : Wm05.doer a i ∈ ppl := ha _ (List.mem_of_getElem? (doer_at h1 h2))
theorem keeps_same {a : List Nat} {i j : Nat} : Wm05.keeps a (.same i j) = decide (Wm05.doer a i = Wm05.doer a j) := by
  show (Wm05.doer a i == Wm05.doer a j) = _
  exact Bool.beq_eq_decide_eq _ _
theorem keeps_apart {a : List Nat} {i j : Nat} : Wm05.keeps a (.apart i j) = !decide (Wm05.doer a i = Wm05.doer a j) := by
  show (!(Wm05.doer a i == Wm05.doer a j)) = _
  rw [Bool.beq_eq_decide_eq]
theorem keeps_least {a : List Nat} {k : Nat} {l : List Nat} : Wm05.keeps a (.least k l) = decide (k ≤ (diff (zs (whoDo a l))).length) := by
  rw [diff_length]
  rfl
theorem count_do (a : List Nat) (p : Nat) (l : List Nat) : (whoDo a l).count p = (l.filter fun i => Wm05.doer a i == p).length := by
  unfold whoDo
  rw [List.count_eq_countP, List.countP_map, List.countP_eq_length_filter]
  rfl
theorem keeps_most {a : List Nat} {k : Nat} {l : List Nat} (h : In6 (whoDo a l)) : Wm05.keeps a (.most k l) = (whoDo a l).all fun p => decide ((whoDo a l).count p ≤ k) := by
  show (ppl.all fun p => decide ((l.filter fun i => Wm05.doer a i == p).length ≤ k)) = _
  rw [Bool.eq_iff_iff, List.all_eq_true, List.all_eq_true]
  constructor
  · intro x p hp
    rw [count_do]
    exact x p (h p hp)
  · intro x p hp
    rw [← count_do]
    by_cases c : p ∈ whoDo a l
    · exact x p c
    · rw [List.count_eq_zero_of_not_mem c]
      exact decide_eq_true (Nat.zero_le _)

/-! ### groups -/
def grow (out : List (List Nat)) : List (List Nat) := out.flatMap fun g => (ppl.filter fun p => g.isEmpty || decide (g.getLastD 0 < p)).map fun p => g ++ [p]
def grps : Nat → List (List Nat)
  | 0 => [[]]
  | k + 1 => grow (grps k)
def upTo (k : Nat) : List (List Nat) := (List.range (k + 1)).flatMap fun j => Wm05.choices j ppl
theorem grps_eq : ∀ k, k ≤ 6 → grps k = Wm05.choices k ppl := by
  intro k hk
  have : k = 0 ∨ k = 1 ∨ k = 2 ∨ k = 3 ∨ k = 4 ∨ k = 5 ∨ k = 6 := by omega
  rcases this with e | e | e | e | e | e | e <;> subst e <;> decide +kernel
theorem grps_in6 : ∀ (k : Nat) (g : List Nat), g ∈ grps k → In6 g ∧ g.length = k
  | 0, g, h => by
    have e : g = [] := by
      have h' : g ∈ [([] : List Nat)] := h
      simpa using h'
    subst e
    exact ⟨fun p hp => (nomatch hp), rfl⟩
  | k + 1, g, h => by
    have h' : g ∈ grow (grps k) := h
    obtain ⟨g', hg', hp⟩ := List.mem_flatMap.mp h'
    obtain ⟨p, hpm, e⟩ := List.mem_map.mp hp
    subst e
    obtain ⟨h1, h2⟩ := grps_in6 k g' hg'
    refine ⟨fun q hq => ?_, by rw [List.length_append, h2]; rfl⟩
    rcases List.mem_append.mp hq with hq | hq
    · exact h1 q hq
    · rw [List.mem_singleton.mp hq]
      exact (List.mem_filter.mp hpm).1
theorem grps_few : ∀ k, k ≤ 6 → (grps k).length ≤ 20 := by
  intro k hk
  have : k = 0 ∨ k = 1 ∨ k = 2 ∨ k = 3 ∨ k = 4 ∨ k = 5 ∨ k = 6 := by omega
  rcases this with e | e | e | e | e | e | e <;> subst e <;> decide +kernel
theorem upTo_eq {k : Nat} (hk : k ≤ 6) : upTo k = (List.range (k + 1)).flatMap grps := by
  unfold upTo
  rw [List.flatMap_def, List.flatMap_def]
  congr 1
  refine List.map_congr_left fun j hj => ?_
  rw [grps_eq j (by have := List.mem_range.mp hj; omega)]
theorem upTo_in6 {k : Nat} (hk : k ≤ 6) {g : List Nat} (h : g ∈ upTo k) : In6 g := by
  rw [upTo_eq hk] at h
  obtain ⟨j, _, hj⟩ := List.mem_flatMap.mp h
  exact (grps_in6 j g hj).1
theorem upTo_nil (k : Nat) : [] ∈ upTo k := by
  unfold upTo
  exact List.mem_flatMap.mpr ⟨0, List.mem_range.mpr (Nat.succ_pos _), List.mem_cons_self⟩

/-! ### away for good -/
def good (w : Wk) (most : Nat) : List (List Nat) → List Nat → List Nat → Bool
  | [], ds, _ => Wm05.fine w ds
  | s :: l, ds, g => (upTo most).all fun g' => !(g.all fun p => g'.contains p) || s.any fun p => !g'.contains p && good w most l (ds ++ [p]) g'
theorem away_pairs : ∀ most : Nat, most ≤ 2 → ∀ g ∈ upTo most,
    ((List.range (most - g.length + 1)).flatMap fun j => (Wm05.choices j (Wm05.less ppl g)).map fun c => (Wm05.less (Wm05.less ppl g) c, most - g.length - j)) =
      ((upTo most).filter fun g' => g.all fun p => g'.contains p).map fun g' => (Wm05.less ppl g', most - g'.length) := by
  intro most hm
  have : most = 0 ∨ most = 1 ∨ most = 2 := by omega
  rcases this with e | e | e <;> subst e <;> decide +kernel
theorem all_pairs {α β : Type} (l : List α) (f : α → List β) (P : β → Bool) : (l.all fun a => (f a).all P) = (l.flatMap f).all P := by
  induction l with
  | nil => rfl
  | cons a l ih => rw [List.all_cons, List.flatMap_cons, List.all_append, ih]
theorem all_filter {α : Type} (l : List α) (q P : α → Bool) : (l.filter q).all P = l.all fun x => !q x || P x := by
  induction l with
  | nil => rfl
  | cons a l ih =>
    rw [List.filter_cons, List.all_cons]
    cases c : q a with
    | true => rw [if_pos rfl, List.all_cons, ih, Bool.not_true, Bool.false_or]
    | false => rw [if_neg (by decide), ih, Bool.not_false, Bool.true_or, Bool.true_and]
theorem any_filter {α : Type} (l : List α) (q P : α → Bool) : (l.filter q).any P = l.any fun x => q x && P x := by
  induction l with
  | nil => rfl
  | cons a l ih =>
    rw [List.filter_cons, List.any_cons]
    cases c : q a with
    | true => rw [if_pos rfl, List.any_cons, ih, Bool.true_and]
    | false => rw [if_neg (by decide), ih, Bool.false_and, Bool.false_or]
theorem any_congr {α : Type} {l : List α} {P P' : α → Bool} (h : ∀ x ∈ l, P x = P' x) : l.any P = l.any P' := by
  induction l with
  | nil => rfl
  | cons a l ih => rw [List.any_cons, List.any_cons, h a List.mem_cons_self, ih fun x hx => h x (List.mem_cons_of_mem _ hx)]
theorem all_congr {α : Type} {l : List α} {P P' : α → Bool} (h : ∀ x ∈ l, P x = P' x) : l.all P = l.all P' := by
  induction l with
  | nil => rfl
  | cons a l ih => rw [List.all_cons, List.all_cons, h a List.mem_cons_self, ih fun x hx => h x (List.mem_cons_of_mem _ hx)]
theorem leaving_good {w : Wk} {most : Nat} (hm : most ≤ 2) : ∀ (l : List (List Nat)) (ds g : List Nat), (∀ s ∈ l, In6 s) → g ∈ upTo most →
    Wm05.leaving l { w with done := ds } (Wm05.less ppl g) (most - g.length) = good w most l ds g
  | [], ds, g, _, _ => rfl
  | s :: l, ds, g, hs, hg => by
    show ((List.range (most - g.length + 1)).all fun j => (Wm05.choices j (Wm05.less ppl g)).all fun c =>
      (s.filter fun p => (Wm05.less (Wm05.less ppl g) c).contains p).any fun p => Wm05.leaving l { w with done := ds ++ [p] } (Wm05.less (Wm05.less ppl g) c) (most - g.length - j)) = _
    have e1 : (fun j => (Wm05.choices j (Wm05.less ppl g)).all fun c =>
        (s.filter fun p => (Wm05.less (Wm05.less ppl g) c).contains p).any fun p => Wm05.leaving l { w with done := ds ++ [p] } (Wm05.less (Wm05.less ppl g) c) (most - g.length - j)) =
        fun j => ((Wm05.choices j (Wm05.less ppl g)).map fun c => (Wm05.less (Wm05.less ppl g) c, most - g.length - j)).all fun q =>
          (s.filter fun p => q.1.contains p).any fun p => Wm05.leaving l { w with done := ds ++ [p] } q.1 q.2 := by
      funext j
      rw [List.all_map]
      rfl
    rw [e1, all_pairs, away_pairs most hm g hg, List.all_map, all_filter]
    show _ = (upTo most).all fun g' => !(g.all fun p => g'.contains p) || s.any fun p => !g'.contains p && good w most l (ds ++ [p]) g'
    refine all_congr fun g' hg' => ?_
    congr 1
    show ((s.filter fun p => (Wm05.less ppl g').contains p).any fun p => Wm05.leaving l { w with done := ds ++ [p] } (Wm05.less ppl g') (most - g'.length)) = _
    rw [any_filter]
    refine any_congr fun p hp => ?_
    rw [less_contains (hs s List.mem_cons_self p hp), leaving_good hm l (ds ++ [p]) g' (fun x hx => hs x (List.mem_cons_of_mem _ hx)) hg']
theorem leaving_all {w : Wk} {most : Nat} (hm : most ≤ 2) (h : ∀ s ∈ w.steps, In6 s) : Wm05.leaving (Wm05.rest w) w ppl most = good w most (rest w) w.done [] := by
  have e := leaving_good (w := w) hm (rest w) w.done [] (rest_in h) (upTo_nil most)
  rw [less_nil] at e
  exact e
/-- away by turns -/
def turns (w : Wk) (most : Nat) (l : List (List Nat)) (ds : List Nat) : Bool := Wm05.turns l { w with done := ds } most
theorem turns_nil {w : Wk} {most : Nat} {ds : List Nat} : turns w most [] ds = Wm05.fine w ds := rfl
theorem turns_cons {w : Wk} {most : Nat} {s : List Nat} {l : List (List Nat)} {ds : List Nat} : turns w most (s :: l) ds = decide (most < (s.filter fun p => turns w most l (ds ++ [p])).length) := rfl
theorem turns_all {w : Wk} {most : Nat} : Wm05.turns (Wm05.rest w) w most = turns w most (rest w) w.done := rfl
theorem fixed_eq {w : Wk} (h : ∀ s ∈ w.steps, In6 s) (k : Nat) : Wm05.fixed w k = (upTo k).all fun c => !(pls w c).isEmpty := by
  have e : (fun c => !(Wm05.plans w (Wm05.less ppl c)).isEmpty) = fun c => !(pls w c).isEmpty := by
    funext c
    rw [plans_pls h c]
  unfold Wm05.fixed upTo
  rw [← all_pairs]
  show _ = (List.range (k + 1)).all fun a => (Wm05.choices a ppl).all fun c => !(pls w c).isEmpty
  rw [← e]
theorem breaks_eq {w : Wk} (h : ∀ s ∈ w.steps, In6 s) : Wm05.breaks w = (((List.range 7).flatMap grps).find? fun c => (pls w c).isEmpty).getD ppl := by
  have e : (fun c => (Wm05.plans w (Wm05.less ppl c)).isEmpty) = fun c => (pls w c).isEmpty := by
    funext c
    rw [plans_pls h c]
  have e2 : ((List.range 7).flatMap fun k => Wm05.choices k ppl) = (List.range 7).flatMap grps := by
    have := upTo_eq (k := 6) (Nat.le_refl _)
    unfold upTo at this
    exact this
  unfold Wm05.breaks
  rw [← e, ← e2]

/-! ### who may go on -/
theorem filter_sub {P : Nat → Bool} : ∀ {l s : List Nat}, l.Pairwise (· < ·) → Wm05.rises s = true → (∀ x ∈ s, x ∈ l) → (l.filter fun p => s.contains p && P p) = s.filter P
  | [], s, _, _, hs => by
    cases s with
    | nil => rfl
    | cons a s => exact absurd (hs a List.mem_cons_self) (fun h => nomatch h)
  | x :: l, s, hl, hr, hs => by
    rw [List.pairwise_cons] at hl
    cases s with
    | nil =>
      have : (fun p => ([] : List Nat).contains p && P p) = fun _ => false := by
        funext p
        rfl
      rw [this]
      simp
    | cons a s =>
      obtain ⟨r1, r2⟩ := rises_tail hr
      by_cases c : x = a
      · subst c
        have sub : ∀ y ∈ s, y ∈ l := fun y hy => by
          rcases List.mem_cons.mp (hs y (List.mem_cons_of_mem _ hy)) with e | h
          · have := r2 y hy; omega
          · exact h
        have ih := filter_sub (P := P) hl.2 r1 sub
        have e : (l.filter fun p => (x :: s).contains p && P p) = l.filter fun p => s.contains p && P p := by
          refine List.filter_congr fun p hp => ?_
          have : p ≠ x := by have := hl.1 p hp; omega
          rw [List.contains_cons]
          have : (p == x) = false := by simpa using this
          rw [this, Bool.false_or]
        rw [List.filter_cons, List.filter_cons, e, ih]
        have : ((x :: s).contains x && P x) = P x := by
          rw [List.contains_cons, beq_self_eq_true, Bool.true_or, Bool.true_and]
        rw [this]
      · have sub : ∀ y ∈ a :: s, y ∈ l := fun y hy => by
          rcases List.mem_cons.mp (hs y hy) with e | h
          · exfalso
            subst e
            rcases List.mem_cons.mp hy with e | hy
            · exact c e
            · have h1 := r2 y hy
              have h2 : a ∈ l := by
                rcases List.mem_cons.mp (hs a List.mem_cons_self) with e | h
                · exact absurd e.symm c
                · exact h
              have := hl.1 a h2
              omega
          · exact h
        have ih := filter_sub (P := P) hl.2 hr sub
        have no : ((a :: s).contains x && P x) = false := by
          have : ¬ x ∈ a :: s := by
            intro hx
            rcases List.mem_cons.mp hx with e | hx
            · exact c e
            · have := r2 x hx
              have h2 : a ∈ l := sub a List.mem_cons_self
              have := hl.1 a h2
              omega
          have : (a :: s).contains x = false := by
            cases d : (a :: s).contains x with
            | false => rfl
            | true => exact absurd (List.contains_iff_mem.mp d) this
          rw [this, Bool.false_and]
        rw [List.filter_cons, no]
        exact ih
theorem ppl_sorted : ppl.Pairwise (· < ·) := by decide
/-- who may do the next step, as the program looks for them -/
def nexts (w : Wk) : List Nat := ppl.filter fun p => (pls w []).any fun pl => decide (pl.getD w.done.length 0 = p)
theorem drop_at {α : Type} {l : List α} {n : Nat} {x : α} (h : l[n]? = some x) : l.drop n = x :: l.drop (n + 1) := by
  obtain ⟨h1, h2⟩ := List.getElem?_eq_some_iff.mp h
  rw [List.drop_eq_getElem_cons h1, h2]
theorem here_nil (s : List Nat) : here [] s = s := by
  unfold here
  have : (fun p : Nat => !([] : List Nat).contains p) = fun _ => true := by
    funext p
    rfl
  rw [this]
  simp
theorem who_eq {w : Wk} (h : WF w) {s : List Nat} (hs : w.steps[w.done.length]? = some s) : Wm05.who w = nexts w := by
  have hin : s ∈ w.steps := List.mem_of_getElem? hs
  have hp := isPeople_iff.mp (h.ppl s hin)
  have er : rest w = s :: w.steps.drop (w.done.length + 1) := drop_at hs
  have e1 : Wm05.who w = s.filter fun p => !(Wm05.plans { w with done := w.done ++ [p] } Wm05.people).isEmpty := by
    unfold Wm05.who
    rw [hs]
  rw [e1, ← filter_sub (P := fun p => !(Wm05.plans { w with done := w.done ++ [p] } Wm05.people).isEmpty) ppl_sorted hp.1 hp.2]
  unfold nexts
  refine List.filter_congr fun p hpp => ?_
  -- both say: p is in s, and there is a plan that goes on with p
  have sub : ∀ t ∈ w.steps.drop (w.done.length + 1), In6 t := fun t ht => h.in6 t (List.mem_of_mem_drop ht)
  have key : ∀ r, r ∈ Wm05.rows ppl (w.steps.drop (w.done.length + 1)) → ((w.done ++ p :: r) ∈ (alls [] w.done (rest w)) ↔ p ∈ s) := by
    intro r hr
    rw [alls_rows (rest_in h.in6), less_nil, er]
    constructor
    · intro hm
      obtain ⟨q, hq, e⟩ := List.mem_map.mp hm
      have hq' : q ∈ (s.filter fun p => ppl.contains p).flatMap fun p => (Wm05.rows ppl (w.steps.drop (w.done.length + 1))).map fun r => p :: r := hq
      obtain ⟨p', hp', hr'⟩ := List.mem_flatMap.mp hq'
      obtain ⟨r', _, e'⟩ := List.mem_map.mp hr'
      have e2 : w.done ++ q = w.done ++ p :: r := e
      have e3 := List.append_cancel_left e2
      rw [← e'] at e3
      obtain ⟨e4, _⟩ := List.cons.inj e3
      rw [← e4]
      exact (List.mem_filter.mp hp').1
    · intro hps
      refine List.mem_map.mpr ⟨p :: r, ?_, rfl⟩
      show p :: r ∈ (s.filter fun p => ppl.contains p).flatMap fun p => (Wm05.rows ppl (w.steps.drop (w.done.length + 1))).map fun r => p :: r
      exact List.mem_flatMap.mpr ⟨p, List.mem_filter.mpr ⟨hps, List.contains_iff_mem.mpr (hp.2 p hps)⟩, List.mem_map.mpr ⟨r, hr, rfl⟩⟩
  have fine_same : ∀ a, Wm05.fine { w with done := w.done ++ [p] } a = Wm05.fine w a := fun _ => rfl
  have left : (Wm05.plans { w with done := w.done ++ [p] } Wm05.people).isEmpty = false ↔ ∃ r ∈ Wm05.rows ppl (w.steps.drop (w.done.length + 1)), Wm05.fine w (w.done ++ p :: r) = true := by
    have el : (w.done ++ [p]).length = w.done.length + 1 := by rw [List.length_append]; rfl
    unfold Wm05.plans
    show (((Wm05.rows ppl (w.steps.drop (w.done ++ [p]).length)).map fun r => (w.done ++ [p]) ++ r).filter (Wm05.fine { w with done := w.done ++ [p] })).isEmpty = false ↔ _
    rw [el, List.isEmpty_eq_false_iff_exists_mem]
    constructor
    · rintro ⟨x, hx⟩
      obtain ⟨hx1, hx2⟩ := List.mem_filter.mp hx
      obtain ⟨r, hr, e⟩ := List.mem_map.mp hx1
      refine ⟨r, hr, ?_⟩
      rw [← e, List.append_assoc] at hx2
      exact hx2
    · rintro ⟨r, hr, hf⟩
      refine ⟨(w.done ++ [p]) ++ r, List.mem_filter.mpr ⟨List.mem_map.mpr ⟨r, hr, rfl⟩, ?_⟩⟩
      rw [List.append_assoc]
      exact hf
  rw [Bool.eq_iff_iff, Bool.and_eq_true, List.any_eq_true, Bool.not_eq_true', left]
  constructor
  · rintro ⟨hc, r, hr, hf⟩
    refine ⟨w.done ++ p :: r, List.mem_filter.mpr ⟨(key r hr).mpr (List.contains_iff_mem.mp hc), hf⟩, ?_⟩
    rw [List.getD_eq_getElem?_getD, List.getElem?_append_right (Nat.le_refl _), Nat.sub_self]
    exact decide_eq_true rfl
  · rintro ⟨pl, hpl, e⟩
    obtain ⟨h1, h2⟩ := List.mem_filter.mp hpl
    have h1' := h1
    rw [alls_rows (rest_in h.in6), less_nil, er] at h1
    obtain ⟨q, hq, e2⟩ := List.mem_map.mp h1
    have hq' : q ∈ (s.filter fun p => ppl.contains p).flatMap fun p => (Wm05.rows ppl (w.steps.drop (w.done.length + 1))).map fun r => p :: r := hq
    obtain ⟨p', hp', hr'⟩ := List.mem_flatMap.mp hq'
    obtain ⟨r, hr, e'⟩ := List.mem_map.mp hr'
    have e3 : pl = w.done ++ p' :: r := by rw [← e2, ← e']
    have e4 : p' = p := by
      have := of_decide_eq_true e
      rw [e3, List.getD_eq_getElem?_getD, List.getElem?_append_right (Nat.le_refl _), Nat.sub_self] at this
      exact this
    subst e4
    rw [e3] at h2
    exact ⟨List.contains_iff_mem.mpr (List.mem_filter.mp hp').1, r, hr, h2⟩
end Sf

/-! SfMath3: what holds between two calls stays so; calls read off a flat list. No program in sight. -/
namespace Sf
/-! ### the work stays well -/
theorem WF.rule {w : Wk} (h : WF w) {q : Wm05.Rule} (hq : RuleOk w.steps.length q) : WF (Wm05.addRule w q).1 := by
  unfold Wm05.addRule
  by_cases c : 8 ≤ w.rules.length
  · rw [if_pos c]; exact h
  · rw [if_neg c]
    refine ⟨h.few, h.ppl, fun r hr => ?_, ?_, h.dn, h.dp⟩
    · rcases List.mem_append.mp hr with hr | hr
      · exact h.rul r hr
      · rw [List.mem_singleton.mp hr]; exact hq
    · show (w.rules ++ [q]).length ≤ 8
      rw [List.length_append]
      show w.rules.length + 1 ≤ 8
      omega
theorem WF.step {w : Wk} (h : WF w) (c : Wm05.Call) : WF (Wm05.step w c).1 := by
  cases c with
  | step l =>
    show WF (if Wm05.isPeople l = false then (w, [-1]) else if 5 ≤ w.steps.length then (w, [-5]) else ({ w with steps := w.steps ++ [l] }, Wm05.ints [w.steps.length + 1])).1
    by_cases c1 : Wm05.isPeople l = false
    · rw [if_pos c1]; exact h
    rw [if_neg c1]
    by_cases c2 : 5 ≤ w.steps.length
    · rw [if_pos c2]; exact h
    rw [if_neg c2]
    have el : (w.steps ++ [l]).length = w.steps.length + 1 := by rw [List.length_append]; rfl
    have hp : Wm05.isPeople l = true := by cases e : Wm05.isPeople l with | true => rfl | false => exact absurd e c1
    refine ⟨?_, fun s hs => ?_, fun r hr => ?_, h.nr, ?_, h.dp⟩
    · show (w.steps ++ [l]).length ≤ 5
      omega
    · rcases List.mem_append.mp hs with hs | hs
      · exact h.ppl s hs
      · rw [List.mem_singleton.mp hs]; exact hp
    · show RuleOk (w.steps ++ [l]).length r
      rw [el]
      exact (h.rul r hr).more (Nat.le_succ _)
    · show w.done.length ≤ (w.steps ++ [l]).length
      have := h.dn
      omega
  | allow i l =>
    show WF (if Wm05.isStep w i = false ∨ Wm05.isPeople l = false then (w, [-1]) else if i ≤ w.done.length then (w, [-6]) else ({ w with steps := w.steps.set (i - 1) l }, [0])).1
    by_cases c1 : Wm05.isStep w i = false ∨ Wm05.isPeople l = false
    · rw [if_pos c1]; exact h
    rw [if_neg c1]
    by_cases c2 : i ≤ w.done.length
    · rw [if_pos c2]; exact h
    rw [if_neg c2]
    have hp : Wm05.isPeople l = true := by cases e : Wm05.isPeople l with | true => rfl | false => exact absurd (.inr e) c1
    refine ⟨?_, fun s hs => ?_, fun r hr => ?_, h.nr, ?_, h.dp⟩
    · show (w.steps.set (i - 1) l).length ≤ 5
      rw [List.length_set]; exact h.few
    · rcases List.mem_or_eq_of_mem_set hs with hs | hs
      · exact h.ppl s hs
      · rw [hs]; exact hp
    · show RuleOk (w.steps.set (i - 1) l).length r
      rw [List.length_set]; exact h.rul r hr
    · show w.done.length ≤ (w.steps.set (i - 1) l).length
      rw [List.length_set]; exact h.dn
  | same i j =>
    show WF (if Wm05.isStep w i = false ∨ Wm05.isStep w j = false ∨ i = j then (w, [-1]) else Wm05.addRule w (.same i j)).1
    by_cases c1 : Wm05.isStep w i = false ∨ Wm05.isStep w j = false ∨ i = j
    · rw [if_pos c1]; exact h
    rw [if_neg c1]
    refine h.rule ⟨?_, ?_⟩
    · cases e : Wm05.isStep w i with
      | true => exact isStep_iff.mp e
      | false => exact absurd (.inl e) c1
    · cases e : Wm05.isStep w j with
      | true => exact isStep_iff.mp e
      | false => exact absurd (.inr (.inl e)) c1
  | apart i j =>
    show WF (if Wm05.isStep w i = false ∨ Wm05.isStep w j = false ∨ i = j then (w, [-1]) else Wm05.addRule w (.apart i j)).1
    by_cases c1 : Wm05.isStep w i = false ∨ Wm05.isStep w j = false ∨ i = j
    · rw [if_pos c1]; exact h
    rw [if_neg c1]
    refine h.rule ⟨?_, ?_⟩
    · cases e : Wm05.isStep w i with
      | true => exact isStep_iff.mp e
      | false => exact absurd (.inl e) c1
    · cases e : Wm05.isStep w j with
      | true => exact isStep_iff.mp e
      | false => exact absurd (.inr (.inl e)) c1
  | least k l =>
    show WF (if Wm05.isSteps w l = false then (w, [-1]) else Wm05.addRule w (.least k l)).1
    by_cases c1 : Wm05.isSteps w l = false
    · rw [if_pos c1]; exact h
    rw [if_neg c1]
    have hs : Wm05.isSteps w l = true := by cases e : Wm05.isSteps w l with | true => rfl | false => exact absurd e c1
    obtain ⟨h1, h2⟩ := isSteps_iff.mp hs
    refine h.rule ⟨?_, h2⟩
    have := rises_length (lo := 1) (hi := w.steps.length + 1) h1 (fun x hx => ⟨(h2 x hx).1, Nat.lt_succ_of_le (h2 x hx).2⟩) (by omega)
    have := h.few
    omega
  | most k l =>
    show WF (if Wm05.isSteps w l = false then (w, [-1]) else Wm05.addRule w (.most k l)).1
    by_cases c1 : Wm05.isSteps w l = false
    · rw [if_pos c1]; exact h
    rw [if_neg c1]
    have hs : Wm05.isSteps w l = true := by cases e : Wm05.isSteps w l with | true => rfl | false => exact absurd e c1
    obtain ⟨h1, h2⟩ := isSteps_iff.mp hs
    refine h.rule ⟨?_, h2⟩
    have := rises_length (lo := 1) (hi := w.steps.length + 1) h1 (fun x hx => ⟨(h2 x hx).1, Nat.lt_succ_of_le (h2 x hx).2⟩) (by omega)
    have := h.few
    omega
  | strike n =>
    show WF (if w.rules.length ≤ n then (w, [-2]) else ({ w with rules := w.rules.take n ++ w.rules.drop (n + 1) }, Wm05.ints [w.rules.length - 1])).1
    by_cases c1 : w.rules.length ≤ n
    · rw [if_pos c1]; exact h
    rw [if_neg c1]
    refine ⟨h.few, h.ppl, fun r hr => ?_, ?_, h.dn, h.dp⟩
    · rcases List.mem_append.mp hr with hr | hr
      · exact h.rul r (List.mem_of_mem_take hr)
      · exact h.rul r (List.mem_of_mem_drop hr)
    · show (w.rules.take n ++ w.rules.drop (n + 1)).length ≤ 8
      rw [List.length_append, List.length_take, List.length_drop]
      have := h.nr
      omega
  | plan l => exact h
  | plans => exact h
  | who => exact h
  | did p =>
    show WF (match w.steps[w.done.length]? with
      | none => (w, [-3])
      | some s => if s.contains p = false then (w, [-6]) else if (Wm05.who w).contains p = false then (w, [-7]) else ({ w with done := w.done ++ [p] }, Wm05.ints [w.steps.length - (w.done.length + 1)])).1
    cases e : w.steps[w.done.length]? with
    | none => exact h
    | some s =>
      show WF (if s.contains p = false then (w, [-6]) else if (Wm05.who w).contains p = false then (w, [-7]) else ({ w with done := w.done ++ [p] }, Wm05.ints [w.steps.length - (w.done.length + 1)])).1
      by_cases c1 : s.contains p = false
      · rw [if_pos c1]; exact h
      rw [if_neg c1]
      by_cases c2 : (Wm05.who w).contains p = false
      · rw [if_pos c2]; exact h
      rw [if_neg c2]
      obtain ⟨h1, h2⟩ := List.getElem?_eq_some_iff.mp e
      have hp : p ∈ s := by
        cases z : s.contains p with
        | true => exact List.contains_iff_mem.mp z
        | false => exact absurd z c1
      refine ⟨h.few, h.ppl, h.rul, h.nr, ?_, fun q hq => ?_⟩
      · show (w.done ++ [p]).length ≤ w.steps.length
        rw [List.length_append]
        exact h1
      · rcases List.mem_append.mp hq with hq | hq
        · exact h.dp q hq
        · rw [List.mem_singleton.mp hq]
          exact h.in6 s (List.mem_of_getElem? e) p hp
  | undo =>
    show WF (if w.done.isEmpty = true then (w, [-3]) else ({ w with done := w.done.dropLast }, Wm05.ints [w.done.length - 1])).1
    by_cases c1 : w.done.isEmpty = true
    · rw [if_pos c1]; exact h
    rw [if_neg c1]
    refine ⟨h.few, h.ppl, h.rul, h.nr, ?_, fun q hq => h.dp q (List.mem_of_mem_take (by rw [← List.dropLast_eq_take]; exact hq))⟩
    show w.done.dropLast.length ≤ w.steps.length
    rw [List.length_dropLast]
    have := h.dn
    omega
  | breaks => exact h
  | away g k => exact h
  | needed => exact h

/-! ### calls as the program reads them -/
def eNum : Wm05.Call → Nat
  | .step _ => 0
  | .allow _ _ => 1
  | .same _ _ => 2
  | .apart _ _ => 3
  | .least _ _ => 4
  | .most _ _ => 5
  | .strike _ => 6
  | .plan _ => 7
  | .plans => 8
  | .who => 9
  | .did _ => 10
  | .undo => 11
  | .breaks => 12
  | .away _ _ => 13
  | .needed => 14
def eNums : Wm05.Call → List Nat
  | .allow i _ => [i]
  | .same i j => [i, j]
  | .apart i j => [i, j]
  | .least k _ => [k]
  | .most k _ => [k]
  | .strike n => [n]
  | .did p => [p]
  | .away g k => [g, k]
  | _ => []
def eRow : Wm05.Call → List Nat
  | .step l => l
  | .allow _ l => l
  | .least _ l => l
  | .most _ l => l
  | .plan l => l
  | _ => []
/-- those that change nothing -/
def asks : Wm05.Call → Bool
  | .plan _ => true
  | .plans => true
  | .who => true
  | .breaks => true
  | .away _ _ => true
  | .needed => true
  | _ => false
/-- of each call: how many numbers, how many rows -/
def forms : List (Nat × Nat) := [(0, 1), (1, 1), (2, 0), (2, 0), (1, 1), (1, 1), (1, 0), (0, 1), (0, 0), (0, 0), (1, 0), (0, 0), (0, 0), (2, 0), (0, 0)]
theorem shape_forms {p : Int} {n k : Nat} (h : PyWm05.shape p = some (n, k)) : ∃ q : Nat, p = (q : Int) ∧ forms[q]? = some (n, k) ∧ k ≤ 1 ∧ q ≤ 14 := by
  unfold PyWm05.shape at h
  by_cases c0 : p = 0
  · rw [if_pos c0] at h; cases h; exact ⟨0, c0, rfl, by decide, by decide⟩
  rw [if_neg c0] at h
  by_cases c1 : p = 1
  · rw [if_pos c1] at h; cases h; exact ⟨1, c1, rfl, by decide, by decide⟩
  rw [if_neg c1] at h
  by_cases c2 : p = 2
  · rw [if_pos c2] at h; cases h; exact ⟨2, c2, rfl, by decide, by decide⟩
  rw [if_neg c2] at h
  by_cases c3 : p = 3
  · rw [if_pos c3] at h; cases h; exact ⟨3, c3, rfl, by decide, by decide⟩
  rw [if_neg c3] at h
  by_cases c4 : p = 4
  · rw [if_pos c4] at h; cases h; exact ⟨4, c4, rfl, by decide, by decide⟩
  rw [if_neg c4] at h
  by_cases c5 : p = 5
  · rw [if_pos c5] at h; cases h; exact ⟨5, c5, rfl, by decide, by decide⟩
  rw [if_neg c5] at h
  by_cases c6 : p = 6
  · rw [if_pos c6] at h; cases h; exact ⟨6, c6, rfl, by decide, by decide⟩
  rw [if_neg c6] at h
  by_cases c7 : p = 7
  · rw [if_pos c7] at h; cases h; exact ⟨7, c7, rfl, by decide, by decide⟩
  rw [if_neg c7] at h
  by_cases c8 : p = 8
  · rw [if_pos c8] at h; cases h; exact ⟨8, c8, rfl, by decide, by decide⟩
  rw [if_neg c8] at h
  by_cases c9 : p = 9
  · rw [if_pos c9] at h; cases h; exact ⟨9, c9, rfl, by decide, by decide⟩
  rw [if_neg c9] at h
  by_cases c10 : p = 10
  · rw [if_pos c10] at h; cases h; exact ⟨10, c10, rfl, by decide, by decide⟩
  rw [if_neg c10] at h
  by_cases c11 : p = 11
  · rw [if_pos c11] at h; cases h; exact ⟨11, c11, rfl, by decide, by decide⟩
  rw [if_neg c11] at h
  by_cases c12 : p = 12
  · rw [if_pos c12] at h; cases h; exact ⟨12, c12, rfl, by decide, by decide⟩
  rw [if_neg c12] at h
  by_cases c13 : p = 13
  · rw [if_pos c13] at h; cases h; exact ⟨13, c13, rfl, by decide, by decide⟩
  rw [if_neg c13] at h
  by_cases c14 : p = 14
  · rw [if_pos c14] at h; cases h; exact ⟨14, c14, rfl, by decide, by decide⟩
  rw [if_neg c14] at h
  cases h
/-- what is read of a call that begins at at_: its number q, its numbers, its row, where it ends -/
structure Cut (cs : List Int) (at_ q n k : Nat) (row : List Int) (to : Nat) : Prop where
  num : cs[at_]? = some (q : Int)
  form : forms[q]? = some (n, k)
  rows : (k = 0 ∧ row = [] ∧ to = at_ + 1 + n) ∨ (k = 1 ∧ ∃ sz : Nat, cs[at_ + 1 + n]? = some (sz : Int) ∧ row = (cs.drop (at_ + 1 + n + 1)).take sz ∧ to = at_ + 1 + n + 1 + sz)
theorem drop_head {α : Type} {l : List α} {n : Nat} {x : α} {r : List α} (h : l.drop n = x :: r) : l[n]? = some x ∧ l.drop (n + 1) = r := by
  constructor
  · have := congrArg (fun z => z[0]?) h
    simpa using this
  · have : (l.drop n).drop 1 = r := by rw [h]; rfl
    rw [List.drop_drop] at this
    exact this
theorem call_cut {cs : List Int} {at_ : Nat} {c : List (List Int)} {t : List Int} (h : PyFlat.call PyWm05.shape (cs.drop at_) = some (c, t)) :
    ∃ (q n k : Nat) (row : List Int) (to : Nat), Cut cs at_ q n k row to ∧ t = cs.drop to ∧ c = ((q : Int) :: (cs.drop (at_ + 1)).take n) :: (if k = 0 then [] else [row]) ∧ ((cs.drop (at_ + 1)).take n).length = n := by
  cases e : cs.drop at_ with
  | nil => rw [e] at h; cases h
  | cons p r =>
    rw [e] at h
    obtain ⟨g1, g2⟩ := drop_head e
    have h' : (match PyWm05.shape p with
      | none => none
      | some (n, k) => if r.length < n then none else match PyFlat.rows k (r.drop n) with
        | none => none
        | some (xs, t) => some ((p :: r.take n) :: xs, t)) = some (c, t) := h
    cases es : PyWm05.shape p with
    | none => rw [es] at h'; cases h'
    | some nk =>
      obtain ⟨n, k⟩ := nk
      rw [es] at h'
      have h2 : (if r.length < n then none else match PyFlat.rows k (r.drop n) with
        | none => none
        | some (xs, t) => some ((p :: r.take n) :: xs, t)) = some (c, t) := h'
      by_cases c1 : r.length < n
      · rw [if_pos c1] at h2; cases h2
      rw [if_neg c1] at h2
      obtain ⟨q, eq, ef, hk, _⟩ := shape_forms es
      have ln : ((cs.drop (at_ + 1)).take n).length = n := by
        rw [g2, List.length_take]
        omega
      have edrop : cs.drop (at_ + 1 + n) = r.drop n := by rw [← g2, List.drop_drop]
      cases k with
      | zero =>
        have h3 : some ((p :: r.take n) :: ([] : List (List Int)), r.drop n) = some (c, t) := h2
        obtain ⟨e1, e2⟩ := Prod.mk.inj (Option.some.inj h3)
        refine ⟨q, n, 0, [], at_ + 1 + n, ⟨by rw [g1, eq], ef, .inl ⟨rfl, rfl, rfl⟩⟩, ?_, ?_, ln⟩
        · rw [edrop, e2]
        · rw [← e1, eq, g2]
          rfl
      | succ k =>
        have hk0 : k = 0 := by omega
        subst hk0
        have h3 : (match PyFlat.rows 1 (r.drop n) with
          | none => none
          | some (xs, t) => some ((p :: r.take n) :: xs, t)) = some (c, t) := h2
        cases er : PyFlat.row (r.drop n) with
        | none =>
          have : PyFlat.rows 1 (r.drop n) = none := by
            show (match PyFlat.row (r.drop n) with
              | none => none
              | some (x, s) => match PyFlat.rows 0 s with
                | none => none
                | some (xs, t) => some (x :: xs, t)) = none
            rw [er]
          rw [this] at h3
          cases h3
        | some xs =>
          obtain ⟨x, s⟩ := xs
          have : PyFlat.rows 1 (r.drop n) = some ([x], s) := by
            show (match PyFlat.row (r.drop n) with
              | none => none
              | some (x, s) => match PyFlat.rows 0 s with
                | none => none
                | some (xs, t) => some (x :: xs, t)) = some ([x], s)
            rw [er]
            rfl
          rw [this] at h3
          obtain ⟨e1, e2⟩ := Prod.mk.inj (Option.some.inj h3)
          cases ed : r.drop n with
          | nil => rw [ed] at er; cases er
          | cons z y =>
            rw [ed] at er edrop
            have er' : (if 0 ≤ z ∧ z.toNat ≤ y.length then some (y.take z.toNat, y.drop z.toNat) else none) = some (x, s) := er
            by_cases cz : 0 ≤ z ∧ z.toNat ≤ y.length
            · rw [if_pos cz] at er'
              obtain ⟨f1, f2⟩ := Prod.mk.inj (Option.some.inj er')
              obtain ⟨d1, d2⟩ := drop_head edrop
              refine ⟨q, n, 1, x, at_ + 1 + n + 1 + z.toNat, ⟨by rw [g1, eq], ef, .inr ⟨rfl, z.toNat, ?_, ?_, rfl⟩⟩, ?_, ?_, ln⟩
              · rw [d1]
                congr 1
                omega
              · rw [d2, f1]
              · rw [← e2, ← f2, ← d2, List.drop_drop]
              · rw [← e1, eq, g2]
                rfl
            · rw [if_neg cz] at er'
              cases er'
/-! ### whole numbers as natural ones -/
theorem within_nat {z : Int} (h : PyInside.within 0 4294967295 z = true) : ∃ n : Nat, z = (n : Int) ∧ n ≤ 4294967295 := by
  unfold PyInside.within at h
  rw [Bool.and_eq_true, decide_eq_true_eq, decide_eq_true_eq] at h
  exact ⟨z.toNat, by omega, by omega⟩
theorem all_nat : ∀ {l : List Int}, l.all (PyInside.within 0 4294967295) = true → ∃ ns : List Nat, l = zs ns ∧ ∀ n ∈ ns, n ≤ 4294967295
  | [], _ => ⟨[], rfl, fun n hn => (nomatch hn)⟩
  | z :: l, h => by
    rw [List.all_cons, Bool.and_eq_true] at h
    obtain ⟨n, e, hn⟩ := within_nat h.1
    obtain ⟨ns, e2, h2⟩ := all_nat h.2
    refine ⟨n :: ns, by rw [zs_cons, e, e2], fun x hx => ?_⟩
    rcases List.mem_cons.mp hx with z | hx
    · rw [z]; exact hn
    · exact h2 x hx
theorem nat_all {ns : List Nat} (h : ∀ n ∈ ns, n ≤ 4294967295) : (zs ns).all Wm05Neutral.nat = true := by
  rw [List.all_eq_true]
  intro z hz
  obtain ⟨n, hn, e⟩ := List.mem_map.mp hz
  have := h n hn
  unfold Wm05Neutral.nat
  rw [Bool.and_eq_true, decide_eq_true_eq, decide_eq_true_eq, ← e]
  refine ⟨Int.natCast_nonneg n, ?_⟩
  show (n : Int) < 4294967296
  omega
theorem toNat_zs : ∀ ns : List Nat, (zs ns).map Int.toNat = ns
  | [] => rfl
  | n :: ns => by rw [zs_cons, List.map_cons, toNat_zs ns, Int.toNat_natCast]
theorem callOf_zs {ns : List Nat} (h : ∀ n ∈ ns, n ≤ 4294967295) : Wm05Neutral.callOf (zs ns) = Wm05Neutral.callIn ns := by
  unfold Wm05Neutral.callOf
  rw [nat_all h, toNat_zs, if_neg (by decide)]
/-- a call that is asked, as the specification and as the program have it -/
theorem raw_call {c : List (List Int)} {q n k : Nat} {nums row : List Int} (hf : forms[q]? = some (n, k)) (ec : c = ((q : Int) :: nums) :: (if k = 0 then [] else [row])) (hn : nums.length = n) (hr : k = 0 → row = []) (hb : PyInside.call PyWm05.bound c = true) :
    ∃ x, Wm05Neutral.callOf ((PyWm05.whole c).headD []) = some x ∧ eNum x = q ∧ zs (eNums x) = nums ∧ zs (eRow x) = row := by
  have hq : q < 15 := (List.getElem?_eq_some_iff.mp hf).1
  subst ec
  have big : (4294967295 : Nat) = 4294967295 := rfl
  have cons_le : ∀ {a : Nat} {ns : List Nat}, a ≤ 4294967295 → (∀ m ∈ ns, m ≤ 4294967295) → ∀ m ∈ a :: ns, m ≤ 4294967295 := fun ha hs m hm => by
    rcases List.mem_cons.mp hm with z | hm
    · rw [z]; exact ha
    · exact hs m hm
  have nil_le : ∀ m ∈ ([] : List Nat), m ≤ 4294967295 := fun m hm => (nomatch hm)
  have : q = 0 ∨ q = 1 ∨ q = 2 ∨ q = 3 ∨ q = 4 ∨ q = 5 ∨ q = 6 ∨ q = 7 ∨ q = 8 ∨ q = 9 ∨ q = 10 ∨ q = 11 ∨ q = 12 ∨ q = 13 ∨ q = 14 := by omega
  rcases this with e | e | e | e | e | e | e | e | e | e | e | e | e | e | e
  · subst e
    cases hf
    have en : nums = [] := List.eq_nil_of_length_eq_zero hn
    subst en
    have hb' : (true && (decide (0 ≤ row.length) && decide (row.length ≤ 20) && row.all (PyInside.within 0 4294967295) && true)) = true := hb
    simp only [Bool.and_eq_true, Bool.and_true] at hb'
    obtain ⟨l, el, ll⟩ := all_nat (show row.all (PyInside.within 0 4294967295) = true by simp_all)
    subst el
    exact ⟨.step l, callOf_zs (ns := 0 :: l) (cons_le (show 0 ≤ 4294967295 by decide) ll), rfl, rfl, rfl⟩
  · subst e
    cases hf
    obtain ⟨a, rfl⟩ : ∃ a, nums = [a] := match nums, hn with | [a], _ => ⟨a, rfl⟩
    have hb' : ((PyInside.within 0 4294967295 a && true) && (decide (0 ≤ row.length) && decide (row.length ≤ 20) && row.all (PyInside.within 0 4294967295) && true)) = true := hb
    simp only [Bool.and_eq_true, Bool.and_true] at hb'
    obtain ⟨a', ea, la⟩ := within_nat (show PyInside.within 0 4294967295 a = true by simp_all)
    subst ea
    obtain ⟨l, el, ll⟩ := all_nat (show row.all (PyInside.within 0 4294967295) = true by simp_all)
    subst el
    exact ⟨.allow a' l, callOf_zs (ns := 1 :: a' :: l) (cons_le (show 1 ≤ 4294967295 by decide) (cons_le la ll)), rfl, rfl, rfl⟩
  · subst e
    cases hf
    have er := hr rfl
    subst er
    obtain ⟨a, b, rfl⟩ : ∃ a b, nums = [a, b] := match nums, hn with | [a, b], _ => ⟨a, b, rfl⟩
    have hb' : ((PyInside.within 0 4294967295 a && (PyInside.within 0 4294967295 b && true)) && true) = true := hb
    simp only [Bool.and_eq_true, Bool.and_true] at hb'
    obtain ⟨a', ea, la⟩ := within_nat (show PyInside.within 0 4294967295 a = true by simp_all)
    subst ea
    obtain ⟨b', eb, lb⟩ := within_nat (show PyInside.within 0 4294967295 b = true by simp_all)
    subst eb
    exact ⟨.same a' b', callOf_zs (ns := 2 :: a' :: b' :: []) (cons_le (show 2 ≤ 4294967295 by decide) (cons_le la (cons_le lb nil_le))), rfl, rfl, rfl⟩
  · subst e
    cases hf
    have er := hr rfl
    subst er
    obtain ⟨a, b, rfl⟩ : ∃ a b, nums = [a, b] := match nums, hn with | [a, b], _ => ⟨a, b, rfl⟩
    have hb' : ((PyInside.within 0 4294967295 a && (PyInside.within 0 4294967295 b && true)) && true) = true := hb
    simp only [Bool.and_eq_true, Bool.and_true] at hb'
    obtain ⟨a', ea, la⟩ := within_nat (show PyInside.within 0 4294967295 a = true by simp_all)
    subst ea
    obtain ⟨b', eb, lb⟩ := within_nat (show PyInside.within 0 4294967295 b = true by simp_all)
    subst eb
    exact ⟨.apart a' b', callOf_zs (ns := 3 :: a' :: b' :: []) (cons_le (show 3 ≤ 4294967295 by decide) (cons_le la (cons_le lb nil_le))), rfl, rfl, rfl⟩
  · subst e
    cases hf
    obtain ⟨a, rfl⟩ : ∃ a, nums = [a] := match nums, hn with | [a], _ => ⟨a, rfl⟩
    have hb' : ((PyInside.within 0 4294967295 a && true) && (decide (0 ≤ row.length) && decide (row.length ≤ 20) && row.all (PyInside.within 0 4294967295) && true)) = true := hb
    simp only [Bool.and_eq_true, Bool.and_true] at hb'
    obtain ⟨a', ea, la⟩ := within_nat (show PyInside.within 0 4294967295 a = true by simp_all)
    subst ea
    obtain ⟨l, el, ll⟩ := all_nat (show row.all (PyInside.within 0 4294967295) = true by simp_all)
    subst el
    exact ⟨.least a' l, callOf_zs (ns := 4 :: a' :: l) (cons_le (show 4 ≤ 4294967295 by decide) (cons_le la ll)), rfl, rfl, rfl⟩
  · subst e
    cases hf
    obtain ⟨a, rfl⟩ : ∃ a, nums = [a] := match nums, hn with | [a], _ => ⟨a, rfl⟩
    have hb' : ((PyInside.within 0 4294967295 a && true) && (decide (0 ≤ row.length) && decide (row.length ≤ 20) && row.all (PyInside.within 0 4294967295) && true)) = true := hb
    simp only [Bool.and_eq_true, Bool.and_true] at hb'
    obtain ⟨a', ea, la⟩ := within_nat (show PyInside.within 0 4294967295 a = true by simp_all)
    subst ea
    obtain ⟨l, el, ll⟩ := all_nat (show row.all (PyInside.within 0 4294967295) = true by simp_all)
    subst el
    exact ⟨.most a' l, callOf_zs (ns := 5 :: a' :: l) (cons_le (show 5 ≤ 4294967295 by decide) (cons_le la ll)), rfl, rfl, rfl⟩
  · subst e
    cases hf
    have er := hr rfl
    subst er
    obtain ⟨a, rfl⟩ : ∃ a, nums = [a] := match nums, hn with | [a], _ => ⟨a, rfl⟩
    have hb' : ((PyInside.within 0 4294967295 a && true) && true) = true := hb
    simp only [Bool.and_eq_true, Bool.and_true] at hb'
    obtain ⟨a', ea, la⟩ := within_nat (show PyInside.within 0 4294967295 a = true by simp_all)
    subst ea
    exact ⟨.strike a', callOf_zs (ns := 6 :: a' :: []) (cons_le (show 6 ≤ 4294967295 by decide) (cons_le la nil_le)), rfl, rfl, rfl⟩
  · subst e
    cases hf
    have en : nums = [] := List.eq_nil_of_length_eq_zero hn
    subst en
    have hb' : (true && (decide (0 ≤ row.length) && decide (row.length ≤ 20) && row.all (PyInside.within 0 4294967295) && true)) = true := hb
    simp only [Bool.and_eq_true, Bool.and_true] at hb'
    obtain ⟨l, el, ll⟩ := all_nat (show row.all (PyInside.within 0 4294967295) = true by simp_all)
    subst el
    exact ⟨.plan l, callOf_zs (ns := 7 :: l) (cons_le (show 7 ≤ 4294967295 by decide) ll), rfl, rfl, rfl⟩
  · subst e
    cases hf
    have er := hr rfl
    subst er
    have en : nums = [] := List.eq_nil_of_length_eq_zero hn
    subst en
    have hb' : (true && true) = true := hb
    simp only [Bool.and_eq_true, Bool.and_true] at hb'
    exact ⟨.plans, callOf_zs (ns := 8 :: []) (cons_le (show 8 ≤ 4294967295 by decide) nil_le), rfl, rfl, rfl⟩
  · subst e
    cases hf
    have er := hr rfl
    subst er
    have en : nums = [] := List.eq_nil_of_length_eq_zero hn
    subst en
    have hb' : (true && true) = true := hb
    simp only [Bool.and_eq_true, Bool.and_true] at hb'
    exact ⟨.who, callOf_zs (ns := 9 :: []) (cons_le (show 9 ≤ 4294967295 by decide) nil_le), rfl, rfl, rfl⟩
  · subst e
    cases hf
    have er := hr rfl
    subst er
    obtain ⟨a, rfl⟩ : ∃ a, nums = [a] := match nums, hn with | [a], _ => ⟨a, rfl⟩
    have hb' : ((PyInside.within 0 4294967295 a && true) && true) = true := hb
    simp only [Bool.and_eq_true, Bool.and_true] at hb'
    obtain ⟨a', ea, la⟩ := within_nat (show PyInside.within 0 4294967295 a = true by simp_all)
    subst ea
    exact ⟨.did a', callOf_zs (ns := 10 :: a' :: []) (cons_le (show 10 ≤ 4294967295 by decide) (cons_le la nil_le)), rfl, rfl, rfl⟩
  · subst e
    cases hf
    have er := hr rfl
    subst er
    have en : nums = [] := List.eq_nil_of_length_eq_zero hn
    subst en
    have hb' : (true && true) = true := hb
    simp only [Bool.and_eq_true, Bool.and_true] at hb'
    exact ⟨.undo, callOf_zs (ns := 11 :: []) (cons_le (show 11 ≤ 4294967295 by decide) nil_le), rfl, rfl, rfl⟩
  · subst e
    cases hf
    have er := hr rfl
    subst er
    have en : nums = [] := List.eq_nil_of_length_eq_zero hn
    subst en
    have hb' : (true && true) = true := hb
    simp only [Bool.and_eq_true, Bool.and_true] at hb'
    exact ⟨.breaks, callOf_zs (ns := 12 :: []) (cons_le (show 12 ≤ 4294967295 by decide) nil_le), rfl, rfl, rfl⟩
  · subst e
    cases hf
    have er := hr rfl
    subst er
    obtain ⟨a, b, rfl⟩ : ∃ a b, nums = [a, b] := match nums, hn with | [a, b], _ => ⟨a, b, rfl⟩
    have hb' : ((PyInside.within 0 4294967295 a && (PyInside.within 0 4294967295 b && true)) && true) = true := hb
    simp only [Bool.and_eq_true, Bool.and_true] at hb'
    obtain ⟨a', ea, la⟩ := within_nat (show PyInside.within 0 4294967295 a = true by simp_all)
    subst ea
    obtain ⟨b', eb, lb⟩ := within_nat (show PyInside.within 0 4294967295 b = true by simp_all)
    subst eb
    exact ⟨.away a' b', callOf_zs (ns := 13 :: a' :: b' :: []) (cons_le (show 13 ≤ 4294967295 by decide) (cons_le la (cons_le lb nil_le))), rfl, rfl, rfl⟩
  · subst e
    cases hf
    have er := hr rfl
    subst er
    have en : nums = [] := List.eq_nil_of_length_eq_zero hn
    subst en
    have hb' : (true && true) = true := hb
    simp only [Bool.and_eq_true, Bool.and_true] at hb'
    exact ⟨.needed, callOf_zs (ns := 14 :: []) (cons_le (show 14 ≤ 4294967295 by decide) nil_le), rfl, rfl, rfl⟩
theorem calls_nil {f : Nat} {raw : List (List (List Int))} (h : PyFlat.calls PyWm05.shape f [] = some raw) : raw = [] := by
  cases f with
  | zero => exact (Option.some.inj h).symm
  | succ f => exact (Option.some.inj h).symm
theorem calls_cons {f : Nat} {p : Int} {r : List Int} {raw : List (List (List Int))} (h : PyFlat.calls PyWm05.shape f (p :: r) = some raw) :
    ∃ f' c t raw', PyFlat.call PyWm05.shape (p :: r) = some (c, t) ∧ PyFlat.calls PyWm05.shape f' t = some raw' ∧ raw = c :: raw' := by
  cases f with
  | zero => cases h
  | succ f =>
    have h' : (match PyFlat.call PyWm05.shape (p :: r) with
      | none => none
      | some (c, t) => match PyFlat.calls PyWm05.shape f t with
        | none => none
        | some cs => some (c :: cs)) = some raw := h
    cases e : PyFlat.call PyWm05.shape (p :: r) with
    | none => rw [e] at h'; cases h'
    | some ct =>
      obtain ⟨c, t⟩ := ct
      rw [e] at h'
      have h2 : (match PyFlat.calls PyWm05.shape f t with
        | none => none
        | some cs => some (c :: cs)) = some raw := h'
      cases e2 : PyFlat.calls PyWm05.shape f t with
      | none => rw [e2] at h2; cases h2
      | some cs =>
        rw [e2] at h2
        exact ⟨f, c, t, cs, rfl, e2, (Option.some.inj h2).symm⟩
def stp (s : Wm05Neutral.S) (c : List (List Int)) : Wm05Neutral.S × List Int := Wm05Neutral.step s (c.headD [])
/-- what the rest of the calls answers -/
def restOf (w : Wk) (raw : List (List (List Int))) : List Int := PyFlat.told (PyFlat.played stp w (raw.map PyWm05.whole))
theorem restOf_nil (w : Wk) : restOf w [] = [] := rfl
theorem restOf_cons {w : Wk} {c : List (List Int)} {raw : List (List (List Int))} {x : Wm05.Call} (h : Wm05Neutral.callOf ((PyWm05.whole c).headD []) = some x) :
    restOf w (c :: raw) = ((Wm05.step w x).2.length : Int) :: ((Wm05.step w x).2 ++ restOf (Wm05.step w x).1 raw) := by
  have e : stp w (PyWm05.whole c) = Wm05.step w x := by
    unfold stp Wm05Neutral.step
    rw [h]
  have e2 : restOf w (c :: raw) = ((stp w (PyWm05.whole c)).2.length : Int) :: ((stp w (PyWm05.whole c)).2 ++ restOf (stp w (PyWm05.whole c)).1 raw) := by
    unfold restOf PyFlat.told
    rw [List.map_cons]
    rfl
  rw [e2, e]
theorem asked_raw {l : List Int} (h : PyWm05.answers_asked l = true) : ∃ raw, PyFlat.calls PyWm05.shape l.length l = some raw ∧ (∀ c ∈ raw, PyInside.call PyWm05.bound c = true) ∧ (PyWm05.answers l).length ≤ 10000000 ∧ PyWm05.answers l = restOf Wm05.init raw := by
  unfold PyWm05.answers_asked at h
  cases e : PyFlat.calls PyWm05.shape l.length l with
  | none => rw [e] at h; cases h
  | some raw =>
    rw [e] at h
    have h' : (!raw.isEmpty && PyFlat.atMost 40 raw && PyInside.calls PyWm05.bound raw && Wm05Neutral.asked ((raw.map PyWm05.whole).map fun c => c.headD []) && PyFlat.short 10000000 (PyWm05.answers l)) = true := h
    rw [Bool.and_eq_true, Bool.and_eq_true, Bool.and_eq_true] at h'
    obtain ⟨⟨⟨_, hb⟩, _⟩, hs⟩ := h'
    refine ⟨raw, rfl, ?_, of_decide_eq_true hs, ?_⟩
    · exact List.all_eq_true.mp hb
    · have ec : PyWm05.calls l = some (raw.map PyWm05.whole) := by
        unfold PyWm05.calls
        rw [e]
      unfold PyWm05.answers
      rw [ec]
      rfl
end Sf

/-! SfTxt: the text's statements by place, the scopes of its defs, what the top has written of them (printed by gen.py). -/
namespace Sf
open PySem PySem.Spec PyProof.Rows L2
def top (i : Nat) : Stmt := PySem.Challenge.pw_stepfolk_s01_answers.main.body.getD i (.Pass ⟨0, 0, 0, 0⟩)
abbrev st_groups : Stmt := top 2
abbrev st_gut : Stmt := top 3
abbrev st_wInit : Stmt := inClass (top 4) 0
abbrev st_wKept : Stmt := inClass (top 4) 1
abbrev st_wCh : Stmt := inClass (top 4) 2
abbrev st_wPl : Stmt := inClass (top 4) 3
abbrev st_wCan : Stmt := inClass (top 4) 4
abbrev st_wNext : Stmt := inClass (top 4) 5
abbrev st_wBrk : Stmt := inClass (top 4) 6
abbrev st_gInit : Stmt := inClass (top 5) 0
abbrev st_gGood : Stmt := inClass (top 5) 1
abbrev st_gAll : Stmt := inClass (top 5) 2
abbrev st_gSome : Stmt := inClass (top 5) 3
abbrev st_gTurn : Stmt := inClass (top 5) 4
abbrev st_ea : Stmt := top 6
abbrev st_rInit : Stmt := inClass (top 12) 0
abbrev st_rKept : Stmt := inClass (top 12) 1
abbrev st_xInit : Stmt := inClass (top 16) 0
abbrev st_rfs : Stmt := top 17
abbrev st_rises : Stmt := top 18
abbrev st_listed : Stmt := top 19
abbrev st_addS : Stmt := top 20
abbrev st_allow : Stmt := top 21
abbrev st_addR : Stmt := top 22
abbrev st_two : Stmt := top 23
abbrev st_some_ : Stmt := top 24
abbrev st_strike : Stmt := top 25
abbrev st_fplan : Stmt := top 26
abbrev st_who : Stmt := top 27
abbrev st_did : Stmt := top 28
abbrev st_undo : Stmt := top 29
abbrev st_away : Stmt := top 30
abbrev st_needed : Stmt := top 31
abbrev st_chg : Stmt := top 32
abbrev st_ask : Stmt := top 33
abbrev st_read : Stmt := top 35
abbrev st_ans : Stmt := top 36
abbrev nn_groups : List Str := ["count", "out", "place", "longer", "group", "person"]
theorem sc_groups : FnScope nn_groups ["count"] (defScope st_groups) :=
  ⟨rfl, rfl, rfl, by decide +kernel, rfl, by decide +kernel, by decide +kernel⟩
abbrev nn_gut : List Str := ["count", "out", "size"]
theorem sc_gut : FnScope nn_gut ["count"] (defScope st_gut) :=
  ⟨rfl, rfl, rfl, by decide +kernel, rfl, by decide +kernel, by decide +kernel⟩
abbrev nn_wInit : List Str := ["self"]
theorem sc_wInit : FnScope nn_wInit ["self"] (defScope st_wInit) :=
  ⟨rfl, rfl, rfl, by decide +kernel, rfl, by decide +kernel, by decide +kernel⟩
abbrev nn_wKept : List Str := ["self", "doers", "rule"]
theorem sc_wKept : FnScope nn_wKept ["self", "doers"] (defScope st_wKept) :=
  ⟨rfl, rfl, rfl, by decide +kernel, rfl, by decide +kernel, by decide +kernel⟩
abbrev nn_wCh : List Str := ["self", "gone", "out", "step", "there", "longer", "plan", "person"]
theorem sc_wCh : FnScope nn_wCh ["self", "gone"] (defScope st_wCh) :=
  ⟨rfl, rfl, rfl, by decide +kernel, rfl, by decide +kernel, by decide +kernel⟩
abbrev nn_wPl : List Str := ["self", "gone", "plan"]
theorem sc_wPl : FnScope nn_wPl ["self", "gone"] (defScope st_wPl) :=
  ⟨rfl, rfl, rfl, by decide +kernel, rfl, by decide +kernel, by decide +kernel⟩
abbrev nn_wCan : List Str := ["self", "gone", "plan"]
theorem sc_wCan : FnScope nn_wCan ["self", "gone"] (defScope st_wCan) :=
  ⟨rfl, rfl, rfl, by decide +kernel, rfl, by decide +kernel, by decide +kernel⟩
abbrev nn_wNext : List Str := ["self", "step", "plans", "person", "plan"]
theorem sc_wNext : FnScope nn_wNext ["self"] (defScope st_wNext) :=
  ⟨rfl, rfl, rfl, by decide +kernel, rfl, by decide +kernel, by decide +kernel⟩
abbrev nn_wBrk : List Str := ["self", "size", "group"]
theorem sc_wBrk : FnScope nn_wBrk ["self"] (defScope st_wBrk) :=
  ⟨rfl, rfl, rfl, by decide +kernel, rfl, by decide +kernel, by decide +kernel⟩
abbrev nn_gInit : List Str := ["self", "work", "most"]
theorem sc_gInit : FnScope nn_gInit ["self", "work", "most"] (defScope st_gInit) :=
  ⟨rfl, rfl, rfl, by decide +kernel, rfl, by decide +kernel, by decide +kernel⟩
abbrev nn_gGood : List Str := ["self", "doers", "gone", "key"]
theorem sc_gGood : FnScope nn_gGood ["self", "doers", "gone"] (defScope st_gGood) :=
  ⟨rfl, rfl, rfl, by decide +kernel, rfl, by decide +kernel, by decide +kernel⟩
abbrev nn_gAll : List Str := ["self", "doers", "gone", "group", "person"]
theorem sc_gAll : FnScope nn_gAll ["self", "doers", "gone"] (defScope st_gAll) :=
  ⟨rfl, rfl, rfl, by decide +kernel, rfl, by decide +kernel, by decide +kernel⟩
abbrev nn_gSome : List Str := ["self", "doers", "gone", "person"]
theorem sc_gSome : FnScope nn_gSome ["self", "doers", "gone"] (defScope st_gSome) :=
  ⟨rfl, rfl, rfl, by decide +kernel, rfl, by decide +kernel, by decide +kernel⟩
abbrev nn_gTurn : List Str := ["self", "doers", "good", "person"]
theorem sc_gTurn : FnScope nn_gTurn ["self", "doers"] (defScope st_gTurn) :=
  ⟨rfl, rfl, rfl, by decide +kernel, rfl, by decide +kernel, by decide +kernel⟩
abbrev nn_ea : List Str := ["work", "kind", "most", "game", "group"]
theorem sc_ea : FnScope nn_ea ["work", "kind", "most"] (defScope st_ea) :=
  ⟨rfl, rfl, rfl, by decide +kernel, rfl, by decide +kernel, by decide +kernel⟩
abbrev nn_rInit : List Str := ["self", "kind", "number", "steps"]
theorem sc_rInit : FnScope nn_rInit ["self", "kind", "number", "steps"] (defScope st_rInit) :=
  ⟨rfl, rfl, rfl, by decide +kernel, rfl, by decide +kernel, by decide +kernel⟩
abbrev nn_rKept : List Str := ["self", "doers", "people", "step", "person"]
theorem sc_rKept : FnScope nn_rKept ["self", "doers"] (defScope st_rKept) :=
  ⟨rfl, rfl, rfl, by decide +kernel, rfl, by decide +kernel, by decide +kernel⟩
abbrev nn_xInit : List Str := ["self", "number"]
theorem sc_xInit : FnScope nn_xInit ["self", "number"] (defScope st_xInit) :=
  ⟨rfl, rfl, rfl, by decide +kernel, rfl, by decide +kernel, by decide +kernel⟩
abbrev nn_rfs : List Str := ["condition", "number"]
theorem sc_rfs : FnScope nn_rfs ["condition", "number"] (defScope st_rfs) :=
  ⟨rfl, rfl, rfl, by decide +kernel, rfl, by decide +kernel, by decide +kernel⟩
abbrev nn_rises : List Str := ["numbers", "most", "before", "number"]
theorem sc_rises : FnScope nn_rises ["numbers", "most"] (defScope st_rises) :=
  ⟨rfl, rfl, rfl, by decide +kernel, rfl, by decide +kernel, by decide +kernel⟩
abbrev nn_listed : List Str := ["numbers"]
theorem sc_listed : FnScope nn_listed ["numbers"] (defScope st_listed) :=
  ⟨rfl, rfl, rfl, by decide +kernel, rfl, by decide +kernel, by decide +kernel⟩
abbrev nn_addS : List Str := ["work", "people"]
theorem sc_addS : FnScope nn_addS ["work", "people"] (defScope st_addS) :=
  ⟨rfl, rfl, rfl, by decide +kernel, rfl, by decide +kernel, by decide +kernel⟩
abbrev nn_allow : List Str := ["work", "step", "people"]
theorem sc_allow : FnScope nn_allow ["work", "step", "people"] (defScope st_allow) :=
  ⟨rfl, rfl, rfl, by decide +kernel, rfl, by decide +kernel, by decide +kernel⟩
abbrev nn_addR : List Str := ["work", "rule"]
theorem sc_addR : FnScope nn_addR ["work", "rule"] (defScope st_addR) :=
  ⟨rfl, rfl, rfl, by decide +kernel, rfl, by decide +kernel, by decide +kernel⟩
abbrev nn_two : List Str := ["work", "kind", "first", "second", "count"]
theorem sc_two : FnScope nn_two ["work", "kind", "first", "second"] (defScope st_two) :=
  ⟨rfl, rfl, rfl, by decide +kernel, rfl, by decide +kernel, by decide +kernel⟩
abbrev nn_some_ : List Str := ["work", "kind", "number", "steps"]
theorem sc_some_ : FnScope nn_some_ ["work", "kind", "number", "steps"] (defScope st_some_) :=
  ⟨rfl, rfl, rfl, by decide +kernel, rfl, by decide +kernel, by decide +kernel⟩
abbrev nn_strike : List Str := ["work", "number"]
theorem sc_strike : FnScope nn_strike ["work", "number"] (defScope st_strike) :=
  ⟨rfl, rfl, rfl, by decide +kernel, rfl, by decide +kernel, by decide +kernel⟩
abbrev nn_fplan : List Str := ["work", "people", "plans"]
theorem sc_fplan : FnScope nn_fplan ["work", "people"] (defScope st_fplan) :=
  ⟨rfl, rfl, rfl, by decide +kernel, rfl, by decide +kernel, by decide +kernel⟩
abbrev nn_who : List Str := ["work"]
theorem sc_who : FnScope nn_who ["work"] (defScope st_who) :=
  ⟨rfl, rfl, rfl, by decide +kernel, rfl, by decide +kernel, by decide +kernel⟩
abbrev nn_did : List Str := ["work", "person"]
theorem sc_did : FnScope nn_did ["work", "person"] (defScope st_did) :=
  ⟨rfl, rfl, rfl, by decide +kernel, rfl, by decide +kernel, by decide +kernel⟩
abbrev nn_undo : List Str := ["work"]
theorem sc_undo : FnScope nn_undo ["work"] (defScope st_undo) :=
  ⟨rfl, rfl, rfl, by decide +kernel, rfl, by decide +kernel, by decide +kernel⟩
abbrev nn_away : List Str := ["work", "kind", "most"]
theorem sc_away : FnScope nn_away ["work", "kind", "most"] (defScope st_away) :=
  ⟨rfl, rfl, rfl, by decide +kernel, rfl, by decide +kernel, by decide +kernel⟩
abbrev nn_needed : List Str := ["work", "plans", "person", "alone", "idle", "plan"]
theorem sc_needed : FnScope nn_needed ["work"] (defScope st_needed) :=
  ⟨rfl, rfl, rfl, by decide +kernel, rfl, by decide +kernel, by decide +kernel⟩
abbrev nn_chg : List Str := ["work", "number", "numbers", "row"]
theorem sc_chg : FnScope nn_chg ["work", "number", "numbers", "row"] (defScope st_chg) :=
  ⟨rfl, rfl, rfl, by decide +kernel, rfl, by decide +kernel, by decide +kernel⟩
abbrev nn_ask : List Str := ["work", "number", "numbers", "row"]
theorem sc_ask : FnScope nn_ask ["work", "number", "numbers", "row"] (defScope st_ask) :=
  ⟨rfl, rfl, rfl, by decide +kernel, rfl, by decide +kernel, by decide +kernel⟩
abbrev nn_read : List Str := ["calls", "at", "number", "count", "rows", "numbers", "row", "size"]
theorem sc_read : FnScope nn_read ["calls", "at"] (defScope st_read) :=
  ⟨rfl, rfl, rfl, by decide +kernel, rfl, by decide +kernel, by decide +kernel⟩
abbrev nn_ans : List Str := ["calls", "work", "out", "at", "number", "numbers", "row", "found", "refusal"]
theorem sc_ans : FnScope nn_ans ["calls"] (defScope st_ans) :=
  ⟨rfl, rfl, rfl, by decide +kernel, rfl, by decide +kernel, by decide +kernel⟩
/-- a def of the module -/
structure DefT (K : PySem.W.Frag) (mg : Str → Option Value) (x : Str) (st : Stmt) (f : Addr) (fd : FuncData) (ps : List Str) : Prop where
  F : Fun K x x st f fd
  b : Binds K fd ps []
  g : mg x = some (.ref f)
/-- a method of the class at C -/
structure MetT (K : PySem.W.Frag) (C : Addr) (x qual : Str) (st : Stmt) (f : Addr) (fd : FuncData) (ps : List Str) : Prop where
  F : Fun K x qual st f fd
  b : Binds K fd ps []
  m : Meth K C x f
/-- an __init__ of the class at C -/
structure IniT (K : PySem.W.Frag) (C : Addr) (qual : Str) (st : Stmt) (f : Addr) (fd : FuncData) (ps : List Str) : Prop where
  F : Fun K "__init__" qual st f fd
  b : Binds K fd ps []
  m : Mk K C f
def nI (l : List Nat) : List V := l.map fun (n : Nat) => V.int (n : Int)
/-- where all stands -/
structure Ads where
  cW : Addr
  cG : Addr
  cR : Addr
  cX : Addr
  aP : Addr
  aF : Addr
  t_SAME : Tok
  t_APART : Tok
  t_LEAST : Tok
  t_MOST : Tok
  t_MOST_STEPS : Tok
  t_MOST_RULES : Tok
  f_groups : Addr
  d_groups : FuncData
  f_gut : Addr
  d_gut : FuncData
  f_wInit : Addr
  d_wInit : FuncData
  f_wKept : Addr
  d_wKept : FuncData
  f_wCh : Addr
  d_wCh : FuncData
  f_wPl : Addr
  d_wPl : FuncData
  f_wCan : Addr
  d_wCan : FuncData
  f_wNext : Addr
  d_wNext : FuncData
  f_wBrk : Addr
  d_wBrk : FuncData
  f_gInit : Addr
  d_gInit : FuncData
  f_gGood : Addr
  d_gGood : FuncData
  f_gAll : Addr
  d_gAll : FuncData
  f_gSome : Addr
  d_gSome : FuncData
  f_gTurn : Addr
  d_gTurn : FuncData
  f_ea : Addr
  d_ea : FuncData
  f_rInit : Addr
  d_rInit : FuncData
  f_rKept : Addr
  d_rKept : FuncData
  f_xInit : Addr
  d_xInit : FuncData
  f_rfs : Addr
  d_rfs : FuncData
  f_rises : Addr
  d_rises : FuncData
  f_listed : Addr
  d_listed : FuncData
  f_addS : Addr
  d_addS : FuncData
  f_allow : Addr
  d_allow : FuncData
  f_addR : Addr
  d_addR : FuncData
  f_two : Addr
  d_two : FuncData
  f_some_ : Addr
  d_some_ : FuncData
  f_strike : Addr
  d_strike : FuncData
  f_fplan : Addr
  d_fplan : FuncData
  f_who : Addr
  d_who : FuncData
  f_did : Addr
  d_did : FuncData
  f_undo : Addr
  d_undo : FuncData
  f_away : Addr
  d_away : FuncData
  f_needed : Addr
  d_needed : FuncData
  f_chg : Addr
  d_chg : FuncData
  f_ask : Addr
  d_ask : FuncData
  f_read : Addr
  d_read : FuncData
  f_ans : Addr
  d_ans : FuncData
/-- what the top has written -/
structure Txt (K : PySem.W.Frag) (mg : Str → Option Value) (A : Ads) : Prop where
  n_len : mg "len" = none
  n_range : mg "range" = none
  n_tuple : mg "tuple" = none
  n_all : mg "all" = none
  n_any : mg "any" = none
  n_set : mg "set" = none
  n_list : mg "list" = none
  n_ValueError : mg "ValueError" = none
  g_SAME : mg "SAME" = some (.int 0 A.t_SAME)
  g_APART : mg "APART" = some (.int 1 A.t_APART)
  g_LEAST : mg "LEAST" = some (.int 2 A.t_LEAST)
  g_MOST : mg "MOST" = some (.int 3 A.t_MOST)
  g_MOST_STEPS : mg "MOST_STEPS" = some (.int 5 A.t_MOST_STEPS)
  g_MOST_RULES : mg "MOST_RULES" = some (.int 8 A.t_MOST_RULES)
  gP : mg "PEOPLE" = some (.ref A.aP)
  tP : ∀ H : Hp, SqT K H A.aP (nI ppl)
  gF : mg "FORMS" = some (.ref A.aF)
  tF : ∃ qs : List Addr, (∀ H : Hp, SqT K H A.aF (qs.map V.ref)) ∧ ∀ (i : Nat) (n k : Nat), forms[i]? = some (n, k) → ∃ q, qs[i]? = some q ∧ ∀ H : Hp, SqT K H q [.int (n : Int), .int (k : Int)]
  c_Work : Cls K A.cW
  gc_Work : mg "Work" = some (.ref A.cW)
  na_W_may : NoAttr K A.cW "may"
  na_W_rules : NoAttr K A.cW "rules"
  na_W_doers : NoAttr K A.cW "doers"
  c_Game : Cls K A.cG
  gc_Game : mg "Game" = some (.ref A.cG)
  na_G_work : NoAttr K A.cG "work"
  na_G_most : NoAttr K A.cG "most"
  na_G_groups : NoAttr K A.cG "groups"
  na_G_known : NoAttr K A.cG "known"
  c_Rule : Cls K A.cR
  gc_Rule : mg "Rule" = some (.ref A.cR)
  na_R_kind : NoAttr K A.cR "kind"
  na_R_number : NoAttr K A.cR "number"
  na_R_steps : NoAttr K A.cR "steps"
  gc_Refusal : mg "Refusal" = some (.ref A.cX)
  xO : OexC K A.cX
  xF : XfC K A.cX
  xN : PySem.W.findIn K (.ref A.cX) "number" = some none
  xI : PySem.W.findIn K (.ref A.cX) "__init__" = some (some (.ref A.f_xInit))
  xT : PySem.W.typeIn K (.ref A.f_xInit) = some (.type "function")
  xFun : Fun K "__init__" "Refusal.__init__" st_xInit A.f_xInit A.d_xInit
  xB : Binds K A.d_xInit ["self", "number"] []
  xV : PySem.W.findCls K (.type "ValueError") (.type "type") "__init__" = some (.val (.builtin "ValueError.__init__"))
  xE : PySem.W.exmOne K (.ref A.cX) (.ref A.cX) = some true
  h_groups : DefT K mg "groups" st_groups A.f_groups A.d_groups ["count"]
  h_gut : DefT K mg "groups_up_to" st_gut A.f_gut A.d_gut ["count"]
  h_wInit : IniT K A.cW "Work.__init__" st_wInit A.f_wInit A.d_wInit ["self"]
  h_wKept : MetT K A.cW "is_kept" "Work.is_kept" st_wKept A.f_wKept A.d_wKept ["self", "doers"]
  h_wCh : MetT K A.cW "choices" "Work.choices" st_wCh A.f_wCh A.d_wCh ["self", "gone"]
  h_wPl : MetT K A.cW "plans" "Work.plans" st_wPl A.f_wPl A.d_wPl ["self", "gone"]
  h_wCan : MetT K A.cW "can_end" "Work.can_end" st_wCan A.f_wCan A.d_wCan ["self", "gone"]
  h_wNext : MetT K A.cW "next_people" "Work.next_people" st_wNext A.f_wNext A.d_wNext ["self"]
  h_wBrk : MetT K A.cW "breaking" "Work.breaking" st_wBrk A.f_wBrk A.d_wBrk ["self"]
  h_gInit : IniT K A.cG "Game.__init__" st_gInit A.f_gInit A.d_gInit ["self", "work", "most"]
  h_gGood : MetT K A.cG "for_good" "Game.for_good" st_gGood A.f_gGood A.d_gGood ["self", "doers", "gone"]
  h_gAll : MetT K A.cG "ends_for_all" "Game.ends_for_all" st_gAll A.f_gAll A.d_gAll ["self", "doers", "gone"]
  h_gSome : MetT K A.cG "ends_by_some" "Game.ends_by_some" st_gSome A.f_gSome A.d_gSome ["self", "doers", "gone"]
  h_gTurn : MetT K A.cG "by_turns" "Game.by_turns" st_gTurn A.f_gTurn A.d_gTurn ["self", "doers"]
  h_ea : DefT K mg "ends_away" st_ea A.f_ea A.d_ea ["work", "kind", "most"]
  h_rInit : IniT K A.cR "Rule.__init__" st_rInit A.f_rInit A.d_rInit ["self", "kind", "number", "steps"]
  h_rKept : MetT K A.cR "is_kept" "Rule.is_kept" st_rKept A.f_rKept A.d_rKept ["self", "doers"]
  h_rfs : DefT K mg "refuse_if" st_rfs A.f_rfs A.d_rfs ["condition", "number"]
  h_rises : DefT K mg "rises" st_rises A.f_rises A.d_rises ["numbers", "most"]
  h_listed : DefT K mg "listed" st_listed A.f_listed A.d_listed ["numbers"]
  h_addS : DefT K mg "add_step" st_addS A.f_addS A.d_addS ["work", "people"]
  h_allow : DefT K mg "allow" st_allow A.f_allow A.d_allow ["work", "step", "people"]
  h_addR : DefT K mg "add_rule" st_addR A.f_addR A.d_addR ["work", "rule"]
  h_two : DefT K mg "rule_of_two" st_two A.f_two A.d_two ["work", "kind", "first", "second"]
  h_some_ : DefT K mg "rule_of_some" st_some_ A.f_some_ A.d_some_ ["work", "kind", "number", "steps"]
  h_strike : DefT K mg "strike" st_strike A.f_strike A.d_strike ["work", "number"]
  h_fplan : DefT K mg "first_plan" st_fplan A.f_fplan A.d_fplan ["work", "people"]
  h_who : DefT K mg "who" st_who A.f_who A.d_who ["work"]
  h_did : DefT K mg "did" st_did A.f_did A.d_did ["work", "person"]
  h_undo : DefT K mg "undo" st_undo A.f_undo A.d_undo ["work"]
  h_away : DefT K mg "away" st_away A.f_away A.d_away ["work", "kind", "most"]
  h_needed : DefT K mg "needed" st_needed A.f_needed A.d_needed ["work"]
  h_chg : DefT K mg "changing" st_chg A.f_chg A.d_chg ["work", "number", "numbers", "row"]
  h_ask : DefT K mg "asking" st_ask A.f_ask A.d_ask ["work", "number", "numbers", "row"]
  h_read : DefT K mg "read_call" st_read A.f_read A.d_read ["calls", "at"]
  h_ans : DefT K mg "answers" st_ans A.f_ans A.d_ans ["calls"]
end Sf

/-! SfLay: rules that the hand layer lacks (len(set(xs)) of any ints; a dict whose keys are pairs of tuples of ints), and small facts. -/
namespace Sf
open PySem PySem.Spec PyProof.Rows L2
/-! ### numbers as values -/
theorem nI_zs (l : List Nat) : nI l = (zs l).map V.int := by
  unfold nI zs
  rw [List.map_map]
  rfl
theorem nI_length (l : List Nat) : (nI l).length = l.length := List.length_map ..
theorem nI_append (a b : List Nat) : nI (a ++ b) = nI a ++ nI b := List.map_append
theorem nI_flat : ∀ l : List Nat, (nI l).all flatV = true
  | [] => rfl
  | _ :: l => nI_flat l
theorem nI_at {l : List Nat} {i : Nat} {x : Nat} (h : l[i]? = some x) : (nI l)[i]? = some (V.int (x : Int)) := by
  unfold nI
  rw [List.getElem?_map, h]
  rfl
theorem nI_of {l : List Nat} {i : Nat} {v : V} (h : (nI l)[i]? = some v) : ∃ x, l[i]? = some x ∧ v = V.int (x : Int) := by
  unfold nI at h
  rw [List.getElem?_map] at h
  cases e : l[i]? with
  | none => rw [e] at h; cases h
  | some x => rw [e] at h; exact ⟨x, rfl, (Option.some.inj h).symm⟩
theorem nI_inj : ∀ {a b : List Nat}, nI a = nI b → a = b
  | [], [], _ => rfl
  | [], _ :: _, h => nomatch h
  | _ :: _, [], h => nomatch h
  | x :: a, y :: b, h => by
    obtain ⟨h1, h2⟩ := List.cons.inj h
    have : (x : Int) = y := V.int.inj h1
    rw [nI_inj h2, show x = y by omega]
theorem inV_nI (p : Nat) : ∀ l : List Nat, inV (.int (p : Int)) (nI l) = l.contains p
  | [] => rfl
  | x :: l => by
    have ih := inV_nI p l
    show ((x : Int) == (p : Int) || inV (.int (p : Int)) (nI l)) = _
    rw [ih, List.contains_cons]
    congr 1
    rw [Bool.eq_iff_iff, beq_iff_eq, beq_iff_eq]
    omega
theorem take_one {α : Type} {l : List α} {i : Nat} {x : α} (h : l[i]? = some x) : l.take (i + 1) = l.take i ++ [x] := by
  rw [List.take_add_one, h]
  rfl
/-! ### len(set(xs)) -/
theorem met_diff : ∀ (n : Nat) (ns : List Int), n ≤ ns.length → firstMet (fun i => ns.getD i 0) n = diff (ns.take n)
  | 0, _, _ => rfl
  | n + 1, ns, h => by
    have hl : n < ns.length := h
    have e : ns[n]? = some (ns.getD n 0) := by
      rw [List.getD_eq_getElem?_getD, List.getElem?_eq_getElem hl]
      rfl
    rw [firstMet_succ, met_diff n ns (Nat.le_of_lt hl), take_one e]
    unfold diff
    rw [List.foldl_append]
    rfl
theorem diff_go_le : ∀ (l a : List Int), (l.foldl (fun a k => if a.any (· == k) then a else a ++ [k]) a).length ≤ a.length + l.length
  | [], a => Nat.le_refl _
  | k :: l, a => by
    have ih := diff_go_le l (if a.any (· == k) then a else a ++ [k])
    have e : (if a.any (· == k) then a else a ++ [k]).length ≤ a.length + 1 := by
      by_cases c : (a.any (· == k)) = true
      · rw [if_pos c]; omega
      · rw [if_neg c, List.length_append]; exact Nat.le_refl _
    rw [List.foldl_cons, List.length_cons]
    omega
theorem diff_le (l : List Int) : (diff l).length ≤ l.length := by
  have := diff_go_le l []
  simpa [diff] using this
/-- the reading: how many different ints stand in the list -/
def tLenSet (K : PySem.W.Frag) (t : TE) : TE := fun σ H Q => t σ H fun v G => ∃ (l : Addr) (ns : List Int), v = .ref l ∧ SqL K G l (ns.map V.int) ∧ ns.length ≤ 4000 ∧ Q (.int ((diff ns).length : Nat)) G
theorem pe_lenSet {X : Cx} {e : Expr} {t : TE} {q1 q2 q3 q4 : Pos} (gl : Gl X "len") (ml : X.mg "len" = none) (gs : Gl X "set") (ms : X.mg "set" = none) (he : PE X e t) (hc : X.calm = true := by rfl)
    (na : starEach [e] X.env = (false, eval e X.env) :: starEach [] X.env := by rfl) :
    PE X (.Call (.Name "len" q1) [.Call (.Name "set" q2) [e] [] q3] [] q4) (tLenSet X.K t) := by
  constructor
  intro pins s σ H Q I h
  apply Call_ (ld_blt I gl ml boot_len _)
  apply PyProof.Rows.callWith_builtin1 (PyProof.Rows.args_cons _ rfl) rfl rfl
  apply Call_ (ld_blt I gs ms boot_set _)
  apply PyProof.Rows.callWith_type1 (PyProof.Rows.args_cons (thn (he.run pins s σ H _ I h) _) na) na rfl
  rintro v s1 ⟨x, G, J, rx, l, ns, rfl, hq, hl, q⟩
  apply PyProof.Rows.args_nil
  cases rx
  obtain ⟨its, rel, pl, hz⟩ := J.list hq
  have sz : its.toArray.size = ns.length := by
    have := rel.length
    rw [List.length_map] at this
    rw [List.size_toArray]
    omega
  apply call_set_list (J.ok.hd hc) pl.isList (by simpa using RZ.intsAre_vals rel) (by rw [sz]; unfold scanBound; omega)
  intro h' tk hS hk
  apply PyProof.Rows.args_nil
  have em := met_diff ns.length ns (Nat.le_refl _)
  rw [List.take_length] at em
  rw [sz, em] at hS
  obtain ⟨o, es, ep, tb, ho, hex, hd, _, _, _, hf, hn⟩ := hS
  have J2 : Inv X pins σ G { s1 with heap := h', toks := tk } := J.kept fun b o e => hk b o (Heap.lt_size e) e
  have le := diff_le ns
  exact call_len_set ho hex hd hf (by rw [hn]; omega) ⟨.int ((diff ns).length : Nat), G, J2.tok _, ⟨_, by rw [hn]⟩, q⟩
/-! ### a dict by pairs of tuples of ints -/
/-- the key (ds, g) -/
def kK (ds g : List Nat) : NestedKey := .tup [.tup (ds.map fun (n : Nat) => .num (n : Int)), .tup (g.map fun (n : Nat) => .num (n : Int))]
abbrev KEnt := NestedKey × Addr × Value
/-- what stands at d: the dict of the entries xs -/
def knO (P : Program) (w : World) (d : Addr) (xs : List KEnt) : HO := .ext fun h => (d == sysModules) = false ∧
  ∃ o es ep, h.get? d = some o ∧ o.ExactDict ∧ o.data = .dict es ep ∧ es.toList = xs.map (entryOfKey (nestedKind P w)) ∧ (xs.map (·.1)).Nodup
/-- the tuple at b is the key (ds, g) -/
def KeyAt (H : Hp) (b : Addr) (ds g : List Nat) : Prop := ∃ t u : Addr, H b = some (.tup [.ref t, .ref u]) ∧ H t = some (.tup (nI ds)) ∧ H u = some (.tup (nI g))
/-- every key of the entries stands -/
def KeysAt (H : Hp) (xs : List KEnt) : Prop := ∀ x ∈ xs, ∃ ds g, x.1 = kK ds g ∧ KeyAt H x.2.1 ds g
theorem num_all {h : Heap} : ∀ {l : List Nat} {us : List Value}, Vals (nI l) us → NestedAll h (l.map fun (n : Nat) => NestedKey.num (n : Int)) us
  | [], _, .nil => .nil
  | n :: l, _, .cons r t => by
    obtain ⟨k, rfl⟩ := r
    exact .cons (.int _ _) (num_all t)
theorem depth_nums : ∀ l : List Nat, NestedKey.depthAll (l.map fun (n : Nat) => NestedKey.num (n : Int)) = 0
  | [] => rfl
  | _ :: l => by
    rw [List.map_cons, NestedKey.depthAll, depth_nums l]
    rfl
theorem kK_depth (ds g : List Nat) : (kK ds g).depth ≤ 8 := by
  unfold kK
  simp only [NestedKey.depth, NestedKey.depthAll, depth_nums]
  decide
theorem num_inj : ∀ {a b : List Nat}, (a.map fun (n : Nat) => NestedKey.num (n : Int)) = (b.map fun (n : Nat) => NestedKey.num (n : Int)) → a = b
  | [], [], _ => rfl
  | [], _ :: _, h => nomatch h
  | _ :: _, [], h => nomatch h
  | x :: a, y :: b, h => by
    obtain ⟨h1, h2⟩ := List.cons.inj h
    have : (x : Int) = y := NestedKey.num.inj h1
    rw [num_inj h2, show x = y by omega]
theorem kK_inj {ds g ds' g' : List Nat} (h : kK ds g = kK ds' g') : ds = ds' ∧ g = g' := by
  have h1 := NestedKey.tup.inj h
  obtain ⟨h2, h3⟩ := List.cons.inj h1
  obtain ⟨h4, _⟩ := List.cons.inj h3
  exact ⟨num_inj (NestedKey.tup.inj h2), num_inj (NestedKey.tup.inj h4)⟩
section
variable {P : Program} {w : World} {H : Hp} {h : Heap}
theorem tup_at {b : Addr} {xs : List V} (ok : HOk P w H h) (e : H b = some (.tup xs)) : ∃ its o n, Vals xs its ∧ h.get? b = some o ∧ o.cls = .type "tuple" ∧ o.data = .seq its.toArray n := by
  obtain ⟨_, its, r, o, h1, h2, n, h3⟩ := (show ObjOk P w H h b (.tup xs) from ok b _ e)
  exact ⟨its, o, n, r, h1, h2, h3⟩
theorem key_is {b : Addr} {ds g : List Nat} (ok : HOk P w H h) (k : KeyAt H b ds g) : (nestedKind P w).is h (kK ds g) b := by
  obtain ⟨t, u, e1, e2, e3⟩ := k
  obtain ⟨i1, o1, n1, r1, a1, b1, c1⟩ := tup_at ok e1
  obtain ⟨i2, o2, n2, r2, a2, b2, c2⟩ := tup_at ok e2
  obtain ⟨i3, o3, n3, r3, a3, b3, c3⟩ := tup_at ok e3
  refine ⟨?_, kK_depth ds g⟩
  cases r1 with
  | cons q1 r1 =>
    cases r1 with
    | cons q2 r1 =>
      cases r1
      cases q1
      cases q2
      refine .tup a1 b1 c1 ?_
      refine .cons (.tup a2 b2 c2 ?_) (.cons (.tup a3 b3 c3 ?_) .nil)
      · simpa using num_all r2
      · simpa using num_all r3
theorem kn_of {d : Addr} {xs : List KEnt} (ok : HOk P w H h) (e : H d = some (knO P w d xs)) (ks : KeysAt H xs) : (d == sysModules) = false ∧ h.DictOfH (nestedKind P w) d xs := by
  obtain ⟨⟨h0, o, es, ep, h1, h2, h3, h4, h5⟩, _, _⟩ := (show ObjOk P w H h d (knO P w d xs) from ok d _ e)
  refine ⟨h0, o, es, ep, h1, h2, h3, h4, fun x hx => ?_, h5⟩
  obtain ⟨ds, g, ex, k⟩ := ks x hx
  rw [ex]
  exact key_is ok k
theorem kn_ok {d : Addr} {xs : List KEnt} (h0 : (d == sysModules) = false) (dd : h.DictOfH (nestedKind P w) d xs) : ObjOk P w H h d (knO P w d xs) := by
  obtain ⟨o, es, ep, h1, h2, h3, h4, _, h5⟩ := dd
  refine ⟨⟨h0, o, es, ep, h1, h2, h3, h4, h5⟩, ⟨o, h1⟩, ?_⟩
  rintro ha hb ⟨g0, o', es', ep', g1, g2, g3, g4, g5⟩ k
  exact ⟨g0, o', es', ep', k _ g1, g2, g3, g4, g5⟩
end
section
variable {X : Cx}
/-- key not in d -/
def rKnNot (P : Program) (w : World) : R2 := fun x y H Q => ∃ (b d : Addr) (xs : List KEnt) (ds g : List Nat), x = .ref b ∧ y = .ref d ∧ H d = some (knO P w d xs) ∧ KeysAt H xs ∧ KeyAt H b ds g ∧ Q (.bl (!(atKey xs (kK ds g)).isSome)) H
theorem op_knNot (hu : X.A.units + 64 < cLine) : OpR X (compareOp .NotIn) (rKnNot X.prog X.w) := by
  rintro pins s σ H x y v u Q I rx ry ⟨b, d, xs, ds, g, rfl, rfl, e, ks, k, q⟩
  cases rx
  cases ry
  obtain ⟨h0, dd⟩ := kn_of I.hok e ks
  have room : (nestedKind X.prog X.w).room X.A.in1 := by
    show X.A.units + 1 + 8 < cLine
    omega
  exact wpAny_notIn_heap room (key_is I.hok k) h0 dd ⟨.bl _, H, I.tok _, rfl, q⟩
/-- d[key], there, a truth value -/
def tKnGet (P : Program) (w : World) (td tk : TE) : TE := fun σ H Q => td σ H fun y G => tk σ G fun x G2 => ∃ (b d : Addr) (xs : List KEnt) (ds g : List Nat) (c : Bool) (a : Addr), x = .ref b ∧ y = .ref d ∧ G2 d = some (knO P w d xs) ∧ KeysAt G2 xs ∧ KeyAt G2 b ds g ∧ atKey xs (kK ds g) = some (a, .bool c) ∧ Q (.bl c) G2
theorem pe_knGet {od ok : Expr} {td tk : TE} {pos : Pos} (hu : X.A.units + 64 < cLine) (hd : PE X od td) (hk : PE X ok tk) (hs : NoSl ok) : PE X (.Subscript od ok pos) (tKnGet X.prog X.w td tk) := by
  constructor
  intro pins s σ H Q I h
  apply subD_of PySem.F.slot_dict_getitem.lookup hs
  refine thn (hd.run pins s σ H _ I h) ?_
  rintro u s1 ⟨y, G, J, ry, h1⟩
  refine thn (hk.run pins s1 σ G _ J h1) ?_
  rintro v s2 ⟨x, G2, J2, rx, b, d, xs, ds, g, c, a, rfl, rfl, e, ks, k, he, q⟩
  cases rx
  cases ry
  obtain ⟨h0, dd⟩ := kn_of J2.hok e ks
  have room : (nestedKind X.prog X.w).room X.A.in1 := by
    show X.A.units + 1 + 8 < cLine
    omega
  exact ⟨dd.typeIs, wpAny_getItem_heap room (key_is J2.hok k) dd he ⟨.bl c, G2, J2.tok _, rfl, q⟩⟩
/-- d[key] = a truth value -/
def rKnPut (P : Program) (w : World) : TSet := fun y x z H Q => ∃ (b d : Addr) (xs : List KEnt) (ds g : List Nat) (c : Bool), x = .ref b ∧ y = .ref d ∧ z = .bl c ∧ H d = some (knO P w d xs) ∧ KeysAt H xs ∧ KeyAt H b ds g ∧ xs.length ≤ sizeLine ∧
  Q (upd H d (knO P w d (storedH xs (kK ds g) b (.bool c))))
theorem set_kn (hu : X.A.units + 64 < cLine) : PSet X (rKnPut X.prog X.w) := by
  rintro pins s σ H o i z ov iv u Q I ro ri rz ⟨b, d, xs, ds, g, c, rfl, rfl, rfl, e, ks, k, hz, q⟩
  cases ro
  cases ri
  cases rz
  obtain ⟨h0, dd⟩ := kn_of I.hok e ks
  have room : (nestedKind X.prog X.w).room X.A.in1 := by
    show X.A.units + 1 + 8 < cLine
    omega
  refine wpAny_setItem_heap (hsz := hz) room (key_is I.hok k) dd fun h' dd' hs => ?_
  have there : ∃ q, h'.get? d = some q := by
    obtain ⟨o, _, _, ho, _⟩ := dd'
    exact ⟨o, ho⟩
  have mu : Mut (H d) := by rw [e]; exact True.intro
  exact ⟨_, d_write I mu hs there (kn_ok h0 dd'), q⟩
/-- {} -/
def tKnNew (P : Program) (w : World) : TE := fun _ H Q => ∀ d, H d = none → Q (.ref d) (upd H d (knO P w d []))
theorem pe_knNew {pos : Pos} : PE X (.Dict [] [] pos) (tKnNew X.prog X.w) := by
  constructor
  intro pins s σ H Q I h
  have big := I.big
  have h0 : (s.heap.objs.size == sysModules) = false := by
    rw [beq_eq_false_iff_ne]
    exact Nat.ne_of_gt big
  apply wpAny_Dict_empty
  exact ⟨.ref s.heap.objs.size, _, I.laid (a := s.heap.objs.size) (o := knO X.prog X.w s.heap.objs.size []) (t' := s.toks) (fun _ _ q => Heap.get?_push_of_some _ q) (Nat.le_refl _) (kn_ok h0 (Heap.DictOfH.new s.heap)), rfl, h _ (I.hok.fresh (Nat.le_refl _))⟩
end
theorem atKey_mem {xs : List KEnt} {k : NestedKey} {p : Addr × Value} (h : atKey xs k = some p) : (k, p) ∈ xs := by
  unfold atKey at h
  obtain ⟨x, hx, e⟩ := Option.map_eq_some_iff.mp h
  have h1 := List.mem_of_find?_eq_some hx
  have h2 := List.find?_some hx
  have h3 : x.1 = k := of_decide_eq_true h2
  rw [← h3, ← e]
  exact h1
end Sf

/-! SfHeap: how the work, its rules, the game lie in the heap. -/
namespace Sf
open PySem PySem.Spec PyProof.Rows L2
/-! ### fields by name -/
theorem lkA {k : Str} {v : V} {r : List (Str × V)} : List.lookup k ((k, v) :: r) = some v := by
  rw [List.lookup_cons, beq_self_eq_true]
theorem lkB {k g : Str} {v : V} {r : List (Str × V)} (h : (k == g) = false) : List.lookup k ((g, v) :: r) = List.lookup k r := by
  rw [List.lookup_cons, h]
theorem ptA {f : Str} {v x : V} {r : List (Str × V)} : putF f v ((f, x) :: r) = (f, v) :: r := if_pos rfl
theorem ptB {f g : Str} {v x : V} {r : List (Str × V)} (h : ¬ g = f) : putF f v ((g, x) :: r) = (g, x) :: putF f v r := if_neg h
def wF (m r d : Addr) : List (Str × V) := [("may", .ref m), ("rules", .ref r), ("doers", .ref d)]
def rF (k n : Nat) (l : Addr) : List (Str × V) := [("kind", .int (k : Int)), ("number", .int (n : Int)), ("steps", .ref l)]
def gF (a : Addr) (most : Nat) (gl kd : Addr) : List (Str × V) := [("work", .ref a), ("most", .int (most : Int)), ("groups", .ref gl), ("known", .ref kd)]
section
variable {m r d l a gl kd : Addr} {k n most : Nat}
theorem wF_may : (wF m r d).lookup ("may" : Str) = some (.ref m) := lkA
theorem wF_rules : (wF m r d).lookup ("rules" : Str) = some (.ref r) := (lkB (by decide +kernel)).trans lkA
theorem wF_doers : (wF m r d).lookup ("doers" : Str) = some (.ref d) := (lkB (by decide +kernel)).trans ((lkB (by decide +kernel)).trans lkA)
theorem wF_no {x : Str} (h1 : (x == ("may" : Str)) = false) (h2 : (x == ("rules" : Str)) = false) (h3 : (x == ("doers" : Str)) = false) : (wF m r d).lookup x = none :=
  (lkB h1).trans ((lkB h2).trans ((lkB h3).trans rfl))
theorem wF_kept : (wF m r d).lookup ("is_kept" : Str) = none := wF_no (by decide +kernel) (by decide +kernel) (by decide +kernel)
theorem wF_choices : (wF m r d).lookup ("choices" : Str) = none := wF_no (by decide +kernel) (by decide +kernel) (by decide +kernel)
theorem wF_plans : (wF m r d).lookup ("plans" : Str) = none := wF_no (by decide +kernel) (by decide +kernel) (by decide +kernel)
theorem wF_can : (wF m r d).lookup ("can_end" : Str) = none := wF_no (by decide +kernel) (by decide +kernel) (by decide +kernel)
theorem wF_next : (wF m r d).lookup ("next_people" : Str) = none := wF_no (by decide +kernel) (by decide +kernel) (by decide +kernel)
theorem wF_brk : (wF m r d).lookup ("breaking" : Str) = none := wF_no (by decide +kernel) (by decide +kernel) (by decide +kernel)
theorem rF_kind : (rF k n l).lookup ("kind" : Str) = some (.int (k : Int)) := lkA
theorem rF_number : (rF k n l).lookup ("number" : Str) = some (.int (n : Int)) := (lkB (by decide +kernel)).trans lkA
theorem rF_steps : (rF k n l).lookup ("steps" : Str) = some (.ref l) := (lkB (by decide +kernel)).trans ((lkB (by decide +kernel)).trans lkA)
theorem rF_kept : (rF k n l).lookup ("is_kept" : Str) = none := (lkB (by decide +kernel)).trans ((lkB (by decide +kernel)).trans ((lkB (by decide +kernel)).trans rfl))
theorem gF_work : (gF a most gl kd).lookup ("work" : Str) = some (.ref a) := lkA
theorem gF_most : (gF a most gl kd).lookup ("most" : Str) = some (.int (most : Int)) := (lkB (by decide +kernel)).trans lkA
theorem gF_groups : (gF a most gl kd).lookup ("groups" : Str) = some (.ref gl) := (lkB (by decide +kernel)).trans ((lkB (by decide +kernel)).trans lkA)
theorem gF_known : (gF a most gl kd).lookup ("known" : Str) = some (.ref kd) := (lkB (by decide +kernel)).trans ((lkB (by decide +kernel)).trans ((lkB (by decide +kernel)).trans lkA))
theorem gF_no {x : Str} (h1 : (x == ("work" : Str)) = false) (h2 : (x == ("most" : Str)) = false) (h3 : (x == ("groups" : Str)) = false) (h4 : (x == ("known" : Str)) = false) : (gF a most gl kd).lookup x = none :=
  (lkB h1).trans ((lkB h2).trans ((lkB h3).trans ((lkB h4).trans rfl)))
theorem gF_good : (gF a most gl kd).lookup ("for_good" : Str) = none := gF_no (by decide +kernel) (by decide +kernel) (by decide +kernel) (by decide +kernel)
theorem gF_all : (gF a most gl kd).lookup ("ends_for_all" : Str) = none := gF_no (by decide +kernel) (by decide +kernel) (by decide +kernel) (by decide +kernel)
theorem gF_some : (gF a most gl kd).lookup ("ends_by_some" : Str) = none := gF_no (by decide +kernel) (by decide +kernel) (by decide +kernel) (by decide +kernel)
theorem gF_turn : (gF a most gl kd).lookup ("by_turns" : Str) = none := gF_no (by decide +kernel) (by decide +kernel) (by decide +kernel) (by decide +kernel)
theorem wF_new : putF "doers" (.ref d) (putF "rules" (.ref r) (putF "may" (.ref m) [])) = wF m r d := by
  show putF "doers" (.ref d) (putF "rules" (.ref r) [("may", .ref m)]) = wF m r d
  rw [ptB (by decide +kernel)]
  show putF "doers" (.ref d) (("may", .ref m) :: [("rules", .ref r)]) = wF m r d
  rw [ptB (by decide +kernel), ptB (by decide +kernel)]
  rfl
theorem rF_new : putF "steps" (.ref l) (putF "number" (.int (n : Int)) (putF "kind" (.int (k : Int)) [])) = rF k n l := by
  show putF "steps" (.ref l) (putF "number" (.int (n : Int)) [("kind", .int (k : Int))]) = rF k n l
  rw [ptB (by decide +kernel)]
  show putF "steps" (.ref l) (("kind", .int (k : Int)) :: [("number", .int (n : Int))]) = rF k n l
  rw [ptB (by decide +kernel), ptB (by decide +kernel)]
  rfl
theorem gF_new : putF "known" (.ref kd) (putF "groups" (.ref gl) (putF "most" (.int (most : Int)) (putF "work" (.ref a) []))) = gF a most gl kd := by
  show putF "known" (.ref kd) (putF "groups" (.ref gl) (putF "most" (.int (most : Int)) [("work", .ref a)])) = gF a most gl kd
  rw [ptB (by decide +kernel)]
  show putF "known" (.ref kd) (putF "groups" (.ref gl) (("work", .ref a) :: [("most", .int (most : Int))])) = gF a most gl kd
  rw [ptB (by decide +kernel), ptB (by decide +kernel)]
  show putF "known" (.ref kd) (("work", .ref a) :: ("most", .int (most : Int)) :: [("groups", .ref gl)]) = gF a most gl kd
  rw [ptB (by decide +kernel), ptB (by decide +kernel), ptB (by decide +kernel)]
  rfl
end
/-! ### the readings' operators -/
def oSub : R2 := rI0 fun i j => .int (i - j)
def oAdd : R2 := rI0 fun i j => .int (i + j)
def oLt : R2 := rI0 fun i j => .bl (decide (i < j))
def oLe : R2 := rI0 fun i j => .bl (decide (i ≤ j))
def oGt : R2 := rI0 fun i j => .bl (decide (j < i))
def oGe : R2 := rI0 fun i j => .bl (decide (j ≤ i))
/-! ### pairs of rows -/
theorem paired_at {α β : Type} {F : α → β → Prop} : ∀ {l : List α} {k : List β}, Paired F l k → ∀ {i : Nat} {y : β}, k[i]? = some y → ∃ x, l[i]? = some x ∧ F x y
  | _, _, .nil, i, y, h => by simp at h
  | _, _, .cons f r, 0, y, h => by
    have e := Option.some.inj h
    subst e
    exact ⟨_, rfl, f⟩
  | _, _, .cons f r, i + 1, y, h => paired_at r (i := i) h
theorem paired_at' {α β : Type} {F : α → β → Prop} : ∀ {l : List α} {k : List β}, Paired F l k → ∀ {i : Nat} {x : α}, l[i]? = some x → ∃ y, k[i]? = some y ∧ F x y
  | _, _, .nil, i, y, h => by simp at h
  | _, _, .cons f r, 0, y, h => by
    have e := Option.some.inj h
    subst e
    exact ⟨_, rfl, f⟩
  | _, _, .cons f r, i + 1, y, h => paired_at' r (i := i) h
theorem paired_set {α β : Type} {F : α → β → Prop} : ∀ {l : List α} {k : List β}, Paired F l k → ∀ (i : Nat) {x : α} {y : β}, F x y → Paired F (l.set i x) (k.set i y)
  | _, _, .nil, _, _, _, _ => .nil
  | _, _, .cons f r, 0, _, _, h => .cons h r
  | _, _, .cons f r, i + 1, _, _, h => .cons f (paired_set r i h)
theorem paired_erase {α β : Type} {F : α → β → Prop} : ∀ {l : List α} {k : List β}, Paired F l k → ∀ i : Nat, Paired F (l.eraseIdx i) (k.eraseIdx i)
  | _, _, .nil, _ => .nil
  | _, _, .cons f r, 0 => r
  | _, _, .cons f r, i + 1 => .cons f (paired_erase r i)
theorem paired_append {α β : Type} {F : α → β → Prop} : ∀ {l l' : List α} {k k' : List β}, Paired F l k → Paired F l' k' → Paired F (l ++ l') (k ++ k')
  | _, _, _, _, .nil, h => h
  | _, _, _, _, .cons f r, h => .cons f (paired_append r h)
theorem refs_at {l : List Addr} {i : Nat} {v : V} (h : (l.map V.ref)[i]? = some v) : ∃ p, l[i]? = some p ∧ v = .ref p := by
  rw [List.getElem?_map] at h
  cases e : l[i]? with
  | none => rw [e] at h; cases h
  | some p => rw [e] at h; exact ⟨p, rfl, (Option.some.inj h).symm⟩
theorem at_refs {l : List Addr} {i : Nat} {p : Addr} (h : l[i]? = some p) : (l.map V.ref)[i]? = some (.ref p) := by
  rw [List.getElem?_map, h]
  rfl
/-! ### how heaps go on -/
def pln : HO → Bool
  | .ext _ => false
  | _ => true
/-- whatever is no dict of the game's stands -/
def Pln (H H' : Hp) : Prop := ∀ b o, H b = some o → pln o = true → H' b = some o
theorem Pln.refl (H : Hp) : Pln H H := fun _ _ e _ => e
theorem Pln.trans {H H1 H2 : Hp} (a : Pln H H1) (b : Pln H1 H2) : Pln H H2 := fun x o e p => b x o (a x o e p) p
theorem same_pln {H H' : Hp} (s : Same H H') : Pln H H' := fun b o e _ => s b o e
/-- all but what stands at k -/
def But1 (k : Addr) (H H' : Hp) : Prop := ∀ b o, b ≠ k → H b = some o → H' b = some o
theorem But1.trans {k : Addr} {H H1 H2 : Hp} (a : But1 k H H1) (b : But1 k H1 H2) : But1 k H H2 := fun x o n e => b x o n (a x o n e)
theorem But1.of {k : Addr} {H H' : Hp} (s : Same H H') : But1 k H H' := fun b o _ e => s b o e
theorem But1.pln {k : Addr} {H H' : Hp} (s : But1 k H H') {φ : Heap → Prop} (e : H k = some (.ext φ)) : Pln H H' := fun b o eb p => s b o (fun z => by
  subst z
  rw [e] at eb
  cases Option.some.inj eb
  cases p) eb
/-- all but the work's three lists -/
def But (m r d : Addr) (H H' : Hp) : Prop := ∀ b o, b ≠ m → b ≠ r → b ≠ d → H b = some o → H' b = some o
theorem But.of {m r d : Addr} {H H' : Hp} (s : Same H H') : But m r d H H' := fun b o _ _ _ e => s b o e
theorem But.trans {m r d : Addr} {H H1 H2 : Hp} (a : But m r d H H1) (b : But m r d H1 H2) : But m r d H H2 := fun x o n1 n2 n3 e => b x o n1 n2 n3 (a x o n1 n2 n3 e)
theorem same_new {H : Hp} {p : Addr} {o : HO} (h : H p = none) : Same H (upd H p o) := fun b u e => by
  rw [upd_ne (ne_of_none e h)]
  exact e
/-- a new object, then written again -/
theorem same_upd {H H' : Hp} {p : Addr} {o : HO} (s : Same H H') (h : H p = none) : Same H (upd H' p o) := fun b u e => by
  rw [upd_ne (ne_of_none e h)]
  exact s b u e
theorem none_of_same {H H' : Hp} {p : Addr} (s : Same H H') (h : H' p = none) : H p = none := s.free h
theorem ne_new {H : Hp} {a b : Addr} {o : HO} (h : H a = some o) (h' : H b = none) : a ≠ b := ne_of_none h h'
/-! ### a rule, the work -/
def RAt (A : Ads) (H : Hp) (p : Addr) (q : Wm05.Rule) (N : Addr → Prop) : Prop := ∃ dx l, H p = some (.ins A.cR dx (rF (rKind q) (rNum q) l)) ∧ H l = some (.lst (nI (rSteps q))) ∧ N l
theorem RAt.pln {A : Ads} {H H' : Hp} {p : Addr} {q : Wm05.Rule} {N : Addr → Prop} (x : RAt A H p q N) (s : Pln H H') : RAt A H' p q N := by
  obtain ⟨dx, l, h1, h2, h3⟩ := x
  exact ⟨dx, l, s _ _ h1 rfl, s _ _ h2 rfl, h3⟩
/-- none of the work's lists -/
def Off (m r d : Addr) (b : Addr) : Prop := b ≠ m ∧ b ≠ r ∧ b ≠ d
structure WAt (A : Ads) (H : Hp) (a m r d : Addr) (w : Wk) : Prop where
  ob : ∃ dx, H a = some (.ins A.cW dx (wF m r d))
  dr : H d = some (.lst (nI w.done))
  mr : m ≠ r
  md : m ≠ d
  rd : r ≠ d
  may : ∃ ms : List Addr, H m = some (.lst (ms.map V.ref)) ∧ Paired (fun p s => H p = some (.lst (nI s)) ∧ Off m r d p) ms w.steps
  rul : ∃ rs : List Addr, H r = some (.lst (rs.map V.ref)) ∧ Paired (fun p q => RAt A H p q (Off m r d)) rs w.rules
theorem WAt.pln {A : Ads} {H H' : Hp} {a m r d : Addr} {w : Wk} (x : WAt A H a m r d w) (s : Pln H H') : WAt A H' a m r d w := by
  obtain ⟨⟨dx, ob⟩, dr, mr, md, rd, ⟨ms, h1, h2⟩, ⟨rs, h3, h4⟩⟩ := x
  exact ⟨⟨dx, s _ _ ob rfl⟩, s _ _ dr rfl, mr, md, rd, ⟨ms, s _ _ h1 rfl, Paired.mapP h2 fun _ _ z => ⟨s _ _ z.1 rfl, z.2⟩⟩, ⟨rs, s _ _ h3 rfl, Paired.mapP h4 fun _ _ z => z.pln s⟩⟩
theorem WAt.same {A : Ads} {H H' : Hp} {a m r d : Addr} {w : Wk} (x : WAt A H a m r d w) (s : Same H H') : WAt A H' a m r d w := x.pln (same_pln s)
/-- the work's own object stands off its lists -/
theorem WAt.a_off {A : Ads} {H : Hp} {a m r d : Addr} {w : Wk} (x : WAt A H a m r d w) : Off m r d a := by
  obtain ⟨⟨dx, ob⟩, dr, mr, md, rd, ⟨ms, h1, h2⟩, ⟨rs, h3, h4⟩⟩ := x
  exact ⟨ne_of ob h1 (fun z => nomatch z), ne_of ob h3 (fun z => nomatch z), ne_of ob dr (fun z => nomatch z)⟩
/-- the steps' lists in another heap -/
theorem may_go {H H' : Hp} {m r d : Addr} (s : But m r d H H') {ms : List Addr} {ss : List (List Nat)} (x : Paired (fun p s => H p = some (.lst (nI s)) ∧ Off m r d p) ms ss) : Paired (fun p s => H' p = some (.lst (nI s)) ∧ Off m r d p) ms ss :=
  Paired.mapP x fun _ _ z => ⟨s _ _ z.2.1 z.2.2.1 z.2.2.2 z.1, z.2⟩
theorem rul_go {A : Ads} {H H' : Hp} {m r d : Addr} (s : But m r d H H') (hm : ∃ xs, H m = some (.lst xs)) (hr : ∃ xs, H r = some (.lst xs)) (hd : ∃ xs, H d = some (.lst xs)) {rs : List Addr} {qs : List Wm05.Rule} (x : Paired (fun p q => RAt A H p q (Off m r d)) rs qs) : Paired (fun p q => RAt A H' p q (Off m r d)) rs qs :=
  Paired.mapP x fun p q ⟨dx, l, h1, h2, h3⟩ => by
    obtain ⟨_, em⟩ := hm
    obtain ⟨_, er⟩ := hr
    obtain ⟨_, ed⟩ := hd
    exact ⟨dx, l, s _ _ (ne_of h1 em (fun z => nomatch z)) (ne_of h1 er (fun z => nomatch z)) (ne_of h1 ed (fun z => nomatch z)) h1, s _ _ h3.1 h3.2.1 h3.2.2 h2, h3⟩
/-! ### tuples, and lists of tuples -/
def TupsAt (H : Hp) (ps : List Addr) (ls : List (List Nat)) : Prop := Paired (fun p l => H p = some (.tup (nI l))) ps ls
theorem TupsAt.pln {H H' : Hp} {ps : List Addr} {ls : List (List Nat)} (x : TupsAt H ps ls) (s : Pln H H') : TupsAt H' ps ls := Paired.mapP x fun _ _ z => s _ _ z rfl
theorem TupsAt.same {H H' : Hp} {ps : List Addr} {ls : List (List Nat)} (x : TupsAt H ps ls) (s : Same H H') : TupsAt H' ps ls := x.pln (same_pln s)
/-- a list of tuples stands at p -/
def LTAt (H : Hp) (p : Addr) (ls : List (List Nat)) : Prop := ∃ ps : List Addr, H p = some (.lst (ps.map V.ref)) ∧ TupsAt H ps ls
theorem LTAt.pln {H H' : Hp} {p : Addr} {ls : List (List Nat)} (x : LTAt H p ls) (s : Pln H H') : LTAt H' p ls := by
  obtain ⟨ps, h1, h2⟩ := x
  exact ⟨ps, s _ _ h1 rfl, h2.pln s⟩
theorem LTAt.same {H H' : Hp} {p : Addr} {ls : List (List Nat)} (x : LTAt H p ls) (s : Same H H') : LTAt H' p ls := x.pln (same_pln s)
/-- a tuple stays where a list is written -/
theorem TupsAt.upd {H : Hp} {ps : List Addr} {ls : List (List Nat)} (x : TupsAt H ps ls) {p : Addr} {xs : List V} {o : HO} (h : H p = some (.lst xs)) : TupsAt (upd H p o) ps ls :=
  Paired.mapP x fun q l z => by
    rw [upd_ne (ne_of z h (fun z => nomatch z))]
    exact z
/-! ### the game -/
structure GAt (A : Ads) (H : Hp) (g a m r d gl kd : Addr) (w : Wk) (most : Nat) : Prop where
  ob : ∃ dx, H g = some (.ins A.cG dx (gF a most gl kd))
  wk : WAt A H a m r d w
  gs : LTAt H gl (upTo most)
theorem GAt.pln {A : Ads} {H H' : Hp} {g a m r d gl kd : Addr} {w : Wk} {most : Nat} (x : GAt A H g a m r d gl kd w most) (s : Pln H H') : GAt A H' g a m r d gl kd w most := by
  obtain ⟨⟨dx, ob⟩, wk, gs⟩ := x
  exact ⟨⟨dx, s _ _ ob rfl⟩, wk.pln s, gs.pln s⟩
/-! ### the work's inner lists, and what they are not -/
structure LOk (H : Hp) (m r : Addr) (N : Addr → Prop) : Prop where
  may : ∀ ms : List Addr, H m = some (.lst (ms.map V.ref)) → ∀ p ∈ ms, N p
  rul : ∀ rs : List Addr, H r = some (.lst (rs.map V.ref)) → ∀ p ∈ rs, ∀ C dx k n l, H p = some (.ins C dx (rF k n l)) → N l
/-- an inner list that comes is new -/
def Lk (m r : Addr) (H H' : Hp) : Prop := ∀ N : Addr → Prop, (∀ p, H p = none → N p) → LOk H m r N → LOk H' m r N
theorem refs_inj : ∀ {a b : List Addr}, a.map V.ref = b.map V.ref → a = b
  | [], [], _ => rfl
  | [], _ :: _, h => nomatch h
  | _ :: _, [], h => nomatch h
  | x :: a, y :: b, h => by
    obtain ⟨h1, h2⟩ := List.cons.inj h
    rw [refs_inj h2, V.ref.inj h1]
theorem lst_inj {H : Hp} {m : Addr} {a b : List Addr} (h : H m = some (.lst (a.map V.ref))) (h' : H m = some (.lst (b.map V.ref))) : a = b := by
  rw [h] at h'
  exact refs_inj (HO.lst.inj (Option.some.inj h'))
theorem paired_mem {α β : Type} {F : α → β → Prop} : ∀ {l : List α} {k : List β}, Paired F l k → ∀ x ∈ l, ∃ y, F x y
  | _, _, .nil, x, h => nomatch h
  | _, _, .cons f r, x, h => by
    rcases List.mem_cons.mp h with e | h
    · subst e; exact ⟨_, f⟩
    · exact paired_mem r x h
theorem WAt.rule_off {A : Ads} {H : Hp} {a m r d : Addr} {w : Wk} (x : WAt A H a m r d w) {p C dx : Addr} {fs : List (Str × V)} (h : H p = some (.ins C dx fs)) : Off m r d p := by
  obtain ⟨_, dr, _, _, _, ⟨ms, g1, _⟩, ⟨rs', g3, _⟩⟩ := x
  exact ⟨ne_of h g1 (fun z => nomatch z), ne_of h g3 (fun z => nomatch z), ne_of h dr (fun z => nomatch z)⟩
theorem lk_of {A : Ads} {H H' : Hp} {a m r d : Addr} {w : Wk} (wa : WAt A H a m r d w) (s : But m r d H H') {ms ms' rs rs' : List Addr} (h1 : H m = some (.lst (ms.map V.ref))) (h1' : H' m = some (.lst (ms'.map V.ref))) (sub : ∀ p ∈ ms', p ∈ ms ∨ H p = none)
    (h3 : H r = some (.lst (rs.map V.ref))) (h3' : H' r = some (.lst (rs'.map V.ref))) (sub' : ∀ p ∈ rs', p ∈ rs) : Lk m r H H' := by
  intro N hN lo
  obtain ⟨_, dr, _, _, _, ⟨ms0, g1, _⟩, ⟨rs0, g3, g4⟩⟩ := id wa
  refine ⟨fun ms2 e p hp => ?_, fun rs2 e p hp C dx k n l ep => ?_⟩
  · rw [lst_inj e h1'] at hp
    rcases sub p hp with z | z
    · exact lo.may ms h1 p z
    · exact hN p z
  · rw [lst_inj e h3'] at hp
    have hp' := sub' p hp
    rw [lst_inj h3 g3] at hp'
    obtain ⟨q, dx', l', f1, f2, f3⟩ := paired_mem g4 p hp'
    obtain ⟨o1, o2, o3⟩ := wa.rule_off f1
    have z := s _ _ o1 o2 o3 f1
    rw [z] at ep
    rw [ep] at f1
    exact lo.rul rs0 g3 p hp' C dx k n l f1
theorem lk_same {A : Ads} {H H' : Hp} {a m r d : Addr} {w : Wk} (wa : WAt A H a m r d w) (s : Same H H') : Lk m r H H' := by
  obtain ⟨_, dr, _, _, _, ⟨ms0, g1, _⟩, ⟨rs0, g3, g4⟩⟩ := id wa
  exact lk_of wa (But.of s) g1 (s _ _ g1) (fun p hp => .inl hp) g3 (s _ _ g3) fun p hp => hp
/-- a write to a list that is none of the work's -/
theorem WAt.write {A : Ads} {H H' : Hp} {a m r d o : Addr} {w : Wk} (wa : WAt A H a m r d w) (lo : LOk H m r (fun p => p ≠ o)) (oo : Off m r d o) {xs : List V} (ho : H o = some (.lst xs)) (s : ∀ b u, b ≠ o → H b = some u → H' b = some u) :
    WAt A H' a m r d w ∧ LOk H' m r (fun p => p ≠ o) := by
  obtain ⟨⟨dx, ob⟩, dr, mr, md, rd, ⟨ms, h1, h2⟩, ⟨rs, h3, h4⟩⟩ := id wa
  obtain ⟨om, or', od⟩ := oo
  have e1 := s _ _ (fun z => om z.symm) h1
  have e3 := s _ _ (fun z => or' z.symm) h3
  have may : ∀ {l : List Addr} {k : List (List Nat)}, Paired (fun p s => H p = some (.lst (nI s)) ∧ Off m r d p) l k → (∀ p ∈ l, p ≠ o) → Paired (fun p s => H' p = some (.lst (nI s)) ∧ Off m r d p) l k := by
    intro l k y
    induction y with
    | nil => exact fun _ => .nil
    | cons f _ ih => exact fun hn => .cons ⟨s _ _ (hn _ List.mem_cons_self) f.1, f.2⟩ (ih fun p hp => hn p (List.mem_cons_of_mem _ hp))
  have rul : ∀ {l : List Addr} {k : List Wm05.Rule}, Paired (fun p q => RAt A H p q (Off m r d)) l k → (∀ p ∈ l, ∀ C dx k n l, H p = some (.ins C dx (rF k n l)) → l ≠ o) → Paired (fun p q => RAt A H' p q (Off m r d)) l k := by
    intro l k y
    induction y with
    | nil => exact fun _ => .nil
    | cons f _ ih =>
      intro hn
      obtain ⟨dx, ls, f1, f2, f3⟩ := f
      exact .cons ⟨dx, ls, s _ _ (ne_of f1 ho (fun z => nomatch z)) f1, s _ _ (hn _ List.mem_cons_self _ _ _ _ _ f1) f2, f3⟩ (ih fun p hp => hn p (List.mem_cons_of_mem _ hp))
  refine ⟨⟨⟨dx, s _ _ (ne_of ob ho (fun z => nomatch z)) ob⟩, s _ _ (fun z => od z.symm) dr, mr, md, rd, ⟨ms, e1, may h2 (lo.may ms h1)⟩, ⟨rs, e3, rul h4 (lo.rul rs h3)⟩⟩, fun ms2 e p hp => ?_, fun rs2 e p hp C dx k n l ep => ?_⟩
  · rw [lst_inj e e1] at hp
    exact lo.may ms h1 p hp
  · rw [lst_inj e e3] at hp
    obtain ⟨q, dx', l', f1, f2, f3⟩ := paired_mem h4 p hp
    have z := s _ _ (ne_of f1 ho (fun z => nomatch z)) f1
    rw [z] at ep
    rw [ep] at f1
    exact lo.rul rs h3 p hp C dx k n l f1
end Sf

/-! SfD1: Rule.__init__, Rule.is_kept, Work.__init__, Work.is_kept. -/
namespace Sf
open PySem PySem.Spec PyProof.Rows L2
section
variable {P : Program} {w : World} {K : PySem.W.Frag} {mg : Str → Option Value} {base : Heap} {A : Ads}
/-! ### Rule -/
def spRI (A : Ads) : Sp := fun vs H Q _ => ∃ (p dx l : Addr) (k n : Nat), vs = [.ref p, .int (k : Int), .int (n : Int), .ref l] ∧ H p = some (.ins A.cR dx []) ∧
  ∀ H' dx', H' p = some (.ins A.cR dx' (rF k n l)) → (∀ b o, H b = some o → b ≠ p → H' b = some o) → Q .non H'
theorem ok_rInit (T : Txt K mg A) : FnOk P w K mg base CX0 1 A.f_rInit A.d_rInit ["self", "kind", "number", "steps"] (spRI A) := by
  refine T.h_rInit.F.ok sc_rInit (fun vs H Q E h => ?_) (fun cdv A' outer s H vs Q E hr h => ⟨_, pss_cons (ps_fld (pv 0) (pv 1) rfl) (pss_cons (ps_fld (pv 0) (pv 2) rfl) (pss_one (ps_fld (pv 0) (pv 3) rfl))), ?_⟩)
  · obtain ⟨p, dx, l, k, n, rfl, _⟩ := h
    rfl
  · obtain ⟨p, dx, l, k, n, rfl, hp, q⟩ := h
    refine ⟨_, rfl, _, rfl, p, A.cR, dx, [], rfl, hp, T.c_Rule, T.na_R_kind, (by show 0 < 1000; decide), ?_⟩
    refine ⟨_, rfl, _, rfl, p, A.cR, dx, _, rfl, upd_same, T.c_Rule, T.na_R_number, (by show 1 < 1000; decide), ?_⟩
    refine ⟨_, rfl, _, rfl, p, A.cR, dx, _, rfl, upd_same, T.c_Rule, T.na_R_steps, ?_, ?_⟩
    · show (putF "number" (.int (n : Int)) [("kind", .int (k : Int))]).length < 1000
      have := length_putF "number" (V.int (n : Int)) [("kind", V.int (k : Int))]
      have e : [(("kind" : Str), V.int (k : Int))].length = 1 := rfl
      omega
    · refine q _ dx ?_ fun b o e hb => ?_
      · rw [upd_same, rF_new]
      · rw [upd_ne hb, upd_ne hb, upd_ne hb]
        exact e
/-- who does the steps of a rule, by the rule's own look -/
def spRK (A : Ads) : Sp := fun vs H Q _ => ∃ (p t : Addr) (q : Wm05.Rule) (pl : List Nat), vs = [.ref p, .ref t] ∧ RAt A H p q (fun _ => True) ∧ H t = some (.tup (nI pl)) ∧ RuleOk pl.length q ∧ In6 pl ∧
  ∀ H', Same H H' → Q (.bl (Wm05.keeps pl q)) H'
theorem whoDo_at {pl l : List Nat} {i x : Nat} (h : l[i]? = some x) : (whoDo pl l)[i]? = some (Wm05.doer pl x) := by
  unfold whoDo
  rw [List.getElem?_map, h]
  rfl
theorem dec_int2 (a b : Nat) : decide (V.int (a : Int) = V.int (b : Int)) = decide (a = b) := by
  by_cases c : a = b
  · rw [c, decide_eq_true rfl, decide_eq_true rfl]
  · rw [decide_eq_false c, decide_eq_false]
    intro e
    have : (a : Int) = b := V.int.inj e
    omega
theorem ok_rKept (T : Txt K mg A) : FnOk P w K mg base CX0 1 A.f_rKept A.d_rKept ["self", "doers"] (spRK A) := by
  refine T.h_rKept.F.ok sc_rKept (fun vs H Q E h => ?_) (fun cdv A' outer s H vs Q E hr h => ⟨_,
    pss_cons (ps_set (i := 2) sc_rKept.nd rfl (Or.inr rfl)
      (pe_lc (own := [("step", 3)]) (g := gName 3) (tt := tYes) (te := tOp (rIxT K) (tVar 1) (tOp oSub (tVar 3) (tC (.int 1)))) rfl sc_rKept.nd (pi_list (pe_fld (pv 0) rfl)) (blkOk_by (N := nn_rKept) (sc := defScope st_rKept) (by decide +kernel))
        (fun _ _ _ _ _ => pg_name (i := 3) sc_rKept.nd rfl (Or.inl rfl)) (fun _ _ _ _ _ => pts_nil)
        (fun _ _ _ _ _ => by exact (pe_ix ix_tup (pv 1) (pe_op op_sub (pv 3) pe_int) (fun _ _ => rfl)))))
    (pss_cons (ps_if (pt_cmpR op_eq (pe_fld (pv 0) rfl) (pe_glob (v := .int 0) rfl T.g_SAME ⟨_, rfl⟩) (nomark _))
      (pss_one (ps_ret (pe_cmpR op_eq (pe_ix ix_list (pv 2) pe_int (fun _ _ => rfl)) (pe_ix ix_list (pv 2) pe_int (fun _ _ => rfl)) (nomark _)))) pss_nil)
    (pss_cons (ps_if (pt_cmpR op_eq (pe_fld (pv 0) rfl) (pe_glob (v := .int 1) rfl T.g_APART ⟨_, rfl⟩) (nomark _))
      (pss_one (ps_ret (pe_cmpR op_ne (pe_ix ix_list (pv 2) pe_int (fun _ _ => rfl)) (pe_ix ix_list (pv 2) pe_int (fun _ _ => rfl)) (nomark _)))) pss_nil)
    (pss_cons (ps_if (pt_cmpR op_eq (pe_fld (pv 0) rfl) (pe_glob (v := .int 2) rfl T.g_LEAST ⟨_, rfl⟩) (nomark _))
      (pss_one (ps_ret (pe_cmpR op_ge (pe_lenSet rfl T.n_len rfl T.n_set (pv 2)) (pe_fld (pv 0) rfl) (nomark _)))) pss_nil)
    (pss_one (ps_ret (pe_callB (cr_all rfl) (by rfl) T.n_all (by decide +kernel) (pa_cons
      (pe_lc (own := [("person", 4)]) (g := gName 4) (tt := tYes) (te := tOp oLe (tBM K "list" (rCntI K) (tVar 2) (tCons (tVar 4) tNil)) (tFld K (tVar 0) "number")) rfl sc_rKept.nd (pi_list (pv 2)) (blkOk_by (N := nn_rKept) (sc := defScope st_rKept) (by decide +kernel))
        (fun _ _ _ _ _ => pg_name (i := 4) sc_rKept.nd rfl (Or.inl rfl)) (fun _ _ _ _ _ => pts_nil)
        (fun _ _ _ _ _ => by exact (pe_cmpR op_le (pe_bm PySem.F.plainAttrs_list PySem.F.slot_list_count PySem.F.type_list_count mt_lcount (pv 2) (pa_cons (pv 4) pa_nil)) (pe_fld (pv 0) rfl) (nomark _))))
      pa_nil))))))), ?_⟩)
  · obtain ⟨p, t, q, pl, rfl, _⟩ := h
    rfl
  · obtain ⟨p, t, q, pl, rfl, ⟨dx, l, hp, hl, _⟩, ht, ro, h6, k⟩ := h
    obtain ⟨r1, r2⟩ := ro.steps
    -- people = [doers[step - 1] for step in self.steps]
    refine ⟨_, rfl, p, _, dx, _, _, rfl, hp, T.c_Rule, T.na_R_steps, rF_steps, l, rfl, ⟨_, SqL.of hl⟩, fun D hD => ?_⟩
    refine lc_list (K := K) (a := l) (xs := nI (rSteps q)) (fun i H' => Same H H' ∧ H' D = some (.lst (nI ((whoDo pl (rSteps q)).take i))))
      ⟨same_new hD, upd_same⟩ (fun i H' _ ⟨s1, _⟩ => SqL.of (s1 _ _ hl)) ?_ ?_
    · rintro i x H' hx ⟨s1, e1⟩
      obtain ⟨st, hs, rfl⟩ := nI_of hx
      have b := r2 st (List.mem_of_getElem? hs)
      have hd := doer_at b.1 b.2
      refine ⟨rfl, ?_⟩
      refine ⟨_, rfl, _, rfl, _, _, rfl, rfl, t, _, _, _, rfl, rfl, SqT.of (s1 _ _ ht), at_of (j := st - 1) (by omega) (nI_at hd), _, e1, ?_, same_upd s1 hD, ?_⟩
      · rw [nI_length]
        have : ((whoDo pl (rSteps q)).take i).length ≤ 5 := by
          rw [List.length_take]
          have : (whoDo pl (rSteps q)).length = (rSteps q).length := List.length_map ..
          omega
        rw [sizeLine_eq]; omega
      · rw [upd_same, take_one (whoDo_at hs), nI_append]
        rfl
    · rintro H1 ⟨s1, e1⟩
      rw [nI_length] at e1
      have el : (whoDo pl (rSteps q)).length = (rSteps q).length := List.length_map ..
      rw [← el, List.take_length] at e1
      have hp1 := s1 _ _ hp
      have w6 : In6 (whoDo pl (rSteps q)) := by
        intro x hx
        obtain ⟨i, hi, e⟩ := List.mem_map.mp hx
        rw [← e]
        exact doer_in6 h6 (r2 i hi).1 (r2 i hi).2
      -- if self.kind == SAME
      refine ⟨_, rfl, p, _, dx, _, _, rfl, hp1, T.c_Rule, T.na_R_kind, rF_kind, rfl, _, rfl, ?_⟩
      cases q with
      | same i j =>
        refine iteT ?_
        have e2 : H1 D = some (.lst (nI [Wm05.doer pl i, Wm05.doer pl j])) := e1
        refine ⟨_, rfl, D, _, _, _, rfl, rfl, SqL.of e2, atI_nat (j := 0) rfl, _, rfl, D, _, _, _, rfl, rfl, SqL.of e2, atI_nat (j := 1) rfl, rfl, ?_⟩
        have := k H1 s1
        rw [keeps_same] at this
        rw [dec_int2]
        exact this
      | apart i j =>
        refine iteF ?_
        have e2 : H1 D = some (.lst (nI [Wm05.doer pl i, Wm05.doer pl j])) := e1
        refine ⟨_, rfl, p, _, dx, _, _, rfl, hp1, T.c_Rule, T.na_R_kind, rF_kind, rfl, _, rfl, iteT ?_⟩
        refine ⟨_, rfl, D, _, _, _, rfl, rfl, SqL.of e2, atI_nat (j := 0) rfl, _, rfl, D, _, _, _, rfl, rfl, SqL.of e2, atI_nat (j := 1) rfl, rfl, ?_⟩
        have := k H1 s1
        rw [keeps_apart] at this
        rw [dec_int2]
        exact this
      | least n ls =>
        refine iteF ?_
        refine ⟨_, rfl, p, _, dx, _, _, rfl, hp1, T.c_Rule, T.na_R_kind, rF_kind, rfl, _, rfl, iteF ?_⟩
        refine ⟨_, rfl, p, _, dx, _, _, rfl, hp1, T.c_Rule, T.na_R_kind, rF_kind, rfl, _, rfl, iteT ?_⟩
        have e2 : H1 D = some (.lst ((zs (whoDo pl ls)).map V.int)) := by rw [← nI_zs]; exact e1
        refine ⟨_, rfl, D, _, rfl, SqL.of e2, ?_, _, rfl, p, _, dx, _, _, rfl, hp1, T.c_Rule, T.na_R_number, rF_number, _, _, rfl, rfl, ?_⟩
        · rw [zs_length]
          have : (whoDo pl ls).length = ls.length := List.length_map ..
          have : ls.length ≤ 5 := r1
          omega
        · have := k H1 s1
          rw [keeps_least] at this
          have e3 : decide ((n : Int) ≤ ((diff (zs (whoDo pl ls))).length : Nat)) = decide (n ≤ (diff (zs (whoDo pl ls))).length) := by
            congr 1
            exact propext Int.ofNat_le
          show Q (.bl (decide ((n : Int) ≤ ((diff (zs (whoDo pl ls))).length : Nat)))) H1
          rw [e3]
          exact this
      | most n ls =>
        refine iteF ?_
        refine ⟨_, rfl, p, _, dx, _, _, rfl, hp1, T.c_Rule, T.na_R_kind, rF_kind, rfl, _, rfl, iteF ?_⟩
        refine ⟨_, rfl, p, _, dx, _, _, rfl, hp1, T.c_Rule, T.na_R_kind, rF_kind, rfl, _, rfl, iteF ?_⟩
        have e2 : H1 D = some (.lst (nI (whoDo pl ls))) := e1
        -- all([people.count(person) <= self.number for person in people])
        refine ⟨_, rfl, D, rfl, ⟨_, SqL.of e2⟩, fun D2 hD2 => ?_⟩
        refine lc_list (K := K) (a := D) (xs := nI (whoDo pl ls)) (fun i H' => Same H1 H' ∧ H' D2 = some (.lst ((((whoDo pl ls).take i).map fun p => decide ((whoDo pl ls).count p ≤ n)).map V.bl)))
          ⟨same_new hD2, upd_same⟩ (fun i H' _ ⟨s2, _⟩ => SqL.of (s2 _ _ e2)) ?_ ?_
        · rintro i x H' hx ⟨s2, e3⟩
          obtain ⟨pr, hs, rfl⟩ := nI_of hx
          refine ⟨rfl, ?_⟩
          have e4 : H' D = some (.lst ((zs (whoDo pl ls)).map V.int)) := by rw [← nI_zs]; exact s2 _ _ e2
          refine ⟨_, rfl, .inl ⟨rfl, _, SqL.of e4⟩, _, rfl, D, zs (whoDo pl ls), _, rfl, rfl, SqL.of e4, _, rfl, p, _, dx, _, _, rfl, s2 _ _ hp1, T.c_Rule, T.na_R_number, rF_number, _, _, rfl, rfl, _, e3, ?_, same_upd s2 hD2, ?_⟩
          · rw [List.length_map, List.length_map]
            have : (whoDo pl ls).length = ls.length := List.length_map ..
            have : ls.length ≤ 5 := r1
            have : ((whoDo pl ls).take i).length ≤ 5 := by rw [List.length_take]; omega
            rw [sizeLine_eq]; omega
          · rw [upd_same, take_one hs, zs_count, List.map_append, List.map_append]
            congr 3
            show [V.bl _] = [V.bl _]
            congr 2
            show decide (((whoDo pl ls).count pr : Int) ≤ (n : Int)) = decide ((whoDo pl ls).count pr ≤ n)
            congr 1
            exact propext Int.ofNat_le
        · rintro H2 ⟨s2, e3⟩
          rw [nI_length, List.take_length] at e3
          refine ⟨D2, _, rfl, SqL.of e3, ?_⟩
          have := k H2 (s1.trans s2)
          have e5 : Wm05.keeps pl (.most n ls) = ((whoDo pl ls).map fun p => decide ((whoDo pl ls).count p ≤ n)).all id := by
            rw [keeps_most (k := n) (l := ls) w6, List.all_map]
            rfl
          rw [e5] at this
          exact this
end
end Sf

/-! SfD2: Work.__init__, Work.is_kept, Work.choices. -/
namespace Sf
open PySem PySem.Spec PyProof.Rows L2
theorem upd_none {H : Hp} {a b : Addr} {o : HO} (h : upd H a o b = none) : b ≠ a ∧ H b = none := by
  by_cases c : b = a
  · rw [c, upd_same] at h
    cases h
  · rw [upd_ne c] at h
    exact ⟨c, h⟩
section
variable {P : Program} {w : World} {K : PySem.W.Frag} {mg : Str → Option Value} {base : Heap} {A : Ads}
def spWI (A : Ads) : Sp := fun vs H Q _ => ∃ p dx : Addr, vs = [.ref p] ∧ H p = some (.ins A.cW dx []) ∧
  ∀ H' m r d, WAt A H' p m r d Wm05.init → (∀ b o, H b = some o → b ≠ p → H' b = some o) → H m = none → H r = none → H d = none → Q .non H'
theorem ok_wInit (T : Txt K mg A) : FnOk P w K mg base CX0 1 A.f_wInit A.d_wInit ["self"] (spWI A) := by
  refine T.h_wInit.F.ok sc_wInit (fun vs H Q E h => ?_) (fun cdv A' outer s H vs Q E hr h => ⟨_, pss_cons (ps_fld (pv 0) (pe_lst pa_nil) rfl) (pss_cons (ps_fld (pv 0) (pe_lst pa_nil) rfl) (pss_one (ps_fld (pv 0) (pe_lst pa_nil) rfl))), ?_⟩)
  · obtain ⟨p, dx, rfl, _⟩ := h
    rfl
  · obtain ⟨p, dx, rfl, hp, k⟩ := h
    refine ⟨Nat.zero_le _, fun m hm => ⟨_, rfl, p, A.cW, dx, [], rfl, ?_, T.c_Work, T.na_W_may, (by show 0 < 1000; decide), ?_⟩⟩
    · rw [upd_ne (ne_new hp hm)]; exact hp
    refine ⟨Nat.zero_le _, fun r hr1 => ⟨_, rfl, p, A.cW, dx, putF "may" (.ref m) [], rfl, ?_, T.c_Work, T.na_W_rules, (by show 1 < 1000; decide), ?_⟩⟩
    · rw [upd_ne (fun z => (upd_none hr1).1 z.symm)]; exact upd_same
    obtain ⟨rp, hr2⟩ := upd_none hr1
    obtain ⟨rm, hr3⟩ := upd_none hr2
    refine ⟨Nat.zero_le _, fun d hd1 => ⟨_, rfl, p, A.cW, dx, putF "rules" (.ref r) (putF "may" (.ref m) []), rfl, ?_, T.c_Work, T.na_W_doers, ?_, ?_⟩⟩
    · rw [upd_ne (fun z => (upd_none hd1).1 z.symm)]; exact upd_same
    · have := length_putF "rules" (V.ref r) (putF "may" (V.ref m) [])
      have := length_putF "may" (V.ref m) []
      have e : ([] : List (Str × V)).length = 0 := rfl
      omega
    obtain ⟨dp, hd2⟩ := upd_none hd1
    obtain ⟨dr, hd3⟩ := upd_none hd2
    obtain ⟨dp', hd4⟩ := upd_none hd3
    obtain ⟨dm, hd5⟩ := upd_none hd4
    have pm := ne_new hp hm
    refine k _ m r d ⟨⟨dx, ?_⟩, ?_, fun z => rm z.symm, fun z => dm z.symm, fun z => dr z.symm, ⟨[], ?_, .nil⟩, ⟨[], ?_, .nil⟩⟩ (fun b o e hb => ?_) hm hr3 hd5
    · rw [upd_same, wF_new]
    · rw [upd_ne dp, upd_same]; rfl
    · rw [upd_ne (fun z => pm z.symm), upd_ne (fun z => dm z.symm), upd_ne (fun z => pm z.symm), upd_ne (fun z => rm z.symm), upd_ne (fun z => pm z.symm), upd_same]; rfl
    · rw [upd_ne rp, upd_ne (fun z => dr z.symm), upd_ne rp, upd_same]; rfl
    · rw [upd_ne hb, upd_ne (ne_new e hd5), upd_ne hb, upd_ne (ne_new e hr3), upd_ne hb, upd_ne (ne_new e hm)]; exact e
/-- Work.is_kept -/
def spWK (A : Ads) : Sp := fun vs H Q _ => ∃ (a m r d t : Addr) (w : Wk) (pl : List Nat), vs = [.ref a, .ref t] ∧ WAt A H a m r d w ∧ WF w ∧ H t = some (.tup (nI pl)) ∧ pl.length = w.steps.length ∧ In6 pl ∧
  ∀ H', Same H H' → Q (.bl (Wm05.fine w pl)) H'
theorem ok_wKept (T : Txt K mg A) : FnOk P w K mg base CX0 2 A.f_wKept A.d_wKept ["self", "doers"] (spWK A) := by
  refine T.h_wKept.F.ok sc_wKept (fun vs H Q E h => ?_) (fun cdv A' outer s H vs Q E hr h => ⟨_,
    pss_one (ps_ret (pe_callB (cr_all rfl) (by rfl) T.n_all (by decide +kernel) (pa_cons
      (pe_lc (own := [("rule", 2)]) (g := gName 2) (tt := tYes) (te := tMeth A.cR "is_kept" (spRK A) [] E0 (tVar 2) (tCons (tVar 1) tNil)) rfl sc_wKept.nd (pi_list (pe_fld (pv 0) rfl)) (blkOk_by (N := nn_wKept) (sc := defScope st_wKept) (by decide +kernel))
        (fun _ _ _ _ _ => pg_name (i := 2) sc_wKept.nd rfl (Or.inl rfl)) (fun _ _ _ _ _ => pts_nil)
        (fun _ _ _ _ _ => by exact (pe_meth (pv 2) T.c_Rule T.h_rKept.m (ok_rKept T) hr T.h_rKept.b .nil pass0 (pa_cons (pv 1) pa_nil))))
      pa_nil))), ?_⟩)
  · obtain ⟨a, m, r, d, t, w, pl, rfl, _⟩ := h
    rfl
  · obtain ⟨a, m, r, d, t, w, pl, rfl, wa, wf, ht, hl, h6, k⟩ := h
    obtain ⟨⟨dx, ob⟩, dr, mr, md, rd, ⟨ms, h1, h2⟩, ⟨rs, h3, h4⟩⟩ := id wa
    refine ⟨_, rfl, a, _, dx, _, _, rfl, ob, T.c_Work, T.na_W_rules, wF_rules, r, rfl, ⟨_, SqL.of h3⟩, fun D hD => ?_⟩
    have el : (rs.map V.ref).length = w.rules.length := by rw [List.length_map, Paired.length h4]
    refine lc_list (K := K) (a := r) (xs := rs.map V.ref) (fun i H' => Same H H' ∧ H' D = some (.lst (((w.rules.take i).map (Wm05.keeps pl)).map V.bl)))
      ⟨same_new hD, upd_same⟩ (fun i H' _ ⟨s1, _⟩ => SqL.of (s1 _ _ h3)) ?_ ?_
    · rintro i x H' hx ⟨s1, e1⟩
      obtain ⟨p, hp, rfl⟩ := refs_at hx
      obtain ⟨q, hq, rq⟩ := paired_at' h4 hp
      refine ⟨rfl, ?_⟩
      obtain ⟨dxr, l, g1, g2, g3⟩ := id rq
      refine ⟨_, rfl, p, dxr, _, rfl, s1 _ _ g1, rF_kept, _, rfl, p, t, q, pl, rfl, ?_, s1 _ _ ht, ?_, h6, fun H2 s2 => ?_⟩
      · exact ⟨dxr, l, s1 _ _ g1, s1 _ _ g2, True.intro⟩
      · rw [hl]; exact wf.rul q (List.mem_of_getElem? hq)
      · refine ⟨_, s2 _ _ e1, ?_, same_upd (s1.trans s2) hD, ?_⟩
        · rw [List.length_map, List.length_map, List.length_take]
          have := wf.nr
          rw [sizeLine_eq]; omega
        · rw [upd_same, take_one hq, List.map_append, List.map_append]
          rfl
    · rintro H1 ⟨s1, e1⟩
      rw [el, List.take_length] at e1
      refine ⟨D, _, rfl, SqL.of e1, ?_⟩
      have := k H1 s1
      have e5 : Wm05.fine w pl = (w.rules.map (Wm05.keeps pl)).all id := by
        rw [List.all_map]
        rfl
      rw [e5] at this
      exact this
/-- Work.choices -/
def spWC (K : PySem.W.Frag) (A : Ads) : Sp := fun vs H Q _ => ∃ (a m r d g : Addr) (w : Wk) (gone : List Nat), vs = [.ref a, .ref g] ∧ WAt A H a m r d w ∧ WF w ∧ (SqL K H g (nI gone) ∨ SqT K H g (nI gone)) ∧
  ∀ H' p, Same H H' → H p = none → LTAt H' p (alls gone w.done (rest w)) → Q (.ref p) H'
theorem sq_same {K : PySem.W.Frag} {H H' : Hp} {g : Addr} {xs : List V} (s : Same H H') (h : SqL K H g xs ∨ SqT K H g xs) : SqL K H' g xs ∨ SqT K H' g xs := by
  rcases h with h | h
  · exact .inl (s.seq h)
  · refine .inr ?_
    rcases h with h | h
    · rcases h with h | ⟨o, h⟩
      · exact .inl (.inl (s _ _ h))
      · exact .inl (.inr ⟨o, s _ _ h⟩)
    · exact .inr h
theorem here_snoc {g s : List Nat} {i x : Nat} (h : s[i]? = some x) : here g (s.take (i + 1)) = if g.contains x then here g (s.take i) else here g (s.take i) ++ [x] := by
  unfold here
  rw [take_one h, List.filter_append, List.filter_cons]
  cases c : g.contains x with
  | true => simp
  | false => simp
theorem ext_snoc {g s : List Nat} {O : List (List Nat)} {j : Nat} {pl : List Nat} (h : O[j]? = some pl) : ext g (O.take (j + 1)) s = ext g (O.take j) s ++ (here g s).map fun p => pl ++ [p] := by
  unfold ext
  rw [take_one h, List.flatMap_append]
  simp
theorem alls_next {w : Wk} {g : List Nat} {i : Nat} {s : List Nat} (h : (rest w)[i]? = some s) : alls g w.done ((rest w).take (i + 1)) = ext g (alls g w.done ((rest w).take i)) s := by
  rw [take_one h, alls_snoc]
theorem ok_wCh (T : Txt K mg A) : FnOk P w K mg base CX0 1 A.f_wCh A.d_wCh ["self", "gone"] (spWC K A) := by
  refine T.h_wCh.F.ok sc_wCh (fun vs H Q E h => ?_) (fun cdv A' outer s H vs Q E hr h => ⟨_,
    pss_cons (ps_set (i := 2) sc_wCh.nd rfl (Or.inl rfl) (pe_lst (pa_cons (pe_callTy call_tuple_of (by rfl) T.n_tuple (by decide +kernel) (pa_cons (pe_fld (pv 0) rfl) pa_nil)) pa_nil)))
    (pss_cons (ps_for PassesOwn.never rfl (pi_range2 (by rfl) T.n_range (pa_cons (pe_callB call_len_seq (by rfl) T.n_len boot_len (pa_cons (pe_fld (pv 0) rfl) pa_nil)) (pa_cons (pe_callB call_len_seq (by rfl) T.n_len boot_len (pa_cons (pe_fld (pv 0) rfl) pa_nil)) pa_nil))) (pg_name (i := 3) sc_wCh.nd rfl (Or.inl rfl))
      (pss_cons (ps_setLc (i := 4) (own := [("person", 7)]) (g := gName 7) (tt := tTest (tOp (rIn K true) (tVar 7) (tVar 1))) (te := tVar 7) rfl sc_wCh.nd rfl rfl (sw_true rfl rfl rfl (by decide +kernel)) (pi_list (pe_ix ix_list (pe_fld (pv 0) rfl) (pv 3) (fun _ _ => rfl))) (blkOk_by (N := nn_wCh) (sc := defScope st_wCh) (by decide +kernel))
          (fun _ _ _ _ _ => pg_name (i := 7) sc_wCh.nd rfl (Or.inl rfl)) (fun _ _ _ _ _ => pts_one (by exact (pt_cmpR op_notIn_seq (pv 7) (pv 1) (by rfl)))) (fun _ _ _ _ _ => by exact (pv 7)))
      (pss_cons (ps_set (i := 5) sc_wCh.nd rfl (Or.inl rfl) (pe_lst pa_nil))
      (pss_cons (ps_for PassesOwn.never rfl (pi_list (pv 2)) (pg_name (i := 6) sc_wCh.nd rfl (Or.inr rfl))
        (pss_one (ps_expr (pe_bm PySem.F.plainAttrs_list PySem.F.slot_list_extend PySem.F.type_list_extend mt_extend (pv 5) (pa_cons
          (pe_lc (own := [("person", 7)]) (g := gName 7) (tt := tYes) (te := tOp (rCatA K) (tVar 6) (tTup (tCons (tVar 7) tNil))) rfl sc_wCh.nd (pi_list (pv 4)) (blkOk_by (N := nn_wCh) (sc := defScope st_wCh) (by decide +kernel))
            (fun _ _ _ _ _ => pg_name (i := 7) sc_wCh.nd rfl (Or.inl rfl)) (fun _ _ _ _ _ => pts_nil) (fun _ _ _ _ _ => by exact (pe_op op_catA (pv 6) (pe_tup (pa_cons (pv 7) pa_nil)))))
          pa_nil)))))
      (pss_one (ps_set (i := 2) sc_wCh.nd rfl (Or.inl rfl) (pv 5)))))))
    (pss_one (ps_ret (pv 2)))), ?_⟩)
  · obtain ⟨a, m, r, d, g, w, gone, rfl, _⟩ := h
    rfl
  · obtain ⟨a, m, r, d, g, w, gone, rfl, wa, wf, hg, k⟩ := h
    obtain ⟨⟨dx, ob⟩, dr, mr, md, rd, ⟨ms, h1, h2⟩, ⟨rs, h3, h4⟩⟩ := id wa
    have few := wf.few
    have dn := wf.dn
    -- out = [tuple(self.doers)]
    refine ⟨_, rfl, a, _, dx, _, _, rfl, ob, T.c_Work, T.na_W_doers, wF_doers, d, _, rfl, .inl ⟨SqL.of dr, fun t0 ht0 => ?_⟩⟩
    refine ⟨(by show 1 ≤ sizeLine; rw [sizeLine_eq]; decide), fun o ho => ?_⟩
    obtain ⟨ot, ho2⟩ := upd_none ho
    have s0 : Same H (upd (upd H t0 (.tup (nI w.done))) o (.lst [.ref t0])) := same_upd (same_new ht0) ho2
    -- for step in range(..)
    refine ⟨_, rfl, a, _, dx, _, _, rfl, s0 _ _ ob, T.c_Work, T.na_W_doers, wF_doers, d, _, rfl, .inl (SqL.of (s0 _ _ dr)), ?_⟩
    refine ⟨_, rfl, a, _, dx, _, _, rfl, s0 _ _ ob, T.c_Work, T.na_W_may, wF_may, m, _, rfl, .inl (SqL.of (s0 _ _ h1)), ?_⟩
    have lm : (ms.map V.ref).length = w.steps.length := by rw [List.length_map, Paired.length h2]
    rw [lm, nI_length]
    refine ⟨_, _, rfl, ⟨by omega, by omega, by omega, by omega⟩, ?_⟩
    have en : ((w.steps.length : Int) - (w.done.length : Int)).toNat = (rest w).length := by rw [rest_length wf]; omega
    rw [en]
    refine for_range (lo := (w.done.length : Int)) (n := (rest w).length) (fun i σ H' => ∃ (o : Addr) (s3 s4 s5 s6 : Option V), σ = [some (.ref a), some (.ref g), some (.ref o), s3, s4, s5, s6, none] ∧ Same H H' ∧ H o = none ∧ LTAt H' o (alls gone w.done ((rest w).take i)))
      ⟨o, none, none, none, none, rfl, s0, ho2, [t0], upd_same, ?_⟩ ?_ ?_
    · show TupsAt _ [t0] [w.done]
      refine .cons ?_ .nil
      rw [upd_ne (fun z => ot z.symm), upd_same]
    · rintro i σ H1 hi ⟨o, s3, s4, s5, s6, rfl, s1, no, lt⟩
      obtain ⟨ps, lo, tp⟩ := lt
      have hst : w.steps[w.done.length + i]? = some (w.steps[w.done.length + i]'(by rw [rest_length wf] at hi; omega)) := List.getElem?_eq_getElem _
      generalize w.steps[w.done.length + i]'(by rw [rest_length wf] at hi; omega) = st at hst
      have hrest : (rest w)[i]? = some st := by
        unfold rest
        rw [List.getElem?_drop]
        exact hst
      obtain ⟨pm, hpm, hpl, offp⟩ := paired_at h2 hst
      have six : st.length ≤ 6 := wf.six st (List.mem_of_getElem? hst)
      -- there = [..]
      refine ⟨_, rfl, a, _, dx, _, _, rfl, s1 _ _ ob, T.c_Work, T.na_W_may, wF_may, _, rfl, m, _, _, _, rfl, rfl, SqL.of (s1 _ _ h1), at_of (j := w.done.length + i) (by omega) (at_refs hpm), pm, rfl, ⟨_, SqL.of (s1 _ _ hpl)⟩, fun D hD => ?_⟩
      refine lc_list (K := K) (a := pm) (xs := nI st) (fun j H' => Same H1 H' ∧ H' D = some (.lst (nI (here gone (st.take j)))))
        ⟨same_new hD, upd_same⟩ (fun j H' _ ⟨s2, _⟩ => SqL.of (s2 _ _ (s1 _ _ hpl))) ?_ ?_
      · rintro j x H' hx ⟨s2, e2⟩
        obtain ⟨pr, hp, rfl⟩ := nI_of hx
        refine ⟨rfl, ?_⟩
        refine ⟨_, rfl, _, rfl, g, nI gone, rfl, sq_same (s1.trans s2) hg, rfl, nI_flat gone, _, rfl, ?_⟩
        rw [inV_nI]
        have hs := here_snoc (g := gone) hp
        cases c : gone.contains pr with
        | true =>
          rw [c, if_pos rfl] at hs
          refine ⟨s2, ?_⟩
          rw [hs]
          exact e2
        | false =>
          rw [c, if_neg (by decide)] at hs
          refine ⟨_, rfl, _, e2, ?_, same_upd s2 hD, ?_⟩
          · rw [nI_length]
            have := here_length gone (st.take j)
            rw [List.length_take] at this
            rw [sizeLine_eq]; omega
          · rw [upd_same, hs, nI_append]
            rfl
      · rintro H2 ⟨s2, e2⟩
        rw [nI_length, List.take_length] at e2
        have s12 := s1.trans s2
        have nD : H D = none := s1.free hD
        -- longer = []
        refine ⟨Nat.zero_le _, fun L hL => ?_⟩
        have nL : H L = none := s12.free hL
        have s3' := same_upd (o := .lst []) s12 nL
        have lo2 : H2 o = some (.lst (ps.map V.ref)) := s2 _ _ lo
        have lo3 : upd H2 L (.lst []) o = some (.lst (ps.map V.ref)) := by rw [upd_ne (ne_new lo2 hL)]; exact lo2
        have e3 : upd H2 L (.lst []) D = some (.lst (nI (here gone st))) := by rw [upd_ne (ne_new e2 hL)]; exact e2
        have oL : o ≠ L := ne_new lo2 hL
        have DL : D ≠ L := ne_new e2 hL
        refine ⟨_, rfl, o, rfl, ⟨_, SqL.of lo3⟩, ?_⟩
        have lps : (ps.map V.ref).length = (alls gone w.done ((rest w).take i)).length := by rw [List.length_map, Paired.length tp]
        have big := wf.alls_length gone i
        refine for_list (K := K) (a := o) (xs := ps.map V.ref) (fun j σ H' => ∃ s6 : Option V, σ = [some (.ref a), some (.ref g), some (.ref o), some (.int ((w.done.length : Int) + (i : Nat))), some (.ref D), some (.ref L), s6, none] ∧
            (∀ b u, b ≠ L → H2 b = some u → H' b = some u) ∧ ∃ qs : List Addr, H' L = some (.lst (qs.map V.ref)) ∧ TupsAt H' qs (ext gone ((alls gone w.done ((rest w).take i)).take j) st))
          ⟨s6, rfl, fun b u n e => by rw [upd_ne n]; exact e, [], upd_same, .nil⟩ (fun j σ H' _ ⟨_, _, kp, _⟩ => SqL.of (kp _ _ oL lo2)) ?_ ?_
        · rintro j x σ H3 hx ⟨s6, rfl, kp, qs, eL, tq⟩
          obtain ⟨pa, hpa, rfl⟩ := refs_at hx
          obtain ⟨pl, hpl2, tpl⟩ := paired_at' tp hpa
          have tpl3 : H3 pa = some (.tup (nI pl)) := kp _ _ (ne_new (s2 _ _ tpl) hL) (s2 _ _ tpl)
          have eD3 := kp _ _ DL e2
          refine ⟨_, rfl, .inl ⟨rfl, _, SqL.of eL⟩, _, rfl, D, rfl, ⟨_, SqL.of eD3⟩, fun D3 hD3 => ?_⟩
          refine lc_list (K := K) (a := D) (xs := nI (here gone st)) (fun t H' => Same H3 H' ∧ ∃ ts : List Addr, H' D3 = some (.lst (ts.map V.ref)) ∧ TupsAt H' ts (((here gone st).take t).map fun p => pl ++ [p]))
            ⟨same_new hD3, [], upd_same, .nil⟩ (fun t H' _ ⟨s4, _⟩ => SqL.of (s4 _ _ eD3)) ?_ ?_
          · rintro t x H' hx ⟨s4, ts, f1, f2⟩
            obtain ⟨pr, hp, rfl⟩ := nI_of hx
            refine ⟨rfl, ?_⟩
            have lts : (ts.map V.ref).length < sizeLine := by
              have := here_length gone st
              rw [List.length_map, Paired.length f2, List.length_map, List.length_take, sizeLine_eq]
              omega
            have hn : ((here gone st).take (t + 1)).map (fun p => pl ++ [p]) = ((here gone st).take t).map (fun p => pl ++ [p]) ++ [pl ++ [pr]] := by
              rw [take_one hp, List.map_append]
              rfl
            refine ⟨_, rfl, _, rfl, (by show 1 ≤ sizeLine; rw [sizeLine_eq]; decide), fun u hu => ?_⟩
            have nu : H3 u = none := s4.free hu
            have hu1 : upd H' u (.tup [.int (pr : Int)]) u = some (.tup (nI [pr])) := upd_same
            have tpl4 : upd H' u (.tup [.int (pr : Int)]) pa = some (.tup (nI pl)) := by rw [upd_ne (ne_new tpl3 nu)]; exact s4 _ _ tpl3
            have lpl : (nI pl).length ≤ 5 := by
              rw [nI_length]
              have := (alls_mem (fun s hs => rest_in wf.in6 s (List.mem_of_mem_take hs)) wf.dp (List.mem_of_getElem? hpl2)).1
              rw [this, List.length_take, rest_length wf]
              omega
            have f1' : upd H' u (.tup [.int (pr : Int)]) D3 = some (.lst (ts.map V.ref)) := by rw [upd_ne (ne_new f1 hu)]; exact f1
            have s5 := same_upd (o := .tup [.int (pr : Int)]) s4 nu
            have f2' := f2.same (same_new (o := .tup [.int (pr : Int)]) hu)
            refine ⟨pa, u, nI pl, nI [pr], rfl, rfl, SqT.of tpl4, SqT.of hu1, ?_, fun e => ?_, fun _ e => (nomatch e), fun ne _ v hv => ?_⟩
            · rw [sizeLine_eq]
              show (nI pl).length + 1 ≤ _
              omega
            · -- () + (person,)
              have epl : pl = [] := nI_inj (b := []) e
              refine ⟨_, f1', lts, same_upd s5 hD3, ts ++ [u], ?_, ?_⟩
              · rw [upd_same, List.map_append]; rfl
              · rw [hn]
                refine Paired.snoc (f2'.upd f1') ?_
                rw [upd_ne (ne_of hu1 f1' (fun z => nomatch z)), hu1, epl] <;> rfl
            · obtain ⟨vu, hv2⟩ := upd_none hv
              have nv : H3 v = none := s4.free hv2
              have s6 := same_upd (o := .tup (nI pl ++ nI [pr])) s5 nv
              have f1'' : upd (upd H' u (.tup [.int (pr : Int)])) v (.tup (nI pl ++ nI [pr])) D3 = some (.lst (ts.map V.ref)) := by rw [upd_ne (ne_new f1' hv)]; exact f1'
              have f2'' := f2'.same (same_new (o := .tup (nI pl ++ nI [pr])) hv)
              refine ⟨_, f1'', lts, same_upd s6 hD3, ts ++ [v], ?_, ?_⟩
              · rw [upd_same, List.map_append]; rfl
              · rw [hn]
                refine Paired.snoc (f2''.upd f1'') ?_
                rw [upd_ne (ne_of (a := v) upd_same f1'' (fun z => nomatch z)), upd_same, nI_append]
          · rintro H4 ⟨s4, ts, f1, f2⟩
            rw [nI_length, List.take_length] at f2
            have eL4 := s4 _ _ eL
            have tq4 := tq.same s4
            refine ⟨L, D3, _, _, rfl, rfl, eL4, f1, ?_, ?_⟩
            · have b1 : (qs.map V.ref).length ≤ 7776 * 6 := by
                have := ext_length (g := gone) six ((alls gone w.done ((rest w).take i)).take j)
                rw [List.length_map, Paired.length tq]
                have : ((alls gone w.done ((rest w).take i)).take j).length ≤ 7776 := by rw [List.length_take]; omega
                omega
              have b2 : (ts.map V.ref).length ≤ 6 := by
                rw [List.length_map, Paired.length f2, List.length_map]
                have := here_length gone st
                omega
              rw [sizeLine_eq]; omega
            · refine ⟨_, rfl, fun b u n e => ?_, qs ++ ts, ?_, ?_⟩
              · rw [upd_ne n]
                exact s4 _ _ (kp b u n e)
              · rw [upd_same, List.map_append]
              · rw [ext_snoc hpl2]
                exact paired_append (tq4.upd eL4) (f2.upd eL4)
        · rintro σ H3 ⟨s6, rfl, kp, qs, eL, tq⟩
          rw [lps, List.take_length] at tq
          -- out = longer
          refine ⟨_, rfl, L, _, _, _, _, rfl, fun b u e => kp b u (ne_new e nL) (s12 b u e), nL, qs, eL, ?_⟩
          rw [alls_next hrest]
          exact tq
    · rintro σ H1 ⟨o, s3, s4, s5, s6, rfl, s1, no, lt⟩
      rw [List.take_length] at lt
      exact ⟨_, rfl, k H1 o s1 no lt⟩
end
end Sf

/-! SfD3: Work.plans, Work.can_end. -/
namespace Sf
open PySem PySem.Spec PyProof.Rows L2
theorem filter_snoc {α : Type} {f : α → Bool} {l : List α} {i : Nat} {x : α} (h : l[i]? = some x) : (l.take (i + 1)).filter f = if f x then (l.take i).filter f ++ [x] else (l.take i).filter f := by
  rw [take_one h, List.filter_append, List.filter_cons]
  cases c : f x with
  | true => simp
  | false => simp
section
variable {P : Program} {w : World} {K : PySem.W.Frag} {mg : Str → Option Value} {base : Heap} {A : Ads}
/-- Work.plans -/
def spWP (K : PySem.W.Frag) (A : Ads) : Sp := fun vs H Q _ => ∃ (a m r d g : Addr) (w : Wk) (gone : List Nat), vs = [.ref a, .ref g] ∧ WAt A H a m r d w ∧ WF w ∧ (SqL K H g (nI gone) ∨ SqT K H g (nI gone)) ∧
  ∀ H' p, Same H H' → H p = none → LTAt H' p (pls w gone) → Q (.ref p) H'
theorem ok_wPl (T : Txt K mg A) : FnOk P w K mg base CX0 3 A.f_wPl A.d_wPl ["self", "gone"] (spWP K A) := by
  refine T.h_wPl.F.ok sc_wPl (fun vs H Q E h => ?_) (fun cdv A' outer s H vs Q E hr h => ⟨_,
    pss_one (ps_ret (pe_lc (own := [("plan", 2)]) (g := gName 2) (tt := tB (tMeth A.cW "is_kept" (spWK A) [] E0 (tVar 0) (tCons (tVar 2) tNil))) (te := tVar 2) rfl sc_wPl.nd
      (pi_list (pe_meth (pv 0) T.c_Work T.h_wCh.m (ok_wCh T) (hr.mono (by decide)) T.h_wCh.b .nil pass0 (pa_cons (pv 1) pa_nil))) (blkOk_by (N := nn_wPl) (sc := defScope st_wPl) (by decide +kernel))
      (fun _ _ _ _ _ => pg_name (i := 2) sc_wPl.nd rfl (Or.inl rfl))
      (fun _ _ _ _ _ => pts_one (pt_val (by exact (pe_meth (pv 0) T.c_Work T.h_wKept.m (ok_wKept T) hr T.h_wKept.b .nil pass0 (pa_cons (pv 2) pa_nil)))))
      (fun _ _ _ _ _ => by exact (pv 2)))), ?_⟩)
  · obtain ⟨a, m, r, d, g, w, gone, rfl, _⟩ := h
    rfl
  · obtain ⟨a, m, r, d, g, w, gone, rfl, wa, wf, hg, k⟩ := h
    obtain ⟨dx, ob⟩ := wa.ob
    refine ⟨_, rfl, a, dx, _, rfl, ob, wF_choices, _, rfl, a, m, r, d, g, w, gone, rfl, wa, wf, hg, fun H1 p s1 n1 lt => ?_⟩
    obtain ⟨ps, lo, tp⟩ := lt
    refine ⟨p, rfl, ⟨_, SqL.of lo⟩, fun D hD => ?_⟩
    have el : (ps.map V.ref).length = (alls gone w.done (rest w)).length := by rw [List.length_map, Paired.length tp]
    have big : (alls gone w.done (rest w)).length ≤ 7776 := by
      have := wf.alls_length gone (rest w).length
      rw [List.take_length] at this
      exact this
    refine lc_list (K := K) (a := p) (xs := ps.map V.ref) (fun i H' => Same H1 H' ∧ LTAt H' D (((alls gone w.done (rest w)).take i).filter (Wm05.fine w)))
      ⟨same_new hD, [], upd_same, .nil⟩ (fun i H' _ ⟨s2, _⟩ => SqL.of (s2 _ _ lo)) ?_ ?_
    · rintro i x H' hx ⟨s2, qs, f1, f2⟩
      obtain ⟨pa, hpa, rfl⟩ := refs_at hx
      obtain ⟨pl, hpl, tpl⟩ := paired_at' tp hpa
      have pm := wf.plan (List.mem_of_getElem? hpl)
      have s02 := s1.trans s2
      refine ⟨rfl, _, rfl, a, dx, _, rfl, s02 _ _ ob, wF_kept, _, rfl, a, m, r, d, pa, w, pl, rfl, wa.same s02, wf, s2 _ _ tpl, pm.1, pm.2.1, fun H2 s3 => ?_⟩
      refine ⟨_, rfl, ?_⟩
      have hs := filter_snoc (f := Wm05.fine w) hpl
      cases c : Wm05.fine w pl with
      | false =>
        rw [c, if_neg (by decide)] at hs
        refine ⟨s2.trans s3, ?_⟩
        rw [hs]
        exact ⟨qs, s3 _ _ f1, f2.same s3⟩
      | true =>
        rw [c, if_pos rfl] at hs
        have f1' := s3 _ _ f1
        have f2' := f2.same s3
        refine ⟨_, rfl, _, f1', ?_, same_upd (s2.trans s3) hD, qs ++ [pa], ?_, ?_⟩
        · have := List.length_filter_le (Wm05.fine w) ((alls gone w.done (rest w)).take i)
          rw [List.length_take] at this
          rw [List.length_map, Paired.length f2, sizeLine_eq]
          omega
        · rw [upd_same, List.map_append]; rfl
        · rw [hs]
          refine Paired.snoc (f2'.upd f1') ?_
          have z := s3 _ _ (s2 _ _ tpl)
          rw [upd_ne (ne_of z f1' (fun z => nomatch z))]
          exact z
    · rintro H2 ⟨s2, lt⟩
      rw [el, List.take_length] at lt
      exact k H2 D (s1.trans s2) (s1.free hD) lt
/-- Work.can_end -/
def spWE (K : PySem.W.Frag) (A : Ads) : Sp := fun vs H Q _ => ∃ (a m r d g : Addr) (w : Wk) (gone : List Nat), vs = [.ref a, .ref g] ∧ WAt A H a m r d w ∧ WF w ∧ (SqL K H g (nI gone) ∨ SqT K H g (nI gone)) ∧
  ∀ H', Same H H' → Q (.bl (!(pls w gone).isEmpty)) H'
theorem ok_wCan (T : Txt K mg A) : FnOk P w K mg base CX0 3 A.f_wCan A.d_wCan ["self", "gone"] (spWE K A) := by
  refine T.h_wCan.F.ok sc_wCan (fun vs H Q E h => ?_) (fun cdv A' outer s H vs Q E hr h => ⟨_,
    pss_cons (ps_for PassesOwn.never rfl (pi_list (pe_meth (pv 0) T.c_Work T.h_wCh.m (ok_wCh T) (hr.mono (by decide)) T.h_wCh.b .nil pass0 (pa_cons (pv 1) pa_nil))) (pg_name (i := 2) sc_wCan.nd rfl (Or.inl rfl))
      (pss_one (ps_if (pt_val (pe_meth (pv 0) T.c_Work T.h_wKept.m (ok_wKept T) hr T.h_wKept.b .nil pass0 (pa_cons (pv 2) pa_nil))) (pss_one (ps_ret pe_bl)) pss_nil)))
    (pss_one (ps_ret pe_bl)), ?_⟩)
  · obtain ⟨a, m, r, d, g, w, gone, rfl, _⟩ := h
    rfl
  · obtain ⟨a, m, r, d, g, w, gone, rfl, wa, wf, hg, k⟩ := h
    obtain ⟨dx, ob⟩ := wa.ob
    refine ⟨_, rfl, a, dx, _, rfl, ob, wF_choices, _, rfl, a, m, r, d, g, w, gone, rfl, wa, wf, hg, fun H1 p s1 n1 lt => ?_⟩
    obtain ⟨ps, lo, tp⟩ := lt
    have el : (ps.map V.ref).length = (alls gone w.done (rest w)).length := by rw [List.length_map, Paired.length tp]
    refine ⟨p, rfl, ⟨_, SqL.of lo⟩, ?_⟩
    refine for_list (K := K) (a := p) (xs := ps.map V.ref) (fun i σ H' => ∃ v : Option V, σ = [some (.ref a), some (.ref g), v] ∧ Same H1 H' ∧ ((alls gone w.done (rest w)).take i).filter (Wm05.fine w) = [])
      ⟨none, rfl, Same.refl _, rfl⟩ (fun i σ H' _ ⟨_, _, s2, _⟩ => SqL.of (s2 _ _ lo)) ?_ ?_
    · rintro i x σ H' hx ⟨v, rfl, s2, hn⟩
      obtain ⟨pa, hpa, rfl⟩ := refs_at hx
      obtain ⟨pl, hpl, tpl⟩ := paired_at' tp hpa
      have pm := wf.plan (List.mem_of_getElem? hpl)
      have s02 := s1.trans s2
      refine ⟨_, rfl, a, dx, _, rfl, s02 _ _ ob, wF_kept, _, rfl, a, m, r, d, pa, w, pl, rfl, wa.same s02, wf, s2 _ _ tpl, pm.1, pm.2.1, fun H2 s3 => ?_⟩
      refine ⟨_, rfl, ?_⟩
      have hs := filter_snoc (f := Wm05.fine w) hpl
      cases c : Wm05.fine w pl with
      | false =>
        rw [c, if_neg (by decide), hn] at hs
        exact ⟨_, rfl, s2.trans s3, hs⟩
      | true =>
        have ne : (pls w gone).isEmpty = false := by
          rw [List.isEmpty_eq_false_iff_exists_mem]
          exact ⟨pl, List.mem_filter.mpr ⟨List.mem_of_getElem? hpl, c⟩⟩
        have := k H2 (s02.trans s3)
        rw [ne] at this
        exact this
    · rintro σ H2 ⟨v, rfl, s2, hn⟩
      rw [el, List.take_length] at hn
      have := k H2 (s1.trans s2)
      unfold pls at this
      rw [hn] at this
      exact this
end
end Sf

/-! SfD3g: groups, groups_up_to. -/
namespace Sf
open PySem PySem.Spec PyProof.Rows L2
def okG (g : List Nat) (p : Nat) : Bool := g.isEmpty || decide (g.getLastD 0 < p)
theorem grow_def (O : List (List Nat)) : grow O = O.flatMap fun g => (ppl.filter (okG g)).map fun p => g ++ [p] := rfl
theorem grow_snoc {O : List (List Nat)} {j : Nat} {g : List Nat} (h : O[j]? = some g) : grow (O.take (j + 1)) = grow (O.take j) ++ (ppl.filter (okG g)).map fun p => g ++ [p] := by
  rw [grow_def, grow_def, take_one h, List.flatMap_append]
  simp
theorem pick_snoc {g : List Nat} {t p : Nat} (h : ppl[t]? = some p) : (ppl.take (t + 1)).filter (okG g) = if okG g p then (ppl.take t).filter (okG g) ++ [p] else (ppl.take t).filter (okG g) := by
  rw [take_one h, List.filter_append, List.filter_cons]
  cases c : okG g p with
  | true => simp
  | false => simp
theorem grow_few (O : List (List Nat)) : (grow O).length ≤ O.length * 6 := by
  induction O with
  | nil => exact Nat.zero_le _
  | cons g O ih =>
    have h1 : (ppl.filter (okG g)).length ≤ 6 := List.length_filter_le _ _
    rw [grow_def] at ih ⊢
    rw [List.flatMap_cons, List.length_append, List.length_map, List.length_cons]
    omega
section
variable {P : Program} {w : World} {K : PySem.W.Frag} {mg : Str → Option Value} {base : Heap} {A : Ads}
def spGr : Sp := fun vs H Q _ => ∃ k : Nat, vs = [.int (k : Int)] ∧ k ≤ 6 ∧ ∀ H' p, Same H H' → H p = none → LTAt H' p (grps k) → Q (.ref p) H'
theorem ok_groups (T : Txt K mg A) : FnOk P w K mg base CX0 1 A.f_groups A.d_groups ["count"] spGr := by
  refine T.h_groups.F.ok sc_groups (fun vs H Q E h => ?_) (fun cdv A' outer s H vs Q E hr h => ⟨_,
    pss_cons (ps_set (i := 1) sc_groups.nd rfl (Or.inl rfl) (pe_lst (pa_cons (pe_tup pa_nil) pa_nil)))
    (pss_cons (ps_for PassesOwn.never rfl (pi_range1 (by rfl) T.n_range (pa_cons (pv 0) pa_nil)) (pg_name (i := 2) sc_groups.nd rfl (Or.inl rfl))
      (pss_cons (ps_set (i := 3) sc_groups.nd rfl (Or.inl rfl) (pe_lst pa_nil))
      (pss_cons (ps_for PassesOwn.never rfl (pi_list (pv 1)) (pg_name (i := 4) sc_groups.nd rfl (Or.inl rfl))
        (pss_one (ps_for PassesOwn.never rfl (pi_tup (pe_glob (v := .ref A.aP) rfl T.gP rfl)) (pg_name (i := 5) sc_groups.nd rfl (Or.inl rfl))
          (pss_one (ps_if (PW.pt (pw_or (pt_cmpR op_eq (pe_callB call_len_seq (by rfl) T.n_len boot_len (pa_cons (pv 4) pa_nil)) pe_int (nomark _)) (pw_or1 (pt_cmpR op_gt (pv 5) (pe_ix ix_tup (pv 4) (pe_un un_neg pe_int) (fun _ _ => rfl)) (nomark _)))))
            (pss_one (ps_expr (pe_bm PySem.F.plainAttrs_list PySem.F.slot_list_append PySem.F.type_list_append mt_append (pv 3) (pa_cons (pe_op op_catA (pv 4) (pe_tup (pa_cons (pv 5) pa_nil))) pa_nil)))) pss_nil)))))
      (pss_one (ps_set (i := 1) sc_groups.nd rfl (Or.inl rfl) (pv 3))))))
    (pss_one (ps_ret (pv 1)))), ?_⟩)
  · obtain ⟨k, rfl, _⟩ := h
    rfl
  · obtain ⟨n, rfl, hn, k⟩ := h
    refine ⟨Nat.zero_le _, fun t0 ht0 => ⟨(by show 1 ≤ sizeLine; rw [sizeLine_eq]; decide), fun o ho => ?_⟩⟩
    obtain ⟨ot, ho2⟩ := upd_none ho
    have s0 : Same H (upd (upd H t0 (.tup [])) o (.lst [.ref t0])) := same_upd (same_new ht0) ho2
    refine ⟨_, rfl, _, rfl, by omega, by omega, ?_⟩
    rw [Int.toNat_natCast]
    refine for_range (lo := 0) (n := n) (fun i σ H' => ∃ (o : Addr) (s2 s3 s4 s5 : Option V), σ = [some (.int (n : Int)), some (.ref o), s2, s3, s4, s5] ∧ Same H H' ∧ H o = none ∧ LTAt H' o (grps i))
      ⟨o, none, none, none, none, rfl, s0, ho2, [t0], upd_same, ?_⟩ ?_ ?_
    · show TupsAt _ [t0] [[]]
      refine .cons ?_ .nil
      rw [upd_ne (fun z => ot z.symm), upd_same]
      rfl
    · rintro i σ H1 hi ⟨o, s2, s3, s4, s5, rfl, s1, no, ps, lo, tp⟩
      have few := grps_few i (by omega)
      refine ⟨Nat.zero_le _, fun L hL => ?_⟩
      have nL := s1.free hL
      have oL := ne_new lo hL
      have lo2 : upd H1 L (.lst []) o = some (.lst (ps.map V.ref)) := by rw [upd_ne oL]; exact lo
      refine ⟨_, rfl, o, rfl, ⟨_, SqL.of lo2⟩, ?_⟩
      have lps : (ps.map V.ref).length = (grps i).length := by rw [List.length_map, Paired.length tp]
      refine for_list (K := K) (a := o) (xs := ps.map V.ref) (fun j σ H' => ∃ s4 s5 : Option V, σ = [some (.int (n : Int)), some (.ref o), some (.int (0 + (i : Nat))), some (.ref L), s4, s5] ∧
          (∀ b u, b ≠ L → H1 b = some u → H' b = some u) ∧ LTAt H' L (grow ((grps i).take j)))
        ⟨s4, s5, rfl, fun b u n e => by rw [upd_ne n]; exact e, [], upd_same, .nil⟩ (fun j σ H' _ ⟨_, _, _, kp, _⟩ => SqL.of (kp _ _ oL lo)) ?_ ?_
      · rintro j x σ H2 hx ⟨s4, s5, rfl, kp, lt⟩
        obtain ⟨pa, hpa, rfl⟩ := refs_at hx
        obtain ⟨g, hg, tg⟩ := paired_at' tp hpa
        have paL := ne_new tg hL
        have lj : ((grps i).take j).length ≤ 20 := by rw [List.length_take]; omega
        refine ⟨A.aP, rfl, ⟨_, T.tP _⟩, ?_⟩
        refine for_tup (K := K) (a := A.aP) (xs := nI ppl) (fun t σ H' => ∃ s5 : Option V, σ = [some (.int (n : Int)), some (.ref o), some (.int (0 + (i : Nat))), some (.ref L), some (.ref pa), s5] ∧
            (∀ b u, b ≠ L → H1 b = some u → H' b = some u) ∧ LTAt H' L (grow ((grps i).take j) ++ ((ppl.take t).filter (okG g)).map fun p => g ++ [p]))
          ⟨s5, rfl, kp, by simpa using lt⟩ (fun t σ H' _ _ => T.tP _) ?_ ?_
        · rintro t x σ H3 hx ⟨s5, rfl, kp3, qs, f1, f2⟩
          obtain ⟨p, hp, rfl⟩ := nI_of hx
          have tg3 := kp3 _ _ paL tg
          have hs := pick_snoc (g := g) hp
          refine ⟨_, rfl, pa, _, rfl, .inr (SqT.of tg3), rfl, _, rfl, ?_⟩
          rw [nI_length]
          -- what the test says
          have put : okG g p = true → ∀ (H' : Hp) (v : Addr), H' v = some (.tup (nI (g ++ [p]))) → (∀ b u, H3 b = some u → H' b = some u) →
              ∃ l xs y, V.ref L = V.ref l ∧ [V.ref v] = [y] ∧ H' l = some (.lst xs) ∧ xs.length < sizeLine ∧ ∃ s5' : Option V, [some (V.int (n : Int)), some (.ref o), some (.int (0 + (i : Nat))), some (.ref L), some (.ref pa), some (.int (p : Int))] = [some (V.int (n : Int)), some (.ref o), some (.int (0 + (i : Nat))), some (.ref L), some (.ref pa), s5'] ∧
                (∀ b u, b ≠ L → H1 b = some u → upd H' l (.lst (xs ++ [y])) b = some u) ∧ LTAt (upd H' l (.lst (xs ++ [y]))) L (grow ((grps i).take j) ++ ((ppl.take (t + 1)).filter (okG g)).map fun p => g ++ [p]) := by
            intro c H' v hv s3
            rw [c, if_pos rfl] at hs
            have f1' := s3 _ _ f1
            have f2' := f2.same s3
            refine ⟨L, _, _, rfl, rfl, f1', ?_, _, rfl, fun b u nb e => ?_, qs ++ [v], ?_, ?_⟩
            · rw [List.length_map, Paired.length f2, List.length_append, List.length_map, sizeLine_eq]
              have := grow_few ((grps i).take j)
              have h6 : ((ppl.take t).filter (okG g)).length ≤ (ppl.take t).length := List.length_filter_le _ _
              have : (ppl.take t).length ≤ 6 := by rw [List.length_take]; exact Nat.min_le_right _ _
              omega
            · rw [upd_ne nb]
              exact s3 _ _ (kp3 b u nb e)
            · rw [upd_same, List.map_append]; rfl
            · rw [hs, List.map_append, ← List.append_assoc]
              refine Paired.snoc (f2'.upd f1') ?_
              rw [upd_ne (ne_of hv f1' (fun z => nomatch z))]
              exact hv
          by_cases e0 : g = []
          · subst e0
            have c : okG [] p = true := rfl
            refine iteT ?_
            -- longer.append(group + (person,)): () + (person,)
            refine iteT ?_
            refine ⟨_, rfl, .inl ⟨rfl, _, SqL.of f1⟩, _, rfl, _, rfl, (by show 1 ≤ sizeLine; rw [sizeLine_eq]; decide), fun u hu => ?_⟩
            have tg4 : upd H3 u (.tup [.int (p : Int)]) pa = some (.tup []) := by rw [upd_ne (ne_new tg3 hu)]; exact tg3
            refine ⟨pa, u, [], [.int (p : Int)], rfl, rfl, SqT.of tg4, SqT.of upd_same, (by show 0 + 1 ≤ sizeLine; rw [sizeLine_eq]; decide), fun _ => ?_, fun z => absurd rfl z, fun z => absurd rfl z⟩
            exact put c _ u upd_same (same_new hu)
          · obtain ⟨h0, last, eg⟩ : ∃ h0 last, g = h0 ++ [last] := ⟨g.dropLast, g.getLast e0, (List.dropLast_concat_getLast e0).symm⟩
            have en : decide (V.int ((g.length : Nat) : Int) = V.int 0) = false := by
              refine decide_eq_false fun z => e0 ?_
              have : ((g.length : Nat) : Int) = 0 := V.int.inj z
              exact List.eq_nil_of_length_eq_zero (by omega)
            rw [en]
            refine iteF ?_
            have ec : okG g p = decide (last < p) := by
              unfold okG
              rw [eg]
              have : (h0 ++ [last]).isEmpty = false := by
                cases h0 <;> rfl
              rw [this, Bool.false_or]
              simp
            refine ⟨_, rfl, _, rfl, _, rfl, pa, nI g, _, .int (last : Int), rfl, rfl, SqT.of tg3, ?_, _, _, rfl, rfl, _, rfl, ?_⟩
            · rw [eg, nI_append]
              exact atI_last _ _
            have ed : decide ((last : Int) < (p : Int)) = okG g p := by
              rw [ec]
              congr 1
              exact propext Int.ofNat_lt
            rw [ed]
            cases c : okG g p with
            | false =>
              rw [c, if_neg (by decide)] at hs
              refine iteF ?_
              refine ⟨_, rfl, kp3, ?_⟩
              rw [hs]
              exact ⟨qs, f1, f2⟩
            | true =>
              refine iteT ?_
              refine ⟨_, rfl, .inl ⟨rfl, _, SqL.of f1⟩, _, rfl, _, rfl, (by show 1 ≤ sizeLine; rw [sizeLine_eq]; decide), fun u hu => ?_⟩
              have tg4 : upd H3 u (.tup [.int (p : Int)]) pa = some (.tup (nI g)) := by rw [upd_ne (ne_new tg3 hu)]; exact tg3
              refine ⟨pa, u, nI g, [.int (p : Int)], rfl, rfl, SqT.of tg4, SqT.of upd_same, ?_, fun z => ?_, fun _ z => (nomatch z), fun _ _ v hv => ?_⟩
              · have := (grps_in6 i g (List.mem_of_getElem? hg)).2
                rw [nI_length, sizeLine_eq]
                show g.length + 1 ≤ _
                omega
              · exact absurd (nI_inj (b := []) z) e0
              · obtain ⟨vu, hv2⟩ := upd_none hv
                refine put c _ v ?_ (same_upd (same_new hu) hv2)
                rw [upd_same, nI_append]
                rfl
        · rintro σ H3 ⟨s5, rfl, kp3, lt⟩
          refine ⟨_, _, rfl, kp3, ?_⟩
          rw [nI_length, List.take_length] at lt
          rw [grow_snoc hg]
          exact lt
      · rintro σ H2 ⟨s4, s5, rfl, kp, lt⟩
        rw [lps, List.take_length] at lt
        exact ⟨_, rfl, L, _, _, _, _, rfl, fun b u e => kp b u (ne_new e nL) (s1 b u e), nL, lt⟩
    · rintro σ H1 ⟨o, s2, s3, s4, s5, rfl, s1, no, lt⟩
      exact ⟨_, rfl, k H1 o s1 no lt⟩
def spGu : Sp := fun vs H Q _ => ∃ k : Nat, vs = [.int (k : Int)] ∧ k ≤ 5 ∧ ∀ H' p, Same H H' → H p = none → LTAt H' p (upTo k) → Q (.ref p) H'
theorem flat_few : ∀ n : Nat, n ≤ 7 → ((List.range n).flatMap grps).length ≤ 20 * n
  | 0, _ => Nat.le_refl _
  | n + 1, h => by
    have ih := flat_few n (by omega)
    have := grps_few n (by omega)
    rw [List.range_succ, List.flatMap_append, List.length_append]
    simp only [List.flatMap_cons, List.flatMap_nil, List.append_nil]
    omega
theorem ok_gut (T : Txt K mg A) : FnOk P w K mg base CX0 2 A.f_gut A.d_gut ["count"] spGu := by
  refine T.h_gut.F.ok sc_gut (fun vs H Q E h => ?_) (fun cdv A' outer s H vs Q E hr h => ⟨_,
    pss_cons (ps_set (i := 1) sc_gut.nd rfl (Or.inl rfl) (pe_lst pa_nil))
    (pss_cons (ps_for PassesOwn.never rfl (pi_range1 (by rfl) T.n_range (pa_cons (pe_op op_add (pv 0) pe_int) pa_nil)) (pg_name (i := 2) sc_gut.nd rfl (Or.inl rfl))
      (pss_one (ps_expr (pe_bm PySem.F.plainAttrs_list PySem.F.slot_list_extend PySem.F.type_list_extend mt_extend (pv 1) (pa_cons (pe_call (ok_groups T) hr rfl T.h_groups.g T.h_groups.F.kp T.h_groups.b .nil pass0 (pa_cons (pv 2) pa_nil)) pa_nil)))))
    (pss_one (ps_ret (pv 1)))), ?_⟩)
  · obtain ⟨k, rfl, _⟩ := h
    rfl
  · obtain ⟨n, rfl, hn, k⟩ := h
    refine ⟨Nat.zero_le _, fun o ho => ?_⟩
    refine ⟨_, rfl, _, _, rfl, rfl, _, rfl, by omega, by omega, ?_⟩
    have en : ((n : Int) + 1).toNat = n + 1 := by omega
    rw [en]
    refine for_range (lo := 0) (n := n + 1) (fun i σ H' => ∃ s2 : Option V, σ = [some (.int (n : Int)), some (.ref o), s2] ∧ Same H H' ∧ LTAt H' o ((List.range i).flatMap grps))
      ⟨none, rfl, same_new ho, [], upd_same, .nil⟩ ?_ ?_
    · rintro i σ H1 hi ⟨s2, rfl, s1, qs, f1, f2⟩
      refine ⟨_, rfl, .inl ⟨rfl, _, SqL.of f1⟩, _, rfl, i, by rw [Int.zero_add]; rfl, by omega, fun H2 p s3 np lt => ?_⟩
      obtain ⟨ps, g1, g2⟩ := lt
      have f1' := s3 _ _ f1
      refine ⟨o, p, _, _, rfl, rfl, f1', g1, ?_, _, rfl, same_upd (s1.trans s3) ho, qs ++ ps, ?_, ?_⟩
      · rw [List.length_map, List.length_map, Paired.length f2, Paired.length g2, sizeLine_eq]
        have := flat_few i (by omega)
        have := grps_few i (by omega)
        omega
      · rw [upd_same, List.map_append]
      · rw [List.range_succ, List.flatMap_append]
        refine paired_append ((f2.same s3).upd f1') ?_
        have e1 : List.flatMap grps [i] = grps i := by simp
        rw [e1]
        exact g2.upd (o := .lst (qs.map V.ref ++ ps.map V.ref)) f1'
    · rintro σ H1 ⟨s2, rfl, s1, lt⟩
      refine ⟨_, rfl, k H1 o s1 ho ?_⟩
      rw [upTo_eq (by omega)]
      exact lt
end
end Sf

/-! SfD4: Work.next_people, Work.breaking. -/
namespace Sf
open PySem PySem.Spec PyProof.Rows L2
theorem blkOk_nm {N : List Str} {sc sc' scope : Scope} {own : List (Str × Nat)} (h : blkC N sc scope own = true) (e : sc'.names = sc.names) : BlkOk N sc' scope own := by
  have b := blkOk_by h
  exact ⟨b.kind, b.uniq, b.ix, fun y hy z => by rw [e]; exact b.free y hy z, b.own⟩
section
variable {P : Program} {w : World} {K : PySem.W.Frag} {mg : Str → Option Value} {base : Heap} {A : Ads}
/-- Work.next_people -/
def spWN (A : Ads) : Sp := fun vs H Q _ => ∃ (a m r d : Addr) (w : Wk), vs = [.ref a] ∧ WAt A H a m r d w ∧ WF w ∧ w.done.length < w.steps.length ∧
  ∀ H' p, Same H H' → H p = none → H' p = some (.lst (nI (nexts w))) → Q (.ref p) H'
def scIn : Scope := { kind := .function, names := [(PySem.Str.ofString ".0", .local), (PySem.Str.ofString "person", .cell), (PySem.Str.ofString "any", .globalImplicit), (PySem.Str.ofString "plans", .cell), (PySem.Str.ofString "step", .cell)], isGenerator := false, isCoroutine := false, more := [] }
theorem dec_sym (a b : Nat) : decide (V.int (a : Int) = V.int (b : Int)) = decide (a = b) := dec_int2 a b
theorem nexts_snoc {w : Wk} {i p : Nat} (h : ppl[i]? = some p) : (ppl.take (i + 1)).filter (fun p => (pls w []).any fun pl => decide (pl.getD w.done.length 0 = p)) =
    if (pls w []).any (fun pl => decide (pl.getD w.done.length 0 = p)) then (ppl.take i).filter (fun p => (pls w []).any fun pl => decide (pl.getD w.done.length 0 = p)) ++ [p] else (ppl.take i).filter (fun p => (pls w []).any fun pl => decide (pl.getD w.done.length 0 = p)) :=
  filter_snoc h
theorem ok_wNext (T : Txt K mg A) : FnOk P w K mg base CX0 4 A.f_wNext A.d_wNext ["self"] (spWN A) := by
  refine T.h_wNext.F.ok sc_wNext (fun vs H Q E h => ?_) (fun cdv A' outer s H vs Q E hr h => ⟨_,
    pss_cons (ps_set (i := 1) sc_wNext.nd rfl (Or.inr rfl) (pe_callB call_len_seq (by rfl) T.n_len boot_len (pa_cons (pe_fld (pv 0) rfl) pa_nil)))
    (pss_cons (ps_set (i := 2) sc_wNext.nd rfl (Or.inr rfl) (pe_meth (pv 0) T.c_Work T.h_wPl.m (ok_wPl T) hr T.h_wPl.b .nil pass0 (pa_cons (pe_tup pa_nil) pa_nil)))
    (pss_one (ps_ret (pe_lc (own := [("person", 3)]) (g := gName 3) (tt := tB (tCB (rAny K) (tCons (tLc (iList K (tVar 2)) (gName 4) tYes (tOp rEq (tOp (rIxT K) (tVar 4) (tVar 1)) (tVar 3)) [4]) tNil))) (te := tVar 3) rfl sc_wNext.nd
      (pi_tup (pe_glob (v := .ref A.aP) rfl T.gP rfl)) (blkOk_by (N := nn_wNext) (sc := defScope st_wNext) (by decide +kernel))
      (fun _ _ _ _ _ => pg_name (i := 3) sc_wNext.nd rfl (Or.inr rfl))
      (fun _ _ _ _ _ => pts_one (pt_val (by exact (pe_callB (cr_any rfl) (by rfl) T.n_any (by decide +kernel) (pa_cons
        (pe_lc (own := [("plan", 4)]) (g := gName 4) (tt := tYes) (te := tOp rEq (tOp (rIxT K) (tVar 4) (tVar 1)) (tVar 3)) rfl sc_wNext.nd (pi_list (pv 2)) (blkOk_nm (N := nn_wNext) (sc := scIn) (by decide +kernel) (by rfl))
          (fun _ _ _ _ _ => by exact (pg_name (i := 4) sc_wNext.nd rfl (Or.inl rfl))) (fun _ _ _ _ _ => pts_nil) (fun _ _ _ _ _ => by exact (pe_cmpR op_eq (pe_ix ix_tup (pv 4) (pv 1) (fun _ _ => rfl)) (pv 3) (nomark _))))
        pa_nil)))))
      (fun _ _ _ _ _ => by exact (pv 3)))))), ?_⟩)
  · obtain ⟨a, m, r, d, w, rfl, _⟩ := h
    rfl
  · obtain ⟨a, m, r, d, w, rfl, wa, wf, hlt, k⟩ := h
    obtain ⟨dx, ob⟩ := wa.ob
    refine ⟨_, rfl, a, _, dx, _, _, rfl, ob, T.c_Work, T.na_W_doers, wF_doers, d, _, rfl, .inl (SqL.of wa.dr), ?_⟩
    rw [nI_length]
    refine ⟨_, rfl, a, dx, _, rfl, ob, wF_plans, Nat.zero_le _, fun e he => ?_⟩
    have se := same_new (o := .tup []) he
    refine ⟨a, m, r, d, e, w, [], rfl, wa.same se, wf, .inr (SqT.of upd_same), fun H1 pp s1 np lt => ?_⟩
    have s01 := se.trans s1
    obtain ⟨ps, lo, tp⟩ := lt
    refine ⟨A.aP, rfl, ⟨_, T.tP _⟩, fun D hD => ?_⟩
    have big : (pls w []).length ≤ 7776 := by
      have h1 := wf.alls_length [] (rest w).length
      rw [List.take_length] at h1
      have h2 : (pls w []).length ≤ (alls [] w.done (rest w)).length := List.length_filter_le _ _
      omega
    have lps : (ps.map V.ref).length = (pls w []).length := by rw [List.length_map, Paired.length tp]
    refine lc_tup (K := K) (a := A.aP) (xs := nI ppl) (fun i H' => Same H1 H' ∧ H' D = some (.lst (nI ((ppl.take i).filter fun p => (pls w []).any fun pl => decide (pl.getD w.done.length 0 = p)))))
      ⟨same_new hD, upd_same⟩ (fun i H' _ _ => T.tP _) ?_ ?_
    · rintro i x H' hx ⟨s2, e2⟩
      obtain ⟨p, hp, rfl⟩ := nI_of hx
      refine ⟨rfl, ?_⟩
      -- any([plan[step] == person for plan in plans])
      have lo2 := s2 _ _ lo
      refine ⟨_, rfl, pp, rfl, ⟨_, SqL.of lo2⟩, fun D2 hD2 => ?_⟩
      refine lc_list (K := K) (a := pp) (xs := ps.map V.ref) (fun j H'' => Same H' H'' ∧ H'' D2 = some (.lst ((((pls w []).take j).map fun pl => decide (pl.getD w.done.length 0 = p)).map V.bl)))
        ⟨same_new hD2, upd_same⟩ (fun j H'' _ ⟨s3, _⟩ => SqL.of (s3 _ _ lo2)) ?_ ?_
      · rintro j y H'' hy ⟨s3, e3⟩
        obtain ⟨pa, hpa, rfl⟩ := refs_at hy
        obtain ⟨pl, hpl, tpl⟩ := paired_at' tp hpa
        have pm := wf.plan (List.mem_filter.mp (List.mem_of_getElem? hpl)).1
        have hat : pl[w.done.length]? = some (pl.getD w.done.length 0) := by
          rw [List.getD_eq_getElem?_getD, List.getElem?_eq_getElem (by omega)]
          rfl
        refine ⟨rfl, ?_⟩
        refine ⟨_, rfl, _, rfl, pa, _, _, _, rfl, rfl, SqT.of (s3 _ _ (s2 _ _ tpl)), atI_nat (nI_at hat), _, rfl, rfl, _, e3, ?_, same_upd s3 hD2, ?_⟩
        · rw [List.length_map, List.length_map, List.length_take, sizeLine_eq]
          omega
        · rw [upd_same, take_one hpl, List.map_append, List.map_append]
          congr 3
          show [V.bl _] = [V.bl _]
          rw [dec_int2]
      · rintro H'' ⟨s3, e3⟩
        rw [lps, List.take_length] at e3
        refine ⟨D2, _, rfl, SqL.of e3, _, rfl, ?_⟩
        rw [List.any_map]
        have hs := nexts_snoc (w := w) hp
        have ec : (pls w []).any (id ∘ fun pl => decide (pl.getD w.done.length 0 = p)) = (pls w []).any fun pl => decide (pl.getD w.done.length 0 = p) := rfl
        rw [ec]
        cases c : (pls w []).any fun pl => decide (pl.getD w.done.length 0 = p) with
        | false =>
          rw [c, if_neg (by decide)] at hs
          refine ⟨s2.trans s3, ?_⟩
          rw [hs]
          exact s3 _ _ e2
        | true =>
          rw [c, if_pos rfl] at hs
          refine ⟨_, rfl, _, s3 _ _ e2, ?_, same_upd (s2.trans s3) hD, ?_⟩
          · rw [nI_length]
            have := List.length_filter_le (fun p => (pls w []).any fun pl => decide (pl.getD w.done.length 0 = p)) (ppl.take i)
            rw [List.length_take] at this
            have : ppl.length = 6 := rfl
            rw [sizeLine_eq]; omega
          · rw [upd_same, hs, nI_append]
            rfl
    · rintro H2 ⟨s2, e2⟩
      rw [nI_length, List.take_length] at e2
      exact k H2 D (s01.trans s2) (s01.free hD) e2
/-- Work.breaking -/
def spWB (K : PySem.W.Frag) (A : Ads) : Sp := fun vs H Q _ => ∃ (a m r d : Addr) (w : Wk), vs = [.ref a] ∧ WAt A H a m r d w ∧ WF w ∧
  ∀ H' p, Same H H' → SqT K H' p (nI (Wm05.breaks w)) → Q (.ref p) H'
theorem ok_wBrk (T : Txt K mg A) : FnOk P w K mg base CX0 4 A.f_wBrk A.d_wBrk ["self"] (spWB K A) := by
  refine T.h_wBrk.F.ok sc_wBrk (fun vs H Q E h => ?_) (fun cdv A' outer s H vs Q E hr h => ⟨_,
    pss_cons (ps_for PassesOwn.never rfl (pi_range1 (by rfl) T.n_range (pa_cons (pe_op op_add (pe_callB call_len_seq (by rfl) T.n_len boot_len (pa_cons (pe_glob (v := .ref A.aP) rfl T.gP rfl) pa_nil)) pe_int) pa_nil)) (pg_name (i := 1) sc_wBrk.nd rfl (Or.inl rfl))
      (pss_one (ps_for PassesOwn.never rfl (pi_list (pe_call (ok_groups T) (hr.mono (by decide)) rfl T.h_groups.g T.h_groups.F.kp T.h_groups.b .nil pass0 (pa_cons (pv 1) pa_nil))) (pg_name (i := 2) sc_wBrk.nd rfl (Or.inl rfl))
        (pss_one (ps_if (pt_not (pt_val (pe_meth (pv 0) T.c_Work T.h_wCan.m (ok_wCan T) hr T.h_wCan.b .nil pass0 (pa_cons (pv 2) pa_nil)))) (pss_one (ps_ret (pv 2))) pss_nil)))))
    (pss_one (ps_ret (pe_glob (v := .ref A.aP) rfl T.gP rfl))), ?_⟩)
  · obtain ⟨a, m, r, d, w, rfl, _⟩ := h
    rfl
  · obtain ⟨a, m, r, d, w, rfl, wa, wf, k⟩ := h
    obtain ⟨dx, ob⟩ := wa.ob
    refine ⟨A.aP, _, rfl, .inr (T.tP _), _, _, rfl, rfl, _, rfl, (by decide), (by decide), ?_⟩
    show ∃ W : Nat → Nat → L2.St → Hp → Prop, _
    have e7 : (((nI ppl).length : Int) + 1).toNat = 7 := rfl
    rw [e7]
    have be := breaks_eq wf.in6
    refine for_range (lo := 0) (n := 7) (fun i σ H' => ∃ s1 s2 : Option V, σ = [some (.ref a), s1, s2] ∧ Same H H' ∧ ((List.range i).flatMap grps).find? (fun c => (pls w c).isEmpty) = none)
      ⟨none, none, rfl, Same.refl _, rfl⟩ ?_ ?_
    · rintro i σ H1 hi ⟨v1, v2, rfl, s1, hn⟩
      refine ⟨_, rfl, i, ?_, by omega, fun H2 p s2 np lt => ?_⟩
      · rw [Int.zero_add]; rfl
      obtain ⟨ps, lo, tp⟩ := lt
      have lps : (ps.map V.ref).length = (grps i).length := by rw [List.length_map, Paired.length tp]
      refine ⟨p, rfl, ⟨_, SqL.of lo⟩, ?_⟩
      refine for_list (K := K) (a := p) (xs := ps.map V.ref) (fun j σ H' => ∃ v2 : Option V, σ = [some (.ref a), some (.int (0 + (i : Nat))), v2] ∧ Same H2 H' ∧ ((grps i).take j).find? (fun c => (pls w c).isEmpty) = none)
        ⟨v2, rfl, Same.refl _, rfl⟩ (fun j σ H' _ ⟨_, _, s3, _⟩ => SqL.of (s3 _ _ lo)) ?_ ?_
      · rintro j x σ H3 hx ⟨v2, rfl, s3, hj⟩
        obtain ⟨pa, hpa, rfl⟩ := refs_at hx
        obtain ⟨g, hg, tg⟩ := paired_at' tp hpa
        have s03 := (s1.trans s2).trans s3
        refine ⟨_, rfl, a, dx, _, rfl, s03 _ _ ob, wF_can, _, rfl, a, m, r, d, pa, w, g, rfl, wa.same s03, wf, .inr (SqT.of (s3 _ _ tg)), fun H4 s4 => ?_⟩
        refine ⟨_, rfl, ?_⟩
        have fj : ((grps i).take (j + 1)).find? (fun c => (pls w c).isEmpty) = if (pls w g).isEmpty then some g else none := by
          rw [take_one hg, List.find?_append, hj]
          exact (Option.none_or).trans List.find?_singleton
        cases c : (pls w g).isEmpty with
        | false =>
          refine iteF ?_
          refine ⟨_, rfl, s3.trans s4, ?_⟩
          rw [fj, c]
          rfl
        | true =>
          refine iteT ?_
          refine ⟨_, rfl, k H4 pa (s03.trans s4) ?_⟩
          have : Wm05.breaks w = g := by
            rw [be]
            have e1 : (List.range 7).flatMap grps = (List.range i).flatMap grps ++ ((grps i).take (j + 1) ++ ((grps i).drop (j + 1) ++ ((List.range 7).drop (i + 1)).flatMap grps)) := by
              have e2 : List.range 7 = List.range i ++ (i :: (List.range 7).drop (i + 1)) := by
                have : i = 0 ∨ i = 1 ∨ i = 2 ∨ i = 3 ∨ i = 4 ∨ i = 5 ∨ i = 6 := by omega
                rcases this with z | z | z | z | z | z | z <;> subst z <;> rfl
              conv => lhs; rw [e2]
              rw [List.flatMap_append, List.flatMap_cons, ← List.append_assoc ((grps i).take (j + 1)), List.take_append_drop]
            rw [e1, List.find?_append, hn, List.find?_append, fj, c]
            rfl
          rw [this]
          exact SqT.of (s4 _ _ (s3 _ _ tg))
      · rintro σ H3 ⟨v2, rfl, s3, hj⟩
        rw [lps, List.take_length] at hj
        refine ⟨_, _, rfl, (s1.trans s2).trans s3, ?_⟩
        rw [List.range_succ, List.flatMap_append, List.find?_append, hn]
        simpa using hj
    · rintro σ H1 ⟨v1, v2, rfl, s1, hn⟩
      refine k H1 A.aP s1 ?_
      have : Wm05.breaks w = ppl := by
        rw [be, hn]
        rfl
      rw [this]
      exact T.tP _
end
end Sf

/-! SfD5: rises, listed, Refusal.__init__, refuse_if. -/
namespace Sf
open PySem PySem.Spec PyProof.Rows L2
theorem drop_one {α : Type} {l : List α} {i : Nat} {x : α} (h : l[i]? = some x) : l.drop i = x :: l.drop (i + 1) := drop_at h
theorem rise_cons {k b n : Nat} {l : List Nat} : rise k b (n :: l) = if n ≤ b ∨ n > k then false else rise k n l := rfl
section
variable {P : Program} {w : World} {K : PySem.W.Frag} {mg : Str → Option Value} {base : Heap} {A : Ads}
def spRs (K : PySem.W.Frag) : Sp := fun vs H Q _ => ∃ (p : Addr) (k : Nat) (l : List Nat), vs = [.ref p, .int (k : Int)] ∧ SqL K H p (nI l) ∧ Q (.bl (rise k 0 l)) H
theorem ok_rises (T : Txt K mg A) : FnOk P w K mg base CX0 1 A.f_rises A.d_rises ["numbers", "most"] (spRs K) := by
  refine T.h_rises.F.ok sc_rises (fun vs H Q E h => ?_) (fun cdv A' outer s H vs Q E hr h => ⟨_,
    pss_cons (ps_set (i := 2) sc_rises.nd rfl (Or.inl rfl) pe_int)
    (pss_cons (ps_for PassesOwn.never rfl (pi_list (pv 0)) (pg_name (i := 3) sc_rises.nd rfl (Or.inl rfl))
      (pss_cons (ps_if (PW.pt (pw_or (pt_cmpR op_le (pv 3) (pv 2) (nomark _)) (pw_or1 (pt_cmpR op_gt (pv 3) (pv 1) (nomark _))))) (pss_one (ps_ret pe_bl)) pss_nil)
      (pss_one (ps_set (i := 2) sc_rises.nd rfl (Or.inl rfl) (pv 3)))))
    (pss_one (ps_ret pe_bl))), ?_⟩)
  · obtain ⟨p, k, l, rfl, _⟩ := h
    rfl
  · obtain ⟨p, k, l, rfl, hl, q⟩ := h
    refine ⟨_, rfl, p, rfl, ⟨_, hl⟩, ?_⟩
    refine for_list (K := K) (a := p) (xs := nI l) (fun i σ H' => ∃ (b : Nat) (v : Option V), σ = [some (.ref p), some (.int (k : Int)), some (.int (b : Int)), v] ∧ H' = H ∧ rise k 0 l = rise k b (l.drop i))
      ⟨0, none, rfl, rfl, rfl⟩ (fun i σ H' _ ⟨_, _, _, e, _⟩ => by rw [e]; exact hl) ?_ ?_
    · rintro i x σ H' hx ⟨b, v, rfl, rfl, e⟩
      obtain ⟨n, hn, rfl⟩ := nI_of hx
      rw [drop_one hn] at e
      rw [rise_cons] at e
      refine ⟨_, rfl, _, rfl, _, _, rfl, rfl, _, rfl, ?_⟩
      by_cases c1 : n ≤ b
      · rw [decide_eq_true (by omega)]
        refine iteT (iteT ?_)
        rw [if_pos (.inl c1)] at e
        rw [e] at q
        exact q
      · rw [decide_eq_false (by omega)]
        refine iteF ?_
        refine ⟨_, rfl, _, rfl, _, _, rfl, rfl, _, rfl, ?_⟩
        by_cases c2 : n > k
        · rw [decide_eq_true (by omega)]
          refine iteT ?_
          rw [if_pos (.inr c2)] at e
          rw [e] at q
          exact q
        · rw [decide_eq_false (by omega)]
          refine iteF ?_
          rw [if_neg (by omega)] at e
          exact ⟨_, rfl, n, _, rfl, rfl, e⟩
    · rintro σ H' ⟨b, v, rfl, rfl, e⟩
      rw [nI_length, List.drop_length] at e
      rw [e] at q
      exact q
def spLi (K : PySem.W.Frag) : Sp := fun vs H Q _ => ∃ (p : Addr) (l : List Nat), vs = [.ref p] ∧ (SqL K H p (nI l) ∨ SqT K H p (nI l)) ∧ l.length ≤ 100000 ∧
  ∀ H' q, Same H H' → H q = none → H' q = some (.lst (nI (l.length :: l))) → Q (.ref q) H'
theorem ok_listed (T : Txt K mg A) : FnOk P w K mg base CX0 1 A.f_listed A.d_listed ["numbers"] (spLi K) := by
  refine T.h_listed.F.ok sc_listed (fun vs H Q E h => ?_) (fun cdv A' outer s H vs Q E hr h => ⟨_,
    pss_one (ps_ret (pe_op op_cat (pe_lst (pa_cons (pe_callB call_len_seq (by rfl) T.n_len boot_len (pa_cons (pv 0) pa_nil)) pa_nil)) (pe_callTy call_list_of (by rfl) T.n_list (by decide +kernel) (pa_cons (pv 0) pa_nil)))), ?_⟩)
  · obtain ⟨p, l, rfl, _⟩ := h
    rfl
  · obtain ⟨p, l, rfl, hl, hz, k⟩ := h
    have wide : (100001 : Nat) ≤ sizeLine := by rw [sizeLine_eq]; decide
    refine ⟨_, rfl, p, _, rfl, hl, Nat.le_trans (show 1 ≤ 100001 by decide) wide, fun u hu => ?_⟩
    have hs : ∀ {o : HO}, Same H (upd H u o) := fun {o} => same_new hu
    have hl2 : SqL K (upd H u (.lst [.int ((nI l).length : Nat)])) p (nI l) ∨ SqT K (upd H u (.lst [.int ((nI l).length : Nat)])) p (nI l) := by
      rcases hl with h | h
      · exact .inl (hs.seq h)
      · refine .inr ?_
        rcases h with h | h
        · rcases h with h | ⟨o, h⟩
          · exact .inl (.inl (hs _ _ h))
          · exact .inl (.inr ⟨o, hs _ _ h⟩)
        · exact .inr h
    refine ⟨_, rfl, p, _, rfl, hl2, fun v hv => ?_⟩
    obtain ⟨vu, hv2⟩ := upd_none hv
    refine ⟨u, v, _, _, rfl, rfl, (upd_ne (fun z => vu z.symm)).trans upd_same, upd_same, ?_, fun q hq => ?_⟩
    · rw [nI_length]
      show 1 + l.length ≤ sizeLine
      omega
    · obtain ⟨qv, hq2⟩ := upd_none hq
      obtain ⟨qu, hq3⟩ := upd_none hq2
      refine k _ q (same_upd (same_upd (same_new hu) hv2) hq3) hq3 ?_
      rw [upd_same, nI_length]
      rfl
/-! ### refusals -/
def xF0 (n : Int) : List (Str × V) := [(("number" : Str), .int n)]
/-- Refusal.__init__ -/
def spXI (A : Ads) : Sp := fun vs H Q _ => ∃ (a : Addr) (n : Int), vs = [.ref a, .int n] ∧ H a = some (exo a A.cX none) ∧
  ∀ dx, H dx = none → dx ≠ a → Q .non (upd (upd H dx (exd dx (xF0 n))) a (exo a A.cX (some dx)))
theorem ok_xInit (T : Txt K mg A) : FnOk P w K mg base CX0 1 A.f_xInit A.d_xInit ["self", "number"] (spXI A) := by
  refine T.xFun.ok sc_xInit (fun vs H Q E h => ?_) (fun cdv A' outer s H vs Q E hr h => ⟨_,
    pss_cons (ps_expr (pe_veinit rfl T.n_ValueError T.xV (pa_cons (pv 0) (pa_cons pe_str pa_nil)))) (pss_one (ps_ost (pv 0) (pv 1))), ?_⟩)
  · obtain ⟨a, n, rfl, _⟩ := h
    rfl
  · obtain ⟨a, n, rfl, ha, k⟩ := h
    refine ⟨_, rfl, a, A.cX, _, rfl, (by show 1 ≤ 1000; decide), T.xO, ha, ?_⟩
    exact ⟨_, rfl, _, rfl, a, A.cX, rfl, T.xO, T.xN, .inl ⟨ha, fun dx hd hne => k dx hd hne⟩⟩
/-- what is wanted of a refusal with n -/
def Rfs (A : Ads) (H : Hp) (n : Int) (E : XK) : Prop := ∀ H' d, Same H H' → H d = none → H' d = some (.xd (xF0 n)) → E (.ref A.cX) (some d) H'
theorem Rfs.go {A : Ads} {H H1 : Hp} {n : Int} {E : XK} (x : Rfs A H n E) (s : Same H H1) : Rfs A H1 n E := fun H' d s1 hd e => x H' d (s.trans s1) (s.free hd) e
def spRf (A : Ads) : Sp := fun vs H Q E => ∃ (c : Bool) (n : Int), vs = [.bl c, .int n] ∧ (c = true → Rfs A H n E) ∧ (c = false → Q .non H)
theorem passX {X : Cx} {E : XK} (tk : Takes X (fun cls d _ H => E cls d H)) : Passes (L2.CX X.prog X.w) X E := passes_call tk fun _ _ _ _ z => z
theorem ok_rfs (T : Txt K mg A) : FnOk P w K mg base (L2.CX P w) 3 A.f_rfs A.d_rfs ["condition", "number"] (spRf A) := by
  refine T.h_rfs.F.okX sc_rfs (fun vs H Q E h => ?_) (fun cdv A' outer s H vs Q E hr h => ⟨_,
    pss_one (ps_if (pt_val (pv 0)) (pss_one (ps_raise rfl (takes_of rfl rfl rfl rfl) (pmk_oex T.xO T.xI T.xT (ok_xInit T) hr T.xB .nil pass0 rfl T.gc_Refusal (pa_cons (pv 1) pa_nil)))) pss_nil), ?_⟩)
  · obtain ⟨c, n, rfl, _⟩ := h
    rfl
  · obtain ⟨c, n, rfl, kT, kF⟩ := h
    refine ⟨_, rfl, _, rfl, ?_⟩
    cases c with
    | false => exact iteF (kF rfl)
    | true =>
      refine iteT ?_
      refine ⟨_, rfl, (by show 1 ≤ 1000; decide), fun a ha => ?_⟩
      refine ⟨a, n, rfl, upd_same, fun dx hd hne => ⟨rfl, dx, xF0 n, upd_same, ?_, ?_, ?_⟩⟩
      · rw [upd_ne hne, upd_same]
      · exact (upd_none hd).2
      · have hd2 := (upd_none hd).2
        refine kT rfl _ dx (fun b o e => ?_) hd2 upd_same
        have b1 := ne_new e ha
        have b2 := ne_new e hd2
        rw [upd_ne b2, del_ne b1, upd_ne b1, upd_ne b2, upd_ne b1]
        exact e
end
end Sf

/-! SfD6: add_step, allow, add_rule, rule_of_two, rule_of_some, strike, undo. -/
namespace Sf
open PySem PySem.Spec PyProof.Rows L2
/-- how a call ends: its answer in a new list, the work as the specification has it; or a refusal -/
def Fin (A : Ads) (H : Hp) (a m r d : Addr) (w : Wk) (c : Wm05.Call) (Q : VK) (E : XK) : Prop :=
  (∀ H' q w' ans, Wm05.step w c = (w', ans) → But m r d H H' → WAt A H' a m r d w' → Lk m r H H' → H q = none → H' q = some (.lst (ans.map V.int)) → Q (.ref q) H') ∧
    ∀ n, Wm05.step w c = (w, [n]) → Rfs A H n E
theorem WAt.chg {A : Ads} {H H' : Hp} {a m r d : Addr} {w w' : Wk} (x : WAt A H a m r d w) (s : But m r d H H') (hd : H' d = some (.lst (nI w'.done)))
    (hm : ∃ ms : List Addr, H' m = some (.lst (ms.map V.ref)) ∧ Paired (fun p s => H' p = some (.lst (nI s)) ∧ Off m r d p) ms w'.steps)
    (hr : ∃ rs : List Addr, H' r = some (.lst (rs.map V.ref)) ∧ Paired (fun p q => RAt A H' p q (Off m r d)) rs w'.rules) : WAt A H' a m r d w' := by
  obtain ⟨dx, ob⟩ := x.ob
  obtain ⟨o1, o2, o3⟩ := x.a_off
  exact ⟨⟨dx, s _ _ o1 o2 o3 ob⟩, hd, x.mr, x.md, x.rd, hm, hr⟩
theorem no_z {P : Prop} (h : true = false) : P := Bool.noConfusion h
theorem no_z' {P : Prop} (h : false = true) : P := Bool.noConfusion h
theorem off_new {A : Ads} {H : Hp} {a m r d : Addr} {w : Wk} (x : WAt A H a m r d w) {l : Addr} (h : H l = none) : Off m r d l := by
  obtain ⟨⟨dx, ob⟩, dr, mr, md, rd, ⟨ms, h1, h2⟩, ⟨rs, h3, h4⟩⟩ := x
  exact ⟨fun z => ne_new h1 h z.symm, fun z => ne_new h3 h z.symm, fun z => ne_new dr h z.symm⟩
theorem rul_at {A : Ads} {H : Hp} {a m r d : Addr} {w : Wk} (x : WAt A H a m r d w) {H' : Hp} (s : But m r d H H') {rs : List Addr} {qs : List Wm05.Rule} (y : Paired (fun p q => RAt A H p q (Off m r d)) rs qs) : Paired (fun p q => RAt A H' p q (Off m r d)) rs qs := by
  obtain ⟨_, dr, _, _, _, ⟨ms, h1, _⟩, ⟨rs', h3, _⟩⟩ := x
  exact rul_go s ⟨_, h1⟩ ⟨_, h3⟩ ⟨_, dr⟩ y
section
variable {P : Program} {w : World} {K : PySem.W.Frag} {mg : Str → Option Value} {base : Heap} {A : Ads}
def spAS (A : Ads) : Sp := fun vs H Q E => ∃ (a m r d p : Addr) (w : Wk) (l : List Nat), vs = [.ref a, .ref p] ∧ WAt A H a m r d w ∧ WF w ∧ H p = some (.lst (nI l)) ∧ Fin A H a m r d w (.step l) Q E
theorem ok_addS (T : Txt K mg A) : FnOk P w K mg base (L2.CX P w) 4 A.f_addS A.d_addS ["work", "people"] (spAS A) := by
  refine T.h_addS.F.okX sc_addS (fun vs H Q E h => ?_) (fun cdv A' outer s H vs Q E hr h => ⟨_,
    pss_cons (ps_expr (pe_call (ok_rfs T) hr rfl T.h_rfs.g T.h_rfs.F.kp T.h_rfs.b .nil (passX (takes_of rfl rfl rfl rfl)) (by exact (pa_cons (pe_not (pe_call (ok_rises T) (hr.mono (by decide)) rfl T.h_rises.g T.h_rises.F.kp T.h_rises.b .nil pass0 (pa_cons (pv 1) (pa_cons (pe_callB call_len_seq (by rfl) T.n_len boot_len (pa_cons (pe_glob (v := .ref A.aP) rfl T.gP rfl) pa_nil)) pa_nil)))) (pa_cons (pe_un un_neg pe_int) pa_nil)))))
    (pss_cons (ps_expr (pe_call (ok_rfs T) hr rfl T.h_rfs.g T.h_rfs.F.kp T.h_rfs.b .nil (passX (takes_of rfl rfl rfl rfl)) (by exact (pa_cons (pe_cmpR op_ge (pe_callB call_len_seq (by rfl) T.n_len boot_len (pa_cons (pe_fld (pv 0) rfl) pa_nil)) (pe_glob (v := .int 5) rfl T.g_MOST_STEPS ⟨_, rfl⟩) (nomark _)) (pa_cons (pe_un un_neg pe_int) pa_nil)))))
    (pss_cons (ps_expr (by exact (pe_bm PySem.F.plainAttrs_list PySem.F.slot_list_append PySem.F.type_list_append mt_append (pe_fld (pv 0) rfl) (pa_cons (pe_callTy call_list_of (by rfl) T.n_list (by decide +kernel) (pa_cons (pv 1) pa_nil)) pa_nil))))
    (pss_one (ps_ret (by exact (pe_lst (pa_cons (pe_callB call_len_seq (by rfl) T.n_len boot_len (pa_cons (pe_fld (pv 0) rfl) pa_nil)) pa_nil))))))), ?_⟩)
  · obtain ⟨a, m, r, d, p, w, l, rfl, _⟩ := h
    rfl
  · obtain ⟨a, m, r, d, p, w, l, rfl, wa, wf, hp, k1, k2⟩ := h
    obtain ⟨⟨dx, ob⟩, dr, mr, md, rd, ⟨ms, h1, h2⟩, ⟨rs, h3, h4⟩⟩ := id wa
    have lm : (ms.map V.ref).length = w.steps.length := by rw [List.length_map, Paired.length h2]
    refine ⟨_, rfl, A.aP, _, rfl, .inr (T.tP _), p, 6, l, rfl, SqL.of hp, _, rfl, _, rfl, _, _, rfl, fun c => ?_, fun c => ?_⟩
    · rw [rise_people] at c
      have hi : Wm05.isPeople l = false := by cases e : Wm05.isPeople l with | false => rfl | true => rw [e] at c; cases c
      exact k2 (-1) (if_pos hi)
    rw [rise_people] at c
    have hi : Wm05.isPeople l = true := by cases e : Wm05.isPeople l with | true => rfl | false => rw [e] at c; cases c
    have e1 : Wm05.step w (.step l) = if 5 ≤ w.steps.length then (w, [-5]) else ({ w with steps := w.steps ++ [l] }, Wm05.ints [w.steps.length + 1]) := by
      have : Wm05.step w (.step l) = if Wm05.isPeople l = false then (w, [-1]) else if 5 ≤ w.steps.length then (w, [-5]) else ({ w with steps := w.steps ++ [l] }, Wm05.ints [w.steps.length + 1]) := rfl
      rw [this, if_neg (by rw [hi]; decide)]
    refine ⟨_, rfl, a, _, dx, _, _, rfl, ob, T.c_Work, T.na_W_may, wF_may, m, _, rfl, .inl (SqL.of h1), _, _, rfl, rfl, _, rfl, _, _, rfl, fun c => ?_, fun c => ?_⟩
    · have : 5 ≤ w.steps.length := by
        have := of_decide_eq_true c
        rw [lm] at this
        omega
      exact k2 (-5) (by rw [e1, if_pos this])
    have lt : ¬ 5 ≤ w.steps.length := by
      have := of_decide_eq_false c
      rw [lm] at this
      omega
    refine ⟨_, rfl, a, _, dx, _, _, rfl, ob, T.c_Work, T.na_W_may, wF_may, .inl ⟨rfl, _, SqL.of h1⟩, _, rfl, p, _, rfl, .inl (SqL.of hp), fun u hu => ?_⟩
    have h1' : upd H u (.lst (nI l)) m = some (.lst (ms.map V.ref)) := by rw [upd_ne (ne_new h1 hu)]; exact h1
    have ob' : upd H u (.lst (nI l)) a = some (.ins A.cW dx (wF m r d)) := by rw [upd_ne (ne_new ob hu)]; exact ob
    obtain ⟨um, ur, ud⟩ := off_new wa hu
    refine ⟨m, _, _, rfl, rfl, h1', ?_, ?_⟩
    · rw [lm, sizeLine_eq]; omega
    obtain ⟨am, _, _⟩ := wa.a_off
    refine ⟨_, rfl, a, _, dx, _, _, rfl, (upd_ne am).trans ob', T.c_Work, T.na_W_may, wF_may, m, _, rfl, .inl (SqL.of upd_same), ?_, fun q hq => ?_⟩
    · show 1 ≤ sizeLine
      rw [sizeLine_eq]; decide
    obtain ⟨qm, hq2⟩ := upd_none hq
    obtain ⟨qu, hq3⟩ := upd_none hq2
    have bt : But m r d H (upd (upd (upd H u (.lst (nI l))) m (.lst (ms.map V.ref ++ [V.ref u]))) q (.lst [.int ((ms.map V.ref ++ [V.ref u]).length : Nat)])) := fun b o b1 b2 b3 e => by
      rw [upd_ne (ne_new e hq3), upd_ne b1, upd_ne (ne_new e hu)]
      exact e
    have em : upd (upd (upd H u (.lst (nI l))) m (.lst (ms.map V.ref ++ [V.ref u]))) q (.lst [.int ((ms.map V.ref ++ [V.ref u]).length : Nat)]) m = some (.lst ((ms ++ [u]).map V.ref)) := by
      rw [upd_ne (fun z => qm z.symm), upd_same, List.map_append]; rfl
    have er : upd (upd (upd H u (.lst (nI l))) m (.lst (ms.map V.ref ++ [V.ref u]))) q (.lst [.int ((ms.map V.ref ++ [V.ref u]).length : Nat)]) r = some (.lst (rs.map V.ref)) := by
      rw [upd_ne (ne_new h3 hq3), upd_ne (fun z => mr z.symm), upd_ne (ne_new h3 hu)]; exact h3
    refine k1 _ q _ _ (e1.trans (if_neg lt)) bt (wa.chg bt ?_ ⟨ms ++ [u], em, ?_⟩ ⟨rs, er, rul_at wa bt h4⟩) (lk_of wa bt h1 em (fun p hp => ?_) h3 er fun p hp => hp) hq3 ?_
    · show _ = some (HO.lst (nI w.done))
      rw [upd_ne (ne_new dr hq3), upd_ne (fun z => md z.symm), upd_ne (ne_new dr hu)]; exact dr
    · refine Paired.snoc (may_go bt h2) ⟨?_, um, ur, ud⟩
      rw [upd_ne (fun z => qu z.symm), upd_ne um, upd_same]
    · rcases List.mem_append.mp hp with hp | hp
      · exact .inl hp
      · rw [List.mem_singleton.mp hp]; exact .inr hu
    · rw [upd_same, List.length_append, lm]
      rfl
def spAl (A : Ads) : Sp := fun vs H Q E => ∃ (a m r d p : Addr) (w : Wk) (i : Nat) (l : List Nat), vs = [.ref a, .int (i : Int), .ref p] ∧ WAt A H a m r d w ∧ WF w ∧ H p = some (.lst (nI l)) ∧ Fin A H a m r d w (.allow i l) Q E
theorem ok_allow (T : Txt K mg A) : FnOk P w K mg base (L2.CX P w) 4 A.f_allow A.d_allow ["work", "step", "people"] (spAl A) := by
  refine T.h_allow.F.okX sc_allow (fun vs H Q E h => ?_) (fun cdv A' outer s H vs Q E hr h => ⟨_,
    pss_cons (ps_expr (pe_call (ok_rfs T) hr rfl T.h_rfs.g T.h_rfs.F.kp T.h_rfs.b .nil (passX (takes_of rfl rfl rfl rfl)) (by exact (pa_cons (pe_or (pe_not (pe_chain op_le op_le pe_int (pv 1) (pe_callB call_len_seq (by rfl) T.n_len boot_len (pa_cons (pe_fld (pv 0) rfl) pa_nil))))
        (pe_one (pe_not (pe_call (ok_rises T) (hr.mono (by decide)) rfl T.h_rises.g T.h_rises.F.kp T.h_rises.b .nil pass0 (pa_cons (pv 2) (pa_cons (pe_callB call_len_seq (by rfl) T.n_len boot_len (pa_cons (pe_glob (v := .ref A.aP) rfl T.gP rfl) pa_nil)) pa_nil)))))) (pa_cons (pe_un un_neg pe_int) pa_nil)))))
    (pss_cons (ps_expr (pe_call (ok_rfs T) hr rfl T.h_rfs.g T.h_rfs.F.kp T.h_rfs.b .nil (passX (takes_of rfl rfl rfl rfl)) (by exact (pa_cons (pe_cmpR op_le (pv 1) (pe_callB call_len_seq (by rfl) T.n_len boot_len (pa_cons (pe_fld (pv 0) rfl) pa_nil)) (nomark _)) (pa_cons (pe_un un_neg pe_int) pa_nil)))))
    (pss_cons (ps_asg (by exact (pe_callTy call_list_of (by rfl) T.n_list (by decide +kernel) (pa_cons (pv 2) pa_nil))) (by exact (pg_sub (pe_fld (pv 0) rfl) (pe_op op_sub (pv 1) pe_int) set_list)))
    (pss_one (ps_ret (by exact (pe_lst (pa_cons pe_int pa_nil))))))), ?_⟩)
  · obtain ⟨a, m, r, d, p, w, i, l, rfl, _⟩ := h
    rfl
  · obtain ⟨a, m, r, d, p, w, i, l, rfl, wa, wf, hp, k1, k2⟩ := h
    obtain ⟨⟨dx, ob⟩, dr, mr, md, rd, ⟨ms, h1, h2⟩, ⟨rs, h3, h4⟩⟩ := id wa
    have lm : (ms.map V.ref).length = w.steps.length := by rw [List.length_map, Paired.length h2]
    have e0 : Wm05.step w (.allow i l) = if Wm05.isStep w i = false ∨ Wm05.isPeople l = false then (w, [-1]) else if i ≤ w.done.length then (w, [-6]) else ({ w with steps := w.steps.set (i - 1) l }, [0]) := rfl
    have nostep : ¬ (1 ≤ i ∧ i ≤ w.steps.length) → Rfs A H (-1) E := fun c => by
      refine k2 (-1) ?_
      have : Wm05.isStep w i = false := by
        cases e : Wm05.isStep w i with
        | false => rfl
        | true => exact absurd (isStep_iff.mp e) c
      rw [e0, if_pos (.inl this)]
    refine ⟨_, rfl, _, _, rfl, rfl, _, rfl, ?_⟩
    by_cases c1 : ¬ 1 ≤ i
    · rw [decide_eq_false (by omega)]
      refine iteF ⟨_, rfl, _, rfl, iteT ⟨_, rfl, _, _, rfl, fun _ => nostep (by omega), no_z⟩⟩
    rw [decide_eq_true (by omega)]
    refine iteT ⟨_, rfl, a, _, dx, _, _, rfl, ob, T.c_Work, T.na_W_may, wF_may, m, _, rfl, .inl (SqL.of h1), _, _, rfl, rfl, _, rfl, _, rfl, ?_⟩
    rw [lm]
    by_cases c2 : ¬ i ≤ w.steps.length
    · rw [decide_eq_false (by omega)]
      exact iteT ⟨_, rfl, _, _, rfl, fun _ => nostep (by omega), no_z⟩
    rw [decide_eq_true (by omega)]
    refine iteF ⟨_, rfl, A.aP, _, rfl, .inr (T.tP _), p, 6, l, rfl, SqL.of hp, _, rfl, _, rfl, _, _, rfl, fun c => ?_, fun c => ?_⟩
    · rw [rise_people] at c
      have hi : Wm05.isPeople l = false := by cases e : Wm05.isPeople l with | false => rfl | true => rw [e] at c; cases c
      exact k2 (-1) (by rw [e0, if_pos (.inr hi)])
    rw [rise_people] at c
    have hi : Wm05.isPeople l = true := by cases e : Wm05.isPeople l with | true => rfl | false => rw [e] at c; cases c
    have e1 : Wm05.step w (.allow i l) = if i ≤ w.done.length then (w, [-6]) else ({ w with steps := w.steps.set (i - 1) l }, [0]) := by
      rw [e0, if_neg]
      rintro (z | z)
      · rw [isStep_iff.mpr ⟨by omega, by omega⟩] at z; cases z
      · rw [hi] at z; cases z
    refine ⟨_, rfl, _, rfl, a, _, dx, _, _, rfl, ob, T.c_Work, T.na_W_doers, wF_doers, d, _, rfl, .inl (SqL.of dr), _, _, rfl, rfl, _, rfl, _, _, rfl, fun c => ?_, fun c => ?_⟩
    · have : i ≤ w.done.length := by
        have := of_decide_eq_true c
        rw [nI_length] at this
        omega
      exact k2 (-6) (by rw [e1, if_pos this])
    have lt : ¬ i ≤ w.done.length := by
      have := of_decide_eq_false c
      rw [nI_length] at this
      omega
    -- work.may[step - 1] = list(people)
    refine ⟨_, rfl, p, _, rfl, .inl (SqL.of hp), fun u hu => ?_⟩
    have h1' : upd H u (.lst (nI l)) m = some (.lst (ms.map V.ref)) := by rw [upd_ne (ne_new h1 hu)]; exact h1
    have ob' : upd H u (.lst (nI l)) a = some (.ins A.cW dx (wF m r d)) := by rw [upd_ne (ne_new ob hu)]; exact ob
    obtain ⟨um, ur, ud⟩ := off_new wa hu
    refine ⟨_, rfl, a, _, dx, _, _, rfl, ob', T.c_Work, T.na_W_may, wF_may, _, rfl, _, _, rfl, rfl, m, _, _, i - 1, rfl, rfl, h1', ?_, ?_⟩
    · unfold ixN
      rw [lm, if_pos (by omega), if_pos (by omega)]
      congr 1
      omega
    refine ⟨(by show 1 ≤ sizeLine; rw [sizeLine_eq]; decide), fun q hq => ?_⟩
    obtain ⟨qm, hq2⟩ := upd_none hq
    obtain ⟨qu, hq3⟩ := upd_none hq2
    have bt : But m r d H (upd (upd (upd H u (.lst (nI l))) m (.lst ((ms.map V.ref).set (i - 1) (.ref u)))) q (.lst [.int 0])) := fun b o b1 b2 b3 e => by
      rw [upd_ne (ne_new e hq3), upd_ne b1, upd_ne (ne_new e hu)]
      exact e
    have em : upd (upd (upd H u (.lst (nI l))) m (.lst ((ms.map V.ref).set (i - 1) (.ref u)))) q (.lst [.int 0]) m = some (.lst ((ms.set (i - 1) u).map V.ref)) := by
      rw [upd_ne (fun z => qm z.symm), upd_same, List.map_set]
    have er : upd (upd (upd H u (.lst (nI l))) m (.lst ((ms.map V.ref).set (i - 1) (.ref u)))) q (.lst [.int 0]) r = some (.lst (rs.map V.ref)) := by
      rw [upd_ne (ne_new h3 hq3), upd_ne (fun z => mr z.symm), upd_ne (ne_new h3 hu)]; exact h3
    refine k1 _ q _ _ (e1.trans (if_neg lt)) bt (wa.chg bt ?_ ⟨ms.set (i - 1) u, em, ?_⟩ ⟨rs, er, rul_at wa bt h4⟩) (lk_of wa bt h1 em (fun p hp => ?_) h3 er fun p hp => hp) hq3 upd_same
    · show _ = some (HO.lst (nI w.done))
      rw [upd_ne (ne_new dr hq3), upd_ne (fun z => md z.symm), upd_ne (ne_new dr hu)]; exact dr
    · refine paired_set (may_go bt h2) (i - 1) ⟨?_, um, ur, ud⟩
      rw [upd_ne (fun z => qu z.symm), upd_ne um, upd_same]
    · rcases List.mem_or_eq_of_mem_set hp with hp | hp
      · exact .inl hp
      · rw [hp]; exact .inr hu
end
end Sf

/-! SfD6b: add_rule, rule_of_two, rule_of_some, strike, undo. -/
namespace Sf
open PySem PySem.Spec PyProof.Rows L2
theorem paired_imp {α β : Type} {F G : α → β → Prop} {l : List α} {k : List β} (h : Paired F l k) (i : ∀ a b, F a b → G a b) : Paired G l k := Paired.mapP h i
theorem But.pln' {A : Ads} {H H' : Hp} {a m r d : Addr} {w : Wk} (x : WAt A H a m r d w) (s : But m r d H H') {p : Addr} {q : Wm05.Rule} (y : RAt A H p q (Off m r d)) : RAt A H' p q (Off m r d) := by
  obtain ⟨dx, l, h1, h2, h3⟩ := y
  obtain ⟨_, dr, _, _, _, ⟨ms, g1, _⟩, ⟨rs', g3, _⟩⟩ := x
  exact ⟨dx, l, s _ _ (ne_of h1 g1 (fun z => nomatch z)) (ne_of h1 g3 (fun z => nomatch z)) (ne_of h1 dr (fun z => nomatch z)) h1, s _ _ h3.1 h3.2.1 h3.2.2 h2, h3⟩
theorem map_erase {α β : Type} (f : α → β) : ∀ (l : List α) (i : Nat), (l.map f).eraseIdx i = (l.eraseIdx i).map f
  | [], _ => rfl
  | _ :: _, 0 => rfl
  | x :: l, i + 1 => congrArg (List.cons (f x)) (map_erase f l i)
section
variable {P : Program} {w : World} {K : PySem.W.Frag} {mg : Str → Option Value} {base : Heap} {A : Ads}
/-- add_rule -/
def spAR (A : Ads) : Sp := fun vs H Q E => ∃ (a m r d p l dr : Addr) (w : Wk) (q : Wm05.Rule), vs = [.ref a, .ref p] ∧ WAt A H a m r d w ∧ WF w ∧ H p = some (.ins A.cR dr (rF (rKind q) (rNum q) l)) ∧ H l = some (.lst (nI (rSteps q))) ∧ Off m r d l ∧
  (∀ H' z w' ans, Wm05.addRule w q = (w', ans) → But m r d H H' → WAt A H' a m r d w' → (∀ N : Addr → Prop, N l → LOk H m r N → LOk H' m r N) → H z = none → H' z = some (.lst (ans.map V.int)) → Q (.ref z) H') ∧ ∀ n, Wm05.addRule w q = (w, [n]) → Rfs A H n E
theorem ok_addR (T : Txt K mg A) : FnOk P w K mg base (L2.CX P w) 4 A.f_addR A.d_addR ["work", "rule"] (spAR A) := by
  refine T.h_addR.F.okX sc_addR (fun vs H Q E h => ?_) (fun cdv A' outer s H vs Q E hr h => ⟨_,
    pss_cons (ps_expr (pe_call (ok_rfs T) hr rfl T.h_rfs.g T.h_rfs.F.kp T.h_rfs.b .nil (passX (takes_of rfl rfl rfl rfl)) (by exact (pa_cons (pe_cmpR op_ge (pe_callB call_len_seq (by rfl) T.n_len boot_len (pa_cons (pe_fld (pv 0) rfl) pa_nil)) (pe_glob (v := .int 8) rfl T.g_MOST_RULES ⟨_, rfl⟩) (nomark _)) (pa_cons (pe_un un_neg pe_int) pa_nil)))))
    (pss_cons (ps_expr (by exact (pe_bm PySem.F.plainAttrs_list PySem.F.slot_list_append PySem.F.type_list_append mt_append (pe_fld (pv 0) rfl) (pa_cons (pv 1) pa_nil))))
    (pss_one (ps_ret (by exact (pe_lst (pa_cons (pe_op op_sub (pe_callB call_len_seq (by rfl) T.n_len boot_len (pa_cons (pe_fld (pv 0) rfl) pa_nil)) pe_int) pa_nil)))))), ?_⟩)
  · obtain ⟨a, m, r, d, p, l, dq, w, q, rfl, _⟩ := h
    rfl
  · obtain ⟨a, m, r, d, p, l, dq, w, q, rfl, wa, wf, rp, rl, ro, k1, k2⟩ := h
    have ra : RAt A H p q (Off m r d) := ⟨dq, l, rp, rl, ro⟩
    obtain ⟨⟨dx, ob⟩, dr, mr, md, rd, ⟨ms, h1, h2⟩, ⟨rs, h3, h4⟩⟩ := id wa
    have lr : (rs.map V.ref).length = w.rules.length := by rw [List.length_map, Paired.length h4]
    have e0 : Wm05.addRule w q = if 8 ≤ w.rules.length then (w, [-5]) else ({ w with rules := w.rules ++ [q] }, Wm05.ints [w.rules.length]) := rfl
    refine ⟨_, rfl, a, _, dx, _, _, rfl, ob, T.c_Work, T.na_W_rules, wF_rules, r, _, rfl, .inl (SqL.of h3), _, _, rfl, rfl, _, rfl, _, _, rfl, fun c => ?_, fun c => ?_⟩
    · have : 8 ≤ w.rules.length := by
        have := of_decide_eq_true c
        rw [lr] at this
        omega
      exact k2 (-5) (e0.trans (if_pos this))
    have lt : ¬ 8 ≤ w.rules.length := by
      have := of_decide_eq_false c
      rw [lr] at this
      omega
    obtain ⟨am, ar, ad⟩ := wa.a_off
    refine ⟨_, rfl, a, _, dx, _, _, rfl, ob, T.c_Work, T.na_W_rules, wF_rules, .inl ⟨rfl, _, SqL.of h3⟩, _, rfl, r, _, _, rfl, rfl, h3, ?_, ?_⟩
    · rw [lr, sizeLine_eq]; omega
    refine ⟨_, rfl, a, _, dx, _, _, rfl, (upd_ne ar).trans ob, T.c_Work, T.na_W_rules, wF_rules, r, _, rfl, .inl (SqL.of upd_same), _, _, rfl, rfl, ?_, fun z hz => ?_⟩
    · show 1 ≤ sizeLine
      rw [sizeLine_eq]; decide
    obtain ⟨zr, hz2⟩ := upd_none hz
    have bt : But m r d H (upd (upd H r (.lst (rs.map V.ref ++ [V.ref p]))) z (.lst [.int (((rs.map V.ref ++ [V.ref p]).length : Nat) - 1)])) := fun b o b1 b2 b3 e => by
      rw [upd_ne (ne_new e hz2), upd_ne b2]
      exact e
    have em : upd (upd H r (.lst (rs.map V.ref ++ [V.ref p]))) z (.lst [.int (((rs.map V.ref ++ [V.ref p]).length : Nat) - 1)]) m = some (.lst (ms.map V.ref)) := by
      rw [upd_ne (ne_new h1 hz2), upd_ne mr]; exact h1
    have er : upd (upd H r (.lst (rs.map V.ref ++ [V.ref p]))) z (.lst [.int (((rs.map V.ref ++ [V.ref p]).length : Nat) - 1)]) r = some (.lst ((rs ++ [p]).map V.ref)) := by
      rw [upd_ne (fun e => zr e.symm), upd_same, List.map_append]; rfl
    refine k1 _ z _ _ (e0.trans (if_neg lt)) bt (wa.chg bt ?_ ⟨ms, em, may_go bt h2⟩ ⟨rs ++ [p], er, ?_⟩) (fun N hl lo => ⟨fun ms2 e x hx => ?_, fun rs2 e x hx C dx k n l2 ex => ?_⟩) hz2 ?_
    · show _ = some (HO.lst (nI w.done))
      rw [upd_ne (ne_new dr hz2), upd_ne (fun z => rd z.symm)]; exact dr
    · exact Paired.snoc (rul_at wa bt h4) (But.pln' wa bt ra)
    · rw [lst_inj e em] at hx
      exact lo.may ms h1 x hx
    · rw [lst_inj e er] at hx
      rcases List.mem_append.mp hx with hx | hx
      · obtain ⟨q', dx', l', f1, f2, f3⟩ := paired_mem h4 x hx
        obtain ⟨o1, o2, o3⟩ := wa.rule_off f1
        have z := bt _ _ o1 o2 o3 f1
        rw [z] at ex
        rw [ex] at f1
        exact lo.rul rs h3 x hx C dx k n l2 f1
      · rw [List.mem_singleton.mp hx] at ex
        obtain ⟨o1, o2, o3⟩ := wa.rule_off rp
        have z := bt _ _ o1 o2 o3 rp
        rw [z] at ex
        have e5 := (HO.ins.inj (Option.some.inj ex)).2.2
        have e6 : (rF (rKind q) (rNum q) l)[2]? = (rF k n l2)[2]? := by rw [e5]
        have e7 : l = l2 := V.ref.inj (Prod.mk.inj (Option.some.inj e6)).2
        rw [← e7]
        exact hl
    · rw [upd_same, List.length_append, lr]
      show some (HO.lst [V.int (((w.rules.length + 1 : Nat) : Int) - 1)]) = some (HO.lst [V.int ((w.rules.length : Nat) : Int)])
      congr 4
      omega
/-- rule_of_two -/
def spR2 (A : Ads) : Sp := fun vs H Q E => ∃ (a m r d : Addr) (w : Wk) (k i j : Nat) (c : Wm05.Call) (q : Wm05.Rule), vs = [.ref a, .int (k : Int), .int (i : Int), .int (j : Int)] ∧ WAt A H a m r d w ∧ WF w ∧
  Wm05.step w c = (if Wm05.isStep w i = false ∨ Wm05.isStep w j = false ∨ i = j then (w, [-1]) else Wm05.addRule w q) ∧ rKind q = k ∧ rNum q = 0 ∧ rSteps q = [i, j] ∧ Fin A H a m r d w c Q E
theorem isStep_not {w : Wk} {i : Nat} (h : ¬ (1 ≤ i ∧ i ≤ w.steps.length)) : Wm05.isStep w i = false := by
  cases e : Wm05.isStep w i with
  | false => rfl
  | true => exact absurd (isStep_iff.mp e) h
theorem ok_two (T : Txt K mg A) : FnOk P w K mg base (L2.CX P w) 5 A.f_two A.d_two ["work", "kind", "first", "second"] (spR2 A) := by
  refine T.h_two.F.okX sc_two (fun vs H Q E h => ?_) (fun cdv A' outer s H vs Q E hr h => ⟨_,
    pss_cons (ps_set (i := 4) sc_two.nd rfl (Or.inl rfl) (pe_callB call_len_seq (by rfl) T.n_len boot_len (pa_cons (pe_fld (pv 0) rfl) pa_nil)))
    (pss_cons (ps_expr (pe_call (ok_rfs T) (hr.mono (by decide)) rfl T.h_rfs.g T.h_rfs.F.kp T.h_rfs.b .nil (passX (takes_of rfl rfl rfl rfl)) (by exact (pa_cons (pe_or (pe_not (pe_chain op_le op_le pe_int (pv 2) (pv 4))) (pe_or (pe_not (pe_chain op_le op_le pe_int (pv 3) (pv 4))) (pe_one (pe_cmpR op_eq (pv 2) (pv 3) (nomark _))))) (pa_cons (pe_un un_neg pe_int) pa_nil)))))
    (pss_one (ps_ret (pe_call (ok_addR T) hr rfl T.h_addR.g T.h_addR.F.kp T.h_addR.b .nil (passX (takes_of rfl rfl rfl rfl)) (by exact (pa_cons (pv 0) (pa_cons (pe_make T.h_rInit.m (ok_rInit T) (hr.mono (by decide)) rfl T.gc_Rule T.h_rInit.b .nil pass0 (pa_cons (pv 1) (pa_cons pe_int (pa_cons (pe_lst (pa_cons (pv 2) (pa_cons (pv 3) pa_nil))) pa_nil)))) pa_nil))))))), ?_⟩)
  · obtain ⟨a, m, r, d, w, k, i, j, c, q, rfl, _⟩ := h
    rfl
  · obtain ⟨a, m, r, d, w, k, i, j, c, q, rfl, wa, wf, es, ek, en, el, k1, k2⟩ := h
    obtain ⟨⟨dx, ob⟩, dr, mr, md, rd, ⟨ms, h1, h2⟩, ⟨rs, h3, h4⟩⟩ := id wa
    have lm : (ms.map V.ref).length = w.steps.length := by rw [List.length_map, Paired.length h2]
    have bad : (Wm05.isStep w i = false ∨ Wm05.isStep w j = false ∨ i = j) → Rfs A H (-1) E := fun c => k2 (-1) (es.trans (if_pos c))
    refine ⟨_, rfl, a, _, dx, _, _, rfl, ob, T.c_Work, T.na_W_may, wF_may, m, _, rfl, .inl (SqL.of h1), ?_⟩
    rw [lm]
    refine ⟨_, rfl, _, _, rfl, rfl, _, rfl, ?_⟩
    by_cases c1 : ¬ 1 ≤ i
    · rw [decide_eq_false (by omega)]
      exact iteF ⟨_, rfl, _, rfl, iteT ⟨_, rfl, _, _, rfl, fun _ => bad (.inl (isStep_not (by omega))), no_z⟩⟩
    rw [decide_eq_true (by omega)]
    refine iteT ⟨_, rfl, _, _, rfl, rfl, _, rfl, _, rfl, ?_⟩
    by_cases c2 : ¬ i ≤ w.steps.length
    · rw [decide_eq_false (by omega)]
      exact iteT ⟨_, rfl, _, _, rfl, fun _ => bad (.inl (isStep_not (by omega))), no_z⟩
    rw [decide_eq_true (by omega)]
    refine iteF ⟨_, rfl, _, _, rfl, rfl, _, rfl, ?_⟩
    by_cases c3 : ¬ 1 ≤ j
    · rw [decide_eq_false (by omega)]
      exact iteF ⟨_, rfl, _, rfl, iteT ⟨_, rfl, _, _, rfl, fun _ => bad (.inr (.inl (isStep_not (by omega)))), no_z⟩⟩
    rw [decide_eq_true (by omega)]
    refine iteT ⟨_, rfl, _, _, rfl, rfl, _, rfl, _, rfl, ?_⟩
    by_cases c4 : ¬ j ≤ w.steps.length
    · rw [decide_eq_false (by omega)]
      exact iteT ⟨_, rfl, _, _, rfl, fun _ => bad (.inr (.inl (isStep_not (by omega)))), no_z⟩
    rw [decide_eq_true (by omega)]
    refine iteF ⟨_, rfl, _, rfl, rfl, ?_⟩
    rw [dec_int2]
    refine ⟨_, rfl, _, _, rfl, fun c => ?_, fun c => ?_⟩
    · exact bad (.inr (.inr (of_decide_eq_true c)))
    have ne : i ≠ j := of_decide_eq_false c
    have es2 : Wm05.step w _ = Wm05.addRule w q := es.trans (if_neg (by
      rintro (z | z | z)
      · rw [isStep_iff.mpr ⟨by omega, by omega⟩] at z; cases z
      · rw [isStep_iff.mpr ⟨by omega, by omega⟩] at z; cases z
      · exact ne z))
    refine ⟨_, rfl, _, rfl, _, rfl, _, rfl, (by show 2 ≤ sizeLine; rw [sizeLine_eq]; decide), fun l hl => ?_⟩
    intro x dx2 nx nd nxd
    have s1 : Same H (upd H l (.lst [V.int (i : Int), V.int (j : Int)])) := same_new hl
    refine ⟨x, dx2, l, k, 0, rfl, upd_same, fun H1 dx3 e1 kp => ⟨rfl, ?_⟩⟩
    have s2 : Same (upd H l (.lst [V.int (i : Int), V.int (j : Int)])) H1 := Same.made nx nd kp
    have s12 := s1.trans s2
    refine ⟨a, m, r, d, x, l, dx3, w, q, rfl, wa.same s12, wf, ?_, ?_, off_new wa hl, fun H' z w' ans ea bt wa' hlk hz e => ?_, fun n ea => ?_⟩
    · rw [ek, en]; exact e1
    · rw [el]; exact s2 _ _ upd_same
    · exact k1 H' z w' ans (es2.trans ea) (fun b o b1 b2 b3 eb => bt b o b1 b2 b3 (s12 _ _ eb)) wa' (fun N hN lo => hlk N (hN l hl) (lk_same wa s12 N hN lo)) (s12.free hz) e
    · exact (k2 n (es2.trans ea)).go s12
/-- rule_of_some -/
def spRS (A : Ads) : Sp := fun vs H Q E => ∃ (a m r d p : Addr) (w : Wk) (k n : Nat) (l : List Nat) (c : Wm05.Call) (q : Wm05.Rule), vs = [.ref a, .int (k : Int), .int (n : Int), .ref p] ∧ WAt A H a m r d w ∧ WF w ∧ H p = some (.lst (nI l)) ∧
  Wm05.step w c = (if Wm05.isSteps w l = false then (w, [-1]) else Wm05.addRule w q) ∧ rKind q = k ∧ rNum q = n ∧ rSteps q = l ∧ Fin A H a m r d w c Q E
theorem ok_some (T : Txt K mg A) : FnOk P w K mg base (L2.CX P w) 5 A.f_some_ A.d_some_ ["work", "kind", "number", "steps"] (spRS A) := by
  refine T.h_some_.F.okX sc_some_ (fun vs H Q E h => ?_) (fun cdv A' outer s H vs Q E hr h => ⟨_,
    pss_cons (ps_expr (pe_call (ok_rfs T) (hr.mono (by decide)) rfl T.h_rfs.g T.h_rfs.F.kp T.h_rfs.b .nil (passX (takes_of rfl rfl rfl rfl)) (by exact (pa_cons (pe_not (pe_call (ok_rises T) (hr.mono (by decide)) rfl T.h_rises.g T.h_rises.F.kp T.h_rises.b .nil pass0 (pa_cons (pv 3) (pa_cons (pe_callB call_len_seq (by rfl) T.n_len boot_len (pa_cons (pe_fld (pv 0) rfl) pa_nil)) pa_nil)))) (pa_cons (pe_un un_neg pe_int) pa_nil)))))
    (pss_one (ps_ret (pe_call (ok_addR T) hr rfl T.h_addR.g T.h_addR.F.kp T.h_addR.b .nil (passX (takes_of rfl rfl rfl rfl)) (by exact (pa_cons (pv 0) (pa_cons (pe_make T.h_rInit.m (ok_rInit T) (hr.mono (by decide)) rfl T.gc_Rule T.h_rInit.b .nil pass0 (pa_cons (pv 1) (pa_cons (pv 2) (pa_cons (pe_callTy call_list_of (by rfl) T.n_list (by decide +kernel) (pa_cons (pv 3) pa_nil)) pa_nil)))) pa_nil)))))), ?_⟩)
  · obtain ⟨a, m, r, d, p, w, k, n, l, c, q, rfl, _⟩ := h
    rfl
  · obtain ⟨a, m, r, d, p, w, k, n, l, c, q, rfl, wa, wf, hp, es, ek, en, el, k1, k2⟩ := h
    obtain ⟨⟨dx, ob⟩, dr, mr, md, rd, ⟨ms, h1, h2⟩, ⟨rs, h3, h4⟩⟩ := id wa
    have lm : (ms.map V.ref).length = w.steps.length := by rw [List.length_map, Paired.length h2]
    refine ⟨_, rfl, _, rfl, a, _, dx, _, _, rfl, ob, T.c_Work, T.na_W_may, wF_may, m, _, rfl, .inl (SqL.of h1), p, (ms.map V.ref).length, l, rfl, SqL.of hp, _, rfl, _, rfl, _, _, rfl, fun c => ?_, fun c => ?_⟩
    · rw [lm, rise_steps] at c
      have hi : Wm05.isSteps w l = false := by cases e : Wm05.isSteps w l with | false => rfl | true => rw [e] at c; cases c
      exact k2 (-1) (es.trans (if_pos hi))
    rw [lm, rise_steps] at c
    have hi : Wm05.isSteps w l = true := by cases e : Wm05.isSteps w l with | true => rfl | false => rw [e] at c; cases c
    have es2 : Wm05.step w _ = Wm05.addRule w q := es.trans (if_neg (by rw [hi]; decide))
    refine ⟨_, rfl, _, rfl, _, rfl, _, rfl, p, _, rfl, .inl (SqL.of hp), fun u hu => ?_⟩
    intro x dx2 nx nd nxd
    have s1 : Same H (upd H u (.lst (nI l))) := same_new hu
    refine ⟨x, dx2, u, k, n, rfl, upd_same, fun H1 dx3 e1 kp => ⟨rfl, ?_⟩⟩
    have s2 : Same (upd H u (.lst (nI l))) H1 := Same.made nx nd kp
    have s12 := s1.trans s2
    refine ⟨a, m, r, d, x, u, dx3, w, q, rfl, wa.same s12, wf, ?_, ?_, off_new wa hu, fun H' z w' ans ea bt wa' hlk hz e => ?_, fun n ea => ?_⟩
    · rw [ek, en]; exact e1
    · rw [el]; exact s2 _ _ upd_same
    · exact k1 H' z w' ans (es2.trans ea) (fun b o b1 b2 b3 eb => bt b o b1 b2 b3 (s12 _ _ eb)) wa' (fun N hN lo => hlk N (hN u hu) (lk_same wa s12 N hN lo)) (s12.free hz) e
    · exact (k2 n (es2.trans ea)).go s12
/-- strike -/
def spSt (A : Ads) : Sp := fun vs H Q E => ∃ (a m r d : Addr) (w : Wk) (n : Nat), vs = [.ref a, .int (n : Int)] ∧ WAt A H a m r d w ∧ WF w ∧ Fin A H a m r d w (.strike n) Q E
theorem ok_strike (T : Txt K mg A) : FnOk P w K mg base (L2.CX P w) 4 A.f_strike A.d_strike ["work", "number"] (spSt A) := by
  refine T.h_strike.F.okX sc_strike (fun vs H Q E h => ?_) (fun cdv A' outer s H vs Q E hr h => ⟨_,
    pss_cons (ps_expr (pe_call (ok_rfs T) hr rfl T.h_rfs.g T.h_rfs.F.kp T.h_rfs.b .nil (passX (takes_of rfl rfl rfl rfl)) (by exact (pa_cons (pe_cmpR op_ge (pv 1) (pe_callB call_len_seq (by rfl) T.n_len boot_len (pa_cons (pe_fld (pv 0) rfl) pa_nil)) (nomark _)) (pa_cons (pe_un un_neg pe_int) pa_nil)))))
    (pss_cons (ps_expr (by exact (pe_bm PySem.F.plainAttrs_list PySem.F.slot_list_pop PySem.F.type_list_pop mt_popAt (pe_fld (pv 0) rfl) (pa_cons (pv 1) pa_nil))))
    (pss_one (ps_ret (by exact (pe_lst (pa_cons (pe_callB call_len_seq (by rfl) T.n_len boot_len (pa_cons (pe_fld (pv 0) rfl) pa_nil)) pa_nil)))))), ?_⟩)
  · obtain ⟨a, m, r, d, w, n, rfl, _⟩ := h
    rfl
  · obtain ⟨a, m, r, d, w, n, rfl, wa, wf, k1, k2⟩ := h
    obtain ⟨⟨dx, ob⟩, dr, mr, md, rd, ⟨ms, h1, h2⟩, ⟨rs, h3, h4⟩⟩ := id wa
    have lr : (rs.map V.ref).length = w.rules.length := by rw [List.length_map, Paired.length h4]
    have e0 : Wm05.step w (.strike n) = if w.rules.length ≤ n then (w, [-2]) else ({ w with rules := w.rules.take n ++ w.rules.drop (n + 1) }, Wm05.ints [w.rules.length - 1]) := rfl
    refine ⟨_, rfl, _, rfl, a, _, dx, _, _, rfl, ob, T.c_Work, T.na_W_rules, wF_rules, r, _, rfl, .inl (SqL.of h3), _, _, rfl, rfl, _, rfl, _, _, rfl, fun c => ?_, fun c => ?_⟩
    · have : w.rules.length ≤ n := by
        have := of_decide_eq_true c
        rw [lr] at this
        omega
      exact k2 (-2) (e0.trans (if_pos this))
    have lt : ¬ w.rules.length ≤ n := by
      have := of_decide_eq_false c
      rw [lr] at this
      omega
    obtain ⟨am, ar, ad⟩ := wa.a_off
    have nr := wf.nr
    have hx : ixN (rs.map V.ref).length (n : Int) = some n := by
      unfold ixN
      rw [lr, if_pos (by omega), if_pos (by omega), Int.toNat_natCast]
    obtain ⟨s1, s2, _, _⟩ := ixN_seq hx
    obtain ⟨y, hy⟩ : ∃ y, (rs.map V.ref)[n]? = some y := ⟨_, List.getElem?_eq_getElem (by rw [lr]; omega)⟩
    refine ⟨_, rfl, a, _, dx, _, _, rfl, ob, T.c_Work, T.na_W_rules, wF_rules, .inl ⟨rfl, _, SqL.of h3⟩, _, rfl, r, _, _, n, y, rfl, rfl, h3, by omega, by omega, s1, hy, ?_⟩
    refine ⟨_, rfl, a, _, dx, _, _, rfl, (upd_ne ar).trans ob, T.c_Work, T.na_W_rules, wF_rules, r, _, rfl, .inl (SqL.of upd_same), ?_, fun z hz => ?_⟩
    · show 1 ≤ sizeLine
      rw [sizeLine_eq]; decide
    obtain ⟨zr, hz2⟩ := upd_none hz
    have bt : But m r d H (upd (upd H r (.lst ((rs.map V.ref).eraseIdx n))) z (.lst [.int (((rs.map V.ref).eraseIdx n).length : Nat)])) := fun b o b1 b2 b3 e => by
      rw [upd_ne (ne_new e hz2), upd_ne b2]
      exact e
    have em : upd (upd H r (.lst ((rs.map V.ref).eraseIdx n))) z (.lst [.int (((rs.map V.ref).eraseIdx n).length : Nat)]) m = some (.lst (ms.map V.ref)) := by
      rw [upd_ne (ne_new h1 hz2), upd_ne mr]; exact h1
    have er : upd (upd H r (.lst ((rs.map V.ref).eraseIdx n))) z (.lst [.int (((rs.map V.ref).eraseIdx n).length : Nat)]) r = some (.lst ((rs.eraseIdx n).map V.ref)) := by
      rw [upd_ne (fun e => zr e.symm), upd_same, map_erase]
    refine k1 _ z _ _ (e0.trans (if_neg lt)) bt (wa.chg bt ?_ ⟨ms, em, may_go bt h2⟩ ⟨rs.eraseIdx n, er, ?_⟩) (lk_of wa bt h1 em (fun p hp => .inl hp) h3 er fun p hp => List.mem_of_mem_eraseIdx hp) hz2 ?_
    · show _ = some (HO.lst (nI w.done))
      rw [upd_ne (ne_new dr hz2), upd_ne (fun z => rd z.symm)]; exact dr
    · show Paired _ (rs.eraseIdx n) (w.rules.take n ++ w.rules.drop (n + 1))
      rw [← List.eraseIdx_eq_take_drop_succ]
      exact paired_erase (rul_at wa bt h4) n
    · rw [upd_same, List.length_eraseIdx, lr, if_pos (by omega)]
      rfl
/-- undo -/
def spUn (A : Ads) : Sp := fun vs H Q E => ∃ (a m r d : Addr) (w : Wk), vs = [.ref a] ∧ WAt A H a m r d w ∧ WF w ∧ Fin A H a m r d w .undo Q E
theorem nI_dropLast : ∀ l : List Nat, (nI l).dropLast = nI l.dropLast
  | [] => rfl
  | [_] => rfl
  | a :: b :: l => congrArg (List.cons (V.int (a : Int))) (nI_dropLast (b :: l))
theorem ok_undo (T : Txt K mg A) : FnOk P w K mg base (L2.CX P w) 4 A.f_undo A.d_undo ["work"] (spUn A) := by
  refine T.h_undo.F.okX sc_undo (fun vs H Q E h => ?_) (fun cdv A' outer s H vs Q E hr h => ⟨_,
    pss_cons (ps_expr (pe_call (ok_rfs T) hr rfl T.h_rfs.g T.h_rfs.F.kp T.h_rfs.b .nil (passX (takes_of rfl rfl rfl rfl)) (by exact (pa_cons (pe_cmpR op_eq (pe_callB call_len_seq (by rfl) T.n_len boot_len (pa_cons (pe_fld (pv 0) rfl) pa_nil)) pe_int (nomark _)) (pa_cons (pe_un un_neg pe_int) pa_nil)))))
    (pss_cons (ps_expr (by exact (pe_bm0 PySem.F.plainAttrs_list PySem.F.slot_list_pop PySem.F.type_list_pop mt_pop (pe_fld (pv 0) rfl))))
    (pss_one (ps_ret (by exact (pe_lst (pa_cons (pe_callB call_len_seq (by rfl) T.n_len boot_len (pa_cons (pe_fld (pv 0) rfl) pa_nil)) pa_nil)))))), ?_⟩)
  · obtain ⟨a, m, r, d, w, rfl, _⟩ := h
    rfl
  · obtain ⟨a, m, r, d, w, rfl, wa, wf, k1, k2⟩ := h
    obtain ⟨⟨dx, ob⟩, dr, mr, md, rd, ⟨ms, h1, h2⟩, ⟨rs, h3, h4⟩⟩ := id wa
    have e0 : Wm05.step w .undo = if w.done.isEmpty = true then (w, [-3]) else ({ w with done := w.done.dropLast }, Wm05.ints [w.done.length - 1]) := rfl
    refine ⟨_, rfl, a, _, dx, _, _, rfl, ob, T.c_Work, T.na_W_doers, wF_doers, d, _, rfl, .inl (SqL.of dr), rfl, _, rfl, ?_⟩
    rw [nI_length]
    have ed : decide (V.int ((w.done.length : Nat) : Int) = V.int 0) = w.done.isEmpty := by
      cases w.done with
      | nil => rfl
      | cons x l =>
        refine decide_eq_false fun z => ?_
        have : (((x :: l).length : Nat) : Int) = 0 := V.int.inj z
        rw [List.length_cons] at this
        omega
    rw [ed]
    refine ⟨_, _, rfl, fun c => k2 (-3) (e0.trans (if_pos c)), fun c => ?_⟩
    obtain ⟨am, ar, ad⟩ := wa.a_off
    obtain ⟨y, hy⟩ : ∃ y, (nI w.done)[(nI w.done).length - 1]? = some y := by
      refine ⟨_, List.getElem?_eq_getElem ?_⟩
      rw [nI_length]
      cases e : w.done with
      | nil => rw [e] at c; cases c
      | cons x l => rw [List.length_cons]; omega
    refine ⟨_, rfl, a, _, dx, _, _, rfl, ob, T.c_Work, T.na_W_doers, wF_doers, .inl ⟨rfl, _, SqL.of dr⟩, d, _, y, rfl, rfl, dr, hy, ?_⟩
    refine ⟨_, rfl, a, _, dx, _, _, rfl, (upd_ne ad).trans ob, T.c_Work, T.na_W_doers, wF_doers, d, _, rfl, .inl (SqL.of upd_same), ?_, fun z hz => ?_⟩
    · show 1 ≤ sizeLine
      rw [sizeLine_eq]; decide
    obtain ⟨zr, hz2⟩ := upd_none hz
    have bt : But m r d H (upd (upd H d (.lst (nI w.done).dropLast)) z (.lst [.int ((nI w.done).dropLast.length : Nat)])) := fun b o b1 b2 b3 e => by
      rw [upd_ne (ne_new e hz2), upd_ne b3]
      exact e
    have em : upd (upd H d (.lst (nI w.done).dropLast)) z (.lst [.int ((nI w.done).dropLast.length : Nat)]) m = some (.lst (ms.map V.ref)) := by
      rw [upd_ne (ne_new h1 hz2), upd_ne md]; exact h1
    have er : upd (upd H d (.lst (nI w.done).dropLast)) z (.lst [.int ((nI w.done).dropLast.length : Nat)]) r = some (.lst (rs.map V.ref)) := by
      rw [upd_ne (ne_new h3 hz2), upd_ne rd]; exact h3
    refine k1 _ z _ _ (e0.trans (if_neg (by rw [c]; decide))) bt (wa.chg bt ?_ ⟨ms, em, may_go bt h2⟩ ⟨rs, er, rul_at wa bt h4⟩) (lk_of wa bt h1 em (fun p hp => .inl hp) h3 er fun p hp => hp) hz2 ?_
    · rw [upd_ne (fun e => zr e.symm), upd_same, nI_dropLast]
    · rw [upd_same, List.length_dropLast, nI_length]
      rfl
end
end Sf

/-! SfD6c: first_plan, who, did, needed. -/
namespace Sf
open PySem PySem.Spec PyProof.Rows L2
theorem ints_nI (l : List Nat) : (Wm05.ints l).map V.int = nI l := (nI_zs l).symm
/-- the answer of a call that changes nothing -/
theorem Fin.ask {A : Ads} {H : Hp} {a m r d : Addr} {w : Wk} {c : Wm05.Call} {Q : VK} {E : XK} {ans : List Int} (x : Fin A H a m r d w c Q E) (wa : WAt A H a m r d w) (e : Wm05.step w c = (w, ans)) {H' : Hp} {q : Addr} (s : Same H H') (hq : H q = none) (h : H' q = some (.lst (ans.map V.int))) : Q (.ref q) H' :=
  x.1 H' q w ans e (But.of s) (wa.same s) (lk_same wa s) hq h
def rLen (K : PySem.W.Frag) : List V → Hp → VK → Prop := fun xs H Q => ∃ p ys, xs = [.ref p] ∧ (SqL K H p ys ∨ SqT K H p ys) ∧ Q (.int ys.length) H
theorem nI_drop (l : List Nat) (k : Nat) : (nI l).drop k = nI (l.drop k) := List.map_drop.symm
theorem cut_nI {l : List Nat} {k : Nat} (h : k ≤ l.length) : cutV (nI l) (some (k : Int)) none = nI (l.drop k) := by
  unfold cutV
  rw [HT.sIx_nat, HT.sIx_none, nI_length, Nat.min_eq_left h, nI_drop]
  exact List.take_of_length_le (by rw [nI_length, List.length_drop]; exact Nat.le_refl _)
section
variable {P : Program} {w : World} {K : PySem.W.Frag} {mg : Str → Option Value} {base : Heap} {A : Ads}
def spFP (A : Ads) : Sp := fun vs H Q E => ∃ (a m r d p : Addr) (w : Wk) (l : List Nat), vs = [.ref a, .ref p] ∧ WAt A H a m r d w ∧ WF w ∧ H p = some (.lst (nI l)) ∧ Fin A H a m r d w (.plan l) Q E
theorem ok_fplan (T : Txt K mg A) : FnOk P w K mg base (L2.CX P w) 4 A.f_fplan A.d_fplan ["work", "people"] (spFP A) := by
  refine T.h_fplan.F.okX sc_fplan (fun vs H Q E h => ?_) (fun cdv A' outer s H vs Q E hr h => ⟨_,
    pss_cons (ps_expr (pe_call (ok_rfs T) hr rfl T.h_rfs.g T.h_rfs.F.kp T.h_rfs.b .nil (passX (takes_of rfl rfl rfl rfl)) (by exact (pa_cons (pe_not (pe_call (ok_rises T) (hr.mono (by decide)) rfl T.h_rises.g T.h_rises.F.kp T.h_rises.b .nil pass0 (pa_cons (pv 1) (pa_cons (pe_callB call_len_seq (by rfl) T.n_len boot_len (pa_cons (pe_glob (v := .ref A.aP) rfl T.gP rfl) pa_nil)) pa_nil)))) (pa_cons (pe_un un_neg pe_int) pa_nil)))))
    (pss_cons (ps_set (i := 2) sc_fplan.nd rfl (Or.inl rfl) (by exact (pe_meth (pv 0) T.c_Work T.h_wPl.m (ok_wPl T) hr T.h_wPl.b .nil pass0 (pa_cons (pv 1) pa_nil))))
    (pss_cons (ps_expr (pe_call (ok_rfs T) hr rfl T.h_rfs.g T.h_rfs.F.kp T.h_rfs.b .nil (passX (takes_of rfl rfl rfl rfl)) (by exact (pa_cons (pe_cmpR op_eq (pe_callB call_len_seq (by rfl) T.n_len boot_len (pa_cons (pv 2) pa_nil)) pe_int (nomark _)) (pa_cons (pe_un un_neg pe_int) pa_nil)))))
    (pss_one (ps_ret (by exact (pe_call (ok_listed T) (hr.mono (by decide)) rfl T.h_listed.g T.h_listed.F.kp T.h_listed.b .nil pass0 (pa_cons (pe_ix ix_list (pv 2) pe_int (fun _ _ => rfl)) pa_nil))))))), ?_⟩)
  · obtain ⟨a, m, r, d, p, w, l, rfl, _⟩ := h
    rfl
  · obtain ⟨a, m, r, d, p, w, l, rfl, wa, wf, hp, k⟩ := h
    obtain ⟨dx, ob⟩ := wa.ob
    have e0 : Wm05.step w (.plan l) = (w, if Wm05.isPeople l = false then [-1] else match Wm05.plans w (Wm05.less ppl l) with | [] => [-3] | a :: _ => Wm05.told a) := rfl
    rw [plans_pls wf.in6] at e0
    refine ⟨_, rfl, A.aP, _, rfl, .inr (T.tP _), p, 6, l, rfl, SqL.of hp, _, rfl, _, rfl, _, _, rfl, fun c => ?_, fun c => ?_⟩
    · rw [rise_people] at c
      have hi : Wm05.isPeople l = false := by cases e : Wm05.isPeople l with | false => rfl | true => rw [e] at c; cases c
      exact k.2 (-1) (by rw [e0, if_pos hi])
    rw [rise_people] at c
    have hi : Wm05.isPeople l = true := by cases e : Wm05.isPeople l with | true => rfl | false => rw [e] at c; cases c
    rw [if_neg (by rw [hi]; decide)] at e0
    refine ⟨_, rfl, a, dx, _, rfl, ob, wF_plans, _, rfl, a, m, r, d, p, w, l, rfl, wa, wf, .inl (SqL.of hp), fun H1 pp s1 np lt => ?_⟩
    obtain ⟨ps, lo, tp⟩ := lt
    refine ⟨_, rfl, pp, _, rfl, .inl (SqL.of lo), rfl, _, rfl, _, _, rfl, fun c => ?_, fun c => ?_⟩
    · have z : pls w l = [] := by
        have := V.int.inj (of_decide_eq_true c)
        rw [List.length_map, Paired.length tp] at this
        exact List.eq_nil_of_length_eq_zero (by omega)
      rw [z] at e0
      exact (k.2 (-3) e0).go s1
    cases e : pls w l with
    | nil =>
      rw [e] at tp
      cases tp
      cases c
    | cons x xs =>
      rw [e] at tp e0
      obtain ⟨pa, hpa, tpa⟩ := paired_at tp (i := 0) rfl
      have pm := wf.plan (List.mem_filter.mp (show x ∈ pls w l by rw [e]; exact List.mem_cons_self)).1
      refine ⟨_, rfl, pp, _, _, _, rfl, rfl, SqL.of lo, atI_nat (j := 0) (at_refs hpa), pa, x, rfl, .inr (SqT.of tpa), ?_, fun H2 q s2 nq eq => ?_⟩
      · rw [pm.1]; have := wf.few; omega
      · refine k.ask wa e0 (s1.trans s2) (s1.free nq) ?_
        show H2 q = some (.lst ((Wm05.ints (x.length :: x)).map V.int))
        rw [ints_nI]
        exact eq
def spWho (A : Ads) : Sp := fun vs H Q E => ∃ (a m r d : Addr) (w : Wk), vs = [.ref a] ∧ WAt A H a m r d w ∧ WF w ∧ Fin A H a m r d w .who Q E
theorem nexts_six (w : Wk) : (nexts w).length ≤ 6 := List.length_filter_le _ _
theorem ok_who (T : Txt K mg A) : FnOk P w K mg base (L2.CX P w) 5 A.f_who A.d_who ["work"] (spWho A) := by
  refine T.h_who.F.okX sc_who (fun vs H Q E h => ?_) (fun cdv A' outer s H vs Q E hr h => ⟨_,
    pss_cons (ps_expr (pe_call (ok_rfs T) (hr.mono (by decide)) rfl T.h_rfs.g T.h_rfs.F.kp T.h_rfs.b .nil (passX (takes_of rfl rfl rfl rfl)) (by exact (pa_cons (pe_cmpR op_eq (pe_callB call_len_seq (by rfl) T.n_len boot_len (pa_cons (pe_fld (pv 0) rfl) pa_nil)) (pe_callB call_len_seq (by rfl) T.n_len boot_len (pa_cons (pe_fld (pv 0) rfl) pa_nil)) (nomark _)) (pa_cons (pe_un un_neg pe_int) pa_nil)))))
    (pss_one (ps_ret (by exact (pe_call (ok_listed T) (hr.mono (by decide)) rfl T.h_listed.g T.h_listed.F.kp T.h_listed.b .nil pass0 (pa_cons (pe_meth0 (pv 0) T.c_Work T.h_wNext.m (ok_wNext T) hr T.h_wNext.b .nil pass0) pa_nil))))), ?_⟩)
  · obtain ⟨a, m, r, d, w, rfl, _⟩ := h
    rfl
  · obtain ⟨a, m, r, d, w, rfl, wa, wf, k⟩ := h
    obtain ⟨⟨dx, ob⟩, dr, mr, md, rd, ⟨ms, h1, h2⟩, ⟨rs, h3, h4⟩⟩ := id wa
    have lm : (ms.map V.ref).length = w.steps.length := by rw [List.length_map, Paired.length h2]
    have dn := wf.dn
    have e0 : Wm05.step w .who = (w, if w.steps.length ≤ w.done.length then [-3] else Wm05.told (Wm05.who w)) := rfl
    refine ⟨_, rfl, a, _, dx, _, _, rfl, ob, T.c_Work, T.na_W_doers, wF_doers, d, _, rfl, .inl (SqL.of dr), _, rfl, a, _, dx, _, _, rfl, ob, T.c_Work, T.na_W_may, wF_may, m, _, rfl, .inl (SqL.of h1), rfl, ?_⟩
    rw [lm, nI_length, dec_int2]
    refine ⟨_, rfl, _, _, rfl, fun c => ?_, fun c => ?_⟩
    · have := of_decide_eq_true c
      exact k.2 (-3) (by rw [e0, if_pos (by omega)])
    have ne := of_decide_eq_false c
    have hlt : w.done.length < w.steps.length := by omega
    rw [if_neg (by omega)] at e0
    refine ⟨_, rfl, a, dx, _, rfl, ob, wF_next, a, m, r, d, w, rfl, wa, wf, hlt, fun H1 p s1 np ep => ?_⟩
    refine ⟨p, nexts w, rfl, .inl (SqL.of ep), ?_, fun H2 q s2 nq eq => ?_⟩
    · have := nexts_six w; omega
    · refine k.ask wa e0 (s1.trans s2) (s1.free nq) ?_
      rw [who_eq wf (List.getElem?_eq_getElem hlt)]
      show H2 q = some (.lst ((Wm05.ints ((nexts w).length :: nexts w)).map V.int))
      rw [ints_nI]
      exact eq
def spDid (A : Ads) : Sp := fun vs H Q E => ∃ (a m r d : Addr) (w : Wk) (p : Nat), vs = [.ref a, .int (p : Int)] ∧ WAt A H a m r d w ∧ WF w ∧ Fin A H a m r d w (.did p) Q E
theorem ok_did (T : Txt K mg A) : FnOk P w K mg base (L2.CX P w) 5 A.f_did A.d_did ["work", "person"] (spDid A) := by
  refine T.h_did.F.okX sc_did (fun vs H Q E h => ?_) (fun cdv A' outer s H vs Q E hr h => ⟨_,
    pss_cons (ps_expr (pe_call (ok_rfs T) (hr.mono (by decide)) rfl T.h_rfs.g T.h_rfs.F.kp T.h_rfs.b .nil (passX (takes_of rfl rfl rfl rfl)) (by exact (pa_cons (pe_cmpR op_eq (pe_callB call_len_seq (by rfl) T.n_len boot_len (pa_cons (pe_fld (pv 0) rfl) pa_nil)) (pe_callB call_len_seq (by rfl) T.n_len boot_len (pa_cons (pe_fld (pv 0) rfl) pa_nil)) (nomark _)) (pa_cons (pe_un un_neg pe_int) pa_nil)))))
    (pss_cons (ps_expr (pe_call (ok_rfs T) (hr.mono (by decide)) rfl T.h_rfs.g T.h_rfs.F.kp T.h_rfs.b .nil (passX (takes_of rfl rfl rfl rfl)) (by exact (pa_cons (pe_cmpR op_notIn_seq (pv 1) (pe_ix ix_list (pe_fld (pv 0) rfl) (pe_callB call_len_seq (by rfl) T.n_len boot_len (pa_cons (pe_fld (pv 0) rfl) pa_nil)) (fun _ _ => rfl)) (by rfl)) (pa_cons (pe_un un_neg pe_int) pa_nil)))))
    (pss_cons (ps_expr (pe_call (ok_rfs T) (hr.mono (by decide)) rfl T.h_rfs.g T.h_rfs.F.kp T.h_rfs.b .nil (passX (takes_of rfl rfl rfl rfl)) (by exact (pa_cons (pe_cmpR op_notIn_seq (pv 1) (pe_meth0 (pv 0) T.c_Work T.h_wNext.m (ok_wNext T) hr T.h_wNext.b .nil pass0) (by rfl)) (pa_cons (pe_un un_neg pe_int) pa_nil)))))
    (pss_cons (ps_expr (by exact (pe_bm PySem.F.plainAttrs_list PySem.F.slot_list_append PySem.F.type_list_append mt_append (pe_fld (pv 0) rfl) (pa_cons (pv 1) pa_nil))))
    (pss_one (ps_ret (by exact (pe_lst (pa_cons (pe_op op_sub (pe_callB call_len_seq (by rfl) T.n_len boot_len (pa_cons (pe_fld (pv 0) rfl) pa_nil)) (pe_callB call_len_seq (by rfl) T.n_len boot_len (pa_cons (pe_fld (pv 0) rfl) pa_nil))) pa_nil)))))))), ?_⟩)
  · obtain ⟨a, m, r, d, w, p, rfl, _⟩ := h
    rfl
  · obtain ⟨a, m, r, d, w, p, rfl, wa, wf, k⟩ := h
    obtain ⟨⟨dx, ob⟩, dr, mr, md, rd, ⟨ms, h1, h2⟩, ⟨rs, h3, h4⟩⟩ := id wa
    have lm : (ms.map V.ref).length = w.steps.length := by rw [List.length_map, Paired.length h2]
    have dn := wf.dn
    have few := wf.few
    have e0 : Wm05.step w (.did p) = (match w.steps[w.done.length]? with
      | none => (w, [-3])
      | some s => if s.contains p = false then (w, [-6]) else if (Wm05.who w).contains p = false then (w, [-7]) else ({ w with done := w.done ++ [p] }, Wm05.ints [w.steps.length - (w.done.length + 1)])) := rfl
    refine ⟨_, rfl, a, _, dx, _, _, rfl, ob, T.c_Work, T.na_W_doers, wF_doers, d, _, rfl, .inl (SqL.of dr), _, rfl, a, _, dx, _, _, rfl, ob, T.c_Work, T.na_W_may, wF_may, m, _, rfl, .inl (SqL.of h1), rfl, ?_⟩
    rw [lm, nI_length, dec_int2]
    refine ⟨_, rfl, _, _, rfl, fun c => ?_, fun c => ?_⟩
    · have := of_decide_eq_true c
      rw [List.getElem?_eq_none (by omega)] at e0
      exact k.2 (-3) e0
    have ne := of_decide_eq_false c
    have hlt : w.done.length < w.steps.length := by omega
    have hst : w.steps[w.done.length]? = some (w.steps[w.done.length]'hlt) := List.getElem?_eq_getElem hlt
    generalize w.steps[w.done.length]'hlt = st at hst
    rw [hst, who_eq wf hst] at e0
    obtain ⟨pm, hpm, hpl, offp⟩ := paired_at h2 hst
    -- person not in work.may[..]
    refine ⟨_, rfl, _, rfl, a, _, dx, _, _, rfl, ob, T.c_Work, T.na_W_may, wF_may, _, rfl, a, _, dx, _, _, rfl, ob, T.c_Work, T.na_W_doers, wF_doers, d, _, rfl, .inl (SqL.of dr), ?_⟩
    rw [nI_length]
    refine ⟨m, _, _, _, rfl, rfl, SqL.of h1, atI_nat (at_refs hpm), pm, _, rfl, .inl (SqL.of hpl), rfl, nI_flat st, ?_⟩
    rw [inV_nI]
    refine ⟨_, rfl, _, _, rfl, fun c => ?_, fun c => ?_⟩
    · have : st.contains p = false := by cases e : st.contains p with | false => rfl | true => rw [e] at c; cases c
      exact k.2 (-6) (e0.trans (if_pos this))
    have h6 : st.contains p = true := by cases e : st.contains p with | true => rfl | false => rw [e] at c; cases c
    have e1 := e0.trans (if_neg (by rw [h6]; decide))
    -- person not in work.next_people()
    refine ⟨_, rfl, _, rfl, a, dx, _, rfl, ob, wF_next, a, m, r, d, w, rfl, wa, wf, hlt, fun H1 np s1 nn en => ?_⟩
    refine ⟨np, _, rfl, .inl (SqL.of en), rfl, nI_flat _, ?_⟩
    rw [inV_nI]
    refine ⟨_, rfl, _, _, rfl, fun c => ?_, fun c => ?_⟩
    · have : (nexts w).contains p = false := by cases e : (nexts w).contains p with | false => rfl | true => rw [e] at c; cases c
      exact (k.2 (-7) (e1.trans (if_pos this))).go s1
    have h7 : (nexts w).contains p = true := by cases e : (nexts w).contains p with | true => rfl | false => rw [e] at c; cases c
    have e2 := e1.trans (if_neg (by rw [h7]; decide))
    -- work.doers.append(person)
    obtain ⟨am, ar, ad⟩ := wa.a_off
    have ob1 := s1 _ _ ob
    refine ⟨_, rfl, a, _, dx, _, _, rfl, ob1, T.c_Work, T.na_W_doers, wF_doers, .inl ⟨rfl, _, SqL.of (s1 _ _ dr)⟩, _, rfl, d, _, _, rfl, rfl, s1 _ _ dr, ?_, ?_⟩
    · rw [nI_length, sizeLine_eq]; omega
    have ob2 : ∀ {o : HO}, upd H1 d o a = some (.ins A.cW dx (wF m r d)) := (upd_ne ad).trans ob1
    have h12 : ∀ {o : HO}, upd H1 d o m = some (.lst (ms.map V.ref)) := (upd_ne md).trans (s1 _ _ h1)
    refine ⟨_, rfl, a, _, dx, _, _, rfl, ob2, T.c_Work, T.na_W_may, wF_may, m, _, rfl, .inl (SqL.of h12), _, rfl, a, _, dx, _, _, rfl, ob2, T.c_Work, T.na_W_doers, wF_doers, d, _, rfl, .inl (SqL.of upd_same), _, _, rfl, rfl, ?_, fun z hz => ?_⟩
    · show 1 ≤ sizeLine
      rw [sizeLine_eq]; decide
    obtain ⟨zd, hz2⟩ := upd_none hz
    have hz3 := s1.free hz2
    have bt : But m r d H (upd (upd H1 d (.lst (nI w.done ++ [V.int (p : Int)]))) z (.lst [.int (((ms.map V.ref).length : Nat) - ((nI w.done ++ [V.int (p : Int)]).length : Nat))])) := fun b o b1 b2 b3 e => by
      rw [upd_ne (ne_new e hz3), upd_ne b3]
      exact s1 _ _ e
    have em : upd (upd H1 d (.lst (nI w.done ++ [V.int (p : Int)]))) z (.lst [.int (((ms.map V.ref).length : Nat) - ((nI w.done ++ [V.int (p : Int)]).length : Nat))]) m = some (.lst (ms.map V.ref)) := by
      rw [upd_ne (ne_new h1 hz3), h12]
    have er : upd (upd H1 d (.lst (nI w.done ++ [V.int (p : Int)]))) z (.lst [.int (((ms.map V.ref).length : Nat) - ((nI w.done ++ [V.int (p : Int)]).length : Nat))]) r = some (.lst (rs.map V.ref)) := by
      rw [upd_ne (ne_new h3 hz3), upd_ne rd]; exact s1 _ _ h3
    refine k.1 _ z _ _ e2 bt (wa.chg bt ?_ ⟨ms, em, may_go bt h2⟩ ⟨rs, er, rul_at wa bt h4⟩) (lk_of wa bt h1 em (fun p hp => .inl hp) h3 er fun p hp => hp) hz3 ?_
    · rw [upd_ne (fun e => zd e.symm), upd_same]
      show _ = some (HO.lst (nI (w.done ++ [p])))
      rw [nI_append]; rfl
    · rw [upd_same, List.length_append, lm, nI_length]
      show some (HO.lst [V.int ((w.steps.length : Int) - ((w.done.length + 1 : Nat) : Int))]) = some (HO.lst [V.int ((w.steps.length - (w.done.length + 1) : Nat) : Int)])
      congr 4
      omega
def spNe (A : Ads) : Sp := fun vs H Q E => ∃ (a m r d : Addr) (w : Wk), vs = [.ref a] ∧ WAt A H a m r d w ∧ WF w ∧ Fin A H a m r d w .needed Q E
def aloneP (w : Wk) (p : Nat) : Bool := (pls w [p]).isEmpty
def idleP (w : Wk) (p : Nat) : Bool := !((pls w []).any fun a => (a.drop w.done.length).contains p)
theorem pick_six (f : Nat → Bool) (i : Nat) : ((ppl.take i).filter f).length ≤ 6 := by
  have h1 : ((ppl.take i).filter f).length ≤ (ppl.take i).length := List.length_filter_le _ _
  rw [List.length_take] at h1
  have : ppl.length = 6 := rfl
  omega
theorem ok_needed (T : Txt K mg A) : FnOk P w K mg base (L2.CX P w) 4 A.f_needed A.d_needed ["work"] (spNe A) := by
  refine T.h_needed.F.okX sc_needed (fun vs H Q E h => ?_) (fun cdv A' outer s H vs Q E hr h => ⟨_,
    pss_cons (ps_set (i := 1) sc_needed.nd rfl (Or.inl rfl) (by exact (pe_meth (pv 0) T.c_Work T.h_wPl.m (ok_wPl T) hr T.h_wPl.b .nil pass0 (pa_cons (pe_tup pa_nil) pa_nil))))
    (pss_cons (ps_expr (pe_call (ok_rfs T) hr rfl T.h_rfs.g T.h_rfs.F.kp T.h_rfs.b .nil (passX (takes_of rfl rfl rfl rfl)) (by exact (pa_cons (pe_cmpR op_eq (pe_callB call_len_seq (by rfl) T.n_len boot_len (pa_cons (pv 1) pa_nil)) pe_int (nomark _)) (pa_cons (pe_un un_neg pe_int) pa_nil)))))
    (pss_cons (ps_setLc (i := 3) (own := [("person", 2)]) (g := gName 2) (tt := tNot (tB (tMeth A.cW "can_end" (spWE K A) [] E0 (tVar 0) (tCons (tTup (tCons (tVar 2) tNil)) tNil)))) (te := tVar 2) rfl sc_needed.nd rfl rfl (sw_true rfl rfl rfl (by decide +kernel)) (pi_tup (pe_glob (v := .ref A.aP) rfl T.gP rfl)) (blkOk_by (N := nn_needed) (sc := defScope st_needed) (by decide +kernel))
      (fun _ _ _ _ _ => pg_name (i := 2) sc_needed.nd rfl (Or.inl rfl)) (fun _ _ _ _ _ => pts_one (pt_not (pt_val (by exact (pe_meth (pv 0) T.c_Work T.h_wCan.m (ok_wCan T) hr T.h_wCan.b .nil pass0 (pa_cons (pe_tup (pa_cons (pv 2) pa_nil)) pa_nil)))))) (fun _ _ _ _ _ => by exact (pv 2)))
    (pss_cons (ps_set (i := 4) sc_needed.nd rfl (Or.inl rfl) (pe_lst pa_nil))
    (pss_cons (ps_for (passes_of rfl) rfl (pi_tup (pe_glob (v := .ref A.aP) rfl T.gP rfl)) (pg_name (i := 2) sc_needed.nd rfl (Or.inr rfl))
      (pss_one (ps_if (pt_not (pt_val (by exact (pe_callB (cr_any rfl) (by rfl) T.n_any (by decide +kernel) (pa_cons
          (pe_lc (own := [("plan", 5)]) (g := gName 5) (tt := tYes) (te := tOp (rIn K false) (tVar 2) (tSl (rSlA K) (tVar 5) (tPart (tCB (rLen K) (tCons (tFld K (tVar 0) "doers") tNil))) tNoPart)) rfl sc_needed.nd (pi_list (pv 1)) (blkOk_by (N := nn_needed) (sc := defScope st_needed) (by decide +kernel))
            (fun _ _ _ _ _ => pg_name (i := 5) sc_needed.nd rfl (Or.inl rfl)) (fun _ _ _ _ _ => pts_nil)
            (fun _ _ _ _ _ => by exact (pe_cmpR op_in_seq (pv 2) (pe_slice sl_tupA (pv 5) (po_some (pe_callB call_len_seq (by rfl) T.n_len boot_len (pa_cons (pe_fld (pv 0) rfl) pa_nil))) po_none) (by rfl))))
          pa_nil)))))
        (pss_one (ps_expr (by exact (pe_bm PySem.F.plainAttrs_list PySem.F.slot_list_append PySem.F.type_list_append mt_append (pv 4) (pa_cons (pv 2) pa_nil))))) pss_nil)))
    (pss_one (ps_ret (by exact (pe_op op_cat (pe_call (ok_listed T) (hr.mono (by decide)) rfl T.h_listed.g T.h_listed.F.kp T.h_listed.b .nil pass0 (pa_cons (pv 3) pa_nil)) (pe_call (ok_listed T) (hr.mono (by decide)) rfl T.h_listed.g T.h_listed.F.kp T.h_listed.b .nil pass0 (pa_cons (pv 4) pa_nil)))))))))), ?_⟩)
  · obtain ⟨a, m, r, d, w, rfl, _⟩ := h
    rfl
  · obtain ⟨a, m, r, d, w, rfl, wa, wf, k⟩ := h
    obtain ⟨dx, ob⟩ := wa.ob
    have e0 : Wm05.step w .needed = (w, match Wm05.plans w ppl with
      | [] => [-3]
      | _ :: _ => Wm05.told (ppl.filter fun p => (Wm05.plans w (Wm05.less ppl [p])).isEmpty) ++ Wm05.told (ppl.filter fun p => (Wm05.plans w ppl).all fun a => !(a.drop w.done.length).contains p)) := rfl
    have ea : (ppl.filter fun p => (Wm05.plans w (Wm05.less ppl [p])).isEmpty) = ppl.filter (aloneP w) := by
      congr 1
      funext p
      rw [plans_pls wf.in6]
      rfl
    have ei : (ppl.filter fun p => (Wm05.plans w ppl).all fun a => !(a.drop w.done.length).contains p) = ppl.filter (idleP w) := by
      congr 1
      funext p
      rw [plans_all wf.in6]
      unfold idleP
      rw [List.not_any_eq_all_not]
    rw [ea, ei, plans_all wf.in6] at e0
    -- plans = work.plans(())
    refine ⟨_, rfl, a, dx, _, rfl, ob, wF_plans, Nat.zero_le _, fun e he => ?_⟩
    have se := same_new (o := .tup []) he
    refine ⟨a, m, r, d, e, w, [], rfl, wa.same se, wf, .inr (SqT.of upd_same), fun H1 pp s1' np' lt => ?_⟩
    have s1 := se.trans s1'
    have np := se.free np'
    obtain ⟨ps, lo, tp⟩ := lt
    have big : (pls w []).length ≤ 7776 := by
      have h1 := wf.alls_length [] (rest w).length
      rw [List.take_length] at h1
      have h2 : (pls w []).length ≤ (alls [] w.done (rest w)).length := List.length_filter_le _ _
      omega
    have lps : (ps.map V.ref).length = (pls w []).length := by rw [List.length_map, Paired.length tp]
    refine ⟨_, rfl, pp, _, rfl, .inl (SqL.of lo), rfl, _, rfl, _, _, rfl, fun c => ?_, fun c => ?_⟩
    · have z : pls w [] = [] := by
        have := V.int.inj (of_decide_eq_true c)
        rw [lps] at this
        exact List.eq_nil_of_length_eq_zero (by omega)
      rw [z] at e0
      exact (k.2 (-3) e0).go s1
    have e1 : Wm05.step w .needed = (w, Wm05.told (ppl.filter (aloneP w)) ++ Wm05.told (ppl.filter (idleP w))) := by
      cases z : pls w [] with
      | nil =>
        rw [z] at lps
        rw [lps] at c
        cases c
      | cons x xs =>
        rw [z] at e0
        exact e0
    clear e0
    -- alone
    refine ⟨A.aP, rfl, ⟨_, T.tP _⟩, fun D hD => ?_⟩
    refine lc_tup (K := K) (a := A.aP) (xs := nI ppl) (fun i H' => Same H1 H' ∧ H' D = some (.lst (nI ((ppl.take i).filter (aloneP w)))))
      ⟨same_new hD, upd_same⟩ (fun i H' _ _ => T.tP _) ?_ ?_
    · rintro i x H' hx ⟨s2, e2⟩
      obtain ⟨p, hp, rfl⟩ := nI_of hx
      have s02 := s1.trans s2
      refine ⟨rfl, _, rfl, a, dx, _, rfl, s02 _ _ ob, wF_can, _, rfl, (by show 1 ≤ sizeLine; rw [sizeLine_eq]; decide), fun u hu => ?_⟩
      have su := same_new (o := .tup [.int (p : Int)]) hu
      refine ⟨a, m, r, d, u, w, [p], rfl, wa.same (s02.trans su), wf, .inr (SqT.of upd_same), fun H3 s3' => ?_⟩
      have s3 := su.trans s3'
      refine ⟨_, rfl, ?_⟩
      have hs := filter_snoc (f := aloneP w) hp
      show if (!(!aloneP w p)) = true then _ else _
      rw [Bool.not_not]
      cases c : aloneP w p with
      | false =>
        rw [c, if_neg (by decide)] at hs
        refine ⟨s2.trans s3, ?_⟩
        rw [hs]
        exact s3 _ _ e2
      | true =>
        rw [c, if_pos rfl] at hs
        refine ⟨_, rfl, _, s3 _ _ e2, ?_, same_upd (s2.trans s3) hD, ?_⟩
        · rw [nI_length, sizeLine_eq]
          have := pick_six (aloneP w) i
          omega
        · rw [upd_same, hs, nI_append]
          rfl
    · rintro H2 ⟨s2, e2⟩
      rw [nI_length, List.take_length] at e2
      -- idle = []
      refine ⟨Nat.zero_le _, fun I hI => ?_⟩
      have nI0 := (s1.trans s2).free hI
      have DI : D ≠ I := ne_new e2 hI
      have pI : pp ≠ I := ne_new (s2 _ _ lo) hI
      refine ⟨A.aP, rfl, ⟨_, T.tP _⟩, ?_⟩
      refine for_tup (K := K) (a := A.aP) (xs := nI ppl) (fun i σ H' => ∃ v5 : Option V, (∃ v2 : Option V, σ = [some (.ref a), some (.ref pp), v2, some (.ref D), some (.ref I), v5]) ∧ (∀ b u, b ≠ I → H2 b = some u → H' b = some u) ∧ H' I = some (.lst (nI ((ppl.take i).filter (idleP w)))))
        ⟨none, ⟨none, rfl⟩, fun b u n e => by rw [upd_ne n]; exact e, upd_same⟩ (fun i σ H' _ _ => T.tP _) ?_ ?_
      · rintro i x σ H' hx ⟨v5, ⟨v2, rfl⟩, kp, e3⟩
        obtain ⟨p, hp, rfl⟩ := nI_of hx
        have lo' : H' pp = some (.lst (ps.map V.ref)) := kp _ _ pI (s2 _ _ lo)
        refine ⟨_, rfl, pp, rfl, ⟨_, SqL.of lo'⟩, fun D2 hD2 => ?_⟩
        refine lc_list (K := K) (a := pp) (xs := ps.map V.ref) (fun j H'' => Same H' H'' ∧ H'' D2 = some (.lst ((((pls w []).take j).map fun a => (a.drop w.done.length).contains p).map V.bl)))
          ⟨same_new hD2, upd_same⟩ (fun j H'' _ ⟨s4, _⟩ => SqL.of (s4 _ _ lo')) ?_ ?_
        · rintro j y H'' hy ⟨s4, e4⟩
          obtain ⟨pa, hpa, rfl⟩ := refs_at hy
          obtain ⟨pl, hpl, tpl⟩ := paired_at' tp hpa
          have pm := wf.plan (List.mem_filter.mp (List.mem_of_getElem? hpl)).1
          have hk : w.done.length ≤ pl.length := by rw [pm.1]; exact wf.dn
          have g0 : ∀ {b : Addr} {o : HO}, H b = some o → H'' b = some o := fun {b o} e => s4 _ _ (kp _ _ (ne_new e nI0) (s2 _ _ (s1 _ _ e)))
          have tpl' : H'' pa = some (.tup (nI pl)) := s4 _ _ (kp _ _ (ne_new (s2 _ _ tpl) hI) (s2 _ _ tpl))
          have hn : (((pls w []).take (j + 1)).map fun a => (a.drop w.done.length).contains p) = ((pls w []).take j).map (fun a => (a.drop w.done.length).contains p) ++ [(pl.drop w.done.length).contains p] := by
            rw [take_one hpl, List.map_append]
            rfl
          have small : ((((pls w []).take j).map fun a => (a.drop w.done.length).contains p).map V.bl).length < sizeLine := by
            rw [List.length_map, List.length_map, List.length_take, sizeLine_eq]
            omega
          refine ⟨rfl, _, rfl, _, rfl, _, rfl, a, _, dx, _, _, rfl, g0 ob, T.c_Work, T.na_W_doers, wF_doers, d, _, rfl, .inl (SqL.of (g0 wa.dr)), ?_⟩
          rw [nI_length]
          refine ⟨_, rfl, pa, _, rfl, SqT.of tpl', fun wh => ?_, fun _ u hu => ?_⟩
          · -- the whole of it
            rw [HT.sIx_nat, nI_length] at wh
            have ed : pl.drop w.done.length = pl := by
              have h0 : min w.done.length pl.length = 0 := wh.1
              rw [Nat.min_eq_left hk] at h0
              rw [h0]
              rfl
            refine ⟨pa, nI pl, rfl, .inr (SqT.of tpl'), rfl, nI_flat pl, _, e4, small, same_upd s4 hD2, ?_⟩
            rw [upd_same, hn, List.map_append, inV_nI, ed]
            rfl
          · have e4' : upd H'' u (.tup (cutV (nI pl) (some (w.done.length : Int)) none)) D2 = _ := (upd_ne (ne_new e4 hu)).trans e4
            refine ⟨u, nI (pl.drop w.done.length), rfl, .inr (SqT.of ?_), rfl, nI_flat _, _, e4', small, same_upd (same_upd s4 (s4.free hu)) hD2, ?_⟩
            · rw [upd_same, cut_nI hk]
            · rw [upd_same, hn, List.map_append, inV_nI]
              rfl
        · rintro H'' ⟨s4, e4⟩
          rw [lps, List.take_length] at e4
          refine ⟨D2, _, rfl, SqL.of e4, _, rfl, ?_⟩
          rw [List.any_map]
          have ec : (!(pls w []).any (id ∘ fun a => (a.drop w.done.length).contains p)) = idleP w p := rfl
          show if (!(pls w []).any (id ∘ fun a => (a.drop w.done.length).contains p)) = true then _ else _
          rw [ec]
          have hs := filter_snoc (f := idleP w) hp
          have kp' : ∀ b u, b ≠ I → H2 b = some u → H'' b = some u := fun b u n e => s4 _ _ (kp b u n e)
          cases c : idleP w p with
          | false =>
            rw [c, if_neg (by decide)] at hs
            refine iteF ⟨v5, ⟨_, rfl⟩, kp', ?_⟩
            rw [hs]
            exact s4 _ _ e3
          | true =>
            rw [c, if_pos rfl] at hs
            refine iteT ⟨_, rfl, .inl ⟨rfl, _, SqL.of (s4 _ _ e3)⟩, _, rfl, I, _, _, rfl, rfl, s4 _ _ e3, ?_, v5, ⟨_, rfl⟩, fun b u n e => ?_, ?_⟩
            · rw [nI_length, sizeLine_eq]
              have := pick_six (idleP w) i
              omega
            · rw [upd_ne n]
              exact kp' b u n e
            · rw [upd_same, hs, nI_append]
              rfl
      · rintro σ H3 ⟨v5, ⟨v2, rfl⟩, kp, e3⟩
        rw [nI_length, List.take_length] at e3
        have s3 : Same H H3 := fun b u e => kp _ _ (ne_new e nI0) (s2 _ _ (s1 _ _ e))
        have eD : H3 D = some (.lst (nI (ppl.filter (aloneP w)))) := kp _ _ DI e2
        have f6 : ∀ f : Nat → Bool, (ppl.filter f).length ≤ 6 := fun f => List.length_filter_le _ _
        refine ⟨_, rfl, D, ppl.filter (aloneP w), rfl, .inl (SqL.of eD), (by have := f6 (aloneP w); omega), fun H4 q1 s4 n1 g1 => ?_⟩
        refine ⟨_, rfl, I, ppl.filter (idleP w), rfl, .inl (SqL.of (s4 _ _ e3)), (by have := f6 (idleP w); omega), fun H5 q2 s5 n2 g2 => ?_⟩
        refine ⟨q1, q2, _, _, rfl, rfl, s5 _ _ g1, g2, ?_, fun z hz => ?_⟩
        · rw [nI_length, nI_length, List.length_cons, List.length_cons, sizeLine_eq]
          have := f6 (aloneP w)
          have := f6 (idleP w)
          omega
        · have s35 := (s3.trans s4).trans s5
          refine k.ask wa e1 (same_upd s35 (s35.free hz)) (s35.free hz) ?_
          rw [upd_same, List.map_append]
          show _ = some (HO.lst ((Wm05.ints _).map V.int ++ (Wm05.ints _).map V.int))
          rw [ints_nI, ints_nI]
end
end Sf

/-! SfD7: the game: the mathematics of its ways and of what it knows; Game.__init__, by_turns. -/
namespace Sf
open PySem PySem.Spec PyProof.Rows L2
/-! ### the ways so far -/
def PathOk (w : Wk) (ds : List Nat) : Prop := w.done.length ≤ ds.length ∧ ds ∈ alls [] w.done ((rest w).take (ds.length - w.done.length))
theorem PathOk.start (w : Wk) : PathOk w w.done := by
  refine ⟨Nat.le_refl _, ?_⟩
  rw [Nat.sub_self]
  exact List.mem_cons_self
theorem PathOk.in6 {w : Wk} {ds : List Nat} (wf : WF w) (h : PathOk w ds) : In6 ds :=
  (alls_mem (fun s hs => rest_in wf.in6 s (List.mem_of_mem_take hs)) wf.dp h.2).2.1
theorem PathOk.next {w : Wk} {ds st : List Nat} {p : Nat} (h : PathOk w ds) (hs : w.steps[ds.length]? = some st) (hp : p ∈ st) : PathOk w (ds ++ [p]) := by
  obtain ⟨h1, h2⟩ := h
  have el : (ds ++ [p]).length = ds.length + 1 := by rw [List.length_append]; rfl
  have hr : (rest w)[ds.length - w.done.length]? = some st := by
    unfold rest
    rw [List.getElem?_drop, show w.done.length + (ds.length - w.done.length) = ds.length by omega]
    exact hs
  refine ⟨by omega, ?_⟩
  rw [el, show ds.length + 1 - w.done.length = (ds.length - w.done.length) + 1 by omega, alls_next hr]
  unfold ext
  refine List.mem_flatMap.mpr ⟨ds, h2, List.mem_map.mpr ⟨p, ?_, rfl⟩⟩
  rw [here_nil]
  exact hp
/-- whether it can be ended from here, these gone -/
def goodAt (w : Wk) (most : Nat) (ds g : List Nat) : Bool := good w most (w.steps.drop ds.length) ds g
def someAt (w : Wk) (most : Nat) (st ds g : List Nat) : Bool := st.any fun p => !g.contains p && goodAt w most (ds ++ [p]) g
def allAt (w : Wk) (most : Nat) (st ds g : List Nat) : Bool := (upTo most).all fun g' => !(g.all fun p => g'.contains p) || someAt w most st ds g'
theorem goodAt_end {w : Wk} {most : Nat} {ds g : List Nat} (h : ds.length = w.steps.length) : goodAt w most ds g = Wm05.fine w ds := by
  unfold goodAt
  rw [h, List.drop_length]
  rfl
theorem goodAt_step {w : Wk} {most : Nat} {ds g st : List Nat} (h : w.steps[ds.length]? = some st) : goodAt w most ds g = allAt w most st ds g := by
  have e : ∀ p : Nat, (ds ++ [p]).length = ds.length + 1 := fun p => by rw [List.length_append]; rfl
  unfold goodAt allAt someAt goodAt
  rw [drop_at h]
  simp only [e]
  rfl
def turnAt (w : Wk) (most : Nat) (ds : List Nat) : Bool := turns w most (w.steps.drop ds.length) ds
theorem turnAt_end {w : Wk} {most : Nat} {ds : List Nat} (h : ds.length = w.steps.length) : turnAt w most ds = Wm05.fine w ds := by
  unfold turnAt
  rw [h, List.drop_length]
  rfl
theorem turnAt_step {w : Wk} {most : Nat} {ds st : List Nat} (h : w.steps[ds.length]? = some st) : turnAt w most ds = decide (most < (st.filter fun p => turnAt w most (ds ++ [p])).length) := by
  have e : ∀ p : Nat, (ds ++ [p]).length = ds.length + 1 := fun p => by rw [List.length_append]; rfl
  unfold turnAt
  rw [drop_at h, turns_cons]
  simp only [e]
/-! ### what the game knows -/
theorem nodup_length {α : Type} [BEq α] [LawfulBEq α] : ∀ {l L : List α}, l.Nodup → (∀ x ∈ l, x ∈ L) → l.length ≤ L.length
  | [], _, _, _ => Nat.zero_le _
  | x :: l, L, hn, hs => by
    rw [List.nodup_cons] at hn
    have hx := hs x List.mem_cons_self
    have ih := nodup_length (l := l) (L := L.erase x) hn.2 fun y hy => (List.mem_erase_of_ne (fun z => hn.1 (by rw [← z]; exact hy))).mpr (hs y (List.mem_cons_of_mem _ hy))
    rw [List.length_erase_of_mem hx] at ih
    have : 0 < L.length := List.length_pos_of_mem hx
    rw [List.length_cons]
    omega
def paths (w : Wk) : List (List Nat) := (List.range 6).flatMap fun i => alls [] w.done ((rest w).take i)
theorem flat_le {α β : Type} {f : α → List β} {n : Nat} : ∀ l : List α, (∀ x ∈ l, (f x).length ≤ n) → (l.flatMap f).length ≤ l.length * n
  | [], _ => Nat.zero_le _
  | x :: l, h => by
    have ih := flat_le l fun y hy => h y (List.mem_cons_of_mem _ hy)
    have := h x List.mem_cons_self
    rw [List.flatMap_cons, List.length_append, List.length_cons, Nat.add_mul]
    omega
theorem paths_length {w : Wk} (wf : WF w) : (paths w).length ≤ 46656 := by
  have := flat_le (f := fun i => alls [] w.done ((rest w).take i)) (n := 7776) (List.range 6) fun i _ => wf.alls_length [] i
  rw [List.length_range] at this
  exact this
theorem PathOk.mem {w : Wk} {ds : List Nat} (wf : WF w) (h : PathOk w ds) (hl : ds.length ≤ w.steps.length) : ds ∈ paths w := by
  refine List.mem_flatMap.mpr ⟨ds.length - w.done.length, List.mem_range.mpr ?_, h.2⟩
  have := wf.few
  omega
theorem upTo_few {most : Nat} (h : most ≤ 2) : (upTo most).length ≤ 22 := by
  have : most = 0 ∨ most = 1 ∨ most = 2 := by omega
  rcases this with e | e | e <;> subst e <;> decide +kernel
def allKeys (w : Wk) (most : Nat) : List NestedKey := (paths w).flatMap fun ds => (upTo most).map fun g => kK ds g
theorem allKeys_length {w : Wk} {most : Nat} (wf : WF w) (h : most ≤ 2) : (allKeys w most).length ≤ 1026432 := by
  have a := flat_le (f := fun ds => (upTo most).map fun g => kK ds g) (n := 22) (paths w) fun ds _ => by rw [List.length_map]; exact upTo_few h
  have b := paths_length wf
  have c : (paths w).length * 22 ≤ 46656 * 22 := Nat.mul_le_mul_right _ b
  exact Nat.le_trans a c
/-- what is known is so -/
structure KnOk (H : Hp) (w : Wk) (most : Nat) (xs : List KEnt) : Prop where
  keys : KeysAt H xs
  nd : (xs.map (·.1)).Nodup
  val : ∀ x ∈ xs, ∃ ds g, x.1 = kK ds g ∧ ds ∈ paths w ∧ g ∈ upTo most ∧ x.2.2 = .bool (goodAt w most ds g)
theorem KnOk.nil (H : Hp) (w : Wk) (most : Nat) : KnOk H w most [] := ⟨fun x hx => (nomatch hx), .nil, fun x hx => (nomatch hx)⟩
theorem KeyAt.pln {H H' : Hp} {b : Addr} {ds g : List Nat} (k : KeyAt H b ds g) (s : Pln H H') : KeyAt H' b ds g := by
  obtain ⟨t, u, h1, h2, h3⟩ := k
  exact ⟨t, u, s _ _ h1 rfl, s _ _ h2 rfl, s _ _ h3 rfl⟩
theorem KnOk.pln {H H' : Hp} {w : Wk} {most : Nat} {xs : List KEnt} (k : KnOk H w most xs) (s : Pln H H') : KnOk H' w most xs :=
  ⟨fun x hx => by
    obtain ⟨ds, g, e, h⟩ := k.keys x hx
    exact ⟨ds, g, e, h.pln s⟩, k.nd, k.val⟩
theorem KnOk.length {H : Hp} {w : Wk} {most : Nat} {xs : List KEnt} (k : KnOk H w most xs) (wf : WF w) (h : most ≤ 2) : xs.length ≤ sizeLine := by
  have a := nodup_length (l := xs.map (·.1)) (L := allKeys w most) k.nd fun y hy => by
    obtain ⟨x, hx, e⟩ := List.mem_map.mp hy
    obtain ⟨ds, g, e1, e2, e3, _⟩ := k.val x hx
    rw [← e, e1]
    exact List.mem_flatMap.mpr ⟨ds, e2, List.mem_map.mpr ⟨g, e3, rfl⟩⟩
  rw [List.length_map] at a
  have b := allKeys_length wf h
  rw [sizeLine_eq]
  omega
/-- a key that is known -/
theorem KnOk.get {H : Hp} {w : Wk} {most : Nat} {xs : List KEnt} (k : KnOk H w most xs) {ds g : List Nat} {p : Addr × Value} (h : atKey xs (kK ds g) = some p) : p.2 = .bool (goodAt w most ds g) := by
  obtain ⟨ds', g', e1, _, _, e2⟩ := k.val _ (atKey_mem h)
  obtain ⟨e3, e4⟩ := kK_inj e1
  rw [e2, e3, e4]
theorem stored_get (xs : List KEnt) (k : NestedKey) (a : Addr) (v : Value) : ∃ b, atKey (storedH xs k a v) k = some (b, v) := by
  have e := valueAt_stored_same (pairsH xs) k v
  rw [← pairsH_storedH xs k a v, valueAt_pairsH] at e
  obtain ⟨p, hp, e2⟩ := Option.map_eq_some_iff.mp e
  exact ⟨p.1, by rw [hp, ← e2]⟩
theorem KnOk.put {H : Hp} {w : Wk} {most : Nat} {xs : List KEnt} (k : KnOk H w most xs) {ds g : List Nat} {b : Addr} (hb : KeyAt H b ds g) (h1 : ds ∈ paths w) (h2 : g ∈ upTo most) : KnOk H w most (storedH xs (kK ds g) b (.bool (goodAt w most ds g))) := by
  cases c : atKey xs (kK ds g) with
  | some p =>
    rw [storedH_old c]
    have fst : ∀ x : KEnt, (putAt (kK ds g) (.bool (goodAt w most ds g)) x).1 = x.1 ∧ (putAt (kK ds g) (.bool (goodAt w most ds g)) x).2.1 = x.2.1 := fun x => by
      unfold putAt
      by_cases z : x.1 = kK ds g
      · rw [if_pos z]; exact ⟨rfl, rfl⟩
      · rw [if_neg z]; exact ⟨rfl, rfl⟩
    refine ⟨fun x hx => ?_, ?_, fun x hx => ?_⟩
    · obtain ⟨y, hy, e⟩ := List.mem_map.mp hx
      rw [← e, (fst y).1, (fst y).2]
      exact k.keys y hy
    · have e : (xs.map (putAt (kK ds g) (.bool (goodAt w most ds g)))).map (fun x => x.1) = xs.map fun x => x.1 := by
        rw [List.map_map]
        exact List.map_congr_left fun x _ => (fst x).1
      rw [e]
      exact k.nd
    · obtain ⟨y, hy, e⟩ := List.mem_map.mp hx
      obtain ⟨ds', g', e1, e2, e3, e4⟩ := k.val y hy
      refine ⟨ds', g', by rw [← e, (fst y).1, e1], e2, e3, ?_⟩
      rw [← e]
      unfold putAt
      by_cases z : y.1 = kK ds g
      · obtain ⟨z1, z2⟩ := kK_inj (e1.symm.trans z)
        rw [if_pos z, z1, z2]
      · rw [if_neg z, e4]
  | none =>
    rw [storedH_new c]
    refine ⟨fun x hx => ?_, ?_, fun x hx => ?_⟩
    · rcases List.mem_append.mp hx with hx | hx
      · exact k.keys x hx
      · rw [List.mem_singleton.mp hx]
        exact ⟨ds, g, rfl, hb⟩
    · rw [List.map_append, List.nodup_append]
      refine ⟨k.nd, List.pairwise_singleton _ _, fun a ha b hb' => ?_⟩
      have : b = kK ds g := List.mem_singleton.mp hb'
      subst this
      rintro rfl
      obtain ⟨x, hx, e⟩ := List.mem_map.mp ha
      obtain ⟨i, hi⟩ := List.mem_iff_getElem?.mp hx
      have hi' : xs[i]? = some (kK ds g, x.2) := by rw [hi, ← e]
      rw [atKey_of_get k.nd hi'] at c
      cases c
    · rcases List.mem_append.mp hx with hx | hx
      · exact k.val x hx
      · rw [List.mem_singleton.mp hx]
        exact ⟨ds, g, rfl, h1, h2, rfl⟩
section
variable {P : Program} {w : World} {K : PySem.W.Frag} {mg : Str → Option Value} {base : Heap} {A : Ads}
/-- doers + (person,) -/
theorem rd_cat {i j : Nat} {σ : L2.St} {H : Hp} {Q : VK} {t : Addr} {ds : List Nat} {p : Nat} (hi : σ[i]? = some (some (.ref t))) (hj : σ[j]? = some (some (.int (p : Int)))) (ht : H t = some (.tup (nI ds))) (hl : ds.length ≤ 100)
    (k : ∀ H' v, Same H H' → H' v = some (.tup (nI (ds ++ [p]))) → Q (.ref v) H') : tOp (rCatA K) (tVar i) (tTup (tCons (tVar j) tNil)) σ H Q := by
  refine ⟨_, hi, _, hj, (by show 1 ≤ sizeLine; rw [sizeLine_eq]; decide), fun u hu => ?_⟩
  have su := same_new (o := .tup [.int (p : Int)]) hu
  refine ⟨t, u, nI ds, [.int (p : Int)], rfl, rfl, SqT.of (su _ _ ht), SqT.of upd_same, ?_, fun e => ?_, fun _ e => (nomatch e), fun _ _ v hv => ?_⟩
  · rw [nI_length, sizeLine_eq]
    show ds.length + 1 ≤ _
    omega
  · have : ds = [] := nI_inj (b := []) e
    subst this
    exact k _ u su upd_same
  · obtain ⟨vu, hv2⟩ := upd_none hv
    refine k _ v (same_upd su hv2) ?_
    rw [upd_same, nI_append]
    rfl
/-- Game.__init__ -/
def spGI (P : Program) (w : World) (A : Ads) : Sp := fun vs H Q _ => ∃ (g dx a : Addr) (most : Nat), vs = [.ref g, .ref a, .int (most : Int)] ∧ H g = some (.ins A.cG dx []) ∧ most ≤ 2 ∧
  ∀ H' gl kd dx', H' g = some (.ins A.cG dx' (gF a most gl kd)) → LTAt H' gl (upTo most) → H' kd = some (knO P w kd []) → H kd = none → (∀ b o, H b = some o → b ≠ g → H' b = some o) → Q .non H'
theorem ok_gInit (T : Txt K mg A) : FnOk P w K mg base CX0 3 A.f_gInit A.d_gInit ["self", "work", "most"] (spGI P w A) := by
  refine T.h_gInit.F.ok sc_gInit (fun vs H Q E h => ?_) (fun cdv A' outer s H vs Q E hr h => ⟨_, pss_cons (ps_fld (pv 0) (pv 1) rfl) (pss_cons (ps_fld (pv 0) (pv 2) rfl) (pss_cons (ps_fld (pv 0) (by exact (pe_call (ok_gut T) hr rfl T.h_gut.g T.h_gut.F.kp T.h_gut.b .nil pass0 (pa_cons (pv 2) pa_nil))) rfl) (pss_one (ps_fld (pv 0) pe_knNew rfl)))), ?_⟩)
  · obtain ⟨g, dx, a, most, rfl, _⟩ := h
    rfl
  · obtain ⟨g, dx, a, most, rfl, hg, hm, k⟩ := h
    have l0 : ([] : List (Str × V)).length = 0 := rfl
    have l1 := length_putF "work" (V.ref a) []
    have l2 := length_putF "most" (V.int (most : Int)) (putF "work" (V.ref a) [])
    refine ⟨_, rfl, _, rfl, g, A.cG, dx, [], rfl, hg, T.c_Game, T.na_G_work, (by show 0 < 1000; decide), ?_⟩
    refine ⟨_, rfl, _, rfl, g, A.cG, dx, putF "work" (.ref a) [], rfl, upd_same, T.c_Game, T.na_G_most, by omega, ?_⟩
    refine ⟨_, rfl, most, rfl, by omega, fun H1 gl s1 ngl lt => ?_⟩
    have hg1 := s1 _ _ upd_same
    have l3 := length_putF "groups" (V.ref gl) (putF "most" (V.int (most : Int)) (putF "work" (V.ref a) []))
    refine ⟨_, rfl, g, A.cG, dx, putF "most" (.int (most : Int)) (putF "work" (.ref a) []), rfl, hg1, T.c_Game, T.na_G_groups, by omega, fun kd hkd => ?_⟩
    obtain ⟨kg, hkd2⟩ := upd_none hkd
    refine ⟨_, rfl, g, A.cG, dx, putF "groups" (.ref gl) (putF "most" (.int (most : Int)) (putF "work" (.ref a) [])), rfl, ?_, T.c_Game, T.na_G_known, by omega, ?_⟩
    · rw [upd_ne (fun z => kg z.symm), upd_same]
    · refine k _ gl kd dx ?_ ?_ ?_ (upd_none (upd_none (s1.free hkd2)).2).2 fun b o e nb => ?_
      · rw [upd_same, gF_new]
      · obtain ⟨ps, h1, h2⟩ := lt
        have gg : gl ≠ g := ne_of h1 hg1 (fun z => nomatch z)
        have gk : gl ≠ kd := ne_new h1 hkd2
        refine ⟨ps, ?_, Paired.mapP h2 fun q l e => ?_⟩
        · rw [upd_ne gg, upd_ne gk, upd_ne gg]; exact h1
        · have e' : H1 q = some (.tup (nI l)) := e
          have qg : q ≠ g := ne_of e' hg1 (fun z => nomatch z)
          rw [upd_ne qg, upd_ne (ne_new e' hkd2), upd_ne qg]; exact e'
      · rw [upd_ne kg, upd_same]; rfl
      · have e1 : H1 b = some o := s1 _ _ (by rw [upd_ne nb, upd_ne nb]; exact e)
        rw [upd_ne nb, upd_ne (ne_new e1 hkd2), upd_ne nb]; exact e1
/-- by_turns -/
def spGT (A : Ads) (rr : Nat) : Sp := fun vs H Q _ => ∃ (g a m r d gl kd t : Addr) (w : Wk) (most : Nat) (ds : List Nat), vs = [.ref g, .ref t] ∧ GAt A H g a m r d gl kd w most ∧ WF w ∧ H t = some (.tup (nI ds)) ∧ ds.length + rr = w.steps.length ∧ In6 ds ∧
  ∀ H', Same H H' → Q (.bl (turnAt w most ds)) H'
theorem gTurn_0 (T : Txt K mg A) : FnOk P w K mg base CX0 3 A.f_gTurn A.d_gTurn ["self", "doers"] (spGT A 0) := by
  refine T.h_gTurn.F.ok sc_gTurn (fun vs H Q E h => ?_) (fun cdv A' outer s H vs Q E hr h => ⟨_,
    pss_cons (ps_if (pt_cmpR op_eq (pe_callB call_len_seq (by rfl) T.n_len boot_len (pa_cons (pv 1) pa_nil)) (pe_callB call_len_seq (by rfl) T.n_len boot_len (pa_cons (pe_fld (pe_fld (pv 0) rfl) rfl) pa_nil)) (nomark _))
      (pss_one (ps_ret (by exact (pe_meth (pe_fld (pv 0) rfl) T.c_Work T.h_wKept.m (ok_wKept T) hr T.h_wKept.b .nil pass0 (pa_cons (pv 1) pa_nil))))) pss_nil) pss_never, ?_⟩)
  · obtain ⟨g, a, m, r, d, gl, kd, t, w, most, ds, rfl, _⟩ := h
    rfl
  · obtain ⟨g, a, m, r, d, gl, kd, t, w, most, ds, rfl, ⟨⟨gx, ogb⟩, wa, gs⟩, wf, ht, hl, h6, k⟩ := h
    obtain ⟨⟨dx, ob⟩, dr, mr, md, rd, ⟨ms, h1, h2⟩, ⟨rs, h3, h4⟩⟩ := id wa
    have lm : (ms.map V.ref).length = w.steps.length := by rw [List.length_map, Paired.length h2]
    refine ⟨_, rfl, t, _, rfl, .inr (SqT.of ht), _, rfl, g, _, gx, _, _, rfl, ogb, T.c_Game, T.na_G_work, gF_work, a, _, dx, _, _, rfl, ob, T.c_Work, T.na_W_may, wF_may, m, _, rfl, .inl (SqL.of h1), rfl, ?_⟩
    rw [lm, nI_length, dec_int2, decide_eq_true (by omega)]
    refine ⟨_, rfl, iteT ?_⟩
    refine ⟨_, rfl, g, _, gx, _, _, rfl, ogb, T.c_Game, T.na_G_work, gF_work, a, dx, _, rfl, ob, wF_kept, _, rfl, a, m, r, d, t, w, ds, rfl, wa, wf, ht, by omega, h6, fun H' s' => ?_⟩
    have := k H' s'
    rw [turnAt_end (by omega)] at this
    exact this
theorem gTurn_step (T : Txt K mg A) {j rr : Nat} (hj : 2 ≤ j) (ih : FnOk P w K mg base CX0 j A.f_gTurn A.d_gTurn ["self", "doers"] (spGT A rr)) : FnOk P w K mg base CX0 (j + 1) A.f_gTurn A.d_gTurn ["self", "doers"] (spGT A (rr + 1)) := by
  refine T.h_gTurn.F.ok sc_gTurn (fun vs H Q E h => ?_) (fun cdv A' outer s H vs Q E hr h => ⟨_,
    pss_cons (ps_if (pt_cmpR op_eq (pe_callB call_len_seq (by rfl) T.n_len boot_len (pa_cons (pv 1) pa_nil)) (pe_callB call_len_seq (by rfl) T.n_len boot_len (pa_cons (pe_fld (pe_fld (pv 0) rfl) rfl) pa_nil)) (nomark _))
      (pss_one (ps_ret (by exact (pe_meth (pe_fld (pv 0) rfl) T.c_Work T.h_wKept.m (ok_wKept T) (hr.mono hj) T.h_wKept.b .nil pass0 (pa_cons (pv 1) pa_nil))))) pss_nil)
    (pss_cons (ps_set (i := 2) sc_gTurn.nd rfl (Or.inl rfl) pe_int)
    (pss_cons (ps_for PassesOwn.never rfl (pi_list (pe_ix ix_list (pe_fld (pe_fld (pv 0) rfl) rfl) (pe_callB call_len_seq (by rfl) T.n_len boot_len (pa_cons (pv 1) pa_nil)) (fun _ _ => rfl))) (pg_name (i := 3) sc_gTurn.nd rfl (Or.inl rfl))
      (pss_cons (ps_if (pt_val (by exact (pe_meth (pv 0) T.c_Game T.h_gTurn.m ih hr T.h_gTurn.b .nil pass0 (pa_cons (pe_op op_catA (pv 1) (pe_tup (pa_cons (pv 3) pa_nil))) pa_nil))))
          (pss_one (ps_set (i := 2) sc_gTurn.nd rfl (Or.inl rfl) (pe_op op_add (pv 2) pe_int))) pss_nil)
      (pss_one (ps_if (pt_cmpR op_gt (pv 2) (pe_fld (pv 0) rfl) (nomark _)) (pss_one (ps_ret pe_bl)) pss_nil))))
    (pss_one (ps_ret pe_bl)))), ?_⟩)
  · obtain ⟨g, a, m, r, d, gl, kd, t, w, most, ds, rfl, _⟩ := h
    rfl
  · obtain ⟨g, a, m, r, d, gl, kd, t, w, most, ds, rfl, ga, wf, ht, hl, h6, k⟩ := h
    obtain ⟨⟨gx, ogb⟩, wa, gs⟩ := id ga
    obtain ⟨⟨dx, ob⟩, dr, mr, md, rd, ⟨ms, h1, h2⟩, ⟨rs, h3, h4⟩⟩ := id wa
    have lm : (ms.map V.ref).length = w.steps.length := by rw [List.length_map, Paired.length h2]
    have few := wf.few
    have hlt : ds.length < w.steps.length := by omega
    have hst : w.steps[ds.length]? = some (w.steps[ds.length]'hlt) := List.getElem?_eq_getElem hlt
    generalize w.steps[ds.length]'hlt = st at hst
    obtain ⟨pm, hpm, hpl, offp⟩ := paired_at h2 hst
    rw [turnAt_step hst] at k
    refine ⟨_, rfl, t, _, rfl, .inr (SqT.of ht), _, rfl, g, _, gx, _, _, rfl, ogb, T.c_Game, T.na_G_work, gF_work, a, _, dx, _, _, rfl, ob, T.c_Work, T.na_W_may, wF_may, m, _, rfl, .inl (SqL.of h1), rfl, ?_⟩
    rw [lm, nI_length, dec_int2, decide_eq_false (by omega)]
    refine ⟨_, rfl, iteF ?_⟩
    refine ⟨_, rfl, g, _, gx, _, _, rfl, ogb, T.c_Game, T.na_G_work, gF_work, a, _, dx, _, _, rfl, ob, T.c_Work, T.na_W_may, wF_may, _, rfl, t, _, rfl, .inr (SqT.of ht), ?_⟩
    rw [nI_length]
    refine ⟨m, _, _, _, rfl, rfl, SqL.of h1, atI_nat (at_refs hpm), pm, rfl, ⟨_, SqL.of hpl⟩, ?_⟩
    refine for_list (K := K) (a := pm) (xs := nI st) (fun i σ H' => ∃ (c : Nat) (v3 : Option V), σ = [some (.ref g), some (.ref t), some (.int (c : Int)), v3] ∧ Same H H' ∧ c = ((st.take i).filter fun p => turnAt w most (ds ++ [p])).length ∧ c ≤ most)
      ⟨0, none, rfl, Same.refl _, rfl, Nat.zero_le _⟩ (fun i σ H' _ ⟨_, _, _, s1, _⟩ => SqL.of (s1 _ _ hpl)) ?_ ?_
    · rintro i x σ H1 hx ⟨c, v3, rfl, s1, ec, hc⟩
      obtain ⟨p, hp, rfl⟩ := nI_of hx
      have hps := List.mem_of_getElem? hp
      have h6p : p ∈ ppl := wf.in6 st (List.mem_of_getElem? hst) p hps
      have hs := filter_snoc (f := fun p => turnAt w most (ds ++ [p])) hp
      refine ⟨_, rfl, g, gx, _, rfl, s1 _ _ ogb, gF_turn, ?_⟩
      refine rd_cat (K := K) (i := 1) (j := 3) (t := t) (ds := ds) (p := p) rfl rfl (s1 _ _ ht) (by omega) fun H2 v s2 hv => ?_
      have s12 := s1.trans s2
      refine ⟨g, a, m, r, d, gl, kd, v, w, most, ds ++ [p], rfl, ga.pln (same_pln s12), wf, hv, ?_, ?_, fun H3 s3 => ?_⟩
      · rw [List.length_append]
        show ds.length + 1 + rr = _
        omega
      · intro q hq
        rcases List.mem_append.mp hq with hq | hq
        · exact h6 q hq
        · rw [List.mem_singleton.mp hq]; exact h6p
      have s13 := s12.trans s3
      have og3 := s13 _ _ ogb
      refine ⟨_, rfl, ?_⟩
      have hmono : (((st.take (i + 1)).filter fun p => turnAt w most (ds ++ [p])).length) ≤ ((st.filter fun p => turnAt w most (ds ++ [p])).length) := by
        conv => rhs; rw [← List.take_append_drop (i + 1) st]
        rw [List.filter_append, List.length_append]
        omega
      have stop : ∀ n : Nat, n = ((st.take (i + 1)).filter fun p => turnAt w most (ds ++ [p])).length → most < n → Q (.bl true) H3 := fun n en hn => by
        have := k H3 s13
        rw [decide_eq_true (by omega)] at this
        exact this
      cases ct : turnAt w most (ds ++ [p]) with
      | false =>
        rw [ct, if_neg (by decide)] at hs
        refine iteF ?_
        refine ⟨_, rfl, _, rfl, g, _, gx, _, _, rfl, og3, T.c_Game, T.na_G_most, gF_most, _, _, rfl, rfl, _, rfl, ?_⟩
        rw [decide_eq_false (by omega)]
        refine iteF ⟨c, _, rfl, s13, ?_, hc⟩
        rw [hs]; exact ec
      | true =>
        rw [ct, if_pos rfl] at hs
        refine iteT ?_
        have e1 : c + 1 = ((st.take (i + 1)).filter fun p => turnAt w most (ds ++ [p])).length := by
          rw [hs, List.length_append, ← ec]
          rfl
        refine ⟨_, rfl, _, _, rfl, rfl, _, rfl, _, rfl, g, _, gx, _, _, rfl, og3, T.c_Game, T.na_G_most, gF_most, _, _, rfl, rfl, _, rfl, ?_⟩
        by_cases c2 : most < c + 1
        · rw [decide_eq_true (by omega)]
          exact iteT (stop (c + 1) e1 c2)
        · rw [decide_eq_false (by omega)]
          exact iteF ⟨c + 1, _, rfl, s13, e1, by omega⟩
    · rintro σ H1 ⟨c, v3, rfl, s1, ec, hc⟩
      rw [nI_length, List.take_length] at ec
      have := k H1 s1
      rw [decide_eq_false (by omega)] at this
      exact this
theorem ok_gTurn (T : Txt K mg A) : ∀ rr : Nat, FnOk P w K mg base CX0 (3 + rr) A.f_gTurn A.d_gTurn ["self", "doers"] (spGT A rr)
  | 0 => gTurn_0 T
  | rr + 1 => gTurn_step T (Nat.le_trans (show 2 ≤ 3 by decide) (Nat.le_add_right 3 rr)) (ok_gTurn T rr)
end
end Sf

/-! SfD8: Game.for_good, ends_for_all, ends_by_some: three defs that call each other, and what they know. -/
namespace Sf
open PySem PySem.Spec PyProof.Rows L2
/-- what the three of them stand upon -/
structure GC (P : Program) (W : World) (A : Ads) (H : Hp) (g a m r d gl kd tds tg : Addr) (w : Wk) (most : Nat) (ds gn : List Nat) (xs : List KEnt) : Prop where
  ga : GAt A H g a m r d gl kd w most
  wf : WF w
  m2 : most ≤ 2
  ht : H tds = some (.tup (nI ds))
  hg : H tg = some (.tup (nI gn))
  pa : PathOk w ds
  gn : gn ∈ upTo most
  kn : H kd = some (knO P W kd xs)
  ok : KnOk H w most xs
/-- how they end -/
def GK (P : Program) (W : World) (H : Hp) (kd : Addr) (w : Wk) (most : Nat) (v : Bool) (Q : VK) : Prop := ∀ H' xs', But1 kd H H' → H' kd = some (knO P W kd xs') → KnOk H' w most xs' → Q (.bl v) H'
theorem kn_pln {P : Program} {W : World} {H H' : Hp} {kd : Addr} {xs : List KEnt} (e : H kd = some (knO P W kd xs)) (s : But1 kd H H') : Pln H H' := s.pln (φ := _) e
theorem GC.go {P : Program} {W : World} {A : Ads} {H H' : Hp} {g a m r d gl kd tds tg : Addr} {w : Wk} {most : Nat} {ds gn : List Nat} {xs xs' : List KEnt} (x : GC P W A H g a m r d gl kd tds tg w most ds gn xs) (s : But1 kd H H') (e : H' kd = some (knO P W kd xs')) (k : KnOk H' w most xs') :
    GC P W A H' g a m r d gl kd tds tg w most ds gn xs' := by
  have p := kn_pln x.kn s
  exact ⟨x.ga.pln p, x.wf, x.m2, p _ _ x.ht rfl, p _ _ x.hg rfl, x.pa, x.gn, e, k⟩
theorem GC.same {P : Program} {W : World} {A : Ads} {H H' : Hp} {g a m r d gl kd tds tg : Addr} {w : Wk} {most : Nat} {ds gn : List Nat} {xs : List KEnt} (x : GC P W A H g a m r d gl kd tds tg w most ds gn xs) (s : Same H H') :
    GC P W A H' g a m r d gl kd tds tg w most ds gn xs := x.go (But1.of s) (s _ _ x.kn) (x.ok.pln (same_pln s))
def spGG (P : Program) (W : World) (A : Ads) (rr : Nat) : Sp := fun vs H Q _ => ∃ (g a m r d gl kd tds tg : Addr) (w : Wk) (most : Nat) (ds gn : List Nat) (xs : List KEnt), vs = [.ref g, .ref tds, .ref tg] ∧ GC P W A H g a m r d gl kd tds tg w most ds gn xs ∧ ds.length + rr = w.steps.length ∧
  GK P W H kd w most (goodAt w most ds gn) Q
def spGA (P : Program) (W : World) (A : Ads) (rr : Nat) : Sp := fun vs H Q _ => ∃ (g a m r d gl kd tds tg : Addr) (w : Wk) (most : Nat) (ds gn st : List Nat) (xs : List KEnt), vs = [.ref g, .ref tds, .ref tg] ∧ GC P W A H g a m r d gl kd tds tg w most ds gn xs ∧ ds.length + (rr + 1) = w.steps.length ∧ w.steps[ds.length]? = some st ∧
  GK P W H kd w most (allAt w most st ds gn) Q
def spGS (P : Program) (W : World) (A : Ads) (rr : Nat) : Sp := fun vs H Q _ => ∃ (g a m r d gl kd tds tg : Addr) (w : Wk) (most : Nat) (ds gn st : List Nat) (xs : List KEnt), vs = [.ref g, .ref tds, .ref tg] ∧ GC P W A H g a m r d gl kd tds tg w most ds gn xs ∧ ds.length + (rr + 1) = w.steps.length ∧ w.steps[ds.length]? = some st ∧
  GK P W H kd w most (someAt w most st ds gn) Q
theorem any_snoc {f : Nat → Bool} {l : List Nat} {i x : Nat} (h : l[i]? = some x) : (l.take (i + 1)).any f = ((l.take i).any f || f x) := by
  rw [take_one h, List.any_append]
  simp
theorem all_snoc {α : Type} {f : α → Bool} {l : List α} {i : Nat} {x : α} (h : l[i]? = some x) : (l.take (i + 1)).all f = ((l.take i).all f && f x) := by
  rw [take_one h, List.all_append]
  simp
theorem any_take {α : Type} {f : α → Bool} {l : List α} {i : Nat} (h : (l.take i).any f = true) : l.any f = true := by
  obtain ⟨x, hx, e⟩ := List.any_eq_true.mp h
  exact List.any_eq_true.mpr ⟨x, List.mem_of_mem_take hx, e⟩
theorem all_take {α : Type} {f : α → Bool} {l : List α} {i : Nat} (h : (l.take i).all f = false) : l.all f = false := by
  cases c : l.all f with
  | false => rfl
  | true =>
    have : (l.take i).all f = true := List.all_eq_true.mpr fun x hx => List.all_eq_true.mp c x (List.mem_of_mem_take hx)
    rw [h] at this
    cases this
section
variable {P : Program} {W : World} {K : PySem.W.Frag} {mg : Str → Option Value} {base : Heap} {A : Ads}
theorem gSome_step (T : Txt K mg A) {j rr : Nat} (ih : FnOk P W K mg base CX0 j A.f_gGood A.d_gGood ["self", "doers", "gone"] (spGG P W A rr)) : FnOk P W K mg base CX0 (j + 1) A.f_gSome A.d_gSome ["self", "doers", "gone"] (spGS P W A rr) := by
  refine T.h_gSome.F.ok sc_gSome (fun vs H Q E h => ?_) (fun cdv A' outer s H vs Q E hr h => ⟨_,
    pss_cons (ps_for PassesOwn.never rfl (pi_list (pe_ix ix_list (pe_fld (pe_fld (pv 0) rfl) rfl) (pe_callB call_len_seq (by rfl) T.n_len boot_len (pa_cons (pv 1) pa_nil)) (fun _ _ => rfl))) (pg_name (i := 3) sc_gSome.nd rfl (Or.inl rfl))
      (pss_one (ps_if (PW.pt (pw_and (pt_cmpR op_notIn_seq (pv 3) (pv 2) (by rfl)) (pw_and1 (pt_val (by exact (pe_meth (pv 0) T.c_Game T.h_gGood.m ih hr T.h_gGood.b .nil pass0 (pa_cons (pe_op op_catA (pv 1) (pe_tup (pa_cons (pv 3) pa_nil))) (pa_cons (pv 2) pa_nil))))))))
        (pss_one (ps_ret pe_bl)) pss_nil)))
    (pss_one (ps_ret pe_bl)), ?_⟩)
  · obtain ⟨g, a, m, r, d, gl, kd, tds, tg, w, most, ds, gn, st, xs, rfl, _⟩ := h
    rfl
  · obtain ⟨g, a, m, r, d, gl, kd, tds, tg, w, most, ds, gn, st, xs, rfl, gc, hl, hst, k⟩ := h
    obtain ⟨⟨gx, ogb⟩, wa, gs⟩ := id gc.ga
    obtain ⟨⟨dx, ob⟩, dr, mr, md, rd, ⟨ms, h1, h2⟩, ⟨rs, h3, h4⟩⟩ := id wa
    have wf := gc.wf
    have few := wf.few
    obtain ⟨pm, hpm, hpl, offp⟩ := paired_at h2 hst
    refine ⟨_, rfl, g, _, gx, _, _, rfl, ogb, T.c_Game, T.na_G_work, gF_work, a, _, dx, _, _, rfl, ob, T.c_Work, T.na_W_may, wF_may, _, rfl, tds, _, rfl, .inr (SqT.of gc.ht), ?_⟩
    rw [nI_length]
    refine ⟨m, _, _, _, rfl, rfl, SqL.of h1, atI_nat (at_refs hpm), pm, rfl, ⟨_, SqL.of hpl⟩, ?_⟩
    refine for_list (K := K) (a := pm) (xs := nI st) (fun i σ H' => ∃ (v3 : Option V) (xs' : List KEnt), σ = [some (.ref g), some (.ref tds), some (.ref tg), v3] ∧ But1 kd H H' ∧ H' kd = some (knO P W kd xs') ∧ KnOk H' w most xs' ∧ ((st.take i).any fun p => !gn.contains p && goodAt w most (ds ++ [p]) gn) = false)
      ⟨none, xs, rfl, fun _ _ _ e => e, gc.kn, gc.ok, rfl⟩ (fun i σ H' _ ⟨_, _, _, s1, _⟩ => SqL.of (kn_pln gc.kn s1 _ _ hpl rfl)) ?_ ?_
    · rintro i x σ H1 hx ⟨v3, xs', rfl, s1, e1, k1, hn⟩
      obtain ⟨p, hp, rfl⟩ := nI_of hx
      have hps := List.mem_of_getElem? hp
      have gc1 := gc.go s1 e1 k1
      have hs := any_snoc (f := fun p => !gn.contains p && goodAt w most (ds ++ [p]) gn) hp
      rw [hn, Bool.false_or] at hs
      refine ⟨_, rfl, _, rfl, tg, nI gn, rfl, .inr (SqT.of gc1.hg), rfl, nI_flat gn, _, rfl, ?_⟩
      rw [inV_nI]
      show if (!gn.contains p) = true then _ else _
      cases c : gn.contains p with
      | true =>
        rw [c] at hs
        exact iteF (iteF ⟨_, xs', rfl, s1, e1, k1, hs⟩)
      | false =>
        rw [c] at hs
        refine iteT ?_
        obtain ⟨gx1, og1⟩ := gc1.ga.ob
        refine ⟨_, rfl, g, gx1, _, rfl, og1, gF_good, ?_⟩
        refine rd_cat (K := K) (i := 1) (j := 3) (t := tds) (ds := ds) (p := p) rfl rfl gc1.ht (by omega) fun H2 v s2 hv => ?_
        have gc2 := gc1.same s2
        refine ⟨_, rfl, g, a, m, r, d, gl, kd, v, tg, w, most, ds ++ [p], gn, xs', rfl, ⟨gc2.ga, wf, gc.m2, hv, gc2.hg, gc.pa.next hst hps, gc.gn, gc2.kn, gc2.ok⟩, ?_, fun H3 xs3 s3 e3 k3 => ?_⟩
        · rw [List.length_append]
          show ds.length + 1 + rr = _
          omega
        have s13 : But1 kd H H3 := (s1.trans (But1.of s2)).trans s3
        refine ⟨_, rfl, ?_⟩
        rw [Bool.not_false, Bool.true_and] at hs
        cases cg : goodAt w most (ds ++ [p]) gn with
        | true =>
          rw [cg] at hs
          refine iteT ?_
          have := k H3 xs3 s13 e3 k3
          unfold someAt at this
          rw [any_take hs] at this
          exact this
        | false =>
          rw [cg] at hs
          exact iteF ⟨_, xs3, rfl, s13, e3, k3, hs⟩
    · rintro σ H1 ⟨v3, xs', rfl, s1, e1, k1, hn⟩
      rw [nI_length, List.take_length] at hn
      have := k H1 xs' s1 e1 k1
      unfold someAt at this
      rw [hn] at this
      exact this
theorem gAll_step (T : Txt K mg A) {j rr : Nat} (ih : FnOk P W K mg base CX0 j A.f_gSome A.d_gSome ["self", "doers", "gone"] (spGS P W A rr)) : FnOk P W K mg base CX0 (j + 1) A.f_gAll A.d_gAll ["self", "doers", "gone"] (spGA P W A rr) := by
  refine T.h_gAll.F.ok sc_gAll (fun vs H Q E h => ?_) (fun cdv A' outer s H vs Q E hr h => ⟨_,
    pss_cons (ps_for PassesOwn.never rfl (pi_list (pe_fld (pv 0) rfl)) (pg_name (i := 3) sc_gAll.nd rfl (Or.inr rfl))
      (pss_one (ps_if (PW.pt (pw_and (pt_val (by exact (pe_callB (cr_all rfl) (by rfl) T.n_all (by decide +kernel) (pa_cons
            (pe_lc (own := [("person", 4)]) (g := gName 4) (tt := tYes) (te := tOp (rIn K false) (tVar 4) (tVar 3)) rfl sc_gAll.nd (pi_tup (pv 2)) (blkOk_by (N := nn_gAll) (sc := defScope st_gAll) (by decide +kernel))
              (fun _ _ _ _ _ => pg_name (i := 4) sc_gAll.nd rfl (Or.inl rfl)) (fun _ _ _ _ _ => pts_nil) (fun _ _ _ _ _ => by exact (pe_cmpR op_in_seq (pv 4) (pv 3) (by rfl))))
            pa_nil))))
          (pw_and1 (pt_not (pt_val (by exact (pe_meth (pv 0) T.c_Game T.h_gSome.m ih hr T.h_gSome.b .nil pass0 (pa_cons (pv 1) (pa_cons (pv 3) pa_nil)))))))))
        (pss_one (ps_ret pe_bl)) pss_nil)))
    (pss_one (ps_ret pe_bl)), ?_⟩)
  · obtain ⟨g, a, m, r, d, gl, kd, tds, tg, w, most, ds, gn, st, xs, rfl, _⟩ := h
    rfl
  · obtain ⟨g, a, m, r, d, gl, kd, tds, tg, w, most, ds, gn, st, xs, rfl, gc, hl, hst, k⟩ := h
    obtain ⟨⟨gx, ogb⟩, wa, gs⟩ := id gc.ga
    obtain ⟨ps, lo, tp⟩ := gs
    have lps : (ps.map V.ref).length = (upTo most).length := by rw [List.length_map, Paired.length tp]
    refine ⟨_, rfl, g, _, gx, _, _, rfl, ogb, T.c_Game, T.na_G_groups, gF_groups, gl, rfl, ⟨_, SqL.of lo⟩, ?_⟩
    refine for_list (K := K) (a := gl) (xs := ps.map V.ref) (fun i σ H' => ∃ (v3 : Option V) (xs' : List KEnt), σ = [some (.ref g), some (.ref tds), some (.ref tg), v3, none] ∧ But1 kd H H' ∧ H' kd = some (knO P W kd xs') ∧ KnOk H' w most xs' ∧ (((upTo most).take i).all fun g' => !(gn.all fun p => g'.contains p) || someAt w most st ds g') = true)
      ⟨none, xs, rfl, fun _ _ _ e => e, gc.kn, gc.ok, rfl⟩ (fun i σ H' _ ⟨_, _, _, s1, _⟩ => SqL.of (kn_pln gc.kn s1 _ _ lo rfl)) ?_ ?_
    · rintro i x σ H1 hx ⟨v3, xs', rfl, s1, e1, k1, hn⟩
      obtain ⟨pa, hpa, rfl⟩ := refs_at hx
      obtain ⟨g', hg', tg'⟩ := paired_at' tp hpa
      have gc1 := gc.go s1 e1 k1
      have tg1 : H1 pa = some (.tup (nI g')) := kn_pln gc.kn s1 _ _ tg' rfl
      have hs := all_snoc (f := fun g' => !(gn.all fun p => g'.contains p) || someAt w most st ds g') hg'
      rw [hn, Bool.true_and] at hs
      -- all([person in group for person in gone])
      refine ⟨_, rfl, tg, rfl, ⟨_, SqT.of gc1.hg⟩, fun D hD => ?_⟩
      refine lc_tup (K := K) (a := tg) (xs := nI gn) (fun t H' => Same H1 H' ∧ H' D = some (.lst (((gn.take t).map fun p => g'.contains p).map V.bl)))
        ⟨same_new hD, upd_same⟩ (fun t H' _ ⟨s2, _⟩ => SqT.of (s2 _ _ gc1.hg)) ?_ ?_
      · rintro t x H' hx ⟨s2, e2⟩
        obtain ⟨p, hp, rfl⟩ := nI_of hx
        refine ⟨rfl, _, rfl, _, rfl, pa, nI g', rfl, .inr (SqT.of (s2 _ _ tg1)), rfl, nI_flat g', _, e2, ?_, same_upd s2 hD, ?_⟩
        · have h6 := upTo_in6 (k := most) (Nat.le_trans gc.m2 (by decide)) gc.gn
          have : gn.length ≤ 2 := by
            have := gc.gn
            have m2 := gc.m2
            rw [upTo_eq (by omega)] at this
            obtain ⟨q, hq, hq2⟩ := List.mem_flatMap.mp this
            have := (grps_in6 q gn hq2).2
            have := List.mem_range.mp hq
            omega
          rw [List.length_map, List.length_map, List.length_take, sizeLine_eq]
          omega
        · rw [upd_same, take_one hp, List.map_append, List.map_append, inV_nI]
          rfl
      · rintro H2 ⟨s2, e2⟩
        rw [nI_length, List.take_length] at e2
        have gc2 := gc1.same s2
        refine ⟨D, _, rfl, SqL.of e2, _, rfl, ?_⟩
        rw [List.all_map]
        show if (gn.all fun p => g'.contains p) = true then _ else _
        cases c : gn.all fun p => g'.contains p with
        | false =>
          rw [c] at hs
          exact iteF (iteF ⟨_, xs', rfl, s1.trans (But1.of s2), gc2.kn, gc2.ok, hs⟩)
        | true =>
          rw [c] at hs
          refine iteT ?_
          obtain ⟨gx2, og2⟩ := gc2.ga.ob
          refine ⟨_, rfl, g, gx2, _, rfl, og2, gF_some, _, rfl, _, rfl, g, a, m, r, d, gl, kd, tds, pa, w, most, ds, g', st, xs', rfl,
            ⟨gc2.ga, gc.wf, gc.m2, gc2.ht, s2 _ _ tg1, gc.pa, List.mem_of_getElem? hg', gc2.kn, gc2.ok⟩, hl, hst, fun H3 xs3 s3 e3 k3 => ?_⟩
          have s13 : But1 kd H H3 := (s1.trans (But1.of s2)).trans s3
          refine ⟨_, rfl, ?_⟩
          rw [Bool.not_true, Bool.false_or] at hs
          cases cs : someAt w most st ds g' with
          | true =>
            rw [cs] at hs
            exact iteF ⟨_, xs3, rfl, s13, e3, k3, hs⟩
          | false =>
            rw [cs] at hs
            refine iteT ?_
            have := k H3 xs3 s13 e3 k3
            unfold allAt at this
            rw [all_take hs] at this
            exact this
    · rintro σ H1 ⟨v3, xs', rfl, s1, e1, k1, hn⟩
      rw [lps, List.take_length] at hn
      have := k H1 xs' s1 e1 k1
      unfold allAt at this
      rw [hn] at this
      exact this
theorem gGood_0 (T : Txt K mg A) : FnOk P W K mg base CX0 3 A.f_gGood A.d_gGood ["self", "doers", "gone"] (spGG P W A 0) := by
  refine T.h_gGood.F.ok sc_gGood (fun vs H Q E h => ?_) (fun cdv A' outer s H vs Q E hr h => ⟨_,
    pss_cons (ps_if (pt_cmpR op_eq (pe_callB call_len_seq (by rfl) T.n_len boot_len (pa_cons (pv 1) pa_nil)) (pe_callB call_len_seq (by rfl) T.n_len boot_len (pa_cons (pe_fld (pe_fld (pv 0) rfl) rfl) pa_nil)) (nomark _))
      (pss_one (ps_ret (by exact (pe_meth (pe_fld (pv 0) rfl) T.c_Work T.h_wKept.m (ok_wKept T) hr T.h_wKept.b .nil pass0 (pa_cons (pv 1) pa_nil))))) pss_nil) pss_never, ?_⟩)
  · obtain ⟨g, a, m, r, d, gl, kd, tds, tg, w, most, ds, gn, xs, rfl, _⟩ := h
    rfl
  · obtain ⟨g, a, m, r, d, gl, kd, tds, tg, w, most, ds, gn, xs, rfl, gc, hl, k⟩ := h
    obtain ⟨⟨gx, ogb⟩, wa, gs⟩ := id gc.ga
    obtain ⟨⟨dx, ob⟩, dr, mr, md, rd, ⟨ms, h1, h2⟩, ⟨rs, h3, h4⟩⟩ := id wa
    have lm : (ms.map V.ref).length = w.steps.length := by rw [List.length_map, Paired.length h2]
    refine ⟨_, rfl, tds, _, rfl, .inr (SqT.of gc.ht), _, rfl, g, _, gx, _, _, rfl, ogb, T.c_Game, T.na_G_work, gF_work, a, _, dx, _, _, rfl, ob, T.c_Work, T.na_W_may, wF_may, m, _, rfl, .inl (SqL.of h1), rfl, ?_⟩
    rw [lm, nI_length, dec_int2, decide_eq_true (by omega)]
    refine ⟨_, rfl, iteT ?_⟩
    refine ⟨_, rfl, g, _, gx, _, _, rfl, ogb, T.c_Game, T.na_G_work, gF_work, a, dx, _, rfl, ob, wF_kept, _, rfl, a, m, r, d, tds, w, ds, rfl, wa, gc.wf, gc.ht, by omega, gc.pa.in6 gc.wf, fun H' s' => ?_⟩
    have gc' := gc.same s'
    have := k H' xs (But1.of s') gc'.kn gc'.ok
    rw [goodAt_end (by omega)] at this
    exact this
theorem gGood_step (T : Txt K mg A) {j rr : Nat} (hj : 2 ≤ j) (ih : FnOk P W K mg base CX0 j A.f_gAll A.d_gAll ["self", "doers", "gone"] (spGA P W A rr)) : FnOk P W K mg base CX0 (j + 1) A.f_gGood A.d_gGood ["self", "doers", "gone"] (spGG P W A (rr + 1)) := by
  refine T.h_gGood.F.ok sc_gGood (fun vs H Q E h => ?_) (fun cdv A' outer s H vs Q E hr h => ⟨_,
    pss_cons (ps_if (pt_cmpR op_eq (pe_callB call_len_seq (by rfl) T.n_len boot_len (pa_cons (pv 1) pa_nil)) (pe_callB call_len_seq (by rfl) T.n_len boot_len (pa_cons (pe_fld (pe_fld (pv 0) rfl) rfl) pa_nil)) (nomark _))
      (pss_one (ps_ret (by exact (pe_meth (pe_fld (pv 0) rfl) T.c_Work T.h_wKept.m (ok_wKept T) (hr.mono hj) T.h_wKept.b .nil pass0 (pa_cons (pv 1) pa_nil))))) pss_nil)
    (pss_cons (ps_set (i := 3) sc_gGood.nd rfl (Or.inl rfl) (by exact (pe_tup (pa_cons (pv 1) (pa_cons (pv 2) pa_nil)))))
    (pss_cons (ps_if (pt_cmpR (op_knNot hr.units) (pv 3) (pe_fld (pv 0) rfl) (by rfl))
      (pss_one (ps_asg (by exact (pe_meth (pv 0) T.c_Game T.h_gAll.m ih hr T.h_gAll.b .nil pass0 (pa_cons (pv 1) (pa_cons (pv 2) pa_nil)))) (by exact (pg_sub (pe_fld (pv 0) rfl) (pv 3) (set_kn hr.units))))) pss_nil)
    (pss_one (ps_ret (by exact (pe_knGet hr.units (pe_fld (pv 0) rfl) (pv 3) (fun _ _ => rfl))))))), ?_⟩)
  · obtain ⟨g, a, m, r, d, gl, kd, tds, tg, w, most, ds, gn, xs, rfl, _⟩ := h
    rfl
  · obtain ⟨g, a, m, r, d, gl, kd, tds, tg, w, most, ds, gn, xs, rfl, gc, hl, k⟩ := h
    obtain ⟨⟨gx, ogb⟩, wa, gs⟩ := id gc.ga
    obtain ⟨⟨dx, ob⟩, dr, mr, md, rd, ⟨ms, h1, h2⟩, ⟨rs, h3, h4⟩⟩ := id wa
    have lm : (ms.map V.ref).length = w.steps.length := by rw [List.length_map, Paired.length h2]
    have hlt : ds.length < w.steps.length := by omega
    have hst : w.steps[ds.length]? = some (w.steps[ds.length]'hlt) := List.getElem?_eq_getElem hlt
    generalize w.steps[ds.length]'hlt = st at hst
    refine ⟨_, rfl, tds, _, rfl, .inr (SqT.of gc.ht), _, rfl, g, _, gx, _, _, rfl, ogb, T.c_Game, T.na_G_work, gF_work, a, _, dx, _, _, rfl, ob, T.c_Work, T.na_W_may, wF_may, m, _, rfl, .inl (SqL.of h1), rfl, ?_⟩
    rw [lm, nI_length, dec_int2, decide_eq_false (by omega)]
    refine ⟨_, rfl, iteF ?_⟩
    -- key = (doers, gone)
    refine ⟨_, rfl, _, rfl, (by show 2 ≤ sizeLine; rw [sizeLine_eq]; decide), fun u hu => ?_⟩
    have su := same_new (o := .tup [.ref tds, .ref tg]) hu
    have gc1 := gc.same su
    have ku : KeyAt (upd H u (.tup [.ref tds, .ref tg])) u ds gn := ⟨tds, tg, upd_same, gc1.ht, gc1.hg⟩
    refine ⟨_, rfl, _, rfl, g, _, gx, _, _, rfl, su _ _ ogb, T.c_Game, T.na_G_known, gF_known, u, kd, xs, ds, gn, rfl, rfl, gc1.kn, gc1.ok.keys, ku, _, rfl, ?_⟩
    cases c : atKey xs (kK ds gn) with
    | some p =>
      refine iteF ?_
      obtain ⟨b, v⟩ := p
      have ev : v = .bool (goodAt w most ds gn) := gc.ok.get c
      subst ev
      exact ⟨_, rfl, g, _, gx, _, _, rfl, su _ _ ogb, T.c_Game, T.na_G_known, gF_known, _, rfl, u, kd, xs, ds, gn, _, b, rfl, rfl, gc1.kn, gc1.ok.keys, ku, c, k _ xs (But1.of su) gc1.kn gc1.ok⟩
    | none =>
      refine iteT ?_
      refine ⟨_, rfl, g, gx, _, rfl, su _ _ ogb, gF_all, _, rfl, _, rfl, g, a, m, r, d, gl, kd, tds, tg, w, most, ds, gn, st, xs, rfl, gc1, by omega, hst, fun H2 xs2 s2 e2 k2 => ?_⟩
      have gc2 := gc1.go s2 e2 k2
      have p2 := kn_pln gc1.kn s2
      have ku2 := ku.pln p2
      obtain ⟨gx2, og2⟩ := gc2.ga.ob
      rw [← goodAt_step hst]
      refine ⟨_, rfl, g, _, gx2, _, _, rfl, og2, T.c_Game, T.na_G_known, gF_known, _, rfl, u, kd, xs2, ds, gn, _, rfl, rfl, rfl, e2, k2.keys, ku2, k2.length gc.wf gc.m2, ?_⟩
      have b3 : But1 kd H2 (upd H2 kd (knO P W kd (storedH xs2 (kK ds gn) u (.bool (goodAt w most ds gn))))) := fun b o n e => by
        rw [upd_ne n]
        exact e
      have k3 := (k2.put ku2 (gc.pa.mem gc.wf (by omega)) gc.gn).pln (kn_pln e2 b3)
      have gc3 := gc2.go b3 upd_same k3
      obtain ⟨gx3, og3⟩ := gc3.ga.ob
      obtain ⟨b', eb⟩ := stored_get xs2 (kK ds gn) u (.bool (goodAt w most ds gn))
      exact ⟨_, rfl, g, _, gx3, _, _, rfl, og3, T.c_Game, T.na_G_known, gF_known, _, rfl, u, kd, _, ds, gn, _, b', rfl, rfl, gc3.kn, k3.keys, ku2.pln (kn_pln e2 b3), eb,
        k _ _ (((But1.of su).trans s2).trans b3) gc3.kn k3⟩
theorem ok_gGood (T : Txt K mg A) : ∀ rr : Nat, FnOk P W K mg base CX0 (3 + 3 * rr) A.f_gGood A.d_gGood ["self", "doers", "gone"] (spGG P W A rr)
  | 0 => gGood_0 T
  | rr + 1 => gGood_step T (Nat.le_trans (show 2 ≤ 3 by decide) (Nat.le_add_right 3 (3 * rr + 2))) (gAll_step T (gSome_step T (ok_gGood T rr)))
end
end Sf

/-! SfD9: ends_away, away. -/
namespace Sf
open PySem PySem.Spec PyProof.Rows L2
def eaVal (w : Wk) (g k : Nat) : Bool := match g with
  | 0 => Wm05.fixed w k
  | 1 => Wm05.leaving (Wm05.rest w) w Wm05.people k
  | _ => Wm05.turns (Wm05.rest w) w k
theorem upTo_some {k : Nat} (h : k ≤ 2) : (upTo k).length ≤ 22 := upTo_few h
section
variable {P : Program} {W : World} {K : PySem.W.Frag} {mg : Str → Option Value} {base : Heap} {A : Ads}
def spEA (A : Ads) : Sp := fun vs H Q _ => ∃ (a m r d : Addr) (w : Wk) (g k : Nat), vs = [.ref a, .int (g : Int), .int (k : Int)] ∧ WAt A H a m r d w ∧ WF w ∧ g ≤ 2 ∧ k ≤ 2 ∧ ∀ H', Same H H' → Q (.bl (eaVal w g k)) H'
theorem ok_ea (T : Txt K mg A) : FnOk P W K mg base CX0 19 A.f_ea A.d_ea ["work", "kind", "most"] (spEA A) := by
  refine T.h_ea.F.ok sc_ea (fun vs H Q E h => ?_) (fun cdv A' outer s H vs Q E hr h => ?_)
  · obtain ⟨a, m, r, d, w, g, k, rfl, _⟩ := h
    rfl
  obtain ⟨a, m, r, d, w, g, k, rfl, wa, wf, hg, hk, fin⟩ := h
  obtain ⟨rr, hrr⟩ : ∃ rr, w.done.length + rr = w.steps.length := ⟨w.steps.length - w.done.length, by have := wf.dn; omega⟩
  have few := wf.few
  have GG : FnOk P W K mg base CX0 18 A.f_gGood A.d_gGood ["self", "doers", "gone"] (spGG P W A rr) := (ok_gGood T rr).mono (by omega)
  have GT : FnOk P W K mg base CX0 18 A.f_gTurn A.d_gTurn ["self", "doers"] (spGT A rr) := (ok_gTurn T rr).mono (by omega)
  refine ⟨_, pss_cons (ps_if (pt_cmpR op_eq (pv 1) pe_int (nomark _)) (pss_one (ps_ret (by exact (pe_callB (cr_all rfl) (by rfl) T.n_all (by decide +kernel) (pa_cons
        (pe_lc (own := [("group", 4)]) (g := gName 4) (tt := tYes) (te := tMeth A.cW "can_end" (spWE K A) [] E0 (tVar 0) (tCons (tVar 4) tNil)) rfl sc_ea.nd (pi_list (pe_call (ok_gut T) (hr.mono (by decide)) rfl T.h_gut.g T.h_gut.F.kp T.h_gut.b .nil pass0 (pa_cons (pv 2) pa_nil))) (blkOk_by (N := nn_ea) (sc := defScope st_ea) (by decide +kernel))
          (fun _ _ _ _ _ => pg_name (i := 4) sc_ea.nd rfl (Or.inl rfl)) (fun _ _ _ _ _ => pts_nil) (fun _ _ _ _ _ => by exact (pe_meth (pv 0) T.c_Work T.h_wCan.m (ok_wCan T) (hr.mono (by decide)) T.h_wCan.b .nil pass0 (pa_cons (pv 4) pa_nil))))
        pa_nil))))) pss_nil)
    (pss_cons (ps_set (i := 3) sc_ea.nd rfl (Or.inl rfl) (by exact (pe_make T.h_gInit.m (ok_gInit T) (hr.mono (by decide)) rfl T.gc_Game T.h_gInit.b .nil pass0 (pa_cons (pv 0) (pa_cons (pv 2) pa_nil)))))
    (pss_cons (ps_if (pt_cmpR op_eq (pv 1) pe_int (nomark _)) (pss_one (ps_ret (by exact (pe_meth (pv 3) T.c_Game T.h_gGood.m GG hr T.h_gGood.b .nil pass0 (pa_cons (pe_callTy call_tuple_of (by rfl) T.n_tuple (by decide +kernel) (pa_cons (pe_fld (pv 0) rfl) pa_nil)) (pa_cons (pe_tup pa_nil) pa_nil)))))) pss_nil)
    (pss_one (ps_ret (by exact (pe_meth (pv 3) T.c_Game T.h_gTurn.m GT hr T.h_gTurn.b .nil pass0 (pa_cons (pe_callTy call_tuple_of (by rfl) T.n_tuple (by decide +kernel) (pa_cons (pe_fld (pv 0) rfl) pa_nil)) pa_nil))))))), ?_⟩
  obtain ⟨⟨dx, ob⟩, dr, mr, md, rd, ⟨ms, h1, h2⟩, ⟨rs, h3, h4⟩⟩ := id wa
  refine ⟨_, rfl, rfl, _, rfl, ?_⟩
  show if decide (V.int (g : Int) = V.int ((0 : Nat) : Int)) = true then _ else _
  rw [dec_int2]
  by_cases g0 : g = 0
  · subst g0
    rw [decide_eq_true rfl]
    refine iteT ?_
    refine ⟨_, rfl, k, rfl, by omega, fun H1 p s1 np lt => ?_⟩
    obtain ⟨ps, lo, tp⟩ := lt
    have lps : (ps.map V.ref).length = (upTo k).length := by rw [List.length_map, Paired.length tp]
    refine ⟨p, rfl, ⟨_, SqL.of lo⟩, fun D hD => ?_⟩
    refine lc_list (K := K) (a := p) (xs := ps.map V.ref) (fun i H' => Same H1 H' ∧ H' D = some (.lst ((((upTo k).take i).map fun c => !(pls w c).isEmpty).map V.bl)))
      ⟨same_new hD, upd_same⟩ (fun i H' _ ⟨s2, _⟩ => SqL.of (s2 _ _ lo)) ?_ ?_
    · rintro i x H' hx ⟨s2, e2⟩
      obtain ⟨pa, hpa, rfl⟩ := refs_at hx
      obtain ⟨c, hc, tc⟩ := paired_at' tp hpa
      have s02 := s1.trans s2
      refine ⟨rfl, _, rfl, a, dx, _, rfl, s02 _ _ ob, wF_can, _, rfl, a, m, r, d, pa, w, c, rfl, wa.same s02, wf, .inr (SqT.of (s2 _ _ tc)), fun H2 s3 => ?_⟩
      refine ⟨_, s3 _ _ e2, ?_, same_upd (s2.trans s3) hD, ?_⟩
      · rw [List.length_map, List.length_map, List.length_take, sizeLine_eq]
        have := upTo_some hk
        omega
      · rw [upd_same, take_one hc, List.map_append, List.map_append]
        rfl
    · rintro H2 ⟨s2, e2⟩
      rw [lps, List.take_length] at e2
      refine ⟨D, _, rfl, SqL.of e2, ?_⟩
      have := fin H2 (s1.trans s2)
      have e5 : eaVal w 0 k = ((upTo k).map fun c => !(pls w c).isEmpty).all id := by
        rw [List.all_map]
        exact fixed_eq wf.in6 k
      rw [e5] at this
      exact this
  rw [decide_eq_false g0]
  refine iteF ?_
  -- game = Game(work, most)
  refine ⟨_, rfl, _, rfl, ?_⟩
  intro x dx2 nx nd nxd
  refine ⟨x, dx2, a, k, rfl, upd_same, hk, fun H1 gl kd dx3 e1 lt ekn nkd0 kp => ⟨rfl, ?_⟩⟩
  have s1 : Same H H1 := Same.made nx nd kp
  have nkd : H kd = none := (upd_none (upd_none nkd0).2).2
  have wa1 := wa.same s1
  have ga : GAt A H1 x a m r d gl kd w k := ⟨⟨dx3, e1⟩, wa1, lt⟩
  refine ⟨_, rfl, rfl, _, rfl, ?_⟩
  show if decide (V.int (g : Int) = V.int ((1 : Nat) : Int)) = true then _ else _
  rw [dec_int2]
  by_cases g1 : g = 1
  · subst g1
    rw [decide_eq_true rfl]
    refine iteT ?_
    refine ⟨_, rfl, x, dx3, _, rfl, e1, gF_good, _, rfl, a, _, dx, _, _, rfl, s1 _ _ ob, T.c_Work, T.na_W_doers, wF_doers, d, _, rfl, .inl ⟨SqL.of (s1 _ _ dr), fun t ht => ?_⟩⟩
    refine ⟨Nat.zero_le _, fun e he => ?_⟩
    have st := same_new (o := .tup (nI w.done)) ht
    have se := same_new (o := .tup []) he
    have s2 := st.trans se
    have s02 := s1.trans s2
    refine ⟨x, a, m, r, d, gl, kd, t, e, w, k, w.done, [], [], rfl, ⟨ga.pln (same_pln s2), wf, hk, se _ _ upd_same, upd_same, PathOk.start w, upTo_nil k, s2 _ _ ekn, KnOk.nil _ _ _⟩, hrr, fun H3 xs3 s3 e3 k3 => ?_⟩
    have s03 : Same H H3 := fun b o eb => s3 _ _ (ne_new eb nkd) (s02 _ _ eb)
    have := fin H3 s03
    have e5 : eaVal w 1 k = goodAt w k w.done [] := leaving_all hk wf.in6
    rw [e5] at this
    exact this
  · rw [decide_eq_false g1]
    refine iteF ?_
    refine ⟨_, rfl, x, dx3, _, rfl, e1, gF_turn, _, rfl, a, _, dx, _, _, rfl, s1 _ _ ob, T.c_Work, T.na_W_doers, wF_doers, d, _, rfl, .inl ⟨SqL.of (s1 _ _ dr), fun t ht => ?_⟩⟩
    have st := same_new (o := .tup (nI w.done)) ht
    refine ⟨x, a, m, r, d, gl, kd, t, w, k, w.done, rfl, ga.pln (same_pln st), wf, upd_same, hrr, wf.dp, fun H3 s3 => ?_⟩
    have := fin H3 ((s1.trans st).trans s3)
    have e5 : eaVal w g k = turnAt w k w.done := by
      obtain ⟨n, rfl⟩ : ∃ n, g = n + 2 := ⟨g - 2, by omega⟩
      rfl
    rw [e5] at this
    exact this
def spAw (A : Ads) : Sp := fun vs H Q E => ∃ (a m r d : Addr) (w : Wk) (g k : Nat), vs = [.ref a, .int (g : Int), .int (k : Int)] ∧ WAt A H a m r d w ∧ WF w ∧ Fin A H a m r d w (.away g k) Q E
theorem ok_away (T : Txt K mg A) : FnOk P W K mg base (L2.CX P W) 20 A.f_away A.d_away ["work", "kind", "most"] (spAw A) := by
  refine T.h_away.F.okX sc_away (fun vs H Q E h => ?_) (fun cdv A' outer s H vs Q E hr h => ⟨_,
    pss_cons (ps_expr (pe_call (ok_rfs T) (hr.mono (by decide)) rfl T.h_rfs.g T.h_rfs.F.kp T.h_rfs.b .nil (passX (takes_of rfl rfl rfl rfl)) (by exact (pa_cons (pe_or (pe_cmpR op_gt (pv 1) pe_int (nomark _)) (pe_one (pe_cmpR op_gt (pv 2) pe_int (nomark _)))) (pa_cons (pe_un un_neg pe_int) pa_nil)))))
    (pss_cons (ps_if (pt_val (by exact (pe_call (ok_ea T) hr rfl T.h_ea.g T.h_ea.F.kp T.h_ea.b .nil pass0 (pa_cons (pv 0) (pa_cons (pv 1) (pa_cons (pv 2) pa_nil)))))) (pss_one (ps_ret (by exact (pe_lst (pa_cons pe_int pa_nil))))) pss_nil)
    (pss_one (ps_ret (by exact (pe_lst (pa_cons pe_int pa_nil)))))), ?_⟩)
  · obtain ⟨a, m, r, d, w, g, k, rfl, _⟩ := h
    rfl
  · obtain ⟨a, m, r, d, w, g, k, rfl, wa, wf, fin⟩ := h
    have e0 : Wm05.step w (.away g k) = (w, if 2 < g ∨ 2 < k then [-1] else Wm05.ints [if eaVal w g k = true then 1 else 0]) := rfl
    have bad : 2 < g ∨ 2 < k → Rfs A H (-1) E := fun c => fin.2 (-1) (by rw [e0, if_pos c])
    refine ⟨_, rfl, _, _, rfl, rfl, _, rfl, ?_⟩
    by_cases c1 : 2 < g
    · rw [decide_eq_true (by omega)]
      exact iteT ⟨_, rfl, _, _, rfl, fun _ => bad (.inl c1), no_z⟩
    rw [decide_eq_false (by omega)]
    refine iteF ⟨_, rfl, _, _, rfl, rfl, _, rfl, _, _, rfl, fun c => bad (.inr (by have := of_decide_eq_true c; omega)), fun c => ?_⟩
    have c2 : ¬ 2 < k := by have := of_decide_eq_false c; omega
    rw [if_neg (by omega)] at e0
    refine ⟨_, rfl, _, rfl, _, rfl, a, m, r, d, w, g, k, rfl, wa, wf, by omega, by omega, fun H1 s1 => ?_⟩
    refine ⟨_, rfl, ?_⟩
    cases ev : eaVal w g k with
    | true =>
      rw [ev] at e0
      refine iteT ⟨(by show 1 ≤ sizeLine; rw [sizeLine_eq]; decide), fun q hq => ?_⟩
      exact fin.ask wa e0 (same_upd s1 (s1.free hq)) (s1.free hq) upd_same
    | false =>
      rw [ev] at e0
      refine iteF ⟨(by show 1 ≤ sizeLine; rw [sizeLine_eq]; decide), fun q hq => ?_⟩
      exact fin.ask wa e0 (same_upd s1 (s1.free hq)) (s1.free hq) upd_same
end
end Sf

/-! SfD10: changing, asking. -/
namespace Sf
open PySem PySem.Spec PyProof.Rows L2
theorem breaks_six {w : Wk} (wf : WF w) : (Wm05.breaks w).length ≤ 6 := by
  rw [breaks_eq wf.in6]
  cases e : ((List.range 7).flatMap grps).find? fun c => (pls w c).isEmpty with
  | none => exact Nat.le_refl 6
  | some g =>
    have hg := List.mem_of_find?_eq_some e
    obtain ⟨i, hi, hgi⟩ := List.mem_flatMap.mp hg
    have := (grps_in6 i g hgi).2
    have := List.mem_range.mp hi
    show g.length ≤ 6
    omega
section
variable {P : Program} {W : World} {K : PySem.W.Frag} {mg : Str → Option Value} {base : Heap} {A : Ads}
/-- a call given out: b: those that change nothing -/
def spDo (A : Ads) (b : Bool) : Sp := fun vs H Q E => ∃ (a m r d pn pr : Addr) (w : Wk) (c : Wm05.Call), vs = [.ref a, .int (eNum c : Int), .ref pn, .ref pr] ∧ WAt A H a m r d w ∧ WF w ∧ H pn = some (.lst (nI (eNums c))) ∧ H pr = some (.lst (nI (eRow c))) ∧ asks c = b ∧ Fin A H a m r d w c Q E
theorem ok_ask (T : Txt K mg A) : FnOk P W K mg base (L2.CX P W) 21 A.f_ask A.d_ask ["work", "number", "numbers", "row"] (spDo A true) := by
  refine T.h_ask.F.okX sc_ask (fun vs H Q E h => ?_) (fun cdv A' outer s H vs Q E hr h => ⟨_,
    pss_cons (ps_if (pt_cmpR op_eq (pv 1) pe_int (nomark _)) (pss_one (ps_ret (pe_call (ok_fplan T) (hr.mono (by decide)) rfl T.h_fplan.g T.h_fplan.F.kp T.h_fplan.b .nil (passX (takes_of rfl rfl rfl rfl)) (by exact (pa_cons (pv 0) (pa_cons (pv 3) pa_nil)))))) pss_nil)
    (pss_cons (ps_if (pt_cmpR op_eq (pv 1) pe_int (nomark _)) (pss_one (ps_ret (by exact (pe_lst (pa_cons (pe_callB call_len_seq (by rfl) T.n_len boot_len (pa_cons (pe_meth (pv 0) T.c_Work T.h_wPl.m (ok_wPl T) (hr.mono (by decide)) T.h_wPl.b .nil pass0 (pa_cons (pe_tup pa_nil) pa_nil)) pa_nil)) pa_nil))))) pss_nil)
    (pss_cons (ps_if (pt_cmpR op_eq (pv 1) pe_int (nomark _)) (pss_one (ps_ret (pe_call (ok_who T) (hr.mono (by decide)) rfl T.h_who.g T.h_who.F.kp T.h_who.b .nil (passX (takes_of rfl rfl rfl rfl)) (by exact (pa_cons (pv 0) pa_nil))))) pss_nil)
    (pss_cons (ps_if (pt_cmpR op_eq (pv 1) pe_int (nomark _)) (pss_one (ps_ret (by exact (pe_call (ok_listed T) (hr.mono (by decide)) rfl T.h_listed.g T.h_listed.F.kp T.h_listed.b .nil pass0 (pa_cons (pe_meth0 (pv 0) T.c_Work T.h_wBrk.m (ok_wBrk T) (hr.mono (by decide)) T.h_wBrk.b .nil pass0) pa_nil))))) pss_nil)
    (pss_cons (ps_if (pt_cmpR op_eq (pv 1) pe_int (nomark _)) (pss_one (ps_ret (pe_call (ok_away T) hr rfl T.h_away.g T.h_away.F.kp T.h_away.b .nil (passX (takes_of rfl rfl rfl rfl)) (by exact (pa_cons (pv 0) (pa_cons (pe_ix ix_list (pv 2) pe_int (fun _ _ => rfl)) (pa_cons (pe_ix ix_list (pv 2) pe_int (fun _ _ => rfl)) pa_nil))))))) pss_nil)
    (pss_one (ps_ret (pe_call (ok_needed T) (hr.mono (by decide)) rfl T.h_needed.g T.h_needed.F.kp T.h_needed.b .nil (passX (takes_of rfl rfl rfl rfl)) (by exact (pa_cons (pv 0) pa_nil))))))))), ?_⟩)
  · obtain ⟨a, m, r, d, pn, pr, w, c, rfl, _⟩ := h
    rfl
  · obtain ⟨a, m, r, d, pn, pr, w, c, rfl, wa, wf, hn, hr', hb, fin⟩ := h
    obtain ⟨dx, ob⟩ := wa.ob
    refine ⟨_, rfl, rfl, _, rfl, ?_⟩
    cases c with
    | plan l => exact iteT ⟨_, rfl, _, rfl, a, m, r, d, pr, w, l, rfl, wa, wf, hr', fin⟩
    | plans =>
      refine iteF ⟨_, rfl, rfl, _, rfl, iteT ?_⟩
      refine ⟨_, rfl, a, dx, _, rfl, ob, wF_plans, Nat.zero_le _, fun e he => ?_⟩
      have se := same_new (o := .tup []) he
      refine ⟨a, m, r, d, e, w, [], rfl, wa.same se, wf, .inr (SqT.of upd_same), fun H1 pp s1 np lt => ?_⟩
      have s01 := se.trans s1
      obtain ⟨ps, lo, tp⟩ := lt
      refine ⟨pp, _, rfl, .inl (SqL.of lo), (by show 1 ≤ sizeLine; rw [sizeLine_eq]; decide), fun q hq => ?_⟩
      have e0 : Wm05.step w .plans = (w, Wm05.ints [(Wm05.plans w Wm05.people).length]) := rfl
      refine fin.ask wa e0 (same_upd s01 (s01.free hq)) (s01.free hq) ?_
      rw [upd_same, plans_all wf.in6, List.length_map, Paired.length tp]
      rfl
    | who => exact iteF ⟨_, rfl, rfl, _, rfl, iteF ⟨_, rfl, rfl, _, rfl, iteT ⟨_, rfl, a, m, r, d, w, rfl, wa, wf, fin⟩⟩⟩
    | breaks =>
      refine iteF ⟨_, rfl, rfl, _, rfl, iteF ⟨_, rfl, rfl, _, rfl, iteF ⟨_, rfl, rfl, _, rfl, iteT ?_⟩⟩⟩
      refine ⟨_, rfl, a, dx, _, rfl, ob, wF_brk, a, m, r, d, w, rfl, wa, wf, fun H1 p s1 tp => ?_⟩
      have six := breaks_six wf
      refine ⟨p, Wm05.breaks w, rfl, .inr tp, by omega, fun H2 q s2 nq eq => ?_⟩
      have e0 : Wm05.step w .breaks = (w, Wm05.told (Wm05.breaks w)) := rfl
      refine fin.ask wa e0 (s1.trans s2) (s1.free nq) ?_
      show H2 q = some (.lst ((Wm05.ints ((Wm05.breaks w).length :: Wm05.breaks w)).map V.int))
      rw [ints_nI]
      exact eq
    | away g k =>
      refine iteF ⟨_, rfl, rfl, _, rfl, iteF ⟨_, rfl, rfl, _, rfl, iteF ⟨_, rfl, rfl, _, rfl, iteF ⟨_, rfl, rfl, _, rfl, iteT ?_⟩⟩⟩⟩
      have hn' : H pn = some (.lst (nI [g, k])) := hn
      exact ⟨_, rfl, _, rfl, pn, _, _, _, rfl, rfl, SqL.of hn', atI_nat (j := 0) rfl, _, rfl, pn, _, _, _, rfl, rfl, SqL.of hn', atI_nat (j := 1) rfl, a, m, r, d, w, g, k, rfl, wa, wf, fin⟩
    | needed => exact iteF ⟨_, rfl, rfl, _, rfl, iteF ⟨_, rfl, rfl, _, rfl, iteF ⟨_, rfl, rfl, _, rfl, iteF ⟨_, rfl, rfl, _, rfl, iteF ⟨_, rfl, a, m, r, d, w, rfl, wa, wf, fin⟩⟩⟩⟩⟩
    | step l => cases hb
    | allow i l => cases hb
    | same i j => cases hb
    | apart i j => cases hb
    | least k l => cases hb
    | most k l => cases hb
    | strike n => cases hb
    | did p => cases hb
    | undo => cases hb
theorem ok_chg (T : Txt K mg A) : FnOk P W K mg base (L2.CX P W) 6 A.f_chg A.d_chg ["work", "number", "numbers", "row"] (spDo A false) := by
  refine T.h_chg.F.okX sc_chg (fun vs H Q E h => ?_) (fun cdv A' outer s H vs Q E hr h => ⟨_,
    pss_cons (ps_if (pt_cmpR op_eq (pv 1) pe_int (nomark _)) (pss_one (ps_ret (pe_call (ok_addS T) (hr.mono (by decide)) rfl T.h_addS.g T.h_addS.F.kp T.h_addS.b .nil (passX (takes_of rfl rfl rfl rfl)) (by exact (pa_cons (pv 0) (pa_cons (pv 3) pa_nil)))))) pss_nil)
    (pss_cons (ps_if (pt_cmpR op_eq (pv 1) pe_int (nomark _)) (pss_one (ps_ret (pe_call (ok_allow T) (hr.mono (by decide)) rfl T.h_allow.g T.h_allow.F.kp T.h_allow.b .nil (passX (takes_of rfl rfl rfl rfl)) (by exact (pa_cons (pv 0) (pa_cons (pe_ix ix_list (pv 2) pe_int (fun _ _ => rfl)) (pa_cons (pv 3) pa_nil))))))) pss_nil)
    (pss_cons (ps_if (pt_cmpR op_eq (pv 1) pe_int (nomark _)) (pss_one (ps_ret (pe_call (ok_two T) hr rfl T.h_two.g T.h_two.F.kp T.h_two.b .nil (passX (takes_of rfl rfl rfl rfl)) (by exact (pa_cons (pv 0) (pa_cons (pe_glob (v := .int 0) rfl T.g_SAME ⟨_, rfl⟩) (pa_cons (pe_ix ix_list (pv 2) pe_int (fun _ _ => rfl)) (pa_cons (pe_ix ix_list (pv 2) pe_int (fun _ _ => rfl)) pa_nil)))))))) pss_nil)
    (pss_cons (ps_if (pt_cmpR op_eq (pv 1) pe_int (nomark _)) (pss_one (ps_ret (pe_call (ok_two T) hr rfl T.h_two.g T.h_two.F.kp T.h_two.b .nil (passX (takes_of rfl rfl rfl rfl)) (by exact (pa_cons (pv 0) (pa_cons (pe_glob (v := .int 1) rfl T.g_APART ⟨_, rfl⟩) (pa_cons (pe_ix ix_list (pv 2) pe_int (fun _ _ => rfl)) (pa_cons (pe_ix ix_list (pv 2) pe_int (fun _ _ => rfl)) pa_nil)))))))) pss_nil)
    (pss_cons (ps_if (pt_cmpR op_eq (pv 1) pe_int (nomark _)) (pss_one (ps_ret (pe_call (ok_some T) hr rfl T.h_some_.g T.h_some_.F.kp T.h_some_.b .nil (passX (takes_of rfl rfl rfl rfl)) (by exact (pa_cons (pv 0) (pa_cons (pe_glob (v := .int 2) rfl T.g_LEAST ⟨_, rfl⟩) (pa_cons (pe_ix ix_list (pv 2) pe_int (fun _ _ => rfl)) (pa_cons (pv 3) pa_nil)))))))) pss_nil)
    (pss_cons (ps_if (pt_cmpR op_eq (pv 1) pe_int (nomark _)) (pss_one (ps_ret (pe_call (ok_some T) hr rfl T.h_some_.g T.h_some_.F.kp T.h_some_.b .nil (passX (takes_of rfl rfl rfl rfl)) (by exact (pa_cons (pv 0) (pa_cons (pe_glob (v := .int 3) rfl T.g_MOST ⟨_, rfl⟩) (pa_cons (pe_ix ix_list (pv 2) pe_int (fun _ _ => rfl)) (pa_cons (pv 3) pa_nil)))))))) pss_nil)
    (pss_cons (ps_if (pt_cmpR op_eq (pv 1) pe_int (nomark _)) (pss_one (ps_ret (pe_call (ok_strike T) (hr.mono (by decide)) rfl T.h_strike.g T.h_strike.F.kp T.h_strike.b .nil (passX (takes_of rfl rfl rfl rfl)) (by exact (pa_cons (pv 0) (pa_cons (pe_ix ix_list (pv 2) pe_int (fun _ _ => rfl)) pa_nil)))))) pss_nil)
    (pss_cons (ps_if (pt_cmpR op_eq (pv 1) pe_int (nomark _)) (pss_one (ps_ret (pe_call (ok_did T) hr rfl T.h_did.g T.h_did.F.kp T.h_did.b .nil (passX (takes_of rfl rfl rfl rfl)) (by exact (pa_cons (pv 0) (pa_cons (pe_ix ix_list (pv 2) pe_int (fun _ _ => rfl)) pa_nil)))))) pss_nil)
    (pss_one (ps_ret (pe_call (ok_undo T) (hr.mono (by decide)) rfl T.h_undo.g T.h_undo.F.kp T.h_undo.b .nil (passX (takes_of rfl rfl rfl rfl)) (by exact (pa_cons (pv 0) pa_nil)))))))))))), ?_⟩)
  · obtain ⟨a, m, r, d, pn, pr, w, c, rfl, _⟩ := h
    rfl
  · obtain ⟨a, m, r, d, pn, pr, w, c, rfl, wa, wf, hn, hr', hb, fin⟩ := h
    refine ⟨_, rfl, rfl, _, rfl, ?_⟩
    cases c with
    | plan l => cases hb
    | plans => cases hb
    | who => cases hb
    | breaks => cases hb
    | away g k => cases hb
    | needed => cases hb
    | step l => exact iteT ⟨_, rfl, _, rfl, a, m, r, d, pr, w, l, rfl, wa, wf, hr', fin⟩
    | allow i l =>
      have hn' : H pn = some (.lst (nI [i])) := hn
      exact iteF ⟨_, rfl, rfl, _, rfl, iteT ⟨_, rfl, _, rfl, pn, _, _, _, rfl, rfl, SqL.of hn', atI_nat (j := 0) rfl, _, rfl, a, m, r, d, pr, w, i, l, rfl, wa, wf, hr', fin⟩⟩
    | same i j =>
      have hn' : H pn = some (.lst (nI [i, j])) := hn
      exact iteF ⟨_, rfl, rfl, _, rfl, iteF ⟨_, rfl, rfl, _, rfl, iteT ⟨_, rfl, _, rfl, pn, _, _, _, rfl, rfl, SqL.of hn', atI_nat (j := 0) rfl, _, rfl, pn, _, _, _, rfl, rfl, SqL.of hn', atI_nat (j := 1) rfl,
        a, m, r, d, w, 0, i, j, .same i j, .same i j, rfl, wa, wf, rfl, rfl, rfl, rfl, fin⟩⟩⟩
    | apart i j =>
      have hn' : H pn = some (.lst (nI [i, j])) := hn
      exact iteF ⟨_, rfl, rfl, _, rfl, iteF ⟨_, rfl, rfl, _, rfl, iteF ⟨_, rfl, rfl, _, rfl, iteT ⟨_, rfl, _, rfl, pn, _, _, _, rfl, rfl, SqL.of hn', atI_nat (j := 0) rfl, _, rfl, pn, _, _, _, rfl, rfl, SqL.of hn', atI_nat (j := 1) rfl,
        a, m, r, d, w, 1, i, j, .apart i j, .apart i j, rfl, wa, wf, rfl, rfl, rfl, rfl, fin⟩⟩⟩⟩
    | least k l =>
      have hn' : H pn = some (.lst (nI [k])) := hn
      exact iteF ⟨_, rfl, rfl, _, rfl, iteF ⟨_, rfl, rfl, _, rfl, iteF ⟨_, rfl, rfl, _, rfl, iteF ⟨_, rfl, rfl, _, rfl, iteT ⟨_, rfl, _, rfl, pn, _, _, _, rfl, rfl, SqL.of hn', atI_nat (j := 0) rfl, _, rfl,
        a, m, r, d, pr, w, 2, k, l, .least k l, .least k l, rfl, wa, wf, hr', rfl, rfl, rfl, rfl, fin⟩⟩⟩⟩⟩
    | most k l =>
      have hn' : H pn = some (.lst (nI [k])) := hn
      exact iteF ⟨_, rfl, rfl, _, rfl, iteF ⟨_, rfl, rfl, _, rfl, iteF ⟨_, rfl, rfl, _, rfl, iteF ⟨_, rfl, rfl, _, rfl, iteF ⟨_, rfl, rfl, _, rfl, iteT ⟨_, rfl, _, rfl, pn, _, _, _, rfl, rfl, SqL.of hn', atI_nat (j := 0) rfl, _, rfl,
        a, m, r, d, pr, w, 3, k, l, .most k l, .most k l, rfl, wa, wf, hr', rfl, rfl, rfl, rfl, fin⟩⟩⟩⟩⟩⟩
    | strike n =>
      have hn' : H pn = some (.lst (nI [n])) := hn
      exact iteF ⟨_, rfl, rfl, _, rfl, iteF ⟨_, rfl, rfl, _, rfl, iteF ⟨_, rfl, rfl, _, rfl, iteF ⟨_, rfl, rfl, _, rfl, iteF ⟨_, rfl, rfl, _, rfl, iteF ⟨_, rfl, rfl, _, rfl, iteT ⟨_, rfl, _, rfl, pn, _, _, _, rfl, rfl, SqL.of hn', atI_nat (j := 0) rfl,
        a, m, r, d, w, n, rfl, wa, wf, fin⟩⟩⟩⟩⟩⟩⟩
    | did p =>
      have hn' : H pn = some (.lst (nI [p])) := hn
      exact iteF ⟨_, rfl, rfl, _, rfl, iteF ⟨_, rfl, rfl, _, rfl, iteF ⟨_, rfl, rfl, _, rfl, iteF ⟨_, rfl, rfl, _, rfl, iteF ⟨_, rfl, rfl, _, rfl, iteF ⟨_, rfl, rfl, _, rfl, iteF ⟨_, rfl, rfl, _, rfl, iteT ⟨_, rfl, _, rfl, pn, _, _, _, rfl, rfl, SqL.of hn', atI_nat (j := 0) rfl,
        a, m, r, d, w, p, rfl, wa, wf, fin⟩⟩⟩⟩⟩⟩⟩⟩
    | undo =>
      exact iteF ⟨_, rfl, rfl, _, rfl, iteF ⟨_, rfl, rfl, _, rfl, iteF ⟨_, rfl, rfl, _, rfl, iteF ⟨_, rfl, rfl, _, rfl, iteF ⟨_, rfl, rfl, _, rfl, iteF ⟨_, rfl, rfl, _, rfl, iteF ⟨_, rfl, rfl, _, rfl, iteF ⟨_, rfl,
        a, m, r, d, w, rfl, wa, wf, fin⟩⟩⟩⟩⟩⟩⟩⟩
end
end Sf

/-! SfD11: read_call, answers. -/
namespace Sf
open PySem PySem.Spec PyProof.Rows L2
theorem cut_map (cs : List Int) (i c : Nat) : cutV (cs.map V.int) (some (i : Int)) (some ((i + c : Nat) : Int)) = ((cs.drop i).take c).map V.int := by
  unfold cutV
  rw [HT.sIx_nat, HT.sIx_nat, List.length_map, List.map_take, List.map_drop]
  by_cases h : i ≤ cs.length
  · rw [Nat.min_eq_left h]
    by_cases h2 : i + c ≤ cs.length
    · rw [Nat.min_eq_left h2, Nat.add_sub_cancel_left]
    · rw [Nat.min_eq_right (by omega), List.take_of_length_le (by rw [List.length_drop, List.length_map]; omega), List.take_of_length_le (by rw [List.length_drop, List.length_map]; omega)]
  · rw [Nat.min_eq_right (by omega), List.drop_of_length_le (by rw [List.length_map]; omega), List.drop_of_length_le (by rw [List.length_map]; omega)]
    simp
theorem int_at {cs : List Int} {i : Nat} {z : Int} (h : cs[i]? = some z) : (cs.map V.int)[i]? = some (.int z) := by
  rw [List.getElem?_map, h]
  rfl
section
variable {P : Program} {W : World} {K : PySem.W.Frag} {mg : Str → Option Value} {base : Heap} {A : Ads}
def spRC (K : PySem.W.Frag) : Sp := fun vs H Q _ => ∃ (pc : Addr) (cs : List Int) (i q n k : Nat) (row : List Int) (to : Nat), vs = [.ref pc, .int (i : Int)] ∧ SqL K H pc (cs.map V.int) ∧ Cut cs i q n k row to ∧
  ∀ H' t pn pr, Same H H' → H' t = some (.tup [.int (q : Int), .ref pn, .ref pr, .int (to : Int)]) → H' pn = some (.lst (((cs.drop (i + 1)).take n).map V.int)) → H' pr = some (.lst (row.map V.int)) → Q (.ref t) H'
theorem ok_read (T : Txt K mg A) : FnOk P W K mg base CX0 1 A.f_read A.d_read ["calls", "at"] (spRC K) := by
  refine T.h_read.F.ok sc_read (fun vs H Q E h => ?_) (fun cdv A' outer s H vs Q E hr h => ⟨_,
    pss_cons (ps_set (i := 2) sc_read.nd rfl (Or.inl rfl) (pe_ix ix_list (pv 0) (pv 1) (fun _ _ => rfl)))
    (pss_cons (ps_asg (pe_ix ix_tup (pe_glob (v := .ref A.aF) rfl T.gF rfl) (pv 2) (fun _ _ => rfl)) (pg_tup rfl (pgs_cons (pg_name (i := 3) sc_read.nd rfl (Or.inl rfl)) (pgs_cons (pg_name (i := 4) sc_read.nd rfl (Or.inl rfl)) pgs_nil))))
    (pss_cons (ps_set (i := 5) sc_read.nd rfl (Or.inl rfl) (pe_slice sl_list (pv 0) (po_some (pe_op op_add (pv 1) pe_int)) (po_some (pe_op op_add (pe_op op_add (pv 1) pe_int) (pv 3)))))
    (pss_cons (ps_set (i := 1) sc_read.nd rfl (Or.inl rfl) (pe_op op_add (pe_op op_add (pv 1) pe_int) (pv 3)))
    (pss_cons (ps_set (i := 6) sc_read.nd rfl (Or.inl rfl) (pe_lst pa_nil))
    (pss_cons (ps_if (pt_cmpR op_gt (pv 4) pe_int (nomark _))
      (pss_cons (ps_set (i := 7) sc_read.nd rfl (Or.inl rfl) (pe_ix ix_list (pv 0) (pv 1) (fun _ _ => rfl)))
      (pss_cons (ps_set (i := 6) sc_read.nd rfl (Or.inl rfl) (pe_slice sl_list (pv 0) (po_some (pe_op op_add (pv 1) pe_int)) (po_some (pe_op op_add (pe_op op_add (pv 1) pe_int) (pv 7)))))
      (pss_one (ps_set (i := 1) sc_read.nd rfl (Or.inl rfl) (pe_op op_add (pe_op op_add (pv 1) pe_int) (pv 7)))))) pss_nil)
    (pss_one (ps_ret (pe_tup (pa_cons (pv 2) (pa_cons (pv 5) (pa_cons (pv 6) (pa_cons (pv 1) pa_nil)))))))))))), ?_⟩)
  · obtain ⟨pc, cs, i, q, n, k, row, to, rfl, _⟩ := h
    rfl
  · obtain ⟨pc, cs, i, q, n, k, row, to, rfl, hl, cut, fin⟩ := h
    obtain ⟨qs, tF, tq⟩ := T.tF
    obtain ⟨qa, hqa, tqa⟩ := tq q n k cut.form
    refine ⟨_, rfl, _, rfl, pc, _, _, _, rfl, rfl, hl, atI_nat (int_at cut.num), ?_⟩
    refine ⟨_, rfl, A.aF, _, _, _, rfl, rfl, tF H, atI_nat (at_refs hqa), qa, _, rfl, tqa H, rfl, _, _, rfl, _, _, rfl, rfl, ?_⟩
    have e1 : ((i : Int) + 1) = ((i + 1 : Nat) : Int) := by omega
    have e2 : (((i + 1 : Nat) : Int) + (n : Int)) = ((i + 1 + n : Nat) : Int) := by omega
    refine ⟨_, rfl, _, rfl, _, _, rfl, rfl, _, rfl, _, rfl, _, _, rfl, rfl, _, rfl, _, _, rfl, rfl, _, rfl, pc, _, rfl, hl, fun pn hpn => ?_⟩
    rw [e1, e2, cut_map]
    have s1 := same_new (o := .lst (((cs.drop (i + 1)).take n).map V.int)) hpn
    refine ⟨_, rfl, _, _, rfl, rfl, _, rfl, _, _, rfl, rfl, ?_⟩
    show gName 1 (V.int ((i : Int) + 1 + (n : Int))) _ _ _
    rw [e1, e2]
    refine ⟨Nat.zero_le _, fun pr hpr => ?_⟩
    have s2 := s1.trans (same_new (o := .lst []) hpr)
    refine ⟨_, rfl, _, _, rfl, rfl, _, rfl, ?_⟩
    have epn : upd (upd H pn (.lst (((cs.drop (i + 1)).take n).map V.int))) pr (.lst []) pn = some (.lst (((cs.drop (i + 1)).take n).map V.int)) := (upd_ne (fun z => (upd_none hpr).1 z.symm)).trans upd_same
    rcases cut.rows with ⟨k0, er, et⟩ | ⟨k1, sz, hs, er, et⟩
    · subst k0 er et
      refine iteF ?_
      refine ⟨_, rfl, _, rfl, _, rfl, _, rfl, (by show 4 ≤ sizeLine; rw [sizeLine_eq]; decide), fun t ht => ?_⟩
      exact fin _ t pn pr (s2.trans (same_new ht)) upd_same ((upd_ne (ne_new epn ht)).trans epn) ((upd_ne (fun z => (upd_none ht).1 z.symm)).trans upd_same)
    · subst k1 er et
      refine iteT ?_
      have hl2 := s2.seq hl
      have e3 : (((i + 1 + n : Nat) : Int) + 1) = ((i + 1 + n + 1 : Nat) : Int) := by omega
      have e4 : (((i + 1 + n + 1 : Nat) : Int) + (sz : Int)) = ((i + 1 + n + 1 + sz : Nat) : Int) := by omega
      refine ⟨_, rfl, _, rfl, pc, _, _, _, rfl, rfl, hl2, atI_nat (int_at hs), ?_⟩
      refine ⟨_, rfl, _, rfl, _, _, rfl, rfl, _, rfl, _, rfl, _, _, rfl, rfl, _, rfl, _, _, rfl, rfl, _, rfl, pc, _, rfl, hl2, fun p2 hp2 => ?_⟩
      rw [e3, e4, cut_map]
      have s3 := s2.trans (same_new (o := .lst (((cs.drop (i + 1 + n + 1)).take sz).map V.int)) hp2)
      refine ⟨_, rfl, _, _, rfl, rfl, _, rfl, _, _, rfl, rfl, ?_⟩
      show gName 1 (V.int (((i + 1 + n : Nat) : Int) + 1 + (sz : Int))) _ _ _
      rw [e3, e4]
      refine ⟨_, rfl, _, rfl, _, rfl, _, rfl, (by show 4 ≤ sizeLine; rw [sizeLine_eq]; decide), fun t ht => ?_⟩
      have epn2 := (upd_ne (o := .lst (((cs.drop (i + 1 + n + 1)).take sz).map V.int)) (ne_new epn hp2)).trans epn
      exact fin _ t pn p2 (s3.trans (same_new ht)) upd_same ((upd_ne (ne_new epn2 ht)).trans epn2) ((upd_ne (fun z => (upd_none ht).1 z.symm)).trans upd_same)
/-- answers -/
def spAns (K : PySem.W.Frag) : Sp := fun vs H Q _ => ∃ (pc : Addr) (cs : List Int), vs = [.ref pc] ∧ SqL K H pc (cs.map V.int) ∧ PyWm05.answers_asked cs = true ∧
  ∀ H' p, H' p = some (.lst ((PyWm05.answers cs).map V.int)) → Q (.ref p) H'
def tTry (K : PySem.W.Frag) (A : Ads) (W : WX) : TS := tIfS (tTest (tOp (rIn K false) (tVar 4) (tTup (tCons (tC (.int 7)) (tCons (tC (.int 8)) (tCons (tC (.int 9)) (tCons (tC (.int 12)) (tCons (tC (.int 13)) (tCons (tC (.int 14)) tNil)))))))))
  (tAsg (tCallS (spDo A true) (WE W) (tCons (tVar 1) (tCons (tVar 4) (tCons (tVar 5) (tCons (tVar 6) tNil))))) (gName 7))
  (tAsg (tCallS (spDo A false) (WE W) (tCons (tVar 1) (tCons (tVar 4) (tCons (tVar 5) (tCons (tVar 6) tNil))))) (gName 7))
def tSuite (A : Ads) : Addr → Value → Option Addr → TS := fun a cls d => tAsg (tLst (tCons (tXf a cls d A.cX "number" (tVar 8)) tNil)) (gName 7)
theorem asks_in (c : Wm05.Call) : inV (.int (eNum c : Int)) [V.int 7, V.int 8, V.int 9, V.int 12, V.int 13, V.int 14] = asks c := by
  cases c <;> rfl
theorem ok_ans (T : Txt K mg A) : FnOk P W K mg base CX0 23 A.f_ans A.d_ans ["calls"] (spAns K) := by
  refine T.h_ans.F.ok sc_ans (fun vs H Q E h => ?_) (fun cdv A' outer s H vs Q E hr h => ⟨_,
    pss_cons (ps_set (i := 1) sc_ans.nd rfl (Or.inl rfl) (pe_make0 T.h_wInit.m (ok_wInit T) (hr.mono (by decide)) rfl T.gc_Work T.h_wInit.b .nil pass0))
    (pss_cons (ps_set (i := 2) sc_ans.nd rfl (Or.inl rfl) (pe_lst pa_nil))
    (pss_cons (ps_set (i := 3) sc_ans.nd rfl (Or.inl rfl) pe_int)
    (pss_cons (ps_while PassesOwn.never (pt_cmpR op_lt (pv 3) (pe_callB call_len_seq (by rfl) T.n_len boot_len (pa_cons (pv 0) pa_nil)) (nomark _))
      (pss_cons (ps_asg (pe_call (ok_read T) (hr.mono (by decide)) rfl T.h_read.g T.h_read.F.kp T.h_read.b .nil pass0 (pa_cons (pv 0) (pa_cons (pv 3) pa_nil))) (pg_tup rfl (pgs_cons (pg_name (i := 4) sc_ans.nd rfl (Or.inl rfl)) (pgs_cons (pg_name (i := 5) sc_ans.nd rfl (Or.inl rfl)) (pgs_cons (pg_name (i := 6) sc_ans.nd rfl (Or.inl rfl)) (pgs_cons (pg_name (i := 3) sc_ans.nd rfl (Or.inl rfl)) pgs_nil))))))
      (pss_cons (ps_try_as (i := 8) (tb := tTry K A) (ts := tSuite A) (Wout := fun _ _ _ _ => False) rfl rfl sc_ans.nd rfl rfl ⟨rfl, by decide, Or.inl T.gc_Refusal⟩ takes0
          (fun W pn xe tk _ => by exact (pss_one (ps_if (pt_cmpR op_in_seq (pv 4) (pe_tup (pa_cons pe_int (pa_cons pe_int (pa_cons pe_int (pa_cons pe_int (pa_cons pe_int (pa_cons pe_int pa_nil))))))) (by rfl))
            (pss_one (ps_set (i := 7) sc_ans.nd rfl (Or.inl rfl) (by exact (pe_callS (ok_ask T) (hr.mono (by decide)) rfl T.h_ask.g T.h_ask.F.kp T.h_ask.b (fun σ => passAt tk σ) (by exact (pa_cons (pv 1) (pa_cons (pv 4) (pa_cons (pv 5) (pa_cons (pv 6) pa_nil)))))))))
            (pss_one (ps_set (i := 7) sc_ans.nd rfl (Or.inl rfl) (by exact (pe_callS (ok_chg T) (hr.mono (by decide)) rfl T.h_chg.g T.h_chg.F.kp T.h_chg.b (fun σ => passAt tk σ) (by exact (pa_cons (pv 1) (pa_cons (pv 4) (pa_cons (pv 5) (pa_cons (pv 6) pa_nil)))))))))))
          )
          (fun a oe cls d pn hz hf => by exact (pss_one (ps_set (i := 7) sc_ans.nd rfl (Or.inl rfl) (pe_lst (pa_cons (pe_xf T.xF T.xN hz hf (pv 8)) pa_nil))))))
      (pss_cons (ps_expr (pe_bm PySem.F.plainAttrs_list PySem.F.slot_list_append PySem.F.type_list_append mt_append (pv 2) (pa_cons (pe_callB call_len_seq (by rfl) T.n_len boot_len (pa_cons (pv 7) pa_nil)) pa_nil)))
      (pss_one (ps_expr (pe_bm PySem.F.plainAttrs_list PySem.F.slot_list_extend PySem.F.type_list_extend mt_extend (pv 2) (pa_cons (pv 7) pa_nil))))))))
    (pss_one (ps_ret (pv 2)))))), ?_⟩)
  · obtain ⟨pc, cs, rfl, _⟩ := h
    rfl
  · obtain ⟨pc, cs, rfl, hl, hask, fin⟩ := h
    obtain ⟨raw, hraw, hbd, hten, hans⟩ := asked_raw hask
    -- work = Work()
    intro a dx na nd nad
    refine ⟨a, dx, rfl, upd_same, fun H1 m r d wa kp nm nr nd' => ⟨rfl, ?_⟩⟩
    have s1 : Same H H1 := Same.made na nd kp
    have fm : H m = none := (upd_none (upd_none nm).2).2
    have fr : H r = none := (upd_none (upd_none nr).2).2
    have fd : H d = none := (upd_none (upd_none nd').2).2
    -- out = []
    refine ⟨Nat.zero_le _, fun o ho => ?_⟩
    have fo := s1.free ho
    have so := same_new (o := .lst []) ho
    have offo := off_new wa ho
    have lo0 : LOk (upd H1 o (.lst [])) m r (fun p => p ≠ o) := by
      obtain ⟨_, _, _, _, _, ⟨ms, g1, g2⟩, ⟨rs, g3, g4⟩⟩ := id (wa.same so)
      cases g2
      cases g4
      exact ⟨fun ms2 e p hp => by rw [lst_inj e g1] at hp; exact (nomatch hp), fun rs2 e p hp => by rw [lst_inj e g3] at hp; exact (nomatch hp)⟩
    -- the loop: behind some calls, raw' are those still to come
    refine ⟨fun n σ H' => ∃ (i f : Nat) (raw' : List (List (List Int))) (w : Wk) (os : List Int) (v4 v5 v6 v7 : Option V), σ = [some (.ref pc), some (.ref a), some (.ref o), some (.int (i : Int)), v4, v5, v6, v7, none] ∧ n = raw'.length ∧
        Same H H' ∧ WAt A H' a m r d w ∧ LOk H' m r (fun p => p ≠ o) ∧ WF w ∧ H' o = some (.lst (os.map V.int)) ∧ PyFlat.calls PyWm05.shape f (cs.drop i) = some raw' ∧ (∀ c ∈ raw', PyInside.call PyWm05.bound c = true) ∧ os ++ restOf w raw' = PyWm05.answers cs,
      ⟨raw.length, 0, _, raw, Wm05.init, [], none, none, none, none, rfl, rfl, s1.trans so, wa.same so, lo0, WF.start, upd_same, hraw, hbd, by rw [hans]; rfl⟩, ?_⟩
    rintro n σ H2 ⟨i, f, raw', w, os, v4, v5, v6, v7, rfl, rfl, s2, wa2, lo2, wf, eo, hr', hb', hos⟩
    have hl2 := s2.seq hl
    refine ⟨_, rfl, _, rfl, pc, _, rfl, .inl hl2, _, _, rfl, rfl, _, rfl, ?_⟩
    rw [List.length_map]
    by_cases lt : ¬ i < cs.length
    · rw [decide_eq_false (by omega)]
      refine iteF ?_
      rw [List.drop_of_length_le (by omega)] at hr'
      have := calls_nil hr'
      subst this
      rw [restOf_nil, List.append_nil] at hos
      refine ⟨_, rfl, fin H2 o ?_⟩
      rw [eo, hos]
    rw [decide_eq_true (by omega)]
    refine iteT ?_
    obtain ⟨p, rr, ep⟩ : ∃ p rr, cs.drop i = p :: rr := by
      cases e : cs.drop i with
      | nil =>
        have := congrArg List.length e
        rw [List.length_drop] at this
        have : ([] : List Int).length = 0 := rfl
        omega
      | cons p rr => exact ⟨p, rr, rfl⟩
    rw [ep] at hr'
    obtain ⟨f', c, t, raw2, hc, hr2, e2⟩ := calls_cons hr'
    subst e2
    rw [← ep] at hc
    obtain ⟨q, nn, kk, row, to, cut, et, ec, en⟩ := call_cut hc
    obtain ⟨x, hx, eq, e3, e4⟩ := raw_call cut.form ec en (fun z => by
      rcases cut.rows with ⟨_, h, _⟩ | ⟨h, _⟩
      · exact h
      · omega) (hb' c List.mem_cons_self)
    subst eq
    rw [restOf_cons hx] at hos
    have wf2 := wf.step x
    let Nx : L2.St → Hp → Prop := fun σ' H' => ∃ (i f : Nat) (w : Wk) (os : List Int) (v4 v5 v6 v7 : Option V), σ' = [some (.ref pc), some (.ref a), some (.ref o), some (.int (i : Int)), v4, v5, v6, v7, none] ∧
        Same H H' ∧ WAt A H' a m r d w ∧ LOk H' m r (fun p => p ≠ o) ∧ WF w ∧ H' o = some (.lst (os.map V.int)) ∧ PyFlat.calls PyWm05.shape f (cs.drop i) = some raw2 ∧ os ++ restOf w raw2 = PyWm05.answers cs
    refine ⟨Nx, ?_, ?_⟩
    · rintro σ' H' ⟨i, f, w, os, v4, v5, v6, v7, rfl, g1, g2, g2', g3, g4, g5, g6⟩
      exact ⟨raw2.length, Nat.lt_succ_self _, i, f, raw2, w, os, v4, v5, v6, v7, rfl, rfl, g1, g2, g2', g3, g4, g5, fun c hc => hb' c (List.mem_cons_of_mem _ hc), g6⟩
    -- number, numbers, row, at = read_call(calls, at)
    refine ⟨_, rfl, _, rfl, pc, cs, i, eNum x, nn, kk, row, to, rfl, hl2, cut, fun H3 tt pn pr s3 ett epn epr => ?_⟩
    refine ⟨tt, _, rfl, SqT.of ett, rfl, _, _, rfl, _, _, rfl, _, _, rfl, _, _, rfl, rfl, ?_⟩
    rw [← e3, ← nI_zs] at epn
    rw [← e4, ← nI_zs] at epr
    have s23 := s2.trans s3
    have wa3 := wa2.same s3
    have eo3 := s3 _ _ eo
    -- what stands behind the try: found, at g, holds the answer
    have behind : ∀ (H' : Hp) (g : Addr) (w2 : Wk) (ans : List Int), Wm05.step w x = (w2, ans) → Same H H' → WAt A H' a m r d w2 → LOk H' m r (fun p => p ≠ o) → H' o = some (.lst (os.map V.int)) → H' g = some (.lst (ans.map V.int)) → g ≠ o →
        tSeq (tDrop (tBM K "list" rAppend (tVar 2) (tCons (tCB (rLen K) (tCons (tVar 7) tNil)) tNil))) (tDrop (tBM K "list" rExtend (tVar 2) (tCons (tVar 7) tNil)))
          { nx := Nx, rt := Q } [some (.ref pc), some (.ref a), some (.ref o), some (.int (to : Int)), some (.int (eNum x : Int)), some (.ref pn), some (.ref pr), some (.ref g), none] H' := by
      intro H' g w2 ans es sH wH lH eoH eg ne
      have hos : os ++ ((ans.length : Int) :: (ans ++ restOf w2 raw2)) = PyWm05.answers cs := by
        rw [es] at hos
        exact hos
      have wf2 : WF w2 := by
        rw [es] at wf2
        exact wf2
      have tot : os.length + (1 + ans.length) ≤ 10000000 := by
        have := congrArg List.length hos
        rw [List.length_append, List.length_cons, List.length_append] at this
        omega
      have wide : (10000001 : Nat) ≤ sizeLine := by rw [sizeLine_eq]; decide
      obtain ⟨wH1, lH1⟩ := wH.write (H' := upd H' o (.lst (os.map V.int ++ [.int ((ans.map V.int).length : Nat)]))) lH offo eoH (fun b u n e => (upd_ne n).trans e)
      obtain ⟨wH2, lH2⟩ := wH1.write (H' := upd (upd H' o (.lst (os.map V.int ++ [.int ((ans.map V.int).length : Nat)]))) o (.lst ((os.map V.int ++ [.int ((ans.map V.int).length : Nat)]) ++ ans.map V.int))) lH1 offo upd_same (fun b u n e => (upd_ne n).trans e)
      refine ⟨_, rfl, .inl ⟨rfl, _, SqL.of eoH⟩, _, rfl, g, _, rfl, .inl (SqL.of eg), o, _, _, rfl, rfl, eoH, ?_, ?_⟩
      · rw [List.length_map]; omega
      refine ⟨_, rfl, .inl ⟨rfl, _, SqL.of upd_same⟩, _, rfl, o, g, _, _, rfl, rfl, upd_same, (upd_ne ne).trans eg, ?_, ?_⟩
      · rw [List.length_append, List.length_map, List.length_map]
        show os.length + 1 + ans.length ≤ sizeLine
        omega
      refine ⟨to, f', w2, os ++ ((ans.length : Int) :: ans), _, _, _, _, rfl, same_upd (same_upd sH fo) fo, wH2, lH2, wf2, ?_, by rw [← et]; exact hr2, ?_⟩
      · rw [upd_same, List.length_map, List.map_append, List.append_assoc]
        rfl
      · rw [← hos, List.append_assoc]
        rfl
    -- the try
    refine ⟨_, rfl, (by show 6 ≤ sizeLine; rw [sizeLine_eq]; decide), fun u hu => ?_⟩
    have su := same_new (o := .tup [.int 7, .int 8, .int 9, .int 12, .int 13, .int 14]) hu
    have s24 := s23.trans su
    have wa4 := wa3.same su
    have lo4 : LOk (upd H3 u (.tup [.int 7, .int 8, .int 9, .int 12, .int 13, .int 14])) m r (fun p => p ≠ o) :=
      lk_same wa2 (s3.trans su) _ (fun p hp z => by rw [z, eo] at hp; cases hp) lo2
    have eo4 := su _ _ eo3
    refine ⟨u, _, rfl, .inr (SqT.of upd_same), rfl, rfl, _, rfl, ?_⟩
    show if inV (.int (eNum x : Int)) [V.int 7, V.int 8, V.int 9, V.int 12, V.int 13, V.int 14] = true then _ else _
    rw [asks_in]
    -- how the call may end
    have ends : ∀ (Q' : VK) (E' : XK), (∀ H' g w2 ans, Wm05.step w x = (w2, ans) → Same H H' → WAt A H' a m r d w2 → LOk H' m r (fun p => p ≠ o) → H' o = some (.lst (os.map V.int)) → H' g = some (.lst (ans.map V.int)) → g ≠ o → Q' (.ref g) H') →
        (∀ n, Wm05.step w x = (w, [n]) → Rfs A (upd H3 u (.tup [.int 7, .int 8, .int 9, .int 12, .int 13, .int 14])) n E') → Fin A (upd H3 u (.tup [.int 7, .int 8, .int 9, .int 12, .int 13, .int 14])) a m r d w x Q' E' := by
      intro Q' E' k1 k2
      refine ⟨fun H' g w2 ans es bt wa' lk ng eg => k1 H' g w2 ans es (fun b z e => bt b z (ne_new e fm) (ne_new e fr) (ne_new e fd) (s24 _ _ e)) wa' (lk _ (fun p hp z => by rw [z, eo4] at hp; cases hp) lo4) (bt _ _ offo.1 offo.2.1 offo.2.2 eo4) eg (fun z => ?_), k2⟩
      rw [z, eo4] at ng
      cases ng
    -- a refusal: the suite takes its number
    have refused : ∀ (n : Int) (H' : Hp) (dd : Addr), Wm05.step w x = (w, [n]) → Same (upd H3 u (.tup [.int 7, .int 8, .int 9, .int 12, .int 13, .int 14])) H' → H' dd = some (.xd (xF0 n)) → ∀ (a0 : Addr) (D : Ends) (σ' : L2.St), σ'[8]? = some (some (.ref a0)) →
        (∀ H'' g, Same H' H'' → H' g = none → H'' g = some (.lst ([n].map V.int)) → D.nx (σ'.set 7 (some (.ref g))) H'') → tSuite A a0 (.ref A.cX) (some dd) D σ' H' := by
      intro n H' dd es s' ed a0 D σ' h8 k
      refine ⟨_, h8, rfl, rfl, dd, _, _, rfl, ed, lkA, (by show 1 ≤ sizeLine; rw [sizeLine_eq]; decide), fun g hg => ?_⟩
      exact k _ g (same_new hg) hg upd_same
    cases hb : asks x with
    | true =>
      refine iteT ⟨_, rfl, _, rfl, _, rfl, _, rfl, a, m, r, d, pn, pr, w, x, rfl, wa4, wf, su _ _ epn, su _ _ epr, hb, ends _ _ behind fun n es H' dd s' hd ed => ?_⟩
      refine ⟨true, T.xE, fun _ a0 ha0 => ?_, fun z => Bool.noConfusion z⟩
      refine refused n H' dd es s' ed a0 _ _ rfl fun H'' g sg ng eg => ?_
      have s5 := s'.trans sg
      exact behind H'' g w [n] es (s24.trans s5) (wa4.same s5) (lk_same wa4 s5 _ (fun p hp z => by rw [z, eo4] at hp; cases hp) lo4) (s5 _ _ eo4) eg fun z => by
        rw [z, s' _ _ eo4] at ng
        cases ng
    | false =>
      refine iteF ⟨_, rfl, _, rfl, _, rfl, _, rfl, a, m, r, d, pn, pr, w, x, rfl, wa4, wf, su _ _ epn, su _ _ epr, hb, ends _ _ behind fun n es H' dd s' hd ed => ?_⟩
      refine ⟨true, T.xE, fun _ a0 ha0 => ?_, fun z => Bool.noConfusion z⟩
      refine refused n H' dd es s' ed a0 _ _ rfl fun H'' g sg ng eg => ?_
      have s5 := s'.trans sg
      exact behind H'' g w [n] es (s24.trans s5) (wa4.same s5) (lk_same wa4 s5 _ (fun p hp z => by rw [z, eo4] at hp; cases hp) lo4) (s5 _ _ eo4) eg fun z => by
        rw [z, s' _ _ eo4] at ng
        cases ng
end
end Sf

/-! SfMk: what the top has written, gathered (printed by gen.py). -/
namespace Sf
open PySem PySem.Spec PyProof.Rows L2
open PySem.W (nsIn findIn typeIn subIn keepIn codeIn isFn fnOf makesIn hasDictIn plainGet plainOver isClsIn exmOne mg_of mg_none_of findCls)
theorem exm_self {K : PySem.W.Frag} {S : Addr} (h1 : subIn K (.ref S) (.type "BaseException") = some true) (h2 : isClsIn K S = true) (h3 : typeIn K (.ref S) = some (.type "type")) (h4 : subIn K (.ref S) (.ref S) = some true) : exmOne K (.ref S) (.ref S) = some true := by
  have a : (subIn K (.ref S) (.type "BaseException") == some true) = true := by rw [h1] <;> rfl
  have b : ((PySem.W.clsIn K S).isSome && typeIn K (.ref S) == some (.type "type")) = true := by
    have c : (PySem.W.clsIn K S).isSome = true := h2
    rw [c, h3] <;> rfl
  show (if (subIn K (.ref S) (.type "BaseException") == some true) = true then (if ((PySem.W.clsIn K S).isSome && typeIn K (.ref S) == some (.type "type")) = true then subIn K (.ref S) (.ref S) else none) else none) = some true
  rw [if_pos a, if_pos b]
  exact h4
/-- what the heads find, gathered: every address a letter -/
theorem all_mk {P : Program} {w : World} {K : PySem.W.Frag} {h : Heap} {mg : Str → Option Value} {fa cW cG cR cX aP aF f_groups f_gut f_wInit f_wKept f_wCh f_wPl f_wCan f_wNext f_wBrk f_gInit f_gGood f_gAll f_gSome f_gTurn f_ea f_rInit f_rKept f_xInit f_rfs f_rises f_listed f_addS f_allow f_addR f_two f_some_ f_strike f_fplan f_who f_did f_undo f_away f_needed f_chg f_ask f_read f_ans q0 q1 q2 q3 q4 q5 q6 q7 q8 q9 q10 q11 q12 q13 q14 : Addr}
    {oc_groups kV_groups dc_groups pm_groups cd_groups ct_groups oc_gut kV_gut dc_gut pm_gut cd_gut ct_gut oc_wInit kV_wInit dc_wInit pm_wInit cd_wInit ct_wInit oc_wKept kV_wKept dc_wKept pm_wKept cd_wKept ct_wKept oc_wCh kV_wCh dc_wCh pm_wCh cd_wCh ct_wCh oc_wPl kV_wPl dc_wPl pm_wPl cd_wPl ct_wPl oc_wCan kV_wCan dc_wCan pm_wCan cd_wCan ct_wCan oc_wNext kV_wNext dc_wNext pm_wNext cd_wNext ct_wNext oc_wBrk kV_wBrk dc_wBrk pm_wBrk cd_wBrk ct_wBrk oc_gInit kV_gInit dc_gInit pm_gInit cd_gInit ct_gInit oc_gGood kV_gGood dc_gGood pm_gGood cd_gGood ct_gGood oc_gAll kV_gAll dc_gAll pm_gAll cd_gAll ct_gAll oc_gSome kV_gSome dc_gSome pm_gSome cd_gSome ct_gSome oc_gTurn kV_gTurn dc_gTurn pm_gTurn cd_gTurn ct_gTurn oc_ea kV_ea dc_ea pm_ea cd_ea ct_ea oc_rInit kV_rInit dc_rInit pm_rInit cd_rInit ct_rInit oc_rKept kV_rKept dc_rKept pm_rKept cd_rKept ct_rKept oc_xInit kV_xInit dc_xInit pm_xInit cd_xInit ct_xInit oc_rfs kV_rfs dc_rfs pm_rfs cd_rfs ct_rfs oc_rises kV_rises dc_rises pm_rises cd_rises ct_rises oc_listed kV_listed dc_listed pm_listed cd_listed ct_listed oc_addS kV_addS dc_addS pm_addS cd_addS ct_addS oc_allow kV_allow dc_allow pm_allow cd_allow ct_allow oc_addR kV_addR dc_addR pm_addR cd_addR ct_addR oc_two kV_two dc_two pm_two cd_two ct_two oc_some_ kV_some_ dc_some_ pm_some_ cd_some_ ct_some_ oc_strike kV_strike dc_strike pm_strike cd_strike ct_strike oc_fplan kV_fplan dc_fplan pm_fplan cd_fplan ct_fplan oc_who kV_who dc_who pm_who cd_who ct_who oc_did kV_did dc_did pm_did cd_did ct_did oc_undo kV_undo dc_undo pm_undo cd_undo ct_undo oc_away kV_away dc_away pm_away cd_away ct_away oc_needed kV_needed dc_needed pm_needed cd_needed ct_needed oc_chg kV_chg dc_chg pm_chg cd_chg ct_chg oc_ask kV_ask dc_ask pm_ask cd_ask ct_ask oc_read kV_read dc_read pm_read cd_read ct_read oc_ans kV_ans dc_ans pm_ans cd_ans ct_ans : Value}
    {od_groups an_groups od_gut an_gut od_wInit an_wInit od_wKept an_wKept od_wCh an_wCh od_wPl an_wPl od_wCan an_wCan od_wNext an_wNext od_wBrk an_wBrk od_gInit an_gInit od_gGood an_gGood od_gAll an_gAll od_gSome an_gSome od_gTurn an_gTurn od_ea an_ea od_rInit an_rInit od_rKept an_rKept od_xInit an_xInit od_rfs an_rfs od_rises an_rises od_listed an_listed od_addS an_addS od_allow an_allow od_addR an_addR od_two an_two od_some_ an_some_ od_strike an_strike od_fplan an_fplan od_who an_who od_did an_did od_undo an_undo od_away an_away od_needed an_needed od_chg an_chg od_ask an_ask od_read an_read od_ans an_ans od_P od_F od_q0 od_q1 od_q2 od_q3 od_q4 od_q5 od_q6 od_q7 od_q8 od_q9 od_q10 od_q11 od_q12 od_q13 od_q14 : Option Addr}
    {sl_groups sl_gut sl_wInit sl_wKept sl_wCh sl_wPl sl_wCan sl_wNext sl_wBrk sl_gInit sl_gGood sl_gAll sl_gSome sl_gTurn sl_ea sl_rInit sl_rKept sl_xInit sl_rfs sl_rises sl_listed sl_addS sl_allow sl_addR sl_two sl_some_ sl_strike sl_fplan sl_who sl_did sl_undo sl_away sl_needed sl_chg sl_ask sl_read sl_ans sl_P sl_F sl_q0 sl_q1 sl_q2 sl_q3 sl_q4 sl_q5 sl_q6 sl_q7 sl_q8 sl_q9 sl_q10 sl_q11 sl_q12 sl_q13 sl_q14 : Array (Option Value)}
    {t_SAME t_APART t_LEAST t_MOST t_MOST_STEPS t_MOST_RULES p1 p2 p3 p4 p5 p6 r0 s0 r1 s1 r2 s2 r3 s3 r4 s4 r5 s5 r6 s6 r7 s7 r8 s8 r9 s9 r10 s10 r11 s11 r12 s12 r13 s13 r14 s14 : Tok} {n_P n_F n_q0 n_q1 n_q2 n_q3 n_q4 n_q5 n_q6 n_q7 n_q8 n_q9 n_q10 n_q11 n_q12 n_q13 n_q14 : Nat}
    {nm qn : Str} {NN : Addr} {bs : List Value} {sn : List Str} {sub : List Value} {ab : Bool} {col : Option Bool} {dd : Option Addr} {m0 m1 m2 m3 m5 : Option Value}
    (X : K.In h) (G : h.Ns mainGlobals mg) (hfa : mg "answers" = some (.ref fa))
    (a_Work : nsIn K mainGlobals "Work" = some (some (.ref cW)))
    (pg_Work : plainGet K cW Str.empty = true)
    (hd_Work : hasDictIn K cW = true)
    (po_Work : plainOver K cW = true)
    (sa_Work : findIn K (.ref cW) "__setattr__" = some (some (.builtin "object.__setattr__")))
    (mk_Work : makesIn K cW = true)
    (kc_Work : keepIn K (.ref cW) = true)
    (n_W_may : findIn K (.ref cW) "may" = some none)
    (n_W_rules : findIn K (.ref cW) "rules" = some none)
    (n_W_doers : findIn K (.ref cW) "doers" = some none)
    (a_Game : nsIn K mainGlobals "Game" = some (some (.ref cG)))
    (pg_Game : plainGet K cG Str.empty = true)
    (hd_Game : hasDictIn K cG = true)
    (po_Game : plainOver K cG = true)
    (sa_Game : findIn K (.ref cG) "__setattr__" = some (some (.builtin "object.__setattr__")))
    (mk_Game : makesIn K cG = true)
    (kc_Game : keepIn K (.ref cG) = true)
    (n_G_work : findIn K (.ref cG) "work" = some none)
    (n_G_most : findIn K (.ref cG) "most" = some none)
    (n_G_groups : findIn K (.ref cG) "groups" = some none)
    (n_G_known : findIn K (.ref cG) "known" = some none)
    (a_Rule : nsIn K mainGlobals "Rule" = some (some (.ref cR)))
    (pg_Rule : plainGet K cR Str.empty = true)
    (hd_Rule : hasDictIn K cR = true)
    (po_Rule : plainOver K cR = true)
    (sa_Rule : findIn K (.ref cR) "__setattr__" = some (some (.builtin "object.__setattr__")))
    (mk_Rule : makesIn K cR = true)
    (kc_Rule : keepIn K (.ref cR) = true)
    (n_R_kind : findIn K (.ref cR) "kind" = some none)
    (n_R_number : findIn K (.ref cR) "number" = some none)
    (n_R_steps : findIn K (.ref cR) "steps" = some none)
    (a_X : nsIn K mainGlobals "Refusal" = some (some (.ref cX)))
    (a_groups : nsIn K mainGlobals "groups" = some (some (.ref f_groups)))
    (l_groups : K.lookup f_groups = some ⟨oc_groups, od_groups, .func (fnOf "groups" "groups" (defArgs st_groups) (defBody st_groups) (defScope st_groups) .none kV_groups dc_groups pm_groups an_groups cd_groups ct_groups), sl_groups⟩)
    (u_groups : codeIn K cd_groups "groups" = true)
    (k_groups : keepIn K (.ref f_groups) = true)
    (a_gut : nsIn K mainGlobals "groups_up_to" = some (some (.ref f_gut)))
    (l_gut : K.lookup f_gut = some ⟨oc_gut, od_gut, .func (fnOf "groups_up_to" "groups_up_to" (defArgs st_gut) (defBody st_gut) (defScope st_gut) .none kV_gut dc_gut pm_gut an_gut cd_gut ct_gut), sl_gut⟩)
    (u_gut : codeIn K cd_gut "groups_up_to" = true)
    (k_gut : keepIn K (.ref f_gut) = true)
    (a_wInit : findIn K (.ref cW) "__init__" = some (some (.ref f_wInit)))
    (i_wInit : isFn K (.ref f_wInit) = true)
    (l_wInit : K.lookup f_wInit = some ⟨oc_wInit, od_wInit, .func (fnOf "__init__" "Work.__init__" (defArgs st_wInit) (defBody st_wInit) (defScope st_wInit) .none kV_wInit dc_wInit pm_wInit an_wInit cd_wInit ct_wInit), sl_wInit⟩)
    (u_wInit : codeIn K cd_wInit "Work.__init__" = true)
    (k_wInit : keepIn K (.ref f_wInit) = true)
    (a_wKept : findIn K (.ref cW) "is_kept" = some (some (.ref f_wKept)))
    (i_wKept : isFn K (.ref f_wKept) = true)
    (l_wKept : K.lookup f_wKept = some ⟨oc_wKept, od_wKept, .func (fnOf "is_kept" "Work.is_kept" (defArgs st_wKept) (defBody st_wKept) (defScope st_wKept) .none kV_wKept dc_wKept pm_wKept an_wKept cd_wKept ct_wKept), sl_wKept⟩)
    (u_wKept : codeIn K cd_wKept "Work.is_kept" = true)
    (k_wKept : keepIn K (.ref f_wKept) = true)
    (a_wCh : findIn K (.ref cW) "choices" = some (some (.ref f_wCh)))
    (i_wCh : isFn K (.ref f_wCh) = true)
    (l_wCh : K.lookup f_wCh = some ⟨oc_wCh, od_wCh, .func (fnOf "choices" "Work.choices" (defArgs st_wCh) (defBody st_wCh) (defScope st_wCh) .none kV_wCh dc_wCh pm_wCh an_wCh cd_wCh ct_wCh), sl_wCh⟩)
    (u_wCh : codeIn K cd_wCh "Work.choices" = true)
    (k_wCh : keepIn K (.ref f_wCh) = true)
    (a_wPl : findIn K (.ref cW) "plans" = some (some (.ref f_wPl)))
    (i_wPl : isFn K (.ref f_wPl) = true)
    (l_wPl : K.lookup f_wPl = some ⟨oc_wPl, od_wPl, .func (fnOf "plans" "Work.plans" (defArgs st_wPl) (defBody st_wPl) (defScope st_wPl) .none kV_wPl dc_wPl pm_wPl an_wPl cd_wPl ct_wPl), sl_wPl⟩)
    (u_wPl : codeIn K cd_wPl "Work.plans" = true)
    (k_wPl : keepIn K (.ref f_wPl) = true)
    (a_wCan : findIn K (.ref cW) "can_end" = some (some (.ref f_wCan)))
    (i_wCan : isFn K (.ref f_wCan) = true)
    (l_wCan : K.lookup f_wCan = some ⟨oc_wCan, od_wCan, .func (fnOf "can_end" "Work.can_end" (defArgs st_wCan) (defBody st_wCan) (defScope st_wCan) .none kV_wCan dc_wCan pm_wCan an_wCan cd_wCan ct_wCan), sl_wCan⟩)
    (u_wCan : codeIn K cd_wCan "Work.can_end" = true)
    (k_wCan : keepIn K (.ref f_wCan) = true)
    (a_wNext : findIn K (.ref cW) "next_people" = some (some (.ref f_wNext)))
    (i_wNext : isFn K (.ref f_wNext) = true)
    (l_wNext : K.lookup f_wNext = some ⟨oc_wNext, od_wNext, .func (fnOf "next_people" "Work.next_people" (defArgs st_wNext) (defBody st_wNext) (defScope st_wNext) .none kV_wNext dc_wNext pm_wNext an_wNext cd_wNext ct_wNext), sl_wNext⟩)
    (u_wNext : codeIn K cd_wNext "Work.next_people" = true)
    (k_wNext : keepIn K (.ref f_wNext) = true)
    (a_wBrk : findIn K (.ref cW) "breaking" = some (some (.ref f_wBrk)))
    (i_wBrk : isFn K (.ref f_wBrk) = true)
    (l_wBrk : K.lookup f_wBrk = some ⟨oc_wBrk, od_wBrk, .func (fnOf "breaking" "Work.breaking" (defArgs st_wBrk) (defBody st_wBrk) (defScope st_wBrk) .none kV_wBrk dc_wBrk pm_wBrk an_wBrk cd_wBrk ct_wBrk), sl_wBrk⟩)
    (u_wBrk : codeIn K cd_wBrk "Work.breaking" = true)
    (k_wBrk : keepIn K (.ref f_wBrk) = true)
    (a_gInit : findIn K (.ref cG) "__init__" = some (some (.ref f_gInit)))
    (i_gInit : isFn K (.ref f_gInit) = true)
    (l_gInit : K.lookup f_gInit = some ⟨oc_gInit, od_gInit, .func (fnOf "__init__" "Game.__init__" (defArgs st_gInit) (defBody st_gInit) (defScope st_gInit) .none kV_gInit dc_gInit pm_gInit an_gInit cd_gInit ct_gInit), sl_gInit⟩)
    (u_gInit : codeIn K cd_gInit "Game.__init__" = true)
    (k_gInit : keepIn K (.ref f_gInit) = true)
    (a_gGood : findIn K (.ref cG) "for_good" = some (some (.ref f_gGood)))
    (i_gGood : isFn K (.ref f_gGood) = true)
    (l_gGood : K.lookup f_gGood = some ⟨oc_gGood, od_gGood, .func (fnOf "for_good" "Game.for_good" (defArgs st_gGood) (defBody st_gGood) (defScope st_gGood) .none kV_gGood dc_gGood pm_gGood an_gGood cd_gGood ct_gGood), sl_gGood⟩)
    (u_gGood : codeIn K cd_gGood "Game.for_good" = true)
    (k_gGood : keepIn K (.ref f_gGood) = true)
    (a_gAll : findIn K (.ref cG) "ends_for_all" = some (some (.ref f_gAll)))
    (i_gAll : isFn K (.ref f_gAll) = true)
    (l_gAll : K.lookup f_gAll = some ⟨oc_gAll, od_gAll, .func (fnOf "ends_for_all" "Game.ends_for_all" (defArgs st_gAll) (defBody st_gAll) (defScope st_gAll) .none kV_gAll dc_gAll pm_gAll an_gAll cd_gAll ct_gAll), sl_gAll⟩)
    (u_gAll : codeIn K cd_gAll "Game.ends_for_all" = true)
    (k_gAll : keepIn K (.ref f_gAll) = true)
    (a_gSome : findIn K (.ref cG) "ends_by_some" = some (some (.ref f_gSome)))
    (i_gSome : isFn K (.ref f_gSome) = true)
    (l_gSome : K.lookup f_gSome = some ⟨oc_gSome, od_gSome, .func (fnOf "ends_by_some" "Game.ends_by_some" (defArgs st_gSome) (defBody st_gSome) (defScope st_gSome) .none kV_gSome dc_gSome pm_gSome an_gSome cd_gSome ct_gSome), sl_gSome⟩)
    (u_gSome : codeIn K cd_gSome "Game.ends_by_some" = true)
    (k_gSome : keepIn K (.ref f_gSome) = true)
    (a_gTurn : findIn K (.ref cG) "by_turns" = some (some (.ref f_gTurn)))
    (i_gTurn : isFn K (.ref f_gTurn) = true)
    (l_gTurn : K.lookup f_gTurn = some ⟨oc_gTurn, od_gTurn, .func (fnOf "by_turns" "Game.by_turns" (defArgs st_gTurn) (defBody st_gTurn) (defScope st_gTurn) .none kV_gTurn dc_gTurn pm_gTurn an_gTurn cd_gTurn ct_gTurn), sl_gTurn⟩)
    (u_gTurn : codeIn K cd_gTurn "Game.by_turns" = true)
    (k_gTurn : keepIn K (.ref f_gTurn) = true)
    (a_ea : nsIn K mainGlobals "ends_away" = some (some (.ref f_ea)))
    (l_ea : K.lookup f_ea = some ⟨oc_ea, od_ea, .func (fnOf "ends_away" "ends_away" (defArgs st_ea) (defBody st_ea) (defScope st_ea) .none kV_ea dc_ea pm_ea an_ea cd_ea ct_ea), sl_ea⟩)
    (u_ea : codeIn K cd_ea "ends_away" = true)
    (k_ea : keepIn K (.ref f_ea) = true)
    (a_rInit : findIn K (.ref cR) "__init__" = some (some (.ref f_rInit)))
    (i_rInit : isFn K (.ref f_rInit) = true)
    (l_rInit : K.lookup f_rInit = some ⟨oc_rInit, od_rInit, .func (fnOf "__init__" "Rule.__init__" (defArgs st_rInit) (defBody st_rInit) (defScope st_rInit) .none kV_rInit dc_rInit pm_rInit an_rInit cd_rInit ct_rInit), sl_rInit⟩)
    (u_rInit : codeIn K cd_rInit "Rule.__init__" = true)
    (k_rInit : keepIn K (.ref f_rInit) = true)
    (a_rKept : findIn K (.ref cR) "is_kept" = some (some (.ref f_rKept)))
    (i_rKept : isFn K (.ref f_rKept) = true)
    (l_rKept : K.lookup f_rKept = some ⟨oc_rKept, od_rKept, .func (fnOf "is_kept" "Rule.is_kept" (defArgs st_rKept) (defBody st_rKept) (defScope st_rKept) .none kV_rKept dc_rKept pm_rKept an_rKept cd_rKept ct_rKept), sl_rKept⟩)
    (u_rKept : codeIn K cd_rKept "Rule.is_kept" = true)
    (k_rKept : keepIn K (.ref f_rKept) = true)
    (a_xInit : findIn K (.ref cX) "__init__" = some (some (.ref f_xInit)))
    (l_xInit : K.lookup f_xInit = some ⟨oc_xInit, od_xInit, .func (fnOf "__init__" "Refusal.__init__" (defArgs st_xInit) (defBody st_xInit) (defScope st_xInit) .none kV_xInit dc_xInit pm_xInit an_xInit cd_xInit ct_xInit), sl_xInit⟩)
    (u_xInit : codeIn K cd_xInit "Refusal.__init__" = true)
    (k_xInit : keepIn K (.ref f_xInit) = true)
    (a_rfs : nsIn K mainGlobals "refuse_if" = some (some (.ref f_rfs)))
    (l_rfs : K.lookup f_rfs = some ⟨oc_rfs, od_rfs, .func (fnOf "refuse_if" "refuse_if" (defArgs st_rfs) (defBody st_rfs) (defScope st_rfs) .none kV_rfs dc_rfs pm_rfs an_rfs cd_rfs ct_rfs), sl_rfs⟩)
    (u_rfs : codeIn K cd_rfs "refuse_if" = true)
    (k_rfs : keepIn K (.ref f_rfs) = true)
    (a_rises : nsIn K mainGlobals "rises" = some (some (.ref f_rises)))
    (l_rises : K.lookup f_rises = some ⟨oc_rises, od_rises, .func (fnOf "rises" "rises" (defArgs st_rises) (defBody st_rises) (defScope st_rises) .none kV_rises dc_rises pm_rises an_rises cd_rises ct_rises), sl_rises⟩)
    (u_rises : codeIn K cd_rises "rises" = true)
    (k_rises : keepIn K (.ref f_rises) = true)
    (a_listed : nsIn K mainGlobals "listed" = some (some (.ref f_listed)))
    (l_listed : K.lookup f_listed = some ⟨oc_listed, od_listed, .func (fnOf "listed" "listed" (defArgs st_listed) (defBody st_listed) (defScope st_listed) .none kV_listed dc_listed pm_listed an_listed cd_listed ct_listed), sl_listed⟩)
    (u_listed : codeIn K cd_listed "listed" = true)
    (k_listed : keepIn K (.ref f_listed) = true)
    (a_addS : nsIn K mainGlobals "add_step" = some (some (.ref f_addS)))
    (l_addS : K.lookup f_addS = some ⟨oc_addS, od_addS, .func (fnOf "add_step" "add_step" (defArgs st_addS) (defBody st_addS) (defScope st_addS) .none kV_addS dc_addS pm_addS an_addS cd_addS ct_addS), sl_addS⟩)
    (u_addS : codeIn K cd_addS "add_step" = true)
    (k_addS : keepIn K (.ref f_addS) = true)
    (a_allow : nsIn K mainGlobals "allow" = some (some (.ref f_allow)))
    (l_allow : K.lookup f_allow = some ⟨oc_allow, od_allow, .func (fnOf "allow" "allow" (defArgs st_allow) (defBody st_allow) (defScope st_allow) .none kV_allow dc_allow pm_allow an_allow cd_allow ct_allow), sl_allow⟩)
    (u_allow : codeIn K cd_allow "allow" = true)
    (k_allow : keepIn K (.ref f_allow) = true)
    (a_addR : nsIn K mainGlobals "add_rule" = some (some (.ref f_addR)))
    (l_addR : K.lookup f_addR = some ⟨oc_addR, od_addR, .func (fnOf "add_rule" "add_rule" (defArgs st_addR) (defBody st_addR) (defScope st_addR) .none kV_addR dc_addR pm_addR an_addR cd_addR ct_addR), sl_addR⟩)
    (u_addR : codeIn K cd_addR "add_rule" = true)
    (k_addR : keepIn K (.ref f_addR) = true)
    (a_two : nsIn K mainGlobals "rule_of_two" = some (some (.ref f_two)))
    (l_two : K.lookup f_two = some ⟨oc_two, od_two, .func (fnOf "rule_of_two" "rule_of_two" (defArgs st_two) (defBody st_two) (defScope st_two) .none kV_two dc_two pm_two an_two cd_two ct_two), sl_two⟩)
    (u_two : codeIn K cd_two "rule_of_two" = true)
    (k_two : keepIn K (.ref f_two) = true)
    (a_some_ : nsIn K mainGlobals "rule_of_some" = some (some (.ref f_some_)))
    (l_some_ : K.lookup f_some_ = some ⟨oc_some_, od_some_, .func (fnOf "rule_of_some" "rule_of_some" (defArgs st_some_) (defBody st_some_) (defScope st_some_) .none kV_some_ dc_some_ pm_some_ an_some_ cd_some_ ct_some_), sl_some_⟩)
    (u_some_ : codeIn K cd_some_ "rule_of_some" = true)
    (k_some_ : keepIn K (.ref f_some_) = true)
    (a_strike : nsIn K mainGlobals "strike" = some (some (.ref f_strike)))
    (l_strike : K.lookup f_strike = some ⟨oc_strike, od_strike, .func (fnOf "strike" "strike" (defArgs st_strike) (defBody st_strike) (defScope st_strike) .none kV_strike dc_strike pm_strike an_strike cd_strike ct_strike), sl_strike⟩)
    (u_strike : codeIn K cd_strike "strike" = true)
    (k_strike : keepIn K (.ref f_strike) = true)
    (a_fplan : nsIn K mainGlobals "first_plan" = some (some (.ref f_fplan)))
    (l_fplan : K.lookup f_fplan = some ⟨oc_fplan, od_fplan, .func (fnOf "first_plan" "first_plan" (defArgs st_fplan) (defBody st_fplan) (defScope st_fplan) .none kV_fplan dc_fplan pm_fplan an_fplan cd_fplan ct_fplan), sl_fplan⟩)
    (u_fplan : codeIn K cd_fplan "first_plan" = true)
    (k_fplan : keepIn K (.ref f_fplan) = true)
    (a_who : nsIn K mainGlobals "who" = some (some (.ref f_who)))
    (l_who : K.lookup f_who = some ⟨oc_who, od_who, .func (fnOf "who" "who" (defArgs st_who) (defBody st_who) (defScope st_who) .none kV_who dc_who pm_who an_who cd_who ct_who), sl_who⟩)
    (u_who : codeIn K cd_who "who" = true)
    (k_who : keepIn K (.ref f_who) = true)
    (a_did : nsIn K mainGlobals "did" = some (some (.ref f_did)))
    (l_did : K.lookup f_did = some ⟨oc_did, od_did, .func (fnOf "did" "did" (defArgs st_did) (defBody st_did) (defScope st_did) .none kV_did dc_did pm_did an_did cd_did ct_did), sl_did⟩)
    (u_did : codeIn K cd_did "did" = true)
    (k_did : keepIn K (.ref f_did) = true)
    (a_undo : nsIn K mainGlobals "undo" = some (some (.ref f_undo)))
    (l_undo : K.lookup f_undo = some ⟨oc_undo, od_undo, .func (fnOf "undo" "undo" (defArgs st_undo) (defBody st_undo) (defScope st_undo) .none kV_undo dc_undo pm_undo an_undo cd_undo ct_undo), sl_undo⟩)
    (u_undo : codeIn K cd_undo "undo" = true)
    (k_undo : keepIn K (.ref f_undo) = true)
    (a_away : nsIn K mainGlobals "away" = some (some (.ref f_away)))
    (l_away : K.lookup f_away = some ⟨oc_away, od_away, .func (fnOf "away" "away" (defArgs st_away) (defBody st_away) (defScope st_away) .none kV_away dc_away pm_away an_away cd_away ct_away), sl_away⟩)
    (u_away : codeIn K cd_away "away" = true)
    (k_away : keepIn K (.ref f_away) = true)
    (a_needed : nsIn K mainGlobals "needed" = some (some (.ref f_needed)))
    (l_needed : K.lookup f_needed = some ⟨oc_needed, od_needed, .func (fnOf "needed" "needed" (defArgs st_needed) (defBody st_needed) (defScope st_needed) .none kV_needed dc_needed pm_needed an_needed cd_needed ct_needed), sl_needed⟩)
    (u_needed : codeIn K cd_needed "needed" = true)
    (k_needed : keepIn K (.ref f_needed) = true)
    (a_chg : nsIn K mainGlobals "changing" = some (some (.ref f_chg)))
    (l_chg : K.lookup f_chg = some ⟨oc_chg, od_chg, .func (fnOf "changing" "changing" (defArgs st_chg) (defBody st_chg) (defScope st_chg) .none kV_chg dc_chg pm_chg an_chg cd_chg ct_chg), sl_chg⟩)
    (u_chg : codeIn K cd_chg "changing" = true)
    (k_chg : keepIn K (.ref f_chg) = true)
    (a_ask : nsIn K mainGlobals "asking" = some (some (.ref f_ask)))
    (l_ask : K.lookup f_ask = some ⟨oc_ask, od_ask, .func (fnOf "asking" "asking" (defArgs st_ask) (defBody st_ask) (defScope st_ask) .none kV_ask dc_ask pm_ask an_ask cd_ask ct_ask), sl_ask⟩)
    (u_ask : codeIn K cd_ask "asking" = true)
    (k_ask : keepIn K (.ref f_ask) = true)
    (a_read : nsIn K mainGlobals "read_call" = some (some (.ref f_read)))
    (l_read : K.lookup f_read = some ⟨oc_read, od_read, .func (fnOf "read_call" "read_call" (defArgs st_read) (defBody st_read) (defScope st_read) .none kV_read dc_read pm_read an_read cd_read ct_read), sl_read⟩)
    (u_read : codeIn K cd_read "read_call" = true)
    (k_read : keepIn K (.ref f_read) = true)
    (a_ans : nsIn K mainGlobals "answers" = some (some (.ref f_ans)))
    (l_ans : K.lookup f_ans = some ⟨oc_ans, od_ans, .func (fnOf "answers" "answers" (defArgs st_ans) (defBody st_ans) (defScope st_ans) .none kV_ans dc_ans pm_ans an_ans cd_ans ct_ans), sl_ans⟩)
    (u_ans : codeIn K cd_ans "answers" = true)
    (k_ans : keepIn K (.ref f_ans) = true)
    (xL : K.lookup cX = some (excClassObj nm qn cX NN bs [.type "ValueError", .type "Exception", .type "BaseException", .type "object"] true sn sub ab col dd m0 m1 m2 m3 m5 "ValueError.__new__"))
    (xsa : findIn K (.ref cX) "__setattr__" = some (some (.builtin "object.__setattr__")))
    (xga : findIn K (.ref cX) "__getattribute__" = some (some (.builtin "BaseException.__getattribute__")))
    (xgg : findIn K (.ref cX) "__getattr__" = some none)
    (xnb : findIn K (.ref cX) "number" = some none)
    (xty : typeIn K (.ref f_xInit) = some (.type "function"))
    (xkC : keepIn K (.ref cX) = true)
    (xeC : subIn K (.ref cX) (.type "BaseException") = some true)
    (xtC : typeIn K (.ref cX) = some (.type "type"))
    (xhC : hasDictIn K cX = true)
    (xiC : isClsIn K cX = true)
    (xsC : subIn K (.ref cX) (.ref cX) = some true)
    (xV : findCls K (.type "ValueError") (.type "type") "__init__" = some (.val (.builtin "ValueError.__init__")))
    (z_len : nsIn K mainGlobals "len" = some none)
    (z_range : nsIn K mainGlobals "range" = some none)
    (z_tuple : nsIn K mainGlobals "tuple" = some none)
    (z_all : nsIn K mainGlobals "all" = some none)
    (z_any : nsIn K mainGlobals "any" = some none)
    (z_set : nsIn K mainGlobals "set" = some none)
    (z_list : nsIn K mainGlobals "list" = some none)
    (z_ValueError : nsIn K mainGlobals "ValueError" = some none)
    (v_SAME : nsIn K mainGlobals "SAME" = some (some (.int 0 t_SAME)))
    (v_APART : nsIn K mainGlobals "APART" = some (some (.int 1 t_APART)))
    (v_LEAST : nsIn K mainGlobals "LEAST" = some (some (.int 2 t_LEAST)))
    (v_MOST : nsIn K mainGlobals "MOST" = some (some (.int 3 t_MOST)))
    (v_MOST_STEPS : nsIn K mainGlobals "MOST_STEPS" = some (some (.int 5 t_MOST_STEPS)))
    (v_MOST_RULES : nsIn K mainGlobals "MOST_RULES" = some (some (.int 8 t_MOST_RULES)))
    (a_P : nsIn K mainGlobals "PEOPLE" = some (some (.ref aP)))
    (l_P : K.lookup aP = some ⟨.type "tuple", od_P, .seq #[.int 1 p1, .int 2 p2, .int 3 p3, .int 4 p4, .int 5 p5, .int 6 p6] n_P, sl_P⟩)
    (a_F : nsIn K mainGlobals "FORMS" = some (some (.ref aF)))
    (l_F : K.lookup aF = some ⟨.type "tuple", od_F, .seq #[.ref q0, .ref q1, .ref q2, .ref q3, .ref q4, .ref q5, .ref q6, .ref q7, .ref q8, .ref q9, .ref q10, .ref q11, .ref q12, .ref q13, .ref q14] n_F, sl_F⟩)
    (l_q0 : K.lookup q0 = some ⟨.type "tuple", od_q0, .seq #[.int 0 r0, .int 1 s0] n_q0, sl_q0⟩)
    (l_q1 : K.lookup q1 = some ⟨.type "tuple", od_q1, .seq #[.int 1 r1, .int 1 s1] n_q1, sl_q1⟩)
    (l_q2 : K.lookup q2 = some ⟨.type "tuple", od_q2, .seq #[.int 2 r2, .int 0 s2] n_q2, sl_q2⟩)
    (l_q3 : K.lookup q3 = some ⟨.type "tuple", od_q3, .seq #[.int 2 r3, .int 0 s3] n_q3, sl_q3⟩)
    (l_q4 : K.lookup q4 = some ⟨.type "tuple", od_q4, .seq #[.int 1 r4, .int 1 s4] n_q4, sl_q4⟩)
    (l_q5 : K.lookup q5 = some ⟨.type "tuple", od_q5, .seq #[.int 1 r5, .int 1 s5] n_q5, sl_q5⟩)
    (l_q6 : K.lookup q6 = some ⟨.type "tuple", od_q6, .seq #[.int 1 r6, .int 0 s6] n_q6, sl_q6⟩)
    (l_q7 : K.lookup q7 = some ⟨.type "tuple", od_q7, .seq #[.int 0 r7, .int 1 s7] n_q7, sl_q7⟩)
    (l_q8 : K.lookup q8 = some ⟨.type "tuple", od_q8, .seq #[.int 0 r8, .int 0 s8] n_q8, sl_q8⟩)
    (l_q9 : K.lookup q9 = some ⟨.type "tuple", od_q9, .seq #[.int 0 r9, .int 0 s9] n_q9, sl_q9⟩)
    (l_q10 : K.lookup q10 = some ⟨.type "tuple", od_q10, .seq #[.int 1 r10, .int 0 s10] n_q10, sl_q10⟩)
    (l_q11 : K.lookup q11 = some ⟨.type "tuple", od_q11, .seq #[.int 0 r11, .int 0 s11] n_q11, sl_q11⟩)
    (l_q12 : K.lookup q12 = some ⟨.type "tuple", od_q12, .seq #[.int 0 r12, .int 0 s12] n_q12, sl_q12⟩)
    (l_q13 : K.lookup q13 = some ⟨.type "tuple", od_q13, .seq #[.int 2 r13, .int 0 s13] n_q13, sl_q13⟩)
    (l_q14 : K.lookup q14 = some ⟨.type "tuple", od_q14, .seq #[.int 0 r14, .int 0 s14] n_q14, sl_q14⟩)
    : ∃ fd : FuncData, (∀ (s : Shared) (us : List Value), us.length = (["calls"] : List Str).length → BindsTo s fd ⟨us, []⟩ ((["calls"] : List Str).zip us)) ∧ ∀ base : Heap, K.In base → base.Ns mainGlobals mg → FnOk P w K mg base CX0 23 fa fd ["calls"] (spAns K) := by
  have ef := hfa.symm.trans (mg_of X G a_ans)
  cases ef
  have F_groups := fun_mk (st := st_groups) l_groups u_groups k_groups
  have B_groups := F_groups.binds (ps := ["count"]) fun _ _ _ _ _ _ us hl => match us, hl with | [_], _ => rfl
  have F_gut := fun_mk (st := st_gut) l_gut u_gut k_gut
  have B_gut := F_gut.binds (ps := ["count"]) fun _ _ _ _ _ _ us hl => match us, hl with | [_], _ => rfl
  have F_wInit := fun_mk (st := st_wInit) l_wInit u_wInit k_wInit
  have B_wInit := F_wInit.binds (ps := ["self"]) fun _ _ _ _ _ _ us hl => match us, hl with | [_], _ => rfl
  have F_wKept := fun_mk (st := st_wKept) l_wKept u_wKept k_wKept
  have B_wKept := F_wKept.binds (ps := ["self", "doers"]) fun _ _ _ _ _ _ us hl => match us, hl with | [_, _], _ => rfl
  have F_wCh := fun_mk (st := st_wCh) l_wCh u_wCh k_wCh
  have B_wCh := F_wCh.binds (ps := ["self", "gone"]) fun _ _ _ _ _ _ us hl => match us, hl with | [_, _], _ => rfl
  have F_wPl := fun_mk (st := st_wPl) l_wPl u_wPl k_wPl
  have B_wPl := F_wPl.binds (ps := ["self", "gone"]) fun _ _ _ _ _ _ us hl => match us, hl with | [_, _], _ => rfl
  have F_wCan := fun_mk (st := st_wCan) l_wCan u_wCan k_wCan
  have B_wCan := F_wCan.binds (ps := ["self", "gone"]) fun _ _ _ _ _ _ us hl => match us, hl with | [_, _], _ => rfl
  have F_wNext := fun_mk (st := st_wNext) l_wNext u_wNext k_wNext
  have B_wNext := F_wNext.binds (ps := ["self"]) fun _ _ _ _ _ _ us hl => match us, hl with | [_], _ => rfl
  have F_wBrk := fun_mk (st := st_wBrk) l_wBrk u_wBrk k_wBrk
  have B_wBrk := F_wBrk.binds (ps := ["self"]) fun _ _ _ _ _ _ us hl => match us, hl with | [_], _ => rfl
  have F_gInit := fun_mk (st := st_gInit) l_gInit u_gInit k_gInit
  have B_gInit := F_gInit.binds (ps := ["self", "work", "most"]) fun _ _ _ _ _ _ us hl => match us, hl with | [_, _, _], _ => rfl
  have F_gGood := fun_mk (st := st_gGood) l_gGood u_gGood k_gGood
  have B_gGood := F_gGood.binds (ps := ["self", "doers", "gone"]) fun _ _ _ _ _ _ us hl => match us, hl with | [_, _, _], _ => rfl
  have F_gAll := fun_mk (st := st_gAll) l_gAll u_gAll k_gAll
  have B_gAll := F_gAll.binds (ps := ["self", "doers", "gone"]) fun _ _ _ _ _ _ us hl => match us, hl with | [_, _, _], _ => rfl
  have F_gSome := fun_mk (st := st_gSome) l_gSome u_gSome k_gSome
  have B_gSome := F_gSome.binds (ps := ["self", "doers", "gone"]) fun _ _ _ _ _ _ us hl => match us, hl with | [_, _, _], _ => rfl
  have F_gTurn := fun_mk (st := st_gTurn) l_gTurn u_gTurn k_gTurn
  have B_gTurn := F_gTurn.binds (ps := ["self", "doers"]) fun _ _ _ _ _ _ us hl => match us, hl with | [_, _], _ => rfl
  have F_ea := fun_mk (st := st_ea) l_ea u_ea k_ea
  have B_ea := F_ea.binds (ps := ["work", "kind", "most"]) fun _ _ _ _ _ _ us hl => match us, hl with | [_, _, _], _ => rfl
  have F_rInit := fun_mk (st := st_rInit) l_rInit u_rInit k_rInit
  have B_rInit := F_rInit.binds (ps := ["self", "kind", "number", "steps"]) fun _ _ _ _ _ _ us hl => match us, hl with | [_, _, _, _], _ => rfl
  have F_rKept := fun_mk (st := st_rKept) l_rKept u_rKept k_rKept
  have B_rKept := F_rKept.binds (ps := ["self", "doers"]) fun _ _ _ _ _ _ us hl => match us, hl with | [_, _], _ => rfl
  have F_xInit := fun_mk (st := st_xInit) l_xInit u_xInit k_xInit
  have B_xInit := F_xInit.binds (ps := ["self", "number"]) fun _ _ _ _ _ _ us hl => match us, hl with | [_, _], _ => rfl
  have F_rfs := fun_mk (st := st_rfs) l_rfs u_rfs k_rfs
  have B_rfs := F_rfs.binds (ps := ["condition", "number"]) fun _ _ _ _ _ _ us hl => match us, hl with | [_, _], _ => rfl
  have F_rises := fun_mk (st := st_rises) l_rises u_rises k_rises
  have B_rises := F_rises.binds (ps := ["numbers", "most"]) fun _ _ _ _ _ _ us hl => match us, hl with | [_, _], _ => rfl
  have F_listed := fun_mk (st := st_listed) l_listed u_listed k_listed
  have B_listed := F_listed.binds (ps := ["numbers"]) fun _ _ _ _ _ _ us hl => match us, hl with | [_], _ => rfl
  have F_addS := fun_mk (st := st_addS) l_addS u_addS k_addS
  have B_addS := F_addS.binds (ps := ["work", "people"]) fun _ _ _ _ _ _ us hl => match us, hl with | [_, _], _ => rfl
  have F_allow := fun_mk (st := st_allow) l_allow u_allow k_allow
  have B_allow := F_allow.binds (ps := ["work", "step", "people"]) fun _ _ _ _ _ _ us hl => match us, hl with | [_, _, _], _ => rfl
  have F_addR := fun_mk (st := st_addR) l_addR u_addR k_addR
  have B_addR := F_addR.binds (ps := ["work", "rule"]) fun _ _ _ _ _ _ us hl => match us, hl with | [_, _], _ => rfl
  have F_two := fun_mk (st := st_two) l_two u_two k_two
  have B_two := F_two.binds (ps := ["work", "kind", "first", "second"]) fun _ _ _ _ _ _ us hl => match us, hl with | [_, _, _, _], _ => rfl
  have F_some_ := fun_mk (st := st_some_) l_some_ u_some_ k_some_
  have B_some_ := F_some_.binds (ps := ["work", "kind", "number", "steps"]) fun _ _ _ _ _ _ us hl => match us, hl with | [_, _, _, _], _ => rfl
  have F_strike := fun_mk (st := st_strike) l_strike u_strike k_strike
  have B_strike := F_strike.binds (ps := ["work", "number"]) fun _ _ _ _ _ _ us hl => match us, hl with | [_, _], _ => rfl
  have F_fplan := fun_mk (st := st_fplan) l_fplan u_fplan k_fplan
  have B_fplan := F_fplan.binds (ps := ["work", "people"]) fun _ _ _ _ _ _ us hl => match us, hl with | [_, _], _ => rfl
  have F_who := fun_mk (st := st_who) l_who u_who k_who
  have B_who := F_who.binds (ps := ["work"]) fun _ _ _ _ _ _ us hl => match us, hl with | [_], _ => rfl
  have F_did := fun_mk (st := st_did) l_did u_did k_did
  have B_did := F_did.binds (ps := ["work", "person"]) fun _ _ _ _ _ _ us hl => match us, hl with | [_, _], _ => rfl
  have F_undo := fun_mk (st := st_undo) l_undo u_undo k_undo
  have B_undo := F_undo.binds (ps := ["work"]) fun _ _ _ _ _ _ us hl => match us, hl with | [_], _ => rfl
  have F_away := fun_mk (st := st_away) l_away u_away k_away
  have B_away := F_away.binds (ps := ["work", "kind", "most"]) fun _ _ _ _ _ _ us hl => match us, hl with | [_, _, _], _ => rfl
  have F_needed := fun_mk (st := st_needed) l_needed u_needed k_needed
  have B_needed := F_needed.binds (ps := ["work"]) fun _ _ _ _ _ _ us hl => match us, hl with | [_], _ => rfl
  have F_chg := fun_mk (st := st_chg) l_chg u_chg k_chg
  have B_chg := F_chg.binds (ps := ["work", "number", "numbers", "row"]) fun _ _ _ _ _ _ us hl => match us, hl with | [_, _, _, _], _ => rfl
  have F_ask := fun_mk (st := st_ask) l_ask u_ask k_ask
  have B_ask := F_ask.binds (ps := ["work", "number", "numbers", "row"]) fun _ _ _ _ _ _ us hl => match us, hl with | [_, _, _, _], _ => rfl
  have F_read := fun_mk (st := st_read) l_read u_read k_read
  have B_read := F_read.binds (ps := ["calls", "at"]) fun _ _ _ _ _ _ us hl => match us, hl with | [_, _], _ => rfl
  have F_ans := fun_mk (st := st_ans) l_ans u_ans k_ans
  have B_ans := F_ans.binds (ps := ["calls"]) fun _ _ _ _ _ _ us hl => match us, hl with | [_], _ => rfl
  let A : Ads := { cW := cW, cG := cG, cR := cR, cX := cX, aP := aP, aF := aF, t_SAME := t_SAME, t_APART := t_APART, t_LEAST := t_LEAST, t_MOST := t_MOST, t_MOST_STEPS := t_MOST_STEPS, t_MOST_RULES := t_MOST_RULES, f_groups := f_groups, d_groups := fnOf "groups" "groups" (defArgs st_groups) (defBody st_groups) (defScope st_groups) .none kV_groups dc_groups pm_groups an_groups cd_groups ct_groups, f_gut := f_gut, d_gut := fnOf "groups_up_to" "groups_up_to" (defArgs st_gut) (defBody st_gut) (defScope st_gut) .none kV_gut dc_gut pm_gut an_gut cd_gut ct_gut, f_wInit := f_wInit, d_wInit := fnOf "__init__" "Work.__init__" (defArgs st_wInit) (defBody st_wInit) (defScope st_wInit) .none kV_wInit dc_wInit pm_wInit an_wInit cd_wInit ct_wInit, f_wKept := f_wKept, d_wKept := fnOf "is_kept" "Work.is_kept" (defArgs st_wKept) (defBody st_wKept) (defScope st_wKept) .none kV_wKept dc_wKept pm_wKept an_wKept cd_wKept ct_wKept, f_wCh := f_wCh, d_wCh := fnOf "choices" "Work.choices" (defArgs st_wCh) (defBody st_wCh) (defScope st_wCh) .none kV_wCh dc_wCh pm_wCh an_wCh cd_wCh ct_wCh, f_wPl := f_wPl, d_wPl := fnOf "plans" "Work.plans" (defArgs st_wPl) (defBody st_wPl) (defScope st_wPl) .none kV_wPl dc_wPl pm_wPl an_wPl cd_wPl ct_wPl, f_wCan := f_wCan, d_wCan := fnOf "can_end" "Work.can_end" (defArgs st_wCan) (defBody st_wCan) (defScope st_wCan) .none kV_wCan dc_wCan pm_wCan an_wCan cd_wCan ct_wCan, f_wNext := f_wNext, d_wNext := fnOf "next_people" "Work.next_people" (defArgs st_wNext) (defBody st_wNext) (defScope st_wNext) .none kV_wNext dc_wNext pm_wNext an_wNext cd_wNext ct_wNext, f_wBrk := f_wBrk, d_wBrk := fnOf "breaking" "Work.breaking" (defArgs st_wBrk) (defBody st_wBrk) (defScope st_wBrk) .none kV_wBrk dc_wBrk pm_wBrk an_wBrk cd_wBrk ct_wBrk, f_gInit := f_gInit, d_gInit := fnOf "__init__" "Game.__init__" (defArgs st_gInit) (defBody st_gInit) (defScope st_gInit) .none kV_gInit dc_gInit pm_gInit an_gInit cd_gInit ct_gInit, f_gGood := f_gGood, d_gGood := fnOf "for_good" "Game.for_good" (defArgs st_gGood) (defBody st_gGood) (defScope st_gGood) .none kV_gGood dc_gGood pm_gGood an_gGood cd_gGood ct_gGood, f_gAll := f_gAll, d_gAll := fnOf "ends_for_all" "Game.ends_for_all" (defArgs st_gAll) (defBody st_gAll) (defScope st_gAll) .none kV_gAll dc_gAll pm_gAll an_gAll cd_gAll ct_gAll, f_gSome := f_gSome, d_gSome := fnOf "ends_by_some" "Game.ends_by_some" (defArgs st_gSome) (defBody st_gSome) (defScope st_gSome) .none kV_gSome dc_gSome pm_gSome an_gSome cd_gSome ct_gSome, f_gTurn := f_gTurn, d_gTurn := fnOf "by_turns" "Game.by_turns" (defArgs st_gTurn) (defBody st_gTurn) (defScope st_gTurn) .none kV_gTurn dc_gTurn pm_gTurn an_gTurn cd_gTurn ct_gTurn, f_ea := f_ea, d_ea := fnOf "ends_away" "ends_away" (defArgs st_ea) (defBody st_ea) (defScope st_ea) .none kV_ea dc_ea pm_ea an_ea cd_ea ct_ea, f_rInit := f_rInit, d_rInit := fnOf "__init__" "Rule.__init__" (defArgs st_rInit) (defBody st_rInit) (defScope st_rInit) .none kV_rInit dc_rInit pm_rInit an_rInit cd_rInit ct_rInit, f_rKept := f_rKept, d_rKept := fnOf "is_kept" "Rule.is_kept" (defArgs st_rKept) (defBody st_rKept) (defScope st_rKept) .none kV_rKept dc_rKept pm_rKept an_rKept cd_rKept ct_rKept, f_xInit := f_xInit, d_xInit := fnOf "__init__" "Refusal.__init__" (defArgs st_xInit) (defBody st_xInit) (defScope st_xInit) .none kV_xInit dc_xInit pm_xInit an_xInit cd_xInit ct_xInit, f_rfs := f_rfs, d_rfs := fnOf "refuse_if" "refuse_if" (defArgs st_rfs) (defBody st_rfs) (defScope st_rfs) .none kV_rfs dc_rfs pm_rfs an_rfs cd_rfs ct_rfs, f_rises := f_rises, d_rises := fnOf "rises" "rises" (defArgs st_rises) (defBody st_rises) (defScope st_rises) .none kV_rises dc_rises pm_rises an_rises cd_rises ct_rises, f_listed := f_listed, d_listed := fnOf "listed" "listed" (defArgs st_listed) (defBody st_listed) (defScope st_listed) .none kV_listed dc_listed pm_listed an_listed cd_listed ct_listed, f_addS := f_addS, d_addS := fnOf "add_step" "add_step" (defArgs st_addS) (defBody st_addS) (defScope st_addS) .none kV_addS dc_addS pm_addS an_addS cd_addS ct_addS, f_allow := f_allow, d_allow := fnOf "allow" "allow" (defArgs st_allow) (defBody st_allow) (defScope st_allow) .none kV_allow dc_allow pm_allow an_allow cd_allow ct_allow, f_addR := f_addR, d_addR := fnOf "add_rule" "add_rule" (defArgs st_addR) (defBody st_addR) (defScope st_addR) .none kV_addR dc_addR pm_addR an_addR cd_addR ct_addR, f_two := f_two, d_two := fnOf "rule_of_two" "rule_of_two" (defArgs st_two) (defBody st_two) (defScope st_two) .none kV_two dc_two pm_two an_two cd_two ct_two, f_some_ := f_some_, d_some_ := fnOf "rule_of_some" "rule_of_some" (defArgs st_some_) (defBody st_some_) (defScope st_some_) .none kV_some_ dc_some_ pm_some_ an_some_ cd_some_ ct_some_, f_strike := f_strike, d_strike := fnOf "strike" "strike" (defArgs st_strike) (defBody st_strike) (defScope st_strike) .none kV_strike dc_strike pm_strike an_strike cd_strike ct_strike, f_fplan := f_fplan, d_fplan := fnOf "first_plan" "first_plan" (defArgs st_fplan) (defBody st_fplan) (defScope st_fplan) .none kV_fplan dc_fplan pm_fplan an_fplan cd_fplan ct_fplan, f_who := f_who, d_who := fnOf "who" "who" (defArgs st_who) (defBody st_who) (defScope st_who) .none kV_who dc_who pm_who an_who cd_who ct_who, f_did := f_did, d_did := fnOf "did" "did" (defArgs st_did) (defBody st_did) (defScope st_did) .none kV_did dc_did pm_did an_did cd_did ct_did, f_undo := f_undo, d_undo := fnOf "undo" "undo" (defArgs st_undo) (defBody st_undo) (defScope st_undo) .none kV_undo dc_undo pm_undo an_undo cd_undo ct_undo, f_away := f_away, d_away := fnOf "away" "away" (defArgs st_away) (defBody st_away) (defScope st_away) .none kV_away dc_away pm_away an_away cd_away ct_away, f_needed := f_needed, d_needed := fnOf "needed" "needed" (defArgs st_needed) (defBody st_needed) (defScope st_needed) .none kV_needed dc_needed pm_needed an_needed cd_needed ct_needed, f_chg := f_chg, d_chg := fnOf "changing" "changing" (defArgs st_chg) (defBody st_chg) (defScope st_chg) .none kV_chg dc_chg pm_chg an_chg cd_chg ct_chg, f_ask := f_ask, d_ask := fnOf "asking" "asking" (defArgs st_ask) (defBody st_ask) (defScope st_ask) .none kV_ask dc_ask pm_ask an_ask cd_ask ct_ask, f_read := f_read, d_read := fnOf "read_call" "read_call" (defArgs st_read) (defBody st_read) (defScope st_read) .none kV_read dc_read pm_read an_read cd_read ct_read, f_ans := fa, d_ans := fnOf "answers" "answers" (defArgs st_ans) (defBody st_ans) (defScope st_ans) .none kV_ans dc_ans pm_ans an_ans cd_ans ct_ans }
  have tabs : ∃ qs : List Addr, (∀ H : Hp, SqT K H A.aF (qs.map V.ref)) ∧ ∀ (i : Nat) (n k : Nat), forms[i]? = some (n, k) → ∃ q, qs[i]? = some q ∧ ∀ H : Hp, SqT K H q [.int (n : Int), .int (k : Int)] := by
    refine ⟨[q0, q1, q2, q3, q4, q5, q6, q7, q8, q9, q10, q11, q12, q13, q14], fun H => .inr ⟨_, _, _, l_F, rfl, rfl, (by rw [sizeLine_eq]; show 15 ≤ 16777216; decide), (.cons rfl (.cons rfl (.cons rfl (.cons rfl (.cons rfl (.cons rfl (.cons rfl (.cons rfl (.cons rfl (.cons rfl (.cons rfl (.cons rfl (.cons rfl (.cons rfl (.cons rfl .nil)))))))))))))))⟩, fun i n k e => ?_⟩
    have hi : i < 15 := (List.getElem?_eq_some_iff.mp e).1
    have hc : i = 0 ∨ i = 1 ∨ i = 2 ∨ i = 3 ∨ i = 4 ∨ i = 5 ∨ i = 6 ∨ i = 7 ∨ i = 8 ∨ i = 9 ∨ i = 10 ∨ i = 11 ∨ i = 12 ∨ i = 13 ∨ i = 14 := by omega
    rcases hc with z | z | z | z | z | z | z | z | z | z | z | z | z | z | z
    · subst z; cases e; exact ⟨q0, rfl, fun H => .inr ⟨_, _, _, l_q0, rfl, rfl, (by rw [sizeLine_eq]; show 2 ≤ 16777216; decide), (.cons ⟨_, rfl⟩ (.cons ⟨_, rfl⟩ .nil))⟩⟩
    · subst z; cases e; exact ⟨q1, rfl, fun H => .inr ⟨_, _, _, l_q1, rfl, rfl, (by rw [sizeLine_eq]; show 2 ≤ 16777216; decide), (.cons ⟨_, rfl⟩ (.cons ⟨_, rfl⟩ .nil))⟩⟩
    · subst z; cases e; exact ⟨q2, rfl, fun H => .inr ⟨_, _, _, l_q2, rfl, rfl, (by rw [sizeLine_eq]; show 2 ≤ 16777216; decide), (.cons ⟨_, rfl⟩ (.cons ⟨_, rfl⟩ .nil))⟩⟩
    · subst z; cases e; exact ⟨q3, rfl, fun H => .inr ⟨_, _, _, l_q3, rfl, rfl, (by rw [sizeLine_eq]; show 2 ≤ 16777216; decide), (.cons ⟨_, rfl⟩ (.cons ⟨_, rfl⟩ .nil))⟩⟩
    · subst z; cases e; exact ⟨q4, rfl, fun H => .inr ⟨_, _, _, l_q4, rfl, rfl, (by rw [sizeLine_eq]; show 2 ≤ 16777216; decide), (.cons ⟨_, rfl⟩ (.cons ⟨_, rfl⟩ .nil))⟩⟩
    · subst z; cases e; exact ⟨q5, rfl, fun H => .inr ⟨_, _, _, l_q5, rfl, rfl, (by rw [sizeLine_eq]; show 2 ≤ 16777216; decide), (.cons ⟨_, rfl⟩ (.cons ⟨_, rfl⟩ .nil))⟩⟩
    · subst z; cases e; exact ⟨q6, rfl, fun H => .inr ⟨_, _, _, l_q6, rfl, rfl, (by rw [sizeLine_eq]; show 2 ≤ 16777216; decide), (.cons ⟨_, rfl⟩ (.cons ⟨_, rfl⟩ .nil))⟩⟩
    · subst z; cases e; exact ⟨q7, rfl, fun H => .inr ⟨_, _, _, l_q7, rfl, rfl, (by rw [sizeLine_eq]; show 2 ≤ 16777216; decide), (.cons ⟨_, rfl⟩ (.cons ⟨_, rfl⟩ .nil))⟩⟩
    · subst z; cases e; exact ⟨q8, rfl, fun H => .inr ⟨_, _, _, l_q8, rfl, rfl, (by rw [sizeLine_eq]; show 2 ≤ 16777216; decide), (.cons ⟨_, rfl⟩ (.cons ⟨_, rfl⟩ .nil))⟩⟩
    · subst z; cases e; exact ⟨q9, rfl, fun H => .inr ⟨_, _, _, l_q9, rfl, rfl, (by rw [sizeLine_eq]; show 2 ≤ 16777216; decide), (.cons ⟨_, rfl⟩ (.cons ⟨_, rfl⟩ .nil))⟩⟩
    · subst z; cases e; exact ⟨q10, rfl, fun H => .inr ⟨_, _, _, l_q10, rfl, rfl, (by rw [sizeLine_eq]; show 2 ≤ 16777216; decide), (.cons ⟨_, rfl⟩ (.cons ⟨_, rfl⟩ .nil))⟩⟩
    · subst z; cases e; exact ⟨q11, rfl, fun H => .inr ⟨_, _, _, l_q11, rfl, rfl, (by rw [sizeLine_eq]; show 2 ≤ 16777216; decide), (.cons ⟨_, rfl⟩ (.cons ⟨_, rfl⟩ .nil))⟩⟩
    · subst z; cases e; exact ⟨q12, rfl, fun H => .inr ⟨_, _, _, l_q12, rfl, rfl, (by rw [sizeLine_eq]; show 2 ≤ 16777216; decide), (.cons ⟨_, rfl⟩ (.cons ⟨_, rfl⟩ .nil))⟩⟩
    · subst z; cases e; exact ⟨q13, rfl, fun H => .inr ⟨_, _, _, l_q13, rfl, rfl, (by rw [sizeLine_eq]; show 2 ≤ 16777216; decide), (.cons ⟨_, rfl⟩ (.cons ⟨_, rfl⟩ .nil))⟩⟩
    · subst z; cases e; exact ⟨q14, rfl, fun H => .inr ⟨_, _, _, l_q14, rfl, rfl, (by rw [sizeLine_eq]; show 2 ≤ 16777216; decide), (.cons ⟨_, rfl⟩ (.cons ⟨_, rfl⟩ .nil))⟩⟩
  have T : Txt K mg A :=
    { n_len := mg_none_of X G z_len,
      n_range := mg_none_of X G z_range,
      n_tuple := mg_none_of X G z_tuple,
      n_all := mg_none_of X G z_all,
      n_any := mg_none_of X G z_any,
      n_set := mg_none_of X G z_set,
      n_list := mg_none_of X G z_list,
      n_ValueError := mg_none_of X G z_ValueError,
      g_SAME := mg_of X G v_SAME,
      g_APART := mg_of X G v_APART,
      g_LEAST := mg_of X G v_LEAST,
      g_MOST := mg_of X G v_MOST,
      g_MOST_STEPS := mg_of X G v_MOST_STEPS,
      g_MOST_RULES := mg_of X G v_MOST_RULES,
      gP := mg_of X G a_P,
      tP := fun H => .inr ⟨_, _, _, l_P, rfl, rfl, (by rw [sizeLine_eq]; show 6 ≤ 16777216; decide), (.cons ⟨_, rfl⟩ (.cons ⟨_, rfl⟩ (.cons ⟨_, rfl⟩ (.cons ⟨_, rfl⟩ (.cons ⟨_, rfl⟩ (.cons ⟨_, rfl⟩ .nil))))))⟩,
      gF := mg_of X G a_F,
      tF := tabs,
      c_Work := ⟨pg_Work, hd_Work, po_Work, sa_Work⟩,
      gc_Work := mg_of X G a_Work,
      na_W_may := n_W_may,
      na_W_rules := n_W_rules,
      na_W_doers := n_W_doers,
      c_Game := ⟨pg_Game, hd_Game, po_Game, sa_Game⟩,
      gc_Game := mg_of X G a_Game,
      na_G_work := n_G_work,
      na_G_most := n_G_most,
      na_G_groups := n_G_groups,
      na_G_known := n_G_known,
      c_Rule := ⟨pg_Rule, hd_Rule, po_Rule, sa_Rule⟩,
      gc_Rule := mg_of X G a_Rule,
      na_R_kind := n_R_kind,
      na_R_number := n_R_number,
      na_R_steps := n_R_steps,
      gc_Refusal := mg_of X G a_X,
      xO := ⟨⟨nm, qn, NN, bs, _, sn, sub, ab, col, dd, m0, m1, m2, m3, m5, xL, by decide +kernel⟩, xsa, xeC, xtC, xkC⟩,
      xF := ⟨xga, xgg, xeC, xhC⟩,
      xN := xnb,
      xI := a_xInit,
      xT := xty,
      xFun := F_xInit,
      xB := B_xInit,
      xV := xV,
      xE := exm_self xeC xiC xtC xsC,
      h_groups := ⟨F_groups, B_groups, mg_of X G a_groups⟩,
      h_gut := ⟨F_gut, B_gut, mg_of X G a_gut⟩,
      h_wInit := ⟨F_wInit, B_wInit, ⟨mk_Work, a_wInit, i_wInit, kc_Work⟩⟩,
      h_wKept := ⟨F_wKept, B_wKept, ⟨a_wKept, i_wKept, k_wKept⟩⟩,
      h_wCh := ⟨F_wCh, B_wCh, ⟨a_wCh, i_wCh, k_wCh⟩⟩,
      h_wPl := ⟨F_wPl, B_wPl, ⟨a_wPl, i_wPl, k_wPl⟩⟩,
      h_wCan := ⟨F_wCan, B_wCan, ⟨a_wCan, i_wCan, k_wCan⟩⟩,
      h_wNext := ⟨F_wNext, B_wNext, ⟨a_wNext, i_wNext, k_wNext⟩⟩,
      h_wBrk := ⟨F_wBrk, B_wBrk, ⟨a_wBrk, i_wBrk, k_wBrk⟩⟩,
      h_gInit := ⟨F_gInit, B_gInit, ⟨mk_Game, a_gInit, i_gInit, kc_Game⟩⟩,
      h_gGood := ⟨F_gGood, B_gGood, ⟨a_gGood, i_gGood, k_gGood⟩⟩,
      h_gAll := ⟨F_gAll, B_gAll, ⟨a_gAll, i_gAll, k_gAll⟩⟩,
      h_gSome := ⟨F_gSome, B_gSome, ⟨a_gSome, i_gSome, k_gSome⟩⟩,
      h_gTurn := ⟨F_gTurn, B_gTurn, ⟨a_gTurn, i_gTurn, k_gTurn⟩⟩,
      h_ea := ⟨F_ea, B_ea, mg_of X G a_ea⟩,
      h_rInit := ⟨F_rInit, B_rInit, ⟨mk_Rule, a_rInit, i_rInit, kc_Rule⟩⟩,
      h_rKept := ⟨F_rKept, B_rKept, ⟨a_rKept, i_rKept, k_rKept⟩⟩,
      h_rfs := ⟨F_rfs, B_rfs, mg_of X G a_rfs⟩,
      h_rises := ⟨F_rises, B_rises, mg_of X G a_rises⟩,
      h_listed := ⟨F_listed, B_listed, mg_of X G a_listed⟩,
      h_addS := ⟨F_addS, B_addS, mg_of X G a_addS⟩,
      h_allow := ⟨F_allow, B_allow, mg_of X G a_allow⟩,
      h_addR := ⟨F_addR, B_addR, mg_of X G a_addR⟩,
      h_two := ⟨F_two, B_two, mg_of X G a_two⟩,
      h_some_ := ⟨F_some_, B_some_, mg_of X G a_some_⟩,
      h_strike := ⟨F_strike, B_strike, mg_of X G a_strike⟩,
      h_fplan := ⟨F_fplan, B_fplan, mg_of X G a_fplan⟩,
      h_who := ⟨F_who, B_who, mg_of X G a_who⟩,
      h_did := ⟨F_did, B_did, mg_of X G a_did⟩,
      h_undo := ⟨F_undo, B_undo, mg_of X G a_undo⟩,
      h_away := ⟨F_away, B_away, mg_of X G a_away⟩,
      h_needed := ⟨F_needed, B_needed, mg_of X G a_needed⟩,
      h_chg := ⟨F_chg, B_chg, mg_of X G a_chg⟩,
      h_ask := ⟨F_ask, B_ask, mg_of X G a_ask⟩,
      h_read := ⟨F_read, B_read, mg_of X G a_read⟩,
      h_ans := ⟨F_ans, B_ans, mg_of X G a_ans⟩ }
  exact ⟨_, fun s us hu => match us, hu with | [_], _ => .of_eq rfl, fun base _ _ => ok_ans T⟩
end Sf

/-! SfEnd: the row (printed by gen.py). -/
open PySem PySem.W PyProof.Rows
set_option maxRecDepth 100000 in
set_option maxHeartbeats 8000000 in
theorem PySem.Challenge.cw_stepfolk_s01_answers_holds : PySem.Challenge.rw_stepfolk_s01_answers.Holds := by
  w_on; k_headS; (case hw => exact ⟨[.list [.int 8]], by decide +kernel, by decide +kernel⟩)
  k_fillS
  refine L2.walk_specK (r := PySem.Challenge.rw_stepfolk_s01_answers) (k := 23) (CX := L2.CX0) (ps := ["calls"]) (sp := Sf.spAns) (by decide +kernel) rfl rfl ⟨rfl, by decide, by decide⟩ (fun w h Y => PySem.W.kIn_of Y) ?F ?S (fun _ _ _ _ z => z)
  case F =>
    intro w mg fa h Y KX G hmg
    refine' Sf.all_mk KX G hmg ?a_Work ?pg_Work ?hd_Work ?po_Work ?sa_Work ?mk_Work ?kc_Work ?n_W_may ?n_W_rules ?n_W_doers ?a_Game ?pg_Game ?hd_Game ?po_Game ?sa_Game ?mk_Game ?kc_Game ?n_G_work ?n_G_most ?n_G_groups ?n_G_known ?a_Rule ?pg_Rule ?hd_Rule ?po_Rule ?sa_Rule ?mk_Rule ?kc_Rule ?n_R_kind ?n_R_number ?n_R_steps ?a_X ?a_groups ?l_groups ?u_groups ?k_groups ?a_gut ?l_gut ?u_gut ?k_gut ?a_wInit ?i_wInit ?l_wInit ?u_wInit ?k_wInit ?a_wKept ?i_wKept ?l_wKept ?u_wKept ?k_wKept ?a_wCh ?i_wCh ?l_wCh ?u_wCh ?k_wCh ?a_wPl ?i_wPl ?l_wPl ?u_wPl ?k_wPl ?a_wCan ?i_wCan ?l_wCan ?u_wCan ?k_wCan ?a_wNext ?i_wNext ?l_wNext ?u_wNext ?k_wNext ?a_wBrk ?i_wBrk ?l_wBrk ?u_wBrk ?k_wBrk ?a_gInit ?i_gInit ?l_gInit ?u_gInit ?k_gInit ?a_gGood ?i_gGood ?l_gGood ?u_gGood ?k_gGood ?a_gAll ?i_gAll ?l_gAll ?u_gAll ?k_gAll ?a_gSome ?i_gSome ?l_gSome ?u_gSome ?k_gSome ?a_gTurn ?i_gTurn ?l_gTurn ?u_gTurn ?k_gTurn ?a_ea ?l_ea ?u_ea ?k_ea ?a_rInit ?i_rInit ?l_rInit ?u_rInit ?k_rInit ?a_rKept ?i_rKept ?l_rKept ?u_rKept ?k_rKept ?a_xInit ?l_xInit ?u_xInit ?k_xInit ?a_rfs ?l_rfs ?u_rfs ?k_rfs ?a_rises ?l_rises ?u_rises ?k_rises ?a_listed ?l_listed ?u_listed ?k_listed ?a_addS ?l_addS ?u_addS ?k_addS ?a_allow ?l_allow ?u_allow ?k_allow ?a_addR ?l_addR ?u_addR ?k_addR ?a_two ?l_two ?u_two ?k_two ?a_some_ ?l_some_ ?u_some_ ?k_some_ ?a_strike ?l_strike ?u_strike ?k_strike ?a_fplan ?l_fplan ?u_fplan ?k_fplan ?a_who ?l_who ?u_who ?k_who ?a_did ?l_did ?u_did ?k_did ?a_undo ?l_undo ?u_undo ?k_undo ?a_away ?l_away ?u_away ?k_away ?a_needed ?l_needed ?u_needed ?k_needed ?a_chg ?l_chg ?u_chg ?k_chg ?a_ask ?l_ask ?u_ask ?k_ask ?a_read ?l_read ?u_read ?k_read ?a_ans ?l_ans ?u_ans ?k_ans ?xL ?xsa ?xga ?xgg ?xnb ?xty ?xkC ?xeC ?xtC ?xhC ?xiC ?xsC ?xV ?z_len ?z_range ?z_tuple ?z_all ?z_any ?z_set ?z_list ?z_ValueError ?v_SAME ?v_APART ?v_LEAST ?v_MOST ?v_MOST_STEPS ?v_MOST_RULES ?a_P ?l_P ?a_F ?l_F ?l_q0 ?l_q1 ?l_q2 ?l_q3 ?l_q4 ?l_q5 ?l_q6 ?l_q7 ?l_q8 ?l_q9 ?l_q10 ?l_q11 ?l_q12 ?l_q13 ?l_q14
    (case a_Work => k_is)
    (case pg_Work => k_is)
    (case hd_Work => k_is)
    (case po_Work => k_is)
    (case sa_Work => k_is)
    (case mk_Work => k_is)
    (case kc_Work => k_is)
    (case n_W_may => k_is)
    (case n_W_rules => k_is)
    (case n_W_doers => k_is)
    (case a_Game => k_is)
    (case pg_Game => k_is)
    (case hd_Game => k_is)
    (case po_Game => k_is)
    (case sa_Game => k_is)
    (case mk_Game => k_is)
    (case kc_Game => k_is)
    (case n_G_work => k_is)
    (case n_G_most => k_is)
    (case n_G_groups => k_is)
    (case n_G_known => k_is)
    (case a_Rule => k_is)
    (case pg_Rule => k_is)
    (case hd_Rule => k_is)
    (case po_Rule => k_is)
    (case sa_Rule => k_is)
    (case mk_Rule => k_is)
    (case kc_Rule => k_is)
    (case n_R_kind => k_is)
    (case n_R_number => k_is)
    (case n_R_steps => k_is)
    (case a_X => k_is)
    (case a_groups => k_is)
    (case l_groups => k_is)
    (case u_groups => k_is)
    (case k_groups => k_is)
    (case a_gut => k_is)
    (case l_gut => k_is)
    (case u_gut => k_is)
    (case k_gut => k_is)
    (case a_wInit => k_is)
    (case i_wInit => k_is)
    (case l_wInit => k_is)
    (case u_wInit => k_is)
    (case k_wInit => k_is)
    (case a_wKept => k_is)
    (case i_wKept => k_is)
    (case l_wKept => k_is)
    (case u_wKept => k_is)
    (case k_wKept => k_is)
    (case a_wCh => k_is)
    (case i_wCh => k_is)
    (case l_wCh => k_is)
    (case u_wCh => k_is)
    (case k_wCh => k_is)
    (case a_wPl => k_is)
    (case i_wPl => k_is)
    (case l_wPl => k_is)
    (case u_wPl => k_is)
    (case k_wPl => k_is)
    (case a_wCan => k_is)
    (case i_wCan => k_is)
    (case l_wCan => k_is)
    (case u_wCan => k_is)
    (case k_wCan => k_is)
    (case a_wNext => k_is)
    (case i_wNext => k_is)
    (case l_wNext => k_is)
    (case u_wNext => k_is)
    (case k_wNext => k_is)
    (case a_wBrk => k_is)
    (case i_wBrk => k_is)
    (case l_wBrk => k_is)
    (case u_wBrk => k_is)
    (case k_wBrk => k_is)
    (case a_gInit => k_is)
    (case i_gInit => k_is)
    (case l_gInit => k_is)
    (case u_gInit => k_is)
    (case k_gInit => k_is)
    (case a_gGood => k_is)
    (case i_gGood => k_is)
    (case l_gGood => k_is)
    (case u_gGood => k_is)
    (case k_gGood => k_is)
    (case a_gAll => k_is)
    (case i_gAll => k_is)
    (case l_gAll => k_is)
    (case u_gAll => k_is)
    (case k_gAll => k_is)
    (case a_gSome => k_is)
    (case i_gSome => k_is)
    (case l_gSome => k_is)
    (case u_gSome => k_is)
    (case k_gSome => k_is)
    (case a_gTurn => k_is)
    (case i_gTurn => k_is)
    (case l_gTurn => k_is)
    (case u_gTurn => k_is)
    (case k_gTurn => k_is)
    (case a_ea => k_is)
    (case l_ea => k_is)
    (case u_ea => k_is)
    (case k_ea => k_is)
    (case a_rInit => k_is)
    (case i_rInit => k_is)
    (case l_rInit => k_is)
    (case u_rInit => k_is)
    (case k_rInit => k_is)
    (case a_rKept => k_is)
    (case i_rKept => k_is)
    (case l_rKept => k_is)
    (case u_rKept => k_is)
    (case k_rKept => k_is)
    (case a_xInit => k_is)
    (case l_xInit => k_is)
    (case u_xInit => k_is)
    (case k_xInit => k_is)
    (case a_rfs => k_is)
    (case l_rfs => k_is)
    (case u_rfs => k_is)
    (case k_rfs => k_is)
    (case a_rises => k_is)
    (case l_rises => k_is)
    (case u_rises => k_is)
    (case k_rises => k_is)
    (case a_listed => k_is)
    (case l_listed => k_is)
    (case u_listed => k_is)
    (case k_listed => k_is)
    (case a_addS => k_is)
    (case l_addS => k_is)
    (case u_addS => k_is)
    (case k_addS => k_is)
    (case a_allow => k_is)
    (case l_allow => k_is)
    (case u_allow => k_is)
    (case k_allow => k_is)
    (case a_addR => k_is)
    (case l_addR => k_is)
    (case u_addR => k_is)
    (case k_addR => k_is)
    (case a_two => k_is)
    (case l_two => k_is)
    (case u_two => k_is)
    (case k_two => k_is)
    (case a_some_ => k_is)
    (case l_some_ => k_is)
    (case u_some_ => k_is)
    (case k_some_ => k_is)
    (case a_strike => k_is)
    (case l_strike => k_is)
    (case u_strike => k_is)
    (case k_strike => k_is)
    (case a_fplan => k_is)
    (case l_fplan => k_is)
    (case u_fplan => k_is)
    (case k_fplan => k_is)
    (case a_who => k_is)
    (case l_who => k_is)
    (case u_who => k_is)
    (case k_who => k_is)
    (case a_did => k_is)
    (case l_did => k_is)
    (case u_did => k_is)
    (case k_did => k_is)
    (case a_undo => k_is)
    (case l_undo => k_is)
    (case u_undo => k_is)
    (case k_undo => k_is)
    (case a_away => k_is)
    (case l_away => k_is)
    (case u_away => k_is)
    (case k_away => k_is)
    (case a_needed => k_is)
    (case l_needed => k_is)
    (case u_needed => k_is)
    (case k_needed => k_is)
    (case a_chg => k_is)
    (case l_chg => k_is)
    (case u_chg => k_is)
    (case k_chg => k_is)
    (case a_ask => k_is)
    (case l_ask => k_is)
    (case u_ask => k_is)
    (case k_ask => k_is)
    (case a_read => k_is)
    (case l_read => k_is)
    (case u_read => k_is)
    (case k_read => k_is)
    (case a_ans => k_is)
    (case l_ans => k_is)
    (case u_ans => k_is)
    (case k_ans => k_is)
    (case xL => k_is)
    (case xsa => k_is)
    (case xga => k_is)
    (case xgg => k_is)
    (case xnb => k_is)
    (case xty => k_is)
    (case xkC => k_is)
    (case xeC => k_is)
    (case xtC => k_is)
    (case xhC => k_is)
    (case xiC => k_is)
    (case xsC => first | rfl | k_is)
    (case xV => first | rfl | k_is)
    (case z_len => k_is)
    (case z_range => k_is)
    (case z_tuple => k_is)
    (case z_all => k_is)
    (case z_any => k_is)
    (case z_set => k_is)
    (case z_list => k_is)
    (case z_ValueError => k_is)
    (case v_SAME => k_is)
    (case v_APART => k_is)
    (case v_LEAST => k_is)
    (case v_MOST => k_is)
    (case v_MOST_STEPS => k_is)
    (case v_MOST_RULES => k_is)
    (case a_P => k_is)
    (case l_P => k_is)
    (case a_F => k_is)
    (case l_F => k_is)
    (case l_q0 => k_is)
    (case l_q1 => k_is)
    (case l_q2 => k_is)
    (case l_q3 => k_is)
    (case l_q4 => k_is)
    (case l_q5 => k_is)
    (case l_q6 => k_is)
    (case l_q7 => k_is)
    (case l_q8 => k_is)
    (case l_q9 => k_is)
    (case l_q10 => k_is)
    (case l_q11 => k_is)
    (case l_q12 => k_is)
    (case l_q13 => k_is)
    (case l_q14 => k_is)
  case S =>
    intro K H xs a hO hwi hask hx
    cases hx with
    | cons h1 h2 =>
      cases h2
      cases h1 with
      | lst hs ha =>
        have e := L2.ints_dw a.1 _ ha
        subst e
        exact ⟨_, a.1, rfl, hs, hask, fun H' p hp => .lst (L2.SqL.of hp) (L2.dw_ints _)⟩
#print axioms PySem.Challenge.cw_stepfolk_s01_answers_holds
