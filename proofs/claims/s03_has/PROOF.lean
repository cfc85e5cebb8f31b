import PyProof.Rows.All
import Wide.All
import OpenK.AllK
import Wide.FinOn
import Open.SpecLaws
import KE.OsHead
import KE.OsGo
import HandS.ForSpec
import HandS.Comp
import HandS.Deep
import PySem.Challenge.RW_letterwords_s03_has
set_option Elab.async false
set_option maxRecDepth 100000
set_option maxHeartbeats 2000000
/-! The mirror of letterwords over whole numbers, and that it answers as the specification says. Plain Lean: no program in sight. -/
namespace LW
open Kys1Neutral (natsOf)
/-! ### 1. The mirror -/
def isLarge (b : Int) : Bool := decide (65 ≤ b) && decide (b < 65 + 26)
def isSmall (b : Int) : Bool := decide (97 ≤ b) && decide (b < 97 + 26)
def isDigit (b : Int) : Bool := decide (48 ≤ b) && decide (b < 48 + 10)
def sortOf (b : Int) : Int := if (isLarge b || isSmall b) = true then 1 else if isDigit b = true then 2 else 0
def small (b : Int) : Int := if isLarge b = true then b - 65 + 97 else b
def runStep (rs : List (List Int)) (b : Int) : List (List Int) := match rs.getLast? with
  | none => [[b]]
  | some r => if sortOf (r.getLastD 0) = sortOf b then rs.dropLast ++ [r ++ [b]] else rs ++ [[b]]
def runsOf (l : List Int) : List (List Int) := l.foldl runStep []
def lettersOf (r : List Int) : List Int := if (r.length : Int) < 2 then [] else (r.take 12).map small
def digitsOf (r : List Int) : List Int := [48 + (if (9 : Int) < (r.length : Int) then 9 else (r.length : Int))]
def wordOf (r : List Int) : List Int := if sortOf (r.headD 0) = 1 then lettersOf r else if sortOf (r.headD 0) = 2 then digitsOf r else []
def onceStep (f : List (List Int)) (w : List Int) : List (List Int) := if f.contains w = true then f else f ++ [w]
def once (l : List (List Int)) : List (List Int) := l.foldl onceStep []
def full (w : List Int) : Bool := !w.isEmpty
def wordsOf (l : List Int) : List (List Int) := (once (((runsOf l).map wordOf).filter full)).take 40
def told (l : List (List Int)) : List Int := l.flatMap fun w => w ++ [0]
def answerWords (l : List Int) : List Int := if l.length ≤ 2000 then ((wordsOf l).length : Int) :: told (wordsOf l) else [-22]
def answerSame (a b : List Int) : List Int := if a.length ≤ 2000 ∧ b.length ≤ 2000 then [(((wordsOf a).filter fun w => (wordsOf b).contains w).length : Int)] else [-22]
def isCount (w : List Int) : Bool := decide (w.length = 1) && (isDigit (w.headD 0) && !decide (w.headD 0 = 48))
def isWord (w : List Int) : Bool := isCount w || ((decide ((2 : Int) ≤ w.length) && decide ((w.length : Int) ≤ 12)) && (w.map isSmall).all id)
def answerHas (l w : List Int) : List Int := if l.length ≤ 2000 ∧ isWord w = true then [if (wordsOf l).contains w = true then 1 else 0] else [-22]
/-- natural numbers as whole ones -/
def up (l : List Nat) : List Int := l.map fun (x : Nat) => (x : Int)
/-! ### 2. Lists -/
theorem take_more {α : Type} : ∀ {l : List α} {i : Nat} {x : α}, l[i]? = some x → l.take (i + 1) = l.take i ++ [x]
  | [], i, x, h => by simp at h
  | a :: l, 0, x, h => by
    have e : a = x := Option.some.inj h
    subst e
    rfl
  | a :: l, i + 1, x, h => by
    have ih := take_more (l := l) (i := i) (x := x) h
    show a :: l.take (i + 1) = a :: l.take i ++ [x]
    rw [ih]
    rfl
theorem runsOf_more {l : List Int} {i : Nat} {z : Int} (h : l[i]? = some z) : runsOf (l.take (i + 1)) = runStep (runsOf (l.take i)) z := by
  unfold runsOf
  rw [take_more h, List.foldl_append]
  rfl
theorem once_more {l : List (List Int)} {i : Nat} {z : List Int} (h : l[i]? = some z) : once (l.take (i + 1)) = onceStep (once (l.take i)) z := by
  unfold once
  rw [take_more h, List.foldl_append]
  rfl
theorem runStep_nil (b : Int) : runStep [] b = [[b]] := rfl
theorem runStep_snoc (d : List (List Int)) (r : List Int) (b : Int) : runStep (d ++ [r]) b = if sortOf (r.getLastD 0) = sortOf b then d ++ [r ++ [b]] else d ++ [r] ++ [[b]] := by
  unfold runStep
  rw [List.getLast?_concat, List.dropLast_concat]
theorem snoc_cases {α : Type} (l : List α) : l = [] ∨ ∃ d r, l = d ++ [r] := by
  cases l with
  | nil => exact .inl rfl
  | cons a l => exact .inr ⟨(a :: l).dropLast, (a :: l).getLast (List.cons_ne_nil _ _), (List.dropLast_concat_getLast _).symm⟩
/-- what holds of all runs -/
structure RunsFit (n : Nat) (rs : List (List Int)) : Prop where
  len : rs.length ≤ n
  each : ∀ r ∈ rs, r ≠ [] ∧ r.length ≤ n
theorem RunsFit.step {n : Nat} {rs : List (List Int)} (h : RunsFit n rs) (b : Int) : RunsFit (n + 1) (runStep rs b) := by
  obtain ⟨h1, h2⟩ := h
  rcases snoc_cases rs with rfl | ⟨d, r, rfl⟩
  · rw [runStep_nil]
    refine ⟨by simp, fun r hr => ?_⟩
    simp at hr
    subst hr
    exact ⟨by simp, by simp⟩
  · rw [runStep_snoc]
    simp only [List.length_append, List.length_cons, List.length_nil] at h1
    have hr := h2 r (by simp)
    split
    · refine ⟨by simp only [List.length_append, List.length_cons, List.length_nil]; omega, fun x hx => ?_⟩
      rw [List.mem_append] at hx
      rcases hx with hx | hx
      · have := h2 x (by simp [hx])
        exact ⟨this.1, by omega⟩
      · simp at hx
        subst hx
        refine ⟨by simp, ?_⟩
        simp only [List.length_append, List.length_cons, List.length_nil]
        omega
    · refine ⟨by simp only [List.length_append, List.length_cons, List.length_nil]; omega, fun x hx => ?_⟩
      rw [List.mem_append] at hx
      rcases hx with hx | hx
      · have := h2 x hx
        exact ⟨this.1, by omega⟩
      · simp at hx
        subst hx
        exact ⟨by simp, by simp⟩
theorem RunsFit.fold : ∀ (l : List Int) {n : Nat} {rs : List (List Int)}, RunsFit n rs → RunsFit (n + l.length) (l.foldl runStep rs)
  | [], _, _, h => h
  | b :: l, n, rs, h => by
    have ih := RunsFit.fold l (h.step b)
    rw [List.length_cons, show n + (l.length + 1) = n + 1 + l.length by omega]
    exact ih
theorem runs_fit (l : List Int) : RunsFit l.length (runsOf l) := by
  have h := RunsFit.fold l (n := 0) (rs := []) ⟨Nat.le_refl _, fun r hr => by simp at hr⟩
  rw [Nat.zero_add] at h
  exact h
theorem lettersOf_len (r : List Int) : (lettersOf r).length ≤ 12 := by
  unfold lettersOf
  split
  · simp
  · rw [List.length_map, List.length_take]
    omega
theorem wordOf_len (r : List Int) : (wordOf r).length ≤ 12 := by
  unfold wordOf
  split
  · exact lettersOf_len r
  · split
    · simp [digitsOf]
    · simp
theorem onceStep_len (f : List (List Int)) (w : List Int) : (onceStep f w).length ≤ f.length + 1 := by
  unfold onceStep
  split
  · omega
  · simp
theorem once_fold_len : ∀ (l f : List (List Int)), (l.foldl onceStep f).length ≤ f.length + l.length
  | [], f => Nat.le_refl _
  | w :: l, f => by
    have ih := once_fold_len l (onceStep f w)
    have h := onceStep_len f w
    rw [List.foldl_cons, List.length_cons]
    omega
theorem once_len (l : List (List Int)) : (once l).length ≤ l.length := by
  have h := once_fold_len l []
  rw [List.length_nil, Nat.zero_add] at h
  exact h
theorem once_fold_mem : ∀ (l f : List (List Int)) (w : List Int), w ∈ l.foldl onceStep f → w ∈ f ∨ w ∈ l
  | [], f, w, h => .inl h
  | x :: l, f, w, h => by
    rw [List.foldl_cons] at h
    rcases once_fold_mem l _ w h with h | h
    · unfold onceStep at h
      split at h
      · exact .inl h
      · rw [List.mem_append] at h
        rcases h with h | h
        · exact .inl h
        · simp at h
          subst h
          exact .inr List.mem_cons_self
    · exact .inr (List.mem_cons_of_mem _ h)
theorem wordsOf_each {l w : List Int} (h : w ∈ wordsOf l) : w.length ≤ 12 := by
  have h1 := List.mem_of_mem_take h
  rcases once_fold_mem _ _ _ h1 with h2 | h2
  · simp at h2
  · have h3 := (List.mem_filter.mp h2).1
    obtain ⟨r, _, rfl⟩ := List.mem_map.mp h3
    exact wordOf_len r
theorem wordsOf_len (l : List Int) : (wordsOf l).length ≤ 40 := by
  unfold wordsOf
  rw [List.length_take]
  omega
/-! ### 3. The mirror is the specification -/
theorem ints_cons (x : Nat) (l : List Nat) : up (x :: l) = (x : Int) :: up l := rfl
theorem ints_append (a b : List Nat) : up (a ++ b) = up a ++ up b := List.map_append
theorem ints_length (a : List Nat) : (up a).length = a.length := List.length_map _
theorem ints_inj : ∀ {a b : List Nat}, up a = up b → a = b
  | [], [], _ => rfl
  | [], _ :: _, h => by cases h
  | _ :: _, [], h => by cases h
  | x :: a, y :: b, h => by
    rw [ints_cons, ints_cons] at h
    injection h with h1 h2
    rw [ints_inj h2, Int.ofNat.inj h1]
theorem ints_natsOf : ∀ {l : List Int}, (∀ x ∈ l, 0 ≤ x) → up (natsOf l) = l
  | [], _ => rfl
  | x :: l, h => by
    have h1 := h x List.mem_cons_self
    have ih := ints_natsOf (l := l) fun y hy => h y (List.mem_cons_of_mem _ hy)
    show ((x.toNat : Nat) : Int) :: up (natsOf l) = x :: l
    rw [ih, Int.toNat_of_nonneg h1]
theorem large_nat (b : Nat) : isLarge (b : Int) = Kys1.isLarge b := by
  unfold isLarge Kys1.isLarge
  rw [Bool.eq_iff_iff]
  simp only [Bool.and_eq_true, decide_eq_true_eq]
  omega
theorem small_nat (b : Nat) : isSmall (b : Int) = Kys1.isSmall b := by
  unfold isSmall Kys1.isSmall
  rw [Bool.eq_iff_iff]
  simp only [Bool.and_eq_true, decide_eq_true_eq]
  omega
theorem digit_nat (b : Nat) : isDigit (b : Int) = Kys1.isDigit b := by
  unfold isDigit Kys1.isDigit
  rw [Bool.eq_iff_iff]
  simp only [Bool.and_eq_true, decide_eq_true_eq]
  omega
theorem sort_nat (b : Nat) : sortOf (b : Int) = (Kys1.kind b : Nat) := by
  unfold sortOf Kys1.kind
  rw [large_nat, small_nat, digit_nat, Bool.or_comm]
  split
  · rfl
  · split <;> rfl
theorem smaller_nat (b : Nat) : small (b : Int) = (Kys1.small b : Nat) := by
  unfold small Kys1.small
  rw [large_nat]
  split
  · omega
  · rfl
def runsFrom : List Int → List Int → List (List Int)
  | r, [] => [r]
  | r, b :: l => if sortOf (r.getLastD 0) = sortOf b then runsFrom (r ++ [b]) l else r :: runsFrom [b] l
theorem fold_from : ∀ (l : List Int) (d : List (List Int)) (r : List Int), l.foldl runStep (d ++ [r]) = d ++ runsFrom r l
  | [], _, _ => rfl
  | b :: l, d, r => by
    rw [List.foldl_cons, runStep_snoc]
    unfold runsFrom
    split
    · exact fold_from l d (r ++ [b])
    · rw [fold_from l (d ++ [r]) [b], List.append_assoc]
      rfl
/-- a run of one kind -/
structure Hom (k : Nat) (r : List Nat) : Prop where
  ne : r ≠ []
  each : ∀ x ∈ r, Kys1.kind x = k
theorem Hom.one (b : Nat) : Hom (Kys1.kind b) [b] := ⟨by simp, fun x hx => by simp at hx; rw [hx]⟩
theorem Hom.more {k : Nat} {r : List Nat} {b : Nat} (h : Hom k r) (hb : Kys1.kind b = k) : Hom k (r ++ [b]) := ⟨by simp, fun x hx => by
  rw [List.mem_append] at hx
  rcases hx with hx | hx
  · exact h.each x hx
  · simp at hx
    rw [hx]
    exact hb⟩
theorem Hom.last {k : Nat} {r : List Nat} (h : Hom k r) : sortOf ((up r).getLastD 0) = (k : Int) := by
  rcases snoc_cases r with rfl | ⟨d, x, rfl⟩
  · exact absurd rfl h.ne
  · have e : (up (d ++ [x])).getLastD 0 = (x : Int) := by
      rw [ints_append]
      show (up d ++ [(x : Int)]).getLastD 0 = (x : Int)
      rw [List.getLastD_eq_getLast?, List.getLast?_concat]
      rfl
    rw [e, sort_nat, h.each x (by simp)]
def curOf (k : Nat) (r : List Nat) : List Nat := if k = 0 then [] else r.map Kys1.small
def endOf (cur : List Nat) : List (List Nat) := if cur = [] then [] else [cur]
theorem kind_cases (b : Nat) : Kys1.kind b = 0 ∨ Kys1.kind b = 1 ∨ Kys1.kind b = 2 := by
  unfold Kys1.kind
  split
  · exact .inr (.inl rfl)
  · split
    · exact .inr (.inr rfl)
    · exact .inl rfl
theorem kind_one {b : Nat} (h : Kys1.kind b = 1) : Kys1.isDigit (Kys1.small b) = false := by
  unfold Kys1.kind at h
  unfold Kys1.small
  split at h
  · rename_i q
    simp only [Kys1.isSmall, Kys1.isLarge, Bool.or_eq_true, Bool.and_eq_true, decide_eq_true_eq] at q
    simp only [Kys1.isLarge, Kys1.isDigit, Bool.and_eq_true, decide_eq_true_eq]
    split
    · rw [Bool.and_eq_false_iff]
      simp only [decide_eq_false_iff_not]
      omega
    · rw [Bool.and_eq_false_iff]
      simp only [decide_eq_false_iff_not]
      omega
  · split at h <;> cases h
theorem kind_two {b : Nat} (h : Kys1.kind b = 2) : Kys1.isDigit (Kys1.small b) = true := by
  unfold Kys1.kind at h
  unfold Kys1.small
  split at h
  · cases h
  · split at h
    · rename_i q
      simp only [Kys1.isDigit, Kys1.isLarge, Bool.and_eq_true, decide_eq_true_eq] at q ⊢
      split
      · omega
      · exact q
    · cases h
theorem ints_small (r : List Nat) : (up r).map small = up (r.map Kys1.small) := by
  unfold up
  rw [List.map_map, List.map_map]
  refine List.map_congr_left fun x _ => ?_
  exact smaller_nat x
theorem one_word {k : Nat} {r : List Nat} (h : Hom k r) : [wordOf (up r)].filter full = ((endOf (curOf k r)).flatMap Kys1.wordOf).map up := by
  obtain ⟨x, t, rfl⟩ : ∃ x t, r = x :: t := by
    cases r with
    | nil => exact absurd rfl h.ne
    | cons x t => exact ⟨x, t, rfl⟩
  have hx := h.each x List.mem_cons_self
  have e0 : (up (x :: t)).headD 0 = (x : Int) := rfl
  have e1 : sortOf ((up (x :: t)).headD 0) = (k : Int) := by rw [e0, sort_nat, hx]
  rcases kind_cases x with hk | hk | hk
  · rw [hx] at hk
    subst hk
    have e2 : wordOf (up (x :: t)) = [] := by
      unfold wordOf
      rw [e1, if_neg (by decide), if_neg (by decide)]
    rw [e2]
    rfl
  · have hd := kind_one hk
    rw [hx] at hk
    subst hk
    have e2 : wordOf (up (x :: t)) = lettersOf (up (x :: t)) := by
      unfold wordOf
      rw [e1, if_pos (by decide)]
    have e3 : endOf (curOf 1 (x :: t)) = [(x :: t).map Kys1.small] := rfl
    have e4 : [(x :: t).map Kys1.small].flatMap Kys1.wordOf = Kys1.wordOf ((x :: t).map Kys1.small) := by simp
    rw [e2, e3, e4]
    unfold lettersOf Kys1.wordOf
    rw [show ((x :: t).map Kys1.small).headD 0 = Kys1.small x from rfl, hd, if_neg Bool.false_ne_true, ints_length, List.length_map]
    by_cases c : (x :: t).length < 2
    · rw [if_pos (by omega), if_pos c]
      rfl
    · rw [if_neg (by omega), if_neg c]
      have e5 : ((up (x :: t)).take 12).map small = up (((x :: t).map Kys1.small).take 12) := by
        rw [← List.map_take] 
        rw [show ((up (x :: t)).take 12) = up ((x :: t).take 12) from (List.map_take).symm, ints_small]
      rw [e5]
      rfl
  · have hd := kind_two hk
    rw [hx] at hk
    subst hk
    have e2 : wordOf (up (x :: t)) = digitsOf (up (x :: t)) := by
      unfold wordOf
      rw [e1, if_neg (by decide), if_pos (by decide)]
    have e3 : endOf (curOf 2 (x :: t)) = [(x :: t).map Kys1.small] := rfl
    have e4 : [(x :: t).map Kys1.small].flatMap Kys1.wordOf = Kys1.wordOf ((x :: t).map Kys1.small) := by simp
    rw [e2, e3, e4]
    unfold digitsOf Kys1.wordOf
    rw [show ((x :: t).map Kys1.small).headD 0 = Kys1.small x from rfl, hd, if_pos rfl, ints_length, List.length_map]
    show [[48 + (if (9 : Int) < ((x :: t).length : Nat) then 9 else (((x :: t).length : Nat) : Int))]] = [[((48 + min 9 (x :: t).length : Nat) : Int)]]
    have e5 : (48 + (if (9 : Int) < ((x :: t).length : Nat) then 9 else (((x :: t).length : Nat) : Int))) = ((48 + min 9 (x :: t).length : Nat) : Int) := by
      split <;> omega
    rw [e5]
theorem from_spec : ∀ (l r : List Nat) (k : Nat), Hom k r → ((runsFrom (up r) (up l)).map wordOf).filter full = ((Kys1.runsOn k (curOf k r) l).flatMap Kys1.wordOf).map up
  | [], r, k, h => one_word h
  | b :: l, r, k, h => by
    rw [ints_cons]
    unfold runsFrom
    rw [h.last, sort_nat]
    by_cases c : Kys1.kind b = k
    · rw [if_pos (by rw [c]), show up r ++ [(b : Int)] = up (r ++ [b]) from (ints_append r [b]).symm, from_spec l (r ++ [b]) k (h.more c)]
      rw [show Kys1.runsOn k (curOf k r) (b :: l) = if Kys1.kind b = 0 then endOf (curOf k r) ++ Kys1.runsOn 0 [] l else if Kys1.kind b = k then Kys1.runsOn k (curOf k r ++ [Kys1.small b]) l else endOf (curOf k r) ++ Kys1.runsOn (Kys1.kind b) [Kys1.small b] l from rfl]
      by_cases z : k = 0
      · subst z
        rw [if_pos c]
        rfl
      · rw [if_neg (by rw [c]; exact z), if_pos c]
        have e : curOf k (r ++ [b]) = curOf k r ++ [Kys1.small b] := by
          unfold curOf
          rw [if_neg z, if_neg z, List.map_append]
          rfl
        rw [e]
    · rw [if_neg (by intro q; exact c (by omega)), List.map_cons]
      rw [show Kys1.runsOn k (curOf k r) (b :: l) = if Kys1.kind b = 0 then endOf (curOf k r) ++ Kys1.runsOn 0 [] l else if Kys1.kind b = k then Kys1.runsOn k (curOf k r ++ [Kys1.small b]) l else endOf (curOf k r) ++ Kys1.runsOn (Kys1.kind b) [Kys1.small b] l from rfl]
      have e1 : (wordOf (up r) :: (runsFrom [(b : Int)] (up l)).map wordOf).filter full = [wordOf (up r)].filter full ++ ((runsFrom [(b : Int)] (up l)).map wordOf).filter full := by
        rw [← List.filter_append]
        rfl
      have ih := from_spec l [b] (Kys1.kind b) (Hom.one b)
      rw [show up [b] = [(b : Int)] from rfl] at ih
      rw [e1, one_word h, ih]
      by_cases z : Kys1.kind b = 0
      · rw [if_pos z, z, List.flatMap_append, List.map_append]
        rfl
      · rw [if_neg z, if_neg c, List.flatMap_append, List.map_append]
        have e : curOf (Kys1.kind b) [b] = [Kys1.small b] := by
          unfold curOf
          rw [if_neg z]
          rfl
        rw [e]
theorem runs_spec : ∀ l : List Nat, ((runsOf (up l)).map wordOf).filter full = ((Kys1.runs l).flatMap Kys1.wordOf).map up
  | [] => rfl
  | b :: l => by
    have e1 : runsOf (up (b :: l)) = runsFrom [(b : Int)] (up l) := by
      rw [ints_cons]
      show (up l).foldl runStep ([] ++ [[(b : Int)]]) = _
      rw [fold_from]
      rfl
    have e2 := from_spec l [b] (Kys1.kind b) (Hom.one b)
    rw [show up [b] = [(b : Int)] from rfl] at e2
    rw [e1, e2]
    show _ = ((if Kys1.kind b = 0 then endOf [] ++ Kys1.runsOn 0 [] l else if Kys1.kind b = 0 then Kys1.runsOn 0 ([] ++ [Kys1.small b]) l else endOf [] ++ Kys1.runsOn (Kys1.kind b) [Kys1.small b] l).flatMap Kys1.wordOf).map up
    by_cases z : Kys1.kind b = 0
    · rw [if_pos z, z]
      rfl
    · rw [if_neg z, if_neg z]
      have e : curOf (Kys1.kind b) [b] = [Kys1.small b] := by
        unfold curOf
        rw [if_neg z]
        rfl
      rw [e]
      rfl
theorem contains_ints (w : List Nat) : ∀ l : List (List Nat), (l.map up).contains (up w) = l.contains w
  | [] => rfl
  | x :: l => by
    rw [List.map_cons, List.contains_cons, List.contains_cons, contains_ints w l]
    have e : (up w == up x) = (w == x) := by
      rw [Bool.eq_iff_iff]
      simp only [beq_iff_eq]
      exact ⟨ints_inj, fun q => by rw [q]⟩
    rw [e]
theorem once_spec : ∀ (l f : List (List Nat)), (l.map up).foldl onceStep (f.map up) = (Kys1.once f l).map up
  | [], _ => rfl
  | w :: l, f => by
    rw [List.map_cons, List.foldl_cons]
    unfold onceStep Kys1.once
    rw [contains_ints]
    split
    · exact once_spec l f
    · rw [show f.map up ++ [up w] = (f ++ [w]).map up by rw [List.map_append]; rfl]
      exact once_spec l (f ++ [w])
theorem words_spec (l : List Nat) : wordsOf (up l) = (Kys1.words l).map up := by
  unfold wordsOf Kys1.words Kys1.all once
  rw [runs_spec, show ([] : List (List Int)) = ([] : List (List Nat)).map up from rfl, once_spec, List.map_take]
  rfl
/-! ### 4. The answers -/
theorem okText_nats {l : List Int} (h : ∀ x ∈ l, 0 ≤ x ∧ x ≤ 255) : Kys1.okText (natsOf l) = decide (l.length ≤ 2000) := by
  unfold Kys1.okText
  have e : ((natsOf l).all fun b => decide (b < 256)) = true := by
    rw [List.all_eq_true]
    intro b hb
    obtain ⟨x, hx, rfl⟩ := List.mem_map.mp hb
    have := h x hx
    exact decide_eq_true (by omega)
  rw [e, Bool.and_true, show (natsOf l).length = l.length from List.length_map _]
theorem told_ints : ∀ l : List (List Nat), told (l.map up) = up (Kys1.told l)
  | [] => rfl
  | w :: l => by
    have ih := told_ints l
    show (up w ++ [0]) ++ told (l.map up) = up ((w ++ [0]) ++ Kys1.told l)
    rw [ih, ints_append, ints_append]
    rfl
theorem words_due {l : List Int} (h : ∀ x ∈ l, 0 ≤ x ∧ x ≤ 255) : PyKys1.words l = answerWords l := by
  have e := ints_natsOf (l := l) fun x hx => (h x hx).1
  have hw : wordsOf l = (Kys1.words (natsOf l)).map up := by
    have q := words_spec (natsOf l)
    rw [e] at q
    exact q
  show (Kys1.answer (.words (natsOf l))).value :: up (Kys1.answer (.words (natsOf l))).nums = answerWords l
  show (if Kys1.okText (natsOf l) = false then Kys1.say (-22) else ⟨((Kys1.words (natsOf l)).length : Nat), Kys1.told (Kys1.words (natsOf l))⟩ : Kys1.Ans).value :: up (if Kys1.okText (natsOf l) = false then Kys1.say (-22) else ⟨((Kys1.words (natsOf l)).length : Nat), Kys1.told (Kys1.words (natsOf l))⟩ : Kys1.Ans).nums = answerWords l
  unfold answerWords
  rw [okText_nats h]
  by_cases c : l.length ≤ 2000
  · rw [if_neg (by rw [decide_eq_true c]; decide), if_pos c, hw, told_ints, List.length_map]
  · rw [if_pos (decide_eq_false c), if_neg c]
    rfl
theorem filter_ints (b : List (List Nat)) : ∀ a : List (List Nat), ((a.map up).filter fun w => (b.map up).contains w).length = (a.filter fun w => b.contains w).length
  | [] => rfl
  | w :: a => by
    rw [List.map_cons, List.filter_cons, List.filter_cons, contains_ints]
    split
    · rw [List.length_cons, List.length_cons, filter_ints b a]
    · exact filter_ints b a
theorem same_due {a b : List Int} (ha : ∀ x ∈ a, 0 ≤ x ∧ x ≤ 255) (hb : ∀ x ∈ b, 0 ≤ x ∧ x ≤ 255) : PyKys1.same a b = answerSame a b := by
  have ea := ints_natsOf (l := a) fun x hx => (ha x hx).1
  have eb := ints_natsOf (l := b) fun x hx => (hb x hx).1
  have wa : wordsOf a = (Kys1.words (natsOf a)).map up := by
    have q := words_spec (natsOf a)
    rw [ea] at q
    exact q
  have wb : wordsOf b = (Kys1.words (natsOf b)).map up := by
    have q := words_spec (natsOf b)
    rw [eb] at q
    exact q
  show (if Kys1.okText (natsOf a) = false ∨ Kys1.okText (natsOf b) = false then Kys1.say (-22) else Kys1.say (Kys1.common (Kys1.words (natsOf a)) (Kys1.words (natsOf b)) : Nat)).value :: up (if Kys1.okText (natsOf a) = false ∨ Kys1.okText (natsOf b) = false then Kys1.say (-22) else Kys1.say (Kys1.common (Kys1.words (natsOf a)) (Kys1.words (natsOf b)) : Nat)).nums = answerSame a b
  unfold answerSame
  rw [okText_nats ha, okText_nats hb]
  by_cases c : a.length ≤ 2000 ∧ b.length ≤ 2000
  · rw [if_neg (by rw [decide_eq_true c.1, decide_eq_true c.2]; decide), if_pos c, wa, wb, filter_ints]
    rfl
  · have d : decide (a.length ≤ 2000) = false ∨ decide (b.length ≤ 2000) = false := by
      by_cases c1 : a.length ≤ 2000
      · exact .inr (decide_eq_false fun q => c ⟨c1, q⟩)
      · exact .inl (decide_eq_false c1)
    rw [if_pos d, if_neg c]
    rfl
theorem isWord_nats {w : List Int} (h : ∀ x ∈ w, 0 ≤ x ∧ x ≤ 255) : isWord w = Kys1.isWord (natsOf w) := by
  have e := ints_natsOf (l := w) fun x hx => (h x hx).1
  generalize natsOf w = v at e
  subst e
  have e1 : ((up v).map isSmall).all id = v.all Kys1.isSmall := by
    unfold up
    rw [List.map_map, List.all_map]
    congr 1
    funext x
    exact small_nat x
  have e2 : (up v).length = v.length := ints_length v
  have e3 : (up v).headD 0 = ((v.headD 0 : Nat) : Int) := by
    cases v <;> rfl
  unfold isWord isCount Kys1.isWord
  rw [e1, e2, e3, digit_nat]
  generalize v.headD 0 = x
  unfold Kys1.isDigit
  rw [Bool.eq_iff_iff]
  simp only [Bool.or_eq_true, Bool.and_eq_true, decide_eq_true_eq, Bool.not_eq_true', decide_eq_false_iff_not, beq_iff_eq]
  constructor
  · rintro (⟨a, ⟨b, c⟩, d⟩ | ⟨⟨a, b⟩, c⟩)
    · exact .inr ⟨⟨a, by omega⟩, by omega⟩
    · exact .inl ⟨⟨c, by omega⟩, by omega⟩
  · rintro (⟨⟨c, a⟩, b⟩ | ⟨⟨a, b⟩, c⟩)
    · exact .inr ⟨⟨by omega, by omega⟩, c⟩
    · exact .inl ⟨a, ⟨by omega, by omega⟩, by omega⟩
theorem has_due {l w : List Int} (hl : ∀ x ∈ l, 0 ≤ x ∧ x ≤ 255) (hw : ∀ x ∈ w, 0 ≤ x ∧ x ≤ 255) : PyKys1.has l w = answerHas l w := by
  have el := ints_natsOf (l := l) fun x hx => (hl x hx).1
  have ew := ints_natsOf (l := w) fun x hx => (hw x hx).1
  have wl : wordsOf l = (Kys1.words (natsOf l)).map up := by
    have q := words_spec (natsOf l)
    rw [el] at q
    exact q
  have wc : (wordsOf l).contains w = (Kys1.words (natsOf l)).contains (natsOf w) := by
    rw [← contains_ints, ew, wl]
  show (if Kys1.okText (natsOf l) = false ∨ Kys1.isWord (natsOf w) = false then Kys1.say (-22) else Kys1.say (if (Kys1.words (natsOf l)).contains (natsOf w) then 1 else 0)).value :: up (if Kys1.okText (natsOf l) = false ∨ Kys1.isWord (natsOf w) = false then Kys1.say (-22) else Kys1.say (if (Kys1.words (natsOf l)).contains (natsOf w) then 1 else 0)).nums = answerHas l w
  unfold answerHas
  rw [okText_nats hl, ← isWord_nats hw, wc]
  by_cases c : l.length ≤ 2000 ∧ isWord w = true
  · rw [if_neg (by rw [decide_eq_true c.1, c.2]; decide), if_pos c]
    rfl
  · have d : decide (l.length ≤ 2000) = false ∨ isWord w = false := by
      by_cases c1 : l.length ≤ 2000
      · exact .inr (by cases q : isWord w with | false => rfl | true => exact absurd ⟨c1, q⟩ c)
      · exact .inl (decide_eq_false c1)
    rw [if_pos d, if_neg c]
    rfl
end LW
/-! How lists of rows of ints lie in the heap. -/
namespace LW
open PySem PySem.Spec PyProof.Rows L2
/-! ### heaps -/
theorem same_upd {H : Hp} {p : Addr} {o : HO} (h : H p = none) : Same H (upd H p o) := fun b x e => by
  rw [upd_ne (ne_of_none e h)]
  exact e
/-- a store at what was free at first -/
theorem same_put {H H' : Hp} {p : Addr} {o : HO} (s : Same H H') (h : H p = none) : Same H (upd H' p o) := fun b x e => by
  rw [upd_ne (ne_of_none e h)]
  exact s b x e
/-- v is a list of the ints xs, tracked -/
def WRow (H : Hp) (v : V) (xs : List Int) : Prop := ∃ a, v = .ref a ∧ H a = some (.lst (xs.map V.int))
inductive WRows (H : Hp) : List V → List (List Int) → Prop
  | nil : WRows H [] []
  | cons {v : V} {vs : List V} {xs : List Int} {xss : List (List Int)} : WRow H v xs → WRows H vs xss → WRows H (v :: vs) (xs :: xss)
theorem WRow.same {H H' : Hp} {v : V} {xs : List Int} (h : WRow H v xs) (s : Same H H') : WRow H' v xs := by
  obtain ⟨a, e, q⟩ := h
  exact ⟨a, e, s a _ q⟩
theorem WRows.same {H H' : Hp} (s : Same H H') : ∀ {vs : List V} {xss : List (List Int)}, WRows H vs xss → WRows H' vs xss
  | _, _, .nil => .nil
  | _, _, .cons h t => .cons (h.same s) (WRows.same s t)
theorem WRows.len {H : Hp} : ∀ {vs : List V} {xss : List (List Int)}, WRows H vs xss → vs.length = xss.length
  | _, _, .nil => rfl
  | _, _, .cons _ t => by rw [List.length_cons, List.length_cons, WRows.len t]
theorem WRows.get {H : Hp} : ∀ {vs : List V} {xss : List (List Int)}, WRows H vs xss → ∀ {i : Nat} {v : V}, vs[i]? = some v → ∃ xs, xss[i]? = some xs ∧ WRow H v xs
  | _, _, .nil, i, v, h => by simp at h
  | _, _, .cons h t, 0, v, q => by
    have e := Option.some.inj q
    subst e
    exact ⟨_, rfl, h⟩
  | _, _, .cons h t, i + 1, v, q => by
    obtain ⟨xs, e, r⟩ := WRows.get t (i := i) (v := v) q
    exact ⟨xs, e, r⟩
theorem WRows.mem {H : Hp} : ∀ {vs : List V} {xss : List (List Int)}, WRows H vs xss → ∀ {v : V}, v ∈ vs → ∃ xs, WRow H v xs
  | _, _, .nil, v, h => by simp at h
  | _, _, .cons h t, v, q => by
    rcases List.mem_cons.mp q with e | q
    · subst e
      exact ⟨_, h⟩
    · exact WRows.mem t q
theorem WRows.snoc {H : Hp} {v : V} {xs : List Int} (r : WRow H v xs) : ∀ {vs : List V} {xss : List (List Int)}, WRows H vs xss → WRows H (vs ++ [v]) (xss ++ [xs])
  | _, _, .nil => .cons r .nil
  | _, _, .cons h t => .cons h (WRows.snoc r t)
theorem WRows.unsnoc {H : Hp} {xs : List Int} : ∀ {xss : List (List Int)} {ws : List V}, WRows H ws (xss ++ [xs]) → ∃ vs v, ws = vs ++ [v] ∧ WRows H vs xss ∧ WRow H v xs
  | [], _, .cons h .nil => ⟨[], _, rfl, .nil, h⟩
  | _ :: _, _, .cons h t => by
    obtain ⟨vs, v, rfl, a, b⟩ := WRows.unsnoc t
    exact ⟨_ :: vs, v, rfl, .cons h a, b⟩
theorem WRows.take {H : Hp} : ∀ (n : Nat) {vs : List V} {xss : List (List Int)}, WRows H vs xss → WRows H (vs.take n) (xss.take n)
  | 0, _, _, _ => .nil
  | _ + 1, _, _, .nil => .nil
  | n + 1, _, _, .cons h t => .cons h (WRows.take n t)
/-- the list of the rows is none of them -/
theorem WRows.apart {H : Hp} {l : Addr} {vs : List V} {xss : List (List Int)} (h : WRows H vs xss) (e : H l = some (.lst vs)) : V.ref l ∉ vs := fun q => by
  obtain ⟨xs, a, ea, ha⟩ := h.mem q
  cases ea
  rw [e] at ha
  have ez : vs = xs.map V.int := by
    injection ha with ha
    injection ha
  rw [ez] at q
  obtain ⟨x, _, ex⟩ := List.mem_map.mp q
  cases ex
theorem WRows.free {H : Hp} {l : Addr} {vs : List V} {xss : List (List Int)} (h : WRows H vs xss) (e : H l = none) : V.ref l ∉ vs := fun q => by
  obtain ⟨xs, a, ea, ha⟩ := h.mem q
  cases ea
  rw [e] at ha
  cases ha
theorem WRows.put {H : Hp} {l : Addr} {o : HO} : ∀ {vs : List V} {xss : List (List Int)}, WRows H vs xss → V.ref l ∉ vs → WRows (upd H l o) vs xss
  | _, _, .nil, _ => .nil
  | _, _, .cons h t, n => by
    obtain ⟨a, rfl, ha⟩ := h
    simp only [List.mem_cons, not_or] at n
    exact .cons ⟨a, rfl, by rw [upd_ne (fun e => n.1 (by rw [e]))]; exact ha⟩ (WRows.put t n.2)
/-! ### data -/
def rowD (xs : List Int) : PyData := .list (xs.map PyData.int)
theorem dp_ints {K : PySem.W.Frag} {H : Hp} : ∀ xs : List Int, DpAll K H (xs.map V.int) (xs.map PyData.int)
  | [] => .nil
  | x :: r => .cons (.int x) (dp_ints r)
theorem dp_row {K : PySem.W.Frag} {H : Hp} {a : Addr} {xs : List Int} (h : SqL K H a (xs.map V.int)) : Dp K H (.ref a) (rowD xs) := .lst h (dp_ints xs)
theorem WRow.dp {K : PySem.W.Frag} {H : Hp} {v : V} {xs : List Int} (h : WRow H v xs) : Dp K H v (rowD xs) := by
  obtain ⟨a, rfl, q⟩ := h
  exact dp_row (SqL.of q)
theorem WRows.dp {K : PySem.W.Frag} {H : Hp} : ∀ {vs : List V} {xss : List (List Int)}, WRows H vs xss → DpAll K H vs (xss.map rowD)
  | _, _, .nil => .nil
  | _, _, .cons h t => .cons h.dp (WRows.dp t)
theorem lay_ints : ∀ xs : List Int, PyData.canLayAll0 (xs.map PyData.int) = true
  | [] => by simp [PyData.canLayAll0]
  | x :: xs => by simp [PyData.canLayAll0, PyData.canLay0, lay_ints xs]
theorem depth_ints : ∀ xs : List Int, PyData.depthAll (xs.map PyData.int) ≤ 1
  | [] => by simp [PyData.depthAll]
  | x :: xs => by
    have h := depth_ints xs
    simp only [List.map_cons, PyData.depthAll, PyData.depth]
    omega
theorem rowD_lay (xs : List Int) : (rowD xs).canLay0 = true := by
  unfold rowD
  simp only [PyData.canLay0]
  exact lay_ints xs
theorem rowD_depth (xs : List Int) : (rowD xs).depth ≤ 2 := by
  have h := depth_ints xs
  unfold rowD
  simp only [PyData.depth]
  omega
theorem rowD_shaped (xs : List Int) : SeqAt.shaped (rowD xs) = true := by
  have h := rowD_depth xs
  show ((rowD xs).canLay0 && decide ((rowD xs).depth ≤ 64)) = true
  rw [Bool.and_eq_true]
  exact ⟨rowD_lay xs, decide_eq_true (by omega)⟩
theorem rowsD_lay : ∀ xss : List (List Int), PyData.canLayAll0 (xss.map rowD) = true
  | [] => by simp [PyData.canLayAll0]
  | x :: xs => by simp [PyData.canLayAll0, rowD_lay x, rowsD_lay xs]
theorem rowsD_depth : ∀ xss : List (List Int), PyData.depthAll (xss.map rowD) ≤ 2
  | [] => by simp [PyData.depthAll]
  | x :: xs => by
    have h := rowsD_depth xs
    have h2 := rowD_depth x
    simp only [List.map_cons, PyData.depthAll]
    omega
theorem rowsD_shaped (xss : List (List Int)) : SeqAt.shaped (.list (xss.map rowD)) = true := by
  have h1 := rowsD_depth xss
  have h2 : PyData.depth (.list (xss.map rowD)) ≤ 64 := by
    simp only [PyData.depth]
    omega
  show (PyData.canLay0 (.list (xss.map rowD)) && decide (PyData.depth (.list (xss.map rowD)) ≤ 64)) = true
  rw [Bool.and_eq_true]
  exact ⟨by simp only [PyData.canLay0]; exact rowsD_lay xss, decide_eq_true h2⟩
theorem eqv_ints : ∀ x y : List Int, PyData.eqvAll (x.map PyData.int) (y.map PyData.int) = (x == y)
  | [], [] => by simp [PyData.eqvAll]
  | [], _ :: _ => by simp [PyData.eqvAll]
  | _ :: _, [] => by simp [PyData.eqvAll]
  | a :: x, b :: y => by
    rw [List.map_cons, List.map_cons]
    simp only [PyData.eqvAll, PyData.eqv]
    rw [eqv_ints x y]
    rfl
theorem rowD_eqv (x y : List Int) : PyData.eqv (rowD x) (rowD y) = (x == y) := by
  unfold rowD
  simp only [PyData.eqv]
  exact eqv_ints x y
theorem any_eqv (w : List Int) : ∀ xss : List (List Int), ((xss.map rowD).any fun z => PyData.eqv z (rowD w)) = xss.contains w
  | [] => rfl
  | x :: xss => by
    rw [List.map_cons, List.any_cons, any_eqv w xss, rowD_eqv, List.contains_cons]
    have e : (x == w) = (w == x) := by
      rw [Bool.eq_iff_iff]
      simp only [beq_iff_eq]
      exact ⟨Eq.symm, Eq.symm⟩
    rw [e]
theorem nil_eqv {ds : List PyData} : PyData.eqv (.list ds) (.list []) = ds.isEmpty := by
  cases ds with
  | nil => simp [PyData.eqv, PyData.eqvAll]
  | cons d ds => simp [PyData.eqv, PyData.eqvAll]
theorem row_nil_eqv (xs : List Int) : (!PyData.eqv (rowD xs) (.list [])) = full xs := by
  unfold rowD full
  rw [nil_eqv]
  cases xs <;> rfl
theorem nil_shaped : SeqAt.shaped (.list []) = true := rowsD_shaped []
theorem nil_dp {K : PySem.W.Frag} {H : Hp} {a : Addr} (h : H a = some (.lst [])) : Dp K H (.ref a) (.list []) := .lst (SqL.of h) .nil
/-! ### bounds, slices -/
theorem fits {n : Nat} (h : n ≤ 3000) : n < sizeLine := Nat.lt_of_le_of_lt h (by decide)
theorem fitsLe {n : Nat} (h : n ≤ 3000) : n ≤ sizeLine := Nat.le_of_lt (fits h)
theorem cut_head (xs : List V) (n : Nat) : cutV xs none (some (n : Int)) = xs.take n := by
  unfold cutV
  rw [HT.sIx_nat, HT.sIx_none, Nat.sub_zero, List.drop_zero]
  by_cases h : n ≤ xs.length
  · rw [Nat.min_eq_left h]
  · rw [Nat.min_eq_right (by omega), List.take_length, List.take_of_length_le (by omega)]
/-- an if whose test is known -/
theorem if_true_of {c : Bool} {A B : Prop} (hc : c = true) (h : A) : if c = true then A else B := by
  rw [if_pos hc]
  exact h
theorem if_false_of {c : Bool} {A B : Prop} (hc : c = false) (h : B) : if c = true then A else B := by
  rw [hc, if_neg Bool.false_ne_true]
  exact h
theorem int_at {ns : List Int} {i : Nat} {y : V} (hi : (ns.map V.int)[i]? = some y) : ∃ z, ns[i]? = some z ∧ y = V.int z := by
  rw [List.getElem?_map] at hi
  cases e : ns[i]? with
  | none =>
    rw [e] at hi
    cases hi
  | some z =>
    rw [e] at hi
    exact ⟨z, rfl, (Option.some.inj hi).symm⟩
end LW
/-! # The walk: each def once -/
namespace LW
open PySem PySem.Spec PyProof.Rows L2
open PySem.W (Codec)
/-! ### The text by places -/
def top (i : Nat) : Stmt := PySem.Challenge.pw_letterwords_s03_has.main.body.getD i (.Pass ⟨0, 0, 0, 0⟩)
abbrev sLarge : Stmt := top 9
abbrev sSmall : Stmt := top 10
abbrev sDigit : Stmt := top 11
abbrev sSort : Stmt := top 12
abbrev sLower : Stmt := top 13
abbrev sRuns : Stmt := top 18
abbrev sLetters : Stmt := top 19
abbrev sDigits : Stmt := top 20
abbrev sWord : Stmt := top 21
abbrev sOnce : Stmt := top 24
abbrev sWords : Stmt := top 25
abbrev sText : Stmt := top 31
/-! ### What the top has written -/
/-- the module's name x holds the whole number i -/
def Cn (mg : Str → Option Value) (x : Str) (i : Int) : Prop := ∃ t, mg x = some (.int i t)
structure Txt (mg : Str → Option Value) : Prop where
  OTHER : Cn mg "OTHER" 0
  LETTER : Cn mg "LETTER" 1
  DIGIT : Cn mg "DIGIT" 2
  LARGE_A : Cn mg "LARGE_A" 65
  SMALL_A : Cn mg "SMALL_A" 97
  LETTERS : Cn mg "LETTERS" 26
  ZERO : Cn mg "ZERO" 48
  DIGITS : Cn mg "DIGITS" 10
  FEWEST : Cn mg "FEWEST_LETTERS" 2
  MOST : Cn mg "MOST_LETTERS" 12
  COUNTED : Cn mg "MOST_COUNTED" 9
  WORDS : Cn mg "MOST_WORDS" 40
  LONG : Cn mg "TOO_LONG" (-22)
  BYTES : Cn mg "MOST_BYTES" 2000
  len : mg "len" = none
  min : mg "min" = none
theorem pe_cn {X : Cx} {x : Str} {pos : Pos} {i : Int} (hg : Gl X x) (h : Cn X.mg x i) (hd : (x == ("__debug__" : Str)) = false := by decide) : PE X (.Name x pos) (tC (.int i)) := by
  obtain ⟨t, h⟩ := h
  exact pe_glob hg h ⟨_, rfl⟩ hd
/-- the name x stands for a def that keeps the promise sp -/
def Has (P : Program) (w : World) (K : PySem.W.Frag) (mg : Str → Option Value) (base : Heap) (k : Nat) (x : Str) (ps : List Str) (sp : Sp) : Prop :=
  ∃ (f : Addr) (fd : FuncData), FnOk P w K mg base CX0 k f fd ps sp ∧ mg x = some (.ref f) ∧ PySem.W.keepIn K (.ref f) = true ∧ Binds K fd ps []
theorem pe_fn {X : Cx} {k : Nat} {x : Str} {ps : List Str} {sp : Sp} {e : Expr} {es : List Expr} {p pos : Pos} {t : TA} (G : Has X.prog X.w X.K X.mg X.base k x ps sp) (hr : Room k X.A) (hg : Gl X x) (ha : PA X (e :: es) t)
    (hdb : (x == ("__debug__" : Str)) = false := by decide) (he : starEach (e :: es) X.env = (false, eval e X.env) :: starEach es X.env := by rfl) (hpl : (backTo pos (starEach es X.env)).any (·.1) = false := by rfl) :
    PE X (.Call (.Name x p) (e :: es) [] pos) (tCall sp [] E0 t) := by
  obtain ⟨f, fd, F, hm, hk, hb⟩ := G
  exact pe_call F hr hg hm hk hb .nil pass0 ha hdb he hpl
/-! ### The promises -/
def spB (f : Int → Bool) : Sp := fun vs H Q _ => ∃ z, vs = [.int z] ∧ Q (.bl (f z)) H
def spI (f : Int → Int) : Sp := fun vs H Q _ => ∃ z, vs = [.int z] ∧ Q (.int (f z)) H
/-- from a list of ints to a new list of rows -/
def spRows (K : PySem.W.Frag) (f : List Int → List (List Int)) : Sp := fun vs H Q _ => ∃ (a : Addr) (ns : List Int), vs = [.ref a] ∧ SqL K H a (ns.map V.int) ∧ ns.length ≤ 2010 ∧
  ∀ (H' : Hp) (p : Addr) (ws : List V), Same H H' → H' p = some (.lst ws) → WRows H' ws (f ns) → Q (.ref p) H'
/-- from a run to a new list of ints -/
def spRow (K : PySem.W.Frag) (f : List Int → List Int) : Sp := fun vs H Q _ => ∃ (a : Addr) (ns : List Int), vs = [.ref a] ∧ SqL K H a (ns.map V.int) ∧ ns ≠ [] ∧ ns.length ≤ 2010 ∧
  ∀ (H' : Hp) (p : Addr), Same H H' → H p = none → H' p = some (.lst ((f ns).map V.int)) → Q (.ref p) H'
def spOnce : Sp := fun vs H Q _ => ∃ (a : Addr) (us : List V) (xss : List (List Int)), vs = [.ref a] ∧ H a = some (.lst us) ∧ WRows H us xss ∧ xss.length ≤ 2010 ∧
  ∀ (H' : Hp) (p : Addr) (ws : List V), Same H H' → H' p = some (.lst ws) → WRows H' ws (once xss) → Q (.ref p) H'
/-- a test of a list of ints; what stood stands -/
def spTest (K : PySem.W.Frag) (f : List Int → Bool) : Sp := fun vs H Q _ => ∃ (a : Addr) (ns : List Int), vs = [.ref a] ∧ SqL K H a (ns.map V.int) ∧ ns.length ≤ 2010 ∧
  ∀ H' : Hp, Same H H' → Q (.bl (f ns)) H'
section
variable {P : Program} {w : World} {K : PySem.W.Frag} {mg : Str → Option Value} {base : Heap}
/-! ### Signs -/
theorem scLarge : FnScope ["byte"] ["byte"] (defScope sLarge) := ⟨rfl, rfl, rfl, by decide +kernel, rfl, by decide +kernel, by decide +kernel⟩
theorem ok_large {f : Addr} {fd : FuncData} (F : Fun K "is_large" "is_large" sLarge f fd) (T : Txt mg) : FnOk P w K mg base CX0 1 f fd ["byte"] (spB isLarge) := by
  refine F.ok scLarge (fun vs H Q E h => ?_) (fun cdv A outer s H vs Q E hr h => ?_)
  · obtain ⟨z, rfl, _⟩ := h
    rfl
  · obtain ⟨z, rfl, k⟩ := h
    refine ⟨_, pss_one (ps_ret (pe_chain op_le op_lt (pe_cn rfl T.LARGE_A) (pv 0) (pe_op op_add (pe_cn rfl T.LARGE_A) (pe_cn rfl T.LETTERS)))), ?_⟩
    refine ⟨_, rfl, _, _, rfl, rfl, _, rfl, ?_⟩
    unfold isLarge at k
    by_cases c : (65 : Int) ≤ z
    · refine if_true_of (decide_eq_true c) ⟨_, _, rfl, rfl, _, _, rfl, rfl, ?_⟩
      rw [decide_eq_true c, Bool.true_and] at k
      exact k
    · refine if_false_of (decide_eq_false c) ?_
      rw [decide_eq_false c, Bool.false_and] at k
      exact k
theorem scSmall : FnScope ["byte"] ["byte"] (defScope sSmall) := ⟨rfl, rfl, rfl, by decide +kernel, rfl, by decide +kernel, by decide +kernel⟩
theorem ok_small {f : Addr} {fd : FuncData} (F : Fun K "is_small" "is_small" sSmall f fd) (T : Txt mg) : FnOk P w K mg base CX0 1 f fd ["byte"] (spB isSmall) := by
  refine F.ok scSmall (fun vs H Q E h => ?_) (fun cdv A outer s H vs Q E hr h => ?_)
  · obtain ⟨z, rfl, _⟩ := h
    rfl
  · obtain ⟨z, rfl, k⟩ := h
    refine ⟨_, pss_one (ps_ret (pe_chain op_le op_lt (pe_cn rfl T.SMALL_A) (pv 0) (pe_op op_add (pe_cn rfl T.SMALL_A) (pe_cn rfl T.LETTERS)))), ?_⟩
    refine ⟨_, rfl, _, _, rfl, rfl, _, rfl, ?_⟩
    unfold isSmall at k
    by_cases c : (97 : Int) ≤ z
    · refine if_true_of (decide_eq_true c) ⟨_, _, rfl, rfl, _, _, rfl, rfl, ?_⟩
      rw [decide_eq_true c, Bool.true_and] at k
      exact k
    · refine if_false_of (decide_eq_false c) ?_
      rw [decide_eq_false c, Bool.false_and] at k
      exact k
theorem scDigit : FnScope ["byte"] ["byte"] (defScope sDigit) := ⟨rfl, rfl, rfl, by decide +kernel, rfl, by decide +kernel, by decide +kernel⟩
theorem ok_digit {f : Addr} {fd : FuncData} (F : Fun K "is_digit" "is_digit" sDigit f fd) (T : Txt mg) : FnOk P w K mg base CX0 1 f fd ["byte"] (spB isDigit) := by
  refine F.ok scDigit (fun vs H Q E h => ?_) (fun cdv A outer s H vs Q E hr h => ?_)
  · obtain ⟨z, rfl, _⟩ := h
    rfl
  · obtain ⟨z, rfl, k⟩ := h
    refine ⟨_, pss_one (ps_ret (pe_chain op_le op_lt (pe_cn rfl T.ZERO) (pv 0) (pe_op op_add (pe_cn rfl T.ZERO) (pe_cn rfl T.DIGITS)))), ?_⟩
    refine ⟨_, rfl, _, _, rfl, rfl, _, rfl, ?_⟩
    unfold isDigit at k
    by_cases c : (48 : Int) ≤ z
    · refine if_true_of (decide_eq_true c) ⟨_, _, rfl, rfl, _, _, rfl, rfl, ?_⟩
      rw [decide_eq_true c, Bool.true_and] at k
      exact k
    · refine if_false_of (decide_eq_false c) ?_
      rw [decide_eq_false c, Bool.false_and] at k
      exact k
theorem scSort : FnScope ["byte"] ["byte"] (defScope sSort) := ⟨rfl, rfl, rfl, by decide +kernel, rfl, by decide +kernel, by decide +kernel⟩
theorem ok_sort {f : Addr} {fd : FuncData} (F : Fun K "sort_of" "sort_of" sSort f fd) (T : Txt mg) (GL : Has P w K mg base 1 "is_large" ["byte"] (spB isLarge)) (GS : Has P w K mg base 1 "is_small" ["byte"] (spB isSmall))
    (GD : Has P w K mg base 1 "is_digit" ["byte"] (spB isDigit)) : FnOk P w K mg base CX0 2 f fd ["byte"] (spI sortOf) := by
  refine F.ok scSort (fun vs H Q E h => ?_) (fun cdv A outer s H vs Q E hr h => ?_)
  · obtain ⟨z, rfl, _⟩ := h
    rfl
  · obtain ⟨z, rfl, k⟩ := h
    refine ⟨_, pss_cons (ps_if (PW.pt (pw_or (pt_val (pe_fn GL hr rfl (pa_cons (pv 0) pa_nil))) (pw_or1 (pt_val (pe_fn GS hr rfl (pa_cons (pv 0) pa_nil)))))) (pss_one (ps_ret (pe_cn rfl T.LETTER))) pss_nil)
      (pss_cons (ps_if (pt_val (pe_fn GD hr rfl (pa_cons (pv 0) pa_nil))) (pss_one (ps_ret (pe_cn rfl T.DIGIT))) pss_nil)
      (pss_one (ps_ret (pe_cn rfl T.OTHER)))), ?_⟩
    refine ⟨_, rfl, z, rfl, _, rfl, ?_⟩
    unfold sortOf at k
    by_cases c : isLarge z = true
    · refine if_true_of c (iteT ?_)
      rw [if_pos (by rw [c]; rfl)] at k
      exact k
    · have c' : isLarge z = false := Bool.eq_false_iff.mpr c
      refine if_false_of c' ⟨_, rfl, z, rfl, _, rfl, ?_⟩
      by_cases d : isSmall z = true
      · refine if_true_of d ?_
        rw [if_pos (by rw [d]; exact Bool.or_true _)] at k
        exact k
      · have d' : isSmall z = false := Bool.eq_false_iff.mpr d
        refine if_false_of d' ?_
        rw [if_neg (by rw [c', d']; decide)] at k
        refine ⟨_, rfl, z, rfl, _, rfl, ?_⟩
        by_cases e : isDigit z = true
        · refine if_true_of e ?_
          rw [if_pos e] at k
          exact k
        · refine if_false_of (Bool.eq_false_iff.mpr e) ?_
          rw [if_neg e] at k
          exact k
theorem scLower : FnScope ["byte"] ["byte"] (defScope sLower) := ⟨rfl, rfl, rfl, by decide +kernel, rfl, by decide +kernel, by decide +kernel⟩
theorem ok_lower {f : Addr} {fd : FuncData} (F : Fun K "small" "small" sLower f fd) (T : Txt mg) (GL : Has P w K mg base 1 "is_large" ["byte"] (spB isLarge)) : FnOk P w K mg base CX0 2 f fd ["byte"] (spI small) := by
  refine F.ok scLower (fun vs H Q E h => ?_) (fun cdv A outer s H vs Q E hr h => ?_)
  · obtain ⟨z, rfl, _⟩ := h
    rfl
  · obtain ⟨z, rfl, k⟩ := h
    refine ⟨_, pss_cons (ps_if (pt_val (pe_fn GL hr rfl (pa_cons (pv 0) pa_nil))) (pss_one (ps_ret (pe_op op_add (pe_op op_sub (pv 0) (pe_cn rfl T.LARGE_A)) (pe_cn rfl T.SMALL_A)))) pss_nil)
      (pss_one (ps_ret (pv 0))), ?_⟩
    refine ⟨_, rfl, z, rfl, _, rfl, ?_⟩
    unfold small at k
    by_cases c : isLarge z = true
    · refine if_true_of c ⟨_, rfl, _, _, rfl, rfl, _, _, rfl, rfl, ?_⟩
      rw [if_pos c] at k
      exact k
    · refine if_false_of (Bool.eq_false_iff.mpr c) ⟨_, rfl, ?_⟩
      rw [if_neg c] at k
      exact k
/-! ### Runs -/
theorem scRuns : FnScope ["text", "found", "byte"] ["text"] (defScope sRuns) := ⟨rfl, rfl, rfl, by decide +kernel, rfl, by decide +kernel, by decide +kernel⟩
/-- what is known of the list of runs at l between two turns: H0 the heap at the call -/
structure RunsIn (H0 H : Hp) (l : Addr) (rs : List (List Int)) : Prop where
  same : Same H0 H
  new : H0 l = none
  at_ : ∃ vs, H l = some (.lst vs) ∧ WRows H vs rs
  last : ∀ d r, rs = d ++ [r] → ∃ us b, H l = some (.lst (us ++ [.ref b])) ∧ WRows H us d ∧ H b = some (.lst (r.map V.int)) ∧ H0 b = none ∧ b ≠ l ∧ V.ref b ∉ us
theorem RunsIn.grow {H0 H : Hp} {l c : Addr} {o : HO} {rs : List (List Int)} (R : RunsIn H0 H l rs) (hc : H c = none) : RunsIn H0 (upd H c o) l rs := by
  have s := same_upd (o := o) hc
  obtain ⟨vs, h1, h2⟩ := R.at_
  refine ⟨R.same.trans s, R.new, ⟨vs, s _ _ h1, h2.same s⟩, fun d r e => ?_⟩
  obtain ⟨us, b, q1, q2, q3, q4, q5, q6⟩ := R.last d r e
  exact ⟨us, b, s _ _ q1, q2.same s, s _ _ q3, q4, q5, q6⟩
/-- found[-1].append(byte) -/
theorem RunsIn.more {H0 H : Hp} {l b : Addr} {us : List V} {d : List (List Int)} {r : List Int} {z : Int} (R : RunsIn H0 H l (d ++ [r])) (q1 : H l = some (.lst (us ++ [.ref b]))) (q2 : WRows H us d) (q4 : H0 b = none) (q5 : b ≠ l) (q6 : V.ref b ∉ us) :
    RunsIn H0 (upd H b (.lst ((r ++ [z]).map V.int))) l (d ++ [r ++ [z]]) := by
  have h1 : upd H b (.lst ((r ++ [z]).map V.int)) l = some (.lst (us ++ [.ref b])) := by
    rw [upd_ne (fun e => q5 e.symm)]
    exact q1
  have h2 : WRows (upd H b (.lst ((r ++ [z]).map V.int))) us d := q2.put q6
  refine ⟨same_put R.same q4, R.new, ⟨_, h1, h2.snoc ⟨b, rfl, upd_same⟩⟩, fun d' r' e => ?_⟩
  obtain ⟨e1, e2⟩ := List.append_inj' e rfl
  cases e2
  subst e1
  exact ⟨us, b, h1, h2, upd_same, q4, q5, q6⟩
/-- found.append([byte]) -/
theorem RunsIn.push {H0 H : Hp} {l q : Addr} {vs : List V} {rs : List (List Int)} {z : Int} (R : RunsIn H0 H l rs) (h1 : H l = some (.lst vs)) (h2 : WRows H vs rs) (hq : H q = none) :
    RunsIn H0 (upd (upd H q (.lst [V.int z])) l (.lst (vs ++ [.ref q]))) l (rs ++ [[z]]) := by
  have hlq : q ≠ l := (ne_of_none h1 hq).symm
  have s := same_upd (o := .lst [V.int z]) hq
  have a1 : WRows (upd (upd H q (.lst [V.int z])) l (.lst (vs ++ [.ref q]))) vs rs := (h2.same s).put ((h2.same s).apart (s _ _ h1))
  have a2 : (upd (upd H q (.lst [V.int z])) l (.lst (vs ++ [.ref q]))) q = some (.lst (([z] : List Int).map V.int)) := by
    rw [upd_ne hlq]
    exact upd_same
  refine ⟨same_put (R.same.trans s) R.new, R.new, ⟨_, upd_same, a1.snoc ⟨q, rfl, a2⟩⟩, fun d' r' e => ?_⟩
  obtain ⟨e1, e2⟩ := List.append_inj' e rfl
  cases e2
  subst e1
  exact ⟨vs, q, upd_same, a1, a2, R.same.free hq, hlq, h2.free hq⟩
theorem ok_runs {f : Addr} {fd : FuncData} (F : Fun K "runs_of" "runs_of" sRuns f fd) (GS : Has P w K mg base 2 "sort_of" ["byte"] (spI sortOf)) : FnOk P w K mg base CX0 3 f fd ["text"] (spRows K runsOf) := by
  refine F.ok scRuns (fun vs H Q E h => ?_) (fun cdv A outer s H vs Q E hr h => ?_)
  · obtain ⟨a, ns, rfl, _⟩ := h
    rfl
  · obtain ⟨a, ns, rfl, hS, hlen, k⟩ := h
    refine ⟨_, pss_cons (ps_set (i := 1) scRuns.nd rfl (.inl rfl) (pe_lst pa_nil))
      (pss_cons (ps_for PassesOwn.never rfl (pi_list (pv 0)) (pg_name (i := 2) scRuns.nd rfl (.inl rfl))
        (pss_one (ps_if (PW.pt (pw_and (pt_cmpR (op_neD hr.units) (pv 1) (pe_lst pa_nil) (nomark _))
            (pw_and1 (pt_cmpR op_eq (pe_fn GS hr rfl (pa_cons (pe_ix ix_list (pe_ix ix_list (pv 1) (pe_un un_neg pe_int) (fun _ _ => rfl)) (pe_un un_neg pe_int) (fun _ _ => rfl)) pa_nil))
              (pe_fn GS hr rfl (pa_cons (pv 2) pa_nil)) (nomark _)))))
          (pss_one (ps_expr (pe_bm PySem.F.plainAttrs_list PySem.F.slot_list_append PySem.F.type_list_append mt_append (pe_ix ix_list (pv 1) (pe_un un_neg pe_int) (fun _ _ => rfl)) (pa_cons (pv 2) pa_nil))))
          (pss_one (ps_expr (pe_bm PySem.F.plainAttrs_list PySem.F.slot_list_append PySem.F.type_list_append mt_append (pv 1) (pa_cons (pe_lst (pa_cons (pv 2) pa_nil)) pa_nil)))))))
      (pss_one (ps_ret (pv 1)))), ?_⟩
    -- found = []
    refine ⟨Nat.zero_le _, fun l hl => ?_⟩
    have s1 : Same H (upd H l (.lst [])) := same_upd hl
    refine ⟨_, rfl, a, rfl, ⟨_, s1.seq hS⟩, for_list (K := K) (a := a) (xs := ns.map V.int) (fun i σ H' => ∃ v : Option V, σ = [some (.ref a), some (.ref l), v] ∧ RunsIn H H' l (runsOf (ns.take i)))
      ⟨none, rfl, s1, hl, ⟨[], upd_same, .nil⟩, fun d r e => ?_⟩ (fun i σ H' _ ⟨_, _, R⟩ => R.same.seq hS) ?_ ?_⟩
    · exact absurd e.symm (by simp [runsOf])
    · rintro i y σ H' hi ⟨v, rfl, R⟩
      obtain ⟨z, hz, rfl⟩ := int_at hi
      have step := runsOf_more hz
      have hil : i < ns.length := (List.getElem?_eq_some_iff.mp hz).1
      have fit := runs_fit (ns.take i)
      have til : (ns.take i).length ≤ 2010 := by
        rw [List.length_take]
        omega
      generalize runsOf (ns.take i) = rs at R step fit
      rw [step]
      -- found != []
      refine ⟨_, rfl, Nat.zero_le _, fun c hc => ?_⟩
      have R1 := R.grow (o := .lst []) hc
      obtain ⟨vs, h1, h2⟩ := R1.at_
      refine ⟨.list (rs.map rowD), .list [], .lst (SqL.of h1) h2.dp, nil_dp upd_same, rowsD_shaped _, nil_shaped, _, rfl, ?_⟩
      rw [nil_eqv]
      have hvl : vs.length < sizeLine := by
        rw [h2.len]
        exact fits (by have := fit.len; omega)
      rcases snoc_cases rs with rfl | ⟨d, r, rfl⟩
      · refine if_false_of rfl (if_false_of rfl ?_)
        refine ⟨_, rfl, .inl ⟨rfl, _, SqL.of h1⟩, _, rfl, (by show 1 ≤ sizeLine; decide), fun q hq => ?_⟩
        have s2 := same_upd (o := .lst [V.int z]) hq
        refine ⟨l, _, _, rfl, rfl, s2 _ _ h1, hvl, ?_⟩
        exact ⟨_, rfl, R1.push h1 h2 hq⟩
      · refine if_true_of (by simp) ?_
        obtain ⟨us, b, q1, q2, q3, q4, q5, q6⟩ := R1.last d r rfl
        have fr := fit.each r (by simp)
        obtain ⟨r0, x, rfl⟩ : ∃ r0 x, r = r0 ++ [x] := by
          rcases snoc_cases r with e | e
          · exact absurd e fr.1
          · exact e
        have ex : ((r0 ++ [x]).map V.int) = r0.map V.int ++ [V.int x] := by
          rw [List.map_append]
          rfl
        have q3' : SqL K (upd H' c (.lst [])) b (r0.map V.int ++ [V.int x]) := by
          rw [← ex]
          exact SqL.of q3
        -- sort_of(found[-1][-1]) == sort_of(byte)
        refine ⟨_, rfl, 1, rfl, l, _, _, _, rfl, rfl, SqL.of q1, atI_last us (.ref b), 1, rfl, b, _, _, _, rfl, rfl, q3', atI_last _ _, x, rfl, _, rfl, z, rfl, rfl, _, rfl, ?_⟩
        rw [runStep_snoc]
        have el : (r0 ++ [x]).getLastD 0 = x := by
          rw [List.getLastD_eq_getLast?, List.getLast?_concat]
          rfl
        rw [el]
        by_cases c1 : sortOf x = sortOf z
        · rw [if_pos c1]
          refine if_true_of (decide_eq_true (congrArg V.int c1)) ?_
          refine ⟨_, rfl, 1, rfl, l, _, _, _, rfl, rfl, SqL.of q1, atI_last us (.ref b), .inl ⟨rfl, _, SqL.of q3⟩, _, rfl, b, _, _, rfl, rfl, q3, ?_, ?_⟩
          · rw [List.length_map]
            exact fits (by have := fr.2; omega)
          · have e2 : ((r0 ++ [x]).map V.int ++ [V.int z]) = ((r0 ++ [x]) ++ [z]).map V.int := by
              rw [List.map_append (l₁ := r0 ++ [x])]
              rfl
            rw [e2]
            exact ⟨_, rfl, R1.more q1 q2 q4 q5 q6⟩
        · rw [if_neg c1]
          refine if_false_of (decide_eq_false fun q => c1 (V.int.inj q)) ?_
          refine ⟨_, rfl, .inl ⟨rfl, _, SqL.of h1⟩, _, rfl, (by show 1 ≤ sizeLine; decide), fun q hq => ?_⟩
          have s2 := same_upd (o := .lst [V.int z]) hq
          refine ⟨l, _, _, rfl, rfl, s2 _ _ h1, hvl, ?_⟩
          exact ⟨_, rfl, R1.push h1 h2 hq⟩
    · rintro σ H' ⟨v, rfl, R⟩
      rw [List.length_map, List.take_length] at R
      obtain ⟨vs, h1, h2⟩ := R.at_
      exact ⟨_, rfl, k _ l vs R.same h1 h2⟩
end
end LW
/-! # The walk: words -/
namespace LW
open PySem PySem.Spec PyProof.Rows L2
open PySem.W (Codec)
section
variable {P : Program} {w : World} {K : PySem.W.Frag} {mg : Str → Option Value} {base : Heap}
theorem scLetters : FnScope ["run", "byte"] ["run"] (defScope sLetters) := ⟨rfl, rfl, rfl, by decide +kernel, rfl, by decide +kernel, by decide +kernel⟩
theorem ok_letters {f : Addr} {fd : FuncData} (F : Fun K "word_of_letters" "word_of_letters" sLetters f fd) (T : Txt mg) (GL : Has P w K mg base 2 "small" ["byte"] (spI small)) : FnOk P w K mg base CX0 3 f fd ["run"] (spRow K lettersOf) := by
  refine F.ok scLetters (fun vs H Q E h => ?_) (fun cdv A outer s H vs Q E hr h => ?_)
  · obtain ⟨a, ns, rfl, _⟩ := h
    rfl
  · obtain ⟨a, ns, rfl, hS, hne, hlen, k⟩ := h
    refine ⟨_, pss_cons (ps_if (pt_cmpR op_lt (pe_callB call_len_seq (by rfl) T.len PySem.boot_len (pa_cons (pv 0) pa_nil)) (pe_cn rfl T.FEWEST) (nomark _)) (pss_one (ps_ret (pe_lst pa_nil))) pss_nil)
      (pss_one (ps_ret (pe_lc (own := [("byte", 1)]) (g := gName 1) (tt := tYes) rfl scLetters.nd (pi_list (pe_slice sl_list (pv 0) po_none (po_some (pe_cn rfl T.MOST))))
        (blkOk_by (own := [("byte", 1)]) (N := ["run", "byte"]) (sc := defScope sLetters) (by decide +kernel))
        (fun _ _ _ _ _ => pg_name (i := 1) scLetters.nd rfl (Or.inl rfl)) (fun _ _ _ _ _ => pts_nil) (fun _ _ _ _ _ => pe_fn GL hr rfl (pa_cons (pv 1) pa_nil))))), ?_⟩
    refine ⟨_, rfl, a, _, rfl, .inl hS, _, _, rfl, rfl, _, rfl, ?_⟩
    rw [List.length_map]
    by_cases c : (ns.length : Int) < 2
    · refine if_true_of (decide_eq_true c) ⟨Nat.zero_le _, fun p hp => ?_⟩
      have e : lettersOf ns = [] := if_pos c
      refine k _ p (same_upd hp) hp ?_
      rw [e]
      exact upd_same
    · refine if_false_of (decide_eq_false c) ?_
      have e : lettersOf ns = (ns.take 12).map small := if_neg c
      refine ⟨_, rfl, _, rfl, a, _, rfl, hS, fun q hq => ?_⟩
      have ec : cutV (ns.map V.int) none (some 12) = (ns.take 12).map V.int := (cut_head _ 12).trans (List.map_take).symm
      have s1 := same_upd (o := .lst (cutV (ns.map V.int) none (some 12))) hq
      have h1 : upd H q (.lst (cutV (ns.map V.int) none (some 12))) q = some (.lst ((ns.take 12).map V.int)) := by rw [upd_same, ec]
      refine ⟨q, rfl, ⟨_, SqL.of h1⟩, fun D hD => ?_⟩
      generalize upd H q (.lst (cutV (ns.map V.int) none (some 12))) = H1 at h1 s1 hD
      refine lc_list (K := K) (a := q) (xs := (ns.take 12).map V.int) (fun i H' => Same H1 H' ∧ H' D = some (.lst ((((ns.take 12).map small).take i).map V.int)))
        ⟨same_upd hD, upd_same⟩ (fun i H' _ ⟨s2, _⟩ => SqL.of (s2 _ _ h1)) ?_ ?_
      · rintro i y H' hi ⟨s2, h2⟩
        obtain ⟨z, hz, rfl⟩ := int_at hi
        refine ⟨rfl, _, rfl, z, rfl, _, h2, ?_, same_put s2 hD, ?_⟩
        · rw [List.length_map, List.length_take, List.length_map, List.length_take]
          exact fits (by omega)
        · have hz' : ((ns.take 12).map small)[i]? = some (small z) := by
            rw [List.getElem?_map, hz]
            rfl
          rw [upd_same, take_more hz', List.map_append]
          rfl
      · rintro H' ⟨s2, h2⟩
        refine k _ D (s1.trans s2) (s1.free hD) ?_
        rw [e, h2, List.length_map]
        have e3 : ((ns.take 12).map small).take (ns.take 12).length = (ns.take 12).map small := List.take_of_length_le (by rw [List.length_map]; exact Nat.le_refl _)
        rw [e3]
theorem scDigits : FnScope ["run"] ["run"] (defScope sDigits) := ⟨rfl, rfl, rfl, by decide +kernel, rfl, by decide +kernel, by decide +kernel⟩
theorem ok_digits {f : Addr} {fd : FuncData} (F : Fun K "word_of_digits" "word_of_digits" sDigits f fd) (T : Txt mg) : FnOk P w K mg base CX0 1 f fd ["run"] (spRow K digitsOf) := by
  refine F.ok scDigits (fun vs H Q E h => ?_) (fun cdv A outer s H vs Q E hr h => ?_)
  · obtain ⟨a, ns, rfl, _⟩ := h
    rfl
  · obtain ⟨a, ns, rfl, hS, hne, hlen, k⟩ := h
    refine ⟨_, pss_one (ps_ret (pe_lst (pa_cons (pe_op op_add (pe_cn rfl T.ZERO) (pe_callB (call_min2 rfl) (by rfl) T.min (by decide +kernel)
      (pa_cons (pe_callB call_len_seq (by rfl) T.len PySem.boot_len (pa_cons (pv 0) pa_nil)) (pa_cons (pe_cn rfl T.COUNTED) pa_nil)))) pa_nil))), ?_⟩
    refine ⟨_, rfl, a, _, rfl, .inl hS, _, _, rfl, _, _, rfl, rfl, (by show 1 ≤ sizeLine; decide), fun p hp => ?_⟩
    refine k _ p (same_upd hp) hp ?_
    rw [upd_same, List.length_map]
    rfl
theorem scWord : FnScope ["run"] ["run"] (defScope sWord) := ⟨rfl, rfl, rfl, by decide +kernel, rfl, by decide +kernel, by decide +kernel⟩
theorem ok_word {f : Addr} {fd : FuncData} (F : Fun K "word_of" "word_of" sWord f fd) (T : Txt mg) (GS : Has P w K mg base 2 "sort_of" ["byte"] (spI sortOf)) (GL : Has P w K mg base 3 "word_of_letters" ["run"] (spRow K lettersOf))
    (GD : Has P w K mg base 1 "word_of_digits" ["run"] (spRow K digitsOf)) : FnOk P w K mg base CX0 4 f fd ["run"] (spRow K wordOf) := by
  refine F.ok scWord (fun vs H Q E h => ?_) (fun cdv A outer s H vs Q E hr h => ?_)
  · obtain ⟨a, ns, rfl, _⟩ := h
    rfl
  · obtain ⟨a, ns, rfl, hS, hne, hlen, k⟩ := h
    have hr2 : Room 2 _ := hr.mono (by decide)
    have hr1 : Room 1 _ := hr.mono (by decide)
    refine ⟨_, pss_cons (ps_if (pt_cmpR op_eq (pe_fn GS hr2 rfl (pa_cons (pe_ix ix_list (pv 0) pe_int (fun _ _ => rfl)) pa_nil)) (pe_cn rfl T.LETTER) (nomark _)) (pss_one (ps_ret (pe_fn GL hr rfl (pa_cons (pv 0) pa_nil)))) pss_nil)
      (pss_cons (ps_if (pt_cmpR op_eq (pe_fn GS hr2 rfl (pa_cons (pe_ix ix_list (pv 0) pe_int (fun _ _ => rfl)) pa_nil)) (pe_cn rfl T.DIGIT) (nomark _)) (pss_one (ps_ret (pe_fn GD hr1 rfl (pa_cons (pv 0) pa_nil)))) pss_nil)
      (pss_one (ps_ret (pe_lst pa_nil)))), ?_⟩
    obtain ⟨x, t, rfl⟩ : ∃ x t, ns = x :: t := by
      cases ns with
      | nil => exact absurd rfl hne
      | cons x t => exact ⟨x, t, rfl⟩
    have h0 : atI ((x :: t).map V.int) 0 = some (V.int x) := atI_nat (j := 0) rfl
    refine ⟨_, rfl, a, _, _, _, rfl, rfl, hS, h0, x, rfl, rfl, _, rfl, ?_⟩
    by_cases c : sortOf x = 1
    · have e : wordOf (x :: t) = lettersOf (x :: t) := if_pos c
      rw [e] at k
      exact if_true_of (decide_eq_true (congrArg V.int c)) ⟨_, rfl, a, _, rfl, hS, hne, hlen, k⟩
    · refine if_false_of (decide_eq_false fun q => c (V.int.inj q)) ?_
      refine ⟨_, rfl, a, _, _, _, rfl, rfl, hS, h0, x, rfl, rfl, _, rfl, ?_⟩
      by_cases d : sortOf x = 2
      · have e : wordOf (x :: t) = digitsOf (x :: t) := (if_neg c).trans (if_pos d)
        rw [e] at k
        exact if_true_of (decide_eq_true (congrArg V.int d)) ⟨_, rfl, a, _, rfl, hS, hne, hlen, k⟩
      · have e : wordOf (x :: t) = [] := (if_neg c).trans (if_neg d)
        rw [e] at k
        exact if_false_of (decide_eq_false fun q => d (V.int.inj q)) ⟨Nat.zero_le _, fun p hp => k _ p (same_upd hp) hp upd_same⟩
theorem scOnce : FnScope ["some", "found", "one"] ["some"] (defScope sOnce) := ⟨rfl, rfl, rfl, by decide +kernel, rfl, by decide +kernel, by decide +kernel⟩
theorem room65 {k : Nat} {A : Around} (r : Room k A) : A.units + 65 < cLine := by
  have := r.un
  omega
theorem ok_once {f : Addr} {fd : FuncData} (F : Fun K "once" "once" sOnce f fd) : FnOk P w K mg base CX0 1 f fd ["some"] spOnce := by
  refine F.ok scOnce (fun vs H Q E h => ?_) (fun cdv A outer s H vs Q E hr h => ?_)
  · obtain ⟨a, us, xss, rfl, _⟩ := h
    rfl
  · obtain ⟨a, us, xss, rfl, hA, hR, hlen, k⟩ := h
    refine ⟨_, pss_cons (ps_set (i := 1) scOnce.nd rfl (.inl rfl) (pe_lst pa_nil))
      (pss_cons (ps_for PassesOwn.never rfl (pi_list (pv 0)) (pg_name (i := 2) scOnce.nd rfl (.inl rfl))
        (pss_one (ps_if (pt_cmpR (op_notInD (room65 hr)) (pv 2) (pv 1) (by rfl))
          (pss_one (ps_expr (pe_bm PySem.F.plainAttrs_list PySem.F.slot_list_append PySem.F.type_list_append mt_append (pv 1) (pa_cons (pv 2) pa_nil)))) pss_nil)))
      (pss_one (ps_ret (pv 1)))), ?_⟩
    refine ⟨Nat.zero_le _, fun l hl => ?_⟩
    have s1 : Same H (upd H l (.lst [])) := same_upd hl
    refine ⟨_, rfl, a, rfl, ⟨_, SqL.of (s1 _ _ hA)⟩, for_list (K := K) (a := a) (xs := us) (fun i σ H' => ∃ (v : Option V) (ws : List V), σ = [some (.ref a), some (.ref l), v] ∧ Same H H' ∧ H' l = some (.lst ws) ∧ WRows H' ws (once (xss.take i)))
      ⟨none, [], rfl, s1, upd_same, .nil⟩ (fun i σ H' _ ⟨_, _, _, s2, _⟩ => SqL.of (s2 _ _ hA)) ?_ ?_⟩
    · rintro i y σ H' hi ⟨v, ws, rfl, s2, h1, h2⟩
      obtain ⟨xs, hxs, hy⟩ := hR.get hi
      have step := once_more hxs
      have hil : i < xss.length := (List.getElem?_eq_some_iff.mp hxs).1
      have ol := once_len (xss.take i)
      rw [List.length_take] at ol
      generalize once (xss.take i) = f at h2 step ol
      rw [step]
      obtain ⟨b, rfl, hb⟩ := hy
      refine ⟨_, rfl, _, rfl, rowD xs, f.map rowD, dp_row (SqL.of (s2 _ _ hb)), .lst (SqL.of h1) h2.dp, rowD_shaped _, rowsD_shaped _, _, rfl, ?_⟩
      rw [any_eqv]
      by_cases c : f.contains xs = true
      · have e : onceStep f xs = f := if_pos c
        rw [e]
        exact if_false_of (by rw [c]; rfl) ⟨_, ws, rfl, s2, h1, h2⟩
      · have e : onceStep f xs = f ++ [xs] := if_neg c
        rw [e]
        refine if_true_of (by rw [Bool.eq_false_iff.mpr c]; rfl) ?_
        refine ⟨_, rfl, .inl ⟨rfl, _, SqL.of h1⟩, _, rfl, l, _, _, rfl, rfl, h1, ?_, ?_⟩
        · rw [h2.len]
          exact fits (by omega)
        · refine ⟨_, _, rfl, same_put s2 hl, upd_same, (h2.put (h2.apart h1)).snoc ⟨b, rfl, ?_⟩⟩
          rw [upd_ne (ne_of_none hb hl)]
          exact s2 _ _ hb
    · rintro σ H' ⟨v, ws, rfl, s2, h1, h2⟩
      rw [hR.len, List.take_length] at h2
      exact ⟨_, rfl, k _ l ws s2 h1 h2⟩
theorem scWords : FnScope ["text", "some", "run", "word"] ["text"] (defScope sWords) := ⟨rfl, rfl, rfl, by decide +kernel, rfl, by decide +kernel, by decide +kernel⟩
theorem ok_wordsOf {f : Addr} {fd : FuncData} (F : Fun K "words_of" "words_of" sWords f fd) (T : Txt mg) (GR : Has P w K mg base 3 "runs_of" ["text"] (spRows K runsOf)) (GW : Has P w K mg base 4 "word_of" ["run"] (spRow K wordOf))
    (GO : Has P w K mg base 1 "once" ["some"] spOnce) : FnOk P w K mg base CX0 5 f fd ["text"] (spRows K wordsOf) := by
  refine F.ok scWords (fun vs H Q E h => ?_) (fun cdv A outer s H vs Q E hr h => ?_)
  · obtain ⟨a, ns, rfl, _⟩ := h
    rfl
  · obtain ⟨a, ns, rfl, hS, hlen, k⟩ := h
    have hr3 : Room 3 _ := hr.mono (by decide)
    have hr1 : Room 1 _ := hr.mono (by decide)
    refine ⟨_, pss_cons (ps_setLc (i := 1) (own := [("run", 2)]) (g := gName 2) (tt := tYes) rfl scWords.nd rfl rfl (sw_true rfl rfl rfl (by decide +kernel)) (pi_list (pe_fn GR hr3 rfl (pa_cons (pv 0) pa_nil)))
        (blkOk_by (own := [("run", 2)]) (N := ["text", "some", "run", "word"]) (sc := defScope sWords) (by decide +kernel))
        (fun _ _ _ _ _ => pg_name (i := 2) scWords.nd rfl (Or.inl rfl)) (fun _ _ _ _ _ => pts_nil) (fun _ _ _ _ _ => pe_fn GW hr rfl (pa_cons (pv 2) pa_nil)))
      (pss_one (ps_ret (pe_slice sl_list (pe_fn GO hr1 rfl (pa_cons
        (pe_lc (own := [("word", 3)]) (g := gName 3) (tt := tTest (tOp (rNeD K) (tVar 3) (tLst tNil))) rfl scWords.nd (pi_list (pv 1))
          (blkOk_by (own := [("word", 3)]) (N := ["text", "some", "run", "word"]) (sc := defScope sWords) (by decide +kernel))
          (fun _ _ _ _ _ => pg_name (i := 3) scWords.nd rfl (Or.inl rfl)) (fun _ _ _ _ _ => pts_one (pt_cmpR (op_neD hr.units) (pv 3) (pe_lst pa_nil) (nomark _))) (fun _ _ _ _ _ => pv 3)) pa_nil)) po_none (po_some (pe_cn rfl T.WORDS))))), ?_⟩
    have fit := runs_fit ns
    -- runs_of(text)
    refine ⟨_, rfl, a, ns, rfl, hS, hlen, fun H1 p rs s1 hp hR => ?_⟩
    refine ⟨p, rfl, ⟨_, SqL.of hp⟩, fun D hD => ?_⟩
    refine lc_list (K := K) (a := p) (xs := rs) (fun i H' => ∃ ws : List V, Same H1 H' ∧ H' D = some (.lst ws) ∧ WRows H' ws (((runsOf ns).map wordOf).take i))
      ⟨[], same_upd hD, upd_same, .nil⟩ (fun i H' _ ⟨_, s2, _⟩ => SqL.of (s2 _ _ hp)) ?_ ?_
    · rintro i y H' hi ⟨ws, s2, h1, h2⟩
      obtain ⟨r, hr', hy⟩ := hR.get hi
      have mr := List.mem_of_getElem? hr'
      obtain ⟨b, rfl, hb⟩ := hy
      refine ⟨rfl, _, rfl, b, r, rfl, SqL.of (s2 _ _ hb), (fit.each r mr).1, Nat.le_trans (fit.each r mr).2 hlen, fun H2 q s3 nq hq => ?_⟩
      refine ⟨ws, s3 _ _ h1, ?_, ws ++ [.ref q], same_put (s2.trans s3) hD, upd_same, ?_⟩
      · rw [h2.len, List.length_take, List.length_map]
        exact fits (by have := fit.len; omega)
      · have hw : ((runsOf ns).map wordOf)[i]? = some (wordOf r) := by
          rw [List.getElem?_map, hr']
          rfl
        rw [take_more hw]
        have h2' := h2.same s3
        refine (h2'.put (h2'.apart (s3 _ _ h1))).snoc ⟨q, rfl, ?_⟩
        rw [upd_ne (ne_of_none h1 nq).symm]
        exact hq
    · rintro H2 ⟨ws, s2, h1, h2⟩
      have hW : WRows H2 ws ((runsOf ns).map wordOf) := by
        rw [hR.len, List.take_of_length_le (by rw [List.length_map]; exact Nat.le_refl _)] at h2
        exact h2
      have lW : ((runsOf ns).map wordOf).length ≤ 2010 := by
        rw [List.length_map]
        exact Nat.le_trans fit.len hlen
      have s02 : Same H H2 := s1.trans s2
      have ew : wordsOf ns = (once (((runsOf ns).map wordOf).filter full)).take 40 := rfl
      rw [ew] at k
      generalize (runsOf ns).map wordOf = W at hW lW k
      -- [word for word in some if word != []]
      refine ⟨_, rfl, D, rfl, ⟨_, SqL.of h1⟩, fun D2 hD2 => ?_⟩
      refine lc_list (K := K) (a := D) (xs := ws) (fun i H' => ∃ us : List V, Same H2 H' ∧ H' D2 = some (.lst us) ∧ WRows H' us ((W.take i).filter full))
        ⟨[], same_upd hD2, upd_same, .nil⟩ (fun i H' _ ⟨_, s3, _⟩ => SqL.of (s3 _ _ h1)) ?_ ?_
      · rintro i y H' hi ⟨us, s3, g1, g2⟩
        obtain ⟨xs, hxs, hy⟩ := hW.get hi
        obtain ⟨b, rfl, hb⟩ := hy
        refine ⟨rfl, _, rfl, Nat.zero_le _, fun c hc => ?_⟩
        have s4 := same_upd (o := .lst []) hc
        refine ⟨rowD xs, .list [], dp_row (SqL.of (s4 _ _ (s3 _ _ hb))), nil_dp upd_same, rowD_shaped _, nil_shaped, _, rfl, ?_⟩
        rw [row_nil_eqv, take_more hxs, List.filter_append]
        by_cases e : full xs = true
        · refine if_true_of e ⟨_, rfl, us, s4 _ _ g1, ?_, us ++ [.ref b], same_put (s3.trans s4) hD2, upd_same, ?_⟩
          · rw [g2.len]
            refine fits ?_
            have q := List.length_filter_le full (W.take i)
            rw [List.length_take] at q
            omega
          · rw [show ([xs] : List (List Int)).filter full = [xs] by rw [List.filter_cons, if_pos e, List.filter_nil]]
            have g2' := g2.same s4
            refine (g2'.put (g2'.apart (s4 _ _ g1))).snoc ⟨b, rfl, ?_⟩
            rw [upd_ne (ne_of_none hb hD2)]
            exact s4 _ _ (s3 _ _ hb)
        · refine if_false_of (Bool.eq_false_iff.mpr e) ⟨us, s3.trans s4, s4 _ _ g1, ?_⟩
          rw [show ([xs] : List (List Int)).filter full = [] by rw [List.filter_cons, if_neg e, List.filter_nil], List.append_nil]
          exact g2.same s4
      · rintro H3 ⟨us, s3, g1, g2⟩
        rw [hW.len, List.take_length] at g2
        -- once(..)[:MOST_WORDS]
        refine ⟨D2, us, _, rfl, g1, g2, Nat.le_trans (List.length_filter_le _ _) lW, fun H4 p4 vs s4 hp4 hR4 => ?_⟩
        refine ⟨40, rfl, p4, vs, rfl, SqL.of hp4, fun q hq => ?_⟩
        have s5 := same_upd (o := .lst (cutV vs none (some 40))) hq
        refine k _ q (vs.take 40) (((s02.trans s3).trans s4).trans s5) ?_ ((hR4.take 40).same s5)
        rw [upd_same]
        exact congrArg (fun z => some (HO.lst z)) (cut_head vs 40)
theorem scText : FnScope ["text"] ["text"] (defScope sText) := ⟨rfl, rfl, rfl, by decide +kernel, rfl, by decide +kernel, by decide +kernel⟩
def isText (l : List Int) : Bool := decide ((l.length : Int) ≤ 2000)
theorem ok_text {f : Addr} {fd : FuncData} (F : Fun K "is_text" "is_text" sText f fd) (T : Txt mg) : FnOk P w K mg base CX0 1 f fd ["text"] (spTest K isText) := by
  refine F.ok scText (fun vs H Q E h => ?_) (fun cdv A outer s H vs Q E hr h => ?_)
  · obtain ⟨a, ns, rfl, _⟩ := h
    rfl
  · obtain ⟨a, ns, rfl, hS, hlen, k⟩ := h
    refine ⟨_, pss_one (ps_ret (pe_cmpR op_le (pe_callB call_len_seq (by rfl) T.len PySem.boot_len (pa_cons (pv 0) pa_nil)) (pe_cn rfl T.BYTES) (nomark _))), ?_⟩
    refine ⟨_, rfl, a, _, rfl, .inl hS, _, _, rfl, rfl, ?_⟩
    rw [List.length_map]
    exact k _ (Same.refl _)
end
end LW
/-! # has(text, word) -/
namespace LW
open PySem PySem.Spec PyProof.Rows L2
open PySem.W (Codec)
abbrev sCount : Stmt := top 26
abbrev sIsWord : Stmt := top 27
abbrev sMain : Stmt := top 32
def spMain (K : PySem.W.Frag) : Sp := fun vs H Q _ => ∃ (a b : Addr) (ns ms : List Int), vs = [.ref a, .ref b] ∧ SqL K H a (ns.map V.int) ∧ ns.length ≤ 2010 ∧ SqL K H b (ms.map V.int) ∧ ms.length ≤ 20 ∧
  ∀ (H' : Hp) (p : Addr), H' p = some (.lst ((answerHas ns ms).map V.int)) → Q (.ref p) H'
section
variable {P : Program} {w : World} {K : PySem.W.Frag} {mg : Str → Option Value} {base : Heap}
theorem scCount : FnScope ["word"] ["word"] (defScope sCount) := ⟨rfl, rfl, rfl, by decide +kernel, rfl, by decide +kernel, by decide +kernel⟩
theorem ok_count {f : Addr} {fd : FuncData} (F : Fun K "is_count" "is_count" sCount f fd) (T : Txt mg) (GD : Has P w K mg base 1 "is_digit" ["byte"] (spB isDigit)) : FnOk P w K mg base CX0 2 f fd ["word"] (spTest K isCount) := by
  refine F.ok scCount (fun vs H Q E h => ?_) (fun cdv A outer s H vs Q E hr h => ?_)
  · obtain ⟨a, ns, rfl, _⟩ := h
    rfl
  · obtain ⟨a, ns, rfl, hS, hlen, k⟩ := h
    refine ⟨_, pss_one (ps_ret (pe_and (pe_cmpR op_eq (pe_callB call_len_seq (by rfl) T.len PySem.boot_len (pa_cons (pv 0) pa_nil)) pe_int (nomark _))
      (pe_and (pe_fn GD hr rfl (pa_cons (pe_ix ix_list (pv 0) pe_int (fun _ _ => rfl)) pa_nil))
      (pe_one (pe_cmpR op_ne (pe_ix ix_list (pv 0) pe_int (fun _ _ => rfl)) (pe_cn rfl T.ZERO) (nomark _)))))), ?_⟩
    have k := k _ (Same.refl H)
    unfold isCount at k
    refine ⟨_, rfl, a, _, rfl, .inl hS, rfl, _, rfl, ?_⟩
    rw [List.length_map]
    by_cases c : ns.length = 1
    · obtain ⟨x, rfl⟩ : ∃ x, ns = [x] := by
        cases ns with
        | nil => simp at c
        | cons x t =>
          cases t with
          | nil => exact ⟨x, rfl⟩
          | cons y t => simp at c
      refine if_true_of (decide_eq_true rfl) ?_
      have h0 : atI (([x] : List Int).map V.int) 0 = some (V.int x) := atI_nat (j := 0) rfl
      refine ⟨_, rfl, a, _, _, _, rfl, rfl, hS, h0, x, rfl, _, rfl, ?_⟩
      rw [decide_eq_true c, Bool.true_and, show ([x] : List Int).headD 0 = x from rfl] at k
      by_cases d : isDigit x = true
      · refine if_true_of d ⟨_, rfl, a, _, _, _, rfl, rfl, hS, h0, rfl, ?_⟩
        rw [d, Bool.true_and] at k
        have e : decide (V.int x = V.int 48) = decide (x = 48) := by
          rw [Bool.eq_iff_iff]
          simp only [decide_eq_true_eq]
          exact ⟨fun q => V.int.inj q, fun q => congrArg V.int q⟩
        rw [e]
        exact k
      · refine if_false_of (Bool.eq_false_iff.mpr d) ?_
        rw [Bool.eq_false_iff.mpr d, Bool.false_and] at k
        exact k
    · refine if_false_of (decide_eq_false fun q => c ?_) ?_
      · have q1 := V.int.inj q
        omega
      · rw [decide_eq_false c, Bool.false_and] at k
        exact k
theorem scIsWord : FnScope ["word", "byte"] ["word"] (defScope sIsWord) := ⟨rfl, rfl, rfl, by decide +kernel, rfl, by decide +kernel, by decide +kernel⟩
theorem ok_isWord {f : Addr} {fd : FuncData} (F : Fun K "is_word" "is_word" sIsWord f fd) (T : Txt mg) (mAll : mg "all" = none) (GS : Has P w K mg base 1 "is_small" ["byte"] (spB isSmall)) (GC : Has P w K mg base 2 "is_count" ["word"] (spTest K isCount)) :
    FnOk P w K mg base CX0 3 f fd ["word"] (spTest K isWord) := by
  refine F.ok scIsWord (fun vs H Q E h => ?_) (fun cdv A outer s H vs Q E hr h => ?_)
  · obtain ⟨a, ns, rfl, _⟩ := h
    rfl
  · obtain ⟨a, ns, rfl, hS, hlen, k⟩ := h
    have hr1 : Room 1 _ := hr.mono (by decide)
    refine ⟨_, pss_cons (ps_if (pt_val (pe_fn GC hr rfl (pa_cons (pv 0) pa_nil))) (pss_one (ps_ret pe_bl)) pss_nil)
      (pss_one (ps_ret (pe_and (pe_chain op_le op_le (pe_cn rfl T.FEWEST) (pe_callB call_len_seq (by rfl) T.len PySem.boot_len (pa_cons (pv 0) pa_nil)) (pe_cn rfl T.MOST))
        (pe_one (pe_callB (cr_all rfl) (by rfl) mAll (by decide +kernel) (pa_cons
          (pe_lc (own := [("byte", 1)]) (g := gName 1) (tt := tYes) rfl scIsWord.nd (pi_list (pv 0))
            (blkOk_by (own := [("byte", 1)]) (N := ["word", "byte"]) (sc := defScope sIsWord) (by decide +kernel))
            (fun _ _ _ _ _ => pg_name (i := 1) scIsWord.nd rfl (Or.inl rfl)) (fun _ _ _ _ _ => pts_nil) (fun _ _ _ _ _ => pe_fn GS hr1 rfl (pa_cons (pv 1) pa_nil))) pa_nil)))))), ?_⟩
    unfold isWord at k
    refine ⟨_, rfl, a, ns, rfl, hS, hlen, fun H1 s1 => ⟨_, rfl, ?_⟩⟩
    by_cases c : isCount ns = true
    · refine if_true_of c ?_
      rw [c, Bool.true_or] at k
      exact k _ s1
    · refine if_false_of (Bool.eq_false_iff.mpr c) ?_
      rw [Bool.eq_false_iff.mpr c, Bool.false_or] at k
      refine ⟨_, rfl, a, _, rfl, .inl (s1.seq hS), _, _, rfl, rfl, _, rfl, ?_⟩
      rw [List.length_map]
      by_cases d : (2 : Int) ≤ (ns.length : Int)
      · refine if_true_of (decide_eq_true d) ⟨_, _, rfl, rfl, _, rfl, ?_⟩
        rw [decide_eq_true d, Bool.true_and] at k
        by_cases e : (ns.length : Int) ≤ 12
        · rw [decide_eq_true e, Bool.true_and] at k
          refine if_true_of (decide_eq_true e) ?_
          refine ⟨_, rfl, a, rfl, ⟨_, s1.seq hS⟩, fun D hD => ?_⟩
          refine lc_list (K := K) (a := a) (xs := ns.map V.int) (fun i H' => Same H1 H' ∧ H' D = some (.lst (((ns.map isSmall).take i).map V.bl)))
            ⟨same_upd hD, upd_same⟩ (fun i H' _ ⟨s2, _⟩ => (s1.trans s2).seq hS) ?_ ?_
          · rintro i y H' hi ⟨s2, h2⟩
            obtain ⟨z, hz, rfl⟩ := int_at hi
            refine ⟨rfl, _, rfl, z, rfl, _, h2, ?_, same_put s2 hD, ?_⟩
            · rw [List.length_map, List.length_take, List.length_map]
              exact fits (by omega)
            · have hz' : (ns.map isSmall)[i]? = some (isSmall z) := by
                rw [List.getElem?_map, hz]
                rfl
              rw [upd_same, take_more hz', List.map_append]
              rfl
          · rintro H' ⟨s2, h2⟩
            rw [List.length_map] at h2
            have e3 : (ns.map isSmall).take ns.length = ns.map isSmall := List.take_of_length_le (by rw [List.length_map]; exact Nat.le_refl _)
            rw [e3] at h2
            exact ⟨D, _, rfl, SqL.of h2, k _ (s1.trans s2)⟩
        · rw [decide_eq_false e, Bool.false_and] at k
          exact if_false_of (decide_eq_false e) (k _ s1)
      · rw [decide_eq_false d, Bool.false_and, Bool.false_and] at k
        exact if_false_of (decide_eq_false d) ⟨_, rfl, if_false_of rfl (k _ s1)⟩
theorem scMain : FnScope ["text", "word"] ["text", "word"] (defScope sMain) := ⟨rfl, rfl, rfl, by decide +kernel, rfl, by decide +kernel, by decide +kernel⟩
theorem ok_main {f : Addr} {fd : FuncData} (F : Fun K "has" "has" sMain f fd) (T : Txt mg) (mInt : mg "int" = none) (GT : Has P w K mg base 1 "is_text" ["text"] (spTest K isText)) (GI : Has P w K mg base 3 "is_word" ["word"] (spTest K isWord))
    (GW : Has P w K mg base 5 "words_of" ["text"] (spRows K wordsOf)) : FnOk P w K mg base CX0 6 f fd ["text", "word"] (spMain K) := by
  refine F.ok scMain (fun vs H Q E h => ?_) (fun cdv A outer s H vs Q E hr h => ?_)
  · obtain ⟨a, b, ns, ms, rfl, _⟩ := h
    rfl
  · obtain ⟨a, b, ns, ms, rfl, hS, hlen, hS2, hlen2, k⟩ := h
    have hr1 : Room 1 _ := hr.mono (by decide)
    have hr3 : Room 3 _ := hr.mono (by decide)
    refine ⟨_, pss_cons (ps_if (PW.pt (pw_or (pt_not (pt_val (pe_fn GT hr1 rfl (pa_cons (pv 0) pa_nil)))) (pw_or1 (pt_not (pt_val (pe_fn GI hr3 rfl (pa_cons (pv 1) pa_nil)))))))
        (pss_one (ps_ret (pe_lst (pa_cons (pe_cn rfl T.LONG) pa_nil)))) pss_nil)
      (pss_one (ps_ret (pe_lst (pa_cons (pe_callTy call_int1 (by rfl) mInt (by decide +kernel) (pa_cons
        (pe_cmpR (op_inD (room65 hr)) (pv 1) (pe_fn GW hr rfl (pa_cons (pv 0) pa_nil)) (by rfl)) pa_nil)) pa_nil)))), ?_⟩
    have long : ¬ (ns.length ≤ 2000 ∧ isWord ms = true) → ∀ H1 : Hp, (1 ≤ sizeLine) ∧ ∀ p, H1 p = none → Q (.ref p) (upd H1 p (.lst [.int (-22)])) := fun c H1 => by
      refine ⟨(by decide), fun p hp => k _ p ?_⟩
      have e : answerHas ns ms = [-22] := if_neg c
      rw [e]
      exact upd_same
    -- if not is_text(text) or not is_word(word)
    refine ⟨_, rfl, a, ns, rfl, hS, hlen, fun H1 s1 => ⟨_, rfl, ?_⟩⟩
    by_cases c1 : ns.length ≤ 2000
    · have d1 : isText ns = true := decide_eq_true (by omega)
      refine if_false_of (by rw [d1]; rfl) ?_
      refine ⟨_, rfl, b, ms, rfl, s1.seq hS2, by omega, fun H2 s2 => ⟨_, rfl, ?_⟩⟩
      by_cases c2 : isWord ms = true
      · refine if_false_of (by rw [c2]; rfl) ?_
        have e : answerHas ns ms = [if (wordsOf ns).contains ms = true then 1 else 0] := if_pos ⟨c1, c2⟩
        rw [e] at k
        -- word in words_of(text)
        refine ⟨_, rfl, _, rfl, a, ns, rfl, (s1.trans s2).seq hS, hlen, fun H3 p3 ws s3 hp3 hR3 => ?_⟩
        have s03 : Same H H3 := (s1.trans s2).trans s3
        refine ⟨rowD ms, (wordsOf ns).map rowD, dp_row (s03.seq hS2), .lst (SqL.of hp3) hR3.dp, rowD_shaped _, rowsD_shaped _, .inr ⟨_, rfl, (by show 1 ≤ sizeLine; decide), fun p hp => k _ p ?_⟩⟩
        rw [upd_same, any_eqv]
        rfl
      · exact if_true_of (by rw [Bool.eq_false_iff.mpr c2]; rfl) (long (fun q => c2 q.2) _)
    · have d1 : isText ns = false := decide_eq_false (by omega)
      exact if_true_of (by rw [d1]; rfl) (if_true_of rfl (long (fun q => c1 q.1) _))
end
end LW
/-! # The end: what the top has written -/
namespace LW
open PySem PySem.Spec PyProof.Rows L2
open PySem.W (Codec)
theorem all_mk {P : Program} {w : World} {K : PySem.W.Frag} {h : Heap} {mg : Str → Option Value} {fa : Addr} (X : K.In h) (G : h.Ns mainGlobals mg) (hfa : mg "has" = some (.ref fa))
    {f1 f2 f3 f4 f5 f6 f7 f8 f9 f10 f11 f12 f13 f14 f15 : Addr}
    {od1 an1 od2 an2 od3 an3 od4 an4 od5 an5 od6 an6 od7 an7 od8 an8 od9 an9 od10 an10 od11 an11 od12 an12 od13 an13 od14 an14 od15 an15 : Option Addr}
    {sl1 sl2 sl3 sl4 sl5 sl6 sl7 sl8 sl9 sl10 sl11 sl12 sl13 sl14 sl15 : Array (Option Value)}
    {oc1 kV1 dc1 pm1 cd1 ct1 oc2 kV2 dc2 pm2 cd2 ct2 oc3 kV3 dc3 pm3 cd3 ct3 oc4 kV4 dc4 pm4 cd4 ct4 oc5 kV5 dc5 pm5 cd5 ct5 oc6 kV6 dc6 pm6 cd6 ct6 oc7 kV7 dc7 pm7 cd7 ct7 oc8 kV8 dc8 pm8 cd8 ct8 oc9 kV9 dc9 pm9 cd9 ct9 oc10 kV10 dc10 pm10 cd10 ct10 oc11 kV11 dc11 pm11 cd11 ct11 oc12 kV12 dc12 pm12 cd12 ct12 oc13 kV13 dc13 pm13 cd13 ct13 oc14 kV14 dc14 pm14 cd14 ct14 oc15 kV15 dc15 pm15 cd15 ct15 : Value}
    {t1 t2 t3 t4 t5 t6 t7 t8 t9 t10 t11 t12 t13 t14 : Tok}
    (a1 : PySem.W.nsIn K mainGlobals "is_large" = some (some (.ref f1))) (l1 : K.lookup f1 = some ⟨oc1, od1, .func (PySem.W.fnOf "is_large" "is_large" (defArgs sLarge) (defBody sLarge) (defScope sLarge) .none kV1 dc1 pm1 an1 cd1 ct1), sl1⟩) (c1 : PySem.W.codeIn K cd1 "is_large" = true) (k1 : PySem.W.keepIn K (.ref f1) = true)
    (a2 : PySem.W.nsIn K mainGlobals "is_small" = some (some (.ref f2))) (l2 : K.lookup f2 = some ⟨oc2, od2, .func (PySem.W.fnOf "is_small" "is_small" (defArgs sSmall) (defBody sSmall) (defScope sSmall) .none kV2 dc2 pm2 an2 cd2 ct2), sl2⟩) (c2 : PySem.W.codeIn K cd2 "is_small" = true) (k2 : PySem.W.keepIn K (.ref f2) = true)
    (a3 : PySem.W.nsIn K mainGlobals "is_digit" = some (some (.ref f3))) (l3 : K.lookup f3 = some ⟨oc3, od3, .func (PySem.W.fnOf "is_digit" "is_digit" (defArgs sDigit) (defBody sDigit) (defScope sDigit) .none kV3 dc3 pm3 an3 cd3 ct3), sl3⟩) (c3 : PySem.W.codeIn K cd3 "is_digit" = true) (k3 : PySem.W.keepIn K (.ref f3) = true)
    (a4 : PySem.W.nsIn K mainGlobals "sort_of" = some (some (.ref f4))) (l4 : K.lookup f4 = some ⟨oc4, od4, .func (PySem.W.fnOf "sort_of" "sort_of" (defArgs sSort) (defBody sSort) (defScope sSort) .none kV4 dc4 pm4 an4 cd4 ct4), sl4⟩) (c4 : PySem.W.codeIn K cd4 "sort_of" = true) (k4 : PySem.W.keepIn K (.ref f4) = true)
    (a5 : PySem.W.nsIn K mainGlobals "small" = some (some (.ref f5))) (l5 : K.lookup f5 = some ⟨oc5, od5, .func (PySem.W.fnOf "small" "small" (defArgs sLower) (defBody sLower) (defScope sLower) .none kV5 dc5 pm5 an5 cd5 ct5), sl5⟩) (c5 : PySem.W.codeIn K cd5 "small" = true) (k5 : PySem.W.keepIn K (.ref f5) = true)
    (a6 : PySem.W.nsIn K mainGlobals "runs_of" = some (some (.ref f6))) (l6 : K.lookup f6 = some ⟨oc6, od6, .func (PySem.W.fnOf "runs_of" "runs_of" (defArgs sRuns) (defBody sRuns) (defScope sRuns) .none kV6 dc6 pm6 an6 cd6 ct6), sl6⟩) (c6 : PySem.W.codeIn K cd6 "runs_of" = true) (k6 : PySem.W.keepIn K (.ref f6) = true)
    (a7 : PySem.W.nsIn K mainGlobals "word_of_letters" = some (some (.ref f7))) (l7 : K.lookup f7 = some ⟨oc7, od7, .func (PySem.W.fnOf "word_of_letters" "word_of_letters" (defArgs sLetters) (defBody sLetters) (defScope sLetters) .none kV7 dc7 pm7 an7 cd7 ct7), sl7⟩) (c7 : PySem.W.codeIn K cd7 "word_of_letters" = true) (k7 : PySem.W.keepIn K (.ref f7) = true)
    (a8 : PySem.W.nsIn K mainGlobals "word_of_digits" = some (some (.ref f8))) (l8 : K.lookup f8 = some ⟨oc8, od8, .func (PySem.W.fnOf "word_of_digits" "word_of_digits" (defArgs sDigits) (defBody sDigits) (defScope sDigits) .none kV8 dc8 pm8 an8 cd8 ct8), sl8⟩) (c8 : PySem.W.codeIn K cd8 "word_of_digits" = true) (k8 : PySem.W.keepIn K (.ref f8) = true)
    (a9 : PySem.W.nsIn K mainGlobals "word_of" = some (some (.ref f9))) (l9 : K.lookup f9 = some ⟨oc9, od9, .func (PySem.W.fnOf "word_of" "word_of" (defArgs sWord) (defBody sWord) (defScope sWord) .none kV9 dc9 pm9 an9 cd9 ct9), sl9⟩) (c9 : PySem.W.codeIn K cd9 "word_of" = true) (k9 : PySem.W.keepIn K (.ref f9) = true)
    (a10 : PySem.W.nsIn K mainGlobals "once" = some (some (.ref f10))) (l10 : K.lookup f10 = some ⟨oc10, od10, .func (PySem.W.fnOf "once" "once" (defArgs sOnce) (defBody sOnce) (defScope sOnce) .none kV10 dc10 pm10 an10 cd10 ct10), sl10⟩) (c10 : PySem.W.codeIn K cd10 "once" = true) (k10 : PySem.W.keepIn K (.ref f10) = true)
    (a11 : PySem.W.nsIn K mainGlobals "words_of" = some (some (.ref f11))) (l11 : K.lookup f11 = some ⟨oc11, od11, .func (PySem.W.fnOf "words_of" "words_of" (defArgs sWords) (defBody sWords) (defScope sWords) .none kV11 dc11 pm11 an11 cd11 ct11), sl11⟩) (c11 : PySem.W.codeIn K cd11 "words_of" = true) (k11 : PySem.W.keepIn K (.ref f11) = true)
    (a12 : PySem.W.nsIn K mainGlobals "is_count" = some (some (.ref f12))) (l12 : K.lookup f12 = some ⟨oc12, od12, .func (PySem.W.fnOf "is_count" "is_count" (defArgs sCount) (defBody sCount) (defScope sCount) .none kV12 dc12 pm12 an12 cd12 ct12), sl12⟩) (c12 : PySem.W.codeIn K cd12 "is_count" = true) (k12 : PySem.W.keepIn K (.ref f12) = true)
    (a13 : PySem.W.nsIn K mainGlobals "is_word" = some (some (.ref f13))) (l13 : K.lookup f13 = some ⟨oc13, od13, .func (PySem.W.fnOf "is_word" "is_word" (defArgs sIsWord) (defBody sIsWord) (defScope sIsWord) .none kV13 dc13 pm13 an13 cd13 ct13), sl13⟩) (c13 : PySem.W.codeIn K cd13 "is_word" = true) (k13 : PySem.W.keepIn K (.ref f13) = true)
    (a14 : PySem.W.nsIn K mainGlobals "is_text" = some (some (.ref f14))) (l14 : K.lookup f14 = some ⟨oc14, od14, .func (PySem.W.fnOf "is_text" "is_text" (defArgs sText) (defBody sText) (defScope sText) .none kV14 dc14 pm14 an14 cd14 ct14), sl14⟩) (c14 : PySem.W.codeIn K cd14 "is_text" = true) (k14 : PySem.W.keepIn K (.ref f14) = true)
    (a15 : PySem.W.nsIn K mainGlobals "has" = some (some (.ref f15))) (l15 : K.lookup f15 = some ⟨oc15, od15, .func (PySem.W.fnOf "has" "has" (defArgs sMain) (defBody sMain) (defScope sMain) .none kV15 dc15 pm15 an15 cd15 ct15), sl15⟩) (c15 : PySem.W.codeIn K cd15 "has" = true) (k15 : PySem.W.keepIn K (.ref f15) = true)
    (z1 : PySem.W.nsIn K mainGlobals "OTHER" = some (some (.int 0 t1)))
    (z2 : PySem.W.nsIn K mainGlobals "LETTER" = some (some (.int 1 t2)))
    (z3 : PySem.W.nsIn K mainGlobals "DIGIT" = some (some (.int 2 t3)))
    (z4 : PySem.W.nsIn K mainGlobals "LARGE_A" = some (some (.int 65 t4)))
    (z5 : PySem.W.nsIn K mainGlobals "SMALL_A" = some (some (.int 97 t5)))
    (z6 : PySem.W.nsIn K mainGlobals "LETTERS" = some (some (.int 26 t6)))
    (z7 : PySem.W.nsIn K mainGlobals "ZERO" = some (some (.int 48 t7)))
    (z8 : PySem.W.nsIn K mainGlobals "DIGITS" = some (some (.int 10 t8)))
    (z9 : PySem.W.nsIn K mainGlobals "FEWEST_LETTERS" = some (some (.int 2 t9)))
    (z10 : PySem.W.nsIn K mainGlobals "MOST_LETTERS" = some (some (.int 12 t10)))
    (z11 : PySem.W.nsIn K mainGlobals "MOST_COUNTED" = some (some (.int 9 t11)))
    (z12 : PySem.W.nsIn K mainGlobals "MOST_WORDS" = some (some (.int 40 t12)))
    (z13 : PySem.W.nsIn K mainGlobals "TOO_LONG" = some (some (.int (-22) t13)))
    (z14 : PySem.W.nsIn K mainGlobals "MOST_BYTES" = some (some (.int 2000 t14)))
    (nlen : PySem.W.nsIn K mainGlobals "len" = some none) (nmin : PySem.W.nsIn K mainGlobals "min" = some none) (nall : PySem.W.nsIn K mainGlobals "all" = some none) (nint : PySem.W.nsIn K mainGlobals "int" = some none) :
    ∃ fd : FuncData, (∀ (s : Shared) (us : List Value), us.length = (["text", "word"] : List Str).length → BindsTo s fd ⟨us, []⟩ ((["text", "word"] : List Str).zip us)) ∧ ∀ base : Heap, K.In base → base.Ns mainGlobals mg → FnOk P w K mg base CX0 6 fa fd ["text", "word"] (spMain K) := by
  have e := hfa.symm.trans (PySem.W.mg_of X G a15)
  cases e
  have T : Txt mg := ⟨⟨_, PySem.W.mg_of X G z1⟩, ⟨_, PySem.W.mg_of X G z2⟩, ⟨_, PySem.W.mg_of X G z3⟩, ⟨_, PySem.W.mg_of X G z4⟩, ⟨_, PySem.W.mg_of X G z5⟩, ⟨_, PySem.W.mg_of X G z6⟩, ⟨_, PySem.W.mg_of X G z7⟩, ⟨_, PySem.W.mg_of X G z8⟩, ⟨_, PySem.W.mg_of X G z9⟩, ⟨_, PySem.W.mg_of X G z10⟩, ⟨_, PySem.W.mg_of X G z11⟩, ⟨_, PySem.W.mg_of X G z12⟩, ⟨_, PySem.W.mg_of X G z13⟩, ⟨_, PySem.W.mg_of X G z14⟩, PySem.W.mg_none_of X G nlen, PySem.W.mg_none_of X G nmin⟩
  have mAll := PySem.W.mg_none_of X G nall
  have mInt := PySem.W.mg_none_of X G nint
  have F1 := fun_mk (st := sLarge) l1 c1 k1
  have b1 := F1.binds (ps := ["byte"]) fun _ _ _ _ _ _ us hl => match us, hl with | [_], _ => rfl
  have F2 := fun_mk (st := sSmall) l2 c2 k2
  have b2 := F2.binds (ps := ["byte"]) fun _ _ _ _ _ _ us hl => match us, hl with | [_], _ => rfl
  have F3 := fun_mk (st := sDigit) l3 c3 k3
  have b3 := F3.binds (ps := ["byte"]) fun _ _ _ _ _ _ us hl => match us, hl with | [_], _ => rfl
  have F4 := fun_mk (st := sSort) l4 c4 k4
  have b4 := F4.binds (ps := ["byte"]) fun _ _ _ _ _ _ us hl => match us, hl with | [_], _ => rfl
  have F5 := fun_mk (st := sLower) l5 c5 k5
  have b5 := F5.binds (ps := ["byte"]) fun _ _ _ _ _ _ us hl => match us, hl with | [_], _ => rfl
  have F6 := fun_mk (st := sRuns) l6 c6 k6
  have b6 := F6.binds (ps := ["text"]) fun _ _ _ _ _ _ us hl => match us, hl with | [_], _ => rfl
  have F7 := fun_mk (st := sLetters) l7 c7 k7
  have b7 := F7.binds (ps := ["run"]) fun _ _ _ _ _ _ us hl => match us, hl with | [_], _ => rfl
  have F8 := fun_mk (st := sDigits) l8 c8 k8
  have b8 := F8.binds (ps := ["run"]) fun _ _ _ _ _ _ us hl => match us, hl with | [_], _ => rfl
  have F9 := fun_mk (st := sWord) l9 c9 k9
  have b9 := F9.binds (ps := ["run"]) fun _ _ _ _ _ _ us hl => match us, hl with | [_], _ => rfl
  have F10 := fun_mk (st := sOnce) l10 c10 k10
  have b10 := F10.binds (ps := ["some"]) fun _ _ _ _ _ _ us hl => match us, hl with | [_], _ => rfl
  have F11 := fun_mk (st := sWords) l11 c11 k11
  have b11 := F11.binds (ps := ["text"]) fun _ _ _ _ _ _ us hl => match us, hl with | [_], _ => rfl
  have F12 := fun_mk (st := sCount) l12 c12 k12
  have b12 := F12.binds (ps := ["word"]) fun _ _ _ _ _ _ us hl => match us, hl with | [_], _ => rfl
  have F13 := fun_mk (st := sIsWord) l13 c13 k13
  have b13 := F13.binds (ps := ["word"]) fun _ _ _ _ _ _ us hl => match us, hl with | [_], _ => rfl
  have F14 := fun_mk (st := sText) l14 c14 k14
  have b14 := F14.binds (ps := ["text"]) fun _ _ _ _ _ _ us hl => match us, hl with | [_], _ => rfl
  have F15 := fun_mk (st := sMain) l15 c15 k15
  refine ⟨PySem.W.fnOf "has" "has" (defArgs sMain) (defBody sMain) (defScope sMain) .none kV15 dc15 pm15 an15 cd15 ct15, fun s us hu => match us, hu with | [_, _], _ => .of_eq rfl, fun base _ _ => ?_⟩
  have H_is_large : Has P w K mg base 1 "is_large" ["byte"] (spB isLarge) := ⟨_, _, ok_large F1 T, PySem.W.mg_of X G a1, k1, b1⟩
  have H_is_small : Has P w K mg base 1 "is_small" ["byte"] (spB isSmall) := ⟨_, _, ok_small F2 T, PySem.W.mg_of X G a2, k2, b2⟩
  have H_is_digit : Has P w K mg base 1 "is_digit" ["byte"] (spB isDigit) := ⟨_, _, ok_digit F3 T, PySem.W.mg_of X G a3, k3, b3⟩
  have H_sort_of : Has P w K mg base 2 "sort_of" ["byte"] (spI sortOf) := ⟨_, _, ok_sort F4 T H_is_large H_is_small H_is_digit, PySem.W.mg_of X G a4, k4, b4⟩
  have H_small : Has P w K mg base 2 "small" ["byte"] (spI small) := ⟨_, _, ok_lower F5 T H_is_large, PySem.W.mg_of X G a5, k5, b5⟩
  have H_runs_of : Has P w K mg base 3 "runs_of" ["text"] (spRows K runsOf) := ⟨_, _, ok_runs F6 H_sort_of, PySem.W.mg_of X G a6, k6, b6⟩
  have H_word_of_letters : Has P w K mg base 3 "word_of_letters" ["run"] (spRow K lettersOf) := ⟨_, _, ok_letters F7 T H_small, PySem.W.mg_of X G a7, k7, b7⟩
  have H_word_of_digits : Has P w K mg base 1 "word_of_digits" ["run"] (spRow K digitsOf) := ⟨_, _, ok_digits F8 T, PySem.W.mg_of X G a8, k8, b8⟩
  have H_word_of : Has P w K mg base 4 "word_of" ["run"] (spRow K wordOf) := ⟨_, _, ok_word F9 T H_sort_of H_word_of_letters H_word_of_digits, PySem.W.mg_of X G a9, k9, b9⟩
  have H_once : Has P w K mg base 1 "once" ["some"] (spOnce) := ⟨_, _, ok_once F10, PySem.W.mg_of X G a10, k10, b10⟩
  have H_words_of : Has P w K mg base 5 "words_of" ["text"] (spRows K wordsOf) := ⟨_, _, ok_wordsOf F11 T H_runs_of H_word_of H_once, PySem.W.mg_of X G a11, k11, b11⟩
  have H_is_count : Has P w K mg base 2 "is_count" ["word"] (spTest K isCount) := ⟨_, _, ok_count F12 T H_is_digit, PySem.W.mg_of X G a12, k12, b12⟩
  have H_is_word : Has P w K mg base 3 "is_word" ["word"] (spTest K isWord) := ⟨_, _, ok_isWord F13 T mAll H_is_small H_is_count, PySem.W.mg_of X G a13, k13, b13⟩
  have H_is_text : Has P w K mg base 1 "is_text" ["text"] (spTest K isText) := ⟨_, _, ok_text F14 T, PySem.W.mg_of X G a14, k14, b14⟩
  exact ok_main F15 T mInt H_is_text H_is_word H_words_of
end LW
open PySem PySem.W PyProof.Rows
set_option maxRecDepth 100000 in
set_option maxHeartbeats 0 in
theorem PySem.Challenge.cw_letterwords_s03_has_holds : PySem.Challenge.rw_letterwords_s03_has.Holds := by
  w_on; k_headS; (case hw => exact ⟨[.list [], .list []], by decide +kernel, by decide +kernel⟩)
  k_fillS
  refine L2.walk_specK (r := PySem.Challenge.rw_letterwords_s03_has) (k := 6) (CX := L2.CX0) (ps := ["text", "word"]) (sp := LW.spMain) (by decide +kernel) rfl rfl ⟨rfl, by decide, by decide⟩ (fun w h Y => PySem.W.kIn_of Y) ?F ?S (fun _ _ _ _ z => z)
  case F =>
    intro w mg fa h Y KX G hmg
    refine' LW.all_mk KX G hmg ?a1 ?l1 ?c1 ?k1 ?a2 ?l2 ?c2 ?k2 ?a3 ?l3 ?c3 ?k3 ?a4 ?l4 ?c4 ?k4 ?a5 ?l5 ?c5 ?k5 ?a6 ?l6 ?c6 ?k6 ?a7 ?l7 ?c7 ?k7 ?a8 ?l8 ?c8 ?k8 ?a9 ?l9 ?c9 ?k9 ?a10 ?l10 ?c10 ?k10 ?a11 ?l11 ?c11 ?k11 ?a12 ?l12 ?c12 ?k12 ?a13 ?l13 ?c13 ?k13 ?a14 ?l14 ?c14 ?k14 ?a15 ?l15 ?c15 ?k15 ?z1 ?z2 ?z3 ?z4 ?z5 ?z6 ?z7 ?z8 ?z9 ?z10 ?z11 ?z12 ?z13 ?z14 ?nlen ?nmin ?nall ?nint
    (case a1 => k_is); (case l1 => k_is); (case c1 => k_is); (case k1 => k_is); (case a2 => k_is); (case l2 => k_is); (case c2 => k_is); (case k2 => k_is)
    (case a3 => k_is); (case l3 => k_is); (case c3 => k_is); (case k3 => k_is); (case a4 => k_is); (case l4 => k_is); (case c4 => k_is); (case k4 => k_is)
    (case a5 => k_is); (case l5 => k_is); (case c5 => k_is); (case k5 => k_is); (case a6 => k_is); (case l6 => k_is); (case c6 => k_is); (case k6 => k_is)
    (case a7 => k_is); (case l7 => k_is); (case c7 => k_is); (case k7 => k_is); (case a8 => k_is); (case l8 => k_is); (case c8 => k_is); (case k8 => k_is)
    (case a9 => k_is); (case l9 => k_is); (case c9 => k_is); (case k9 => k_is); (case a10 => k_is); (case l10 => k_is); (case c10 => k_is); (case k10 => k_is)
    (case a11 => k_is); (case l11 => k_is); (case c11 => k_is); (case k11 => k_is); (case a12 => k_is); (case l12 => k_is); (case c12 => k_is); (case k12 => k_is)
    (case a13 => k_is); (case l13 => k_is); (case c13 => k_is); (case k13 => k_is); (case a14 => k_is); (case l14 => k_is); (case c14 => k_is); (case k14 => k_is)
    (case a15 => k_is); (case l15 => k_is); (case c15 => k_is); (case k15 => k_is); (case z1 => k_is); (case z2 => k_is); (case z3 => k_is); (case z4 => k_is)
    (case z5 => k_is); (case z6 => k_is); (case z7 => k_is); (case z8 => k_is); (case z9 => k_is); (case z10 => k_is); (case z11 => k_is); (case z12 => k_is)
    (case z13 => k_is); (case z14 => k_is); (case nlen => k_is); (case nmin => k_is); (case nall => k_is); (case nint => k_is)
  case S =>
    intro K H xs a hO hwi hask hx
    cases hx with
    | cons h1 h2 =>
      cases h2 with
      | cons h2 h3 =>
        cases h3
        cases h1 with
        | lst hs ha =>
          cases h2 with
          | lst hs2 ha2 =>
            have e := L2.ints_dw a.1 _ ha
            have e2 := L2.ints_dw a.2.1 _ ha2
            subst e
            subst e2
            have q : ((Codec.inLen 0 2010 a.1 && a.1.all (Codec.inInt 0 255)) && ((Codec.inLen 0 20 a.2.1 && a.2.1.all (Codec.inInt 0 255)) && true)) = true := hwi
            rw [Bool.and_eq_true, Bool.and_eq_true, Bool.and_eq_true, Bool.and_eq_true] at q
            have bytes : ∀ l : List Int, l.all (Codec.inInt 0 255) = true → ∀ x ∈ l, 0 ≤ x ∧ x ≤ 255 := fun l hl x hx => by
              have h := List.all_eq_true.mp hl x hx
              unfold Codec.inInt at h
              rw [Bool.and_eq_true] at h
              exact ⟨of_decide_eq_true h.1, of_decide_eq_true h.2⟩
            refine ⟨_, _, a.1, a.2.1, rfl, hs, (Codec.inNat_iff.mp q.1.1).2, hs2, (Codec.inNat_iff.mp q.2.1.1).2, fun H' p hp => ?_⟩
            have due := LW.has_due (bytes _ q.1.2) (bytes _ q.2.1.2)
            rw [← due] at hp
            exact .lst (L2.SqL.of hp) (L2.dw_ints _)
#print axioms PySem.Challenge.cw_letterwords_s03_has_holds
